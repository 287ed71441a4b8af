/-
  Programs that are parsed: their names are of bytes; they are read as programs that a call is handed.
-/
import Derived.Test.YtaomhhkflohhgaaGreatDoorMgRpE
import Derived.Test.YtaomhhkflohhgaaGreatDoorMgPud
set_option linter.unusedSectionVars false
set_option linter.unusedSimpArgs false
set_option linter.unusedVariables false
namespace Go.Proofs.YtaomhhkflohhgaaGreatDoor
open Go Go.RowKit
section
variable {h:Hp}

def P4(l:List Dc):Prop:= ∀d∈l,Bytes d.name
def eb(p:Pd):Prop:=Bytes p.name∧P4 p.params
def en(g:Pg):Prop:=P4 g.decls∧ ∀p∈g.preds,eb p
theorem P4.snoc{l:List Dc}{d:Dc}(h:P4 l)(hd:Bytes d.name):P4 (l++[d]):=fun x hx=>by
 rcases List.mem_append.1 hx with hx|hx
 ·exact h x hx
 ·rw[List.mem_singleton.1 hx];exact hd
section
variable {L:List Tk} (hO:Y2 L)
include hO
theorem DR(o:Int): ∀f S l,P4 l→P4 (YI L o f S l).2
 |0,S,l,h=>by rw[YI];exact h
 |f+1,S,l,h=>by
  have h2:P4 (l++[⟨(QG L S).s,o,(QG L S).a⟩]):=h.snoc (Qf hO S);rw[YI]
  split
  ·exact h
  split
  ·exact DR o f _ _ h2
  ·exact h2
theorem G8: ∀f S l,P4 l→P4 (YL L f S l).2
 |0,S,l,h=>by rw[YL];exact h
 |f+1,S,l,h=>by
  have h2:P4 (l++[⟨(QG L (Eg L S l.length)).s,QD L S [118,97,114],(QG L (Eg L S l.length)).a⟩]):=h.snoc (Qf hO _);rw[YL]
  split
  ·exact h
  split
  ·exact G8 f _ _ h2
  ·exact h2
theorem jg(S:PS):P4 (Uq L S).2:=by
 unfold Uq
 split
 ·intro d hd;cases hd
 ·exact G8 hO _ _ _ (fun d hd=>by cases hd)
theorem xK(S:PS):eb (JW L S).2:=⟨Qf hO _,jg hO _⟩
theorem vw(S:PS):P4 (UT L S).2:=DR hO _ _ _ _ (fun d hd=>by cases hd)
theorem Nz: ∀f S ds ps,P4 ds→(∀p∈ps,eb p)→P4 (Z0 L f S ds ps).2.1∧ ∀p∈(Z0 L f S ds ps).2.2,eb p
 |0,S,ds,ps,h1,h2=>by rw[Z0];exact⟨h1,h2⟩
 |f+1,S,ds,ps,h1,h2=>by
  rw[Z0]
  split
  ·exact⟨h1,h2⟩
  split
  ·refine Nz f _ _ _ h1 fun p hp=>?_;rcases List.mem_append.1 hp with hp|hp
   ·exact h2 p hp
   ·rw[List.mem_singleton.1 hp];exact xK hO S
  split
  ·refine Nz f _ _ _ (fun d hd=>?_) h2;rcases List.mem_append.1 hd with hd|hd
   ·exact h1 d hd
   ·exact vw hO S d hd
  ·exact⟨h1,h2⟩
theorem jf:en (X6 L).2:=Nz hO _ _ _ _ (fun d hd=>by cases hd) (fun p hp=>by cases hp)
end
theorem jE:en Ds:=⟨(fun d hd=>by cases hd),(fun p hp=>by cases hp)⟩
theorem Sn(l:List Nat):en (UJ l).1:=by
 unfold UJ
 split
 ·exact jE
 ·rename_i h
  split
  ·exact jE
  ·exact jf (RW l Qh).1
theorem QS.eH{X:List Nat}{c m z:Nat}{ls:List (List AV)}(r:Z9 h c m ls.flatten)(hz: ∀cs∈ls,cs.length=z)(hX:c∉X)(hb:(ls.length:Int)≤9223372036854775807):QS h X z ls (.sl c m 0 ls.length z):=
 ⟨rfl,hb,rfl,fun i cs hi=>⟨c,m,0,_,rfl,hX,r,hz cs (List.mem_of_getElem? hi),by rw[Nat.zero_add];exact ER i cs hz hi⟩,fun c' m' off n z' e=>by
  injection e with e1 e2 e3 e4 e5
  subst e1 e2 e3 e4 e5
  exact⟨hX,_,r,by rw[Zs hz];omega⟩⟩
theorem Acc.eV{n0 z:Nat}{A:JJ}{ks:AV}{ls:List (List AV)}{R:Xh}(hA:Acc n0 z A ks ls)(hx: ∀x∈A,R x.1 x.2.1 x.2.2)(hR:ZM R h):QS h [] z ls ks:=by
 cases hA with
 |none=>exact .nil _ _ _
 |own hc hz hb=>exact QS.eH (hR _ _ _ (hx _ (List.mem_singleton.2 rfl))) hz Q3 Qh
theorem xo{n0:Nat}{A:JJ}{ks:AV}{l:List Dc}{R:Xh}(hA:Acc n0 3 A ks (l.map Dc.cells))(hx: ∀x∈A,R x.1 x.2.1 x.2.2)(hR:ZM R h)(hb:P4 l):Xi h l ks (l.map Dc.cells):=
 ⟨hA.eV hx hR,List.length_map _,fun i k hk=>⟨k.cells,by rw[List.getElem?_map,hk];rfl,rfl,hb k (List.mem_of_getElem? hk)⟩⟩
theorem xu(h:Hp):ZM R0 h:=fun _ _ _ h=>h.elim
end
section
variable {R:Xh} {a m n z:Int} {i:Nat} {k:Nd} {l:List Nd} {o s:List Nat}

abbrev Ss:List Nat:=[99,97,108,108]
noncomputable section
def We(ps:List Pd)(s:List Nat)(l:List Nd):Nd:=match ps.find? (fun p=>decide (p.name=s))with
 |some p=>Yo Zm p.body (p.params.map Dc.name) l
 |none=>YT
mutual
def Jq(ps:List Pd):Nd→Int→(Nd×Bool)×Int
 |.mk o s z a l,n=>
  if o=Ss then((We ps s l,decide (0≤n-min ((Uj (We ps s l):Nat):Int) 2001)),n-min ((Uj (We ps s l):Nat):Int) 2001)
  else if n-1<0 then((YT,false),n-1)
  else if(Yb ps l (n-1)).1.2=true then((.mk o s z a (Yb ps l (n-1)).1.1,true),(Yb ps l (n-1)).2)else((YT,false),(Yb ps l (n-1)).2)
def Yb(ps:List Pd):List Nd→Int→(List Nd×Bool)×Int
 |[],n=>(([],true),n)
 |k::l,n=>
  if(Jq ps k n).1.2=true then(((Jq ps k n).1.1::(Yb ps l (Jq ps k n).2).1.1,(Yb ps l (Jq ps k n).2).1.2),(Yb ps l (Jq ps k n).2).2)
  else(([],false),(Jq ps k n).2)
end
def VI:List Pd→List Pd→Option (List Pd)
 |qs,[]=>some qs
 |qs,p::l=>if(Jq qs p.body 2000).1.2=true then VI (qs++[⟨p.name,p.params,(Jq qs p.body 2000).1.1,p.at_⟩]) l else none
end
def U3:Nd→List Nd
 |.mk o s z a l=>if o=Ss then [.mk o s z a l]else callsInL l
where callsInL:List Nd→List Nd
 |[]=>[]
 |k::l=>U3 k++callsInL l
theorem Pb(ho: ¬o=Ss){y:Nd}(hk:k∈l)(hy:y∈U3 k):y∈U3 (.mk o s z a l):=by
 rw[U3,if_neg ho]
 induction l with
 |nil=>cases hk
 |cons x l ih=>
  rw[U3.callsInL];rcases List.mem_cons.1 hk with rfl|hk
  ·exact List.mem_append_left _ hy
  ·exact List.mem_append_right _ (ih hk)
def KH(C:Int)(B:Nat)(ps:List Pd):Nd→Prop
 |.mk _ s _ _ l=> ∃p,ps.find? (fun p=>decide (p.name=s))=some p∧okB C p.body=true∧Gk C B (Uj p.body) l∧p.params.length≤1000
def yx(R:Xh)(p:Pd)(cs:List AV):Prop:= ∃kd ld bc,cs=.str p.name::kd::(bc++[.int .i64 p.at_])∧(∀h,ZM R h→Xi h p.params kd ld)∧Uo R p.body bc∧Bytes p.name
theorem yx.open{pn:List Nat}{pp:List Dc}{pa:Int}{cs:List AV}(H:yx R ⟨pn,pp,.mk o s z a l,pa⟩ cs): ∃kd ld kk ls,cs=[.str pn,kd,.str o,.str s,.int .i64 z,.int .i64 a,kk,.int .i64 pa]∧(∀h,ZM R h→Xi h pp kd ld)∧
  Uo R (.mk o s z a l) [.str o,.str s,.int .i64 z,.int .i64 a,kk]∧UO R l kk ls∧(Bytes o∧Bytes s)∧Bytes pn:=by
 obtain⟨kd,ld,bc,rfl,hD,hW,hb⟩:=H;have h0:Uo R (.mk o s z a l) bc:=hW;obtain⟨kk,ls,rfl,K,hb2⟩:=h0.Jn;exact⟨kd,ld,kk,ls,rfl,hD,hW,K,hb2,hb⟩
theorem yx.toR{p:Pd}{cs:List AV}(H:yx R p cs){h:Hp}(hR:ZM R h):MY h p cs:=by
 obtain⟨pn,pp,⟨o,s,z,a,l⟩,pa⟩:=p;obtain⟨kd,ld,kk,ls,rfl,hD,hW,_,_,hb⟩:=H.open;exact⟨kd,ld,o,s,z,a,kk,rfl,hD h hR,hW.AP hR,hb⟩
theorem yx.mono{R R':Xh}(hl: ∀c m l,R c m l→R' c m l){p:Pd}{cs:List AV}(H:yx R p cs):yx R' p cs:=by
 obtain⟨kd,ld,bc,e,hD,hW,hb⟩:=H;exact⟨kd,ld,bc,e,fun h hi=>hD h fun c m l hr=>hi c m l (hl c m l hr),hW.mono hl,hb⟩
structure zY(Q R:Xh)(ps:List Pd)(kp:AV)(lsp:List (List AV)):Prop where
 r: ∀h,ZM Q h→QS h [] 8 lsp kp
 ln:lsp.length=ps.length
 p: ∀(i:Nat) (p:Pd),ps[i]? =some p→ ∃cs,lsp[i]? =some cs∧yx R p cs
theorem zY.toR{Q R:Xh}{h:Hp}{ps:List Pd}{kp:AV}{lsp:List (List AV)}(H:zY Q R ps kp lsp)(hQ:ZM Q h)(hR:ZM R h):I9 h ps kp lsp:=
 ⟨H.r h hQ,H.ln,fun i p hi=>by obtain⟨cs,h1,h2⟩:=H.p i p hi;exact⟨cs,h1,h2.toR hR⟩⟩
theorem O0{ps:List Pd}{p:Pd}(h:ps.find? (fun p=>decide (p.name=s))=some p)(l:List Nd):We ps s l=Yo Zm p.body (p.params.map Dc.name) l:=by unfold We;rw[h]
def BN(dn:List Nd)(r:(List Nd×Bool)×Int):(List Nd×Bool)×Int:=((dn++r.1.1,r.1.2),r.2)
theorem uA{ps:List Pd}(dn:List Nd)(h:l[i]? =some k)(hk:(Jq ps k m).1.2=true):BN dn (Yb ps (l.drop i) m)=BN (dn++[(Jq ps k m).1.1]) (Yb ps (l.drop (i+1)) (Jq ps k m).2):=by
 obtain⟨h1,h2⟩:=List.getElem?_eq_some_iff.1 h;rw[List.drop_eq_getElem_cons h1,Yb,h2,if_pos hk];simp[BN]
theorem zA{ps:List Pd}(dn:List Nd)(h:l[i]? =some k)(hk:(Jq ps k m).1.2=false):(BN dn (Yb ps (l.drop i) m)).1.2=false∧(BN dn (Yb ps (l.drop i) m)).2=(Jq ps k m).2:=by
 obtain⟨h1,h2⟩:=List.getElem?_eq_some_iff.1 h;rw[List.drop_eq_getElem_cons h1,Yb,h2,if_neg (by rw[hk];decide)];exact⟨rfl,rfl⟩
theorem uB{ps:List Pd}(dn:List Nd)(h:l.length≤i):BN dn (Yb ps (l.drop i) m)=((dn,true),m):=by
 rw[List.drop_eq_nil_of_le h,Yb];simp[BN]
theorem Bb{ps:List Pd}:Jq ps (.mk [99,97,108,108] s z a l) n=((We ps s l,decide (0≤n-min ((Uj (We ps s l):Nat):Int) 2001)),n-min ((Uj (We ps s l):Nat):Int) 2001):=by rw[Jq,if_pos rfl]
theorem M6{ps:List Pd}(ho: ¬o=[99,97,108,108])(hn:n-1<0):Jq ps (.mk o s z a l) n=((YT,false),n-1):=by rw[Jq,if_neg ho,if_pos hn]
theorem u9{ps:List Pd}{dn:List Nd}(ho: ¬o=[99,97,108,108])(hn: ¬n-1<0)(h:Yb ps l (n-1)=((dn,true),m)):Jq ps (.mk o s z a l) n=((.mk o s z a dn,true),m):=by rw[Jq,if_neg ho,if_neg hn,h,if_pos rfl]
theorem z8{ps:List Pd}(ho: ¬o=[99,97,108,108])(hn: ¬n-1<0)(h:(Yb ps l (n-1)).1.2=false)(hm:(Yb ps l (n-1)).2=m):Jq ps (.mk o s z a l) n=((YT,false),m):=by rw[Jq,if_neg ho,if_neg hn,if_neg (by rw[h];decide),hm]
mutual
theorem FZ(ps:List Pd): ∀(x:Nd) (n:Int),0≤n→(Jq ps x n).2≤n∧ -2001≤(Jq ps x n).2∧((Jq ps x n).1.2=true→0≤(Jq ps x n).2)
 |.mk o s z a l,n,h=>by
  by_cases ho:o=Ss
  ·rw[Jq,if_pos ho];refine⟨?_,?_,fun hd=>of_decide_eq_true hd⟩
   ·show n-min _ 2001≤n;omega
   ·show-2001≤n-min _ 2001;omega
  ·by_cases hn:n-1<0
   ·rw[Jq,if_neg ho,if_pos hn];refine⟨?_,?_,fun hd=>by cases hd⟩
    ·show n-1≤n;omega
    ·show-2001≤n-1;omega
   ·have hl:=Bc ps l (n-1) Qh
    by_cases hb:(Yb ps l (n-1)).1.2=true
    ·rw[Jq,if_neg ho,if_neg hn,if_pos hb];refine⟨?_,hl.2.1,fun _=>hl.2.2 hb⟩;have:=hl.1;show(Yb ps l (n-1)).2≤n;omega
    ·rw[Jq,if_neg ho,if_neg hn,if_neg hb];refine⟨?_,hl.2.1,fun hd=>by cases hd⟩;have:=hl.1;show(Yb ps l (n-1)).2≤n;omega
theorem Bc(ps:List Pd): ∀(l:List Nd) (n:Int),0≤n→(Yb ps l n).2≤n∧ -2001≤(Yb ps l n).2∧((Yb ps l n).1.2=true→0≤(Yb ps l n).2)
 |[],n,h=>by
  rw[Yb];refine⟨?_,?_,fun _=>h⟩
  ·show n≤n;omega
  ·show-2001≤n;omega
 |k::l,n,h=>by
  have hk:=FZ ps k n h
  by_cases hb:(Jq ps k n).1.2=true
  ·have hl:=Bc ps l (Jq ps k n).2 (hk.2.2 hb);rw[Yb,if_pos hb];refine⟨?_,hl.2.1,hl.2.2⟩;have:=hl.1;have:=hk.1;show(Yb ps l (Jq ps k n).2).2≤n;omega
  ·rw[Yb,if_neg hb];exact⟨hk.1,hk.2.1,fun hd=>by cases hd⟩
end
theorem Mem.D5{h0:Hp}{n0:Nat}{X:List Nat}{st:St}{M:JJ}(h:Mem h0 n0 X st M)(hR:Proofs.YtaomhhkflohhgaaGreatDoor.ZM R h0)(hX: ∀c m l,R c m l→c∉X):Proofs.YtaomhhkflohhgaaGreatDoor.ZM R st.h.get:=fun c m l hr=>by
 obtain⟨ro,e,vs,ms,h1,h2⟩:=hR c m l hr
 have hc:c<n0:=by
  by_cases hc:c<n0
  ·exact hc
  ·rw[h.base c Qh]at h1;cases h1
 exact⟨ro,e,vs,ms,by rw[h.old c hc (hX c m l hr)];exact h1,h2⟩
theorem Mem.wF{h0:Hp}{n0:Nat}{X:List Nat}{st:St}{M B:JJ}(h:Mem h0 n0 X st M)(hR:Proofs.YtaomhhkflohhgaaGreatDoor.ZM R h0)(hX: ∀c m l,R c m l→c∉X)(hB: ∀x∈B,x∈M):Proofs.YtaomhhkflohhgaaGreatDoor.ZM (JX R B) st.h.get:=fun c m l hr=>hr.elim (fun x=>h.D5 hR hX c m l x) fun x=>Jj.YQ (h.row c m l (hB _ x))
end
section
variable {a n:Int} {kids:List Nd} {op s:List Nat} {x:Nd}

theorem FW(h:Vb s=true):s.length≤2000:=by
 unfold Vb at h;rw[Bool.and_eq_true]at h;have h1:=of_decide_eq_true h.1;unfold tokens at h1
 split at h1
 ·cases h1
 ·rename_i hs;rw[Jm]at hs;omega
theorem GC{name:List Nat}(h:xj (.mk op name n a kids)):name.length≤2000∧0≤n∧n≤99:=by
 have hbare: ∀m,J4 name n kids m=true→name.length≤2000∧0≤n∧n≤99:=fun m hb=>by
  simp only[J4,Bool.and_eq_true,decide_eq_true_eq]at hb;obtain⟨h1,h2,_⟩:=hb;subst h1 h2;exact⟨Nat.zero_le _,by omega,by omega⟩
 rcases h with h|h
 ·rw[J7]at h
  split at h
  ·exact hbare _ h
  ·split at h
   ·rw[Bool.and_eq_true]at h;exact hbare _ h.1
   ·split at h
    ·rw[Bool.and_eq_true]at h;exact hbare _ h.1
    ·split at h
     ·simp only[Bool.and_eq_true,decide_eq_true_eq]at h;exact⟨FW h.1,h.2.1,by omega⟩
     ·split at h
      ·simp only[Bool.and_eq_true,decide_eq_true_eq]at h;exact⟨FW h.1,by omega,by omega⟩
      ·split at h
       ·rw[Bool.and_eq_true]at h;exact hbare _ h.1
       ·split at h
        ·simp only[Bool.and_eq_true,decide_eq_true_eq]at h;exact⟨FW h.1,by omega,by omega⟩
        ·cases h
 ·rw[J6]at h
  split at h
  ·simp only[Bool.and_eq_true,decide_eq_true_eq]at h;exact⟨FW h.1,by omega,by omega⟩
  ·split at h
   ·simp only[Bool.and_eq_true,decide_eq_true_eq]at h;exact⟨by rw[h.1];exact Nat.zero_le _,by omega,by omega⟩
   ·split at h
    ·simp only[Bool.and_eq_true,decide_eq_true_eq]at h;exact⟨by rw[h.1];exact Nat.zero_le _,by omega,by omega⟩
    ·split at h
     ·simp only[Bool.and_eq_true,decide_eq_true_eq]at h;exact⟨by rw[h.1];exact Nat.zero_le _,by omega,by omega⟩
     ·split at h
      ·rw[Bool.and_eq_true]at h;exact hbare _ h.1
      ·cases h
theorem IX{C C':Int}(h:C≤C')(x:Nd):okB C x=true→okB C' x=true:=by
 refine Uz (M:=fun x=>okB C x=true→okB C' x=true) (fun op name n a kids ih hx=>?_) x;rw[BT]at hx ⊢;simp only[Bool.and_eq_true,decide_eq_true_eq,List.all_eq_true]at hx ⊢;exact⟨by omega,hx.2.1,by omega,hx.2.2.2.1,fun k hk=>ih k hk (hx.2.2.2.2 k hk)⟩
theorem Ar{C:Int}{name:List Nat}(h1:((name.length:Nat):Int)≤1000 *C)(h2:0≤n)(h3:Yp (.mk op name n a kids)≤C)(h4:(op=[101,120]∨op=[97,108,108])→kids.length=1)(h5: ∀k∈kids,okB C k=true):okB C (.mk op name n a kids)=true:=by
 rw[BT];simp only[Bool.and_eq_true,decide_eq_true_eq,List.all_eq_true];refine⟨h1,h2,h3,?_,h5⟩
 by_cases hb:op=[101,120]∨op=[97,108,108]
 ·rw[h4 hb];simp
 ·have:(decide (op=[101,120])||decide (op=[97,108,108]))=false:=by
   rw[Bool.or_eq_false_iff];exact⟨decide_eq_false fun e=>hb (.inl e),decide_eq_false fun e=>hb (.inr e)⟩
  rw[this];rfl
theorem BS(x:Nd):xj x→okB 200 x=true:=by
 refine Uz (M:=fun x=>xj x→okB 200 x=true) (fun op name n a kids ih h=>?_) x;obtain⟨h1,h2,h3⟩:=GC h;refine Ar Qh h2 ?_ (fun hb=>by obtain⟨k,rfl⟩:=jv h hb;rfl) (fun k hk=>ih k hk (ju h k hk))
 by_cases hp:op=[112,108,117,115]
 ·subst hp;rcases h with h|h
  ·exact(NU h).elim
  ·obtain⟨k,rfl,hk,ht⟩:=PG h rfl;obtain⟨o',s',z',a',l'⟩:=k;have hk:o'=[118,97,114]:=hk;rw[Zp,if_pos rfl,UE (.inl (by rw[hk];decide))];have:=(GC (.inr ht)).2.2;omega
 ·rw[UE (.inl hp)];omega
mutual
def WZ:Nd→List (List Nat)
 |.mk _ name _ _ kids=>name::Le kids
def Le:List Nd→List (List Nat)
 |[]=>[]
 |k::l=>WZ k++Le l
end
theorem AG{z:List Nat}: ∀{l:List Nd},z∈Le l↔ ∃k∈l,z∈WZ k:=by
 intro l
 induction l with
 |nil=>simp[Le]
 |cons k l ih=>rw[Le,List.mem_append,ih];simp
def Ac(x:Nd):Prop:= ∀s∈WZ x,Bytes s
theorem Ac.GP{name:List Nat}(h:Ac (.mk op name n a kids)){k:Nd}(hk:k∈kids):Ac k:=fun s hs=>h s (by rw[WZ];exact List.mem_cons_of_mem _ (AG.2 ⟨k,hk,hs⟩))
theorem Ac.name{op name:List Nat}{n a:Int}{kids:List Nd}(h:Ac (.mk op name n a kids)):Bytes name:=h name (by rw[WZ];exact List.mem_cons_self ..)
theorem XE.av{h:Hp}{cs:List AV}(r:XE h x cs):Ac x:=by
 induction r with
 |leaf hs ha hb=>
  intro s hm;rw[WZ,Le]at hm;rw[List.mem_singleton]at hm;subst hm;exact hb.2
 |node hr hn hl hk hb ih=>
  intro s hm;rw[WZ]at hm;rcases List.mem_cons.1 hm with e|hm
  ·subst e;exact hb.2
  ·obtain⟨k,hk',h⟩:=AG.1 hm;obtain⟨i,hi⟩:=List.getElem?_of_mem hk';exact ih i k hi s h
theorem TW(x:Nd): ∀b z,z∈QE x b→z∈WZ x:=by
 refine Uz (M:=fun x=> ∀b z,z∈QE x b→z∈WZ x) (fun op name n a kids ih b z h=>?_) x
 have hk: ∀b,z∈Yq kids b→z∈WZ (.mk op name n a kids):=fun b h=>by
  obtain⟨k,hk,h⟩:=JV.1 h;rw[WZ];exact List.mem_cons_of_mem _ (AG.2 ⟨k,hk,ih k hk b z h⟩)
 rw[QE]at h
 split at h
 ·split at h
  ·cases h
  ·rw[List.mem_singleton]at h;subst h;rw[WZ];exact List.mem_cons_self ..
 ·split at h
  ·exact hk _ h
  ·exact hk _ h
theorem Ac.names(h:Ac x): ∀s∈QE x [],Bytes s:=fun s hs=>h s (TW x [] s hs)
theorem TX(h:Ac x)(z:List Nat):z∈Ud x↔z∈QE x []:=xH h.names z
theorem WJ{ps:List (List Nat×Nd)}:Jt (ps.map Prod.fst) (ps.map Prod.snd) s=(ps.find? fun p=>decide (p.1=s)).map Prod.snd:=by
 induction ps with
 |nil=>rfl
 |cons p ps ih=>
  rw[List.map_cons,List.map_cons,Jt,List.find?_cons,ih]
  by_cases e:p.1=s
  ·rw[if_pos e,decide_eq_true e];rfl
  ·rw[if_neg e,decide_eq_false e]
theorem Mb{ns:List (List Nat)}{ts:List Nd}{but:List Nat}{l:List (List Nat)}:((Xw ns ts but l).find? fun p=>decide (p.1=s)).map Prod.snd=if s∈l∧s≠but then Jt ns ts s else none:=by
 induction l with
 |nil=>rw[if_neg Q3];rfl
 |cons y l ih=>
  rw[N9,List.find?_append]
  by_cases hy:y=but
  ·rw[if_pos hy];show((Xw ns ts but l).find? _).map Prod.snd=_;rw[ih]
   by_cases h:s∈l∧s≠but
   ·rw[if_pos h,if_pos ⟨List.mem_cons_of_mem _ h.1,h.2⟩]
   ·rw[if_neg h,if_neg]
    rintro⟨h1,h2⟩
    rcases List.mem_cons.1 h1 with e|h1
    ·subst e;exact h2 hy
    ·exact h ⟨h1,h2⟩
  ·rw[if_neg hy]
   by_cases e:y=s
   ·subst e;rw[if_pos ⟨List.mem_cons_self ..,hy⟩]
    cases h:Jt ns ts y with
    |some t=>simp
    |none=>
     simp only[List.find?_nil,Option.none_or];rw[ih]
     split
     ·exact h
     ·rfl
   ·have hrest:((Xw ns ts but l).find? fun p=>decide (p.1=s)).map Prod.snd=if s∈y::l∧s≠but then Jt ns ts s else none:=by
     rw[ih]
     by_cases h:s∈l∧s≠but
     ·rw[if_pos h,if_pos ⟨List.mem_cons_of_mem _ h.1,h.2⟩]
     ·rw[if_neg h,if_neg]
      rintro⟨h1,h2⟩
      rcases List.mem_cons.1 h1 with e'|h1
      ·exact e e'.symm
      ·exact h ⟨h1,h2⟩
    rw[←hrest]
    cases Jt ns ts y with
    |some t=>simp[e]
    |none=>simp
end
end Go.Proofs.YtaomhhkflohhgaaGreatDoor
