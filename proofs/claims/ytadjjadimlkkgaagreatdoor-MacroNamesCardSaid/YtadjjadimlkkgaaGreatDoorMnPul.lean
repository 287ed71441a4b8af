/-
  The reference's parser: programs. What is read: 'parseN'.
-/
import Derived.Test.YtadjjadimlkkgaaGreatDoorMnRdH
import Derived.Test.YtadjjadimlkkgaaGreatDoorMnPud
set_option linter.unnecessarySimpa false
set_option linter.unusedSectionVars false
set_option linter.unusedSimpArgs false
set_option linter.unusedVariables false
section
namespace Go.Proofs.YtadjjadimlkkgaaGreatDoor
open Go Go.RowKit
set_option maxHeartbeats 8000000
set_option maxRecDepth 100000

def Y3.tk(t:Y3):Tk:=⟨t.kind,Xg t.text,t.num,t.at'⟩
section
variable {L:List Tk} {S:PS} {k:Nat} {o:Int}
end
end Go.Proofs.YtadjjadimlkkgaaGreatDoor
end
section
namespace Go.Proofs.YtadjjadimlkkgaaGreatDoor
open Go Go.RowKit

abbrev DQ:List Nat:=[99,97,108,108]
noncomputable section
def XG(ps:List Pd)(s:List Nat)(l:List Nd):Nd:=match ps.find? (fun p=>decide (p.name=s))with
 |some p=>Ur UL p.body (p.params.map Dc.name) l
 |none=>Kr
mutual
def QM(ps:List Pd):Nd→Int→(Nd×Bool)×Int
 |.mk o s z a l,n=>
  if o=DQ then((XG ps s l,decide (0≤n-min ((Jz (XG ps s l):Nat):Int) 2001)),n-min ((Jz (XG ps s l):Nat):Int) 2001)
  else if n-1<0 then((Kr,false),n-1)
  else if(Ub ps l (n-1)).1.2=true then((.mk o s z a (Ub ps l (n-1)).1.1,true),(Ub ps l (n-1)).2)else((Kr,false),(Ub ps l (n-1)).2)
def Ub(ps:List Pd):List Nd→Int→(List Nd×Bool)×Int
 |[],n=>(([],true),n)
 |k::l,n=>
  if(QM ps k n).1.2=true then(((QM ps k n).1.1::(Ub ps l (QM ps k n).2).1.1,(Ub ps l (QM ps k n).2).1.2),(Ub ps l (QM ps k n).2).2)
  else(([],false),(QM ps k n).2)
end
def ZY:List Pd→List Pd→Option (List Pd)
 |qs,[]=>some qs
 |qs,p::l=>if(QM qs p.body 2000).1.2=true then ZY (qs++[⟨p.name,p.params,(QM qs p.body 2000).1.1,p.at_⟩]) l else none
end
def JE:Nd→List Nd
 |.mk o s z a l=>if o=DQ then [.mk o s z a l]else callsInL l
where callsInL:List Nd→List Nd
 |[]=>[]
 |k::l=>JE k++callsInL l
theorem BL{o s:List Nat}{z a:Int}{l:List Nd}(ho: ¬o=DQ){k y:Nd}(hk:k∈l)(hy:y∈JE k):y∈JE (.mk o s z a l):=by
 rw[JE,if_neg ho]
 induction l with
 |nil=>cases hk
 |cons x l ih=>
  rw[JE.callsInL];rcases List.mem_cons.1 hk with rfl|hk
  ·exact List.mem_append_left _ hy
  ·exact List.mem_append_right _ (ih hk)
def Hc(C:Int)(B:Nat)(ps:List Pd):Nd→Prop
 |.mk _ s _ _ l=> ∃p,ps.find? (fun p=>decide (p.name=s))=some p∧okB C p.body=true∧LI C B (Jz p.body) l∧p.params.length≤1000
def qE(R:Y4)(p:Pd)(cs:List AV):Prop:= ∃kd ld bc,cs=.str p.name::kd::(bc++[.int .i64 p.at_])∧(∀h,YM R h→Y1 h p.params kd ld)∧Zj R p.body bc∧Bytes p.name
theorem qE.open{R:Y4}{pn:List Nat}{pp:List Dc}{o s:List Nat}{z a pa:Int}{l:List Nd}{cs:List AV}(H:qE R ⟨pn,pp,.mk o s z a l,pa⟩ cs): ∃kd ld kk ls,cs=[.str pn,kd,.str o,.str s,.int .i64 z,.int .i64 a,kk,.int .i64 pa]∧(∀h,YM R h→Y1 h pp kd ld)∧
  Zj R (.mk o s z a l) [.str o,.str s,.int .i64 z,.int .i64 a,kk]∧Ug R l kk ls∧(Bytes o∧Bytes s)∧Bytes pn:=by
 obtain⟨kd,ld,bc,rfl,hD,hW,hb⟩:=H;have h0:Zj R (.mk o s z a l) bc:=hW;obtain⟨kk,ls,rfl,K,hb2⟩:=h0.QJ;exact⟨kd,ld,kk,ls,rfl,hD,hW,K,hb2,hb⟩
theorem qE.toR{R:Y4}{p:Pd}{cs:List AV}(H:qE R p cs){h:Hp}(hR:YM R h):Cm h p cs:=by
 obtain⟨pn,pp,⟨o,s,z,a,l⟩,pa⟩:=p;obtain⟨kd,ld,kk,ls,rfl,hD,hW,_,_,hb⟩:=H.open;exact⟨kd,ld,o,s,z,a,kk,rfl,hD h hR,hW.El hR,hb⟩
theorem qE.mono{R R':Y4}(hl: ∀c m l,R c m l→R' c m l){p:Pd}{cs:List AV}(H:qE R p cs):qE R' p cs:=by
 obtain⟨kd,ld,bc,e,hD,hW,hb⟩:=H;exact⟨kd,ld,bc,e,fun h hi=>hD h fun c m l hr=>hi c m l (hl c m l hr),hW.mono hl,hb⟩
theorem Cm.zC{h:Hp}{p:Pd}{cs:List AV}(H:Cm h p cs):qE (UM h) p cs:=by
 obtain⟨kp,lp,op,nm,n,a,kk,rfl,hD,hN,hb⟩:=H;exact⟨kp,lp,[.str op,.str nm,.int .i64 n,.int .i64 a,kk],rfl,fun h' hi=>hD.mono hi,hN.toW,hb⟩
structure qK(Q R:Y4)(ps:List Pd)(kp:AV)(lsp:List (List AV)):Prop where
 r: ∀h,YM Q h→Un h [] 8 lsp kp
 ln:lsp.length=ps.length
 p: ∀(i:Nat) (p:Pd),ps[i]? =some p→ ∃cs,lsp[i]? =some cs∧qE R p cs
theorem qK.toR{Q R:Y4}{h:Hp}{ps:List Pd}{kp:AV}{lsp:List (List AV)}(H:qK Q R ps kp lsp)(hQ:YM Q h)(hR:YM R h):ET h ps kp lsp:=
 ⟨H.r h hQ,H.ln,fun i p hi=>by obtain⟨cs,h1,h2⟩:=H.p i p hi;exact⟨cs,h1,h2.toR hR⟩⟩
theorem ET.zC{h:Hp}{ps:List Pd}{kp:AV}{lsp:List (List AV)}(H:ET h ps kp lsp):qK (UM h) (UM h) ps kp lsp:=
 ⟨fun h' hi=>H.r.mono hi,H.ln,fun i p hi=>by obtain⟨cs,h1,h2⟩:=H.at_ i p hi;exact⟨cs,h1,h2.zC⟩⟩
theorem Lh{ps:List Pd}{s:List Nat}{p:Pd}(h:ps.find? (fun p=>decide (p.name=s))=some p)(l:List Nd):XG ps s l=Ur UL p.body (p.params.map Dc.name) l:=by unfold XG;rw[h]
def Ox(dn:List Nd)(r:(List Nd×Bool)×Int):(List Nd×Bool)×Int:=((dn++r.1.1,r.1.2),r.2)
theorem MG{ps:List Pd}{l:List Nd}{i:Nat}{k:Nd}{m:Int}(dn:List Nd)(h:l[i]? =some k)(hk:(QM ps k m).1.2=true):Ox dn (Ub ps (l.drop i) m)=Ox (dn++[(QM ps k m).1.1]) (Ub ps (l.drop (i+1)) (QM ps k m).2):=by
 obtain⟨h1,h2⟩:=List.getElem?_eq_some_iff.1 h;rw[List.drop_eq_getElem_cons h1,Ub,h2,if_pos hk];simp[Ox]
theorem jz{ps:List Pd}{l:List Nd}{i:Nat}{k:Nd}{m:Int}(dn:List Nd)(h:l[i]? =some k)(hk:(QM ps k m).1.2=false):(Ox dn (Ub ps (l.drop i) m)).1.2=false∧(Ox dn (Ub ps (l.drop i) m)).2=(QM ps k m).2:=by
 obtain⟨h1,h2⟩:=List.getElem?_eq_some_iff.1 h;rw[List.drop_eq_getElem_cons h1,Ub,h2,if_neg (by rw[hk];decide)];exact⟨rfl,rfl⟩
theorem MH{ps:List Pd}{l:List Nd}{i:Nat}{m:Int}(dn:List Nd)(h:l.length≤i):Ox dn (Ub ps (l.drop i) m)=((dn,true),m):=by
 rw[List.drop_eq_nil_of_le h,Ub];simp[Ox]
theorem NF{ps:List Pd}{s:List Nat}{z a:Int}{l:List Nd}{n:Int}:QM ps (.mk [99,97,108,108] s z a l) n=((XG ps s l,decide (0≤n-min ((Jz (XG ps s l):Nat):Int) 2001)),n-min ((Jz (XG ps s l):Nat):Int) 2001):=by rw[QM,if_pos rfl]
theorem RC{ps:List Pd}{o s:List Nat}{z a:Int}{l:List Nd}{n:Int}(ho: ¬o=[99,97,108,108])(hn:n-1<0):QM ps (.mk o s z a l) n=((Kr,false),n-1):=by rw[QM,if_neg ho,if_pos hn]
theorem MF{ps:List Pd}{o s:List Nat}{z a:Int}{l dn:List Nd}{n m:Int}(ho: ¬o=[99,97,108,108])(hn: ¬n-1<0)(h:Ub ps l (n-1)=((dn,true),m)):QM ps (.mk o s z a l) n=((.mk o s z a dn,true),m):=by rw[QM,if_neg ho,if_neg hn,h,if_pos rfl]
theorem jy{ps:List Pd}{o s:List Nat}{z a:Int}{l:List Nd}{n m:Int}(ho: ¬o=[99,97,108,108])(hn: ¬n-1<0)(h:(Ub ps l (n-1)).1.2=false)(hm:(Ub ps l (n-1)).2=m):QM ps (.mk o s z a l) n=((Kr,false),m):=by rw[QM,if_neg ho,if_neg hn,if_neg (by rw[h];decide),hm]
mutual
theorem Wp(ps:List Pd): ∀(x:Nd) (n:Int),0≤n→(QM ps x n).2≤n∧ -2001≤(QM ps x n).2∧((QM ps x n).1.2=true→0≤(QM ps x n).2)
 |.mk o s z a l,n,h=>by
  by_cases ho:o=DQ
  ·rw[QM,if_pos ho];refine⟨?_,?_,fun hd=>of_decide_eq_true hd⟩
   ·show n-min _ 2001≤n;omega
   ·show-2001≤n-min _ 2001;omega
  ·by_cases hn:n-1<0
   ·rw[QM,if_neg ho,if_pos hn];refine⟨?_,?_,fun hd=>by cases hd⟩
    ·show n-1≤n;omega
    ·show-2001≤n-1;omega
   ·have hl:=NG ps l (n-1) (by omega)
    by_cases hb:(Ub ps l (n-1)).1.2=true
    ·rw[QM,if_neg ho,if_neg hn,if_pos hb];refine⟨?_,hl.2.1,fun _=>hl.2.2 hb⟩;have:=hl.1;show(Ub ps l (n-1)).2≤n;omega
    ·rw[QM,if_neg ho,if_neg hn,if_neg hb];refine⟨?_,hl.2.1,fun hd=>by cases hd⟩;have:=hl.1;show(Ub ps l (n-1)).2≤n;omega
theorem NG(ps:List Pd): ∀(l:List Nd) (n:Int),0≤n→(Ub ps l n).2≤n∧ -2001≤(Ub ps l n).2∧((Ub ps l n).1.2=true→0≤(Ub ps l n).2)
 |[],n,h=>by
  rw[Ub];refine⟨?_,?_,fun _=>h⟩
  ·show n≤n;omega
  ·show-2001≤n;omega
 |k::l,n,h=>by
  have hk:=Wp ps k n h
  by_cases hb:(QM ps k n).1.2=true
  ·have hl:=NG ps l (QM ps k n).2 (hk.2.2 hb);rw[Ub,if_pos hb];refine⟨?_,hl.2.1,hl.2.2⟩;have:=hl.1;have:=hk.1;show(Ub ps l (QM ps k n).2).2≤n;omega
  ·rw[Ub,if_neg hb];exact⟨hk.1,hk.2.1,fun hd=>by cases hd⟩
end
theorem Mem.Bj{h0:Hp}{n0:Nat}{X:List Nat}{st:St}{M:Uf}(h:Mem h0 n0 X st M){R:Y4}(hR:Proofs.YtadjjadimlkkgaaGreatDoor.YM R h0)(hX: ∀c m l,R c m l→c∉X):Proofs.YtadjjadimlkkgaaGreatDoor.YM R st.h.get:=fun c m l hr=>by
 obtain⟨ro,e,vs,ms,h1,h2⟩:=hR c m l hr
 have hc:c<n0:=by
  by_cases hc:c<n0
  ·exact hc
  ·rw[h.base c (by omega)]at h1;cases h1
 exact⟨ro,e,vs,ms,by rw[h.old c hc (hX c m l hr)];exact h1,h2⟩
theorem Mem.zR{h0:Hp}{n0:Nat}{X:List Nat}{st:St}{M B:Uf}(h:Mem h0 n0 X st M){R:Y4}(hR:Proofs.YtadjjadimlkkgaaGreatDoor.YM R h0)(hX: ∀c m l,R c m l→c∉X)(hB: ∀x∈B,x∈M):Proofs.YtadjjadimlkkgaaGreatDoor.YM (Yx R B) st.h.get:=fun c m l hr=>hr.elim (fun x=>h.Bj hR hX c m l x) fun x=>UC.AH (h.row c m l (hB _ x))
end Go.Proofs.YtadjjadimlkkgaaGreatDoor
end
section
namespace Go.Proofs.YtadjjadimlkkgaaGreatDoor
open Go Go.RowKit

theorem Ac{s:List Nat}(h:ZO s=true):s.length≤2000:=by
 unfold ZO at h;rw[Bool.and_eq_true]at h;have h1:=of_decide_eq_true h.1;unfold tokens at h1
 split at h1
 ·cases h1
 ·rename_i hs;rw[JO]at hs;omega
theorem Nn{op name:List Nat}{n a:Int}{kids:List Nd}(h:uy (.mk op name n a kids)):name.length≤2000∧0≤n∧n≤99:=by
 have hbare: ∀m,QZ name n kids m=true→name.length≤2000∧0≤n∧n≤99:=fun m hb=>by
  simp only[QZ,Bool.and_eq_true,decide_eq_true_eq]at hb;obtain⟨h1,h2,_⟩:=hb;subst h1 h2;exact⟨Nat.zero_le _,by omega,by omega⟩
 rcases h with h|h
 ·rw[Jd]at h
  split at h
  ·exact hbare _ h
  ·split at h
   ·rw[Bool.and_eq_true]at h;exact hbare _ h.1
   ·split at h
    ·rw[Bool.and_eq_true]at h;exact hbare _ h.1
    ·split at h
     ·simp only[Bool.and_eq_true,decide_eq_true_eq]at h;exact⟨Ac h.1,h.2.1,by omega⟩
     ·split at h
      ·simp only[Bool.and_eq_true,decide_eq_true_eq]at h;exact⟨Ac h.1,by omega,by omega⟩
      ·split at h
       ·rw[Bool.and_eq_true]at h;exact hbare _ h.1
       ·split at h
        ·simp only[Bool.and_eq_true,decide_eq_true_eq]at h;exact⟨Ac h.1,by omega,by omega⟩
        ·cases h
 ·rw[Jc]at h
  split at h
  ·simp only[Bool.and_eq_true,decide_eq_true_eq]at h;exact⟨Ac h.1,by omega,by omega⟩
  ·split at h
   ·simp only[Bool.and_eq_true,decide_eq_true_eq]at h;exact⟨by rw[h.1];exact Nat.zero_le _,by omega,by omega⟩
   ·split at h
    ·simp only[Bool.and_eq_true,decide_eq_true_eq]at h;exact⟨by rw[h.1];exact Nat.zero_le _,by omega,by omega⟩
    ·split at h
     ·simp only[Bool.and_eq_true,decide_eq_true_eq]at h;exact⟨by rw[h.1];exact Nat.zero_le _,by omega,by omega⟩
     ·split at h
      ·rw[Bool.and_eq_true]at h;exact hbare _ h.1
      ·cases h
theorem F6{C C':Int}(h:C≤C')(x:Nd):okB C x=true→okB C' x=true:=by
 refine J2 (M:=fun x=>okB C x=true→okB C' x=true) (fun op name n a kids ih hx=>?_) x;rw[O4]at hx ⊢;simp only[Bool.and_eq_true,decide_eq_true_eq,List.all_eq_true]at hx ⊢;exact⟨by omega,hx.2.1,by omega,hx.2.2.2.1,fun k hk=>ih k hk (hx.2.2.2.2 k hk)⟩
theorem WH{C:Int}{op name:List Nat}{n a:Int}{kids:List Nd}(h1:((name.length:Nat):Int)≤1000 *C)(h2:0≤n)(h3:Ut (.mk op name n a kids)≤C)(h4:(op=[101,120]∨op=[97,108,108])→kids.length=1)(h5: ∀k∈kids,okB C k=true):okB C (.mk op name n a kids)=true:=by
 rw[O4];simp only[Bool.and_eq_true,decide_eq_true_eq,List.all_eq_true];refine⟨h1,h2,h3,?_,h5⟩
 by_cases hb:op=[101,120]∨op=[97,108,108]
 ·rw[h4 hb];simp
 ·have:(decide (op=[101,120])||decide (op=[97,108,108]))=false:=by
   rw[Bool.or_eq_false_iff];exact⟨decide_eq_false fun e=>hb (.inl e),decide_eq_false fun e=>hb (.inr e)⟩
  rw[this];rfl
theorem O3(x:Nd):uy x→okB 200 x=true:=by
 refine J2 (M:=fun x=>uy x→okB 200 x=true) (fun op name n a kids ih h=>?_) x;obtain⟨h1,h2,h3⟩:=Nn h;refine WH (by omega) h2 ?_ (fun hb=>by obtain⟨k,rfl⟩:=T7 h hb;rfl) (fun k hk=>ih k hk (T6 h k hk))
 by_cases hp:op=[112,108,117,115]
 ·subst hp;rcases h with h|h
  ·exact(KI h).elim
  ·obtain⟨k,rfl,hk,ht⟩:=Cy h rfl;obtain⟨o',s',z',a',l'⟩:=k;have hk:o'=[118,97,114]:=hk;rw[Yk,if_pos rfl,JT (.inl (by rw[hk];decide))];have:=(Nn (.inr ht)).2.2;omega
 ·rw[JT (.inl hp)];omega
mutual
def Vy:Nd→List (List Nat)
 |.mk _ name _ _ kids=>name::HG kids
def HG:List Nd→List (List Nat)
 |[]=>[]
 |k::l=>Vy k++HG l
end
theorem WY{z:List Nat}: ∀{l:List Nd},z∈HG l↔ ∃k∈l,z∈Vy k:=by
 intro l
 induction l with
 |nil=>simp[HG]
 |cons k l ih=>rw[HG,List.mem_append,ih];simp
def V3(x:Nd):Prop:= ∀s∈Vy x,Bytes s
theorem V3.N2{op name:List Nat}{n a:Int}{kids:List Nd}(h:V3 (.mk op name n a kids)){k:Nd}(hk:k∈kids):V3 k:=fun s hs=>h s (by rw[Vy];exact List.mem_cons_of_mem _ (WY.2 ⟨k,hk,hs⟩))
theorem V3.name{op name:List Nat}{n a:Int}{kids:List Nd}(h:V3 (.mk op name n a kids)):Bytes name:=h name (by rw[Vy];exact List.mem_cons_self ..)
theorem UN.vi{h:Hp}{x:Nd}{cs:List AV}(r:UN h x cs):V3 x:=by
 induction r with
 |leaf hs ha hb=>
  intro s hm;rw[Vy,HG]at hm;rw[List.mem_singleton]at hm;subst hm;exact hb.2
 |node hr hn hl hk hb ih=>
  intro s hm;rw[Vy]at hm;rcases List.mem_cons.1 hm with e|hm
  ·subst e;exact hb.2
  ·obtain⟨k,hk',h⟩:=WY.1 hm;obtain⟨i,hi⟩:=List.getElem?_of_mem hk';exact ih i k hi s h
theorem Rh(x:Nd): ∀b z,z∈Qx x b→z∈Vy x:=by
 refine J2 (M:=fun x=> ∀b z,z∈Qx x b→z∈Vy x) (fun op name n a kids ih b z h=>?_) x
 have hk: ∀b,z∈Uu kids b→z∈Vy (.mk op name n a kids):=fun b h=>by
  obtain⟨k,hk,h⟩:=Jh.1 h;rw[Vy];exact List.mem_cons_of_mem _ (WY.2 ⟨k,hk,ih k hk b z h⟩)
 rw[Qx]at h
 split at h
 ·split at h
  ·cases h
  ·rw[List.mem_singleton]at h;subst h;rw[Vy];exact List.mem_cons_self ..
 ·split at h
  ·exact hk _ h
  ·exact hk _ h
theorem V3.names{x:Nd}(h:V3 x): ∀s∈Qx x [],Bytes s:=fun s hs=>h s (Rh x [] s hs)
theorem Ri{x:Nd}(h:V3 x)(z:List Nat):z∈Jk x↔z∈Qx x []:=yw h.names z
theorem Vo{ps:List (List Nat×Nd)}{s:List Nat}:QS (ps.map Prod.fst) (ps.map Prod.snd) s=(ps.find? fun p=>decide (p.1=s)).map Prod.snd:=by
 induction ps with
 |nil=>rfl
 |cons p ps ih=>
  rw[List.map_cons,List.map_cons,QS,List.find?_cons,ih]
  by_cases e:p.1=s
  ·rw[if_pos e,decide_eq_true e];rfl
  ·rw[if_neg e,decide_eq_false e]
theorem Rl{ns:List (List Nat)}{ts:List Nd}{but s:List Nat}{l:List (List Nat)}:((YZ ns ts but l).find? fun p=>decide (p.1=s)).map Prod.snd=if s∈l∧s≠but then QS ns ts s else none:=by
 induction l with
 |nil=>rw[if_neg (by simp)];rfl
 |cons y l ih=>
  rw[Km,List.find?_append]
  by_cases hy:y=but
  ·rw[if_pos hy];show((YZ ns ts but l).find? _).map Prod.snd=_;rw[ih]
   by_cases h:s∈l∧s≠but
   ·rw[if_pos h,if_pos ⟨List.mem_cons_of_mem _ h.1,h.2⟩]
   ·rw[if_neg h,if_neg]
    rintro⟨h1,h2⟩
    rcases List.mem_cons.1 h1 with e|h1
    ·subst e;exact h2 hy
    ·exact h ⟨h1,h2⟩
  ·rw[if_neg hy]
   by_cases e:y=s
   ·subst e;rw[if_pos ⟨List.mem_cons_self ..,hy⟩]
    cases h:QS ns ts y with
    |some t=>simp
    |none=>
     simp only[List.find?_nil,Option.none_or];rw[ih]
     split
     ·exact h
     ·rfl
   ·have hrest:((YZ ns ts but l).find? fun p=>decide (p.1=s)).map Prod.snd=if s∈y::l∧s≠but then QS ns ts s else none:=by
     rw[ih]
     by_cases h:s∈l∧s≠but
     ·rw[if_pos h,if_pos ⟨List.mem_cons_of_mem _ h.1,h.2⟩]
     ·rw[if_neg h,if_neg]
      rintro⟨h1,h2⟩
      rcases List.mem_cons.1 h1 with e'|h1
      ·exact e e'.symm
      ·exact h ⟨h1,h2⟩
    rw[←hrest]
    cases QS ns ts y with
    |some t=>simp[e]
    |none=>simp
end Go.Proofs.YtadjjadimlkkgaaGreatDoor
end
