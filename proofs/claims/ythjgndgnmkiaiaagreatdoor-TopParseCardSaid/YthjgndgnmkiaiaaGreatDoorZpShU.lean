/-
  The reference's parser: declarations, parameters, predicates.
-/
import Derived.Test.YthjgndgnmkiaiaaGreatDoorZpRdH
import Derived.Test.YthjgndgnmkiaiaaGreatDoorZpShO
set_option maxRecDepth 100000
set_option maxHeartbeats 2000000
set_option linter.unnecessarySimpa false
set_option linter.unusedSectionVars false
set_option linter.unusedSimpArgs false
set_option linter.unusedVariables false
namespace Go.Proofs.YthjgndgnmkiaiaaGreatDoor
open Go Go.RowKit
section

section
variable {L:List Tk} {S:PS} {l:List Dc} {k:Nat} {o:Int}
theorem R6(h:S.e=0)(hw:JO L (QF L S) [44]=true):YZ L o (k+1) S l=YZ L o k (Qf L (QF L S) [44]) (l++[⟨(Jq L S).s,o,(Jq L S).a⟩]):=by rw[YZ,if_neg (by simp[h]),if_pos hw,Qf,if_pos hw]
theorem R7(h:S.e=0)(hw:JO L (QF L S) [44]=false):YZ L o (k+1) S l=(Q2 L (Qf L (QF L S) [44]) [59],l++[⟨(Jq L S).s,o,(Jq L S).a⟩]):=by rw[YZ,if_neg (by simp[h]),if_neg (by simp[hw]),Qf,if_neg (by simp[hw])]
theorem PA(h: ¬S.e=0):Yn L (k+1) S l=(S,l):=by rw[Yn,if_pos h]
theorem V7(h:JO L S [41]=true):YB L S=(Qf L S [41],[]):=by rw[YB,if_pos h,Qf,if_pos h]
theorem NH(hO:UM L){w:List Nat}(h:JO L S w=true):S.i<(Qf L S w).i:=by rw[Qf,if_pos h];exact Vp hO h
theorem MD(hO:UM L){w:List Nat}(h:JO L (QF L S) w=true):S.i<(Qf L (QF L S) w).i:=Nat.lt_of_le_of_lt (Ug hO.t S).1 (NH hO h)
theorem aD(l:List Dc)(d:Dc):(l++[d]).map Dc.cells=l.map Dc.cells++[d.cells]:=by rw[List.map_append];rfl
end
def aU(R:KC)(p:Pd)(cs:List AV):Prop:= ∃kp o s z a kk,cs=[.str p.name,kp,.str o,.str s,.int .i64 z,.int .i64 a,kk,.int .i64 p.at_]∧(∃A,(∀x∈A,R x.1 x.2.1 x.2.2)∧ ∃n0,Acc n0 3 A kp (p.params.map Dc.cells))∧Zu R p.body [.str o,.str s,.int .i64 z,.int .i64 a,kk]
theorem aU.mono{R R':KC}(h: ∀c m l,R c m l→R' c m l){p:Pd}{cs:List AV}(r:aU R p cs):aU R' p cs:=by
 obtain⟨kp,o,s,z,a,kk,e,⟨A,hA,n0,hA0⟩,hb⟩:=r;exact⟨kp,o,s,z,a,kk,e,⟨A,fun x hx=>h _ _ _ (hA x hx),n0,hA0⟩,hb.mono h⟩

end
section
variable {X:List Nat} {h0:Hp} {n0:Nat} {st:St}

def Uy.tk(t:Uy):Tk:=⟨t.kind,Ym t.text,t.num,t.at'⟩
def ZZ(l:List Nat):List Tk:=(tokens (bytesOf l)).1.map Uy.tk
def zI:Pg:=⟨[],[],jB⟩
def Y2(l:List Nat):Pg×Int×Int:=
 if(tokens (bytesOf l)).2.2≠0 then(zI,(tokens (bytesOf l)).2.1,(tokens (bytesOf l)).2.2)
 else if(ZF (ZZ l)).1.e≠0 then(zI,(ZF (ZZ l)).1.a,(ZF (ZZ l)).1.e)else((ZF (ZZ l)).2,((l.length:Nat):Int),0)
theorem ya(l:List Nat):(tokens (bytesOf l)).1.map Uy.cells=(ZZ l).map Tk.cells:=by rw[ZZ,List.map_map];rfl
theorem uT(s:ByteArray)(h:(tokens s).2.2=0): ∃a,(tokens s).1=a++[Wy s]:=by
 by_cases hl:2000<s.size
 ·rw[Iu hl]at h;exact absurd h (show¬(3:Int)=0 by decide)
 ·rcases hx:XZ s (QT s (each s).2) ((each s).1.length+1) ((each s).1.drop (QC false (each s).1))with⟨a,p⟩
  cases a with
  |none=>rw[Cr hl hx]at h;exact absurd h (show¬(2:Int)=0 by decide)
  |some a=>
   cases hq:(each s).2 with
   |some q=>rw[Cp hl hx hq]at h;exact absurd h (show¬(2:Int)=0 by decide)
   |none=>rw[Nf hl hx hq];exact⟨a,rfl⟩
theorem Me(l:List Nat)(h:(tokens (bytesOf l)).2.2=0):UM (ZZ l)∧0<(ZZ l).length:=by
 obtain⟨a,ha⟩:=uT _ h;have hlen:=Hr (bytesOf l)
 have hl:ZZ l=a.map Uy.tk++[(Wy (bytesOf l)).tk]:=by rw[ZZ,ha,List.map_append];rfl
 refine⟨⟨fun j t hj hk=>?_,fun t ht=>?_,by rw[ZZ,List.length_map];omega⟩,by rw[hl];simp⟩
 ·have h1:=(List.getElem?_eq_some_iff.1 hj).1;rw[hl]at hj h1 ⊢;rw[List.length_append,List.length_singleton]at h1 ⊢
  by_cases he:j=(a.map Uy.tk).length
  ·subst he;rw[List.getElem?_append_right (Nat.le_refl _),Nat.sub_self]at hj
   injection hj with hj
   subst hj;exact absurd rfl hk
  ·omega
 ·obtain⟨x,_,rfl⟩:=List.mem_map.1 ht;exact ZW _
section
variable {L:List Tk} {S:PS} {k:Nat} {o:Int}
theorem qc(hO:UM L)(h:0≤Qw L S [118,97,114]):S.i<(Zs L S).1.i:=Nat.lt_of_lt_of_le (PC hO h) (Au hO.t _ _ _ _).1
theorem pred_lt(hO:UM L){w:List Nat}(h:JO L S w=true):S.i<(UN L S).1.i:=by
 refine Nat.lt_of_lt_of_le (Vp hO h) ?_;unfold UN;exact((((((Ug hO.t _).trans (J8 hO.t _ _)).trans (Gs hO.t _)).trans (J8 hO.t _ _)).trans (XA hO.t _ _ _)).trans (J8 hO.t _ _)).1
theorem EZ{ds:List Dc}{ps:List Pd}(h: ¬S.e=0∨(JO L S [112,114,101,100]=false∧Qw L S [118,97,114]<0)):JS L (k+1) S ds ps=(S,ds,ps):=by
 rw[JS]
 by_cases he:S.e=0
 ·obtain⟨h1,h2⟩:=h.resolve_left (fun h=>h he);rw[if_neg (by simp[he]),if_neg (by simp[h1]),if_neg Qk]
 ·rw[if_pos he]
theorem L4{ds:List Dc}{ps:List Pd}(h:JO L S [112,114,101,100]=true):JS L (k+1) S ds ps=JS L k (UN L S).1 ds (ps++[(UN L S).2]):=by rw[JS,if_neg (by simp[YC h]),if_pos h]
theorem L5{ds:List Dc}{ps:List Pd}(he:S.e=0)(h:JO L S [112,114,101,100]=false)(ho:0≤Qw L S [118,97,114]):JS L (k+1) S ds ps=JS L k (Zs L S).1 (ds++(Zs L S).2) ps:=by rw[JS,if_neg (by simp[he]),if_neg (by simp[h]),if_pos ho]
theorem II{S4:PS}{ds:List Dc}{ps:List Pd}(h:JS L (L.length+1) ⟨0,0,0⟩ [] []=(S,ds,ps))(h4:(if(Qc L (Q2 L (Je L L.length S 0).1 [59])).k≠4 then QJ (Q2 L (Je L L.length S 0).1 [59]) (Qc L (Q2 L (Je L L.length S 0).1 [59])).a 2 else Q2 L (Je L L.length S 0).1 [59])=S4):
  ZF L=(S4,⟨ds,ps,(Je L L.length S 0).2⟩):=by
 unfold ZF;simp only[h,h4]
end
def GP(R:KC)(ps:List Pd)(lsp:List (List AV)):Prop:= ∀(i:Nat) (p:Pd) (cs:List AV),ps[i]? =some p→lsp[i]? =some cs→aU R p cs
theorem GP.nil{R:KC}{lsp:List (List AV)}:GP R [] lsp:=fun i p cs h=>by simp at h
theorem GP.mono{R R':KC}(h: ∀c m l,R c m l→R' c m l){ps:List Pd}{lsp:List (List AV)}(r:GP R ps lsp):GP R' ps lsp:=fun i p cs h1 h2=>(r i p cs h1 h2).mono h
theorem GP.snoc{R:KC}{A B:YO}{ps:List Pd}{lsp:List (List AV)}{p:Pd}{cs:List AV}(h:GP (Y0 R B) ps lsp)(hl:lsp.length=ps.length)(hp:aU (Y0 R A) p cs):GP (Y0 R (B++A)) (ps++[p]) (lsp++[cs]):=by
 intro i q cs' h1 h2
 by_cases hi:i<ps.length
 ·rw[List.getElem?_append_left hi]at h1;rw[List.getElem?_append_left Qk]at h2;exact(h i q cs' h1 h2).mono (QD (fun _ _ _ h=>h) fun x hx=>List.mem_append_left _ hx)
 ·have hi2:=(List.getElem?_eq_some_iff.1 h1).1;rw[List.length_append,List.length_singleton]at hi2
  have hi3:i=ps.length:=by omega
  subst hi3;rw[List.getElem?_append_right (Nat.le_refl _),Nat.sub_self]at h1;rw[List.getElem?_append_right Qk,hl,Nat.sub_self]at h2
  injection h1 with h1
  injection h2 with h2
  subst h1 h2;exact hp.mono (QD (fun _ _ _ h=>h) fun x hx=>List.mem_append_right _ hx)
def vK(R:KC)(g:Pg)(cs:List AV):Prop:= ∃kd kp o s z a kk lsp,cs=[kd,kp,.str o,.str s,.int .i64 z,.int .i64 a,kk]∧(∃A,(∀x∈A,R x.1 x.2.1 x.2.2)∧ ∃n0,Acc n0 3 A kd (g.decls.map Dc.cells))∧(∃A,(∀x∈A,R x.1 x.2.1 x.2.2)∧ ∃n0,Acc n0 8 A kp lsp)∧lsp.length=g.preds.length∧GP R g.preds lsp∧Zu R g.main [.str o,.str s,.int .i64 z,.int .i64 a,kk]
theorem vK.none{R:KC}:vK R zI [.nils,.nils,.str [],.str [],.int .i64 0,.int .i64 0,.nils]:=
 ⟨_,_,_,_,_,_,_,[],rfl,⟨[],by simp,0,.none⟩,⟨[],by simp,0,.none⟩,rfl,.nil,E0 ⟨QA,QA⟩⟩
theorem Mem.ox{n1 z:Nat}{M A:YO}{ks:AV}{ls:List (List AV)}(h:Mem h0 n0 X st M)(hA:Acc n1 z A ks ls)(hs: ∀x∈A,x∈M):Ja st.h.get [] z ls ks:=by
 cases hA with
 |none=>exact .nil _ _ _
 |own hc hz hb=>exact Ja.own (h.row _ _ _ (hs _ (List.mem_singleton.2 rfl))) hz Q1 Qk
theorem Mem.ov{n1 z cp:Nat}{M A:YO}{ks:AV}{ls:List (List AV)}(h:Mem h0 n0 X st M)(hA:Acc n1 z A ks ls)(hne: ∀x∈A,x.1≠cp)(hs: ∀x∈A,x∈M):Ja st.h.get [cp] z ls ks:=by
 cases hA with
 |none=>exact .nil _ _ _
 |own hc hz hb=>exact Ja.own (h.row _ _ _ (hs _ (List.mem_singleton.2 rfl))) hz (by simpa using hne _ (List.mem_singleton.2 rfl)) Qk
theorem Mem.oc{M:YO}{c m:Nat}{l:List AV}(h:Mem h0 n0 X st ((c,m,l)::M)): ∀x∈M,x.1≠c:=fun x hx e=>by
 have:=h.nodup;rw[List.map_cons,List.nodup_cons]at this;exact this.1 (List.mem_map.2 ⟨x,hx,e⟩)
theorem iS{l:List Dc}: ∀cs∈l.map Dc.cells,cs.length=3:=by
 intro cs hc;obtain⟨x,_,rfl⟩:=List.mem_map.1 hc;rfl

end
section
variable {c:Nat}

theorem FB{p:Pc}{l:List Pc}(h:EI (p::l)=true):uB p=true∧im p l=true∧EI l=true:=by
 rw[EI,Bool.and_eq_true,Bool.and_eq_true]at h;exact h
theorem Te: ∀{l:List Pc},EI l=true→ ∀p∈l,uB p=true
 |q::l,h,p,hp=>by
  rcases List.mem_cons.1 hp with rfl|hp
  ·exact(FB h).1
  ·exact Te (FB h).2.2 p hp
def Tv:Pc→Bool
 |.b=>true
 |.l=>true
 |_=>false
theorem Su{W a:List Nat}{p:Pc}{l:List Pc}(hW:W=a++QQ (p::l))(hl:EI (p::l)=true)(hb:Tv p=false):Zn (bytesOf W) W.length (Eo a.length (p::l))=DR a.length p:=by
 obtain⟨h1,h2,h3⟩:=FB hl;have hW':W=a++(p.tx++QQ l):=hW
 have hfin:W.length=a.length+p.tx.length+(QQ l).length:=by rw[hW',List.length_append,List.length_append,Nat.add_assoc]
 have hpl:=zk h3 (a.length+p.tx.length) W.length hfin
 cases p with
 |b=>cases hb
 |l=>cases hb
 |m s=>
  obtain⟨hr,hw⟩:=Ag h1
  have h:=BA (s:=s) (b:=QQ l) (T:=Eo (a.length+s.length) l) hW' hr (by
   rcases NO h3 h2 (a.length+s.length)with h|⟨c,q,r,h,h',_⟩
   ·exact .inl h
   ·exact .inr ⟨c,q,r,h,h'⟩) hpl
  rw[hw]at h;exact h
 |w s=>
  obtain⟨hr,hw⟩:=EK (of_decide_eq_true h1)
  have h:=BA (s:=s) (b:=QQ l) (T:=Eo (a.length+s.length) l) hW' hr (by
   rcases NO h3 h2 (a.length+s.length)with h|⟨c,q,r,h,h',_⟩
   ·exact .inl h
   ·exact .inr ⟨c,q,r,h,h'⟩) hpl
  rw[hw]at h;exact h
 |n z=>
  exact zA (of_decide_eq_true h1) _ _ _ _ (by
   rcases NO h3 h2 (a.length+(U4 z).length)with h|⟨c,q,r,h,_,h'⟩
   ·exact .inl h
   ·exact .inr ⟨c,q,r,h,h'⟩)
 |g s=>
  have hs:=of_decide_eq_true h1
  have h:=qU hs a.length (Eo (a.length+s.length) l) (fun e=>eE h3 (by
    have h2:(if s=[126]then !iJ l else if s=[60]∨s=[61]∨s=[60,61]then n5 l else if s=[43]then l9 l else true)=true:=h2;rw[if_pos e]at h2
    simpa using h2) _) (fun e=>by
    have h2:(if s=[126]then !iJ l else if s=[60]∨s=[61]∨s=[60,61]then n5 l else if s=[43]then l9 l else true)=true:=h2
    rw[if_neg (by rcases e with rfl|rfl|rfl<;>decide),if_pos e]at h2
    obtain⟨r,hr⟩:=eX h2 (a.length+s.length)
    exact⟨_,r,hr⟩)
  have he:Gx (.g s)=s.zipIdx:=by unfold Gx;show(each (bytesOf s)).1=_;rw[NL s hs]
  obtain⟨_,c,r,hr,hc⟩:=X6 h1;have hL:=AM (l:=l) (d:=a.length) hr
  have e1:Eo a.length (.g s::l)=AW a.length s.zipIdx++Eo (a.length+s.length) l:=by rw[Eo,he];rfl
  rw[←e1,hL]at h;rw[hL,Zn,if_neg (by rw[(I3 s hc.2 c hc.1).2.2.1];decide),if_neg (by rw[(I3 s hc.2 c hc.1).2.2.1];decide),if_pos (I3 s hc.2 c hc.1).2.2.1,Ha,h];show Uy.mk 3 (bytesOf s) 0 a.length true (bytesOf s).size=Uy.mk 3 (bytesOf s) 0 a.length true (Gx (.g s)).length;rw[he,JD,List.length_zipIdx]
theorem AE{p:Pc}(hb:Tv p=false)(d:Nat)(l:List Pc):yb d (p::l)=DR d p::yb (d+p.tx.length) l:=by
 cases p with
 |b=>cases hb
 |l=>cases hb
 |m s=>rfl
 |w s=>rfl
 |n s=>rfl
 |g s=>rfl
theorem uY{p:Pc}(hb:Tv p=false)(d:Nat):(DR d p).len=(Gx p).length∧(DR d p).ok=true:=by
 cases p with
 |b=>cases hb
 |l=>cases hb
 |m s=>exact⟨rfl,rfl⟩
 |w s=>exact⟨rfl,rfl⟩
 |n s=>exact⟨rfl,rfl⟩
 |g s=>exact⟨rfl,rfl⟩
theorem Pb(h:Yy c=true∨c=35):Q0 c=3∨Q0 c=4:=by
 rcases h with h|rfl
 ·have h:=of_decide_eq_true h
  have:c=32∨c=9∨c=10∨c=13:=by omega
  rcases this with rfl|rfl|rfl|rfl<;>decide
 ·decide
theorem lS{p:Pc}(hb:Tv p=false)(h:oF p c):Yy c=false∧c≠35:=by
 have hk:Q0 c=1∨Q0 c=2→Yy c=false∧c≠35:=fun hk=>by
  refine⟨?_,fun e=>?_⟩
  ·cases hs:Yy c with
   |false=>rfl
   |true=>have:=Pb (.inl hs);omega
  ·have:=Pb (.inr e);omega
 cases p with
 |b=>cases hb
 |l=>cases hb
 |m s=>exact hk (.inl h)
 |w s=>exact hk (.inl h)
 |n s=>exact hk (.inr (YD.2 h))
 |g s=>have:=I3 s h.2 c h.1;exact⟨this.2.2.2.1,this.2.2.2.2⟩
theorem uo{q:Nat}{r:List (Nat×Nat)}(h:Yy c=false∧c≠35):QC false ((c,q)::r)=0:=by
 rw[QC,h.1,if_neg Qo,if_neg h.2]
theorem O0{W:List Nat}: ∀(l:List Pc) (a:List Nat) (f:Nat),EI l=true→W=a++QQ l→(Eo a.length l).length<f→
  ∃p,XZ (bytesOf W) W.length f ((Eo a.length l).drop (QC false (Eo a.length l)))=(some (yb a.length l),p)
 |[],a,f,_,_,hf=>by
  obtain⟨f,rfl⟩: ∃g,f=g+1:=⟨f-1,by omega⟩;exact⟨0,rfl⟩
 |p::l,a,f,hl,hW,hf=>by
  obtain⟨h1,h2,h3⟩:=FB hl
  have hW':W=(a++p.tx)++QQ l:=by rw[hW,Qz,List.append_assoc]
  have ih:=fun f h=>O0 l (a++p.tx) f h3 hW' h;rw[List.length_append]at ih;obtain⟨_,c,r,hr,hc⟩:=X6 h1
  by_cases hb:Tv p=true
  ·have key: ∀p:Pc,Tv p=true→(Eo a.length (p::l)=(32,a.length)::Eo (a.length+1) l∨Eo a.length (p::l)=(10,a.length)::Eo (a.length+1) l)∧yb a.length (p::l)=yb (a.length+1) l∧p.tx.length=1:=fun p hp=>by
    cases p with
    |b=>exact⟨.inl (AM (r:=[]) (by decide+kernel)),rfl,rfl⟩
    |l=>exact⟨.inr (AM (r:=[]) (by decide+kernel)),rfl,rfl⟩
    |m s=>cases hp
    |w s=>cases hp
    |n s=>cases hp
    |g s=>cases hp
   obtain⟨e,e3,e4⟩:=key p hb
   have e2: ∀c,c=32∨c=10→QC false ((c,a.length)::Eo (a.length+1) l)=QC false (Eo (a.length+1) l)+1:=fun c hc=>by rw[QC,if_pos (by rcases hc with rfl|rfl<;>decide)]
   rw[e4]at ih;rw[e3];rcases e with e|e
   ·rw[e,e2 _ (.inl rfl),List.drop_succ_cons];exact ih f (by rw[e,List.length_cons]at hf;omega)
   ·rw[e,e2 _ (.inr rfl),List.drop_succ_cons];exact ih f (by rw[e,List.length_cons]at hf;omega)
  ·replace hb:Tv p=false:=by simpa using hb
   have ht:=Su hW hl hb;have hL:=AM (l:=l) (d:=a.length) hr
   have e2:QC false (Eo a.length (p::l))=0:=by rw[hL];exact uo (lS hb hc)
   rw[e2,List.drop_zero];obtain⟨f,rfl⟩: ∃g,f=g+1:=⟨f-1,by omega⟩;obtain⟨hlen,hok⟩:=uY hb a.length
   have hrl:0<(Gx p).length:=by rw[hr];simp
   have hsum:(Eo a.length (p::l)).length=(Gx p).length+(Eo (a.length+p.tx.length) l).length:=by rw[Eo,List.length_append,CS]
   have e1:=Dz (bytesOf W) W.length f (Eo a.length (p::l)) [] Qk (by rw[ht];exact hok)
   have hdr:(Eo a.length (p::l)).drop (Gx p).length=Eo (a.length+p.tx.length) l:=by
    rw[Eo,←CS a.length (Gx p),List.drop_left]
   rw[RE,ht,hlen,hdr]at e1;obtain⟨q,hq⟩:=ih f Qk;rw[hq]at e1;exact⟨q,by rw[e1,AE hb];rfl⟩
theorem Lq{l:List Pc}(hl:EI l=true)(hs:(QQ l).length≤2000):tokens (bytesOf (QQ l))=(yb 0 l++[Wy (bytesOf (QQ l))],(QQ l).length,0):=by
 have he:=LM l fun p hp=>(X6 (Te hl p hp)).1;obtain⟨q,hq⟩:=O0 (W:=QQ l) l [] ((Eo 0 l).length+1) hl rfl (Nat.lt_succ_self _);have h:=Nf (s:=bytesOf (QQ l)) (a:=yb 0 l) (p:=q) (by rw[JD];omega) (by rw[he,show QT (bytesOf (QQ l)) none=(bytesOf (QQ l)).size from rfl,JD];exact hq) (by rw[he]);rw[JD]at h;exact h
theorem GW: ∀(l:List Pc) (d:Nat),EI l=true→(yb d l).map Uy.tk=UC d l
 |[],d,_=>rfl
 |p::l,d,h=>by
  obtain⟨h1,h2,h3⟩:=FB h;have ih:=fun d=>GW l d h3
  cases p with
  |b=>exact ih (d+1)
  |l=>exact ih (d+1)
  |m s=>rw[AE rfl,List.map_cons,ih,UC];unfold Uy.tk DR;rw[UT (Ag h1).1.by'];rfl
  |w s=>rw[AE rfl,List.map_cons,ih,UC];unfold Uy.tk DR;rw[UT (EK (of_decide_eq_true h1)).1.by'];rfl
  |n s=>rw[AE rfl,List.map_cons,ih,UC];rfl
  |g s=>
   have hby: ∀s∈vN,∀x∈s,x<256:=by decide+kernel
   rw[AE rfl,List.map_cons,ih,UC];unfold Uy.tk DR;rw[UT (hby s (of_decide_eq_true h1))];rfl
theorem Gz{l:List Pc}(hl:EI l=true)(hs:(QQ l).length≤2000):ZZ (QQ l)=UC 0 l++[⟨4,[],0,((QQ l).length:Int)⟩]:=by
 rw[ZZ,Lq hl hs,List.map_append,GW l 0 hl];unfold Wy Uy.tk;rw[List.map_cons,JD];rfl
theorem IG{t:Tk}{L:List Tk}(h:XC L)(ht: ∀u,L[0]? =some u→t.k=3→t.s=[43]→u.k=2→u.n≠0):XC (t::L):=fun i a b ha hb=>by
 cases i with
 |zero=>
  have ha:some t=some a:=ha
  injection ha with ha
  subst ha;exact ht b hb
 |succ i=>exact h i a b ha hb
theorem l7: ∀{l:List Pc},l9 l=true→ ∃z l',l=.b:: .n z::l'∧z≠0
 |.b:: .n z::l',h=>⟨z,l',rfl,of_decide_eq_true h⟩
theorem Bz: ∀(l:List Pc) (d:Nat) (e:Tk),EI l=true→e.k≠2→XC (UC d l++[e])
 |[],d,e,_,he=>IG (L:=[]) (fun i a b ha=>by cases ha) fun u hu=>by cases hu
 |p::l,d,e,h,he=>by
  obtain⟨h1,h2,h3⟩:=FB h;have ih:=fun d=>Bz l d e h3 he
  cases p with
  |b=>exact ih (d+1)
  |l=>exact ih (d+1)
  |m s=>exact IG (ih _) fun u _ hk=>absurd hk (show¬(1:Int)=3 by decide)
  |n s=>exact IG (ih _) fun u _ hk=>absurd hk (show¬(2:Int)=3 by decide)
  |w s=>
   refine IG (ih _) fun u _ _ hs=>?_;have hs:s=[43]:=hs;subst hs;exact absurd (show([43]:List Nat)∈nh from of_decide_eq_true h1) Qo
  |g s=>
   refine IG (ih _) fun u hu _ hs hk=>?_;have hs:s=[43]:=hs;subst hs;have h2:l9 l=true:=h2;obtain⟨z,l',rfl,hz⟩:=l7 h2;have hu:some (⟨2,[],(z:Int),_⟩:Tk)=some u:=hu
   injection hu with hu
   subst hu
   simpa using hz
end
end Go.Proofs.YthjgndgnmkiaiaaGreatDoor
