/-
  Formulas that are shown are parsed to themselves, or they are too deep: plain law.
-/
import Derived.Test.YtmgkfceomhagaaaGreatDoorPsShQ
namespace Go.Proofs.YtmgkfceomhagaaaGreatDoor
open Go Go.RowKit
set_option linter.unusedVariables false
set_option linter.unusedSectionVars false
set_option maxRecDepth 10000
variable {at_ e:Int} {n:Nat} {o s:List Nat}

def xx:List (List Nat):=[[43],[117,110,105,111,110],[105,110,116,101,114],[92],[61],[126,61],[60],[60,61],[105,110],[110,111,116,105,110],[115,117,98],[40]]
def eO:List (List Nat):=[[38],[124],[61,62],[60,61,62]]
def Hf(L:List Tk)(X:PR)(R:List Tk)(k:Nd):Prop:=X.1.e≠0∨(Yq X.2 k=true∧ZL L X.1 R)
section
variable {L:List Tk} {S:PS} {R T:List Tk} {k x y:Nd} {u:PS→PR} {op w:List Nat}
theorem Xe(h:Hf L (u S) R k)(hn:Hg R [w]):Hf L (YR u op w L S) R k:=by
 rcases h with h|⟨h1,h2⟩
 ·exact .inl (by rw[YR,An h];exact h)
 ·refine .inr ?_;have hi:JD L (u S).1 w=false:=hn.no h2 Q3
  have:YR u op w L S=((u S).1,(u S).2):=by
   rw[YR]
   cases L.length with
   |zero=>rfl
   |succ n=>exact Z3 hi
  rw[this];exact⟨h1,h2⟩
theorem NY(h1:Hf L (u S) (⟨3,w,0,e⟩::T) x)(h2: ∀S',ZL L S' T→Hf L (u S') R y)(hn:Hg R [w]):Hf L (YR u op w L S) R (.mk op [] 0 at_ [x,y]):=by
 rcases h1 with h1|⟨h1,b1⟩
 ·exact .inl (by rw[YR,An h1];exact h1)
 have h3:=h2 _ (b1.next (show(3:Int)≠4 by decide));have hlt:=b1.lt;rw[YR];obtain⟨n,hn2⟩: ∃n,L.length=n+1:=⟨L.length-1,by omega⟩;rw[hn2,XL b1.yes];rcases h3 with h3|⟨h3,b3⟩
 ·exact .inl (by rw[An h3];exact h3)
 ·have hi:JD L (u (Qb L (u S).1)).1 w=false:=hn.no b3 Q3
  have: ∀m nd,ZO u op w L m (u (Qb L (u S).1)).1 nd=((u (Qb L (u S).1)).1,nd):=fun m nd=>by
   cases m with
   |zero=>rfl
   |succ n=>exact Z3 hi
  rw[this];exact .inr ⟨by simp[Yq,YQ,h1,h3],b3⟩
theorem wL(h:Hf L (u S) R k)(hn:Hg R eO):Hf L (V3 u L S) R k:=Xe (Xe h (hn.less Qz)) (hn.less Qz)
theorem BX(h:Hf L (u S) R k)(hn:Hg R eO):Hf L (JO u L n S) R k:=by
 have ho:=wL h hn
 cases n with
 |zero=>exact ho
 |succ n=>
  rw[JO];rcases ho with ho|⟨h1,h2⟩
  ·rw[V6 ho];exact .inl ho
  ·rw[hn.no h2 Qz];exact .inr ⟨h1,h2⟩
theorem Od{d:Nat}(h:Hf L (u S) R k)(hn:Hg R eO)(he:S.e=0):Hf L (JY u L S d) R k:=by
 rw[JY]
 split
 ·exact .inl (by assumption)
 ·rename_i hd
  have hE:Qd L S d=S:=by
   unfold Qd at hd ⊢
   split
   ·rename_i h30;rw[if_pos h30]at hd;exact absurd (Decidable.not_not.1 hd) (XG Qz)
   ·rfl
  rw[hE];exact Xe (BX h hn) (hn.less Qz)
theorem vn{w:List Nat}(h:Hf L (u S) (⟨3,w,0,e⟩::T) k)(hw:w∉[[38],[124]]):Hf L (V3 u L S) (⟨3,w,0,e⟩::T) k:=
 Xe (Xe h (.sg fun x=>hw (by simp at x;simp[x]))) (.sg fun x=>hw (by simp at x;simp[x]))
theorem eb{w:List Nat}(h:Hf L (u S) (⟨3,w,0,e⟩::T) k)(hw:w∉[[38],[124],[61,62]]):Hf L (JO u L n S) (⟨3,w,0,e⟩::T) k:=by
 have ho:=vn h fun x=>hw (by simp at x ⊢;rcases x with x|x<;>simp[x])
 cases n with
 |zero=>exact ho
 |succ n=>
  rw[JO];rcases ho with ho|⟨h1,h2⟩
  ·rw[V6 ho];exact .inl ho
  ·rw[h2.no (.inr fun x=>hw (by simp[show w=[61,62]from x]))];exact .inr ⟨h1,h2⟩
theorem xo(h1:Hf L (u S) (⟨3,[61,62],0,e⟩::T) x)(h2: ∀S',ZL L S' T→Hf L (u S') R y)(hn:Hg R eO)(h0:n≠0):Hf L (JO u L n S) R (.mk [105,109,112] [] 0 at_ [x,y]):=by
 obtain⟨n,rfl⟩: ∃m,n=m+1:=⟨n-1,by omega⟩;rw[JO];rcases vn h1 Qz with ho|⟨h3,b3⟩
 ·rw[V6 ho];exact .inl ho
 ·rw[if_pos b3.yes];rcases BX (n:=n) (h2 _ (b3.next (show(3:Int)≠4 by decide))) hn with h|⟨h4,b4⟩
  ·exact .inl h
  ·exact .inr ⟨by simp[Yq,YQ,h3,h4],b4⟩
theorem uZ{d a:Nat}(ho:oneOf o [[97,110,100],[111,114],[105,109,112],[105,102,102]]=true)(h1:Hf L (u S) (Zq a [XI o]++T) x)(h2: ∀S',ZL L S' T→Hf L (u S') R y)(hn:Hg R eO)(he:S.e=0)(hi:S.i<L.length):Hf L (JY u L S d) R (.mk o [] 0 at_ [x,y]):=by
 rw[JY]
 split
 ·exact .inl (by assumption)
 ·rename_i hd
  have hE:Qd L S d=S:=by
   unfold Qd at hd ⊢
   split
   ·rename_i h30;rw[if_pos h30]at hd;exact absurd (Decidable.not_not.1 hd) (XG Qz)
   ·rfl
  rw[hE]
  have ho:o=[97,110,100]∨o=[111,114]∨o=[105,109,112]∨o=[105,102,102]:=by simpa [oneOf]using ho
  rcases ho with rfl|rfl|rfl|rfl
  ·have h1:Hf L (u S) (⟨3,[38],0,(a:Int)⟩::T) x:=h1;have h3:Hf L (ZR u L S) R (.mk [97,110,100] [] 0 at_ [x,y]):=NY h1 h2 (hn.less Qz);have h4:Hf L (V3 u L S) R (.mk [97,110,100] [] 0 at_ [x,y]):=Xe h3 (hn.less Qz);refine Xe ?_ (hn.less Qz)
   cases L.length with
   |zero=>exact h4
   |succ n=>
    rw[JO];rcases h4 with h4|⟨h5,b5⟩
    ·rw[V6 h4];exact .inl h4
    ·rw[hn.no b5 Qz];exact .inr ⟨h5,b5⟩
  ·have h1:Hf L (u S) (⟨3,[124],0,(a:Int)⟩::T) x:=h1;have h4:Hf L (V3 u L S) R (.mk [111,114] [] 0 at_ [x,y]):=NY (Xe h1 (.sg Qz)) (fun S' b=>Xe (h2 S' b) (hn.less Qz)) (hn.less Qz);refine Xe ?_ (hn.less Qz)
   cases L.length with
   |zero=>exact h4
   |succ n=>
    rw[JO];rcases h4 with h4|⟨h5,b5⟩
    ·rw[V6 h4];exact .inl h4
    ·rw[hn.no b5 Qz];exact .inr ⟨h5,b5⟩
  ·exact Xe (xo h1 h2 hn Qq) (hn.less Qz)
  ·exact NY (eb h1 Qz) (fun S' b=>BX (h2 S' b) hn) (hn.less Qz)
end
section
variable {L:List Tk}
theorem SC: ∀(n:Nat) (k:Nd),Xl k≤n→Ji k=true→ ∀(a:Nat) (R:List Tk),Hg R [[40]]→ ∃t T,Zq a (Jp k)++R=t::T∧(t.k=1→Hg T [[40]])
 |0,k,hn,_=>by have:=Wk k;omega
 |n+1,k,hn,h=>fun a R hR=>by
  rcases YD h with⟨s,at_,_,rfl⟩|⟨z,at_,_,_,rfl⟩|⟨s,z,a1,a2,_,_,_,rfl⟩|⟨at_,ks,_,_,rfl⟩|⟨o,at_,x,y,ho,hx,_,_,rfl⟩
  ·exact⟨_,_,rfl,fun _=>hR⟩
  ·exact⟨_,_,rfl,fun h=>absurd h (show¬(2:Int)=1 by decide)⟩
  ·exact⟨_,_,rfl,fun _=>.sg Qz⟩
  ·exact⟨_,_,rfl,fun h=>absurd h (show¬(3:Int)=1 by decide)⟩
  ·rw[E1 ho,Y3,List.append_assoc];simp only[Xl,Eo]at hn;refine SC n x Qq hx a _ ?_
   rcases ET ho with rfl|rfl|rfl<;>exact .sg Qz
theorem T7{S:PS}{t:Tk}{T:List Tk}(b:ZL L S (t::T))(h:t.k=1→Hg T [[40]]):Up L S=false:=by
 by_cases hk:t.k=1
 ·obtain⟨q,V,rfl,hq⟩:=h hk;have b2:=b.next (by rw[hk];decide);have h2:=b2.get;rw[b.ni (by rw[hk];decide)]at h2;unfold Up;rw[b.now,h2];rcases hq with hq|hq
  ·simp[hq]
  ·simp at hq;simp[hq]
 ·unfold Up;rw[b.now];simp[hk]
def OM(o:List Nat):Bool:=oneOf o [[101,113],[110,101],[108,116],[108,101],[105,110],[110,111,116,105,110],[115,117,98]]
theorem Kx(h:OM o=true):o=[101,113]∨o=[110,101]∨o=[108,116]∨o=[108,101]∨o=[105,110]∨o=[110,111,116,105,110]∨o=[115,117,98]:=by simpa [OM,oneOf]using h
theorem wo(h:OM o=true): ∃w,(∀(a:Nat) (R:List Tk),Zq a [XI o]++R=⟨3,w,0,(a:Int)⟩::R)∧w∉fW∧w∉[[40]]∧ ∀(S:PS) (a:Int) (R:List Tk),ZL L S (⟨3,w,0,a⟩::R)→YG L S=o:=by
 rcases Kx h with rfl|rfl|rfl|rfl|rfl|rfl|rfl
 ·exact⟨[61],fun a R=>rfl,by decide,by decide,fun S a R b=>by simp[YG,b.is]⟩
 ·exact⟨[126,61],fun a R=>rfl,by decide,by decide,fun S a R b=>by simp[YG,b.is]⟩
 ·exact⟨[60],fun a R=>rfl,by decide,by decide,fun S a R b=>by simp[YG,b.is]⟩
 ·exact⟨[60,61],fun a R=>rfl,by decide,by decide,fun S a R b=>by simp[YG,b.is]⟩
 ·exact⟨[105,110],fun a R=>rfl,by decide,by decide,fun S a R b=>by simp[YG,b.is]⟩
 ·exact⟨[110,111,116,105,110],fun a R=>rfl,by decide,by decide,fun S a R b=>by simp[YG,b.is]⟩
 ·exact⟨[115,117,98],fun a R=>rfl,by decide,by decide,fun S a R b=>by simp[YG,b.is]⟩
theorem wq{S:PS}{R:List Tk}(b:ZL L S R)(h:Hg R xx):YG L S=[]:=by
 rw[YG,h.no b Qz,if_neg Qz,h.no b Qz,if_neg Qz,h.no b Qz,if_neg Qz,h.no b Qz,if_neg Qz,h.no b Qz,if_neg Qz,h.no b Qz,if_neg Qz,h.no b Qz,if_neg Qz]
theorem jr{m:Nd}(h:Yq m (.mk YO s 0 at_ [])=true):WZ m=[118,97,114]∧Zf m=s:=by
 obtain⟨o,s',z,a,l⟩:=m;simp only[Yq,Bool.and_eq_true,decide_eq_true_eq]at h;exact⟨h.1,h.2.1⟩
theorem yR{S:PS}(hc:Up L S=false)(hr:YG L (Qn L S).1=[]):(Jt L S).1=(if WZ (Qn L S).2≠[118,97,114]then Qw (Qn L S).1 (Qc L S).a 2 else(Qn L S).1)∧(Jt L S).2=.mk [105,115] (Zf (Qn L S).2) 0 (Qc L S).a []:=by
 rw[Jt,if_neg (by simp[hc]),if_neg (fun h=>h.2 hr)];exact⟨rfl,rfl⟩
theorem wZ(hs:Yr s=true):Reads L (Jt L) xx [.m s] (.mk [105,115] s 0 at_ []):=fun a S R b hR=>by
 have ht:Ji (.mk YO s 0 at_ [])=true:=by rw[UB,if_pos rfl,hs];rfl
 have hp:Jp (.mk YO s 0 at_ [])=[.m s]:=by rw[Jp];rfl
 obtain⟨h1,h2⟩:=Im (L:=L) ht a S R (by rw[hp];exact b) (hR.less Qz);have b:ZL L S (⟨1,s,0,(a:Int)⟩::R):=b;obtain⟨h3,h4⟩:=jr h1;obtain⟨h5,h6⟩:=yR (T7 b fun _=>hR.less Qz) (wq h2 hR);rw[h5,h6,if_neg (by simp[h3]),h4];exact⟨by simp[Yq,YQ],h2⟩
theorem zL{x y:Nd}(ho:OM o=true)(hx:Ji x=true)(hy:Ji y=true):Reads L (Jt L) xx (Jp x++(.b::XI o:: .b::Jp y)) (.mk o [] 0 at_ [x,y]):=fun a S R b hR=>by
 obtain⟨w,hw,hw1,hw2,hw3⟩:=wo (L:=L) ho
 have e: ∀c,Zq c (.b::XI o:: .b::Jp y)=Zq (c+1) [XI o]++Zq (c+1+(Uc [XI o]).length+1) (Jp y):=fun c=>by
  show Zq (c+1) ([XI o]++(.b::Jp y))=_;rw[Y3];rfl
 rw[Y3,List.append_assoc,e,List.append_assoc,hw]at b;obtain⟨h1,h2⟩:=Im (L:=L) hx a S _ b (.sg hw1);obtain⟨h3,h4⟩:=Im (L:=L) hy _ _ R (h2.next (show(3:Int)≠4 by decide)) (hR.less Qz);obtain⟨t,T,et,hc⟩:=SC _ x (Nat.le_refl _) hx a _ (.sg hw2:Hg (⟨3,w,0,((a+(Uc (Jp x)).length+1:Nat):Int)⟩::(Zq (a+(Uc (Jp x)).length+1+(Uc [XI o]).length+1) (Jp y)++R)) [[40]]);have b':=b;rw[et]at b';have hr:=hw3 _ _ _ h2
 have hne:o≠[]:=by rcases Kx ho with rfl|rfl|rfl|rfl|rfl|rfl|rfl<;>decide
 rw[Jt,if_neg (by rw[T7 b' hc];decide),if_pos ⟨h2.e,by rw[hr];exact hne⟩,hr];exact⟨by simp[Yq,YQ,h1,h3],h4⟩
theorem qg{ks:List Nd}(h6:ks.length≤6)(hk: ∀x∈ks,Ji x=true):Reads L (Jt L) xx (.m s:: .g [40]::(Zk (J5 ks)++[.g [41]])) (.mk [99,97,108,108] s 0 at_ ks):=fun a S R b hR=>by
 have b:ZL L S (⟨1,s,0,(a:Int)⟩::⟨3,[40],0,((a+s.length:Nat):Int)⟩::(Zq (a+s.length+1) (Zk (J5 ks)++[.g [41]])++R)):=b;rw[Y3,List.append_assoc]at b;have b1:=b.next (show(1:Int)≠4 by decide);have b2:=b1.next (show(3:Int)≠4 by decide);have hg:=b1.get;rw[b.ni (show(1:Int)≠4 by decide)]at hg
 have hc:Up L S=true:=by unfold Up;rw[b.now,hg];rfl
 obtain⟨h1,h2⟩:=SN (el:=Qn L) (W:=fW) (w:=[41]) Qz Qz Qz Qz (ZX ks) (fun i k p hi hp=>by
  rw[F4 hi hp]
  exact Im (hk k (List.mem_of_getElem? hi))) (fun p hp=>by
   obtain⟨i,hi,rfl⟩:=List.getElem_of_mem hp;rw[ZX]at hi;have hx:=List.getElem?_eq_getElem hi;rw[F4 hx (List.getElem?_eq_getElem (by rw[ZX];exact hi))]
   exact LI _ _ (Nat.le_refl _) (hk _ (List.mem_of_getElem? hx))) h6 b2
 rw[Jt,if_pos hc,b.now];exact⟨by simp[Yq,h1],h2⟩
theorem Al{k:Nd}(h:JS k=true):(∃o at_,oneOf o [[116,114,117,101],[102,97,108,115,101]]=true∧k=.mk o [] 0 at_ [])∨(∃at_ x,JS x=true∧k=.mk [110,111,116] [] 0 at_ [x])∨
  (∃o at_ x y,oneOf o [[97,110,100],[111,114],[105,109,112],[105,102,102]]=true∧JS x=true∧JS y=true∧k=.mk o [] 0 at_ [x,y])∨(∃o s z at_ x,oneOf o [[101,120],[97,108,108]]=true∧Yr s=true∧0≤z∧z<3∧JS x=true∧k=.mk o s z at_ [x])∨
  (∃s at_,Yr s=true∧k=.mk [105,115] s 0 at_ [])∨(∃o at_ x y,OM o=true∧Ji x=true∧Ji y=true∧k=.mk o [] 0 at_ [x,y])∨ ∃s at_ ks,Yr s=true∧ks.length≤6∧(∀x∈ks,Ji x=true)∧k=.mk [99,97,108,108] s 0 at_ ks:=by
 obtain⟨o,s,z,at_,ks⟩:=k;rw[Ys]at h
 split at h
 ·rename_i ho;obtain⟨h1,h2,h3⟩:=Kg h;have hk:=List.length_eq_zero_iff.1 (show ks.length=0 by omega);subst h1 h2 hk;exact .inl ⟨o,at_,ho,rfl⟩
 split at h
 ·rename_i ho;rw[Bool.and_eq_true]at h;obtain⟨h1,h2,h3⟩:=Kg h.1;obtain⟨x,rfl⟩:=RL h3;subst ho h1 h2;exact .inr (.inl ⟨at_,x,by simpa using h.2,rfl⟩)
 split at h
 ·rename_i ho;rw[Bool.and_eq_true]at h;obtain⟨h1,h2,h3⟩:=Kg h.1;obtain⟨x,y,rfl⟩:=RK h3;have h4:=h.2;simp only[List.all_cons,List.all_nil,Bool.and_true,Bool.and_eq_true]at h4;subst h1 h2;exact .inr (.inr (.inl ⟨o,at_,x,y,ho,h4.1,h4.2,rfl⟩))
 split at h
 ·rename_i ho;simp only[Bool.and_eq_true,decide_eq_true_eq]at h;obtain⟨h1,h2,h3,h4,h5⟩:=h;obtain⟨x,rfl⟩:=RL h4;exact .inr (.inr (.inr (.inl ⟨o,s,z,at_,x,ho,h1,h2,h3,by simpa using h5,rfl⟩)))
 split at h
 ·rename_i ho;simp only[Bool.and_eq_true,decide_eq_true_eq]at h;obtain⟨h1,h2,h3⟩:=h;have hk:=List.length_eq_zero_iff.1 (show ks.length=0 by omega);subst ho h2 hk;exact .inr (.inr (.inr (.inr (.inl ⟨s,at_,h1,rfl⟩))))
 split at h
 ·rename_i ho;rw[Bool.and_eq_true]at h;obtain⟨h1,h2,h3⟩:=Kg h.1;obtain⟨x,y,rfl⟩:=RK h3;have h4:=h.2;simp only[List.all_cons,List.all_nil,Bool.and_true,Bool.and_eq_true]at h4;subst h1 h2;exact .inr (.inr (.inr (.inr (.inr (.inl ⟨o,at_,x,y,ho,h4.1,h4.2,rfl⟩)))))
 split at h
 ·rename_i ho;simp only[Bool.and_eq_true,decide_eq_true_eq]at h;obtain⟨h1,h2,h3,h4⟩:=h;subst ho h2;exact .inr (.inr (.inr (.inr (.inr (.inr ⟨s,at_,ks,h1,by omega,fun x hx=>List.all_eq_true.1 h4 x hx,rfl⟩)))))
 ·cases h
end
end Go.Proofs.YtmgkfceomhagaaaGreatDoor
