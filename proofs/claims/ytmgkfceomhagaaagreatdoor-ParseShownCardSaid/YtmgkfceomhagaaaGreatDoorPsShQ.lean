/-
  Terms that are shown are parsed to themselves: plain law.
-/
import Derived.Test.YtmgkfceomhagaaaGreatDoorPsShP
namespace Go.Proofs.YtmgkfceomhagaaaGreatDoor
open Go Go.RowKit
set_option linter.unusedVariables false
set_option linter.unusedSectionVars false
set_option maxRecDepth 10000
variable {W:List (List Nat)} {at_ z:Int} {k:Nd} {ks:List Nd} {o s:List Nat}

section
variable {L:List Tk}
theorem ZL.len{S:PS}{T:List Tk}(h:ZL L S T):L.length-S.i=T.length:=by rw[←h.d,List.length_drop]
def SU:List (List Nat):=[[43]]
def fW:List (List Nat):=[[43],[117,110,105,111,110],[105,110,116,101,114],[92]]
theorem Hg.ne{T:List Tk}(h:Hg T W):0<T.length:=by
 obtain⟨t,R,rfl,_⟩:=h;simp
theorem Hg.less{T:List Tk}{V:List (List Nat)}(h:Hg T W)(hs: ∀v∈V,v∈W):Hg T V:=by
 obtain⟨t,R,e,ht⟩:=h;exact⟨t,R,e,ht.imp id fun x y=>x (hs _ y)⟩
theorem Hg.sg{a:Int}{R:List Tk}(h:s∉W):Hg (⟨3,s,0,a⟩::R) W:=⟨_,_,rfl,.inr h⟩
theorem BR(h:0≤z):((z.toNat:Nat):Int)=z:=Int.toNat_of_nonneg h
def Reads(L:List Tk)(el:PS→PR)(W:List (List Nat))(p:List Pc)(k:Nd):Prop:= ∀(a:Nat) (S:PS) (R:List Tk),ZL L S (Zq a p++R)→Hg R W→Yq (el S).2 k=true∧ZL L (el S).1 R
theorem TU:Reads L (QE L) SU [.m s] (.mk YO s 0 at_ [])∧Reads L (Jl L) SU [.m s] (.mk YO s 0 at_ []):=by
 have h: ∀(a:Nat) (S:PS) (R:List Tk),ZL L S (Zq a [.m s]++R)→Hg R SU→VU L S=(Qb L S,.mk YO s 0 (a:Int) [])∧ZL L (Qb L S) R∧(Qc L S).k=1:=fun a S R b hR=>by
  have b:ZL L S (⟨1,s,0,(a:Int)⟩::R):=b;have hn:=b.next (show(1:Int)≠4 by decide);refine⟨?_,hn,by rw[b.now]⟩;rw[VU,if_neg (by rw[hR.no hn Qz];decide),b.now];rfl
 refine⟨fun a S R b hR=>?_,fun a S R b hR=>?_⟩
 ·obtain⟨h1,h2,h3⟩:=h a S R b hR;rw[QE,if_pos h3,h1];exact⟨by simp[Yq,YQ],h2⟩
 ·obtain⟨h1,h2,h3⟩:=h a S R b hR;rw[Jl,if_pos h3,h1];exact⟨by simp[Yq,YQ],h2⟩
theorem M9(hz:0≤z):Reads L (QE L) SU [.n z.toNat] (.mk Xn [] z at_ [])∧Reads L (Jl L) SU [.n z.toNat] (.mk Xn [] z at_ []):=by
 have h: ∀(a:Nat) (S:PS) (R:List Tk),ZL L S (Zq a [.n z.toNat]++R)→ZL L (Qb L S) R∧Qc L S=⟨2,[],z,(a:Int)⟩:=fun a S R b=>by
  have b:ZL L S (⟨2,[],((z.toNat:Nat):Int),(a:Int)⟩::R):=b;rw[BR hz]at b;exact⟨b.next (show(2:Int)≠4 by decide),b.now⟩
 refine⟨fun a S R b hR=>?_,fun a S R b hR=>?_⟩
 ·obtain⟨h1,h2⟩:=h a S R b;rw[QE,h2];exact⟨by simp[Yq,YQ,Xn],h1⟩
 ·obtain⟨h1,h2⟩:=h a S R b;rw[Jl,h2];exact⟨by simp[Yq,YQ,Xn],h1⟩
theorem Ry{a1 a2:Int}(hz:1≤z):Reads L (QE L) SU ([.m s]++[.b,.g [43],.b,.n z.toNat]) (.mk YB [] z a1 [.mk YO s 0 a2 []])∧Reads L (Jl L) SU ([.m s]++[.b,.g [43],.b,.n z.toNat]) (.mk YB [] z a1 [.mk YO s 0 a2 []]):=by
 have h: ∀(a:Nat) (S:PS) (R:List Tk),ZL L S (Zq a ([.m s]++[.b,.g [43],.b,.n z.toNat])++R)→VU L S=(Qb L (Qb L (Qb L S)),.mk YB [] z (a:Int) [.mk YO s 0 (a:Int) []])∧ZL L (Qb L (Qb L (Qb L S))) R∧(Qc L S).k=1:=fun a S R b=>by
  have b:ZL L S (⟨1,s,0,(a:Int)⟩::⟨3,[43],0,((a+s.length+1:Nat):Int)⟩::⟨2,[],((z.toNat:Nat):Int),((a+s.length+1+1+1:Nat):Int)⟩::R):=b;rw[BR Qq]at b;have b1:=b.next (show(1:Int)≠4 by decide);have b2:=b1.next (show(3:Int)≠4 by decide);refine⟨?_,b2.next (show(2:Int)≠4 by decide),by rw[b.now]⟩;rw[VU,if_pos b1.yes,if_neg (by rw[b2.now];show¬((2:Int)≠2∨z=0);omega),b2.now,b.now];rfl
 refine⟨fun a S R b hR=>?_,fun a S R b hR=>?_⟩
 ·obtain⟨h1,h2,h3⟩:=h a S R b;rw[QE,if_pos h3,h1];exact⟨by simp[Yq,YQ],h2⟩
 ·obtain⟨h1,h2,h3⟩:=h a S R b;rw[Jl,if_pos h3,h1];exact⟨by simp[Yq,YQ],h2⟩
def Sv(p:List Pc):Prop:= ∀a R,∃t T,Zq a p++R=t::T∧(t.k≠3∨t.s=[123])
theorem Sv.app{p q:List Pc}(h:Sv p):Sv (p++q):=fun a R=>by
 obtain⟨t,T,e,ht⟩:=h a (Zq (a+(Uc p).length) q++R);exact⟨t,T,by rw[Y3,List.append_assoc,e],ht⟩
theorem N4{el:PS→PR}{W:List (List Nat)}{w:List Nat}(hw:w≠[44])(hw1:w∉W)(hw2:[44]∉W): ∀(ks:List Nd) (ps:List (List Pc)),ps.length=ks.length→(∀(i:Nat) (k:Nd) (p:List Pc),ks[i]? =some k→ps[i]? =some p→Reads L el W p k)→
  ∀(a:Nat) (S:PS) (R:List Tk) (e:Int) (l:List Nd) (k:Nat),ks≠[]→ZL L S (Zq a (Zk ps)++⟨3,w,0,e⟩::R)→l.length+ks.length≤6→ks.length≤k→
  ∃r,(Xa el L w k S l).2=l++r∧YQ r ks=true∧ZL L (Xa el L w k S l).1 R
 |[],_,_,_=>fun a S R e l k h=>absurd rfl h
 |k0::ks,[],hl,_=>by simp at hl
 |k0::ks,p::ps,hl,H=>fun a S R e l k _ b hn hk=>by
  obtain⟨k,rfl⟩: ∃j,k=j+1:=⟨k-1,by simp at hk;omega⟩;have hp:=H 0 k0 p rfl rfl;rw[Xa,if_neg (by simp[b.e]),if_neg (by simp at hn;omega)]
  match ks,ps,hl,H with
  |[],[],hl,H=>
   have b:ZL L S (Zq a p++⟨3,w,0,e⟩::R):=b;obtain⟨h1,h2⟩:=hp a S _ b (.sg hw1);rw[if_neg (by rw[h2.no (.inr hw)];decide)];exact⟨[(el S).2],rfl,by simp[YQ,h1],h2.uq⟩
  |k1::ks,p1::ps,hl,H=>
   have b:ZL L S (Zq a (p++(.g [44]:: .b::Zk (p1::ps)))++⟨3,w,0,e⟩::R):=b;rw[Y3,List.append_assoc]at b;obtain⟨h1,h2⟩:=hp a S _ b (.sg hw2);have h2:ZL L (el S).1 (⟨3,[44],0,((a+(Uc p).length:Nat):Int)⟩::(Zq (a+(Uc p).length+1+1) (Zk (p1::ps))++⟨3,w,0,e⟩::R)):=h2;rw[if_pos h2.yes];obtain⟨r,h3,h4,h5⟩:=N4 hw hw1 hw2 (k1::ks) (p1::ps) (by simpa using hl) (fun i k p hk hp=>H (i+1) k p hk hp) _ _ R e (l++[(el S).2]) k Q3 (h2.next (show(3:Int)≠4 by decide)) (by simp at hn ⊢;omega) (by simp at hk ⊢;omega);exact⟨(el S).2::r,by rw[h3];simp,by simp[YQ,h1,h4],h5⟩
theorem zJ{ps:List (List Pc)}(h:ps≠[])(hh: ∀p∈ps,Sv p):Sv (Zk ps):=by
 match ps,h with
 |[p],_=>exact hh p Q3
 |p::q::ps,_=>exact(hh p Q3).app
theorem SN{el:PS→PR}{w:List Nat}(hw:w≠[44])(hw0:w≠[123])(hw1:w∉W)(hw2:[44]∉W){ps:List (List Pc)}(hl:ps.length=ks.length)(H: ∀(i:Nat) (k:Nd) (p:List Pc),ks[i]? =some k→ps[i]? =some p→Reads L el W p k)(hh: ∀p∈ps,Sv p)(h6:ks.length≤6)
  {a:Nat} {S:PS} {R:List Tk} {e:Int} (b:ZL L S (Zq a (Zk ps)++⟨3,w,0,e⟩::R)):YQ (Y5 el L w S).2 ks=true∧ZL L (Y5 el L w S).1 R:=by
 match ks,ps,hl,H,hh with
 |[],[],_,_,_=>
  have b:ZL L S (⟨3,w,0,e⟩::R):=b;rw[Y5,if_pos b.yes];exact⟨rfl,b.next (show(3:Int)≠4 by decide)⟩
 |k::ks,p::ps,hl,H,hh=>
  obtain⟨t,T,e1,ht⟩:=zJ (ps:=p::ps) Q3 hh a (⟨3,w,0,e⟩::R);have b':=b;rw[e1]at b';rw[Y5,if_neg (by rw[b'.no (ht.imp id fun x y=>hw0 (y.symm.trans x))];decide)];obtain⟨r,h1,h2,h3⟩:=N4 hw hw1 hw2 (k::ks) (p::ps) hl H a S R e [] 7 Q3 b (by simpa using h6) Qq;rw[h1];exact⟨h2,h3⟩
theorem ZX: ∀ks:List Nd,(J5 ks).length=ks.length
 |[]=>rfl
 |k::l=>by rw[J5,List.length_cons,List.length_cons,ZX l]
theorem Nq: ∀(ks:List Nd) (i:Nat) (k:Nd),ks[i]? =some k→(J5 ks)[i]? =some (Jp k)
 |[],i,k,h=>by simp at h
 |x::l,0,k,h=>by injection h with h;subst h;rfl
 |x::l,i+1,k,h=>Nq l i k h
theorem F4{i:Nat}{p:List Pc}(hk:ks[i]? =some k)(hp:(J5 ks)[i]? =some p):p=Jp k:=by
 rw[Nq ks i k hk]at hp
 injection hp with hp
 exact hp.symm
theorem Kg{m:Int}(h:U0 s z ks m=true):s=[]∧z=0∧((ks.length:Nat):Int)=m:=by
 unfold U0 at h;simp only[Bool.and_eq_true,decide_eq_true_eq]at h;exact h
theorem RL(h:((ks.length:Nat):Int)=1): ∃x,ks=[x]:=List.length_eq_one_iff.1 Qq
theorem RK(h:((ks.length:Nat):Int)=2): ∃x y,ks=[x,y]:=by
 match ks,h with
 |[x,y],_=>exact⟨x,y,rfl⟩
 |[],h=>simp at h
 |[_],h=>simp at h
 |_::_::_::_,h=>simp at h;omega
theorem YD(h:Ji k=true):(∃s at_,Yr s=true∧k=.mk YO s 0 at_ [])∨(∃z at_,0≤z∧z≤99∧k=.mk Xn [] z at_ [])∨(∃s z a1 a2,Yr s=true∧1≤z∧z≤99∧k=.mk YB [] z a1 [.mk YO s 0 a2 []])∨
  (∃at_ ks,ks.length≤6∧(∀x∈ks,Lj x=true)∧k=.mk UY [] 0 at_ ks)∨ ∃o at_ x y,JA o=true∧Ji x=true∧Ji y=true∧JA y.op=false∧k=.mk o [] 0 at_ [x,y]:=by
 obtain⟨o,s,z,at_,ks⟩:=k;rw[UB]at h
 split at h
 ·rename_i ho;simp only[Bool.and_eq_true,decide_eq_true_eq]at h;obtain⟨h0,h2,h3⟩:=h;have hk:=List.length_eq_zero_iff.1 (show ks.length=0 by omega);subst ho h2 hk;exact .inl ⟨s,at_,h0,rfl⟩
 split at h
 ·rename_i ho;simp only[Bool.and_eq_true,decide_eq_true_eq]at h;obtain⟨h1,h2,h9,h3⟩:=h;have hk:=List.length_eq_zero_iff.1 (show ks.length=0 by omega);subst ho h1 hk;exact .inr (.inl ⟨z,at_,h2,h9,rfl⟩)
 split at h
 ·rename_i ho;simp only[Bool.and_eq_true,decide_eq_true_eq]at h;obtain⟨h1,h2,h9,h3,h4⟩:=h;obtain⟨x,rfl⟩:=RL h3;obtain⟨o',s',z',a',l'⟩:=x;simp only[List.all_cons,List.all_nil,Bool.and_true,Bool.and_eq_true,decide_eq_true_eq]at h4;obtain⟨h5,h6⟩:=h4;have h5:o'=YO:=h5;subst h5;rw[UB,if_pos rfl]at h6;simp only[Bool.and_eq_true,decide_eq_true_eq]at h6;obtain⟨h10,h7,h8⟩:=h6;have hk:=List.length_eq_zero_iff.1 (show l'.length=0 by omega);subst ho h1 h7 hk;exact .inr (.inr (.inl ⟨s',z,at_,a',h10,h2,h9,rfl⟩))
 split at h
 ·rename_i ho;simp only[Bool.and_eq_true,decide_eq_true_eq]at h;obtain⟨h1,h2,h3,h4⟩:=h;subst ho h1 h2;exact .inr (.inr (.inr (.inl ⟨at_,ks,by omega,fun x hx=>List.all_eq_true.1 h4 x hx,rfl⟩)))
 split at h
 ·rename_i ho;simp only[Bool.and_eq_true]at h;obtain⟨h1,h2,h3⟩:=h;obtain⟨h4,h5,h6⟩:=Kg h1;obtain⟨x,y,rfl⟩:=RK h6;simp only[List.all_cons,List.all_nil,Bool.and_true,Bool.and_eq_true]at h2;subst h4 h5;exact .inr (.inr (.inr (.inr ⟨o,at_,x,y,ho,h2.1,h2.2,by simpa using h3,rfl⟩)))
 ·cases h
theorem ET(h:JA o=true):o=[117,110,105,111,110]∨o=[105,110,116,101,114]∨o=[109,105,110,117,115]:=by
 unfold JA at h
 simpa using h
theorem E1{x y:Nd}(h:JA o=true):Jp (.mk o s z at_ [x,y])=Jp x++(.b::XI o:: .b::Jp y):=by
 rcases ET h with rfl|rfl|rfl<;>rw[Jp]<;>rfl
theorem LI: ∀(n:Nat) (k:Nd),Xl k≤n→Ji k=true→Sv (Jp k)
 |0,k,hn,_=>by have:=Wk k;omega
 |n+1,k,hn,h=>by
  rcases YD h with⟨s,a,_,rfl⟩|⟨z,a,_,_,rfl⟩|⟨s,z,a1,a2,_,_,_,rfl⟩|⟨a,ks,_,_,rfl⟩|⟨o,a,x,y,ho,hx,_,_,rfl⟩
  ·exact fun a R=>⟨_,_,rfl,.inl (show(1:Int)≠3 by decide)⟩
  ·exact fun a R=>⟨_,_,rfl,.inl (show(2:Int)≠3 by decide)⟩
  ·exact fun a R=>⟨_,_,rfl,.inl (show(1:Int)≠3 by decide)⟩
  ·exact fun a R=>⟨_,_,rfl,.inr rfl⟩
  ·rw[E1 ho];refine(LI n x ?_ hx).app;simp only[Xl,Eo]at hn;omega
theorem D0(h:Ji k=true)(hs:JA k.op=false):Reads L (QE L) SU (Jp k) k∧(k.op≠UY→Reads L (Jl L) SU (Jp k) k):=by
 have one: ∀{k:Nd},Ji k=true→JA k.op=false→k.op≠UY→Reads L (QE L) SU (Jp k) k∧Reads L (Jl L) SU (Jp k) k:=fun{k} h hs hn=>by
  rcases YD h with⟨s,a,_,rfl⟩|⟨z,a,hz,_,rfl⟩|⟨s,z,a1,a2,_,hz,_,rfl⟩|⟨a,ks,_,_,rfl⟩|⟨o,a,x,y,ho,hx,_,_,rfl⟩
  ·exact TU
  ·exact M9 hz
  ·exact Ry hz
  ·exact absurd rfl hn
  ·exact absurd (ho.symm.trans hs) Qz
 by_cases hn:k.op=UY
 ·refine⟨?_,fun h=>absurd hn h⟩;rcases YD h with⟨s,a,_,rfl⟩|⟨z,a,hz,_,rfl⟩|⟨s,z,a1,a2,_,hz,_,rfl⟩|⟨at_,ks,h6,hp,rfl⟩|⟨o,a,x,y,ho,hx,_,_,rfl⟩
  ·exact absurd hn (show¬YO=UY by decide)
  ·exact absurd hn (show¬Xn=UY by decide)
  ·exact absurd hn (show¬YB=UY by decide)
  ·intro a S R b hR
   have e:Jp (.mk UY [] 0 at_ ks)=.g [123]::(Zk (J5 ks)++[.g [125]]):=by rw[Jp];rfl
   rw[e]at b;have b:ZL L S (⟨3,[123],0,(a:Int)⟩::(Zq (a+1) (Zk (J5 ks)++[.g [125]])++R)):=b;have b1:=b.next (show(3:Int)≠4 by decide);rw[Y3,List.append_assoc]at b1
   have hpk: ∀(i:Nat) (k:Nd),ks[i]? =some k→Ji k=true∧JA k.op=false∧k.op≠UY:=fun i k hk=>by
    have:=hp k (List.mem_of_getElem? hk);unfold Lj at this
    simpa using this
   obtain⟨h1,h2⟩:=SN (el:=Jl L) (W:=SU) (w:=[125]) Qz Qz Qz Qz (ZX ks) (fun i k p hk hp=>by
    obtain⟨x1,x2,x3⟩:=hpk i k hk;rw[F4 hk hp]
    exact(one x1 x2 x3).2) (fun p hp=>by
     obtain⟨i,hi,rfl⟩:=List.getElem_of_mem hp;rw[ZX]at hi;have hk:=List.getElem?_eq_getElem hi;rw[F4 hk (List.getElem?_eq_getElem (by rw[ZX];exact hi))]
     exact LI _ _ (Nat.le_refl _) (hpk i _ hk).1) h6 b1
   rw[QE,b.now,if_neg (show¬(3:Int)=1 by decide),if_neg (show¬(3:Int)=2 by decide),if_pos b.yes];exact⟨by simp[Yq,UY,h1],h2⟩
  ·exact absurd (ho.symm.trans hs) Qz
 ·exact⟨(one h hs hn).1,fun _=>(one h hs hn).2⟩
theorem xc(h:JA o=true){a:Nat}{R:List Tk}{S:PS}(b:ZL L S (Zq a [XI o]++R)):Lk L S=some o∧ZL L (Qb L S) R:=by
 rcases ET h with rfl|rfl|rfl
 ·have b:ZL L S (⟨3,[117,110,105,111,110],0,(a:Int)⟩::R):=b;exact⟨by rw[Lk,if_pos b.yes,b.now],b.next (show(3:Int)≠4 by decide)⟩
 ·have b:ZL L S (⟨3,[105,110,116,101,114],0,(a:Int)⟩::R):=b;exact⟨by rw[Lk,if_neg (by rw[b.no (.inr (show [105,110,116,101,114]≠[117,110,105,111,110] by decide))];decide),if_pos b.yes,b.now],b.next (show(3:Int)≠4 by decide)⟩
 ·have b:ZL L S (⟨3,[92],0,(a:Int)⟩::R):=b;exact⟨by rw[Lk,if_neg (by rw[b.no (.inr (show [92]≠[117,110,105,111,110] by decide))];decide),if_neg (by rw[b.no (.inr (show [92]≠[105,110,116,101,114] by decide))];decide),if_pos b.yes],b.next (show(3:Int)≠4 by decide)⟩
theorem vh(h:JA o=true)(a:Nat)(R:List Tk):Hg (Zq a [XI o]++R) SU:=by
 rcases ET h with rfl|rfl|rfl<;>exact .sg Qz
theorem Ns: ∀(n:Nat) (k:Nd),Xl k≤n→Ji k=true→ ∀(a:Nat) (S:PS) (R:List Tk),ZL L S (Zq a (Jp k)++R)→Hg R SU→ ∃j m T,Qn L S=ZY L j T m∧ZL L T R∧L.length≤j+T.i∧Yq m k=true
 |0,k,hn,_=>by have:=Wk k;omega
 |n+1,k,hn,h=>fun a S R b hR=>by
  by_cases hs:JA k.op=true
  ·rcases YD h with⟨s,a,_,rfl⟩|⟨z,a,hz,_,rfl⟩|⟨s,z,a1,a2,_,hz,_,rfl⟩|⟨at_,ks,h6,hp,rfl⟩|⟨o,at_,x,y,ho,hx,hy,hy2,rfl⟩
   ·exact absurd hs (show¬JA YO=true by decide)
   ·exact absurd hs (show¬JA Xn=true by decide)
   ·exact absurd hs (show¬JA YB=true by decide)
   ·exact absurd hs (show¬JA UY=true by decide)
   ·rw[E1 ho,Y3,List.append_assoc]at b
    have e: ∀c,Zq c (.b::XI o:: .b::Jp y)=Zq (c+1) [XI o]++Zq (c+1+(Uc [XI o]).length+1) (Jp y):=fun c=>by
     show Zq (c+1) ([XI o]++(.b::Jp y))=_;rw[Y3];rfl
    rw[e,List.append_assoc]at b;simp only[Xl,Eo]at hn;obtain⟨j,m,T,h1,h2,h3,h4⟩:=Ns n x Qq hx a S _ b (vh ho _ _);obtain⟨h5,h6⟩:=xc ho h2;obtain⟨h7,h8⟩:=(D0 (L:=L) hy hy2).1 _ _ R h6 hR
    have hT:T.i<L.length:=by
     have:=h2.len;have hne:=(vh ho (a+(Uc (Jp x)).length+1) (Zq (a+(Uc (Jp x)).length+1+(Uc [XI o]).length+1) (Jp y)++R)).ne;omega
    obtain⟨j,rfl⟩: ∃i,j=i+1:=⟨j-1,by omega⟩;refine⟨j,_,_,h1.trans (VH h2.e h5),h8,?_,by simp[Yq,YQ,h4,h7]⟩;have l2:=h2.len;have l8:=h8.len;have hr:=hR.ne
    have:(Zq (a+(Uc (Jp x)).length+1) [XI o]++(Zq (a+(Uc (Jp x)).length+1+(Uc [XI o]).length+1) (Jp y)++R)).length>R.length:=by
     rw[List.length_append,List.length_append]
     have:0<(Zq (a+(Uc (Jp x)).length+1) [XI o]).length:=by rcases ET ho with rfl|rfl|rfl<;>exact Nat.succ_pos _
     omega
    omega
  ·obtain⟨h1,h2⟩:=(D0 (L:=L) h (by simpa using hs)).1 a S R b hR;exact⟨L.length,_,_,rfl,h2,Nat.le_add_right _ _,h1⟩
theorem Im(h:Ji k=true):Reads L (Qn L) fW (Jp k) k:=fun a S R b hR=>by
 obtain⟨j,m,T,h1,h2,h3,h4⟩:=Ns _ k (Nat.le_refl _) h a S R b (hR.less Qz)
 have hn:Lk L T=none:=by rw[Lk,hR.no h2 Qz,if_neg Qz,hR.no h2 Qz,if_neg Qz,hR.no h2 Qz,if_neg Qz]
 have hT:T.i<L.length:=by
  have:=h2.len;have:=hR.ne;omega
 obtain⟨j,rfl⟩: ∃i,j=i+1:=⟨j-1,by omega⟩;rw[h1,AJ h2.e hn];exact⟨h4,h2⟩
end
end Go.Proofs.YtmgkfceomhagaaaGreatDoor
