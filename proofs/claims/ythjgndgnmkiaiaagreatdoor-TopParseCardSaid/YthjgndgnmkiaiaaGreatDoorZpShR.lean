/-
  Terms that are shown are parsed to themselves: plain law.
-/
import Derived.Test.YthjgndgnmkiaiaaGreatDoorZpShP
set_option maxRecDepth 10000
set_option linter.unusedSectionVars false
set_option linter.unusedVariables false
namespace Go.Proofs.YthjgndgnmkiaiaaGreatDoor
open Go Go.RowKit
section
variable {W:List (List Nat)} {at_ z:Int} {k:Nd} {ks:List Nd} {o s:List Nat}

section
variable {L:List Tk}
theorem Ys.len{S:PS}{T:List Tk}(h:Ys L S T):L.length-S.i=T.length:=by rw[←h.d,List.length_drop]
def M5:List (List Nat):=[[43]]
def nF:List (List Nat):=[[43],[117,110,105,111,110],[105,110,116,101,114],[92]]
theorem Hm.ne{T:List Tk}(h:Hm T W):0<T.length:=by
 obtain⟨t,R,rfl,_⟩:=h;simp
theorem Hm.less{T:List Tk}{V:List (List Nat)}(h:Hm T W)(hs: ∀v∈V,v∈W):Hm T V:=by
 obtain⟨t,R,e,ht⟩:=h;exact⟨t,R,e,ht.imp id fun x y=>x (hs _ y)⟩
theorem Hm.sg{a:Int}{R:List Tk}(h:s∉W):Hm (⟨3,s,0,a⟩::R) W:=⟨_,_,rfl,.inr h⟩
theorem MC(h:0≤z):((z.toNat:Nat):Int)=z:=Int.toNat_of_nonneg h
def Reads(L:List Tk)(el:PS→PR)(W:List (List Nat))(p:List Pc)(k:Nd):Prop:= ∀(a:Nat) (S:PS) (R:List Tk),Ys L S (UC a p++R)→Hm R W→Un (el S).2 k=true∧Ys L (el S).1 R
theorem qE:Reads L (QX L) M5 [.m s] (.mk Y7 s 0 at_ [])∧Reads L (U6 L) M5 [.m s] (.mk Y7 s 0 at_ []):=by
 have h: ∀(a:Nat) (S:PS) (R:List Tk),Ys L S (UC a [.m s]++R)→Hm R M5→N5 L S=(Qd L S,.mk Y7 s 0 (a:Int) [])∧Ys L (Qd L S) R∧(Qc L S).k=1:=fun a S R b hR=>by
  have b:Ys L S (⟨1,s,0,(a:Int)⟩::R):=b;have hn:=b.next (show(1:Int)≠4 by decide);refine⟨?_,hn,by rw[b.now]⟩;rw[N5,if_neg (by rw[hR.no hn Qo];decide),b.now];rfl
 refine⟨fun a S R b hR=>?_,fun a S R b hR=>?_⟩
 ·obtain⟨h1,h2,h3⟩:=h a S R b hR;rw[QX,if_pos h3,h1];exact⟨by simp[Un,Yd],h2⟩
 ·obtain⟨h1,h2,h3⟩:=h a S R b hR;rw[U6,if_pos h3,h1];exact⟨by simp[Un,Yd],h2⟩
theorem jA(hz:0≤z):Reads L (QX L) M5 [.n z.toNat] (.mk ZS [] z at_ [])∧Reads L (U6 L) M5 [.n z.toNat] (.mk ZS [] z at_ []):=by
 have h: ∀(a:Nat) (S:PS) (R:List Tk),Ys L S (UC a [.n z.toNat]++R)→Ys L (Qd L S) R∧Qc L S=⟨2,[],z,(a:Int)⟩:=fun a S R b=>by
  have b:Ys L S (⟨2,[],((z.toNat:Nat):Int),(a:Int)⟩::R):=b;rw[MC hz]at b;exact⟨b.next (show(2:Int)≠4 by decide),b.now⟩
 refine⟨fun a S R b hR=>?_,fun a S R b hR=>?_⟩
 ·obtain⟨h1,h2⟩:=h a S R b;rw[QX,h2];exact⟨by simp[Un,Yd,ZS],h1⟩
 ·obtain⟨h1,h2⟩:=h a S R b;rw[U6,h2];exact⟨by simp[Un,Yd,ZS],h1⟩
theorem SO{a1 a2:Int}(hz:1≤z):Reads L (QX L) M5 ([.m s]++[.b,.g [43],.b,.n z.toNat]) (.mk Yr [] z a1 [.mk Y7 s 0 a2 []])∧Reads L (U6 L) M5 ([.m s]++[.b,.g [43],.b,.n z.toNat]) (.mk Yr [] z a1 [.mk Y7 s 0 a2 []]):=by
 have h: ∀(a:Nat) (S:PS) (R:List Tk),Ys L S (UC a ([.m s]++[.b,.g [43],.b,.n z.toNat])++R)→N5 L S=(Qd L (Qd L (Qd L S)),.mk Yr [] z (a:Int) [.mk Y7 s 0 (a:Int) []])∧Ys L (Qd L (Qd L (Qd L S))) R∧(Qc L S).k=1:=fun a S R b=>by
  have b:Ys L S (⟨1,s,0,(a:Int)⟩::⟨3,[43],0,((a+s.length+1:Nat):Int)⟩::⟨2,[],((z.toNat:Nat):Int),((a+s.length+1+1+1:Nat):Int)⟩::R):=b;rw[MC Qk]at b;have b1:=b.next (show(1:Int)≠4 by decide);have b2:=b1.next (show(3:Int)≠4 by decide);refine⟨?_,b2.next (show(2:Int)≠4 by decide),by rw[b.now]⟩;rw[N5,if_pos b1.yes,if_neg (by rw[b2.now];show¬((2:Int)≠2∨z=0);omega),b2.now,b.now];rfl
 refine⟨fun a S R b hR=>?_,fun a S R b hR=>?_⟩
 ·obtain⟨h1,h2,h3⟩:=h a S R b;rw[QX,if_pos h3,h1];exact⟨by simp[Un,Yd],h2⟩
 ·obtain⟨h1,h2,h3⟩:=h a S R b;rw[U6,if_pos h3,h1];exact⟨by simp[Un,Yd],h2⟩
def TX(p:List Pc):Prop:= ∀a R,∃t T,UC a p++R=t::T∧(t.k≠3∨t.s=[123])
theorem TX.app{p q:List Pc}(h:TX p):TX (p++q):=fun a R=>by
 obtain⟨t,T,e,ht⟩:=h a (UC (a+(QQ p).length) q++R);exact⟨t,T,by rw[JI,List.append_assoc,e],ht⟩
theorem NS{el:PS→PR}{W:List (List Nat)}{w:List Nat}(hw:w≠[44])(hw1:w∉W)(hw2:[44]∉W): ∀(ks:List Nd) (ps:List (List Pc)),ps.length=ks.length→(∀(i:Nat) (k:Nd) (p:List Pc),ks[i]? =some k→ps[i]? =some p→Reads L el W p k)→
  ∀(a:Nat) (S:PS) (R:List Tk) (e:Int) (l:List Nd) (k:Nat),ks≠[]→Ys L S (UC a (UF ps)++⟨3,w,0,e⟩::R)→l.length+ks.length≤6→ks.length≤k→
  ∃r,(AL el L w k S l).2=l++r∧Yd r ks=true∧Ys L (AL el L w k S l).1 R
 |[],_,_,_=>fun a S R e l k h=>absurd rfl h
 |k0::ks,[],hl,_=>by simp at hl
 |k0::ks,p::ps,hl,H=>fun a S R e l k _ b hn hk=>by
  obtain⟨k,rfl⟩: ∃j,k=j+1:=⟨k-1,by simp at hk;omega⟩;have hp:=H 0 k0 p rfl rfl;rw[AL,if_neg (by simp[b.e]),if_neg (by simp at hn;omega)]
  match ks,ps,hl,H with
  |[],[],hl,H=>
   have b:Ys L S (UC a p++⟨3,w,0,e⟩::R):=b;obtain⟨h1,h2⟩:=hp a S _ b (.sg hw1);rw[if_neg (by rw[h2.no (.inr hw)];decide)];exact⟨[(el S).2],rfl,by simp[Yd,h1],h2.CT⟩
  |k1::ks,p1::ps,hl,H=>
   have b:Ys L S (UC a (p++(.g [44]:: .b::UF (p1::ps)))++⟨3,w,0,e⟩::R):=b;rw[JI,List.append_assoc]at b;obtain⟨h1,h2⟩:=hp a S _ b (.sg hw2);have h2:Ys L (el S).1 (⟨3,[44],0,((a+(QQ p).length:Nat):Int)⟩::(UC (a+(QQ p).length+1+1) (UF (p1::ps))++⟨3,w,0,e⟩::R)):=h2;rw[if_pos h2.yes];obtain⟨r,h3,h4,h5⟩:=NS hw hw1 hw2 (k1::ks) (p1::ps) (by simpa using hl) (fun i k p hk hp=>H (i+1) k p hk hp) _ _ R e (l++[(el S).2]) k Q1 (h2.next (show(3:Int)≠4 by decide)) (by simp at hn ⊢;omega) (by simp at hk ⊢;omega);exact⟨(el S).2::r,by rw[h3];simp,by simp[Yd,h1,h4],h5⟩
theorem wk{ps:List (List Pc)}(h:ps≠[])(hh: ∀p∈ps,TX p):TX (UF ps):=by
 match ps,h with
 |[p],_=>exact hh p Q1
 |p::q::ps,_=>exact(hh p Q1).app
theorem Mx{el:PS→PR}{w:List Nat}(hw:w≠[44])(hw0:w≠[123])(hw1:w∉W)(hw2:[44]∉W){ps:List (List Pc)}(hl:ps.length=ks.length)(H: ∀(i:Nat) (k:Nd) (p:List Pc),ks[i]? =some k→ps[i]? =some p→Reads L el W p k)(hh: ∀p∈ps,TX p)(h6:ks.length≤6)
  {a:Nat} {S:PS} {R:List Tk} {e:Int} (b:Ys L S (UC a (UF ps)++⟨3,w,0,e⟩::R)):Yd (XL el L w S).2 ks=true∧Ys L (XL el L w S).1 R:=by
 match ks,ps,hl,H,hh with
 |[],[],_,_,_=>
  have b:Ys L S (⟨3,w,0,e⟩::R):=b;rw[XL,if_pos b.yes];exact⟨rfl,b.next (show(3:Int)≠4 by decide)⟩
 |k::ks,p::ps,hl,H,hh=>
  obtain⟨t,T,e1,ht⟩:=wk (ps:=p::ps) Q1 hh a (⟨3,w,0,e⟩::R);have b':=b;rw[e1]at b';rw[XL,if_neg (by rw[b'.no (ht.imp id fun x y=>hw0 (y.symm.trans x))];decide)];obtain⟨r,h1,h2,h3⟩:=NS hw hw1 hw2 (k::ks) (p::ps) hl H a S R e [] 7 Q1 b (by simpa using h6) Qk;rw[h1];exact⟨h2,h3⟩
theorem ZA: ∀ks:List Nd,(Js ks).length=ks.length
 |[]=>rfl
 |k::l=>by rw[Js,List.length_cons,List.length_cons,ZA l]
theorem ND: ∀(ks:List Nd) (i:Nat) (k:Nd),ks[i]? =some k→(Js ks)[i]? =some (QP k)
 |[],i,k,h=>by simp at h
 |x::l,0,k,h=>by injection h with h;subst h;rfl
 |x::l,i+1,k,h=>ND l i k h
theorem F4{i:Nat}{p:List Pc}(hk:ks[i]? =some k)(hp:(Js ks)[i]? =some p):p=QP k:=by
 rw[ND ks i k hk]at hp
 injection hp with hp
 exact hp.symm
theorem Kv{m:Int}(h:JQ s z ks m=true):s=[]∧z=0∧((ks.length:Nat):Int)=m:=by
 unfold JQ at h;simp only[Bool.and_eq_true,decide_eq_true_eq]at h;exact h
theorem Tq(h:((ks.length:Nat):Int)=1): ∃x,ks=[x]:=List.length_eq_one_iff.1 Qk
theorem Tp(h:((ks.length:Nat):Int)=2): ∃x y,ks=[x,y]:=by
 match ks,h with
 |[x,y],_=>exact⟨x,y,rfl⟩
 |[],h=>simp at h
 |[_],h=>simp at h
 |_::_::_::_,h=>simp at h;omega
theorem Yx(h:QM k=true):(∃s at_,Ui s=true∧k=.mk Y7 s 0 at_ [])∨(∃z at_,0≤z∧z≤99∧k=.mk ZS [] z at_ [])∨(∃s z a1 a2,Ui s=true∧1≤z∧z≤99∧k=.mk Yr [] z a1 [.mk Y7 s 0 a2 []])∨
  (∃at_ ks,ks.length≤6∧(∀x∈ks,L6 x=true)∧k=.mk U3 [] 0 at_ ks)∨ ∃o at_ x y,Jf o=true∧QM x=true∧QM y=true∧Jf y.op=false∧k=.mk o [] 0 at_ [x,y]:=by
 obtain⟨o,s,z,at_,ks⟩:=k;rw[Uf]at h
 split at h
 ·rename_i ho;simp only[Bool.and_eq_true,decide_eq_true_eq]at h;obtain⟨h0,h2,h3⟩:=h;have hk:=List.length_eq_zero_iff.1 (show ks.length=0 by omega);subst ho h2 hk;exact .inl ⟨s,at_,h0,rfl⟩
 split at h
 ·rename_i ho;simp only[Bool.and_eq_true,decide_eq_true_eq]at h;obtain⟨h1,h2,h9,h3⟩:=h;have hk:=List.length_eq_zero_iff.1 (show ks.length=0 by omega);subst ho h1 hk;exact .inr (.inl ⟨z,at_,h2,h9,rfl⟩)
 split at h
 ·rename_i ho;simp only[Bool.and_eq_true,decide_eq_true_eq]at h;obtain⟨h1,h2,h9,h3,h4⟩:=h;obtain⟨x,rfl⟩:=Tq h3;obtain⟨o',s',z',a',l'⟩:=x;simp only[List.all_cons,List.all_nil,Bool.and_true,Bool.and_eq_true,decide_eq_true_eq]at h4;obtain⟨h5,h6⟩:=h4;have h5:o'=Y7:=h5;subst h5;rw[Uf,if_pos rfl]at h6;simp only[Bool.and_eq_true,decide_eq_true_eq]at h6;obtain⟨h10,h7,h8⟩:=h6;have hk:=List.length_eq_zero_iff.1 (show l'.length=0 by omega);subst ho h1 h7 hk;exact .inr (.inr (.inl ⟨s',z,at_,a',h10,h2,h9,rfl⟩))
 split at h
 ·rename_i ho;simp only[Bool.and_eq_true,decide_eq_true_eq]at h;obtain⟨h1,h2,h3,h4⟩:=h;subst ho h1 h2;exact .inr (.inr (.inr (.inl ⟨at_,ks,by omega,fun x hx=>List.all_eq_true.1 h4 x hx,rfl⟩)))
 split at h
 ·rename_i ho;simp only[Bool.and_eq_true]at h;obtain⟨h1,h2,h3⟩:=h;obtain⟨h4,h5,h6⟩:=Kv h1;obtain⟨x,y,rfl⟩:=Tp h6;simp only[List.all_cons,List.all_nil,Bool.and_true,Bool.and_eq_true]at h2;subst h4 h5;exact .inr (.inr (.inr (.inr ⟨o,at_,x,y,ho,h2.1,h2.2,by simpa using h3,rfl⟩)))
 ·cases h
theorem EV(h:Jf o=true):o=[117,110,105,111,110]∨o=[105,110,116,101,114]∨o=[109,105,110,117,115]:=by
 unfold Jf at h
 simpa using h
theorem Ek{x y:Nd}(h:Jf o=true):QP (.mk o s z at_ [x,y])=QP x++(.b::Vs o:: .b::QP y):=by
 rcases EV h with rfl|rfl|rfl<;>rw[QP]<;>rfl
theorem Iy: ∀(n:Nat) (k:Nd),YT k≤n→QM k=true→TX (QP k)
 |0,k,hn,_=>by have:=XJ k;omega
 |n+1,k,hn,h=>by
  rcases Yx h with⟨s,a,_,rfl⟩|⟨z,a,_,_,rfl⟩|⟨s,z,a1,a2,_,_,_,rfl⟩|⟨a,ks,_,_,rfl⟩|⟨o,a,x,y,ho,hx,_,_,rfl⟩
  ·exact fun a R=>⟨_,_,rfl,.inl (show(1:Int)≠3 by decide)⟩
  ·exact fun a R=>⟨_,_,rfl,.inl (show(2:Int)≠3 by decide)⟩
  ·exact fun a R=>⟨_,_,rfl,.inl (show(1:Int)≠3 by decide)⟩
  ·exact fun a R=>⟨_,_,rfl,.inr rfl⟩
  ·rw[Ek ho];refine(Iy n x ?_ hx).app;simp only[YT,WC]at hn;omega
theorem P8(h:QM k=true)(hs:Jf k.op=false):Reads L (QX L) M5 (QP k) k∧(k.op≠U3→Reads L (U6 L) M5 (QP k) k):=by
 have one: ∀{k:Nd},QM k=true→Jf k.op=false→k.op≠U3→Reads L (QX L) M5 (QP k) k∧Reads L (U6 L) M5 (QP k) k:=fun{k} h hs hn=>by
  rcases Yx h with⟨s,a,_,rfl⟩|⟨z,a,hz,_,rfl⟩|⟨s,z,a1,a2,_,hz,_,rfl⟩|⟨a,ks,_,_,rfl⟩|⟨o,a,x,y,ho,hx,_,_,rfl⟩
  ·exact qE
  ·exact jA hz
  ·exact SO hz
  ·exact absurd rfl hn
  ·exact absurd (ho.symm.trans hs) Qo
 by_cases hn:k.op=U3
 ·refine⟨?_,fun h=>absurd hn h⟩;rcases Yx h with⟨s,a,_,rfl⟩|⟨z,a,hz,_,rfl⟩|⟨s,z,a1,a2,_,hz,_,rfl⟩|⟨at_,ks,h6,hp,rfl⟩|⟨o,a,x,y,ho,hx,_,_,rfl⟩
  ·exact absurd hn (show¬Y7=U3 by decide)
  ·exact absurd hn (show¬ZS=U3 by decide)
  ·exact absurd hn (show¬Yr=U3 by decide)
  ·intro a S R b hR
   have e:QP (.mk U3 [] 0 at_ ks)=.g [123]::(UF (Js ks)++[.g [125]]):=by rw[QP];rfl
   rw[e]at b;have b:Ys L S (⟨3,[123],0,(a:Int)⟩::(UC (a+1) (UF (Js ks)++[.g [125]])++R)):=b;have b1:=b.next (show(3:Int)≠4 by decide);rw[JI,List.append_assoc]at b1
   have hpk: ∀(i:Nat) (k:Nd),ks[i]? =some k→QM k=true∧Jf k.op=false∧k.op≠U3:=fun i k hk=>by
    have:=hp k (List.mem_of_getElem? hk);unfold L6 at this
    simpa using this
   obtain⟨h1,h2⟩:=Mx (el:=U6 L) (W:=M5) (w:=[125]) Qo Qo Qo Qo (ZA ks) (fun i k p hk hp=>by
    obtain⟨x1,x2,x3⟩:=hpk i k hk;rw[F4 hk hp]
    exact(one x1 x2 x3).2) (fun p hp=>by
     obtain⟨i,hi,rfl⟩:=List.getElem_of_mem hp;rw[ZA]at hi;have hk:=List.getElem?_eq_getElem hi;rw[F4 hk (List.getElem?_eq_getElem (by rw[ZA];exact hi))]
     exact Iy _ _ (Nat.le_refl _) (hpk i _ hk).1) h6 b1
   rw[QX,b.now,if_neg (show¬(3:Int)=1 by decide),if_neg (show¬(3:Int)=2 by decide),if_pos b.yes];exact⟨by simp[Un,U3,h1],h2⟩
  ·exact absurd (ho.symm.trans hs) Qo
 ·exact⟨(one h hs hn).1,fun _=>(one h hs hn).2⟩
theorem wO(h:Jf o=true){a:Nat}{R:List Tk}{S:PS}(b:Ys L S (UC a [Vs o]++R)):CO L S=some o∧Ys L (Qd L S) R:=by
 rcases EV h with rfl|rfl|rfl
 ·have b:Ys L S (⟨3,[117,110,105,111,110],0,(a:Int)⟩::R):=b;exact⟨by rw[CO,if_pos b.yes,b.now],b.next (show(3:Int)≠4 by decide)⟩
 ·have b:Ys L S (⟨3,[105,110,116,101,114],0,(a:Int)⟩::R):=b;exact⟨by rw[CO,if_neg (by rw[b.no (.inr (show [105,110,116,101,114]≠[117,110,105,111,110] by decide))];decide),if_pos b.yes,b.now],b.next (show(3:Int)≠4 by decide)⟩
 ·have b:Ys L S (⟨3,[92],0,(a:Int)⟩::R):=b;exact⟨by rw[CO,if_neg (by rw[b.no (.inr (show [92]≠[117,110,105,111,110] by decide))];decide),if_neg (by rw[b.no (.inr (show [92]≠[105,110,116,101,114] by decide))];decide),if_pos b.yes],b.next (show(3:Int)≠4 by decide)⟩
theorem aE(h:Jf o=true)(a:Nat)(R:List Tk):Hm (UC a [Vs o]++R) M5:=by
 rcases EV h with rfl|rfl|rfl<;>exact .sg Qo
theorem NG: ∀(n:Nat) (k:Nd),YT k≤n→QM k=true→ ∀(a:Nat) (S:PS) (R:List Tk),Ys L S (UC a (QP k)++R)→Hm R M5→ ∃j m T,Qi L S=Xa L j T m∧Ys L T R∧L.length≤j+T.i∧Un m k=true
 |0,k,hn,_=>by have:=XJ k;omega
 |n+1,k,hn,h=>fun a S R b hR=>by
  by_cases hs:Jf k.op=true
  ·rcases Yx h with⟨s,a,_,rfl⟩|⟨z,a,hz,_,rfl⟩|⟨s,z,a1,a2,_,hz,_,rfl⟩|⟨at_,ks,h6,hp,rfl⟩|⟨o,at_,x,y,ho,hx,hy,hy2,rfl⟩
   ·exact absurd hs (show¬Jf Y7=true by decide)
   ·exact absurd hs (show¬Jf ZS=true by decide)
   ·exact absurd hs (show¬Jf Yr=true by decide)
   ·exact absurd hs (show¬Jf U3=true by decide)
   ·rw[Ek ho,JI,List.append_assoc]at b
    have e: ∀c,UC c (.b::Vs o:: .b::QP y)=UC (c+1) [Vs o]++UC (c+1+(QQ [Vs o]).length+1) (QP y):=fun c=>by
     show UC (c+1) ([Vs o]++(.b::QP y))=_;rw[JI];rfl
    rw[e,List.append_assoc]at b;simp only[YT,WC]at hn;obtain⟨j,m,T,h1,h2,h3,h4⟩:=NG n x Qk hx a S _ b (aE ho _ _);obtain⟨h5,h6⟩:=wO ho h2;obtain⟨h7,h8⟩:=(P8 (L:=L) hy hy2).1 _ _ R h6 hR
    have hT:T.i<L.length:=by
     have:=h2.len;have hne:=(aE ho (a+(QQ (QP x)).length+1) (UC (a+(QQ (QP x)).length+1+(QQ [Vs o]).length+1) (QP y)++R)).ne;omega
    obtain⟨j,rfl⟩: ∃i,j=i+1:=⟨j-1,by omega⟩;refine⟨j,_,_,h1.trans (Lt h2.e h5),h8,?_,by simp[Un,Yd,h4,h7]⟩;have l2:=h2.len;have l8:=h8.len;have hr:=hR.ne
    have:(UC (a+(QQ (QP x)).length+1) [Vs o]++(UC (a+(QQ (QP x)).length+1+(QQ [Vs o]).length+1) (QP y)++R)).length>R.length:=by
     rw[List.length_append,List.length_append]
     have:0<(UC (a+(QQ (QP x)).length+1) [Vs o]).length:=by rcases EV ho with rfl|rfl|rfl<;>exact Nat.succ_pos _
     omega
    omega
  ·obtain⟨h1,h2⟩:=(P8 (L:=L) h (by simpa using hs)).1 a S R b hR;exact⟨L.length,_,_,rfl,h2,Nat.le_add_right _ _,h1⟩
theorem Ix(h:QM k=true):Reads L (Qi L) nF (QP k) k:=fun a S R b hR=>by
 obtain⟨j,m,T,h1,h2,h3,h4⟩:=NG _ k (Nat.le_refl _) h a S R b (hR.less Qo)
 have hn:CO L T=none:=by rw[CO,hR.no h2 Qo,if_neg Qo,hR.no h2 Qo,if_neg Qo,hR.no h2 Qo,if_neg Qo]
 have hT:T.i<L.length:=by
  have:=h2.len;have:=hR.ne;omega
 obtain⟨j,rfl⟩: ∃i,j=i+1:=⟨j-1,by omega⟩;rw[h1,Ls h2.e hn];exact⟨h4,h2⟩
end
end
section
variable {at_ e:Int} {d n:Nat} {o s:List Nat}

def eB:List (List Nat):=[[43],[117,110,105,111,110],[105,110,116,101,114],[92],[61],[126,61],[60],[60,61],[105,110],[110,111,116,105,110],[115,117,98],[40]]
def ky:List (List Nat):=[[38],[124],[61,62],[60,61,62]]
def Hl(L:List Tk)(X:PR)(R:List Tk)(k:Nd):Prop:=X.1.e=4∨(Un X.2 k=true∧Ys L X.1 R)
theorem n4(h:e=4):e≠0:=by rw[h];decide
theorem MW{L:List Tk}{S:PS}(he:S.e=0)(h:(Qb L S d).e≠0):(Qb L S d).e=4:=by
 unfold Qb at h ⊢
 split
 ·unfold QJ;rw[if_pos he]
 ·rename_i h30;rw[if_neg h30,he]at h;exact absurd rfl h
section
variable {L:List Tk} {S:PS} {R T:List Tk} {k x y:Nd} {u:PS→PR} {op w:List Nat}
theorem ZG(h:Hl L (u S) R k)(hn:Hm R [w]):Hl L (ZY u op w L S) R k:=by
 rcases h with h|⟨h1,h2⟩
 ·exact .inl (by rw[ZY,Ao (n4 h)];exact h)
 ·refine .inr ?_;have hi:JO L (u S).1 w=false:=hn.no h2 Q1
  have:ZY u op w L S=((u S).1,(u S).2):=by
   rw[ZY]
   cases L.length with
   |zero=>rfl
   |succ n=>exact Vn hi
  rw[this];exact⟨h1,h2⟩
theorem O2(h1:Hl L (u S) (⟨3,w,0,e⟩::T) x)(h2: ∀S',Ys L S' T→Hl L (u S') R y)(hn:Hm R [w]):Hl L (ZY u op w L S) R (.mk op [] 0 at_ [x,y]):=by
 rcases h1 with h1|⟨h1,b1⟩
 ·exact .inl (by rw[ZY,Ao (n4 h1)];exact h1)
 have h3:=h2 _ (b1.next (show(3:Int)≠4 by decide));have hlt:=b1.lt;rw[ZY];obtain⟨n,hn2⟩: ∃n,L.length=n+1:=⟨L.length-1,by omega⟩;rw[hn2,Fb b1.yes];rcases h3 with h3|⟨h3,b3⟩
 ·exact .inl (by rw[Ao (n4 h3)];exact h3)
 ·have hi:JO L (u (Qd L (u S).1)).1 w=false:=hn.no b3 Q1
  have: ∀m nd,XQ u op w L m (u (Qd L (u S).1)).1 nd=((u (Qd L (u S).1)).1,nd):=fun m nd=>by
   cases m with
   |zero=>rfl
   |succ n=>exact Vn hi
  rw[this];exact .inr ⟨by simp[Un,Yd,h1,h3],b3⟩
theorem ie(h:Hl L (u S) R k)(hn:Hm R ky):Hl L (Wn u L S) R k:=ZG (ZG h (hn.less Qo)) (hn.less Qo)
theorem Da(h:Hl L (u S) R k)(hn:Hm R ky):Hl L (U0 u L n S) R k:=by
 have ho:=ie h hn
 cases n with
 |zero=>exact ho
 |succ n=>
  rw[U0];rcases ho with ho|⟨h1,h2⟩
  ·rw[ZK (n4 ho)];exact .inl ho
  ·rw[hn.no h2 Qo];exact .inr ⟨h1,h2⟩
theorem O8(h:Hl L (u S) R k)(hn:Hm R ky)(he:S.e=0):Hl L (U8 u L S d) R k:=by
 rw[U8]
 split
 ·exact .inl (MW he (by assumption))
 ·rename_i hd
  have hE:Qb L S d=S:=by
   unfold Qb at hd ⊢
   split
   ·rename_i h30;rw[if_pos h30]at hd;exact absurd (Decidable.not_not.1 hd) (ZJ Qo)
   ·rfl
  rw[hE];exact ZG (Da h hn) (hn.less Qo)
theorem aH{w:List Nat}(h:Hl L (u S) (⟨3,w,0,e⟩::T) k)(hw:w∉[[38],[124]]):Hl L (Wn u L S) (⟨3,w,0,e⟩::T) k:=
 ZG (ZG h (.sg fun x=>hw (by simp at x;simp[x]))) (.sg fun x=>hw (by simp at x;simp[x]))
theorem iC{w:List Nat}(h:Hl L (u S) (⟨3,w,0,e⟩::T) k)(hw:w∉[[38],[124],[61,62]]):Hl L (U0 u L n S) (⟨3,w,0,e⟩::T) k:=by
 have ho:=aH h fun x=>hw (by simp at x ⊢;rcases x with x|x<;>simp[x])
 cases n with
 |zero=>exact ho
 |succ n=>
  rw[U0];rcases ho with ho|⟨h1,h2⟩
  ·rw[ZK (n4 ho)];exact .inl ho
  ·rw[h2.no (.inr fun x=>hw (by simp[show w=[61,62]from x]))];exact .inr ⟨h1,h2⟩
theorem ep(h1:Hl L (u S) (⟨3,[61,62],0,e⟩::T) x)(h2: ∀S',Ys L S' T→Hl L (u S') R y)(hn:Hm R ky)(h0:n≠0):Hl L (U0 u L n S) R (.mk [105,109,112] [] 0 at_ [x,y]):=by
 obtain⟨n,rfl⟩: ∃m,n=m+1:=⟨n-1,by omega⟩;rw[U0];rcases aH h1 Qo with ho|⟨h3,b3⟩
 ·rw[ZK (n4 ho)];exact .inl ho
 ·rw[if_pos b3.yes];rcases Da (n:=n) (h2 _ (b3.next (show(3:Int)≠4 by decide))) hn with h|⟨h4,b4⟩
  ·exact .inl h
  ·exact .inr ⟨by simp[Un,Yd,h3,h4],b4⟩
theorem x7{a:Nat}(ho:oneOf o [[97,110,100],[111,114],[105,109,112],[105,102,102]]=true)(h1:Hl L (u S) (UC a [Vs o]++T) x)(h2: ∀S',Ys L S' T→Hl L (u S') R y)(hn:Hm R ky)(he:S.e=0)(hi:S.i<L.length):Hl L (U8 u L S d) R (.mk o [] 0 at_ [x,y]):=by
 rw[U8]
 split
 ·exact .inl (MW he (by assumption))
 ·rename_i hd
  have hE:Qb L S d=S:=by
   unfold Qb at hd ⊢
   split
   ·rename_i h30;rw[if_pos h30]at hd;exact absurd (Decidable.not_not.1 hd) (ZJ Qo)
   ·rfl
  rw[hE]
  have ho:o=[97,110,100]∨o=[111,114]∨o=[105,109,112]∨o=[105,102,102]:=by simpa [oneOf]using ho
  rcases ho with rfl|rfl|rfl|rfl
  ·have h1:Hl L (u S) (⟨3,[38],0,(a:Int)⟩::T) x:=h1;have h3:Hl L (Ky u L S) R (.mk [97,110,100] [] 0 at_ [x,y]):=O2 h1 h2 (hn.less Qo);have h4:Hl L (Wn u L S) R (.mk [97,110,100] [] 0 at_ [x,y]):=ZG h3 (hn.less Qo);refine ZG ?_ (hn.less Qo)
   cases L.length with
   |zero=>exact h4
   |succ n=>
    rw[U0];rcases h4 with h4|⟨h5,b5⟩
    ·rw[ZK (n4 h4)];exact .inl h4
    ·rw[hn.no b5 Qo];exact .inr ⟨h5,b5⟩
  ·have h1:Hl L (u S) (⟨3,[124],0,(a:Int)⟩::T) x:=h1;have h4:Hl L (Wn u L S) R (.mk [111,114] [] 0 at_ [x,y]):=O2 (ZG h1 (.sg Qo)) (fun S' b=>ZG (h2 S' b) (hn.less Qo)) (hn.less Qo);refine ZG ?_ (hn.less Qo)
   cases L.length with
   |zero=>exact h4
   |succ n=>
    rw[U0];rcases h4 with h4|⟨h5,b5⟩
    ·rw[ZK (n4 h4)];exact .inl h4
    ·rw[hn.no b5 Qo];exact .inr ⟨h5,b5⟩
  ·exact ZG (ep h1 h2 hn Qk) (hn.less Qo)
  ·exact O2 (iC h1 Qo) (fun S' b=>Da (h2 S' b) hn) (hn.less Qo)
end
section
variable {L:List Tk}
theorem Mi: ∀(n:Nat) (k:Nd),YT k≤n→QM k=true→ ∀(a:Nat) (R:List Tk),Hm R [[40]]→ ∃t T,UC a (QP k)++R=t::T∧(t.k=1→Hm T [[40]])
 |0,k,hn,_=>by have:=XJ k;omega
 |n+1,k,hn,h=>fun a R hR=>by
  rcases Yx h with⟨s,at_,_,rfl⟩|⟨z,at_,_,_,rfl⟩|⟨s,z,a1,a2,_,_,_,rfl⟩|⟨at_,ks,_,_,rfl⟩|⟨o,at_,x,y,ho,hx,_,_,rfl⟩
  ·exact⟨_,_,rfl,fun _=>hR⟩
  ·exact⟨_,_,rfl,fun h=>absurd h (show¬(2:Int)=1 by decide)⟩
  ·exact⟨_,_,rfl,fun _=>.sg Qo⟩
  ·exact⟨_,_,rfl,fun h=>absurd h (show¬(3:Int)=1 by decide)⟩
  ·rw[Ek ho,JI,List.append_assoc];simp only[YT,WC]at hn;refine Mi n x Qk hx a _ ?_
   rcases EV ho with rfl|rfl|rfl<;>exact .sg Qo
theorem qe{S:PS}{t:Tk}{T:List Tk}(b:Ys L S (t::T))(h:t.k=1→Hm T [[40]]):Y3 L S=false:=by
 by_cases hk:t.k=1
 ·obtain⟨q,V,rfl,hq⟩:=h hk;have b2:=b.next (by rw[hk];decide);have h2:=b2.get;rw[b.ni (by rw[hk];decide)]at h2;unfold Y3;rw[b.now,h2];rcases hq with hq|hq
  ·simp[hq]
  ·simp at hq;simp[hq]
 ·unfold Y3;rw[b.now];simp[hk]
def G2(o:List Nat):Bool:=oneOf o [[101,113],[110,101],[108,116],[108,101],[105,110],[110,111,116,105,110],[115,117,98]]
theorem KL(h:G2 o=true):o=[101,113]∨o=[110,101]∨o=[108,116]∨o=[108,101]∨o=[105,110]∨o=[110,111,116,105,110]∨o=[115,117,98]:=by simpa [G2,oneOf]using h
theorem fJ(h:G2 o=true): ∃w,(∀(a:Nat) (R:List Tk),UC a [Vs o]++R=⟨3,w,0,(a:Int)⟩::R)∧w∉nF∧w∉[[40]]∧ ∀(S:PS) (a:Int) (R:List Tk),Ys L S (⟨3,w,0,a⟩::R)→Vk L S=o:=by
 rcases KL h with rfl|rfl|rfl|rfl|rfl|rfl|rfl
 ·exact⟨[61],fun a R=>rfl,by decide,by decide,fun S a R b=>by simp[Vk,b.is]⟩
 ·exact⟨[126,61],fun a R=>rfl,by decide,by decide,fun S a R b=>by simp[Vk,b.is]⟩
 ·exact⟨[60],fun a R=>rfl,by decide,by decide,fun S a R b=>by simp[Vk,b.is]⟩
 ·exact⟨[60,61],fun a R=>rfl,by decide,by decide,fun S a R b=>by simp[Vk,b.is]⟩
 ·exact⟨[105,110],fun a R=>rfl,by decide,by decide,fun S a R b=>by simp[Vk,b.is]⟩
 ·exact⟨[110,111,116,105,110],fun a R=>rfl,by decide,by decide,fun S a R b=>by simp[Vk,b.is]⟩
 ·exact⟨[115,117,98],fun a R=>rfl,by decide,by decide,fun S a R b=>by simp[Vk,b.is]⟩
theorem fK{S:PS}{R:List Tk}(b:Ys L S R)(h:Hm R eB):Vk L S=[]:=by
 rw[Vk,h.no b Qo,if_neg Qo,h.no b Qo,if_neg Qo,h.no b Qo,if_neg Qo,h.no b Qo,if_neg Qo,h.no b Qo,if_neg Qo,h.no b Qo,if_neg Qo,h.no b Qo,if_neg Qo]
theorem yA{m:Nd}(h:Un m (.mk Y7 s 0 at_ [])=true):jE m=[118,97,114]∧Ov m=s:=by
 obtain⟨o,s',z,a,l⟩:=m;simp only[Un,Bool.and_eq_true,decide_eq_true_eq]at h;exact⟨h.1,h.2.1⟩
theorem vw{S:PS}(hc:Y3 L S=false)(hr:Vk L (Qi L S).1=[]):(Uj L S).1=(if jE (Qi L S).2≠[118,97,114]then QJ (Qi L S).1 (Qc L S).a 2 else(Qi L S).1)∧(Uj L S).2=.mk [105,115] (Ov (Qi L S).2) 0 (Qc L S).a []:=by
 rw[Uj,if_neg (by simp[hc]),if_neg (fun h=>h.2 hr)];exact⟨rfl,rfl⟩
theorem iB(hs:Ui s=true):Reads L (Uj L) eB [.m s] (.mk [105,115] s 0 at_ []):=fun a S R b hR=>by
 have ht:QM (.mk Y7 s 0 at_ [])=true:=by rw[Uf,if_pos rfl,hs];rfl
 have hp:QP (.mk Y7 s 0 at_ [])=[.m s]:=by rw[QP];rfl
 obtain⟨h1,h2⟩:=Ix (L:=L) ht a S R (by rw[hp];exact b) (hR.less Qo);have b:Ys L S (⟨1,s,0,(a:Int)⟩::R):=b;obtain⟨h3,h4⟩:=yA h1;obtain⟨h5,h6⟩:=vw (qe b fun _=>hR.less Qo) (fK h2 hR);rw[h5,h6,if_neg (by simp[h3]),h4];exact⟨by simp[Un,Yd],h2⟩
theorem wu{x y:Nd}(ho:G2 o=true)(hx:QM x=true)(hy:QM y=true):Reads L (Uj L) eB (QP x++(.b::Vs o:: .b::QP y)) (.mk o [] 0 at_ [x,y]):=fun a S R b hR=>by
 obtain⟨w,hw,hw1,hw2,hw3⟩:=fJ (L:=L) ho
 have e: ∀c,UC c (.b::Vs o:: .b::QP y)=UC (c+1) [Vs o]++UC (c+1+(QQ [Vs o]).length+1) (QP y):=fun c=>by
  show UC (c+1) ([Vs o]++(.b::QP y))=_;rw[JI];rfl
 rw[JI,List.append_assoc,e,List.append_assoc,hw]at b;obtain⟨h1,h2⟩:=Ix (L:=L) hx a S _ b (.sg hw1);obtain⟨h3,h4⟩:=Ix (L:=L) hy _ _ R (h2.next (show(3:Int)≠4 by decide)) (hR.less Qo);obtain⟨t,T,et,hc⟩:=Mi _ x (Nat.le_refl _) hx a _ (.sg hw2:Hm (⟨3,w,0,((a+(QQ (QP x)).length+1:Nat):Int)⟩::(UC (a+(QQ (QP x)).length+1+(QQ [Vs o]).length+1) (QP y)++R)) [[40]]);have b':=b;rw[et]at b';have hr:=hw3 _ _ _ h2
 have hne:o≠[]:=by rcases KL ho with rfl|rfl|rfl|rfl|rfl|rfl|rfl<;>decide
 rw[Uj,if_neg (by rw[qe b' hc];decide),if_pos ⟨h2.e,by rw[hr];exact hne⟩,hr];exact⟨by simp[Un,Yd,h1,h3],h4⟩
theorem uj{ks:List Nd}(h6:ks.length≤6)(hk: ∀x∈ks,QM x=true):Reads L (Uj L) eB (.m s:: .g [40]::(UF (Js ks)++[.g [41]])) (.mk [99,97,108,108] s 0 at_ ks):=fun a S R b hR=>by
 have b:Ys L S (⟨1,s,0,(a:Int)⟩::⟨3,[40],0,((a+s.length:Nat):Int)⟩::(UC (a+s.length+1) (UF (Js ks)++[.g [41]])++R)):=b;rw[JI,List.append_assoc]at b;have b1:=b.next (show(1:Int)≠4 by decide);have b2:=b1.next (show(3:Int)≠4 by decide);have hg:=b1.get;rw[b.ni (show(1:Int)≠4 by decide)]at hg
 have hc:Y3 L S=true:=by unfold Y3;rw[b.now,hg];rfl
 obtain⟨h1,h2⟩:=Mx (el:=Qi L) (W:=nF) (w:=[41]) Qo Qo Qo Qo (ZA ks) (fun i k p hi hp=>by
  rw[F4 hi hp]
  exact Ix (hk k (List.mem_of_getElem? hi))) (fun p hp=>by
   obtain⟨i,hi,rfl⟩:=List.getElem_of_mem hp;rw[ZA]at hi;have hx:=List.getElem?_eq_getElem hi;rw[F4 hx (List.getElem?_eq_getElem (by rw[ZA];exact hi))]
   exact Iy _ _ (Nat.le_refl _) (hk _ (List.mem_of_getElem? hx))) h6 b2
 rw[Uj,if_pos hc,b.now];exact⟨by simp[Un,h1],h2⟩
theorem Wt{k:Nd}(h:Jg k=true):(∃o at_,oneOf o [[116,114,117,101],[102,97,108,115,101]]=true∧k=.mk o [] 0 at_ [])∨(∃at_ x,Jg x=true∧k=.mk [110,111,116] [] 0 at_ [x])∨
  (∃o at_ x y,oneOf o [[97,110,100],[111,114],[105,109,112],[105,102,102]]=true∧Jg x=true∧Jg y=true∧k=.mk o [] 0 at_ [x,y])∨(∃o s z at_ x,oneOf o [[101,120],[97,108,108]]=true∧Ui s=true∧0≤z∧z<3∧Jg x=true∧k=.mk o s z at_ [x])∨
  (∃s at_,Ui s=true∧k=.mk [105,115] s 0 at_ [])∨(∃o at_ x y,G2 o=true∧QM x=true∧QM y=true∧k=.mk o [] 0 at_ [x,y])∨ ∃s at_ ks,Ui s=true∧ks.length≤6∧(∀x∈ks,QM x=true)∧k=.mk [99,97,108,108] s 0 at_ ks:=by
 obtain⟨o,s,z,at_,ks⟩:=k;rw[UY]at h
 split at h
 ·rename_i ho;obtain⟨h1,h2,h3⟩:=Kv h;have hk:=List.length_eq_zero_iff.1 (show ks.length=0 by omega);subst h1 h2 hk;exact .inl ⟨o,at_,ho,rfl⟩
 split at h
 ·rename_i ho;rw[Bool.and_eq_true]at h;obtain⟨h1,h2,h3⟩:=Kv h.1;obtain⟨x,rfl⟩:=Tq h3;subst ho h1 h2;exact .inr (.inl ⟨at_,x,by simpa using h.2,rfl⟩)
 split at h
 ·rename_i ho;rw[Bool.and_eq_true]at h;obtain⟨h1,h2,h3⟩:=Kv h.1;obtain⟨x,y,rfl⟩:=Tp h3;have h4:=h.2;simp only[List.all_cons,List.all_nil,Bool.and_true,Bool.and_eq_true]at h4;subst h1 h2;exact .inr (.inr (.inl ⟨o,at_,x,y,ho,h4.1,h4.2,rfl⟩))
 split at h
 ·rename_i ho;simp only[Bool.and_eq_true,decide_eq_true_eq]at h;obtain⟨h1,h2,h3,h4,h5⟩:=h;obtain⟨x,rfl⟩:=Tq h4;exact .inr (.inr (.inr (.inl ⟨o,s,z,at_,x,ho,h1,h2,h3,by simpa using h5,rfl⟩)))
 split at h
 ·rename_i ho;simp only[Bool.and_eq_true,decide_eq_true_eq]at h;obtain⟨h1,h2,h3⟩:=h;have hk:=List.length_eq_zero_iff.1 (show ks.length=0 by omega);subst ho h2 hk;exact .inr (.inr (.inr (.inr (.inl ⟨s,at_,h1,rfl⟩))))
 split at h
 ·rename_i ho;rw[Bool.and_eq_true]at h;obtain⟨h1,h2,h3⟩:=Kv h.1;obtain⟨x,y,rfl⟩:=Tp h3;have h4:=h.2;simp only[List.all_cons,List.all_nil,Bool.and_true,Bool.and_eq_true]at h4;subst h1 h2;exact .inr (.inr (.inr (.inr (.inr (.inl ⟨o,at_,x,y,ho,h4.1,h4.2,rfl⟩)))))
 split at h
 ·rename_i ho;simp only[Bool.and_eq_true,decide_eq_true_eq]at h;obtain⟨h1,h2,h3,h4⟩:=h;subst ho h2;exact .inr (.inr (.inr (.inr (.inr (.inr ⟨s,at_,ks,h1,by omega,fun x hx=>List.all_eq_true.1 h4 x hx,rfl⟩)))))
 ·cases h
end
end
end Go.Proofs.YthjgndgnmkiaiaaGreatDoor
