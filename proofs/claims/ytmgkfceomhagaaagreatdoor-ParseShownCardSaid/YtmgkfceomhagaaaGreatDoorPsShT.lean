/-
  Any formula that is shown is parsed to itself, or it is too deep: plain law.
-/
import Derived.Test.YtmgkfceomhagaaaGreatDoorPsShR
set_option maxRecDepth 10000
set_option linter.unusedSectionVars false
set_option linter.unusedVariables false
namespace Go.Proofs.YtmgkfceomhagaaaGreatDoor
open Go Go.RowKit
section
variable {at_ z:Int} {o s:List Nat} {x:Nd}

section
variable {L:List Tk}
theorem ZL.pos{S:PS}{T:List Tk}(h:ZL L S T)(hT:0<T.length):S.i<L.length:=by
 have:=h.len;omega
theorem Wx(S:PS)(d:Nat)(he:S.e=0):(Qd L S d).e≠0∨Qd L S d=S:=by
 unfold Qd
 split
 ·exact .inl (XG Qz)
 ·exact .inr rfl
theorem Ks{f d:Nat}{S:PS}{R:List Tk}{k:Nd}(h:(Qd L S d).e≠0):Hf L (J9 L (f+1) S d) R k:=.inl (by rw[J9,if_pos h];exact h)
theorem FD(ho:oneOf o [[116,114,117,101],[102,97,108,115,101]]=true):Js (.mk o s z at_ [])=[.w o]:=by rw[Js,if_pos ho]
theorem FC:Js (.mk [110,111,116] s z at_ [x])=.g [126]::Js x:=by rw[Js];rfl
theorem IM:Js (.mk [105,115] s z at_ [])=[.m s]:=by rw[Js];rfl
theorem Am{ks:List Nd}:Js (.mk [99,97,108,108] s z at_ ks)=.m s:: .g [40]::(Zk (J5 ks)++[.g [41]]):=by rw[Js];rfl
theorem Nn(ho:oneOf o [[97,110,100],[111,114],[105,109,112],[105,102,102]]=true):o=[97,110,100]∨o=[111,114]∨o=[105,109,112]∨o=[105,102,102]:=by simpa [oneOf]using ho
theorem FA{y:Nd}(ho:oneOf o [[97,110,100],[111,114],[105,109,112],[105,102,102]]=true):Js (.mk o s z at_ [x,y])=.g [40]::(Js x++(.b::XI o:: .b::(Js y++[.g [41]]))):=by
 rcases Nn ho with rfl|rfl|rfl|rfl<;>rw[Js]<;>rfl
theorem G5(ho:oneOf o [[101,120],[97,108,108]]=true):o=[101,120]∨o=[97,108,108]:=by simpa [oneOf]using ho
theorem IL(ho:oneOf o [[101,120],[97,108,108]]=true):Js (.mk o s z at_ [x])=.g [40]:: .w (o++Y1 z.toNat):: .b:: .m s:: .g [58]:: .b::(Js x++[.g [41]]):=by
 rcases G5 ho with rfl|rfl<;>rw[Js]<;>rfl
theorem FB{y:Nd}(ho:OM o=true):Js (.mk o s z at_ [x,y])=Jp x++(.b::XI o:: .b::Jp y):=by
 rcases Kx ho with rfl|rfl|rfl|rfl|rfl|rfl|rfl<;>rw[Js]<;>rfl
theorem zO(ho:oneOf o [[101,120],[97,108,108]]=true)(h0:0≤z)(h3:z<3): ∃n:Nat,eJ[n]? =some (o++Y1 z.toNat)∧fM[n/3]? =some o∧((n % 3:Nat):Int)=z:=by
 obtain⟨z,rfl⟩: ∃m:Nat,z=m:=⟨z.toNat,by omega⟩;rw[Int.toNat_natCast]
 match z,h3 with
 |0,_=>rcases G5 ho with rfl|rfl;exact⟨0,by rw[Y1];rfl,rfl,rfl⟩;exact⟨3,by rw[Y1];rfl,rfl,rfl⟩
 |1,_=>rcases G5 ho with rfl|rfl;exact⟨1,by rw[Y1];rfl,rfl,rfl⟩;exact⟨4,by rw[Y1];rfl,rfl,rfl⟩
 |2,_=>rcases G5 ho with rfl|rfl;exact⟨2,by rw[Y1];rfl,rfl,rfl⟩;exact⟨5,by rw[Y1];rfl,rfl,rfl⟩
 |n+3,h=>omega
theorem Of{a:Int}{R:List Tk}:Hg (⟨3,[41],0,a⟩::R) xx∧Hg (⟨3,[41],0,a⟩::R) eO:=⟨.sg Qz,.sg Qz⟩
theorem ay(ho:oneOf o [[97,110,100],[111,114],[105,109,112],[105,102,102]]=true)(a:Nat)(R:List Tk):Hg (Zq a [XI o]++R) xx:=by
 rcases Nn ho with rfl|rfl|rfl|rfl<;>exact .sg Qz
theorem zD(ho:oneOf o [[97,110,100],[111,114],[105,109,112],[105,102,102]]=true)(a:Nat)(R:List Tk):(Zq a [XI o]++R).length=R.length+1:=by
 rcases Nn ho with rfl|rfl|rfl|rfl<;>rfl
theorem qJ{f d a:Nat}{S:PS}{R:List Tk}{k:Nd}{p:List Pc}(h:Reads L (Jt L) xx p k)(b:ZL L S (Zq a p++R))(hR:Hg R xx)(hh: ∃t T,Zq a p++R=t::T∧(t.k≠3∨t.s=[123])):Hf L (J9 L (f+1) S d) R k:=by
 rcases Wx (L:=L) S d b.e with he|he
 ·exact Ks he
 obtain⟨t,T,e,ht⟩:=hh;have b':=b;rw[e]at b'
 have hno: ∀w,w≠[123]→JD L (Qd L S d) w=false:=fun w hw=>by rw[he];exact b'.no (ht.imp id fun x y=>hw (y.symm.trans x))
 obtain⟨h1,h2⟩:=S8 (f:=f) (hno _ Qz) (hno _ Qz) (hno _ Qz) (hno _ Qz) fun w hw=>hno w fun x=>by subst x;exact absurd hw Qz
 rw[he]at h1 h2;obtain⟨h3,h4⟩:=h a S R b hR;refine .inr ⟨?_,by rw[h1];exact h4⟩;rw[h2 h4.e];exact h3
theorem Nk: ∀(n:Nat) (k:Nd),Xl k≤n→JS k=true→ ∀(f d a:Nat) (S:PS) (R:List Tk),ZL L S (Zq a (Js k)++R)→Hg R xx→(Zq a (Js k)++R).length≤f→Hf L (J9 L f S d) R k
 |0,k,hn,_=>by have:=Wk k;omega
 |n+1,k,hn,h=>fun f d a S R b hR hf=>by
  have hR0:=hR.ne;obtain⟨f,rfl⟩: ∃g,f=g+1:=⟨f-1,by rw[List.length_append]at hf;omega⟩;rcases Al h with⟨o,at_,ho,rfl⟩|⟨at_,x,hx,rfl⟩|⟨o,at_,x,y,ho,hx,hy,rfl⟩|⟨o,s,z,at_,x,ho,hs,hz0,hz3,hx,rfl⟩|⟨s,at_,hs,rfl⟩|⟨o,at_,x,y,ho,hx,hy,rfl⟩|⟨s,at_,ks,hs,h6,hk,rfl⟩
  ·rw[FD ho]at b;have b:ZL L S (⟨3,o,0,(a:Int)⟩::R):=b;rcases Wx (L:=L) S d b.e with he|he
   ·exact Ks he
   have hi:JD L (Qd L S d) o=true:=by rw[he];exact b.yes
   rw[Nj hi (by simpa [oneOf]using ho),he,Qi,if_pos b.yes,b.now];exact .inr ⟨by simp[Yq,YQ],b.next (show(3:Int)≠4 by decide)⟩
  ·rw[FC]at b hf;have b:ZL L S (⟨3,[126],0,(a:Int)⟩::(Zq (a+1) (Js x)++R)):=b;have hf:(Zq (a+1) (Js x)++R).length+1≤f+1:=hf;rcases Wx (L:=L) S d b.e with he|he
   ·exact Ks he
   have hi:JD L (Qd L S d) [126]=true:=by rw[he];exact b.yes
   simp only[Xl,Eo]at hn;have h1:=Nk n x Qq hx f (d+1) _ _ R b.take hR Qq;rw[PY hi,he];rcases h1 with h1|⟨h1,h2⟩
   ·exact .inl h1
   ·exact .inr ⟨by simp[Yq,YQ,h1],h2⟩
  ·rw[FA ho]at b hf;have b:ZL L S (⟨3,[40],0,(a:Int)⟩::(Zq (a+1) (Js x++(.b::XI o:: .b::(Js y++[.g [41]])))++R)):=b;have hf:(Zq (a+1) (Js x++(.b::XI o:: .b::(Js y++[.g [41]])))++R).length+1≤f+1:=hf;rcases Wx (L:=L) S d b.e with he|he
   ·exact Ks he
   have hi:JD L (Qd L S d) [40]=true:=by rw[he];exact b.yes
   have e: ∀c,Zq c (.b::XI o:: .b::(Js y++[.g [41]]))=Zq (c+1) [XI o]++(Zq (c+1+(Uc [XI o]).length+1) (Js y)++[⟨3,[41],0,((c+1+(Uc [XI o]).length+1+(Uc (Js y)).length:Nat):Int)⟩]):=fun c=>by
    show Zq (c+1) ([XI o]++(.b::(Js y++[.g [41]])))=_;rw[Y3];show _++Zq (c+1+(Uc [XI o]).length+1) (Js y++[.g [41]])=_;rw[Y3];rfl
   have b1:=b.take;simp only[Xl,Eo]at hn;rw[Y3,List.append_assoc,e,List.append_assoc,List.append_assoc]at b1 hf
   generalize a+1+(Uc (Js x)).length+1=c1 at *
   generalize c1+(Uc [XI o]).length+1=c2 at *
   generalize ((c2+(Uc (Js y)).length:Nat):Int)=c3 at *
   have hl:=zD ho c1 (Zq c2 (Js y)++([⟨3,[41],0,c3⟩]++R));have hx1:=Nk n x Qq hx f (d+1) _ _ _ b1 (ay ho _ _) Qq;have h2:=uZ (u:=fun S=>J9 L f S (d+1)) (d:=d+1) (at_:=at_) ho hx1 (fun S' b'=>Nk n y Qq hy f (d+1) c2 S' ([⟨3,[41],0,c3⟩]++R) b' Of.1 (by rw[List.length_append]at hf;omega)) Of.2 b1.e (b1.pos (by rw[List.length_append,hl,List.length_append];omega));rw[Ii hi,he];rcases h2 with h2|⟨h2,b2⟩
   ·exact .inl (by rw[WL h2];exact h2)
   ·exact .inr ⟨h2,ZL.uq b2⟩
  ·rw[IL ho]at b hf;obtain⟨q,hq1,hq2,hq3⟩:=zO ho hz0 hz3
   generalize hw:o++Y1 z.toNat=w at *
   have b:ZL L S (⟨3,[40],0,(a:Int)⟩::⟨3,w,0,((a+1:Nat):Int)⟩::⟨1,s,0,((a+1+w.length+1:Nat):Int)⟩::⟨3,[58],0,((a+1+w.length+1+s.length:Nat):Int)⟩::(Zq (a+1+w.length+1+s.length+1+1) (Js x++[.g [41]])++R)):=b;have hf:(Zq (a+1+w.length+1+s.length+1+1) (Js x++[.g [41]])++R).length+4≤f+1:=hf;rcases Wx (L:=L) S d b.e with he|he
   ·exact Ks he
   have hi:JD L (Qd L S d) [40]=true:=by rw[he];exact b.yes
   have b1:=b.take;have b2:=b1.next (show(3:Int)≠4 by decide);have b3:=b2.next (show(1:Int)≠4 by decide)
   have hnm:Jk L (Qb L (Qi L S [40]))=Qb L (Qb L (Qi L S [40])):=by rw[Jk,b2.now];rfl
   have hnt:Jc L (Qb L (Qi L S [40]))=⟨1,s,0,((a+1+w.length+1:Nat):Int)⟩:=by rw[Jc,b2.now];rfl
   have b4:ZL L (Q9 L (Jk L (Qb L (Qi L S [40]))) [58]) (Zq (a+1+w.length+1+s.length+1+1) (Js x++[.g [41]])++R):=by rw[hnm];exact b3.uq
   rw[Y3,List.append_assoc]at b4 hf;simp only[Xl,Eo]at hn;rw[Ii hi,he]
   have hin:Hf L (JY (fun S=>J9 L f S (d+1)) L (Qi L S [40]) (d+1)) (⟨3,[41],0,((a+1+w.length+1+s.length+1+1+(Uc (Js x)).length:Nat):Int)⟩::R) (.mk o s z at_ [x]):=by
    refine Od ?_ Of.2 b1.e;obtain⟨f,rfl⟩: ∃g,f=g+1:=⟨f-1,by omega⟩;show Hf L (J9 L (f+1) (Qi L S [40]) (d+1)) _ _;rcases Wx (L:=L) (Qi L S [40]) (d+1) b1.e with he2|he2
    ·exact Ks he2
    have hyes:JD L (Qd L (Qi L S [40]) (d+1)) w=true:=by rw[he2];exact b1.yes
    obtain⟨o',ho',hqu,_⟩:=SR hq1 hyes;rw[hq2]at ho'
    injection ho' with ho'
    subst ho';rw[Gp (by rw[he2];exact b1.e) hqu,he2,hnt,hq3];have h5:=Od (u:=fun S=>J9 L f S (d+1+1)) (d:=d+1+1) (Nk n x Qq hx f (d+1+1) _ _ _ b4 (Of (R:=R)).1 Qq) Of.2 b4.e;rcases h5 with h5|⟨h5,b5⟩
    ·exact .inl h5
    ·exact .inr ⟨by simp[Yq,YQ,h5],b5⟩
   rcases hin with h2|⟨h2,b2⟩
   ·exact .inl (by rw[WL h2];exact h2)
   ·exact .inr ⟨h2,ZL.uq b2⟩
  ·rw[IM]at b;exact qJ (wZ hs) b hR ⟨_,_,rfl,.inl (show(1:Int)≠3 by decide)⟩
  ·rw[FB ho]at b;exact qJ (zL ho hx hy) b hR ((LI _ x (Nat.le_refl _) hx).app a R)
  ·rw[Am]at b;exact qJ (qg h6 hk) b hR ⟨_,_,rfl,.inl (show(1:Int)≠3 by decide)⟩
end
end
section

theorem VL{s:List Nat}(h:Yr s=true):s.length≤2000:=by
 unfold Yr at h;simp only[Bool.and_eq_true,decide_eq_true_eq]at h;have h1:=h.1
 by_cases hl:2000<(bytesOf s).size
 ·rw[tokens,if_pos hl]at h1;exact absurd h1 (show¬(3:Int)=0 by decide)
 ·have e:(bytesOf s).size=s.length:=by simp[bytesOf,ByteArray.size]
  omega
theorem Cm: ∀z:Nat,z≤999→(Y1 z).length≤3:=by
 intro z hz;rw[Y1]
 split
 ·simp
 ·rw[Y1]
  split
  ·simp
  ·rw[Y1,if_pos Qq];simp
theorem AK(o:List Nat):(Pc.tx (XI o)).length≤3+o.length:=by
 unfold XI
 repeat' split
 all_goals(simp[Pc.tx];try omega)
theorem Iw: ∀ps:List (List Pc),(Uc (Zk ps)).length≤(ps.map fun p=>(Uc p).length+2).sum
 |[]=>by simp[Zk,Uc]
 |[p]=>by simp[Zk]
 |p::q::ps=>by
  have h2:=Iw (q::ps);rw[Zk,YV,Jb,Jb,List.length_append,List.length_append,List.length_append,List.map_cons,List.sum_cons];have e1:(Pc.tx (.g [44])).length=1:=rfl;have e2:(Pc.tx .b).length=1:=rfl;omega
theorem EM{B:Nat}: ∀ks:List Nd,(∀k∈ks,(Uc (Jp k)).length+2≤B *Xl k)→((J5 ks).map fun p=>(Uc p).length+2).sum≤B *Eo ks
 |[],_=>by simp[J5]
 |k::ks,h=>by
  have h1:=h k Q3;have h2:=EM ks fun x hx=>h x (List.mem_cons_of_mem _ hx);simp only[J5,List.map_cons,List.sum_cons,Eo,Nat.mul_add];omega
theorem VG: ∀(n:Nat) (k:Nd),Xl k≤n→Ji k=true→(Uc (Jp k)).length+20≤2040 *Xl k
 |0,k,hn,_=>by have:=Wk k;omega
 |n+1,k,hn,h=>by
  rcases YD h with⟨s,at_,hs,rfl⟩|⟨z,at_,hz,hz9,rfl⟩|⟨s,z,a1,a2,hs,hz,hz9,rfl⟩|⟨at_,ks,h6,hp,rfl⟩|⟨o,at_,x,y,ho,hx,hy,_,rfl⟩
  ·have e:Uc (Jp (.mk YO s 0 at_ []))=s:=by rw[Jp];simp[Uc,Pc.tx]
   have:=VL hs;rw[e,Xl,Eo];omega
  ·have e:Uc (Jp (.mk Xn [] z at_ []))=Y1 z.toNat:=by rw[Jp];simp[Uc,Pc.tx,Xn,YO]
   have:=Cm z.toNat Qq;rw[e,Xl,Eo];omega
  ·have e:Uc (Jp (.mk YB [] z a1 [.mk YO s 0 a2 []]))=s++([32,43,32]++Y1 z.toNat):=by rw[Jp,J5,Jp];simp[Uc,Pc.tx,YB,Xn,YO]
   have:=VL hs;have:=Cm z.toNat Qq;rw[e,Xl,Eo,Xl,List.length_append,List.length_append];simp only[List.length_cons,List.length_nil,Eo];omega
  ·have e:Uc (Jp (.mk UY [] 0 at_ ks))=123::(Uc (Zk (J5 ks))++[125]):=by
    rw[Jp,if_neg Qz,if_neg Qz,if_neg Qz,if_pos rfl,Jb,YV];rfl
   have h1:=Iw (J5 ks)
   have h2:=EM (B:=2040) ks fun k hk=>by
    have:=hp k hk;unfold Lj at this;rw[Bool.and_eq_true]at this;have h3:=Ed hk;have:=VG n k (by simp only[Xl]at hn;omega) this.1;omega
   rw[e,Xl,List.length_cons,List.length_append,List.length_singleton,Nat.mul_add];omega
  ·rw[E1 ho,YV,Jb,Jb,Jb,List.length_append,List.length_append,List.length_append,List.length_append];simp only[Xl,Eo]at hn ⊢;have h1:=VG n x Qq hx;have h2:=VG n y Qq hy;have h3:=AK o
   have h4:o.length≤5:=by rcases ET ho with rfl|rfl|rfl<;>decide
   have e2:(Pc.tx .b).length=1:=rfl;omega
theorem Ff: ∀(n:Nat) (k:Nd),Xl k≤n→JS k=true→(Uc (Js k)).length+20≤2040 *Xl k
 |0,k,hn,_=>by have:=Wk k;omega
 |n+1,k,hn,h=>by
  rcases Al h with⟨o,at_,ho,rfl⟩|⟨at_,x,hx,rfl⟩|⟨o,at_,x,y,ho,hx,hy,rfl⟩|⟨o,s,z,at_,x,ho,hs,hz0,hz3,hx,rfl⟩|⟨s,at_,hs,rfl⟩|⟨o,at_,x,y,ho,hx,hy,rfl⟩|⟨s,at_,ks,hs,h6,hk,rfl⟩
  ·rw[FD ho]
   have:o=[116,114,117,101]∨o=[102,97,108,115,101]:=by simpa [oneOf]using ho
   rcases this with rfl|rfl<;>simp[Xl,Eo,Uc,Pc.tx]
  ·rw[FC,Jb,List.length_append];simp only[Xl,Eo]at hn ⊢;have:=Ff n x Qq hx;have e:(Pc.tx (.g [126])).length=1:=rfl;omega
  ·rw[FA ho,Jb,YV,Jb,Jb,Jb,YV];simp only[List.length_append,Xl,Eo]at hn ⊢;have h1:=Ff n x Qq hx;have h2:=Ff n y Qq hy;have h3:=AK o
   have h4:o.length≤3:=by rcases Nn ho with rfl|rfl|rfl|rfl<;>decide
   have e1:(Pc.tx (.g [40])).length=1:=rfl;have e2:(Pc.tx .b).length=1:=rfl;have e3:(Uc [.g [41]]).length=1:=rfl;omega
  ·rw[IL ho,Jb,Jb,Jb,Jb,Jb,Jb,YV];simp only[List.length_append,Xl,Eo]at hn ⊢;have h1:=Ff n x Qq hx;have h2:=VL hs
   have h3:(Pc.tx (.w (o++Y1 z.toNat))).length≤6:=by
    have:=Cm z.toNat Qq
    rcases G5 ho with rfl|rfl<;>(simp only[Pc.tx,List.length_append,List.length_cons,List.length_nil];omega)
   have h4:(Pc.tx (.m s)).length=s.length:=rfl;have e1:(Pc.tx (.g [40])).length=1:=rfl;have e2:(Pc.tx .b).length=1:=rfl;have e3:(Uc [.g [41]]).length=1:=rfl;have e4:(Pc.tx (.g [58])).length=1:=rfl;omega
  ·have e:Uc (Js (.mk [105,115] s 0 at_ []))=s:=by rw[IM];simp[Uc,Pc.tx]
   have:=VL hs;rw[e,Xl,Eo];omega
  ·rw[FB ho,YV,Jb,Jb,Jb];simp only[List.length_append,Xl,Eo]at hn ⊢;have h1:=VG _ x (Nat.le_refl _) hx;have h2:=VG _ y (Nat.le_refl _) hy;have h3:=AK o
   have h4:o.length≤5:=by rcases Kx ho with rfl|rfl|rfl|rfl|rfl|rfl|rfl<;>decide
   have e2:(Pc.tx .b).length=1:=rfl;omega
  ·rw[Am,Jb,Jb,YV];have h1:=Iw (J5 ks)
   have h2:=EM (B:=2040) ks fun k hx=>by
    have:=VG _ k (Nat.le_refl _) (hk k hx);omega
   have h3:=VL hs;have h4:(Pc.tx (.m s)).length=s.length:=rfl;have e1:(Pc.tx (.g [40])).length=1:=rfl;have e3:(Uc [.g [41]]).length=1:=rfl;simp only[List.length_append,Xl,Nat.mul_add];omega
end
section
variable {k:Nd}

theorem G1: ∀(ps:List (List Pc)) (p:List Pc),ps≠[]→Zk (ps++[p])=Zk ps++(.g [44]:: .b::p)
 |[],p,h=>absurd rfl h
 |[q],p,_=>rfl
 |q::r::ps,p,_=>by
  have:=G1 (r::ps) p Q3;show Zk (q::r::(ps++[p]))=_;rw[Zk];show q++(.g [44]:: .b::Zk ((r::ps)++[p]))=_;rw[this,Zk];simp
theorem Nr: ∀(a b:List Nd),J5 (a++b)=J5 a++J5 b
 |[],b=>rfl
 |x::a,b=>by rw[List.cons_append,J5,J5,Nr a b];rfl
theorem Dj{l:List Nd}{i:Nat}(h:l[i]? =some k):Uc (Zk (J5 (l.take (i+1))))=(if 0<i then Uc (Zk (J5 (l.take i)))++[44,32]else Uc (Zk (J5 (l.take i))))++Uc (Jp k):=by
 have e:l.take (i+1)=l.take i++[k]:=by rw[List.take_add_one,h];rfl
 rw[e,Nr]
 by_cases hi:0<i
 ·rw[if_pos hi]
  have hne:J5 (l.take i)≠[]:=fun x=>by
   have:=congrArg List.length x;rw[ZX,List.length_take,List.length_nil]at this;have:=(List.getElem?_eq_some_iff.1 h).1;omega
  show Uc (Zk (J5 (l.take i)++[Jp k]))=_;rw[G1 _ _ hne,YV,Jb,Jb,List.append_assoc];rfl
 ·rw[if_neg hi]
  have:i=0:=by omega
  subst this;simp[J5,Zk,Uc]
theorem Ur{o s:List Nat}{z a:Int}{l:List Nd}{n:Nat}(h:Xl (.mk o s z a l)≤n)(hk:k∈l):Xl k≤n:=by
 have:=Ed hk;rw[Xl]at h;omega
theorem Zr{o s:List Nat}{z a:Int}{l:List Nd}(h:Ji (.mk o s z a l)=true)(hk:k∈l):Ji k=true:=by
 rcases YD h with⟨s',a',_,e⟩|⟨z',a',_,_,e⟩|⟨s',z',a1,a2,hs,_,_,e⟩|⟨a',ks,_,hp,e⟩|⟨o',a',x,y,_,hx,hy,_,e⟩<;>injection e with e1 e2 e3 e4 e5<;>subst e5
 ·cases hk
 ·cases hk
 ·rw[List.mem_singleton.1 hk,UB,if_pos rfl,hs];rfl
 ·have:=hp k hk;unfold Lj at this;rw[Bool.and_eq_true]at this;exact this.1
 ·simp only[List.mem_cons,List.not_mem_nil,or_false]at hk;rcases hk with rfl|rfl
  ·exact hx
  ·exact hy
section
variable {o s:List Nat} {z a:Int} {l:List Nd} (h:Ji (.mk o s z a l)=true)
include h
theorem vQ(ho:o=YO):Uc (Jp (.mk o s z a l))=s:=by rw[Jp,if_pos ho];simp[Uc,Pc.tx]
theorem vS(ho:o=Xn):Uc (Jp (.mk o s z a l))=Y1 z.toNat∧0≤z∧z≤99:=by
 rcases YD h with⟨s',a',_,e⟩|⟨z',a',h0,h9,e⟩|⟨s',z',a1,a2,hs,_,_,e⟩|⟨a',ks,_,hp,e⟩|⟨o',a',x,y,hso,hx,hy,_,e⟩<;>injection e with e1 e2 e3 e4 e5<;>subst e1
 ·exact absurd ho Qz
 ·subst e3;exact⟨by rw[Jp,if_neg Qz,if_pos rfl];simp[Uc,Pc.tx],h0,h9⟩
 ·exact absurd ho Qz
 ·exact absurd ho Qz
 ·subst ho;exact absurd hso Qz
theorem zs(ho:o=YB):(∃k,l=[k]∧Uc (Jp (.mk o s z a l))=Uc (Jp k)++[32,43,32]++Y1 z.toNat)∧0≤z∧z≤99:=by
 rcases YD h with⟨s',a',_,e⟩|⟨z',a',h0,h9,e⟩|⟨s',z',a1,a2,hs,h0,h9,e⟩|⟨a',ks,_,hp,e⟩|⟨o',a',x,y,hso,hx,hy,_,e⟩<;>injection e with e1 e2 e3 e4 e5<;>subst e1
 ·exact absurd ho Qz
 ·exact absurd ho Qz
 ·subst e3 e5;exact⟨⟨_,rfl,by rw[Jp,if_neg Qz,if_neg Qz,if_pos rfl];simp[Uc,Pc.tx,J5]⟩,by omega,h9⟩
 ·exact absurd ho Qz
 ·subst ho;exact absurd hso Qz
theorem vR(ho:o=UY):Uc (Jp (.mk o s z a l))=[123]++Uc (Zk (J5 l))++[125]:=by
 rw[Jp,if_neg (by rw[ho];decide),if_neg (by rw[ho];decide),if_neg (by rw[ho];decide),if_pos ho,Jb,YV];rfl
theorem qM(h1: ¬o=YO)(h2: ¬o=Xn)(h3: ¬o=YB)(h4: ¬o=UY): ∃x y,l=[x,y]∧JA o=true∧Uc (Jp (.mk o s z a l))=Uc (Jp x)++[32]++Pc.tx (XI o)++[32]++Uc (Jp y):=by
 rcases YD h with⟨s',a',_,e⟩|⟨z',a',h0,h9,e⟩|⟨s',z',a1,a2,hs,h0,h9,e⟩|⟨a',ks,_,hp,e⟩|⟨o',a',x,y,hso,hx,hy,_,e⟩<;>injection e with e1 e2 e3 e4 e5
 ·exact absurd e1 h1
 ·exact absurd e1 h2
 ·exact absurd e1 h3
 ·exact absurd e1 h4
 ·subst e1 e5;refine⟨x,y,rfl,hso,?_⟩;rw[E1 hso,YV,Jb,Jb,Jb];simp[Pc.tx]
end
end
end Go.Proofs.YtmgkfceomhagaaaGreatDoor
