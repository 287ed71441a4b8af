/-
  Any formula that is shown is parsed to itself, or it is too deep: plain law.
-/
import Derived.Test.YthjgndgnmkiaiaaGreatDoorZpShR
set_option maxRecDepth 10000
set_option linter.unusedSectionVars false
set_option linter.unusedVariables false
namespace Go.Proofs.YthjgndgnmkiaiaaGreatDoor
open Go Go.RowKit
section
variable {at_ z:Int} {o s:List Nat} {x:Nd}

section
variable {L:List Tk}
theorem Ys.pos{S:PS}{T:List Tk}(h:Ys L S T)(hT:0<T.length):S.i<L.length:=by
 have:=h.len;omega
theorem Wc(S:PS)(d:Nat)(he:S.e=0):(Qb L S d).e=4∨Qb L S d=S:=by
 unfold Qb
 split
 ·exact .inl (by unfold QJ;rw[if_pos he])
 ·exact .inr rfl
theorem KG{f d:Nat}{S:PS}{R:List Tk}{k:Nd}(h:(Qb L S d).e=4):Hl L (Uk L (f+1) S d) R k:=.inl (by rw[Uk,if_pos (n4 h)];exact h)
theorem E6(ho:oneOf o [[116,114,117,101],[102,97,108,115,101]]=true):Q8 (.mk o s z at_ [])=[.w o]:=by rw[Q8,if_pos ho]
theorem E5:Q8 (.mk [110,111,116] s z at_ [x])=.g [126]::Q8 x:=by rw[Q8];rfl
theorem Fj:Q8 (.mk [105,115] s z at_ [])=[.m s]:=by rw[Q8];rfl
theorem Wu{ks:List Nd}:Q8 (.mk [99,97,108,108] s z at_ ks)=.m s:: .g [40]::(UF (Js ks)++[.g [41]]):=by rw[Q8];rfl
theorem N9(ho:oneOf o [[97,110,100],[111,114],[105,109,112],[105,102,102]]=true):o=[97,110,100]∨o=[111,114]∨o=[105,109,112]∨o=[105,102,102]:=by simpa [oneOf]using ho
theorem E3{y:Nd}(ho:oneOf o [[97,110,100],[111,114],[105,109,112],[105,102,102]]=true):Q8 (.mk o s z at_ [x,y])=.g [40]::(Q8 x++(.b::Vs o:: .b::(Q8 y++[.g [41]]))):=by
 rcases N9 ho with rfl|rfl|rfl|rfl<;>rw[Q8]<;>rfl
theorem Br(ho:oneOf o [[101,120],[97,108,108]]=true):o=[101,120]∨o=[97,108,108]:=by simpa [oneOf]using ho
theorem Fi(ho:oneOf o [[101,120],[97,108,108]]=true):Q8 (.mk o s z at_ [x])=.g [40]:: .w (o++U4 z.toNat):: .b:: .m s:: .g [58]:: .b::(Q8 x++[.g [41]]):=by
 rcases Br ho with rfl|rfl<;>rw[Q8]<;>rfl
theorem E4{y:Nd}(ho:G2 o=true):Q8 (.mk o s z at_ [x,y])=QP x++(.b::Vs o:: .b::QP y):=by
 rcases KL ho with rfl|rfl|rfl|rfl|rfl|rfl|rfl<;>rw[Q8]<;>rfl
theorem wz(ho:oneOf o [[101,120],[97,108,108]]=true)(h0:0≤z)(h3:z<3): ∃n:Nat,kn[n]? =some (o++U4 z.toNat)∧nk[n/3]? =some o∧((n % 3:Nat):Int)=z:=by
 obtain⟨z,rfl⟩: ∃m:Nat,z=m:=⟨z.toNat,by omega⟩;rw[Int.toNat_natCast]
 match z,h3 with
 |0,_=>rcases Br ho with rfl|rfl;exact⟨0,by rw[U4];rfl,rfl,rfl⟩;exact⟨3,by rw[U4];rfl,rfl,rfl⟩
 |1,_=>rcases Br ho with rfl|rfl;exact⟨1,by rw[U4];rfl,rfl,rfl⟩;exact⟨4,by rw[U4];rfl,rfl,rfl⟩
 |2,_=>rcases Br ho with rfl|rfl;exact⟨2,by rw[U4];rfl,rfl,rfl⟩;exact⟨5,by rw[U4];rfl,rfl,rfl⟩
 |n+3,h=>omega
theorem OA{a:Int}{R:List Tk}:Hm (⟨3,[41],0,a⟩::R) eB∧Hm (⟨3,[41],0,a⟩::R) ky:=⟨.sg Qo,.sg Qo⟩
theorem lq(ho:oneOf o [[97,110,100],[111,114],[105,109,112],[105,102,102]]=true)(a:Nat)(R:List Tk):Hm (UC a [Vs o]++R) eB:=by
 rcases N9 ho with rfl|rfl|rfl|rfl<;>exact .sg Qo
theorem wg(ho:oneOf o [[97,110,100],[111,114],[105,109,112],[105,102,102]]=true)(a:Nat)(R:List Tk):(UC a [Vs o]++R).length=R.length+1:=by
 rcases N9 ho with rfl|rfl|rfl|rfl<;>rfl
theorem uP{f d a:Nat}{S:PS}{R:List Tk}{k:Nd}{p:List Pc}(h:Reads L (Uj L) eB p k)(b:Ys L S (UC a p++R))(hR:Hm R eB)(hh: ∃t T,UC a p++R=t::T∧(t.k≠3∨t.s=[123])):Hl L (Uk L (f+1) S d) R k:=by
 rcases Wc (L:=L) S d b.e with he|he
 ·exact KG he
 obtain⟨t,T,e,ht⟩:=hh;have b':=b;rw[e]at b'
 have hno: ∀w,w≠[123]→JO L (Qb L S d) w=false:=fun w hw=>by rw[he];exact b'.no (ht.imp id fun x y=>hw (y.symm.trans x))
 obtain⟨h1,h2⟩:=Md (f:=f) (hno _ Qo) (hno _ Qo) (hno _ Qo) (hno _ Qo) fun w hw=>hno w fun x=>by subst x;exact absurd hw Qo
 rw[he]at h1 h2;obtain⟨h3,h4⟩:=h a S R b hR;refine .inr ⟨?_,by rw[h1];exact h4⟩;rw[h2 h4.e];exact h3
theorem N7: ∀(n:Nat) (k:Nd),YT k≤n→Jg k=true→ ∀(f d a:Nat) (S:PS) (R:List Tk),Ys L S (UC a (Q8 k)++R)→Hm R eB→(UC a (Q8 k)++R).length≤f→Hl L (Uk L f S d) R k
 |0,k,hn,_=>by have:=XJ k;omega
 |n+1,k,hn,h=>fun f d a S R b hR hf=>by
  have hR0:=hR.ne;obtain⟨f,rfl⟩: ∃g,f=g+1:=⟨f-1,by rw[List.length_append]at hf;omega⟩;rcases Wt h with⟨o,at_,ho,rfl⟩|⟨at_,x,hx,rfl⟩|⟨o,at_,x,y,ho,hx,hy,rfl⟩|⟨o,s,z,at_,x,ho,hs,hz0,hz3,hx,rfl⟩|⟨s,at_,hs,rfl⟩|⟨o,at_,x,y,ho,hx,hy,rfl⟩|⟨s,at_,ks,hs,h6,hk,rfl⟩
  ·rw[E6 ho]at b;have b:Ys L S (⟨3,o,0,(a:Int)⟩::R):=b;rcases Wc (L:=L) S d b.e with he|he
   ·exact KG he
   have hi:JO L (Qb L S d) o=true:=by rw[he];exact b.yes
   rw[N6 hi (by simpa [oneOf]using ho),he,Qf,if_pos b.yes,b.now];exact .inr ⟨by simp[Un,Yd],b.next (show(3:Int)≠4 by decide)⟩
  ·rw[E5]at b hf;have b:Ys L S (⟨3,[126],0,(a:Int)⟩::(UC (a+1) (Q8 x)++R)):=b;have hf:(UC (a+1) (Q8 x)++R).length+1≤f+1:=hf;rcases Wc (L:=L) S d b.e with he|he
   ·exact KG he
   have hi:JO L (Qb L S d) [126]=true:=by rw[he];exact b.yes
   simp only[YT,WC]at hn;have h1:=N7 n x Qk hx f (d+1) _ _ R b.take hR Qk;rw[Sp hi,he];rcases h1 with h1|⟨h1,h2⟩
   ·exact .inl h1
   ·exact .inr ⟨by simp[Un,Yd,h1],h2⟩
  ·rw[E3 ho]at b hf;have b:Ys L S (⟨3,[40],0,(a:Int)⟩::(UC (a+1) (Q8 x++(.b::Vs o:: .b::(Q8 y++[.g [41]])))++R)):=b;have hf:(UC (a+1) (Q8 x++(.b::Vs o:: .b::(Q8 y++[.g [41]])))++R).length+1≤f+1:=hf;rcases Wc (L:=L) S d b.e with he|he
   ·exact KG he
   have hi:JO L (Qb L S d) [40]=true:=by rw[he];exact b.yes
   have e: ∀c,UC c (.b::Vs o:: .b::(Q8 y++[.g [41]]))=UC (c+1) [Vs o]++(UC (c+1+(QQ [Vs o]).length+1) (Q8 y)++[⟨3,[41],0,((c+1+(QQ [Vs o]).length+1+(QQ (Q8 y)).length:Nat):Int)⟩]):=fun c=>by
    show UC (c+1) ([Vs o]++(.b::(Q8 y++[.g [41]])))=_;rw[JI];show _++UC (c+1+(QQ [Vs o]).length+1) (Q8 y++[.g [41]])=_;rw[JI];rfl
   have b1:=b.take;simp only[YT,WC]at hn;rw[JI,List.append_assoc,e,List.append_assoc,List.append_assoc]at b1 hf
   generalize a+1+(QQ (Q8 x)).length+1=c1 at *
   generalize c1+(QQ [Vs o]).length+1=c2 at *
   generalize ((c2+(QQ (Q8 y)).length:Nat):Int)=c3 at *
   have hl:=wg ho c1 (UC c2 (Q8 y)++([⟨3,[41],0,c3⟩]++R));have hx1:=N7 n x Qk hx f (d+1) _ _ _ b1 (lq ho _ _) Qk;have h2:=x7 (u:=fun S=>Uk L f S (d+1)) (d:=d+1) (at_:=at_) ho hx1 (fun S' b'=>N7 n y Qk hy f (d+1) c2 S' ([⟨3,[41],0,c3⟩]++R) b' OA.1 (by rw[List.length_append]at hf;omega)) OA.2 b1.e (b1.pos (by rw[List.length_append,hl,List.length_append];omega));rw[It hi,he];rcases h2 with h2|⟨h2,b2⟩
   ·exact .inl (by rw[YX (n4 h2)];exact h2)
   ·exact .inr ⟨h2,Ys.CT b2⟩
  ·rw[Fi ho]at b hf;obtain⟨q,hq1,hq2,hq3⟩:=wz ho hz0 hz3
   generalize hw:o++U4 z.toNat=w at *
   have b:Ys L S (⟨3,[40],0,(a:Int)⟩::⟨3,w,0,((a+1:Nat):Int)⟩::⟨1,s,0,((a+1+w.length+1:Nat):Int)⟩::⟨3,[58],0,((a+1+w.length+1+s.length:Nat):Int)⟩::(UC (a+1+w.length+1+s.length+1+1) (Q8 x++[.g [41]])++R)):=b;have hf:(UC (a+1+w.length+1+s.length+1+1) (Q8 x++[.g [41]])++R).length+4≤f+1:=hf;rcases Wc (L:=L) S d b.e with he|he
   ·exact KG he
   have hi:JO L (Qb L S d) [40]=true:=by rw[he];exact b.yes
   have b1:=b.take;have b2:=b1.next (show(3:Int)≠4 by decide);have b3:=b2.next (show(1:Int)≠4 by decide)
   have hnm:QF L (Qd L (Qf L S [40]))=Qd L (Qd L (Qf L S [40])):=by rw[QF,b2.now];rfl
   have hnt:Jq L (Qd L (Qf L S [40]))=⟨1,s,0,((a+1+w.length+1:Nat):Int)⟩:=by rw[Jq,b2.now];rfl
   have b4:Ys L (Q2 L (QF L (Qd L (Qf L S [40]))) [58]) (UC (a+1+w.length+1+s.length+1+1) (Q8 x++[.g [41]])++R):=by rw[hnm];exact b3.CT
   rw[JI,List.append_assoc]at b4 hf;simp only[YT,WC]at hn;rw[It hi,he]
   have hin:Hl L (U8 (fun S=>Uk L f S (d+1)) L (Qf L S [40]) (d+1)) (⟨3,[41],0,((a+1+w.length+1+s.length+1+1+(QQ (Q8 x)).length:Nat):Int)⟩::R) (.mk o s z at_ [x]):=by
    refine O8 ?_ OA.2 b1.e;obtain⟨f,rfl⟩: ∃g,f=g+1:=⟨f-1,by omega⟩;show Hl L (Uk L (f+1) (Qf L S [40]) (d+1)) _ _;rcases Wc (L:=L) (Qf L S [40]) (d+1) b1.e with he2|he2
    ·exact KG he2
    have hyes:JO L (Qb L (Qf L S [40]) (d+1)) w=true:=by rw[he2];exact b1.yes
    obtain⟨o',ho',hqu,_⟩:=M4 hq1 hyes;rw[hq2]at ho'
    injection ho' with ho'
    subst ho';rw[GS (by rw[he2];exact b1.e) hqu,he2,hnt,hq3];have h5:=O8 (u:=fun S=>Uk L f S (d+1+1)) (d:=d+1+1) (N7 n x Qk hx f (d+1+1) _ _ _ b4 (OA (R:=R)).1 Qk) OA.2 b4.e;rcases h5 with h5|⟨h5,b5⟩
    ·exact .inl h5
    ·exact .inr ⟨by simp[Un,Yd,h5],b5⟩
   rcases hin with h2|⟨h2,b2⟩
   ·exact .inl (by rw[YX (n4 h2)];exact h2)
   ·exact .inr ⟨h2,Ys.CT b2⟩
  ·rw[Fj]at b;exact uP (iB hs) b hR ⟨_,_,rfl,.inl (show(1:Int)≠3 by decide)⟩
  ·rw[E4 ho]at b;exact uP (wu ho hx hy) b hR ((Iy _ x (Nat.le_refl _) hx).app a R)
  ·rw[Wu]at b;exact uP (uj h6 hk) b hR ⟨_,_,rfl,.inl (show(1:Int)≠3 by decide)⟩
end
end
section

theorem Zp{s:List Nat}(h:Ui s=true):s.length≤2000:=by
 unfold Ui at h;simp only[Bool.and_eq_true,decide_eq_true_eq]at h;have h1:=h.1
 by_cases hl:2000<(bytesOf s).size
 ·rw[tokens,if_pos hl]at h1;exact absurd h1 (show¬(3:Int)=0 by decide)
 ·have e:(bytesOf s).size=s.length:=by simp[bytesOf,ByteArray.size]
  omega
theorem Dr: ∀z:Nat,z≤999→(U4 z).length≤3:=by
 intro z hz;rw[U4]
 split
 ·simp
 ·rw[U4]
  split
  ·simp
  ·rw[U4,if_pos Qk];simp
theorem WX(o:List Nat):(Pc.tx (Vs o)).length≤3+o.length:=by
 unfold Vs
 repeat' split
 all_goals(simp[Pc.tx];try omega)
theorem I9: ∀ps:List (List Pc),(QQ (UF ps)).length≤(ps.map fun p=>(QQ p).length+2).sum
 |[]=>by simp[UF,QQ]
 |[p]=>by simp[UF]
 |p::q::ps=>by
  have h2:=I9 (q::ps);rw[UF,JR,Qz,Qz,List.length_append,List.length_append,List.length_append,List.map_cons,List.sum_cons];have e1:(Pc.tx (.g [44])).length=1:=rfl;have e2:(Pc.tx .b).length=1:=rfl;omega
theorem EN{B:Nat}: ∀ks:List Nd,(∀k∈ks,(QQ (QP k)).length+2≤B *YT k)→((Js ks).map fun p=>(QQ p).length+2).sum≤B *WC ks
 |[],_=>by simp[Js]
 |k::ks,h=>by
  have h1:=h k Q1;have h2:=EN ks fun x hx=>h x (List.mem_cons_of_mem _ hx);simp only[Js,List.map_cons,List.sum_cons,WC,Nat.mul_add];omega
theorem V3: ∀(n:Nat) (k:Nd),YT k≤n→QM k=true→(QQ (QP k)).length+20≤2040 *YT k
 |0,k,hn,_=>by have:=XJ k;omega
 |n+1,k,hn,h=>by
  rcases Yx h with⟨s,at_,hs,rfl⟩|⟨z,at_,hz,hz9,rfl⟩|⟨s,z,a1,a2,hs,hz,hz9,rfl⟩|⟨at_,ks,h6,hp,rfl⟩|⟨o,at_,x,y,ho,hx,hy,_,rfl⟩
  ·have e:QQ (QP (.mk Y7 s 0 at_ []))=s:=by rw[QP];simp[QQ,Pc.tx]
   have:=Zp hs;rw[e,YT,WC];omega
  ·have e:QQ (QP (.mk ZS [] z at_ []))=U4 z.toNat:=by rw[QP];simp[QQ,Pc.tx,ZS,Y7]
   have:=Dr z.toNat Qk;rw[e,YT,WC];omega
  ·have e:QQ (QP (.mk Yr [] z a1 [.mk Y7 s 0 a2 []]))=s++([32,43,32]++U4 z.toNat):=by rw[QP,Js,QP];simp[QQ,Pc.tx,Yr,ZS,Y7]
   have:=Zp hs;have:=Dr z.toNat Qk;rw[e,YT,WC,YT,List.length_append,List.length_append];simp only[List.length_cons,List.length_nil,WC];omega
  ·have e:QQ (QP (.mk U3 [] 0 at_ ks))=123::(QQ (UF (Js ks))++[125]):=by
    rw[QP,if_neg Qo,if_neg Qo,if_neg Qo,if_pos rfl,Qz,JR];rfl
   have h1:=I9 (Js ks)
   have h2:=EN (B:=2040) ks fun k hk=>by
    have:=hp k hk;unfold L6 at this;rw[Bool.and_eq_true]at this;have h3:=F5 hk;have:=V3 n k (by simp only[YT]at hn;omega) this.1;omega
   rw[e,YT,List.length_cons,List.length_append,List.length_singleton,Nat.mul_add];omega
  ·rw[Ek ho,JR,Qz,Qz,Qz,List.length_append,List.length_append,List.length_append,List.length_append];simp only[YT,WC]at hn ⊢;have h1:=V3 n x Qk hx;have h2:=V3 n y Qk hy;have h3:=WX o
   have h4:o.length≤5:=by rcases EV ho with rfl|rfl|rfl<;>decide
   have e2:(Pc.tx .b).length=1:=rfl;omega
theorem Fg: ∀(n:Nat) (k:Nd),YT k≤n→Jg k=true→(QQ (Q8 k)).length+20≤2040 *YT k
 |0,k,hn,_=>by have:=XJ k;omega
 |n+1,k,hn,h=>by
  rcases Wt h with⟨o,at_,ho,rfl⟩|⟨at_,x,hx,rfl⟩|⟨o,at_,x,y,ho,hx,hy,rfl⟩|⟨o,s,z,at_,x,ho,hs,hz0,hz3,hx,rfl⟩|⟨s,at_,hs,rfl⟩|⟨o,at_,x,y,ho,hx,hy,rfl⟩|⟨s,at_,ks,hs,h6,hk,rfl⟩
  ·rw[E6 ho]
   have:o=[116,114,117,101]∨o=[102,97,108,115,101]:=by simpa [oneOf]using ho
   rcases this with rfl|rfl<;>simp[YT,WC,QQ,Pc.tx]
  ·rw[E5,Qz,List.length_append];simp only[YT,WC]at hn ⊢;have:=Fg n x Qk hx;have e:(Pc.tx (.g [126])).length=1:=rfl;omega
  ·rw[E3 ho,Qz,JR,Qz,Qz,Qz,JR];simp only[List.length_append,YT,WC]at hn ⊢;have h1:=Fg n x Qk hx;have h2:=Fg n y Qk hy;have h3:=WX o
   have h4:o.length≤3:=by rcases N9 ho with rfl|rfl|rfl|rfl<;>decide
   have e1:(Pc.tx (.g [40])).length=1:=rfl;have e2:(Pc.tx .b).length=1:=rfl;have e3:(QQ [.g [41]]).length=1:=rfl;omega
  ·rw[Fi ho,Qz,Qz,Qz,Qz,Qz,Qz,JR];simp only[List.length_append,YT,WC]at hn ⊢;have h1:=Fg n x Qk hx;have h2:=Zp hs
   have h3:(Pc.tx (.w (o++U4 z.toNat))).length≤6:=by
    have:=Dr z.toNat Qk
    rcases Br ho with rfl|rfl<;>(simp only[Pc.tx,List.length_append,List.length_cons,List.length_nil];omega)
   have h4:(Pc.tx (.m s)).length=s.length:=rfl;have e1:(Pc.tx (.g [40])).length=1:=rfl;have e2:(Pc.tx .b).length=1:=rfl;have e3:(QQ [.g [41]]).length=1:=rfl;have e4:(Pc.tx (.g [58])).length=1:=rfl;omega
  ·have e:QQ (Q8 (.mk [105,115] s 0 at_ []))=s:=by rw[Fj];simp[QQ,Pc.tx]
   have:=Zp hs;rw[e,YT,WC];omega
  ·rw[E4 ho,JR,Qz,Qz,Qz];simp only[List.length_append,YT,WC]at hn ⊢;have h1:=V3 _ x (Nat.le_refl _) hx;have h2:=V3 _ y (Nat.le_refl _) hy;have h3:=WX o
   have h4:o.length≤5:=by rcases KL ho with rfl|rfl|rfl|rfl|rfl|rfl|rfl<;>decide
   have e2:(Pc.tx .b).length=1:=rfl;omega
  ·rw[Wu,Qz,Qz,JR];have h1:=I9 (Js ks)
   have h2:=EN (B:=2040) ks fun k hx=>by
    have:=V3 _ k (Nat.le_refl _) (hk k hx);omega
   have h3:=Zp hs;have h4:(Pc.tx (.m s)).length=s.length:=rfl;have e1:(Pc.tx (.g [40])).length=1:=rfl;have e3:(QQ [.g [41]]).length=1:=rfl;simp only[List.length_append,YT,Nat.mul_add];omega
end
section

theorem NF: ∀(a b:List Nd),Js (a++b)=Js a++Js b
 |[],b=>rfl
 |x::a,b=>by rw[List.cons_append,Js,Js,NF a b];rfl
theorem JZ{o s:List Nat}{z a:Int}{l:List Nd}{k:Nd}{n:Nat}(h:YT (.mk o s z a l)≤n)(hk:k∈l):YT k≤n:=by
 have:=F5 hk;rw[YT]at h;omega
theorem XI{o s:List Nat}{z a:Int}{l:List Nd}{k:Nd}(h:QM (.mk o s z a l)=true)(hk:k∈l):QM k=true:=by
 rcases Yx h with⟨s',a',_,e⟩|⟨z',a',_,_,e⟩|⟨s',z',a1,a2,hs,_,_,e⟩|⟨a',ks,_,hp,e⟩|⟨o',a',x,y,_,hx,hy,_,e⟩<;>injection e with e1 e2 e3 e4 e5<;>subst e5
 ·cases hk
 ·cases hk
 ·rw[List.mem_singleton.1 hk,Uf,if_pos rfl,hs];rfl
 ·have:=hp k hk;unfold L6 at this;rw[Bool.and_eq_true]at this;exact this.1
 ·simp only[List.mem_cons,List.not_mem_nil,or_false]at hk;rcases hk with rfl|rfl
  ·exact hx
  ·exact hy
section
variable {o s:List Nat} {z a:Int} {l:List Nd} (h:QM (.mk o s z a l)=true)
include h
theorem fl(ho:o=Y7):QQ (QP (.mk o s z a l))=s:=by rw[QP,if_pos ho];simp[QQ,Pc.tx]
theorem fq(ho:o=ZS):QQ (QP (.mk o s z a l))=U4 z.toNat∧0≤z∧z≤99:=by
 rcases Yx h with⟨s',a',_,e⟩|⟨z',a',h0,h9,e⟩|⟨s',z',a1,a2,hs,_,_,e⟩|⟨a',ks,_,hp,e⟩|⟨o',a',x,y,hso,hx,hy,_,e⟩<;>injection e with e1 e2 e3 e4 e5<;>subst e1
 ·exact absurd ho Qo
 ·subst e3;exact⟨by rw[QP,if_neg Qo,if_pos rfl];simp[QQ,Pc.tx],h0,h9⟩
 ·exact absurd ho Qo
 ·exact absurd ho Qo
 ·subst ho;exact absurd hso Qo
theorem vT(ho:o=Yr):(∃k,l=[k]∧QQ (QP (.mk o s z a l))=QQ (QP k)++[32,43,32]++U4 z.toNat)∧0≤z∧z≤99:=by
 rcases Yx h with⟨s',a',_,e⟩|⟨z',a',h0,h9,e⟩|⟨s',z',a1,a2,hs,h0,h9,e⟩|⟨a',ks,_,hp,e⟩|⟨o',a',x,y,hso,hx,hy,_,e⟩<;>injection e with e1 e2 e3 e4 e5<;>subst e1
 ·exact absurd ho Qo
 ·exact absurd ho Qo
 ·subst e3 e5;exact⟨⟨_,rfl,by rw[QP,if_neg Qo,if_neg Qo,if_pos rfl];simp[QQ,Pc.tx,Js]⟩,by omega,h9⟩
 ·exact absurd ho Qo
 ·subst ho;exact absurd hso Qo
theorem fp(ho:o=U3):QQ (QP (.mk o s z a l))=[123]++QQ (UF (Js l))++[125]:=by
 rw[QP,if_neg (by rw[ho];decide),if_neg (by rw[ho];decide),if_neg (by rw[ho];decide),if_pos ho,Qz,JR];rfl
theorem fm(h1: ¬o=Y7)(h2: ¬o=ZS)(h3: ¬o=Yr)(h4: ¬o=U3): ∃x y,l=[x,y]∧Jf o=true∧QQ (QP (.mk o s z a l))=QQ (QP x)++[32]++Pc.tx (Vs o)++[32]++QQ (QP y):=by
 rcases Yx h with⟨s',a',_,e⟩|⟨z',a',h0,h9,e⟩|⟨s',z',a1,a2,hs,h0,h9,e⟩|⟨a',ks,_,hp,e⟩|⟨o',a',x,y,hso,hx,hy,_,e⟩<;>injection e with e1 e2 e3 e4 e5
 ·exact absurd e1 h1
 ·exact absurd e1 h2
 ·exact absurd e1 h3
 ·exact absurd e1 h4
 ·subst e1 e5;refine⟨x,y,rfl,hso,?_⟩;rw[Ek hso,JR,Qz,Qz,Qz];simp[Pc.tx]
end
end
end Go.Proofs.YthjgndgnmkiaiaaGreatDoor
