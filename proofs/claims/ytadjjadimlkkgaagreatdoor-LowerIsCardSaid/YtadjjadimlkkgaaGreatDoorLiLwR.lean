/-
  Lowering, plainly: what is lowered is a core formula of as many variables.
-/
import Derived.Test.YtadjjadimlkkgaaGreatDoorLiLwF
namespace Go.Proofs.YtadjjadimlkkgaaGreatDoor
open Go Go.RowKit
set_option linter.unusedVariables false
set_option linter.unusedSectionVars false
set_option linter.unusedSimpArgs false
set_option maxRecDepth 100000
set_option maxHeartbeats 1000000

theorem G9{a n m:Int}(h1:0≤a)(h2:a<m)(h3:0≤n)(h4:n≤20):Jm (.mk [110,117,109] a 0 0 n []) m=true:=by
 simp[Jm,ZZ,JK,JA];omega
theorem PJ{a b n m:Int}(h1:0≤a)(h2:a<m)(h5:0≤b)(h6:b<m)(h3:0≤n)(h4:n≤20):Jm (.mk [112,108,117,115] a b 0 n []) m=true:=by
 simp[Jm,ZZ,JK,JA];omega
theorem PL{a m:Int}(h1:0≤a)(h2:a<m):Jm (.mk [110,111,110,101] a 0 0 0 []) m=true:=by
 simp[Jm,ZZ,JK,JA];omega
theorem PI{a m:Int}(h1:0≤a)(h2:a<m):Jm (.mk [115,105,110,103] a 0 0 0 []) m=true:=by
 simp[Jm,ZZ,JK,JA];omega
theorem PM{a m:Int}(h1:0≤a)(h2:a<m):Jm (.mk [102,108,97,103] a 0 0 0 []) m=true:=by
 simp[Jm,ZZ,JK,JA];omega
theorem IZ{a b m:Int}(h1:0≤a)(h2:a<m)(h5:0≤b)(h6:b<m):Jm (EI a b) m=true:=by
 simp[Jm,ZZ,JK,JA];omega
theorem LP{a b m:Int}(h1:0≤a)(h2:a<m)(h5:0≤b)(h6:b<m):Jm (L8 a b) m=true:=by
 simp[Jm,ZZ,JK,JA];omega
theorem G8{o:List Nat}(ho:Jr o=true){a b c m:Int}(h1:0≤a)(h2:a<m)(h5:0≤b)(h6:b<m)(h7:0≤c)(h8:c<m):Jm (.mk o a b c 0 []) m=true:=by
 unfold Jr at ho;simp only[Bool.or_eq_true,decide_eq_true_eq]at ho
 rcases ho with rfl|rfl|rfl<;>(simp[Jm,ZZ,JK,JA];omega)
theorem LO{m:Int}:Jm CG m=true:=by simp[Jm,ZZ,JK,JA]
theorem Yb{k:Cr}{m:Int}(h:Jm k m=true):Jm (Z2 k) m=true:=by simp[Jm,ZZ,JK,JA,h]
theorem ZY{k j:Cr}{m:Int}(h:Jm k m=true)(h2:Jm j m=true):Jm (Ah k j) m=true:=by simp[Jm,ZZ,JK,JA,h,h2]
theorem Ob{k:Cr}{m:Int}(h:Jm k (m+1)=true)(h6:m<6):Jm (uh m k) m=true:=by
 have:=h;simp[Jm,ZZ,JK,JA,h,h6]
theorem Kb{d f:Cr}{m:Int}(h:Jm d (m+1)=true)(h2:Jm f (m+1)=true)(h6:m<6):Jm (Wi m d f) m=true:=Ob (ZY h h2) h6
theorem Ka{k j:Cr}{m:Int}(h:Jm k m=true)(h2:Jm j m=true):Jm (Gn k j) m=true:=Yb (ZY h (Yb h2))
theorem PK{o:List Nat}{a b m:Int}(h1:0≤a)(h2:a<m)(h3:0≤b)(h4:b<m):Jm (Zd o a b) m=true:=by
 have s1:=IZ h1 h2 h3 h4;have s2:=IZ h3 h4 h1 h2;unfold Zd
 split
 ·exact ZY s1 s2
 split
 ·exact Yb (ZY s1 s2)
 split
 ·exact LP h1 h2 h3 h4
 split
 ·exact Yb (LP h3 h4 h1 h2)
 split
 ·exact Yb s1
 ·exact s1
theorem CU(ns:List (List Nat))(s:List Nat): ∀i,(∃j,j<i∧ns[j]? =some s)→0≤AA ns s i∧AA ns s i<((i:Nat):Int)
 |0,h=>by obtain⟨j,h,_⟩:=h;omega
 |i+1,h=>by
  rw[AA]
  split
  ·exact⟨by omega,by omega⟩
  ·rename_i hi
   have:=CU ns s i (by
    obtain⟨j,h1,h2⟩:=h
    by_cases e:j=i
    ·subst e;exact absurd h2 hi
    ·exact⟨j,by omega,h2⟩)
   exact⟨this.1,by omega⟩
theorem Sj{ns:List (List Nat)}{s:List Nat}(h:s∈ns):0≤I3 ns s∧I3 ns s<((ns.length:Nat):Int):=by
 obtain⟨j,hj⟩:=List.getElem?_of_mem h;exact CU ns s _ ⟨j,(List.getElem?_eq_some_iff.1 hj).1,hj⟩
theorem Iz(s:List Nat): ∀(l:List Dc) (r:Int),¬s∈l.map Dc.name→l.foldl (fun r d=>if d.name=s then d.order else r) r=r
 |[],r,_=>rfl
 |d::l,r,h=>by
  rw[List.map_cons,List.mem_cons]at h;rw[List.foldl_cons,if_neg (fun e=>h (.inl e.symm))];exact Iz s l r (fun hm=>h (.inr hm))
theorem Lt{sc:List Dc}{s:List Nat}(h: ¬UE sc s= -1):s∈sc.map Dc.name:=by
 by_cases hm:s∈sc.map Dc.name
 ·exact hm
 ·exact absurd (Iz s sc (-1) hm) h
theorem LB{sc:List Dc}{pl:Bool}{a want:Int}{r:Int×Int}: ∀{l:List Nd},UT sc pl a want l=some r→r.2≠0
 |[],h=>by rw[UT]at h;cases h
 |k::l,h=>by
  rw[UT]at h
  split at h
  ·rename_i hk;injection h with h;subst h;exact hk
  split at h
  ·injection h with h;subst h;exact(by decide: ¬(7:Int)=0)
  ·exact LB h
theorem LC{sc:List Dc}{pl:Bool}{a want:Int}: ∀{l:List Nd},UT sc pl a want l=none→ ∀k∈l,(Q0 sc k).2.2=0
 |[],_,k,hk=>by cases hk
 |x::l,h,k,hk=>by
  rw[UT]at h
  split at h
  ·cases h
  split at h
  ·cases h
  ·rename_i h1 _;rcases List.mem_cons.1 hk with rfl|hk
   ·omega
   ·exact LC h k hk
theorem Ph{sc:List Dc}{o s:List Nat}{z a:Int}{l:List Nd}(h:(Q0 sc (.mk o s z a l)).2.2=0)(h1: ¬o=[118,97,114])(h2: ¬o=[110,117,109]): ∀k∈l,(Q0 sc k).2.2=0:=by
 rw[Q0,if_neg h1,if_neg h2]at h
 cases hk:UT sc (decide (o=[112,108,117,115])) a (if o=[112,108,117,115]∨o=[115,101,116]then 1 else 2) l with
 |none=>exact LC hk
 |some r=>rw[hk]at h;exact absurd h (LB hk)
theorem SD{sc:List Dc}{s:List Nat}{z a:Int}{l:List Nd}(h:(Q0 sc (.mk [118,97,114] s z a l)).2.2=0):s∈sc.map Dc.name:=by
 rw[Q0,if_pos rfl]at h
 split at h
 ·cases h
 ·exact Lt (by omega)
theorem GI{ps:List Pd}{sc:List Dc}: ∀{l:List Nd},(Kf ps l sc).2=0→ ∀k∈l,(UC ps k sc).2=0
 |[],_,k,hk=>by cases hk
 |x::l,h,k,hk=>by
  rw[Kf]at h
  split at h
  ·contradiction
  ·rename_i h1;rcases List.mem_cons.1 hk with rfl|hk
   ·omega
   ·exact GI h k hk
theorem MC{sc:List Dc}{o:List Nat}{a:Int}{k j:Nd}(h:(Ub sc o a k j).2=0):(Q0 sc k).2.2=0∧(Q0 sc j).2.2=0:=by
 unfold Ub at h
 split at h
 ·contradiction
 split at h
 ·contradiction
 ·exact⟨by omega,by omega⟩
theorem Yz{S:LS}{s:List Nat}(h:(Qv S s).lg=false):S.lg=false∧S.ns.length+1≤6:=by
 simp only[Qv,Bool.or_eq_false_iff,decide_eq_false_iff_not]at h;exact⟨h.1,by omega⟩
theorem AT{S:LS}{z:Int}(h:(QW S z).lg=false):S.lg=false∧z≤20:=by
 simp only[QW,Bool.or_eq_false_iff,decide_eq_false_iff_not]at h;exact⟨h.1,by omega⟩
theorem H3: ∀(l:List Int) (t:LT),(Zg l t).2.1.lg=false→t.2.1.lg=false
 |[],t,h=>h
 |k::l,t,h=>by rw[Zg]at h;exact(Yz (H3 l _ h)).1
mutual
theorem Mo: ∀(x:Nd) (S:LS) (acc:List Nx),(Qm x S acc).2.1.lg=false→S.lg=false
 |.mk o s z a l,S,acc,h=>by
  have ih:=Ib l S acc;rw[Qm]at h;generalize QH l S acc=t at h ih;obtain⟨ks,S1,nx1⟩:=t
  by_cases h1:o=[118,97,114]
  ·rw[if_pos h1]at h;exact h
  rw[if_neg h1]at h
  by_cases h2:o=[110,117,109]
  ·rw[if_pos h2]at h;exact(AT (Yz h).1).1
  rw[if_neg h2]at h
  by_cases h3:o=[112,108,117,115]
  ·rw[if_pos h3]at h;exact ih (AT (Yz h).1).1
  rw[if_neg h3]at h
  by_cases h4:o=[115,101,116]
  ·rw[if_pos h4]at h
   cases ks with
   |nil=>exact ih (Yz h).1
   |cons k ks=>exact ih (H3 ks _ h)
  rw[if_neg h4]at h;exact ih (Yz h).1
theorem Ib: ∀(l:List Nd) (S:LS) (acc:List Nx),(QH l S acc).2.1.lg=false→S.lg=false
 |[],S,acc,h=>by rw[QH]at h;exact h
 |k::l,S,acc,h=>by rw[QH]at h;exact Mo k S acc (Ib l _ _ h)
end
theorem NS{x:Nd}{S:LS}(h:(Qh x S).2.lg=false):S.lg=false:=by
 cases hl:S.lg with
 |false=>rfl
 |true=>
  obtain⟨o,s,z,a,l⟩:=x;rw[Qh,if_pos hl]at h;rw[hl]at h;cases h
def Good(b:Nat)(acc:List Nx):Prop:= ∀(j:Nat) (y:Nx),acc[j]? =some y→y.v=((b+j:Nat):Int)∧Jm y.d ((b+j+1:Nat):Int)=true∧b+j<6
theorem Good.snoc{b:Nat}{acc:List Nx}{y:Nx}(h:Good b acc)(h1:y.v=((b+acc.length:Nat):Int))(h2:Jm y.d ((b+acc.length+1:Nat):Int)=true)(h3:b+acc.length<6):Good b (acc++[y]):=by
 intro j x hj
 by_cases hlt:j<acc.length
 ·rw[List.getElem?_append_left hlt]at hj;exact h j x hj
 ·rw[List.getElem?_append_right (by omega)]at hj
  have h0:j-acc.length=0:=by
   by_cases h0:j-acc.length=0
   ·exact h0
   ·rw[List.getElem?_eq_none (by simp;omega)]at hj;cases hj
  rw[h0]at hj
  injection hj with hj
  subst hj
  have:j=acc.length:=by omega
  subst this;exact⟨h1,h2,h3⟩
theorem C8: ∀(acc:List Nx) (b:Nat) (c:Cr),Good b acc→Jm c ((b+acc.length:Nat):Int)=true→Jm (Ew acc c) ((b:Nat):Int)=true
 |[],b,c,_,h=>h
 |y::acc,b,c,hg,h=>by
  obtain⟨h1,h2,h3⟩:=hg 0 y rfl
  have ih:=C8 acc (b+1) c (fun j x hj=>by
   obtain⟨g1,g2,g3⟩:=hg (j+1) x (by simpa using hj)
   exact⟨by rw[g1];congr 1;omega,by rw[show b+1+j+1=b+(j+1)+1 by omega];exact g2,by omega⟩) (by rw[List.length_cons]at h;rw[show b+1+acc.length=b+(acc.length+1) by omega];exact h)
  show Jm (Wi y.v y.d (Ew acc c)) _=true;rw[h1];have e:(((b+0:Nat):Int))=((b:Nat):Int):=rfl;rw[e];exact Kb (by simpa using h2) (by simpa using ih) (by omega)
structure yH(b:Nat)(r:LT):Prop where
 v0:0≤r.1
 v1:r.1<((r.2.1.ns.length:Nat):Int)
 len:r.2.1.ns.length=b+r.2.2.length
 good:Good b r.2.2
theorem Ko{b:Nat}{S:LS}{acc:List Nx}{f:Int→Nx}(hl:S.ns.length=b+acc.length)(hg:Good b acc)(hlg:(Wk S acc f).2.1.lg=false)(hv:(f ((S.ns.length:Nat):Int)).v=((S.ns.length:Nat):Int))(hc:Jm (f ((S.ns.length:Nat):Int)).d (((S.ns.length+1:Nat)):Int)=true):yH b (Wk S acc f):=by
 obtain⟨_,h6⟩:=Yz hlg;refine⟨by show(0:Int)≤((S.ns.length:Nat):Int);omega,?_,?_,?_⟩
 ·show((S.ns.length:Nat):Int)<(((Qv S []).ns.length:Nat):Int);rw[J7];omega
 ·show(Qv S []).ns.length=b+(acc++[f ((S.ns.length:Nat):Int)]).length;rw[J7,List.length_append,List.length_singleton];omega
 ·exact hg.snoc (by rw[hv,hl]) (by rw[←hl];exact hc) (by omega)
theorem CZ: ∀(l:List Int) (b:Nat) (t:LT),yH b t→(∀k∈l,0≤k∧k<((t.2.1.ns.length:Nat):Int))→(Zg l t).2.1.lg=false→yH b (Zg l t)
 |[],b,t,h,_,_=>h
 |k::l,b,t,h,hk,hlg=>by
  rw[Zg]at hlg ⊢;obtain⟨k0,k1⟩:=hk k (List.mem_cons_self ..);have v0:=h.v0;have v1:=h.v1;refine CZ l b _ (Ko h.len h.good (H3 l _ hlg) rfl ?_) (fun x hx=>?_) hlg
  ·simp only[Nx.d];exact G8 (o:=[117,110,105,111,110]) (by decide) v0 (by omega) k0 (by omega) (by omega) (by omega)
  ·obtain⟨x0,x1⟩:=hk x (List.mem_cons_of_mem _ hx);refine⟨x0,?_⟩;show x<(((Qv t.2.1 []).ns.length:Nat):Int);rw[J7];omega
mutual
theorem Mn: ∀(x:Nd) (S:LS) (acc:List Nx) (b:Nat) (sc:List Dc),QJ x=true→(Q0 sc x).2.2=0→(∃r,S.ns=sc.map Dc.name++r)→S.ns.length=b+acc.length→Good b acc→(Qm x S acc).2.1.lg=false→yH b (Qm x S acc)
 |.mk o s z a l,S,acc,b,sc,ht,hk,hns,hl,hg,hlg=>by
  have hkid:=Le ht;rw[Qm]at hlg ⊢
  by_cases h1:o=[118,97,114]
  ·subst h1;rw[if_pos rfl];have hm:=SD hk
   have hm2:s∈S.ns:=by obtain⟨r,hr⟩:=hns;rw[hr];exact List.mem_append_left _ hm
   obtain⟨n0,n1⟩:=Sj hm2;exact⟨n0,n1,hl,hg⟩
  rw[if_neg h1]at hlg ⊢
  by_cases h2:o=[110,117,109]
  ·rw[if_pos h2]at hlg ⊢;subst h2;have hc:=(AT (Yz hlg).1).2
   have hz:0≤z:=by
    rw[Ju,if_neg (by decide),if_pos (by decide)]at ht;simp only[Bool.and_eq_true,decide_eq_true_eq]at ht;exact ht.2.1
   exact Ko (S:=QW S z) hl hg hlg rfl (by simp only[Nx.d];exact G9 (by omega) (by omega) hz hc)
  rw[if_neg h2]at hlg ⊢;have hkk:=Ph hk h1 h2;have ih:=Ia l S acc b sc hkid.1 hkk hns hl hg;have hlen:=Eg l S acc
  by_cases h3:o=[112,108,117,115]
  ·rw[if_pos h3]at hlg ⊢;subst h3;have hc:=AT (Yz hlg).1;obtain⟨i1,i2,i3⟩:=ih hc.1;have hl1:=hkid.2.1 rfl
   have hz:0≤z:=by
    rw[Ju,if_neg (by decide),if_neg (by decide),if_pos (by decide)]at ht;simp only[Bool.and_eq_true,decide_eq_true_eq]at ht;omega
   obtain⟨k,hk1⟩: ∃k,(QH l S acc).1[0]? =some k:=⟨_,List.getElem?_eq_getElem (by omega)⟩;obtain⟨k0,k1⟩:=i1 k (List.mem_of_getElem? hk1);refine Ko (S:=QW (QH l S acc).2.1 z) i2 i3 hlg rfl ?_;simp only[Nx.d];rw[AH hk1];exact PJ k0 (by show k<(((QH l S acc).2.1.ns.length+1:Nat):Int);omega) (by omega) (by omega) hz hc.2
  rw[if_neg h3]at hlg ⊢
  by_cases h4:o=[115,101,116]
  ·rw[if_pos h4]at hlg ⊢
   generalize QH l S acc=t at *
   obtain⟨ks,S1,nx1⟩:=t
   cases ks with
   |nil=>
    obtain⟨i1,i2,i3⟩:=ih (Yz hlg).1;exact Ko i2 i3 hlg rfl (by simp only[Nx.d];exact PL (by omega) (by omega))
   |cons k ks=>
    obtain⟨i1,i2,i3⟩:=ih (H3 ks _ hlg);obtain⟨k0,k1⟩:=i1 k (List.mem_cons_self ..);exact CZ ks b (k,S1,nx1) ⟨k0,k1,i2,i3⟩ (fun x hx=>i1 x (List.mem_cons_of_mem _ hx)) hlg
  rw[if_neg h4]at hlg ⊢;obtain⟨i1,i2,i3⟩:=ih (Yz hlg).1;have hl2:=hkid.2.2 h1 h2 h3 h4
  have hset:Jr o=true:=by
   rw[Ju,if_neg (show¬o=Zr from h1),if_neg (show¬o=ZS from h2),if_neg (show¬o=UM from h3),if_neg (show¬o=YD from h4)]at ht
   split at ht
   ·assumption
   ·cases ht
  obtain⟨k,hk1⟩: ∃k,(QH l S acc).1[0]? =some k:=⟨_,List.getElem?_eq_getElem (by omega)⟩;obtain⟨j,hj1⟩: ∃k,(QH l S acc).1[1]? =some k:=⟨_,List.getElem?_eq_getElem (by omega)⟩;obtain⟨k0,k1⟩:=i1 k (List.mem_of_getElem? hk1);obtain⟨j0,j1⟩:=i1 j (List.mem_of_getElem? hj1);refine Ko i2 i3 hlg rfl ?_;simp only[Nx.d];rw[AH hk1,Ie hj1];exact G8 hset k0 (by omega) j0 (by omega) (by omega) (by omega)
theorem Ia: ∀(l:List Nd) (S:LS) (acc:List Nx) (b:Nat) (sc:List Dc),(∀k∈l,QJ k=true)→(∀k∈l,(Q0 sc k).2.2=0)→(∃r,S.ns=sc.map Dc.name++r)→S.ns.length=b+acc.length→Good b acc→(QH l S acc).2.1.lg=false→(∀v∈(QH l S acc).1,0≤v∧v<(((QH l S acc).2.1.ns.length:Nat):Int))∧(QH l S acc).2.1.ns.length=b+(QH l S acc).2.2.length∧Good b (QH l S acc).2.2
 |[],S,acc,b,sc,_,_,_,hl,hg,_=>by rw[QH];exact⟨fun v hv=>(by cases hv),hl,hg⟩
 |k::l,S,acc,b,sc,ht,hk,hns,hl,hg,hlg=>by
  rw[QH]at hlg ⊢;have h1:=Mn k S acc b sc (ht k (List.mem_cons_self ..)) (hk k (List.mem_cons_self ..)) hns hl hg (Ib l _ _ hlg);obtain⟨r1,hr1⟩:=Nu k S acc;obtain⟨r2,hr2⟩:=Ar l (Qm k S acc).2.1 (Qm k S acc).2.2;have h2:=Ia l (Qm k S acc).2.1 (Qm k S acc).2.2 b sc (fun x hx=>ht x (List.mem_cons_of_mem _ hx)) (fun x hx=>hk x (List.mem_cons_of_mem _ hx)) (by obtain⟨r,hr⟩:=hns;exact⟨r++r1,by rw[hr1,hr,List.append_assoc]⟩) h1.len h1.good hlg;refine⟨fun v hv=>?_,h2.2⟩;rcases List.mem_cons.1 hv with rfl|hv
  ·refine⟨h1.v0,?_⟩;have:=h1.v1;show(Qm k S acc).1<(((QH l (Qm k S acc).2.1 (Qm k S acc).2.2).2.1.ns.length:Nat):Int);rw[hr2,List.length_append];omega
  ·exact h2.1 v hv
end
theorem Gx: ∀{l:List Nd} {S:LS},(QQ l S).2.lg=false→S.lg=false
 |[],S,h=>by rw[QQ]at h;exact h
 |k::l,S,h=>by rw[QQ]at h;exact NS (Gx h)
theorem DN{s:List Nat}{z:Int}{S:LS}(h:(QN s z S).lg=false):S.lg=false∧S.ns.length+1≤6∧(z=0→S.ns.length+2≤6):=by
 unfold QN at h
 split at h
 ·have h1:=Yz (S:=Qv S s) (s:=[]) h;have h2:=Yz h1.1;have h3:=h1.2;rw[J7]at h3;exact⟨h2.1,h2.2,fun _=>by omega⟩
 ·rename_i hz;have h2:=Yz h;exact⟨h2.1,h2.2,fun e=>absurd e hz⟩
theorem DO{z:Int}{n:Nat}(h1:n+1≤6)(h2:z=0→n+2≤6)(h3:0≤z)(h4:z<2):Jm (VR z ((n:Nat):Int) ((n+1:Nat):Int)) (((n:Nat):Int)+1)=true:=by
 unfold VR
 split
 ·rename_i hz;have:=h2 hz;exact Ob (m:=((n+1:Nat):Int)) (ZY (G9 (by omega) (by omega) (by omega) (by omega)) (IZ (by omega) (by omega) (by omega) (by omega))) (by omega)
 split
 ·exact PI (by omega) (by omega)
 ·omega
theorem Lq{z:Int}{n:Nat}{f:Cr}(h1:n+1≤6)(h2:z=0→n+2≤6)(h3:0≤z)(h4:z<3)(hf:Jm f (((n:Nat):Int)+1)=true):Jm (X9 z ((n:Nat):Int) ((n+1:Nat):Int) f) ((n:Nat):Int)=true:=by
 unfold X9
 split
 ·exact Ob hf (by omega)
 ·exact Kb (DO h1 h2 h3 (by omega)) hf (by omega)
theorem TP{ps:List Pd}{o s:List Nat}{z a:Int}{k j:Nd}{sc:List Dc}(h:(UC ps (.mk o s z a [k,j]) sc).2=0)(h1: ¬o=[105,115])(h2: ¬o=[99,97,108,108])(h3:UQ o=true):(Q0 sc k).2.2=0∧(Q0 sc j).2.2=0:=by
 rw[UC,if_neg h1,if_neg h2,if_pos h3]at h;exact MC h
theorem Iq{ps:List Pd}{o s:List Nat}{z a:Int}{l:List Nd}{sc:List Dc}(h:(UC ps (.mk o s z a l) sc).2=0)(h1: ¬o=[105,115])(h2: ¬o=[99,97,108,108])(h3:UQ o=false): ∀k∈l,(UC ps k (if o=[101,120]∨o=[97,108,108]then sc++[⟨s,z,0⟩]else sc)).2=0:=by
 unfold UC at h;rw[if_neg h1,if_neg h2,if_neg (by rw[h3];decide)]at h;exact GI h
theorem HZ{l:List Nd}(h:l.length=2): ∃k j,l=[k,j]:=by
 match l,h with
 |[k,j],_=>exact⟨k,j,rfl⟩
theorem Si{l:List Nd}(h:l.length=1): ∃k,l=[k]:=by
 match l,h with
 |[k],_=>exact⟨k,rfl⟩
theorem MX(ps:List Pd)(x:Nd): ∀(S:LS) (sc:List Dc),QO x=true→JD x=false→(UC ps x sc).2=0→S.ns=sc.map Dc.name→(Qh x S).2.lg=false→Jm (Qh x S).1 ((S.ns.length:Nat):Int)=true:=by
 refine Xi (M:=fun x=> ∀(S:LS) (sc:List Dc),QO x=true→JD x=false→(UC ps x sc).2=0→S.ns=sc.map Dc.name→(Qh x S).2.lg=false→Jm (Qh x S).1 ((S.ns.length:Nat):Int)=true) (fun o s z a l ih=>?_) x;intro S sc ht hn hc hns hlg;have hS:=NS hlg;have hcall:=Lw hn;have hnk:=I7 hn;obtain⟨f1,f2,f3,f4⟩:=LJ ht hcall
 have two: ∀{k j:Nd},l=[k,j]→(∀k∈l,QO k=true)→ ¬o=[105,115]→UQ o=false→ ¬(o=[101,120]∨o=[97,108,108])→(QQ l S).2.lg=false→Jm (Qh k S).1 ((S.ns.length:Nat):Int)=true∧Jm (Qh j (Qh k S).2).1 ((S.ns.length:Nat):Int)=true∧(QQ l S).1=[(Qh k S).1,(Qh j (Qh k S).2).1]:=by
  intro k j hl hf hi ha hq hg;have hr:=Iq hc hi hcall ha;rw[if_neg hq]at hr;subst hl;rw[QQ,QQ,QQ]at hg;have hg2:=NS hg;have e:=Y1 k S;refine⟨ih k (by simp) S sc (hf k (by simp)) (hnk k (by simp)) (hr k (by simp)) hns hg2,?_,by rw[QQ,QQ,QQ]⟩;have:=ih j (by simp) (Qh k S).2 sc (hf j (by simp)) (hnk j (by simp)) (hr j (by simp)) (by rw[e];exact hns) hg;rw[e]at this;exact this
 rw[Qh,if_neg (by rw[hS];decide)]at hlg ⊢
 by_cases h1:o=[116,114,117,101]
 ·rw[if_pos h1];exact LO
 rw[if_neg h1]at hlg ⊢
 by_cases h2:o=[102,97,108,115,101]
 ·rw[if_pos h2];exact Yb LO
 rw[if_neg h2]at hlg ⊢
 by_cases h3:o=[110,111,116]
 ·rw[if_pos h3]at hlg ⊢;obtain⟨hl,hf⟩:=f1 h3;obtain⟨k,rfl⟩:=Si hl;have hr:=Iq hc (by rw[h3];decide) hcall (by rw[h3];decide);rw[if_neg (by rw[h3];decide)]at hr;rw[QQ,QQ]at hlg ⊢;exact Yb (ih k (by simp) S sc (hf k (by simp)) (hnk k (by simp)) (hr k (by simp)) hns hlg)
 rw[if_neg h3]at hlg ⊢
 by_cases h4:o=[97,110,100]
 ·rw[if_pos h4]at hlg ⊢;obtain⟨hl,hf⟩:=f2 (.inl h4);obtain⟨k,j,hkj⟩:=HZ hl;obtain⟨t1,t2,t3⟩:=two hkj hf (by rw[h4];decide) (by rw[h4];decide) (by rw[h4];decide) hlg;rw[t3];exact ZY t1 t2
 rw[if_neg h4]at hlg ⊢
 by_cases h5:o=[111,114]
 ·rw[if_pos h5]at hlg ⊢;obtain⟨hl,hf⟩:=f2 (.inr (.inl h5));obtain⟨k,j,hkj⟩:=HZ hl;obtain⟨t1,t2,t3⟩:=two hkj hf (by rw[h5];decide) (by rw[h5];decide) (by rw[h5];decide) hlg;rw[t3];exact Yb (ZY (Yb t1) (Yb t2))
 rw[if_neg h5]at hlg ⊢
 by_cases h6:o=[105,109,112]
 ·rw[if_pos h6]at hlg ⊢;obtain⟨hl,hf⟩:=f2 (.inr (.inr (.inl h6)));obtain⟨k,j,hkj⟩:=HZ hl;obtain⟨t1,t2,t3⟩:=two hkj hf (by rw[h6];decide) (by rw[h6];decide) (by rw[h6];decide) hlg;rw[t3];exact Ka t1 t2
 rw[if_neg h6]at hlg ⊢
 by_cases h7:o=[105,102,102]
 ·rw[if_pos h7]at hlg ⊢;obtain⟨hl,hf⟩:=f2 (.inr (.inr (.inr h7)));obtain⟨k,j,hkj⟩:=HZ hl;obtain⟨t1,t2,t3⟩:=two hkj hf (by rw[h7];decide) (by rw[h7];decide) (by rw[h7];decide) hlg;rw[t3];exact ZY (Ka t1 t2) (Ka t2 t1)
 rw[if_neg h7]at hlg ⊢
 have quant:(o=[101,120]∨o=[97,108,108])→(QQ l (QN s z S)).2.lg=false→ ∃f,(QQ l (QN s z S)).1.headD Kr=f∧Jm f (((S.ns.length:Nat):Int)+1)=true∧(S.ns.length+1≤6∧(z=0→S.ns.length+2≤6))∧0≤z∧z<3:=by
  intro hq hg;obtain⟨hl,hz,hf⟩:=f3 hq;obtain⟨k,rfl⟩:=Si hl
  have hr:=Iq hc (by rcases hq with e|e<;>(rw[e];decide)) hcall (by rcases hq with e|e<;>(rw[e];decide))
  rw[if_pos hq]at hr;have hqs:=DN (Gx hg);rw[QQ,QQ]at hg ⊢;have:=ih k (by simp) (QN s z S) (sc++[⟨s,z,0⟩]) (hf k (by simp)) (hnk k (by simp)) (hr k (by simp)) (by rw[Ft,hns];simp) hg;rw[EK]at this;exact⟨_,rfl,by simpa using this,hqs.2,hz⟩
 by_cases h8:o=[101,120]
 ·rw[if_pos h8]at hlg ⊢;obtain⟨f,e,g1,g2,g3,g4⟩:=quant (.inl h8) hlg;show Jm (X9 z _ _ ((QQ l (QN s z S)).1.headD Kr)) _=true;rw[e,J7];exact Lq g2.1 g2.2 g3 g4 g1
 rw[if_neg h8]at hlg ⊢
 by_cases h9:o=[97,108,108]
 ·rw[if_pos h9]at hlg ⊢;obtain⟨f,e,g1,g2,g3,g4⟩:=quant (.inr h9) hlg;show Jm (Z2 (X9 z _ _ (Z2 ((QQ l (QN s z S)).1.headD Kr)))) _=true;rw[e,J7];exact Yb (Lq g2.1 g2.2 g3 g4 (Yb g1))
 rw[if_neg h9]at hlg ⊢
 by_cases h10:o=[105,115]
 ·rw[if_pos h10];unfold UC at hc;rw[if_pos h10]at hc
  have hm:s∈S.ns:=by
   rw[hns];refine Lt fun e=>?_;rw[if_pos e]at hc;cases hc
  obtain⟨n0,n1⟩:=Sj hm;exact PM n0 n1
 rw[if_neg h10]at hlg ⊢;obtain⟨hl,hterm,hat⟩:=f4 h1 h2 h3 h4 h5 h6 h7 h8 h9 h10;obtain⟨k,j,rfl⟩:=HZ hl;obtain⟨k1,k2⟩:=TP hc h10 hcall hat
 have hall: ∀x∈[k,j],(Q0 sc x).2.2=0:=fun x hx=>by
  rcases List.mem_cons.1 hx with rfl|hx
  ·exact k1
  ·rw[List.mem_singleton.1 hx];exact k2
 obtain⟨i1,i2,i3⟩:=Ia [k,j] S [] S.ns.length sc hterm hall ⟨[],by rw[hns];simp⟩ (by simp) (fun j y hj=>by simp at hj) hlg;have hlen:=Eg [k,j] S [];obtain⟨v0,hv0⟩: ∃q,(QH [k,j] S []).1[0]? =some q:=⟨_,List.getElem?_eq_getElem (by rw[hlen];simp)⟩;obtain⟨v1,hv1⟩: ∃q,(QH [k,j] S []).1[1]? =some q:=⟨_,List.getElem?_eq_getElem (by rw[hlen];simp)⟩;obtain⟨a0,a1⟩:=i1 v0 (List.mem_of_getElem? hv0);obtain⟨b0,b1⟩:=i1 v1 (List.mem_of_getElem? hv1);show Jm (Ew (QH [k,j] S []).2.2 (Zd o ((QH [k,j] S []).1.headD 0) ((QH [k,j] S []).1.tail.headD 0))) _=true;rw[AH hv0,Ie hv1];refine C8 _ _ _ i3 ?_;rw[←i2];exact PK a0 a1 b0 b1
theorem PS{ds:List Dc}{x:Nd}(h:(UP ⟨ds,[],x⟩).2=0):(UC [] x ds).2=0:=by
 unfold UP at h
 split at h
 ·split at h
  ·cases h
  ·exact h
 ·cases h
theorem S0{ds:List Dc}{x:Nd}(h:(JT ds x).2=0):ds.length≤6∧Hv (JT ds x).1≤2000∧Jm (JT ds x).1 ((ds.length:Nat):Int)=true:=by
 by_cases h1:(Uj x 2000&&QO x)=false∨JD x=true∨6<ds.length
 ·rw[JT,if_pos h1]at h;cases h
 by_cases h2:(UP ⟨ds,[],x⟩).2=0
 ·by_cases h3:(Qh x ⟨ds.map Dc.name,false⟩).2.lg=true∨2000<Hv (Qh x ⟨ds.map Dc.name,false⟩).1
  ·rw[JT,if_neg h1,if_neg (fun q=>q h2),if_pos h3]at h;cases h
  ·rw[JT,if_neg h1,if_neg (fun q=>q h2),if_neg h3];have g1:=Bool.of_not_eq_false fun e=>h1 (.inl e);rw[Bool.and_eq_true]at g1;have g2:=Bool.eq_false_iff.2 fun e=>h1 (.inr (.inl e));have g3:=Bool.eq_false_iff.2 fun e=>h3 (.inl e);refine⟨by have:=fun e=>h1 (.inr (.inr e));omega,Nat.le_of_not_lt fun e=>h3 (.inr e),?_⟩;have:=MX [] x ⟨ds.map Dc.name,false⟩ ds g1.2 g2 (PS h2) rfl g3
   simpa using this
 ·rw[JT,if_neg h1,if_pos h2]at h;cases h
theorem Pb(ds:List Dc)(x:Nd):(JT ds x).2=0∨(JT ds x).2=1∨(JT ds x).2=8:=by
 unfold JT
 split
 ·exact .inr (.inl rfl)
 split
 ·exact .inr (.inl rfl)
 split
 ·exact .inr (.inr rfl)
 ·exact .inl rfl
end Go.Proofs.YtadjjadimlkkgaaGreatDoor
