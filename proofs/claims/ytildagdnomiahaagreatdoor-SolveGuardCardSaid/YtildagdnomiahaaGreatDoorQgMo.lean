/-
  Things in memory, each in places of its own: what a call does to one leaves the others.
-/
import Derived.Test.YtildagdnomiahaaGreatDoorQgTyc
namespace Go.Proofs.YtildagdnomiahaaGreatDoor
open Go Go.RowKit
set_option linter.unusedVariables false
set_option linter.unusedSectionVars false
variable {c2 k k2 m2:Nat} {e t:TypeId} {l2:List AV}

abbrev Fp:=Nat→Prop
abbrev QK:=List (Nat×Nat×List AV)
structure Ob where
 F:Fp
 H:Hp→Prop
 fr: ∀h h',(∀c,F c→h' c=h c)→H h→H h'
structure Qj(st0:St)(X0:Fp)(st:St)(M:QK)(Os:List Ob):Prop where
 fresh:Qg st
 le:st0.n≤st.n
 row: ∀c m l,(c,m,l)∈M→Qw st.h.get c m l
 nodup:(M.map Prod.fst).Nodup
 lo: ∀c m l,(c,m,l)∈M→st0.n≤c∨X0 c
 obj: ∀o∈Os,o.H st.h.get
 hi: ∀o∈Os,∀c,o.F c→c<st.n∧(st0.n≤c∨X0 c)
 dj:Os.Pairwise fun o p=> ∀c,o.F c→ ¬p.F c
 djM: ∀o∈Os,∀c m l,(c,m,l)∈M→ ¬o.F c
 J0: ∀c,c<st0.n→ ¬X0 c→st.h.get c=st0.h.get c
abbrev WA:Fp:=fun _=>False
def XE(st st':St)(F:Fp):Prop:= ∀c,F c→st.n≤c∧c<st'.n
def Eg(st st':St)(F F':Fp):Prop:= ∀c,F' c→(F c∨st.n≤c)∧c<st'.n
section
variable {st0 st st' st2:St} {X0:Fp} {M M' M2 R:QK} {Os Os':List Ob} {o o':Ob}
theorem Qj.start(hf:Qg st):Qj st WA st [] []:=
 ⟨hf,Nat.le_refl _,fun c m l h=>(by cases h),List.nodup_nil,fun c m l h=>(by cases h),fun o h=>(by cases h),fun o h=>(by cases h),.nil,fun o h=>(by cases h),fun _ _ _=>rfl⟩
theorem Qj.UR(hf:Qg st)(h:o.H st.h.get)(hi: ∀c,o.F c→c<st.n):Qj st o.F st [] [o]:=
 ⟨hf,Nat.le_refl _,fun c m l h=>(by cases h),List.nodup_nil,fun c m l h=>(by cases h),fun p hp=>by rw[List.mem_singleton.1 hp];exact h,fun p hp c hc=>by rw[List.mem_singleton.1 hp]at hc;exact⟨hi c hc,.inr hc⟩,
  List.pairwise_singleton _ _,fun p hp c m l h=>(by cases h),fun _ _ _=>rfl⟩
theorem Qj.mem(B:Qj st0 X0 st M Os):Mem st.h.get st.n (M.map Prod.fst) st M:=Mem.Db B.fresh M B.row B.nodup
theorem Qj.step(B:Qj st0 X0 st M Os)(hM:Mem st.h.get st.n (M.map Prod.fst) st2 M2):Qj st0 X0 st2 M2 Os:=by
 have hlo: ∀c∈M.map Prod.fst,st0.n≤c∨X0 c:=fun c hc=>by
  obtain⟨⟨c,m,l⟩,h1,rfl⟩:=List.mem_map.1 hc;exact B.lo c m l h1
 have hdj: ∀o∈Os,∀c,o.F c→c∉M.map Prod.fst:=fun o ho c hc hm=>by
  obtain⟨⟨c,m,l⟩,h1,rfl⟩:=List.mem_map.1 hm;exact B.djM o ho c m l h1 hc
 refine⟨hM.fresh,Nat.le_trans B.le hM.le,hM.row,hM.nodup,fun c m l hm=>?_,fun o ho=>?_,fun o ho c hc=>?_,B.dj,fun o ho c m l hm hc=>?_,fun c hc hx=>?_⟩
 ·rcases hM.own c m l hm with h|h
  ·exact .inl (Nat.le_trans B.le h)
  ·exact hlo c h
 ·exact o.fr _ _ (fun c hc=>hM.J0 c (B.hi o ho c hc).1 (hdj o ho c hc)) (B.obj o ho)
 ·exact⟨Nat.lt_of_lt_of_le (B.hi o ho c hc).1 hM.le,(B.hi o ho c hc).2⟩
 ·rcases hM.own c m l hm with h|h
  ·have:=(B.hi o ho c hc).1;omega
  ·exact hdj o ho c hc h
 ·rw[hM.J0 c (Nat.lt_of_lt_of_le hc B.le) fun h=>by
   rcases hlo c h with h|h
   ·omega
   ·exact hx h]
  exact B.J0 c hc hx
theorem Qj.at_(B:Qj st0 X0 st M Os)(hk:Os[k]? =some o):o.H st.h.get:=B.obj o (List.mem_of_getElem? hk)
theorem Qj.Vj(B:Qj st0 X0 st M Os)(hk:Os[k]? =some o): ∀c,o.F c→c<st.n:=fun c hc=>(B.hi o (List.mem_of_getElem? hk) c hc).1
theorem Qj.DC(B:Qj st0 X0 st M Os)(hk:Os[k]? =some o): ∀c,o.F c→st0.n≤c∨X0 c:=fun c hc=>(B.hi o (List.mem_of_getElem? hk) c hc).2
theorem Qj.ya(B:Qj st0 WA st M Os)(hk:Os[k]? =some o):XE st0 st o.F:=fun c hc=>⟨(B.DC hk c hc).resolve_right id,B.Vj hk c hc⟩
theorem Qj.less(B:Qj st0 X0 st M Os)(hs:M'.Sublist M):Qj st0 X0 st M' Os:=
 ⟨B.fresh,B.le,fun c m l h=>B.row c m l (hs.subset h),B.nodup.sublist (hs.map _),fun c m l h=>B.lo c m l (hs.subset h),B.obj,B.hi,B.dj,fun o ho c m l h=>B.djM o ho c m l (hs.subset h),B.J0⟩
theorem Qj.perm(B:Qj st0 X0 st M Os)(p:M.Perm M'):Qj st0 X0 st M' Os:=
 ⟨B.fresh,B.le,fun c m l h=>B.row c m l (p.symm.subset h),(p.map _).nodup B.nodup,fun c m l h=>B.lo c m l (p.symm.subset h),B.obj,B.hi,B.dj,fun o ho c m l h=>B.djM o ho c m l (p.symm.subset h),B.J0⟩
theorem Qj.cast(B:Qj st0 X0 st M Os)(e:M=M'):Qj st0 X0 st M' Os:=e▸B
theorem Qj.wv(B:Qj st0 X0 st M Os)(hs:Os'.Sublist Os):Qj st0 X0 st M Os':=
 ⟨B.fresh,B.le,B.row,B.nodup,B.lo,fun o h=>B.obj o (hs.subset h),fun o h=>B.hi o (hs.subset h),B.dj.sublist hs,fun o h=>B.djM o (hs.subset h),B.J0⟩
theorem Qj.Mi(B:Qj st0 X0 st M Os)(p:Os.Perm Os'):Qj st0 X0 st M Os':=
 ⟨B.fresh,B.le,B.row,B.nodup,B.lo,fun o h=>B.obj o (p.symm.subset h),fun o h=>B.hi o (p.symm.subset h),p.pairwise B.dj (fun h c h1 h2=>h c h2 h1),fun o h=>B.djM o (p.symm.subset h),B.J0⟩
theorem Qj.quiet(B:Qj st0 X0 st M Os)(q:Qt st st'):Qj st0 X0 st' M Os:=
 B.step (B.mem.quiet q)
theorem Qj.new(B:Qj st0 X0 st M Os)(q:Qt st st')(h:o.H st'.h.get)(hn:XE st st' o.F):Qj st0 X0 st' M (o::Os):=by
 have B':=B.quiet q;refine⟨B'.fresh,B'.le,B'.row,B'.nodup,B'.lo,fun p hp=>?_,fun p hp c hc=>?_,List.pairwise_cons.2 ⟨fun p hp c h1 h2=>?_,B.dj⟩,fun p hp c m l hm hc=>?_,B'.J0⟩
 ·rcases List.mem_cons.1 hp with rfl|hp
  ·exact h
  ·exact B'.obj p hp
 ·rcases List.mem_cons.1 hp with rfl|hp
  ·exact⟨(hn c hc).2,.inl (Nat.le_trans B.le (hn c hc).1)⟩
  ·exact B'.hi p hp c hc
 ·have:=(hn c h1).1;have:=(B.hi p hp c h2).1;omega
 ·rcases List.mem_cons.1 hp with rfl|hp
  ·have:=(hn c hc).1;have:=(B.row c m l hm).lt B.fresh;omega
  ·exact B'.djM p hp c m l hm hc
theorem Qj.call(B:Qj st0 X0 st M Os)(hk:Os[k]? =some o)(Q:YI o.F st st')(h:o'.H st'.h.get)(hn:Eg st st' o.F o'.F):Qj st0 X0 st' M (Os.set k o'):=by
 have ho:=List.mem_of_getElem? hk;have hlt:=(List.getElem?_eq_some_iff.1 hk).1
 have hne: ∀p∈Os.set k o',p=o'∨ ∃j,Os[j]? =some p∧j≠k:=fun p hp=>by
  obtain⟨j,hj⟩:=List.getElem?_of_mem hp;rw[List.getElem?_set]at hj
  by_cases e:k=j
  ·subst e;rw[if_pos rfl,if_pos hlt]at hj
   injection hj with hj
   exact .inl hj.symm
  ·rw[if_neg e]at hj;exact .inr ⟨j,hj,fun e'=>e e'.symm⟩
 have hdj: ∀j p,Os[j]? =some p→j≠k→ ∀c,p.F c→ ¬o.F c:=fun j p hj e c h1 h2=>by
  have hjl:=(List.getElem?_eq_some_iff.1 hj).1;have hpw:=List.pairwise_iff_getElem.1 B.dj;have ej:Os[j]=p:=(List.getElem?_eq_some_iff.1 hj).2;have ek:Os[k]=o:=(List.getElem?_eq_some_iff.1 hk).2;rcases Nat.lt_or_ge j k with hlt'|hge
  ·exact hpw j k hjl hlt hlt' c (by rw[ej];exact h1) (by rw[ek];exact h2)
  ·exact hpw k j hlt hjl Qe c (by rw[ek];exact h2) (by rw[ej];exact h1)
 refine⟨Q.fresh,Nat.le_trans B.le Q.le,fun c m l hm=>?_,B.nodup,B.lo,fun p hp=>?_,fun p hp c hc=>?_,?_,fun p hp c m l hm hc=>?_,fun c hc hx=>?_⟩
 ·have h1:=B.row c m l hm;exact h1.frame (Q.J0 c (h1.lt B.fresh) (B.djM o ho c m l hm))
 ·rcases hne p hp with rfl|⟨j,hj,e⟩
  ·exact h
  ·exact p.fr _ _ (fun c hc=>Q.J0 c (B.Vj hj c hc) (hdj j p hj e c hc)) (B.at_ hj)
 ·rcases hne p hp with rfl|⟨j,hj,e⟩
  ·obtain⟨h1,h2⟩:=hn c hc;refine⟨h2,?_⟩;rcases h1 with h1|h1
   ·exact B.DC hk c h1
   ·exact .inl (Nat.le_trans B.le h1)
  ·exact⟨Nat.lt_of_lt_of_le (B.Vj hj c hc) Q.le,B.DC hj c hc⟩
 ·refine List.pairwise_iff_getElem.2 fun i j hi hj hij c h1 h2=>?_;rw[List.length_set]at hi hj;have hpw:=List.pairwise_iff_getElem.1 B.dj;rw[List.getElem_set]at h1 h2
  by_cases e1:k=i
  ·rw[if_pos e1]at h1;rw[if_neg Qe]at h2;rcases(hn c h1).1 with h3|h3
   ·exact hdj j _ (List.getElem?_eq_getElem hj) Qe c h2 h3
   ·have:=B.Vj (List.getElem?_eq_getElem hj) c h2;omega
  ·rw[if_neg e1]at h1
   by_cases e2:k=j
   ·rw[if_pos e2]at h2;rcases(hn c h2).1 with h3|h3
    ·exact hdj i _ (List.getElem?_eq_getElem hi) Qe c h1 h3
    ·have:=B.Vj (List.getElem?_eq_getElem hi) c h1;omega
   ·rw[if_neg e2]at h2;exact hpw i j hi hj hij c h1 h2
 ·rcases hne p hp with rfl|⟨j,hj,e⟩
  ·rcases(hn c hc).1 with h3|h3
   ·exact B.djM o ho c m l hm h3
   ·have:=(B.row c m l hm).lt B.fresh;omega
  ·exact B.djM p (List.mem_of_getElem? hj) c m l hm hc
 ·rw[Q.J0 c (Nat.lt_of_lt_of_le hc B.le) fun h'=>by
   rcases B.DC hk c h' with h3|h3
   ·omega
   ·exact hx h3]
  exact B.J0 c hc hx
theorem Qj.view(B:Qj st0 X0 st M Os)(hk:Os[k]? =some o)(h:o'.H st.h.get)(hn: ∀c,o'.F c→o.F c):Qj st0 X0 st M (Os.set k o'):=
 B.call hk ⟨B.fresh,Nat.le_refl _,fun _ _ _=>rfl⟩ h fun c hc=>⟨.inl (hn c hc),B.Vj hk c (hn c hc)⟩
theorem Qj.freeze(B:Qj st0 X0 st (R++M) Os)(h:o.H st.h.get)(hF: ∀c,o.F c→ ∃m l,(c,m,l)∈R):Qj st0 X0 st M (o::Os):=by
 have hnd:=B.nodup;rw[List.map_append]at hnd;refine⟨B.fresh,B.le,fun c m l h=>B.row c m l (List.mem_append_right _ h),(List.nodup_append.1 hnd).2.1,fun c m l h=>B.lo c m l (List.mem_append_right _ h),fun p hp=>?_,fun p hp c hc=>?_,List.pairwise_cons.2 ⟨fun p hp c h1 h2=>?_,B.dj⟩,fun p hp c m l hm hc=>?_,B.J0⟩
 ·rcases List.mem_cons.1 hp with rfl|hp
  ·exact h
  ·exact B.obj p hp
 ·rcases List.mem_cons.1 hp with rfl|hp
  ·obtain⟨m,l,h1⟩:=hF c hc;exact⟨(B.row c m l (List.mem_append_left _ h1)).lt B.fresh,B.lo c m l (List.mem_append_left _ h1)⟩
  ·exact B.hi p hp c hc
 ·obtain⟨m,l,h3⟩:=hF c h1;exact B.djM p hp c m l (List.mem_append_left _ h3) h2
 ·rcases List.mem_cons.1 hp with rfl|hp
  ·obtain⟨m',l',h1⟩:=hF c hc;exact(List.nodup_append.1 hnd).2.2 c (List.mem_map.2 ⟨_,h1,rfl⟩) c (List.mem_map.2 ⟨_,hm,rfl⟩) rfl
  ·exact B.djM p hp c m l (List.mem_append_right _ hm) hc
theorem Qj.join{o1 o2:Ob}(B:Qj st0 X0 st M (o1::o2::Os))(h:o1.H st.h.get→o2.H st.h.get→o.H st.h.get)(hF: ∀c,o.F c→o1.F c∨o2.F c):Qj st0 X0 st M (o::Os):=by
 have hd:=List.pairwise_cons.1 B.dj;have hd2:=List.pairwise_cons.1 hd.2;refine⟨B.fresh,B.le,B.row,B.nodup,B.lo,fun p hp=>?_,fun p hp c hc=>?_,List.pairwise_cons.2 ⟨fun p hp c h1 h2=>?_,hd2.2⟩,fun p hp c m l hm hc=>?_,B.J0⟩
 ·rcases List.mem_cons.1 hp with rfl|hp
  ·exact h (B.obj _ Qx) (B.obj _ Qx)
  ·exact B.obj p (by simp[hp])
 ·rcases List.mem_cons.1 hp with rfl|hp
  ·rcases hF c hc with h1|h1
   ·exact B.hi o1 Qx c h1
   ·exact B.hi o2 Qx c h1
  ·exact B.hi p (by simp[hp]) c hc
 ·rcases hF c h1 with h3|h3
  ·exact hd.1 p (by simp[hp]) c h3 h2
  ·exact hd2.1 p hp c h3 h2
 ·rcases List.mem_cons.1 hp with rfl|hp
  ·rcases hF c hc with h1|h1
   ·exact B.djM o1 Qx c m l hm h1
   ·exact B.djM o2 Qx c m l hm h1
  ·exact B.djM p (by simp[hp]) c m l hm hc
theorem Qj.vD(B:Qj st0 X0 st M (o::Os))(hR: ∀c m l,(c,m,l)∈R→Qw st.h.get c m l∧o.F c)(hn:(R.map Prod.fst).Nodup)(h:o'.H st.h.get)(hF: ∀c,o'.F c→o.F c)(hd: ∀c m l,(c,m,l)∈R→ ¬o'.F c):Qj st0 X0 st (R++M) (o'::Os):=by
 have hp0:=List.pairwise_cons.1 B.dj;refine⟨B.fresh,B.le,fun c m l hm=>?_,?_,fun c m l hm=>?_,fun p hp=>?_,fun p hp c hc=>?_,List.pairwise_cons.2 ⟨fun p hp c h1 h2=>hp0.1 p hp c (hF c h1) h2,hp0.2⟩,fun p hp c m l hm hc=>?_,B.J0⟩
 ·rcases List.mem_append.1 hm with hm|hm
  ·exact(hR c m l hm).1
  ·exact B.row c m l hm
 ·rw[List.map_append];refine List.nodup_append.2 ⟨hn,B.nodup,fun a ha b hb e=>?_⟩;subst e;obtain⟨⟨c,m,l⟩,h1,rfl⟩:=List.mem_map.1 ha;obtain⟨⟨c',m',l'⟩,h3,h4⟩:=List.mem_map.1 hb;simp only at h4;subst h4;exact B.djM o Qx _ m' l' h3 (hR _ m l h1).2
 ·rcases List.mem_append.1 hm with hm|hm
  ·exact(B.hi o Qx c (hR c m l hm).2).2
  ·exact B.lo c m l hm
 ·rcases List.mem_cons.1 hp with rfl|hp
  ·exact h
  ·exact B.obj p (by simp[hp])
 ·rcases List.mem_cons.1 hp with rfl|hp
  ·exact B.hi o Qx c (hF c hc)
  ·exact B.hi p (by simp[hp]) c hc
 ·rcases List.mem_append.1 hm with hm|hm
  ·rcases List.mem_cons.1 hp with rfl|hp
   ·exact hd c m l hm hc
   ·exact hp0.1 p hp c (hR c m l hm).2 hc
  ·rcases List.mem_cons.1 hp with rfl|hp
   ·exact B.djM o Qx c m l hm (hF c hc)
   ·exact B.djM p (by simp[hp]) c m l hm hc
theorem Qj.U7(B:Qj st0 X0 st M Os):YI X0 st0 st:=⟨B.fresh,B.le,B.J0⟩
theorem Qj.qt(B:Qj st0 WA st M Os):Qt st0 st:=⟨B.fresh,B.le,fun c hc=>B.J0 c hc id⟩
theorem Qj.ZH(B:Qj st0 X0 st M Os)(hf:Qg st0){c m:Nat}{l:List AV}(r:UU st0.h.get c m l)(hX: ¬X0 c):UU st.h.get c m l:=by
 have hlt:=r.lt hf;obtain⟨ro,e,vs,ms,h1,h2⟩:=r;exact⟨ro,e,vs,ms,by rw[B.J0 c hlt hX];exact h1,h2⟩
theorem Qj.rd(B:Qj st0 X0 st M Os)(hf:Qg st0){z:Nat}{ls:List (List AV)}{ks:AV}(r:Je st0.h.get [] z ls ks)(hX: ∀c m o n y,ks=.sl c m o n y→ ¬X0 c):Je st.h.get [] z ls ks:=
 r.frame fun c m o n y e=>by
  obtain⟨_,cells,h2,_⟩:=r.alive c m o n y e;exact B.J0 c (h2.lt hf) (hX c m o n y e)
theorem Qj.off(B:Qj st0 X0 st M Os)(hk:Os[k]? =some o)(hf:Qg st0){z:Nat}{ls:List (List AV)}{ks:AV}(r:Je st0.h.get [] z ls ks)(hX: ∀c m o n y,ks=.sl c m o n y→ ¬X0 c): ∀c m p n y,ks=.sl c m p n y→ ¬o.F c:=fun c m p n y e hc=>by
 obtain⟨_,cells,h2,_⟩:=r.alive c m p n y e;have:=h2.lt hf;rcases B.DC hk c hc with h|h
 ·omega
 ·exact hX c m p n y e h
theorem Qj.Dq(B:Qj st0 WA st M Os)(hf:Qg st0){z:Nat}{ls:List (List AV)}{ks:AV}(r:Je st0.h.get [] z ls ks):Je st.h.get [] z ls ks:=B.rd hf r fun _ _ _ _ _ _=>id
end
section
variable {P:Program} {G:Env} {N:Nat} {T:Tr AV} {h0:Hp} {n0 z:Nat} {X:List Nat} {st st':St} {L A B:QK} {ks:AV} {ls:List (List AV)} {ops rest:List Oper} {K:List (Nat×AV)} {R:Tr AV→St→Prop} {d:Nat} {ty:TypeId} {pos:String} {af:Array Edge}
theorem Acc.z0{n0:Nat}(hA:Acc n0 z A ks ls):Acc 0 z A ks ls:=hA.less (Nat.zero_le _)
theorem Mem.zt(hM:Mem h0 n0 X st (L++(A++B)))(hA:Acc 0 z A ks ls)(T:AA P t e z)(hk:(L++(A++B))[k2]? =some (c2,m2,l2))(hl:l2.length=z)(hb:ls.length+1≤1000000000):
  ∃ks' A' st1,Up P [t,t] ks (.sl c2 m2 0 1 z) st=some (ks',st1)∧Acc 0 z A' ks' (ls++[l2])∧Mem h0 n0 X st1 (L++(A'++B)):=by
 cases hA with
 |none=>
  obtain⟨ks',A',st1,h1,h2,h3⟩:=hM.VJ (A:=[]) .none T hk hl hb;exact⟨ks',A',st1,h1,h2.less (Nat.zero_le _),h3⟩
 |own h3 h4 h5=>
  rename_i c m;obtain⟨m',st1,h6,h7,_⟩:=hM.append T (z2:=z) (Jd:=0) (n:=1) (Gc L B _) (WQ h4) (hM.Uc hk).QF Qe Q8 hb;refine⟨_,[(c,m',(ls++[l2]).flatten)],st1,h6,?_,?_⟩
  ·have:=Acc.own (n0:=0) (c:=c) (m:=m') (ls:=ls++[l2]) (z:=z) (Nat.zero_le _) (fun cs hc=>by
    rcases List.mem_append.1 hc with hc|hc
    ·exact h4 cs hc
    ·rw[List.mem_singleton.1 hc];exact hl) (by simpa using hb)
   rw[List.length_append]at this;exact this
  ·rw[O5,List.drop_zero,List.take_of_length_le Qe]at h7;rw[List.flatten_append,show [l2].flatten=l2 by simp];exact h7
theorem Jr{x y:Operand}(hK:QE K T)(hM:Mem h0 n0 X st (L++(A++B)))(hA:Acc 0 z A ks ls)(S:AA P t e z)(hx:QD G K x=some ks)(hy:QD G K y=some (.sl c2 m2 0 1 z))(hk:(L++(A++B))[k2]? =some (c2,m2,l2))(hl:l2.length=z)(hb:ls.length+1≤1000000000)(hN:Nat.ble (d+1) N=true)
  (hn: ∀(ks':AV) A' T' st',QE ((d,ks')::K) T'→Acc 0 z A' ks' (ls++[l2])→Mem h0 n0 X st' (L++(A'++B))→WR P G N ops rest R T' st'):WR P G N ops (⟨some d,.call {callee:=.builtin .append,args:= #[x,y],argTypes:= #[t,t]},ty,pos,af,none⟩::rest) R T st:=by
 obtain⟨ks',A',st1,h1,h2,h3⟩:=hM.zt hA S hk hl hb;exact Wk hK (Zu rfl hx hy h1) (Nat.le_of_ble_eq_true hN) fun T' hT'=>hn ks' A' T' st1 hT' h2 h3
theorem Vq{sn:List St}{i:Nat}{rr:List (Nat×Nat)}{x y:Operand}(ho:ops[i]? =some ⟨some d,.call {callee:=.builtin .append,args:= #[x,y],argTypes:= #[t,t]},ty,pos,af,none⟩)(hK:QE K T)(hM:Mem h0 n0 X st (L++(A++B)))(hA:Acc 0 z A ks ls)(S:AA P t e z)(hx:QD G K x=some ks)(hy:QD G K y=some (.sl c2 m2 0 1 z))(hk:(L++(A++B))[k2]? =some (c2,m2,l2))(hl:l2.length=z)(hb:ls.length+1≤1000000000)(hN:Nat.ble (d+1) N=true)
  (hn: ∀(ks':AV) A' T' st',QE ((d,ks')::K) T'→Acc 0 z A' ks' (ls++[l2])→Mem h0 n0 X st' (L++(A'++B))→WD P G N ops (rr.map (UI ops)) R T' st' (st'::sn)):WD P G N ops (((i,0)::rr).map (UI ops)) R T st sn:=by
 obtain⟨ks',A',st1,h1,h2,h3⟩:=hM.zt hA S hk hl hb;exact Oq ho hK (Zu rfl hx hy h1) rfl (Nat.le_of_ble_eq_true hN) fun T' hT'=>hn ks' A' T' st1 hT' h2 h3
end
end Go.Proofs.YtildagdnomiahaaGreatDoor
