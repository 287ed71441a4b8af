/-
  Things in memory, each in places of its own: what a call does to one leaves the others.
-/
import Derived.Test.YtildagdnomiahaaGreatDoorQvPoolS
set_option linter.unusedSectionVars false
set_option linter.unusedVariables false
namespace Go.Proofs.YtildagdnomiahaaGreatDoor
open Go Go.RowKit
section
variable {c2 k k2 m2:Nat} {e t:TypeId} {l2:List AV}

abbrev Fp:=Nat→Prop
abbrev QP:=List (Nat×Nat×List AV)
structure Ob where
 F:Fp
 H:Hp→Prop
 fr: ∀h h',(∀c,F c→h' c=h c)→H h→H h'
structure Ql(st0:St)(X0:Fp)(st:St)(M:QP)(Os:List Ob):Prop where
 fresh:Qh st
 le:st0.n≤st.n
 row: ∀c m l,(c,m,l)∈M→Qu st.h.get c m l
 nodup:(M.map Prod.fst).Nodup
 lo: ∀c m l,(c,m,l)∈M→st0.n≤c∨X0 c
 obj: ∀o∈Os,o.H st.h.get
 hi: ∀o∈Os,∀c,o.F c→c<st.n∧(st0.n≤c∨X0 c)
 dj:Os.Pairwise fun o p=> ∀c,o.F c→ ¬p.F c
 djM: ∀o∈Os,∀c m l,(c,m,l)∈M→ ¬o.F c
 J5: ∀c,c<st0.n→ ¬X0 c→st.h.get c=st0.h.get c
abbrev Ei:Fp:=fun _=>False
def Vn(st st':St)(F:Fp):Prop:= ∀c,F c→st.n≤c∧c<st'.n
def EV(st st':St)(F F':Fp):Prop:= ∀c,F' c→(F c∨st.n≤c)∧c<st'.n
section
variable {st0 st st' st2:St} {X0:Fp} {M M' M2 R:QP} {Os Os':List Ob} {o o':Ob}
theorem Ql.start(hf:Qh st):Ql st Ei st [] []:=
 ⟨hf,Nat.le_refl _,fun c m l h=>(by cases h),List.nodup_nil,fun c m l h=>(by cases h),fun o h=>(by cases h),fun o h=>(by cases h),.nil,fun o h=>(by cases h),fun _ _ _=>rfl⟩
theorem Ql.UD(hf:Qh st)(h:o.H st.h.get)(hi: ∀c,o.F c→c<st.n):Ql st o.F st [] [o]:=
 ⟨hf,Nat.le_refl _,fun c m l h=>(by cases h),List.nodup_nil,fun c m l h=>(by cases h),fun p hp=>by rw[List.mem_singleton.1 hp];exact h,fun p hp c hc=>by rw[List.mem_singleton.1 hp]at hc;exact⟨hi c hc,.inr hc⟩,
  List.pairwise_singleton _ _,fun p hp c m l h=>(by cases h),fun _ _ _=>rfl⟩
theorem Ql.mem(B:Ql st0 X0 st M Os):Mem st.h.get st.n (M.map Prod.fst) st M:=Mem.PF B.fresh M B.row B.nodup
theorem Ql.step(B:Ql st0 X0 st M Os)(hM:Mem st.h.get st.n (M.map Prod.fst) st2 M2):Ql st0 X0 st2 M2 Os:=by
 have hlo: ∀c∈M.map Prod.fst,st0.n≤c∨X0 c:=fun c hc=>by
  obtain⟨⟨c,m,l⟩,h1,rfl⟩:=List.mem_map.1 hc;exact B.lo c m l h1
 have hdj: ∀o∈Os,∀c,o.F c→c∉M.map Prod.fst:=fun o ho c hc hm=>by
  obtain⟨⟨c,m,l⟩,h1,rfl⟩:=List.mem_map.1 hm;exact B.djM o ho c m l h1 hc
 refine⟨hM.fresh,Nat.le_trans B.le hM.le,hM.row,hM.nodup,fun c m l hm=>?_,fun o ho=>?_,fun o ho c hc=>?_,B.dj,fun o ho c m l hm hc=>?_,fun c hc hx=>?_⟩
 ·rcases hM.own c m l hm with h|h
  ·exact .inl (Nat.le_trans B.le h)
  ·exact hlo c h
 ·exact o.fr _ _ (fun c hc=>hM.J5 c (B.hi o ho c hc).1 (hdj o ho c hc)) (B.obj o ho)
 ·exact⟨Nat.lt_of_lt_of_le (B.hi o ho c hc).1 hM.le,(B.hi o ho c hc).2⟩
 ·rcases hM.own c m l hm with h|h
  ·have:=(B.hi o ho c hc).1;omega
  ·exact hdj o ho c hc h
 ·rw[hM.J5 c (Nat.lt_of_lt_of_le hc B.le) fun h=>by
   rcases hlo c h with h|h
   ·omega
   ·exact hx h]
  exact B.J5 c hc hx
theorem Ql.at_(B:Ql st0 X0 st M Os)(hk:Os[k]? =some o):o.H st.h.get:=B.obj o (List.mem_of_getElem? hk)
theorem Ql.VM(B:Ql st0 X0 st M Os)(hk:Os[k]? =some o): ∀c,o.F c→c<st.n:=fun c hc=>(B.hi o (List.mem_of_getElem? hk) c hc).1
theorem Ql.Rm(B:Ql st0 X0 st M Os)(hk:Os[k]? =some o): ∀c,o.F c→st0.n≤c∨X0 c:=fun c hc=>(B.hi o (List.mem_of_getElem? hk) c hc).2
theorem Ql.ve(B:Ql st0 Ei st M Os)(hk:Os[k]? =some o):Vn st0 st o.F:=fun c hc=>⟨(B.Rm hk c hc).resolve_right id,B.VM hk c hc⟩
theorem Ql.less(B:Ql st0 X0 st M Os)(hs:M'.Sublist M):Ql st0 X0 st M' Os:=
 ⟨B.fresh,B.le,fun c m l h=>B.row c m l (hs.subset h),B.nodup.sublist (hs.map _),fun c m l h=>B.lo c m l (hs.subset h),B.obj,B.hi,B.dj,fun o ho c m l h=>B.djM o ho c m l (hs.subset h),B.J5⟩
theorem Ql.perm(B:Ql st0 X0 st M Os)(p:M.Perm M'):Ql st0 X0 st M' Os:=
 ⟨B.fresh,B.le,fun c m l h=>B.row c m l (p.symm.subset h),(p.map _).nodup B.nodup,fun c m l h=>B.lo c m l (p.symm.subset h),B.obj,B.hi,B.dj,fun o ho c m l h=>B.djM o ho c m l (p.symm.subset h),B.J5⟩
theorem Ql.cast(B:Ql st0 X0 st M Os)(e:M=M'):Ql st0 X0 st M' Os:=e▸B
theorem Ql.iV(B:Ql st0 X0 st M Os)(hs:Os'.Sublist Os):Ql st0 X0 st M Os':=
 ⟨B.fresh,B.le,B.row,B.nodup,B.lo,fun o h=>B.obj o (hs.subset h),fun o h=>B.hi o (hs.subset h),B.dj.sublist hs,fun o h=>B.djM o (hs.subset h),B.J5⟩
theorem Ql.jB(B:Ql st0 X0 st M Os)(p:Os.Perm Os'):Ql st0 X0 st M Os':=
 ⟨B.fresh,B.le,B.row,B.nodup,B.lo,fun o h=>B.obj o (p.symm.subset h),fun o h=>B.hi o (p.symm.subset h),p.pairwise B.dj (fun h c h1 h2=>h c h2 h1),fun o h=>B.djM o (p.symm.subset h),B.J5⟩
theorem Ql.quiet(B:Ql st0 X0 st M Os)(q:Qt st st'):Ql st0 X0 st' M Os:=
 B.step (B.mem.quiet q)
theorem Ql.new(B:Ql st0 X0 st M Os)(q:Qt st st')(h:o.H st'.h.get)(hn:Vn st st' o.F):Ql st0 X0 st' M (o::Os):=by
 have B':=B.quiet q;refine⟨B'.fresh,B'.le,B'.row,B'.nodup,B'.lo,fun p hp=>?_,fun p hp c hc=>?_,List.pairwise_cons.2 ⟨fun p hp c h1 h2=>?_,B.dj⟩,fun p hp c m l hm hc=>?_,B'.J5⟩
 ·rcases List.mem_cons.1 hp with rfl|hp
  ·exact h
  ·exact B'.obj p hp
 ·rcases List.mem_cons.1 hp with rfl|hp
  ·exact⟨(hn c hc).2,.inl (Nat.le_trans B.le (hn c hc).1)⟩
  ·exact B'.hi p hp c hc
 ·have:=(hn c h1).1;have:=(B.hi p hp c h2).1;omega
 ·rcases List.mem_cons.1 hp with rfl|hp
  ·have:=(hn c hc).1;have:=(B.row c m l hm).lt B.fresh;omega
  ·exact B'.djM p hp c m l hm hc
theorem Ql.call(B:Ql st0 X0 st M Os)(hk:Os[k]? =some o)(Q:YA o.F st st')(h:o'.H st'.h.get)(hn:EV st st' o.F o'.F):Ql st0 X0 st' M (Os.set k o'):=by
 have ho:=List.mem_of_getElem? hk;have hlt:=(List.getElem?_eq_some_iff.1 hk).1
 have hne: ∀p∈Os.set k o',p=o'∨ ∃j,Os[j]? =some p∧j≠k:=fun p hp=>by
  obtain⟨j,hj⟩:=List.getElem?_of_mem hp;rw[List.getElem?_set]at hj
  by_cases e:k=j
  ·subst e;rw[if_pos rfl,if_pos hlt]at hj
   injection hj with hj
   exact .inl hj.symm
  ·rw[if_neg e]at hj;exact .inr ⟨j,hj,fun e'=>e e'.symm⟩
 have hdj: ∀j p,Os[j]? =some p→j≠k→ ∀c,p.F c→ ¬o.F c:=fun j p hj e c h1 h2=>by
  have hjl:=(List.getElem?_eq_some_iff.1 hj).1;have hpw:=List.pairwise_iff_getElem.1 B.dj;have ej:Os[j]=p:=(List.getElem?_eq_some_iff.1 hj).2;have ek:Os[k]=o:=(List.getElem?_eq_some_iff.1 hk).2;rcases Nat.lt_or_ge j k with hlt'|hge
  ·exact hpw j k hjl hlt hlt' c (by rw[ej];exact h1) (by rw[ek];exact h2)
  ·exact hpw k j hlt hjl Qd c (by rw[ek];exact h2) (by rw[ej];exact h1)
 refine⟨Q.fresh,Nat.le_trans B.le Q.le,fun c m l hm=>?_,B.nodup,B.lo,fun p hp=>?_,fun p hp c hc=>?_,?_,fun p hp c m l hm hc=>?_,fun c hc hx=>?_⟩
 ·have h1:=B.row c m l hm;exact h1.frame (Q.J5 c (h1.lt B.fresh) (B.djM o ho c m l hm))
 ·rcases hne p hp with rfl|⟨j,hj,e⟩
  ·exact h
  ·exact p.fr _ _ (fun c hc=>Q.J5 c (B.VM hj c hc) (hdj j p hj e c hc)) (B.at_ hj)
 ·rcases hne p hp with rfl|⟨j,hj,e⟩
  ·obtain⟨h1,h2⟩:=hn c hc;refine⟨h2,?_⟩;rcases h1 with h1|h1
   ·exact B.Rm hk c h1
   ·exact .inl (Nat.le_trans B.le h1)
  ·exact⟨Nat.lt_of_lt_of_le (B.VM hj c hc) Q.le,B.Rm hj c hc⟩
 ·refine List.pairwise_iff_getElem.2 fun i j hi hj hij c h1 h2=>?_;rw[List.length_set]at hi hj;have hpw:=List.pairwise_iff_getElem.1 B.dj;rw[List.getElem_set]at h1 h2
  by_cases e1:k=i
  ·rw[if_pos e1]at h1;rw[if_neg Qd]at h2;rcases(hn c h1).1 with h3|h3
   ·exact hdj j _ (List.getElem?_eq_getElem hj) Qd c h2 h3
   ·have:=B.VM (List.getElem?_eq_getElem hj) c h2;omega
  ·rw[if_neg e1]at h1
   by_cases e2:k=j
   ·rw[if_pos e2]at h2;rcases(hn c h2).1 with h3|h3
    ·exact hdj i _ (List.getElem?_eq_getElem hi) Qd c h1 h3
    ·have:=B.VM (List.getElem?_eq_getElem hi) c h1;omega
   ·rw[if_neg e2]at h2;exact hpw i j hi hj hij c h1 h2
 ·rcases hne p hp with rfl|⟨j,hj,e⟩
  ·rcases(hn c hc).1 with h3|h3
   ·exact B.djM o ho c m l hm h3
   ·have:=(B.row c m l hm).lt B.fresh;omega
  ·exact B.djM p (List.mem_of_getElem? hj) c m l hm hc
 ·rw[Q.J5 c (Nat.lt_of_lt_of_le hc B.le) fun h'=>by
   rcases B.Rm hk c h' with h3|h3
   ·omega
   ·exact hx h3]
  exact B.J5 c hc hx
theorem Ql.view(B:Ql st0 X0 st M Os)(hk:Os[k]? =some o)(h:o'.H st.h.get)(hn: ∀c,o'.F c→o.F c):Ql st0 X0 st M (Os.set k o'):=
 B.call hk ⟨B.fresh,Nat.le_refl _,fun _ _ _=>rfl⟩ h fun c hc=>⟨.inl (hn c hc),B.VM hk c (hn c hc)⟩
theorem Ql.freeze(B:Ql st0 X0 st (R++M) Os)(h:o.H st.h.get)(hF: ∀c,o.F c→ ∃m l,(c,m,l)∈R):Ql st0 X0 st M (o::Os):=by
 have hnd:=B.nodup;rw[List.map_append]at hnd;refine⟨B.fresh,B.le,fun c m l h=>B.row c m l (List.mem_append_right _ h),(List.nodup_append.1 hnd).2.1,fun c m l h=>B.lo c m l (List.mem_append_right _ h),fun p hp=>?_,fun p hp c hc=>?_,List.pairwise_cons.2 ⟨fun p hp c h1 h2=>?_,B.dj⟩,fun p hp c m l hm hc=>?_,B.J5⟩
 ·rcases List.mem_cons.1 hp with rfl|hp
  ·exact h
  ·exact B.obj p hp
 ·rcases List.mem_cons.1 hp with rfl|hp
  ·obtain⟨m,l,h1⟩:=hF c hc;exact⟨(B.row c m l (List.mem_append_left _ h1)).lt B.fresh,B.lo c m l (List.mem_append_left _ h1)⟩
  ·exact B.hi p hp c hc
 ·obtain⟨m,l,h3⟩:=hF c h1;exact B.djM p hp c m l (List.mem_append_left _ h3) h2
 ·rcases List.mem_cons.1 hp with rfl|hp
  ·obtain⟨m',l',h1⟩:=hF c hc;exact(List.nodup_append.1 hnd).2.2 c (List.mem_map.2 ⟨_,h1,rfl⟩) c (List.mem_map.2 ⟨_,hm,rfl⟩) rfl
  ·exact B.djM p hp c m l (List.mem_append_right _ hm) hc
theorem Ql.join{o1 o2:Ob}(B:Ql st0 X0 st M (o1::o2::Os))(h:o1.H st.h.get→o2.H st.h.get→o.H st.h.get)(hF: ∀c,o.F c→o1.F c∨o2.F c):Ql st0 X0 st M (o::Os):=by
 have hd:=List.pairwise_cons.1 B.dj;have hd2:=List.pairwise_cons.1 hd.2;refine⟨B.fresh,B.le,B.row,B.nodup,B.lo,fun p hp=>?_,fun p hp c hc=>?_,List.pairwise_cons.2 ⟨fun p hp c h1 h2=>?_,hd2.2⟩,fun p hp c m l hm hc=>?_,B.J5⟩
 ·rcases List.mem_cons.1 hp with rfl|hp
  ·exact h (B.obj _ Qx) (B.obj _ Qx)
  ·exact B.obj p (by simp[hp])
 ·rcases List.mem_cons.1 hp with rfl|hp
  ·rcases hF c hc with h1|h1
   ·exact B.hi o1 Qx c h1
   ·exact B.hi o2 Qx c h1
  ·exact B.hi p (by simp[hp]) c hc
 ·rcases hF c h1 with h3|h3
  ·exact hd.1 p (by simp[hp]) c h3 h2
  ·exact hd2.1 p hp c h3 h2
 ·rcases List.mem_cons.1 hp with rfl|hp
  ·rcases hF c hc with h1|h1
   ·exact B.djM o1 Qx c m l hm h1
   ·exact B.djM o2 Qx c m l hm h1
  ·exact B.djM p (by simp[hp]) c m l hm hc
theorem Ql.ib(B:Ql st0 X0 st M (o::Os))(hR: ∀c m l,(c,m,l)∈R→Qu st.h.get c m l∧o.F c)(hn:(R.map Prod.fst).Nodup)(h:o'.H st.h.get)(hF: ∀c,o'.F c→o.F c)(hd: ∀c m l,(c,m,l)∈R→ ¬o'.F c):Ql st0 X0 st (R++M) (o'::Os):=by
 have hp0:=List.pairwise_cons.1 B.dj;refine⟨B.fresh,B.le,fun c m l hm=>?_,?_,fun c m l hm=>?_,fun p hp=>?_,fun p hp c hc=>?_,List.pairwise_cons.2 ⟨fun p hp c h1 h2=>hp0.1 p hp c (hF c h1) h2,hp0.2⟩,fun p hp c m l hm hc=>?_,B.J5⟩
 ·rcases List.mem_append.1 hm with hm|hm
  ·exact(hR c m l hm).1
  ·exact B.row c m l hm
 ·rw[List.map_append];refine List.nodup_append.2 ⟨hn,B.nodup,fun a ha b hb e=>?_⟩;subst e;obtain⟨⟨c,m,l⟩,h1,rfl⟩:=List.mem_map.1 ha;obtain⟨⟨c',m',l'⟩,h3,h4⟩:=List.mem_map.1 hb;simp only at h4;subst h4;exact B.djM o Qx _ m' l' h3 (hR _ m l h1).2
 ·rcases List.mem_append.1 hm with hm|hm
  ·exact(B.hi o Qx c (hR c m l hm).2).2
  ·exact B.lo c m l hm
 ·rcases List.mem_cons.1 hp with rfl|hp
  ·exact h
  ·exact B.obj p (by simp[hp])
 ·rcases List.mem_cons.1 hp with rfl|hp
  ·exact B.hi o Qx c (hF c hc)
  ·exact B.hi p (by simp[hp]) c hc
 ·rcases List.mem_append.1 hm with hm|hm
  ·rcases List.mem_cons.1 hp with rfl|hp
   ·exact hd c m l hm hc
   ·exact hp0.1 p hp c (hR c m l hm).2 hc
  ·rcases List.mem_cons.1 hp with rfl|hp
   ·exact B.djM o Qx c m l hm (hF c hc)
   ·exact B.djM p (by simp[hp]) c m l hm hc
theorem Ql.U7(B:Ql st0 X0 st M Os):YA X0 st0 st:=⟨B.fresh,B.le,B.J5⟩
theorem Ql.qt(B:Ql st0 Ei st M Os):Qt st0 st:=⟨B.fresh,B.le,fun c hc=>B.J5 c hc id⟩
theorem Ql.ZA(B:Ql st0 X0 st M Os)(hf:Qh st0){c m:Nat}{l:List AV}(r:Y9 st0.h.get c m l)(hX: ¬X0 c):Y9 st.h.get c m l:=by
 have hlt:=r.lt hf;obtain⟨ro,e,vs,ms,h1,h2⟩:=r;exact⟨ro,e,vs,ms,by rw[B.J5 c hlt hX];exact h1,h2⟩
theorem Ql.rd(B:Ql st0 X0 st M Os)(hf:Qh st0){z:Nat}{ls:List (List AV)}{ks:AV}(r:Jg st0.h.get [] z ls ks)(hX: ∀c m o n y,ks=.sl c m o n y→ ¬X0 c):Jg st.h.get [] z ls ks:=
 r.frame fun c m o n y e=>by
  obtain⟨_,cells,h2,_⟩:=r.alive c m o n y e;exact B.J5 c (h2.lt hf) (hX c m o n y e)
theorem Ql.off(B:Ql st0 X0 st M Os)(hk:Os[k]? =some o)(hf:Qh st0){z:Nat}{ls:List (List AV)}{ks:AV}(r:Jg st0.h.get [] z ls ks)(hX: ∀c m o n y,ks=.sl c m o n y→ ¬X0 c): ∀c m p n y,ks=.sl c m p n y→ ¬o.F c:=fun c m p n y e hc=>by
 obtain⟨_,cells,h2,_⟩:=r.alive c m p n y e;have:=h2.lt hf;rcases B.Rm hk c hc with h|h
 ·omega
 ·exact hX c m p n y e h
theorem Ql.Cf(B:Ql st0 Ei st M Os)(hf:Qh st0){z:Nat}{ls:List (List AV)}{ks:AV}(r:Jg st0.h.get [] z ls ks):Jg st.h.get [] z ls ks:=B.rd hf r fun _ _ _ _ _ _=>id
end
section
variable {P:Program} {G:Env} {N:Nat} {T:Tr AV} {h0:Hp} {n0 z:Nat} {X:List Nat} {st st':St} {L A B:QP} {ks:AV} {ls:List (List AV)} {ops rest:List Oper} {K:List (Nat×AV)} {R:Tr AV→St→Prop} {d:Nat} {ty:TypeId} {pos:String} {af:Array Edge}
theorem Acc.z0{n0:Nat}(hA:Acc n0 z A ks ls):Acc 0 z A ks ls:=hA.less (Nat.zero_le _)
theorem Mem.wP(hM:Mem h0 n0 X st (L++(A++B)))(hA:Acc 0 z A ks ls)(T:F8 P t e z)(hk:(L++(A++B))[k2]? =some (c2,m2,l2))(hl:l2.length=z)(hb:ls.length+1≤1000000000):
  ∃ks' A' st1,U0 P [t,t] ks (.sl c2 m2 0 1 z) st=some (ks',st1)∧Acc 0 z A' ks' (ls++[l2])∧Mem h0 n0 X st1 (L++(A'++B)):=by
 cases hA with
 |none=>
  obtain⟨ks',A',st1,h1,h2,h3⟩:=hM.Wy (A:=[]) .none T hk hl hb;exact⟨ks',A',st1,h1,h2.less (Nat.zero_le _),h3⟩
 |own h3 h4 h5=>
  rename_i c m;obtain⟨m',st1,h6,h7,_⟩:=hM.append T (z2:=z) (Jj:=0) (n:=1) (By L B _) (ED h4) (hM.Ud hk).QI Qd Q9 hb;refine⟨_,[(c,m',(ls++[l2]).flatten)],st1,h6,?_,?_⟩
  ·have:=Acc.own (n0:=0) (c:=c) (m:=m') (ls:=ls++[l2]) (z:=z) (Nat.zero_le _) (fun cs hc=>by
    rcases List.mem_append.1 hc with hc|hc
    ·exact h4 cs hc
    ·rw[List.mem_singleton.1 hc];exact hl) (by simpa using hb)
   rw[List.length_append]at this;exact this
  ·rw[GS,List.drop_zero,List.take_of_length_le Qd]at h7;rw[List.flatten_append,show [l2].flatten=l2 by simp];exact h7
theorem Jx{x y:Operand}(hK:QH K T)(hM:Mem h0 n0 X st (L++(A++B)))(hA:Acc 0 z A ks ls)(S:F8 P t e z)(hx:QG G K x=some ks)(hy:QG G K y=some (.sl c2 m2 0 1 z))(hk:(L++(A++B))[k2]? =some (c2,m2,l2))(hl:l2.length=z)(hb:ls.length+1≤1000000000)(hN:Nat.ble (d+1) N=true)
  (hn: ∀(ks':AV) A' T' st',QH ((d,ks')::K) T'→Acc 0 z A' ks' (ls++[l2])→Mem h0 n0 X st' (L++(A'++B))→WR P G N ops rest R T' st'):WR P G N ops (⟨some d,.call {callee:=.builtin .append,args:= #[x,y],argTypes:= #[t,t]},ty,pos,af,none⟩::rest) R T st:=by
 obtain⟨ks',A',st1,h1,h2,h3⟩:=hM.wP hA S hk hl hb;exact WW hK (ZN rfl hx hy h1) (Nat.le_of_ble_eq_true hN) fun T' hT'=>hn ks' A' T' st1 hT' h2 h3
theorem Zx{sn:List St}{i:Nat}{rr:List (Nat×Nat)}{x y:Operand}(ho:ops[i]? =some ⟨some d,.call {callee:=.builtin .append,args:= #[x,y],argTypes:= #[t,t]},ty,pos,af,none⟩)(hK:QH K T)(hM:Mem h0 n0 X st (L++(A++B)))(hA:Acc 0 z A ks ls)(S:F8 P t e z)(hx:QG G K x=some ks)(hy:QG G K y=some (.sl c2 m2 0 1 z))(hk:(L++(A++B))[k2]? =some (c2,m2,l2))(hl:l2.length=z)(hb:ls.length+1≤1000000000)(hN:Nat.ble (d+1) N=true)
  (hn: ∀(ks':AV) A' T' st',QH ((d,ks')::K) T'→Acc 0 z A' ks' (ls++[l2])→Mem h0 n0 X st' (L++(A'++B))→WD P G N ops (rr.map (UY ops)) R T' st' (st'::sn)):WD P G N ops (((i,0)::rr).map (UY ops)) R T st sn:=by
 obtain⟨ks',A',st1,h1,h2,h3⟩:=hM.wP hA S hk hl hb;exact GB ho hK (ZN rfl hx hy h1) rfl (Nat.le_of_ble_eq_true hN) fun T' hT'=>hn ks' A' T' st1 hT' h2 h3
end
end
section
variable {k m:Nat}

def ZH(n:Nat)(p p2:QY)(l:List (Nat×Nat)):QY:=fun k m=>if k<n then p k m else if m=0 then(l[k-n]?).bind fun x=>p2 x.1 x.2 else none
section
variable {w0 w w':World} {p p2:QY} {st st2:St} {h':Hp} {l:List (Nat×Nat)}
theorem Ue{n:Nat}(h:k<n):ZH n p p2 l k m=p k m:=if_pos h
theorem OY{n i:Nat}{x:Nat×Nat}(h:l[i]? =some x):ZH n p p2 l (n+i) 0=p2 x.1 x.2:=by
 unfold ZH;rw[if_neg Qd,if_pos rfl,show n+i-n=i by omega,h];rfl
theorem HR.aW(H:HR w0 p st.h.get w)(hf:Qh st){x:Pl}(hx:p k m=some x):k<st.n:=by
 obtain⟨C,hC,_⟩:=H.dom k m x hx
 by_cases h:k<st.n
 ·exact h
 ·rw[hf k Qd]at hC;cases hC
theorem Dy(H:HR w0 p st.h.get w)(hf:Qh st):QY.le p (ZH st.n p p2 l):=fun k m x hx=>by rw[Ue (H.aW hf hx)];exact hx
theorem Step.forget(hf:Qh st)(H:HR w0 p st.h.get w)(S:Step w0 p w p2 st2.h.get w')(hl: ∀x∈l,st.n≤x.1)(hn:(l.map Prod.fst).Nodup)
  (hdO: ∀k C,st.h.get k=some C→ ∃C',h' k=some C'∧(exts C).length≤(exts C').length) (MC: ∀(i:Nat) (x:Nat×Nat),l[i]? =some x→ ∃C,h' (st.n+i)=some C∧0<(exts C).length)
  (hc: ∀k C,h' k=some C→Y5 w0.heap.size (ZH st.n p p2 l) h' w' k C):Step w0 p w (ZH st.n p p2 l) h' w':=by
 have hnew: ∀k m x,¬k<st.n→ZH st.n p p2 l k m=some x→ ∃i y,k=st.n+i∧m=0∧l[i]? =some y∧p2 y.1 y.2=some x:=fun k m x hk hx=>by
  unfold ZH at hx;rw[if_neg hk]at hx
  split at hx
  ·rename_i hm;obtain⟨y,hy,hx⟩:=Option.bind_eq_some_iff.1 hx;exact⟨k-st.n,y,by omega,hm,hy,hx⟩
  ·cases hx
 have hunp: ∀k,st.n≤k→ ∀m,p k m=none:=fun k hk m=>H.Xe (hf k hk) m;refine⟨Dy H hf,⟨S.hr.os,S.hr.tape,S.hr.output,S.hr.size,S.hr.J5,fun k m x hx=>?_,fun k m x hx=>?_,fun k m x k' m' x' hx hx' hb=>?_,hc⟩,S.fr,fun k m x hx hp=>?_⟩
 ·by_cases hk:k<st.n
  ·rw[Ue hk]at hx;obtain⟨C,h1,h2⟩:=H.dom k m x hx;obtain⟨C',h3,h4⟩:=hdO k C h1;exact⟨C',h3,Nat.lt_of_lt_of_le h2 h4⟩
  ·obtain⟨i,y,rfl,rfl,h1,_⟩:=hnew k m x hk hx;exact MC i y h1
 ·by_cases hk:k<st.n
  ·rw[Ue hk]at hx;exact S.hr.lt k m x (S.le k m x hx)
  ·obtain⟨i,y,rfl,rfl,h1,h2⟩:=hnew k m x hk hx;exact S.hr.lt _ _ x h2
 ·by_cases hk:k<st.n
  ·rw[Ue hk]at hx
   by_cases hk':k'<st.n
   ·rw[Ue hk']at hx';exact H.apart k m x k' m' x' hx hx' hb
   ·obtain⟨i,y,rfl,rfl,h1,h2⟩:=hnew k' m' x' hk' hx';have:=S.hr.apart k m x _ _ x' (S.le k m x hx) h2 hb;have:=hl y (List.mem_of_getElem? h1);omega
  ·obtain⟨i,y,rfl,rfl,h1,h2⟩:=hnew k m x hk hx
   by_cases hk':k'<st.n
   ·rw[Ue hk']at hx';have:=S.hr.apart _ _ x k' m' x' h2 (S.le k' m' x' hx') hb;have:=hl y (List.mem_of_getElem? h1);omega
   ·obtain⟨j,z,rfl,rfl,h3,h4⟩:=hnew k' m' x' hk' hx';have e:=S.hr.apart _ _ x _ _ x' h2 h4 hb
    have e1:(l.map Prod.fst)[i]? =some y.1:=by rw[List.getElem?_map,h1];rfl
    have e2:(l.map Prod.fst)[j]? =some y.1:=by rw[List.getElem?_map,h3,e];rfl
    rw[(List.getElem?_inj (List.getElem?_eq_some_iff.1 e1).1 hn).1 (e1.trans e2.symm)]
 ·by_cases hk:k<st.n
  ·rw[Ue hk,hp]at hx;cases hx
  ·obtain⟨i,y,rfl,rfl,h1,h2⟩:=hnew k m x hk hx;rcases S.new _ _ x h2 (hunp _ (hl y (List.mem_of_getElem? h1)) _)with h|⟨m0,x0,h,_⟩
   ·exact .inl h
   ·rw[hunp _ (hl y (List.mem_of_getElem? h1))]at h;cases h
theorem Y5.stay(hf:Qh st)(H:HR w0 p st.h.get w)(S:Step w0 p w p2 st2.h.get w')(hg:Grow st.h.get h'){C:Eb}(h1:st.h.get k=some C)(h2:st2.h.get k=some C):Y5 w0.heap.size (ZH st.n p p2 l) h' w' k C:=by
 have hk:k<st.n:=by
  by_cases h:k<st.n
  ·exact h
  ·rw[hf k Qd]at h1;cases h1
 have hle:=Dy (p2:=p2) (l:=l) H hf;have hcv: ∀v,WF st.h.get v→Qe (ZH st.n p p2 l) v=Qe p2 v:=fun v hv=>(Un H.Ws hle v hv).trans (Un H.Ws S.le v hv).symm;have A:=H.cls k C h1;have A2:=S.hr.cls k C h2
 have hp: ∀m q,p k m=some q→ ∀q2,p2 k m=some q2→q2=q:=fun m q hq q2 hq2=>by rw[S.le k m q hq]at hq2;injection hq2 with e;exact e.symm
 cases C with
 |row ro ms=>
  have A:NF w0.heap.size p st.h.get w k ro ms:=A;have A2:NF w0.heap.size p2 st2.h.get w' k ro ms:=A2;refine(⟨fun m e vs cs he=>?_,fun m e vs cs m' e' vs' cs' q q' a1 a2 a3 a4 a5=>?_⟩:NF w0.heap.size (ZH st.n p p2 l) h' w' k ro ms)
  ·obtain⟨q,arr,el,b1,b2,b3,b4,b5,b6⟩:=A.mem m e vs cs he;obtain⟨q2,arr2,el2,d1,d2,d3,d4,d5,d6⟩:=A2.mem m e vs cs he;have:=hp m q b1 q2 d1;subst this;refine⟨q2,arr2,el2,by rw[Ue hk];exact b1,d2,d3,d4,d5,fun l' hl'=>⟨(d6 l' hl').1,fun j v hj=>?_⟩⟩;have hv:=((b6 l' hl').2 j v hj).2.1;have hd:=(d6 l' hl').2 j v hj;exact⟨by rw[hcv v hv];exact hd.1,WF.grow hg v hv,hd.2.2⟩
  ·rw[Ue hk]at a3 a4;exact A2.same m e vs cs m' e' vs' cs' q q' a1 a2 (S.le _ _ _ a3) (S.le _ _ _ a4) a5
 |iter s r pos=>
  obtain⟨q,b1,_⟩:=A;obtain⟨q2,d1,d2⟩:=A2;have:=hp 0 q b1 q2 d1;subst this;exact⟨q2,by rw[Ue hk];exact b1,d2⟩
 |map es n=>
  obtain⟨q,b1,_,b3,_⟩:=A;obtain⟨q2,d1,d2,d3,d4⟩:=A2;have:=hp 0 q b1 q2 d1;subst this;refine⟨q2,by rw[Ue hk];exact b1,?_,fun x hx=>⟨WF.grow hg _ (b3 x hx).1,WF.grow hg _ (b3 x hx).2⟩,d4⟩;rw[d2]
  congr 2
  exact congrArg List.toArray ((KP H.Ws S.le b3).trans (KP H.Ws hle b3).symm)
theorem Y5.Ud{P':QY}(R2:HR w0 p2 st2.h.get w'){c vs:Nat}{cs cs':List AV}(h2:Qu st2.h.get c m cs)(hp:P' k 0=p2 c m)(hlen:cs'.length=cs.length)
  (hv: ∀(j:Nat) (v v':AV),cs[j]? =some v→cs'[j]? =some v'→Qe P' v'=Qe p2 v∧WF h' v'∧Qw v'=true):Y5 w0.heap.size P' h' w' k (.row false [(cs'.length,vs,some cs')]):=by
 obtain⟨vs2,ms,a1,a2⟩:=h2;have A:NF w0.heap.size p2 st2.h.get w' c false ms:=R2.cls c _ a1;obtain⟨q,arr,el,d1,d2,d3,d4,d5,d6⟩:=A.mem m _ _ _ a2;refine(⟨fun m' e v cs0 he=>?_,fun m1 e1 v1 c1 m2 e2 v2 c2 q1 q2 b1 b2 b3 b4 b5=>?_⟩:NF w0.heap.size P' h' w' k false _)
 ·cases m' with
  |succ m'=>simp at he
  |zero=>
   injection he with he
   injection he with e1 he
   injection he with e2 e3
   subst e1 e2 e3;refine⟨q,arr,el,hp.trans d1,d2,d3,by rw[hlen];exact d4,d5,fun l' hl'=>?_⟩
   injection hl' with hl'
   subst hl';refine⟨rfl,fun j v' hj=>?_⟩;obtain⟨v,hjv⟩: ∃v,cs[j]? =some v:=⟨_,List.getElem?_eq_getElem (by have:=(List.getElem?_eq_some_iff.1 hj).1;omega)⟩;obtain⟨k1,k2,k3⟩:=hv j v v' hjv hj;exact⟨by rw[k1];exact((d6 cs rfl).2 j v hjv).1,k2,k3⟩
 ·cases m1 with
  |succ m1=>simp at b1
  |zero=>cases m2 with
   |succ m2=>simp at b2
   |zero=>
    rw[b3]at b4
    injection b4 with b4
    subst b4
    injection b1 with b1
    injection b2 with b2
    injection b1 with _ b1
    injection b2 with _ b2
    injection b1 with b1
    injection b2 with b2
    omega
end
end
section

def xV:AV→Bool
 |.sl _ _ _ _ _=>false
 |_=>true
theorem Lt{ks:AV}{n:Nat}(h:J8 ks=some n):Qw ks=true:=by
 cases ks<;>first|rfl|cases h
abbrev W5:=Nat→Nat→List AV→Prop
abbrev ZJ:=List (Nat×Nat×List AV)
def X1(R:W5)(h:Hp):Prop:= ∀c m l,R c m l→Y9 h c m l
def Yz(R:W5)(A:ZJ):W5:=fun c m l=>R c m l∨(c,m,l)∈A
theorem KF{R:W5}{A:ZJ}{c m:Nat}{l:List AV}(h:R c m l):Yz R A c m l:=.inl h
theorem Uk{R R':W5}{A A':ZJ}(h: ∀c m l,R c m l→R' c m l)(hA: ∀x∈A,x∈A'): ∀c m l,Yz R A c m l→Yz R' A' c m l:=fun c m l h'=>h'.elim (fun x=>.inl (h _ _ _ x)) fun x=>.inr (hA _ x)
theorem Mem.X1{h0:Hp}{n0:Nat}{st:St}{M:ZJ}(h:Mem h0 n0 [] st M){R:W5}(hR:Proofs.YtildagdnomiahaaGreatDoor.X1 R h0):Proofs.YtildagdnomiahaaGreatDoor.X1 R st.h.get:=fun c m l hr=>h.Jf Qx (hR c m l hr)
end
end Go.Proofs.YtildagdnomiahaaGreatDoor
