/-
  Things in memory, each in places of its own: what a call does to one leaves the others.
-/
import Derived.Test.YtiknomepbklibaaGreatDoorQhTyc
set_option linter.unusedSectionVars false
set_option linter.unusedVariables false
namespace Go.Proofs.YtiknomepbklibaaGreatDoor
section
open Go Go.RowKit
variable {c2 k k2 m2:Nat} {e t:TypeId} {l2:List AV}

abbrev Fp:=Nat→Prop
abbrev QS:=List (Nat×Nat×List AV)
structure Ob where
 F:Fp
 H:Hp→Prop
 fr: ∀h h',(∀c,F c→h' c=h c)→H h→H h'
structure Qk(st0:St)(X0:Fp)(st:St)(M:QS)(Os:List Ob):Prop where
 fresh:Qi st
 le:st0.n≤st.n
 row: ∀c m l,(c,m,l)∈M→Qy st.h.get c m l
 nodup:(M.map Prod.fst).Nodup
 lo: ∀c m l,(c,m,l)∈M→st0.n≤c∨X0 c
 obj: ∀o∈Os,o.H st.h.get
 hi: ∀o∈Os,∀c,o.F c→c<st.n∧(st0.n≤c∨X0 c)
 dj:Os.Pairwise fun o p=> ∀c,o.F c→ ¬p.F c
 djM: ∀o∈Os,∀c m l,(c,m,l)∈M→ ¬o.F c
 JB: ∀c,c<st0.n→ ¬X0 c→st.h.get c=st0.h.get c
abbrev Xi:Fp:=fun _=>False
def ZQ(st st':St)(F:Fp):Prop:= ∀c,F c→st.n≤c∧c<st'.n
def Ef(st st':St)(F F':Fp):Prop:= ∀c,F' c→(F c∨st.n≤c)∧c<st'.n
section
variable {st0 st st' st2:St} {X0:Fp} {M M' M2 R:QS} {Os Os':List Ob} {o o':Ob}
theorem Qk.start(hf:Qi st):Qk st Xi st [] []:=
 ⟨hf,Nat.le_refl _,fun c m l h=>(by cases h),List.nodup_nil,fun c m l h=>(by cases h),fun o h=>(by cases h),fun o h=>(by cases h),.nil,fun o h=>(by cases h),fun _ _ _=>rfl⟩
theorem Qk.UN(hf:Qi st)(h:o.H st.h.get)(hi: ∀c,o.F c→c<st.n):Qk st o.F st [] [o]:=
 ⟨hf,Nat.le_refl _,fun c m l h=>(by cases h),List.nodup_nil,fun c m l h=>(by cases h),fun p hp=>by rw[List.mem_singleton.1 hp];exact h,fun p hp c hc=>by rw[List.mem_singleton.1 hp]at hc;exact⟨hi c hc,.inr hc⟩,
  List.pairwise_singleton _ _,fun p hp c m l h=>(by cases h),fun _ _ _=>rfl⟩
theorem Qk.mem(B:Qk st0 X0 st M Os):Mem st.h.get st.n (M.map Prod.fst) st M:=Mem.PW B.fresh M B.row B.nodup
theorem Qk.step(B:Qk st0 X0 st M Os)(hM:Mem st.h.get st.n (M.map Prod.fst) st2 M2):Qk st0 X0 st2 M2 Os:=by
 have hlo: ∀c∈M.map Prod.fst,st0.n≤c∨X0 c:=fun c hc=>by
  obtain⟨⟨c,m,l⟩,h1,rfl⟩:=List.mem_map.1 hc;exact B.lo c m l h1
 have hdj: ∀o∈Os,∀c,o.F c→c∉M.map Prod.fst:=fun o ho c hc hm=>by
  obtain⟨⟨c,m,l⟩,h1,rfl⟩:=List.mem_map.1 hm;exact B.djM o ho c m l h1 hc
 refine⟨hM.fresh,Nat.le_trans B.le hM.le,hM.row,hM.nodup,fun c m l hm=>?_,fun o ho=>?_,fun o ho c hc=>?_,B.dj,fun o ho c m l hm hc=>?_,fun c hc hx=>?_⟩
 ·rcases hM.own c m l hm with h|h
  ·exact .inl (Nat.le_trans B.le h)
  ·exact hlo c h
 ·exact o.fr _ _ (fun c hc=>hM.JB c (B.hi o ho c hc).1 (hdj o ho c hc)) (B.obj o ho)
 ·exact⟨Nat.lt_of_lt_of_le (B.hi o ho c hc).1 hM.le,(B.hi o ho c hc).2⟩
 ·rcases hM.own c m l hm with h|h
  ·have:=(B.hi o ho c hc).1;omega
  ·exact hdj o ho c hc h
 ·rw[hM.JB c (Nat.lt_of_lt_of_le hc B.le) fun h=>by
   rcases hlo c h with h|h
   ·omega
   ·exact hx h]
  exact B.JB c hc hx
theorem Qk.at_(B:Qk st0 X0 st M Os)(hk:Os[k]? =some o):o.H st.h.get:=B.obj o (List.mem_of_getElem? hk)
theorem Qk.Y4(B:Qk st0 X0 st M Os)(hk:Os[k]? =some o): ∀c,o.F c→c<st.n:=fun c hc=>(B.hi o (List.mem_of_getElem? hk) c hc).1
theorem Qk.Lx(B:Qk st0 X0 st M Os)(hk:Os[k]? =some o): ∀c,o.F c→st0.n≤c∨X0 c:=fun c hc=>(B.hi o (List.mem_of_getElem? hk) c hc).2
theorem Qk.uI(B:Qk st0 Xi st M Os)(hk:Os[k]? =some o):ZQ st0 st o.F:=fun c hc=>⟨(B.Lx hk c hc).resolve_right id,B.Y4 hk c hc⟩
theorem Qk.less(B:Qk st0 X0 st M Os)(hs:M'.Sublist M):Qk st0 X0 st M' Os:=
 ⟨B.fresh,B.le,fun c m l h=>B.row c m l (hs.subset h),B.nodup.sublist (hs.map _),fun c m l h=>B.lo c m l (hs.subset h),B.obj,B.hi,B.dj,fun o ho c m l h=>B.djM o ho c m l (hs.subset h),B.JB⟩
theorem Qk.perm(B:Qk st0 X0 st M Os)(p:M.Perm M'):Qk st0 X0 st M' Os:=
 ⟨B.fresh,B.le,fun c m l h=>B.row c m l (p.symm.subset h),(p.map _).nodup B.nodup,fun c m l h=>B.lo c m l (p.symm.subset h),B.obj,B.hi,B.dj,fun o ho c m l h=>B.djM o ho c m l (p.symm.subset h),B.JB⟩
theorem Qk.cast(B:Qk st0 X0 st M Os)(e:M=M'):Qk st0 X0 st M' Os:=e▸B
theorem Qk.ND(B:Qk st0 X0 st M Os)(hs:Os'.Sublist Os):Qk st0 X0 st M Os':=
 ⟨B.fresh,B.le,B.row,B.nodup,B.lo,fun o h=>B.obj o (hs.subset h),fun o h=>B.hi o (hs.subset h),B.dj.sublist hs,fun o h=>B.djM o (hs.subset h),B.JB⟩
theorem Qk.G0(B:Qk st0 X0 st M Os)(p:Os.Perm Os'):Qk st0 X0 st M Os':=
 ⟨B.fresh,B.le,B.row,B.nodup,B.lo,fun o h=>B.obj o (p.symm.subset h),fun o h=>B.hi o (p.symm.subset h),p.pairwise B.dj (fun h c h1 h2=>h c h2 h1),fun o h=>B.djM o (p.symm.subset h),B.JB⟩
theorem Qk.quiet(B:Qk st0 X0 st M Os)(q:Qt st st'):Qk st0 X0 st' M Os:=
 B.step (B.mem.quiet q)
theorem Qk.new(B:Qk st0 X0 st M Os)(q:Qt st st')(h:o.H st'.h.get)(hn:ZQ st st' o.F):Qk st0 X0 st' M (o::Os):=by
 have B':=B.quiet q;refine⟨B'.fresh,B'.le,B'.row,B'.nodup,B'.lo,fun p hp=>?_,fun p hp c hc=>?_,List.pairwise_cons.2 ⟨fun p hp c h1 h2=>?_,B.dj⟩,fun p hp c m l hm hc=>?_,B'.JB⟩
 ·rcases List.mem_cons.1 hp with rfl|hp
  ·exact h
  ·exact B'.obj p hp
 ·rcases List.mem_cons.1 hp with rfl|hp
  ·exact⟨(hn c hc).2,.inl (Nat.le_trans B.le (hn c hc).1)⟩
  ·exact B'.hi p hp c hc
 ·have:=(hn c h1).1;have:=(B.hi p hp c h2).1;omega
 ·rcases List.mem_cons.1 hp with rfl|hp
  ·have:=(hn c hc).1;have:=(B.row c m l hm).lt B.fresh;omega
  ·exact B'.djM p hp c m l hm hc
theorem Qk.call(B:Qk st0 X0 st M Os)(hk:Os[k]? =some o)(Q:US o.F st st')(h:o'.H st'.h.get)(hn:Ef st st' o.F o'.F):Qk st0 X0 st' M (Os.set k o'):=by
 have ho:=List.mem_of_getElem? hk;have hlt:=(List.getElem?_eq_some_iff.1 hk).1
 have hne: ∀p∈Os.set k o',p=o'∨ ∃j,Os[j]? =some p∧j≠k:=fun p hp=>by
  obtain⟨j,hj⟩:=List.getElem?_of_mem hp;rw[List.getElem?_set]at hj
  by_cases e:k=j
  ·subst e;rw[if_pos rfl,if_pos hlt]at hj
   injection hj with hj
   exact .inl hj.symm
  ·rw[if_neg e]at hj;exact .inr ⟨j,hj,fun e'=>e e'.symm⟩
 have hdj: ∀j p,Os[j]? =some p→j≠k→ ∀c,p.F c→ ¬o.F c:=fun j p hj e c h1 h2=>by
  have hjl:=(List.getElem?_eq_some_iff.1 hj).1;have hpw:=List.pairwise_iff_getElem.1 B.dj;have ej:Os[j]=p:=(List.getElem?_eq_some_iff.1 hj).2;have ek:Os[k]=o:=(List.getElem?_eq_some_iff.1 hk).2;rcases Nat.lt_or_ge j k with hlt'|hge
  ·exact hpw j k hjl hlt hlt' c (by rw[ej];exact h1) (by rw[ek];exact h2)
  ·exact hpw k j hlt hjl Qc c (by rw[ek];exact h2) (by rw[ej];exact h1)
 refine⟨Q.fresh,Nat.le_trans B.le Q.le,fun c m l hm=>?_,B.nodup,B.lo,fun p hp=>?_,fun p hp c hc=>?_,?_,fun p hp c m l hm hc=>?_,fun c hc hx=>?_⟩
 ·have h1:=B.row c m l hm;exact h1.frame (Q.JB c (h1.lt B.fresh) (B.djM o ho c m l hm))
 ·rcases hne p hp with rfl|⟨j,hj,e⟩
  ·exact h
  ·exact p.fr _ _ (fun c hc=>Q.JB c (B.Y4 hj c hc) (hdj j p hj e c hc)) (B.at_ hj)
 ·rcases hne p hp with rfl|⟨j,hj,e⟩
  ·obtain⟨h1,h2⟩:=hn c hc;refine⟨h2,?_⟩;rcases h1 with h1|h1
   ·exact B.Lx hk c h1
   ·exact .inl (Nat.le_trans B.le h1)
  ·exact⟨Nat.lt_of_lt_of_le (B.Y4 hj c hc) Q.le,B.Lx hj c hc⟩
 ·refine List.pairwise_iff_getElem.2 fun i j hi hj hij c h1 h2=>?_;rw[List.length_set]at hi hj;have hpw:=List.pairwise_iff_getElem.1 B.dj;rw[List.getElem_set]at h1 h2
  by_cases e1:k=i
  ·rw[if_pos e1]at h1;rw[if_neg Qc]at h2;rcases(hn c h1).1 with h3|h3
   ·exact hdj j _ (List.getElem?_eq_getElem hj) Qc c h2 h3
   ·have:=B.Y4 (List.getElem?_eq_getElem hj) c h2;omega
  ·rw[if_neg e1]at h1
   by_cases e2:k=j
   ·rw[if_pos e2]at h2;rcases(hn c h2).1 with h3|h3
    ·exact hdj i _ (List.getElem?_eq_getElem hi) Qc c h1 h3
    ·have:=B.Y4 (List.getElem?_eq_getElem hi) c h1;omega
   ·rw[if_neg e2]at h2;exact hpw i j hi hj hij c h1 h2
 ·rcases hne p hp with rfl|⟨j,hj,e⟩
  ·rcases(hn c hc).1 with h3|h3
   ·exact B.djM o ho c m l hm h3
   ·have:=(B.row c m l hm).lt B.fresh;omega
  ·exact B.djM p (List.mem_of_getElem? hj) c m l hm hc
 ·rw[Q.JB c (Nat.lt_of_lt_of_le hc B.le) fun h'=>by
   rcases B.Lx hk c h' with h3|h3
   ·omega
   ·exact hx h3]
  exact B.JB c hc hx
theorem Qk.view(B:Qk st0 X0 st M Os)(hk:Os[k]? =some o)(h:o'.H st.h.get)(hn: ∀c,o'.F c→o.F c):Qk st0 X0 st M (Os.set k o'):=
 B.call hk ⟨B.fresh,Nat.le_refl _,fun _ _ _=>rfl⟩ h fun c hc=>⟨.inl (hn c hc),B.Y4 hk c (hn c hc)⟩
theorem Qk.freeze(B:Qk st0 X0 st (R++M) Os)(h:o.H st.h.get)(hF: ∀c,o.F c→ ∃m l,(c,m,l)∈R):Qk st0 X0 st M (o::Os):=by
 have hnd:=B.nodup;rw[List.map_append]at hnd;refine⟨B.fresh,B.le,fun c m l h=>B.row c m l (List.mem_append_right _ h),(List.nodup_append.1 hnd).2.1,fun c m l h=>B.lo c m l (List.mem_append_right _ h),fun p hp=>?_,fun p hp c hc=>?_,List.pairwise_cons.2 ⟨fun p hp c h1 h2=>?_,B.dj⟩,fun p hp c m l hm hc=>?_,B.JB⟩
 ·rcases List.mem_cons.1 hp with rfl|hp
  ·exact h
  ·exact B.obj p hp
 ·rcases List.mem_cons.1 hp with rfl|hp
  ·obtain⟨m,l,h1⟩:=hF c hc;exact⟨(B.row c m l (List.mem_append_left _ h1)).lt B.fresh,B.lo c m l (List.mem_append_left _ h1)⟩
  ·exact B.hi p hp c hc
 ·obtain⟨m,l,h3⟩:=hF c h1;exact B.djM p hp c m l (List.mem_append_left _ h3) h2
 ·rcases List.mem_cons.1 hp with rfl|hp
  ·obtain⟨m',l',h1⟩:=hF c hc;exact(List.nodup_append.1 hnd).2.2 c (List.mem_map.2 ⟨_,h1,rfl⟩) c (List.mem_map.2 ⟨_,hm,rfl⟩) rfl
  ·exact B.djM p hp c m l (List.mem_append_right _ hm) hc
theorem Qk.join{o1 o2:Ob}(B:Qk st0 X0 st M (o1::o2::Os))(h:o1.H st.h.get→o2.H st.h.get→o.H st.h.get)(hF: ∀c,o.F c→o1.F c∨o2.F c):Qk st0 X0 st M (o::Os):=by
 have hd:=List.pairwise_cons.1 B.dj;have hd2:=List.pairwise_cons.1 hd.2;refine⟨B.fresh,B.le,B.row,B.nodup,B.lo,fun p hp=>?_,fun p hp c hc=>?_,List.pairwise_cons.2 ⟨fun p hp c h1 h2=>?_,hd2.2⟩,fun p hp c m l hm hc=>?_,B.JB⟩
 ·rcases List.mem_cons.1 hp with rfl|hp
  ·exact h (B.obj _ Q7) (B.obj _ Q7)
  ·exact B.obj p (by simp[hp])
 ·rcases List.mem_cons.1 hp with rfl|hp
  ·rcases hF c hc with h1|h1
   ·exact B.hi o1 Q7 c h1
   ·exact B.hi o2 Q7 c h1
  ·exact B.hi p (by simp[hp]) c hc
 ·rcases hF c h1 with h3|h3
  ·exact hd.1 p (by simp[hp]) c h3 h2
  ·exact hd2.1 p hp c h3 h2
 ·rcases List.mem_cons.1 hp with rfl|hp
  ·rcases hF c hc with h1|h1
   ·exact B.djM o1 Q7 c m l hm h1
   ·exact B.djM o2 Q7 c m l hm h1
  ·exact B.djM p (by simp[hp]) c m l hm hc
theorem Qk.wC(B:Qk st0 X0 st M (o::Os))(hR: ∀c m l,(c,m,l)∈R→Qy st.h.get c m l∧o.F c)(hn:(R.map Prod.fst).Nodup)(h:o'.H st.h.get)(hF: ∀c,o'.F c→o.F c)(hd: ∀c m l,(c,m,l)∈R→ ¬o'.F c):Qk st0 X0 st (R++M) (o'::Os):=by
 have hp0:=List.pairwise_cons.1 B.dj;refine⟨B.fresh,B.le,fun c m l hm=>?_,?_,fun c m l hm=>?_,fun p hp=>?_,fun p hp c hc=>?_,List.pairwise_cons.2 ⟨fun p hp c h1 h2=>hp0.1 p hp c (hF c h1) h2,hp0.2⟩,fun p hp c m l hm hc=>?_,B.JB⟩
 ·rcases List.mem_append.1 hm with hm|hm
  ·exact(hR c m l hm).1
  ·exact B.row c m l hm
 ·rw[List.map_append];refine List.nodup_append.2 ⟨hn,B.nodup,fun a ha b hb e=>?_⟩;subst e;obtain⟨⟨c,m,l⟩,h1,rfl⟩:=List.mem_map.1 ha;obtain⟨⟨c',m',l'⟩,h3,h4⟩:=List.mem_map.1 hb;simp only at h4;subst h4;exact B.djM o Q7 _ m' l' h3 (hR _ m l h1).2
 ·rcases List.mem_append.1 hm with hm|hm
  ·exact(B.hi o Q7 c (hR c m l hm).2).2
  ·exact B.lo c m l hm
 ·rcases List.mem_cons.1 hp with rfl|hp
  ·exact h
  ·exact B.obj p (by simp[hp])
 ·rcases List.mem_cons.1 hp with rfl|hp
  ·exact B.hi o Q7 c (hF c hc)
  ·exact B.hi p (by simp[hp]) c hc
 ·rcases List.mem_append.1 hm with hm|hm
  ·rcases List.mem_cons.1 hp with rfl|hp
   ·exact hd c m l hm hc
   ·exact hp0.1 p hp c (hR c m l hm).2 hc
  ·rcases List.mem_cons.1 hp with rfl|hp
   ·exact B.djM o Q7 c m l hm (hF c hc)
   ·exact B.djM p (by simp[hp]) c m l hm hc
theorem Qk.JN(B:Qk st0 X0 st M Os):US X0 st0 st:=⟨B.fresh,B.le,B.JB⟩
theorem Qk.qt(B:Qk st0 Xi st M Os):Qt st0 st:=⟨B.fresh,B.le,fun c hc=>B.JB c hc id⟩
theorem Qk.UI(B:Qk st0 X0 st M Os)(hf:Qi st0){c m:Nat}{l:List AV}(r:Yu st0.h.get c m l)(hX: ¬X0 c):Yu st.h.get c m l:=by
 have hlt:=r.lt hf;obtain⟨ro,e,vs,ms,h1,h2⟩:=r;exact⟨ro,e,vs,ms,by rw[B.JB c hlt hX];exact h1,h2⟩
theorem Qk.rd(B:Qk st0 X0 st M Os)(hf:Qi st0){z:Nat}{ls:List (List AV)}{ks:AV}(r:Jj st0.h.get [] z ls ks)(hX: ∀c m o n y,ks=.sl c m o n y→ ¬X0 c):Jj st.h.get [] z ls ks:=
 r.frame fun c m o n y e=>by
  obtain⟨_,cells,h2,_⟩:=r.alive c m o n y e;exact B.JB c (h2.lt hf) (hX c m o n y e)
theorem Qk.off(B:Qk st0 X0 st M Os)(hk:Os[k]? =some o)(hf:Qi st0){z:Nat}{ls:List (List AV)}{ks:AV}(r:Jj st0.h.get [] z ls ks)(hX: ∀c m o n y,ks=.sl c m o n y→ ¬X0 c): ∀c m p n y,ks=.sl c m p n y→ ¬o.F c:=fun c m p n y e hc=>by
 obtain⟨_,cells,h2,_⟩:=r.alive c m p n y e;have:=h2.lt hf;rcases B.Lx hk c hc with h|h
 ·omega
 ·exact hX c m p n y e h
theorem Qk.FF(B:Qk st0 Xi st M Os)(hf:Qi st0){z:Nat}{ls:List (List AV)}{ks:AV}(r:Jj st0.h.get [] z ls ks):Jj st.h.get [] z ls ks:=B.rd hf r fun _ _ _ _ _ _=>id
end
section
variable {P:Program} {G:Env} {N:Nat} {T:Tr AV} {h0:Hp} {n0 z:Nat} {X:List Nat} {st st':St} {L A B:QS} {ks:AV} {ls:List (List AV)} {ops rest:List Oper} {K:List (Nat×AV)} {R:Tr AV→St→Prop} {d:Nat} {ty:TypeId} {pos:String} {af:Array Edge}
theorem Acc.z0{n0:Nat}(hA:Acc n0 z A ks ls):Acc 0 z A ks ls:=hA.less (Nat.zero_le _)
theorem Mem.wm(hM:Mem h0 n0 X st (L++(A++B)))(hA:Acc 0 z A ks ls)(T:Ho P t e z)(hk:(L++(A++B))[k2]? =some (c2,m2,l2))(hl:l2.length=z)(hb:ls.length+1≤1000000000):
  ∃ks' A' st1,Yl P [t,t] ks (.sl c2 m2 0 1 z) st=some (ks',st1)∧Acc 0 z A' ks' (ls++[l2])∧Mem h0 n0 X st1 (L++(A'++B)):=by
 cases hA with
 |none=>
  obtain⟨ks',A',st1,h1,h2,h3⟩:=hM.YF (A:=[]) .none T hk hl hb;exact⟨ks',A',st1,h1,h2.less (Nat.zero_le _),h3⟩
 |own h3 h4 h5=>
  rename_i c m;obtain⟨m',st1,h6,h7,_⟩:=hM.append T (z2:=z) (J3:=0) (n:=1) (Ch L B _) (A6 h4) (hM.Yb hk).Jd Qc Q9 hb;refine⟨_,[(c,m',(ls++[l2]).flatten)],st1,h6,?_,?_⟩
  ·have:=Acc.own (n0:=0) (c:=c) (m:=m') (ls:=ls++[l2]) (z:=z) (Nat.zero_le _) (fun cs hc=>by
    rcases List.mem_append.1 hc with hc|hc
    ·exact h4 cs hc
    ·rw[List.mem_singleton.1 hc];exact hl) (by simpa using hb)
   rw[List.length_append]at this;exact this
  ·rw[B5,List.drop_zero,List.take_of_length_le Qc]at h7;rw[List.flatten_append,show [l2].flatten=l2 by simp];exact h7
theorem Jf{x y:Operand}(hK:QT K T)(hM:Mem h0 n0 X st (L++(A++B)))(hA:Acc 0 z A ks ls)(S:Ho P t e z)(hx:QV G K x=some ks)(hy:QV G K y=some (.sl c2 m2 0 1 z))(hk:(L++(A++B))[k2]? =some (c2,m2,l2))(hl:l2.length=z)(hb:ls.length+1≤1000000000)(hN:Nat.ble (d+1) N=true)
  (hn: ∀(ks':AV) A' T' st',QT ((d,ks')::K) T'→Acc 0 z A' ks' (ls++[l2])→Mem h0 n0 X st' (L++(A'++B))→WR P G N ops rest R T' st'):WR P G N ops (⟨some d,.call {callee:=.builtin .append,args:= #[x,y],argTypes:= #[t,t]},ty,pos,af,none⟩::rest) R T st:=by
 obtain⟨ks',A',st1,h1,h2,h3⟩:=hM.wm hA S hk hl hb;exact EC hK (ZL rfl hx hy h1) (Nat.le_of_ble_eq_true hN) fun T' hT'=>hn ks' A' T' st1 hT' h2 h3
theorem X6{sn:List St}{i:Nat}{rr:List (Nat×Nat)}{x y:Operand}(ho:ops[i]? =some ⟨some d,.call {callee:=.builtin .append,args:= #[x,y],argTypes:= #[t,t]},ty,pos,af,none⟩)(hK:QT K T)(hM:Mem h0 n0 X st (L++(A++B)))(hA:Acc 0 z A ks ls)(S:Ho P t e z)(hx:QV G K x=some ks)(hy:QV G K y=some (.sl c2 m2 0 1 z))(hk:(L++(A++B))[k2]? =some (c2,m2,l2))(hl:l2.length=z)(hb:ls.length+1≤1000000000)(hN:Nat.ble (d+1) N=true)
  (hn: ∀(ks':AV) A' T' st',QT ((d,ks')::K) T'→Acc 0 z A' ks' (ls++[l2])→Mem h0 n0 X st' (L++(A'++B))→WD P G N ops (rr.map (Yq ops)) R T' st' (st'::sn)):WD P G N ops (((i,0)::rr).map (Yq ops)) R T st sn:=by
 obtain⟨ks',A',st1,h1,h2,h3⟩:=hM.wm hA S hk hl hb;exact LH ho hK (ZL rfl hx hy h1) rfl (Nat.le_of_ble_eq_true hN) fun T' hT'=>hn ks' A' T' st1 hT' h2 h3
end
end
section
open Go Go.RowKit
set_option maxRecDepth 100000

structure VQ(P:Program)(t:TypeId){α:Type}(key:α→AV)(z:AV):Prop where
 rule: ∃kt et d,P.underlying t=some (.map kt et)∧P.underlying kt=some d∧zeroV P et=some z∧(∀a,Wp P kt d (key a)=true)∧(∀a i,Y1 P kt d (key a) [] i=some none)∧
  ∀a b v n es i,(a=b→Y1 P kt d (key a) ((key b,v,n)::es) i=some (some (i,v)))∧(a≠b→Y1 P kt d (key a) ((key b,v,n)::es) i=Y1 P kt d (key a) es (i+1))
section
variable {α:Type} {key:α→AV}
def O0(key:α→AV)(es:List (AV×AV×Nat))(L:List (α×AV)):Prop:=es.map wJ=L.map fun x=>(key x.1,x.2)
open Classical in
noncomputable def Yr:List (α×AV)→α→Option AV
 |[],_=>none
 |x::L,a=>if x.1=a then some x.2 else Yr L a
theorem Ly: ∀{L:List (α×AV)} {a:α} {v:AV},Yr L a=some v→(a,v)∈L
 |[],a,v,h=>by cases h
 |x::L,a,v,h=>by
  rw[Yr]at h
  split at h
  ·rename_i e
   injection h with h
   subst e h;simp
  ·exact List.mem_cons_of_mem _ (Ly h)
theorem NA: ∀{L:List (α×AV)} {a:α},Yr L a=none→ ∀v,(a,v)∉L
 |[],a,_,v=>by simp
 |x::L,a,h,v=>by
  rw[Yr]at h
  split at h
  ·cases h
  ·rename_i e;intro hm;rcases List.mem_cons.1 hm with e'|hm
   ·exact e (by rw[←e'])
   ·exact NA h v hm
theorem O0.snoc{es:List (AV×AV×Nat)}{L:List (α×AV)}(h:O0 key es L)(a:α)(v:AV)(n:Nat):O0 key (es++[(key a,v,n)]) (L++[(a,v)]):=by
 unfold O0 at h ⊢;rw[List.map_append,List.map_append,h];rfl
theorem VQ.find{P:Program}{t:TypeId}{z:AV}{kt et:TypeId}{d:TypeDesc}(h0: ∀a i,Y1 P kt d (key a) [] i=some none)(h1: ∀a b v n es i,(a=b→Y1 P kt d (key a) ((key b,v,n)::es) i=some (some (i,v)))∧(a≠b→Y1 P kt d (key a) ((key b,v,n)::es) i=Y1 P kt d (key a) es (i+1)))(a:α): ∀(L:List (α×AV)) (es:List (AV×AV×Nat)) (i:Nat),O0 key es L→
  (Yr L a=none→Y1 P kt d (key a) es i=some none)∧ ∀v,Yr L a=some v→ ∃j,Y1 P kt d (key a) es i=some (some (j,v))
 |[],es,i,h=>by
  cases es with
  |nil=>exact⟨fun _=>h0 a i,fun v hv=>(by cases hv)⟩
  |cons e es=>cases h
 |x::L,es,i,h=>by
  cases es with
  |nil=>cases h
  |cons e es=>
   obtain⟨e1,e2,e3⟩:=e;unfold O0 at h;rw[List.map_cons,List.map_cons]at h
   injection h with h h'
   injection h with h3 h4
   have h3:e1=key x.1:=h3;have h4:e2=x.2:=h4;subst h3 h4;obtain⟨k1,k2⟩:=h1 a x.1 x.2 e3 es i;rw[Yr]
   split
   ·rename_i e;exact⟨fun h=>(by cases h),fun v hv=>(by injection hv with hv;subst hv;exact⟨i,k1 e.symm⟩)⟩
   ·rename_i e;rw[k2 fun h=>e h.symm];exact VQ.find (t:=t) (z:=z) (et:=et) h0 h1 a L es (i+1) h'
def Wo(cm:Nat)(key:α→AV)(L:List (α×AV)):Ob:=⟨fun c=>c=cm,fun h=> ∃es n,h cm=some (.map es n)∧O0 key es L,fun h h' e ⟨es,n,h1,h2⟩=>⟨es,n,by rw[e cm rfl];exact h1,h2⟩⟩
theorem WI{P:Program}{G:Env}{K:List (Nat×AV)}{st:St}{t:TypeId}{z:AV}(T:VQ P t key z){cm:Nat}{L:List (α×AV)}{a:α}{m k:Operand}(hH:(Wo cm key L).H st.h.get)(hm:QV G K m=some (.mp cm))(hk:QV G K k=some (key a)):
  U3 P G K (.lookup t m k true) st (.tup [(Yr L a).getD z,.bool (Yr L a).isSome]) st:=.of fun T' hT c d ty pos af g=>by
 obtain⟨kt,et,d',u1,u2,u3,u4,u5,u6⟩:=T.rule;obtain⟨es,n,hc,he⟩:=hH;show(ob (QG G T' m) fun m=>ob (QG G T' k) fun k=>ret (Vn P t m k true st.h.get) st)=_;rw[hT.QG hm,hT.QG hk,Ql,Ql];unfold Vn;obtain⟨f1,f2⟩:=VQ.find (P:=P) (t:=t) (z:=z) (et:=et) u5 u6 a L es 0 he;simp only[u1,u2,u4,QO,hc,Ql]
 cases hl:Yr L a with
 |none=>rw[f1 hl];simp only[Ql,u3,Option.getD_none,Option.isSome_none];rfl
 |some v=>
  obtain⟨j,f⟩:=f2 v hl;rw[f];rfl
noncomputable def Av(st:St)(cm n:Nat)(es:List (AV×AV×Nat))(k v:AV):St:=⟨st.n,st.h.set cm (.map (es++[(k,v,n)]) (n+1))⟩
theorem Tp{P:Program}{G:Env}{K:List (Nat×AV)}{st:St}{t:TypeId}{z:AV}(T:VQ P t key z){cm n:Nat}{es:List (AV×AV×Nat)}{L:List (α×AV)}{a:α}{v:AV}{m k x:Operand}(hc:st.h.get cm=some (.map es n))(he:O0 key es L)(hm:QV G K m=some (.mp cm))(hk:QV G K k=some (key a))(hx:QV G K x=some v)(hv:Qs v=true)(hn:Yr L a=none):
  U3 P G K (.mapUpdate t m k x) st (.tup []) (Av st cm n es (key a) v):=.of fun T' hT c d ty pos af g=>by
 obtain⟨kt,et,d',u1,u2,u3,u4,u5,u6⟩:=T.rule;show(ob (QG G T' m) fun m=>ob (QG G T' k) fun k=>ob (QG G T' x) fun x=>Z0 P t m k x st)=_;rw[hT.QG hm,hT.QG hk,hT.QG hx,Ql,Ql,Ql];unfold Z0 Av;obtain⟨f1,f2⟩:=VQ.find (P:=P) (t:=t) (z:=z) (et:=et) u5 u6 a L es 0 he;simp only[u1,u2,u4,QO,hc,Ql,f1 hn,hv,Bool.true_or,Ub,U6,Ji,UK]
section
variable {P:Program} {G:Env} {N:Nat} {st0 st:St} {X0:Fp} {M:QS} {Os:List Ob} {T:Tr AV} {ops rest:List Oper} {K:List (Nat×AV)} {R:Tr AV→St→Prop} {t ty:TypeId} {pos:String} {af:Array Edge} {z v:AV} {cm j:Nat} {L:List (α×AV)} {a:α} {m k x:Operand} {sn:List St} {i:Nat} {r:List (Nat×Nat)}
theorem Qk.BT(B:Qk st0 X0 st M Os)(hj:Os[j]? =some (Wo cm key L)){es:List (AV×AV×Nat)}{n:Nat}(hc:st.h.get cm=some (.map es n))(he:O0 key es L)(a:α)(v:AV):Qk st0 X0 (Av st cm n es (key a) v) M (Os.set j (Wo cm key (L++[(a,v)]))):=by
 have hg: ∀c,(Av st cm n es (key a) v).h.get c=if c=cm then some (.map (es++[(key a,v,n)]) (n+1))else st.h.get c:=fun c=>Tr.VY _ _ _ _
 have hcm:cm<st.n:=B.Y4 hj cm rfl;refine B.call hj ⟨fun c hc=>?_,Nat.le_refl _,fun c hc hF=>?_⟩ ⟨_,_,(hg cm).trans (if_pos rfl),he.snoc a v n⟩ fun c hc=>⟨.inl hc,?_⟩
 ·have hc:st.n≤c:=hc;rw[hg,if_neg Qc];exact B.fresh c hc
 ·have hF: ¬c=cm:=hF;rw[hg,if_neg hF]
 ·have hc:c=cm:=hc;rw[hc];exact hcm
theorem Hy(hK:QT K T)(B:Qk st0 X0 st M Os)(hj:Os[j]? =some (Wo cm key L))(Tk:VQ P t key z)(hm:QV G K m=some (.mp cm))(hk:QV G K k=some (key a))(hx:QV G K x=some v)(hv:Qs v=true)(hn:Yr L a=none)
  (hr: ∀st',Qk st0 X0 st' M (Os.set j (Wo cm key (L++[(a,v)])))→WR P G N ops rest R T st'):WR P G N ops (⟨none,.mapUpdate t m k x,ty,pos,af,none⟩::rest) R T st:=by
 obtain⟨es,n,hc,he⟩:=B.at_ hj;exact SC hK (Tp Tk hc he hm hk hx hv hn) (hr _ (B.BT hj hc he a v))
theorem zQ(ho:ops[i]? =some ⟨none,.mapUpdate t m k x,ty,pos,af,none⟩)(hK:QT K T)(B:Qk st0 X0 st M Os)(hj:Os[j]? =some (Wo cm key L))(Tk:VQ P t key z)(hm:QV G K m=some (.mp cm))(hk:QV G K k=some (key a))(hx:QV G K x=some v)(hv:Qs v=true)(hn:Yr L a=none)
  (hr: ∀st',Qk st0 X0 st' M (Os.set j (Wo cm key (L++[(a,v)])))→WD P G N ops (r.map (Yq ops)) R T st' (st'::sn)):WD P G N ops (((i,0)::r).map (Yq ops)) R T st sn:=by
 obtain⟨es,n,hc,he⟩:=B.at_ hj;rw[YY ho];exact Vg rfl (Tp Tk hc he hm hk hx hv hn T hK _ _ _ _ _) rfl (fun e he=>by cases he) (hr _ (B.BT hj hc he a v))
theorem ud:U3 P G K (.makeMap t none) st (.mp st.n) ⟨st.n+1,st.h.set st.n (.map [] 0)⟩:=.of fun T hT c d ty pos af g=>by
 show WQ st=_;unfold WQ;rw[WL]
theorem Qk.eG(B:Qk st0 X0 st M Os)(key:α→AV):Qk st0 X0 ⟨st.n+1,st.h.set st.n (.map [] 0)⟩ M (Wo st.n key []::Os):=by
 have hg: ∀c,(st.h.set st.n (.map [] 0)).get c=if c=st.n then some (.map [] 0)else st.h.get c:=fun c=>Tr.VY _ _ _ _
 refine B.new ⟨fun c hc=>?_,Nat.le_succ _,fun c hc=>?_⟩ ⟨[],0,(hg st.n).trans (if_pos rfl),rfl⟩ fun c hc=>?_
 ·have hc:st.n+1≤c:=hc;show(st.h.set st.n _).get c=none;rw[hg,if_neg Qc];exact B.fresh c Qc
 ·show(st.h.set st.n _).get c=_;rw[hg,if_neg Qc]
 ·have hc:c=st.n:=hc;subst hc;exact⟨Nat.le_refl _,Nat.lt_succ_self _⟩
theorem W3{d:Nat}(key:α→AV)(hK:QT K T)(B:Qk st0 X0 st M Os)(hN:Nat.ble (d+1) N=true)(hr: ∀(c:Nat) T' st',QT ((d,.mp c)::K) T'→Qk st0 X0 st' M (Wo c key []::Os)→WR P G N ops rest R T' st'):WR P G N ops (⟨some d,.makeMap t none,ty,pos,af,none⟩::rest) R T st:=
 EC hK ud (Nat.le_of_ble_eq_true hN) fun T' hT'=>hr _ T' _ hT' (B.eG key)
end
end
theorem zX:Tryz.prog.underlying 141=some (.map 3 3):=by kernel_rfl
theorem zW:Tryz.prog.underlying 172=some (.map 177 3):=by kernel_rfl
abbrev KU(x:Int):AV:=.int .i64 x
theorem HW:VQ Tryz.prog 141 KU (.int .i64 0):=⟨3,3,.int .i64,zX,U1,by kernel_rfl,fun a=>rfl,fun a i=>rfl,fun a b v n es i=>by
 have e:Y1 Tryz.prog 3 (.int .i64) (KU a) ((KU b,v,n)::es) i=Qj (Hb a b) (some (some (i,v))) (Y1 Tryz.prog 3 (.int .i64) (KU a) es (i+1)):=by
  refine(VB (.int .i64) (KU a) (KU b,v,n) es i).trans ?_;show ob (QK (Gd .i64 .i64) (some (Hb a b))) _=_;rw[WV,QO,Ql];rfl
 rw[e,Yy]
 exact⟨fun h=>by rw[decide_eq_true h];rfl,fun h=>by rw[decide_eq_false h];rfl⟩⟩
abbrev Kt(x:Int×Int):AV:=.agg [.int .i64 x.1,.int .i64 x.2]
theorem uY:VQ Tryz.prog 172 Kt (.int .i64 0):=⟨177,3,.array 2 3,zW,AQ,by kernel_rfl,fun a=>by
 obtain⟨a1,a2⟩:=a;show aE (Y2 Tryz.prog 177 [.int .i64 a1,.int .i64 a2] [.int .i64 a1,.int .i64 a2])=true
 rw[GQ,Yy,Yy,decide_eq_true rfl,decide_eq_true rfl];rfl,fun a i=>rfl,fun a b v n es i=>by
 have e:Y1 Tryz.prog 177 (.array 2 3) (Kt a) ((Kt b,v,n)::es) i=ob (P7 Tryz.prog 177 (Kt a) (Kt b)) fun q=>Qj q (some (some (i,v))) (Y1 Tryz.prog 177 (.array 2 3) (Kt a) es (i+1)):=by
  exact Ez _ _ _ _ _ _ _
 have e2:P7 Tryz.prog 177 (Kt a) (Kt b)=some (decide (a=b)):=by
  obtain⟨a1,a2⟩:=a;obtain⟨b1,b2⟩:=b;show WW (Y2 Tryz.prog 177 [.int .i64 a1,.int .i64 a2] [.int .i64 b1,.int .i64 b2]) [.int .i64 a1,.int .i64 a2] [.int .i64 b1,.int .i64 b2]=_;rw[GQ,Yy,Yy]
  by_cases h1:a1=b1<;>by_cases h2:a2=b2<;>simp[h1,h2,Qz,Qu,WW,Gf,Ou,WV,Yy,QO]
 rw[e,e2,Ql]
 exact⟨fun h=>by rw[decide_eq_true h];rfl,fun h=>by rw[decide_eq_false h];rfl⟩⟩
end
section
variable {T h i l t:Nat}

inductive Bn where
 |leaf (v:Int)
 |fork (t l h:Nat)
abbrev U8:=List Bn
def PQ(S:U8):Nat→Nat→Nat→Int
 |0,_,_=> -1
 |k+1,i,c=>match S[i]? with
  |some (.leaf v)=>v
  |some (.fork t l h)=>PQ S k (if c.testBit t then h else l) c
  |none=> -1
def Y5(S:U8)(i c:Nat):Int:=PQ S (i+1) i c
def lvl(T:Nat)(S:U8)(i:Nat):Nat:=match S[i]? with
 |some (.fork t _ _)=>t
 |_=>T
structure Xk(T:Nat)(S:U8):Prop where
 nodup:S.Nodup
 fork: ∀(i t l h:Nat),S[i]? =some (.fork t l h)→t<lvl T S l∧t<lvl T S h∧l<i∧h<i∧l≠h∧t<T
 leaf: ∀(i:Nat) (v:Int),S[i]? =some (.leaf v)→0≤v∧v≤1099511627776
theorem Xk.nil(T:Nat):Xk T []:=⟨List.nodup_nil,fun i t l h e=>by simp at e,fun i v e=>by simp at e⟩
theorem DZ{S:U8}(W:Xk T S)(c:Nat): ∀i k k',i<k→i<k'→PQ S k i c=PQ S k' i c:=by
 intro i
 induction i using Nat.strongRecOn with
 |_ i ih=>
  intro k k' h1 h2;obtain⟨k,rfl⟩: ∃x,k=x+1:=⟨k-1,by omega⟩;obtain⟨k',rfl⟩: ∃x,k'=x+1:=⟨k'-1,by omega⟩;unfold PQ
  cases hs:S[i]? with
  |none=>rfl
  |some n=>
   cases n with
   |leaf v=>rfl
   |fork t l h=>
    obtain⟨_,_,e1,e2,_⟩:=W.fork _ _ _ _ hs;show PQ S k (if c.testBit t then h else l) c=PQ S k' (if c.testBit t then h else l) c
    split
    ·exact ih h e2 _ _ Qc Qc
    ·exact ih l e1 _ _ Qc Qc
theorem Wc{S:U8}{v:Int}(h:S[i]? =some (.leaf v))(c:Nat):Y5 S i c=v:=by
 unfold Y5 PQ;rw[h]
theorem Wd{S:U8}(W:Xk T S)(e:S[i]? =some (.fork t l h))(c:Nat):Y5 S i c=if c.testBit t then Y5 S h c else Y5 S l c:=by
 obtain⟨_,_,e1,e2,_⟩:=W.fork _ _ _ _ e;unfold Y5;rw[PQ,e];show PQ S i (if c.testBit t then h else l) c=_
 split
 ·exact DZ W c _ _ _ Qc Qc
 ·exact DZ W c _ _ _ Qc Qc
theorem HT{S:U8}(X:U8)(hi:i<S.length):lvl T (S++X) i=lvl T S i:=by
 unfold lvl;rw[List.getElem?_append_left hi]
theorem eM{S:U8}(W:Xk T S)(X:U8)(hi:i<S.length)(c:Nat):Y5 (S++X) i c=Y5 S i c:=by
 have key: ∀k i,i<S.length→PQ (S++X) k i c=PQ S k i c:=by
  intro k
  induction k with
  |zero=>intro i _;rfl
  |succ k ih=>
   intro i hi;unfold PQ;rw[List.getElem?_append_left hi]
   cases hs:S[i]? with
   |none=>rfl
   |some n=>
    cases n with
    |leaf v=>rfl
    |fork t l h=>
     obtain⟨_,_,e1,e2,_⟩:=W.fork _ _ _ _ hs;show PQ (S++X) k (if c.testBit t then h else l) c=PQ S k (if c.testBit t then h else l) c
     exact ih _ (by split<;>omega)
 exact key _ _ hi
theorem Zq{S S':U8}(W:Xk T S)(h:S<+:S')(hi:i<S.length)(c:Nat):Y5 S' i c=Y5 S i c:=by
 obtain⟨X,rfl⟩:=h;exact eM W X hi c
theorem Vm{S S':U8}(h:S<+:S')(hi:i<S.length):lvl T S' i=lvl T S i:=by
 obtain⟨X,rfl⟩:=h;exact HT X hi
theorem BW{S:U8}(W:Xk T S)(i:Nat):lvl T S i≤T:=by
 unfold lvl
 split
 ·rename_i t l h e;have:=W.fork _ _ _ _ e;omega
 ·exact Nat.le_refl _
theorem NT{S:U8}(W:Xk T S){c c':Nat}: ∀i,(∀t,lvl T S i≤t→t<T→c.testBit t=c'.testBit t)→Y5 S i c=Y5 S i c':=by
 intro i
 induction i using Nat.strongRecOn with
 |_ i ih=>
  intro hc
  cases hs:S[i]? with
  |none=>unfold Y5 PQ;rw[hs]
  |some n=>
   cases n with
   |leaf v=>rw[Wc hs,Wc hs]
   |fork t l h=>
    obtain⟨e1,e2,e3,e4,_,e6⟩:=W.fork _ _ _ _ hs
    have hl:lvl T S i=t:=by unfold lvl;rw[hs]
    rw[Wd W hs,Wd W hs,hc t Qc e6]
    split
    ·exact ih h e4 fun s h1 h2=>hc s Qc h2
    ·exact ih l e3 fun s h1 h2=>hc s Qc h2
theorem RV{S:U8}(W:Xk T S)(i c:Nat):Y5 S i (c % 2^T)=Y5 S i c:=
 NT W i fun t _ ht=>by rw[Nat.testBit_mod_two_pow,decide_eq_true ht,Bool.true_and]
def aF(t c:Nat):Nat:=if c.testBit t then c^^^2^t else c
def aB(t c:Nat):Nat:=if c.testBit t then c else c^^^2^t
theorem eW(t c:Nat):(aF t c).testBit t=false:=by
 unfold aF
 split
 ·rename_i h;rw[Nat.testBit_xor,h,Nat.testBit_two_pow_self];rfl
 ·rename_i h;simpa using h
theorem wG(t c:Nat):(aB t c).testBit t=true:=by
 unfold aB
 split
 ·assumption
 ·rename_i h;rw[Nat.testBit_xor,Nat.testBit_two_pow_self];simp[h]
theorem eV{s:Nat}(h:s≠t)(c:Nat):(aF t c).testBit s=c.testBit s:=by
 unfold aF
 split
 ·rw[Nat.testBit_xor,Nat.testBit_two_pow_of_ne (Ne.symm h)];simp
 ·rfl
theorem wF{s:Nat}(h:s≠t)(c:Nat):(aB t c).testBit s=c.testBit s:=by
 unfold aB
 split
 ·rfl
 ·rw[Nat.testBit_xor,Nat.testBit_two_pow_of_ne (Ne.symm h)];simp
theorem y7{S:U8}(W:Xk T S)(h:t<lvl T S i)(c:Nat):Y5 S i (aF t c)=Y5 S i c:=NT W i fun s h1 _=>eV Qc c
theorem y5{S:U8}(W:Xk T S)(h:t<lvl T S i)(c:Nat):Y5 S i (aB t c)=Y5 S i c:=NT W i fun s h1 _=>wF Qc c
theorem Ie{S:U8}(W:Xk T S)(e:S[i]? =some (.fork t l h))(c:Nat):Y5 S i (aF t c)=Y5 S l c:=by
 obtain⟨e1,e2,_⟩:=W.fork _ _ _ _ e;rw[Wd W e,eW,if_neg Q9,y7 W e1]
theorem Fb{S:U8}(W:Xk T S)(e:S[i]? =some (.fork t l h))(c:Nat):Y5 S i (aB t c)=Y5 S h c:=by
 obtain⟨e1,e2,_⟩:=W.fork _ _ _ _ e;rw[Wd W e,wG,if_pos rfl,y5 W e2]
theorem y8{S:U8}(W:Xk T S): ∀n i j,i+j≤n→i<S.length→j<S.length→(∀c,Y5 S i c=Y5 S j c)→i=j:=by
 intro n
 induction n with
 |zero=>intro i j h _ _ _;omega
 |succ n ih=>
  intro i j hn hi hj hc;obtain⟨x,hx⟩: ∃x,S[i]? =some x:=⟨_,List.getElem?_eq_getElem hi⟩;obtain⟨y,hy⟩: ∃y,S[j]? =some y:=⟨_,List.getElem?_eq_getElem hj⟩;have same:x=y→i=j:=fun e=>(List.getElem?_inj hi W.nodup).1 (by rw[hx,hy,e])

  have off: ∀i j t l h,i+j≤n+1→i<S.length→j<S.length→S[i]? =some (.fork t l h)→t<lvl T S j→(∀c,Y5 S i c=Y5 S j c)→False:=by
   intro i j t l h hn hi hj e ht hc;obtain⟨e1,e2,e3,e4,e5,_⟩:=W.fork _ _ _ _ e
   have h1:l=j:=ih l j Qc Qc hj fun c=>by rw[←Ie W e,hc,y7 W ht]
   have h2:h=j:=ih h j Qc Qc hj fun c=>by rw[←Fb W e,hc,y5 W ht]
   exact e5 (h1.trans h2.symm)
  have lv: ∀{i t l h},S[i]? =some (.fork t l h)→lvl T S i=t:=fun e=>by unfold lvl;rw[e]
  have lf: ∀{i v},S[i]? =some (.leaf v)→lvl T S i=T:=fun e=>by unfold lvl;rw[e]
  cases x with
  |leaf v=>
   cases y with
   |leaf w=>exact same (by rw[←Wc hx 0,hc,Wc hy])
   |fork t l h=>exact(off j i t l h Qc hj hi hy (by rw[lf hx];exact(W.fork _ _ _ _ hy).2.2.2.2.2) fun c=>(hc c).symm).elim
  |fork t l h=>
   cases y with
   |leaf w=>exact(off i j t l h hn hi hj hx (by rw[lf hy];exact(W.fork _ _ _ _ hx).2.2.2.2.2) hc).elim
   |fork t' l' h'=>
    rcases Nat.lt_trichotomy t t' with ht|ht|ht
    ·exact(off i j t l h hn hi hj hx (by rw[lv hy];exact ht) hc).elim
    ·subst ht;obtain⟨_,_,a3,a4,_⟩:=W.fork _ _ _ _ hx;obtain⟨_,_,b3,b4,_⟩:=W.fork _ _ _ _ hy
     have h1:l=l':=ih l l' Qc Qc Qc fun c=>by rw[←Ie W hx,hc,Ie W hy]
     have h2:h=h':=ih h h' Qc Qc Qc fun c=>by rw[←Fb W hx,hc,Fb W hy]
     exact same (by rw[h1,h2])
    ·exact(off j i t' l' h' Qc hj hi hy (by rw[lv hx];exact ht) fun c=>(hc c).symm).elim
theorem eL{S:U8}(W:Xk T S){j:Nat}(hi:i<S.length)(hj:j<S.length)(hc: ∀c,c<2^T→Y5 S i c=Y5 S j c):i=j:=
 y8 W _ i j (Nat.le_refl _) hi hj fun c=>by rw[←RV W,←RV W j,hc _ (Nat.mod_lt _ (Nat.two_pow_pos T))]
def CA(S:U8)(n:Bn)(i:Nat)(S':U8):Prop:=(S[i]? =some n∧S'=S)∨(n∉S∧i=S.length∧S'=S++[n])
theorem CA.pre{S S':U8}{n:Bn}(h:CA S n i S'):S<+:S'∧S'[i]? =some n∧S'.length≤S.length+1:=by
 rcases h with⟨h,rfl⟩|⟨_,rfl,rfl⟩
 ·exact⟨List.prefix_refl _,h,Nat.le_succ _⟩
 ·exact⟨List.prefix_append _ _,by simp,by simp⟩
theorem CA.wf{S S':U8}{n:Bn}(h:CA S n i S')(W:Xk T S)(hl: ∀v,n=.leaf v→0≤v∧v≤1099511627776)(hf: ∀t l h,n=.fork t l h→t<lvl T S l∧t<lvl T S h∧l<S.length∧h<S.length∧l≠h∧t<T):Xk T S':=by
 rcases h with⟨_,rfl⟩|⟨h0,rfl,rfl⟩
 ·exact W
 ·refine⟨List.nodup_append.2 ⟨W.nodup,by simp,fun a ha b hb e=>?_⟩,fun i t l h e=>?_,fun i v e=>?_⟩
  ·rw[List.mem_singleton]at hb;subst hb e;exact h0 ha
  ·by_cases hi:i<S.length
   ·rw[List.getElem?_append_left hi]at e;obtain⟨e1,e2,e3,e4,e5,e6⟩:=W.fork _ _ _ _ e;rw[HT _ Qc,HT _ Qc];exact⟨e1,e2,e3,e4,e5,e6⟩
   ·have hlt:=(List.getElem?_eq_some_iff.1 e).1;rw[List.length_append,List.length_singleton]at hlt
    have hi:i=S.length:=by omega
    subst hi;rw[List.getElem?_append_right (Nat.le_refl _),Nat.sub_self]at e
    injection e with e
    obtain⟨e1,e2,e3,e4,e5,e6⟩:=hf _ _ _ e;rw[HT _ e3,HT _ e4];exact⟨e1,e2,e3,e4,e5,e6⟩
  ·by_cases hi:i<S.length
   ·rw[List.getElem?_append_left hi]at e;exact W.leaf _ _ e
   ·have hlt:=(List.getElem?_eq_some_iff.1 e).1;rw[List.length_append,List.length_singleton]at hlt
    have hi:i=S.length:=by omega
    subst hi;rw[List.getElem?_append_right (Nat.le_refl _),Nat.sub_self]at e
    injection e with e
    exact hl _ e
structure Wg(T:Nat)(S:U8)(k:Nat)(S':U8)(i:Nat):Prop where
 wf:Xk T S'
 pre:S<+:S'
 lt:i<S'.length
 len:S'.length≤S.length+k
theorem vd{S S':U8}{v:Int}(h:CA S (.leaf v) i S')(W:Xk T S)(hv:0≤v∧v≤1099511627776):Wg T S 1 S' i∧lvl T S' i=T∧ ∀c,Y5 S' i c=v:=by
 obtain⟨h1,h2,h3⟩:=h.pre;refine⟨⟨h.wf W (fun w e=>by injection e with e;subst e;exact hv) (fun _ _ _ e=>by cases e),h1,(List.getElem?_eq_some_iff.1 h2).1,h3⟩,?_,fun c=>Wc h2 c⟩;unfold lvl;rw[h2]
def iD(S:U8)(t l h i:Nat)(S':U8):Prop:=(l=h∧i=l∧S'=S)∨(l≠h∧CA S (.fork t l h) i S')
theorem vX{S S':U8}(H:iD S t l h i S')(W:Xk T S)(ht:t<T)(hl:l<S.length)(hh:h<S.length)(h1:t<lvl T S l)(h2:t<lvl T S h):
  Wg T S 1 S' i∧t≤lvl T S' i∧ ∀c,Y5 S' i c=if c.testBit t then Y5 S h c else Y5 S l c:=by
 rcases H with⟨rfl,rfl,rfl⟩|⟨hne,H⟩
 ·exact⟨⟨W,List.prefix_refl _,hl,Nat.le_succ _⟩,by omega,fun c=>by split<;>rfl⟩
 ·obtain⟨k1,k2,k3⟩:=H.pre;have W':=H.wf W (fun _ e=>by cases e) (fun _ _ _ e=>by injection e with e1 e2 e3;subst e1 e2 e3;exact⟨h1,h2,hl,hh,hne,ht⟩);refine⟨⟨W',k1,(List.getElem?_eq_some_iff.1 k2).1,k3⟩,?_,fun c=>?_⟩
  ·unfold lvl;rw[k2];exact Nat.le_refl _
  ·rw[Wd W' k2,Zq W k1 hl,Zq W k1 hh]
def WE(T:Nat)(S:U8)(i:Nat):List Int:=(List.range (2^T)).map fun c=>Y5 S i c
theorem Nd(T:Nat)(S:U8)(i:Nat):(WE T S i).length=2^T:=by simp[WE]
theorem Nf{c:Nat}(S:U8)(i:Nat)(h:c<2^T):(WE T S i)[c]? =some (Y5 S i c):=by
 unfold WE;rw[List.getElem?_map,List.getElem?_range h];rfl
theorem xx{S:U8}{row:List Int}(hl:row.length=2^T)(h: ∀c,c<2^T→row[c]? =some (Y5 S i c)):WE T S i=row:=by
 apply List.ext_getElem?;intro c
 by_cases hc:c<2^T
 ·rw[Nf S i hc,h c hc]
 ·rw[List.getElem?_eq_none (by rw[Nd];omega),List.getElem?_eq_none Qc]
end
end Go.Proofs.YtiknomepbklibaaGreatDoor
