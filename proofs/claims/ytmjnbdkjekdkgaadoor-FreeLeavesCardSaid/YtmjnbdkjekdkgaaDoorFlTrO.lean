/-
  free.Names: a formula's free names.
-/
import Derived.Test.YtmjnbdkjekdkgaaDoorFlTrM
namespace Go.Proofs.YtmjnbdkjekdkgaaDoor
open Go Go.RowKit
set_option linter.unusedVariables false
set_option linter.unusedSimpArgs false
set_option linter.unnecessarySimpa false
set_option maxRecDepth 100000
set_option maxHeartbeats 1000000

/-- A formula's free names, in their order, each once. -/
def freeN (x : Nd) : List (List Nat) := compN (sortN (namesN x []))
theorem dropEq_step {a b : List (List Nat)} {i : Nat} {x y : List Nat} (ha : a[i]? = some x) (hb : b[i]? = some y) : (a.drop i = b.drop i) = (x = y ∧ a.drop (i + 1) = b.drop (i + 1)) := by
 obtain ⟨h1, h2⟩ := List.getElem?_eq_some_iff.1 ha
 obtain ⟨h3, h4⟩ := List.getElem?_eq_some_iff.1 hb
 rw [List.drop_eq_getElem_cons h1, List.drop_eq_getElem_cons h3, h2, h4, List.cons.injEq]

theorem tNames_ev {o s : List Nat} {z a : Int} {l : List Nd} {st : St} {cs : List AV} (hf : Fresh st) (hr : RdN st.h.get (.mk o s z a l) cs) (hsz : szN (.mk o s z a l) ≤ 1000000) : ∃ v st', Ev Tryd.prog envD 23 [.agg cs] st v st' ∧ (∃ ks, v = ks ∧ RdR st'.h.get [] 1 (txC (freeN (.mk o s z a l))) ks) ∧ Qt st st' := by
 have hr0 := hr
 obtain ⟨kk, ls, rfl, hK, hb⟩ := hr.open5
 have hln := hK.ln
 have hbn := hK.bnd
 refine J8 rfl Tryd.func23 rfl Tryd.ntmps23 rfl (by decide) (by simp) fun T hT => ?_
 have K : KnT [(0, _)] T := (.cons (hT 0) .nil)
 have M := Mem.start hf
 refine Qg <| Qa ?_
 refine Uf K M rfl (Qf rfl (Qf rfl (Qf rfl (Qf rfl (Qf hK.cell Jc))))) (by decide) fun c1 _ _ K M => ?_
 refine o1 K (Qb rfl) rfl fun _ K => Qd ?_
 show W _ _ _ _ _ _ _
 refine Qg <| Qa <| o1 K (Qh rfl (M.load (k := 0) rfl (Ql Qi rfl))) rfl fun _ K => ?_
 obtain ⟨v5, st5, ev5, ks5, rfl, nr5, q5⟩ := names_ev _ [] .nils true _ _ M.fresh (hr0.mono M.rows) (RdR.nil _ _ _) (.inl ⟨rfl, rfl⟩) (by simpa using hsz)
 refine o1 K (Qn rfl ev5) rfl fun _ K => ?_
 obtain ⟨A5, hA5, M⟩ := M.callAcc q5 nr5
 refine o1 K (Qb rfl) rfl fun _ K => Qd ?_
 show W _ _ _ _ _ _ _
 refine Qg <| Qa <| o1 K (Qc rfl) rfl fun _ K => ?_
 obtain ⟨v7, st7, A7, ev7, rfl, M7, hA7⟩ := sort_acc (L := [(c1, 0, [.str o, .str s, .int .i64 z, .int .i64 a, kk])]) (A := A5) (B := []) M hA5
 refine o1 K (Qn rfl ev7) rfl fun _ K => ?_
 replace M := M7
 refine Qd ?_
 show W _ _ _ _ _ _ _
 refine Qg <| Qa <| o1 K (Qc rfl) rfl fun _ K => ?_
 obtain ⟨v9, st9, A9, ev9, hR9, M9⟩ := comp_acc (L := [(c1, 0, [.str o, .str s, .int .i64 z, .int .i64 a, kk])]) (A := A7) (B := []) M hA7
 refine o1 K (Qn rfl ev9) rfl fun _ K => ?_
 replace M := M9
 refine o1 K (Qb rfl) rfl fun _ K => Qd ?_
 show W _ _ _ _ _ _ _
 refine Qv ?_
 refine ⟨.inr rfl, _, (Qm (Qp K rfl)), ?_⟩
 exact ⟨⟨_, rfl, hR9⟩, M.qt⟩

theorem sameTx_ev {st : St} (hf : Fresh st) {al bl : List (List Nat)} {ka kb : AV} (hA : RdR st.h.get [] 1 (txC al) ka) (hB : RdR st.h.get [] 1 (txC bl) kb) : ∃ v st', Ev Tryd.prog envD 22 [ka, kb] st v st' ∧ v = .bool (decide (al = bl)) ∧ Qt st st' := by
 have hbn : (al.length : Int) ≤ 9223372036854775807 := by have := hA.bnd; rw [Qw] at this; exact this
 have hbm : (bl.length : Int) ≤ 9223372036854775807 := by have := hB.bnd; rw [Qw] at this; exact this
 refine J8 rfl Tryd.func22 rfl Tryd.ntmps22 rfl (by decide) (by simp) fun T hT => ?_
 have K : KnT [(0, _), (1, _)] T := (.cons (hT 0) (.cons (hT 1) .nil))
 have M := Mem.start hf
 refine Qg <| Qa <| o1 K (Qb rfl) rfl fun _ K => Qd ?_
 show W _ _ _ _ _ _ _
 refine Qg <| Qg <| Qa <| o1 K (Qc rfl) rfl fun _ K => o1 K (Jm Jv rfl rfl (hA.len.trans (congrArg some (Qw _)))) rfl fun _ K => o1 K (Qc rfl) rfl fun _ K => o1 K (Jm Jv rfl rfl (hB.len.trans (congrArg some (Qw _)))) rfl fun _ K => o1 K (os_neI rfl rfl) rfl fun _ K => Qd ?_
 show W _ _ _ _ _ _ _
 refine Qq (K.opd rfl) (fun h10 => ?_) (fun h10 => ?_)
 ·have hb10 := h10
  replace h10 : ¬ (((al.length : Nat) : Int) = ((bl.length : Nat) : Int)) := by simpa using h10
  refine Qg <| Qa <| o1 K (Qb rfl) rfl fun _ K => Qd ?_
  show W _ _ _ _ _ _ _
  refine Qv ?_
  refine ⟨.inr rfl, _, (Qm (Qp K rfl)), ?_⟩
  refine ⟨congrArg AV.bool ?_, M.qt⟩
  refine (decide_eq_false fun e => ?_).symm
  subst e; simp_all
 have hb10 := h10
 replace h10 : (((al.length : Nat) : Int) = ((bl.length : Nat) : Int)) := by simpa using h10
 refine Qz ?_
 show W _ _ _ _ _ _ _
 refine Qg <| Qg <| Qa <| o1 K (Qb rfl) rfl fun _ K => Qd ?_
 show W _ _ _ _ _ _ _
 refine Q6 ?_
 refine w_loop (fun mm1 T st9 => ∃ (i : Nat), mm1 = al.length - i ∧ KnT [(0, ka), (1, kb), (5, .int .i64 (((i : Nat) : Int)))] T ∧ Mem st.h.get st.n [] st9 [] ∧ i ≤ al.length ∧ (al = bl) = (al.drop i = bl.drop i)) (fun mm1 T st9 hI => ?_) _ _ _ ⟨0, rfl, (.cons (K _ _ rfl) (.cons (K _ _ rfl) (.cons (K _ _ rfl) .nil))), M.less (.refl _), (Nat.zero_le _), rfl⟩
 obtain ⟨i, rfl, K, M, hi, hx⟩ := hI
 refine Qg <| Qg <| Qa <| o1 K (Qc rfl) rfl fun _ K => o1 K (Qc rfl) rfl fun _ K => o1 K (Jm Jv rfl rfl (hA.len.trans (congrArg some (Qw _)))) rfl fun _ K => o1 K (os_lss rfl rfl) rfl fun _ K => Qd ?_
 show W _ _ _ _ _ _ _
 refine Qq (K.opd rfl) (fun h14 => ?_) (fun h14 => ?_)
 ·have hb14 := h14
  replace h14 := of_decide_eq_true h14
  refine Qz ?_
  show W _ _ _ _ _ _ _
  refine Qg <| Q6 <| Qg ?_
  refine w_drawI (l := [(0, 0), (1, 0), (2, 0), (3, 0), (4, 0), (5, 0), (6, 0), (7, 0), (8, 0)]) (by kernel_rfl) ?_
  refine d1 rfl K (Qc rfl) rfl rfl fun _ K => d1 rfl K (Qc rfl) rfl rfl fun _ K => ?_
  obtain ⟨y19, hi19⟩ : ∃ x, al[i]? = some x := ⟨_, List.getElem?_eq_getElem (by omega)⟩
  obtain ⟨x19, m19, f19, q19, _, la19, lo19, lp19⟩ := (RdR.mem M hA (by simp)).load (i := i) (cs := _) (txC_get hi19)
  refine d1 rfl K (Qu (j := i) Ja (congrArg some q19) rfl (by rw [Qw]; omega)) rfl rfl fun _ K => d1 rfl K (Qh rfl (lo19 _ 0 _ Qr rfl)) rfl rfl fun _ K => d1 rfl K (Qc rfl) rfl rfl fun _ K => d1 rfl K (Qc rfl) rfl rfl fun _ K => ?_
  obtain ⟨y23, hi23⟩ : ∃ x, bl[i]? = some x := ⟨_, List.getElem?_eq_getElem (by omega)⟩
  obtain ⟨x23, m23, f23, q23, _, la23, lo23, lp23⟩ := (RdR.mem M hB (by simp)).load (i := i) (cs := _) (txC_get hi23)
  refine d1 rfl K (Qu (j := i) Ja (congrArg some q23) rfl (by rw [Qw]; omega)) rfl rfl fun _ K => d1 rfl K (Qh rfl (lo23 _ 0 _ Qr rfl)) rfl rfl fun _ K => d1 rfl K (os_neS rfl rfl) rfl rfl fun _ K => wd_nil ?_
  show W _ _ _ _ _ _ _
  refine Qq (K.opd rfl) (fun h25 => ?_) (fun h25 => ?_)
  ·have hb25 := h25
   replace h25 : ¬ (y19 = y23) := by simpa using h25
   refine Qg <| Qa <| o1 K (Qb rfl) rfl fun _ K => Qd ?_
   show W _ _ _ _ _ _ _
   refine Qv ?_
   refine ⟨.inr rfl, _, (Qm (Qp K rfl)), ?_⟩
   refine ⟨congrArg AV.bool ?_, M.qt⟩
   refine (decide_eq_false ?_).symm
   rw [hx, dropEq_step hi19 hi23]
   simp_all
  have hb25 := h25
  replace h25 : (y19 = y23) := by simpa using h25
  refine Qz ?_
  show W _ _ _ _ _ _ _
  refine Qa <| o1 K (Qc rfl) rfl fun _ K => o1 K (Jj rfl rfl (by omega) (by omega)) rfl fun _ K => o1 K (Qb rfl) rfl fun _ K => Qd ?_
  exact ⟨_, (by omega), i + 1, rfl, (.cons (K _ _ rfl) (.cons (K _ _ rfl) (.cons (K _ _ rfl) .nil))), M.less (.refl _), (by omega), (by rw [hx, dropEq_step hi19 hi23]; simp_all)⟩
 have hb14 := h14
 replace h14 := of_decide_eq_false h14
 refine J6 ?_
 show W _ _ _ _ _ _ _
 refine Qg <| Qa <| o1 K (Qb rfl) rfl fun _ K => Qd ?_
 show W _ _ _ _ _ _ _
 refine Qv ?_
 refine ⟨.inr rfl, _, (Qm (Qp K rfl)), ?_⟩
 refine ⟨congrArg AV.bool ?_, M.qt⟩
 refine (decide_eq_true ?_).symm
 rw [hx, Jf (by omega), Jf (by omega)]
end Go.Proofs.YtmjnbdkjekdkgaaDoor
