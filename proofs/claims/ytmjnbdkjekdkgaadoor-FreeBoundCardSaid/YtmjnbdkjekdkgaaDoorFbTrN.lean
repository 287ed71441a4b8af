/-
  Rows of texts; a formula's free names: the program's answer.
-/
import Derived.Test.YtmjnbdkjekdkgaaDoorFbTrF
import Derived.Test.YtmjnbdkjekdkgaaDoorFbSortS
namespace Go.Proofs.YtmjnbdkjekdkgaaDoor
open Go Go.RowKit
set_option linter.unusedVariables false
set_option linter.unusedSimpArgs false
set_option linter.unnecessarySimpa false
set_option maxRecDepth 100000
set_option maxHeartbeats 1000000

/-- A row of texts. -/
def txC (l : List (List Nat)) : List (List AV) := l.map fun s => [AV.str s]
theorem Jc (l : List (List Nat)) : (txC l).length = l.length := by simp [txC]
theorem txC_get {l : List (List Nat)} {i : Nat} {s : List Nat} (h : l[i]? = some s) : (txC l)[i]? = some [AV.str s] := by rw [txC, List.getElem?_map, h]; rfl
theorem txC_app (a b : List (List Nat)) : txC (a ++ b) = txC a ++ txC b := by simp [txC]
theorem txC_one (l : List (List Nat)) : ∀ cs ∈ txC l, cs.length = 1 := by
 intro cs h
 obtain ⟨s, _, rfl⟩ := List.mem_map.1 h
 rfl
theorem idx_step {α : Type} {p : α → Bool} {l : List α} {i : Nat} {k : α} (h : l[i]? = some k) : idxA p (l.drop i) i = if p k then (i : Int) else idxA p (l.drop (i + 1)) (i + 1) := idxA_step h
/-- Nothing, or a row. -/
def NilOr (kb : AV) (nb : Bool) : Prop := (kb = .nils ∧ nb = true) ∨ ((∃ c m off n, kb = .sl c m off n 1) ∧ nb = false)
theorem os_eqNilS {P : Program} {G : Env} {K : List (Nat × AV)} {st : St} {t yt e : TypeId} {x y : Operand} {kb : AV} {nb : Bool} (hk : NilOr kb nb) (ht : P.underlying t = some (.slice e)) (hx : opK G K x = some kb) (hy : opK G K y = some .nils) : OpS P G K (.binOp .eql t x y yt) st (.bool nb) st := by
 rcases hk with ⟨rfl, rfl⟩ | ⟨⟨c, m, off, n, rfl⟩, rfl⟩
 ·exact os_bin hx hy (by
   show need (eqFits (P.underlying t) .nils) (ob (eqNil .nils .nils) fun b => some (AV.bool b)) = _
   rw [ht]; rfl)
 ·exact os_bin hx hy (by
   show need (eqFits (P.underlying t) (.sl c m off n 1)) (ob (eqNil (.sl c m off n 1) .nils) fun b => some (AV.bool b)) = _
   rw [ht]; rfl)
theorem NilOr.nil {kb : AV} {h : Hp} {X : List Nat} {bl : List (List Nat)} (hk : NilOr kb true) (r : RdR h X 1 (txC bl) kb) : bl = [] := by
 rcases hk with ⟨rfl, _⟩ | ⟨_, h⟩
 ·have h := r.len
  rw [Jc] at h
  injection h with h
  exact List.length_eq_zero_iff.1 h.symm
 ·cases h
theorem Acc.nilOr {n0 : Nat} {A : List (Nat × Nat × List AV)} {ks : AV} {ls : List (List AV)} (h : Acc n0 1 A ks ls) : ∃ nb, NilOr ks nb := by
 cases h with
 | none => exact ⟨true, .inl ⟨rfl, rfl⟩⟩
 | own => exact ⟨false, .inr ⟨⟨_, _, _, _, rfl⟩, rfl⟩⟩
def inB (s : List Nat) (l : List (List Nat)) : Bool := l.any fun x => decide (s = x)
mutual
/-- Names that are free, but for some. -/
def namesN : Nd → List (List Nat) → List (List Nat)
  | .mk op name _ _ kids, b => if op = [118, 97, 114] ∨ op = [105, 115] then (if inB name b then [] else [name])
    else if op = [101, 120] ∨ op = [97, 108, 108] then namesL kids (b ++ [name]) else namesL kids b
def namesL : List Nd → List (List Nat) → List (List Nat)
  | [], _ => []
  | k :: l, b => namesN k b ++ namesL l b
end
theorem namesL_step {kids : List Nd} {i : Nat} {k : Nd} {b : List (List Nat)} (h : kids[i]? = some k) : namesL (kids.drop i) b = namesN k b ++ namesL (kids.drop (i + 1)) b := by
 obtain ⟨h1, h2⟩ := List.getElem?_eq_some_iff.1 h
 rw [List.drop_eq_getElem_cons h1, namesL, h2]
mutual
theorem namesN_len : ∀ (x : Nd) (b : List (List Nat)), (namesN x b).length ≤ szN x
 | .mk op name n a kids, b => by
  have h := fun b => namesL_len kids b
  rw [namesN, szN]
  split
  ·split <;> simp
  ·split
   ·have := h (b ++ [name]); omega
   ·have := h b; omega
theorem namesL_len : ∀ (l : List Nd) (b : List (List Nat)), (namesL l b).length ≤ szL l
 | [], b => by simp [namesL]
 | k :: l, b => by
  have h1 := namesN_len k b
  have h2 := namesL_len l b
  rw [namesL, szL, List.length_append]
  omega
end

theorem txIndex_ev {st : St} (hf : Fresh st) {bl : List (List Nat)} {kb : AV} (hB : RdR st.h.get [] 1 (txC bl) kb) (x : List Nat) : ∃ v st', Ev Tryd.prog envD 84 [kb, .str x] st v st' ∧ v = .int .i64 (idxA (fun y => decide (x = y)) bl 0) ∧ Qt st st' := by
 have hbn : (bl.length : Int) ≤ 9223372036854775807 := by have := hB.bnd; rw [Jc] at this; exact this
 refine J5 rfl Tryd.func84 rfl Tryd.ntmps84 rfl (by decide) (by simp) fun T hT => ?_
 have K : KnT [(0, _), (1, _)] T := (.cons (hT 0) (.cons (hT 1) .nil))
 have M := Mem.start hf
 refine Qh <| Qa <| o1 K (Qb rfl) rfl fun _ K => Qd ?_
 show W _ _ _ _ _ _ _
 refine Qh <| Qh <| Qa <| o1 K (Qc rfl) rfl fun _ K => o1 K (Jn un_S_string rfl rfl (hB.len.trans (congrArg some (Jc _)))) rfl fun _ K => o1 K (Qc rfl) rfl fun _ K => Qd ?_
 show W _ _ _ _ _ _ _
 refine Q5 ?_
 refine w_loop (fun mm1 T st9 => ∃ (i : Nat), mm1 = bl.length - i ∧ KnT [(0, kb), (1, .str x), (7, .int .i64 (((bl.length : Nat) : Int))), (8, .int .i64 (((i : Nat) : Int)))] T ∧ Mem st.h.get st.n [] st9 [] ∧ i ≤ bl.length ∧ idxA (fun y => decide (x = y)) bl 0 = idxA (fun y => decide (x = y)) (bl.drop i) i) (fun mm1 T st9 hI => ?_) _ _ _ ⟨0, rfl, (.cons (K _ _ rfl) (.cons (K _ _ rfl) (.cons (K _ _ rfl) (.cons (K _ _ rfl) .nil)))), M.less (.refl _), (Nat.zero_le _), rfl⟩
 obtain ⟨i, rfl, K, M, hi, hx⟩ := hI
 refine Qh <| Qa <| o1 K (os_lss rfl rfl) rfl fun _ K => Qd ?_
 show W _ _ _ _ _ _ _
 refine Qh ?_
 refine Qr (K.opd rfl) (fun h9 => ?_) (fun h9 => ?_)
 ·have hb9 := h9
  replace h9 := of_decide_eq_true h9
  refine Q3 ?_
  show W _ _ _ _ _ _ _
  refine Qh <| Q5 <| Qh <| Qa <| o1 K (Qc rfl) rfl fun _ K => o1 K (Qb rfl) rfl fun _ K => Qd ?_
  show W _ _ _ _ _ _ _
  refine Qh <| Qa <| o1 K (Qc rfl) rfl fun _ K => o1 K (Qc rfl) rfl fun _ K => o1 K (Qc rfl) rfl fun _ K => ?_
  obtain ⟨y14, hi14⟩ : ∃ x, bl[i]? = some x := ⟨_, List.getElem?_eq_getElem (by omega)⟩
  obtain ⟨x14, m14, f14, q14, _, la14, lo14, lp14⟩ := (RdR.mem M hB (by simp)).load (i := i) (cs := _) (txC_get hi14)
  refine o1 K (Q0 (j := i) el_S_string (congrArg some q14) rfl (by rw [Jc]; omega)) rfl fun _ K => o1 K (Qg rfl (lo14 _ 0 _ Qx rfl)) rfl fun _ K => o1 K (Jo rfl rfl) rfl fun _ K => Qd ?_
  show W _ _ _ _ _ _ _
  refine Qr (K.opd rfl) (fun h16 => ?_) (fun h16 => ?_)
  ·have hb16 := h16
   replace h16 := of_decide_eq_true h16
   refine Qh <| Qa <| o1 K (Qc rfl) rfl fun _ K => o1 K (Qb rfl) rfl fun _ K => Qd ?_
   show W _ _ _ _ _ _ _
   refine Qs ?_
   refine ⟨.inr rfl, _, (Qm (Qp K rfl)), ?_⟩
   exact ⟨by rw [hx, idx_step hi14, if_pos (by simpa using h16)], M.qt⟩
  have hb16 := h16
  replace h16 := of_decide_eq_false h16
  refine Q3 ?_
  show W _ _ _ _ _ _ _
  refine Qa <| o1 K (Jm rfl rfl (by omega) (by omega)) rfl fun _ K => o1 K (Qc rfl) rfl fun _ K => Qd ?_
  exact ⟨_, (by omega), i + 1, rfl, (.cons (K _ _ rfl) (.cons (K _ _ rfl) (.cons (K _ _ rfl) (.cons (K _ _ rfl) .nil)))), M.less (.refl _), (by omega), (by rw [hx, idx_step hi14, if_neg (by simpa using h16)])⟩
 have hb9 := h9
 replace h9 := of_decide_eq_false h9
 refine Uk ?_
 show W _ _ _ _ _ _ _
 refine Qh <| Qa <| o1 K (Qb rfl) rfl fun _ K => Qd ?_
 show W _ _ _ _ _ _ _
 refine Qs ?_
 refine ⟨.inr rfl, _, (Qm (Qp K rfl)), ?_⟩
 exact ⟨by rw [hx, Jl (by omega)]; rfl, M.qt⟩

theorem txContains_ev {st : St} (hf : Fresh st) {bl : List (List Nat)} {kb : AV} (hB : RdR st.h.get [] 1 (txC bl) kb) (x : List Nat) : ∃ v st', Ev Tryd.prog envD 67 [kb, .str x] st v st' ∧ v = .bool (inB x bl) ∧ Qt st st' := by
 refine J5 rfl Tryd.func67 rfl Tryd.ntmps67 rfl (by decide) (by simp) fun T hT => ?_
 have K : KnT [(0, _), (1, _)] T := (.cons (hT 0) (.cons (hT 1) .nil))
 have M := Mem.start hf
 refine Qh <| Qa <| o1 K (Qb rfl) rfl fun _ K => Qd ?_
 show W _ _ _ _ _ _ _
 refine Qh <| Qa <| o1 K (Qc rfl) rfl fun _ K => o1 K (Qc rfl) rfl fun _ K => ?_
 obtain ⟨v7, st7, ev7, rfl, q7⟩ := txIndex_ev M.fresh (RdR.mem M hB (by simp)) x
 refine o1 K (Qn rfl ev7) rfl fun _ K => ?_
 replace M := M.quiet q7
 refine o1 K (os_geq rfl rfl) rfl fun _ K => o1 K (Qb rfl) rfl fun _ K => Qd ?_
 show W _ _ _ _ _ _ _
 refine Qs ?_
 refine ⟨.inr rfl, _, (Qm (Qp K rfl)), ?_⟩
 exact ⟨by rw [inB, ← idxA_any _ bl 0], M.qt⟩

theorem binds_ev {o s : List Nat} {z a : Int} {l : List Nd} {st : St} {cs : List AV} (hf : Fresh st) (hr : RdN st.h.get (.mk o s z a l) cs)  : ∃ v st', Ev Tryd.prog envD 68 [.agg cs] st v st' ∧ v = .bool (decide (o = [101, 120]) || decide (o = [97, 108, 108])) ∧ Qt st st' := by
 have hr0 := hr
 obtain ⟨kk, ls, rfl, hK, hb⟩ := hr.open5
 have hln := hK.ln
 have hbn := hK.bnd
 refine J5 rfl Tryd.func68 rfl Tryd.ntmps68 rfl (by decide) (by simp) fun T hT => ?_
 have K : KnT [(0, _)] T := (.cons (hT 0) .nil)
 have M := Mem.start hf
 refine Qh <| Qa ?_
 refine Ub K M rfl (Qf rfl (Qf rfl (Qf rfl (Qf rfl (Qf hK.cell Q7))))) (by decide) fun c1 _ _ K M => ?_
 refine o1 K (Qb rfl) rfl fun _ K => Qd ?_
 show W _ _ _ _ _ _ _
 refine Qh <| Qa <| o1 K (Qe Je rfl) rfl fun _ K => o1 K (Qg rfl (M.load (k := 0) rfl (Qk Qx rfl))) rfl fun _ K => o1 K (Jo (b := [101, 120]) rfl rfl) rfl fun _ K => ?_
 refine oB K (Qc rfl) rfl fun b6 _ e6 K => ?_
 cases b6
 ·replace e6 := of_decide_eq_false e6
  refine og K rfl rfl (Qe Je rfl) rfl fun _ K => og K rfl rfl (Qg rfl (M.load (k := 0) rfl (Qk Qx rfl))) rfl fun _ K => og K rfl rfl (Jo (b := [97, 108, 108]) rfl rfl) rfl fun _ K => o1 K (Qj rfl rfl rfl) rfl fun _ K => o1 K (Qb rfl) rfl fun _ K => Qd ?_
  show W _ _ _ _ _ _ _
  refine Qs ?_
  refine ⟨.inr rfl, _, (Qm (Qp K rfl)), ?_⟩
  refine ⟨?_, M.qt⟩
  simp_all [bif', Nd.op] <;> first | done | rfl | omega | (congr 1; done) | (congr 2; done) | (intros; omega)
 replace e6 := of_decide_eq_true e6
 refine gn K rfl rfl rfl rfl fun _ K => gn K rfl rfl rfl rfl fun _ K => gn K rfl rfl rfl rfl fun _ K => o1 K (Qj rfl rfl rfl) rfl fun _ K => o1 K (Qb rfl) rfl fun _ K => Qd ?_
 show W _ _ _ _ _ _ _
 refine Qs ?_
 refine ⟨.inr rfl, _, (Qm (Qp K rfl)), ?_⟩
 refine ⟨?_, M.qt⟩
 simp_all [bif', Nd.op] <;> first | done | rfl | omega | (congr 1; done) | (congr 2; done) | (intros; omega)

theorem txClone_ev {st : St} (hf : Fresh st) {bl : List (List Nat)} {kb : AV} (hB : RdR st.h.get [] 1 (txC bl) kb) (hl : bl.length ≤ 1000000) {nb : Bool} (hk : NilOr kb nb) : ∃ v st', Ev Tryd.prog envD 69 [kb] st v st' ∧ ∃ ks, v = ks ∧ NewR st st' 1 ks (txC bl) ∧ Qt st st' := by
 have hbn : (bl.length : Int) ≤ 9223372036854775807 := by have := hB.bnd; rw [Jc] at this; exact this
 have hcl := Jc bl
 refine J5 rfl Tryd.func69 rfl Tryd.ntmps69 rfl (by decide) (by simp) fun T hT => ?_
 have K : KnT [(0, _)] T := (.cons (hT 0) .nil)
 have M := Mem.start hf
 refine Qh <| Qa <| o1 K (Qb rfl) rfl fun _ K => Qd ?_
 show W _ _ _ _ _ _ _
 refine Qh <| Qh <| Qa <| o1 K (Qc rfl) rfl fun _ K => o1 K (os_eqNilS hk un_S_string rfl rfl) rfl fun _ K => Qd ?_
 show W _ _ _ _ _ _ _
 refine Qr (K.opd rfl) (fun h4 => ?_) (fun h4 => ?_)
 ·have hb4 := h4
  refine Qh <| Qa <| o1 K (Qb rfl) rfl fun _ K => Qd ?_
  show W _ _ _ _ _ _ _
  refine Qs ?_
  refine ⟨.inr rfl, _, (Qm (Qp K rfl)), ?_⟩
  have hbl := NilOr.nil (h4 ▸ hk) hB
  exact ⟨.nils, rfl, ⟨[], by rw [hbl]; exact .none, fun _ _ _ h => by cases h⟩, M.qt⟩
 have hb4 := h4
 refine Q3 ?_
 show W _ _ _ _ _ _ _
 refine Qh <| Qa ?_
 refine wr_bs K M Jv ze_string rfl rfl rfl rfl rfl fun c5 _ _ K M => ?_
 refine o1 K (Qc rfl) rfl fun _ K => ?_
 replace M := Mem.cast (M' := ([(c5, 0, [])] ++ [])) (Mem.perm M (List.perm_append_comm (l₁ := [(c5, 0, [])]))) (by simp only [List.append_assoc, List.cons_append, List.nil_append, List.append_nil, List.set_cons_zero, List.set_cons_succ])
 have hA0c5 : Acc st.n 1 [(c5, 0, [])] (.sl c5 0 0 0 1) [] := Acc.own (n0 := st.n) (z := 1) (c := c5) (m := 0) (ls := []) ((M.own c5 0 [] (by simp)).resolve_right (by simp)) (by simp) (by simp)
 refine wr_accS (L := []) (A := [(c5, 0, [])]) (B := []) K M hA0c5 Jv rfl rfl (RdR.mem M hB (by simp)) (txC_one _) (by simp only [List.length_nil, List.length_cons]; omega) rfl fun ks7 A7 _ _ K hA7 M => ?_
 refine o1 K (Qb rfl) rfl fun _ K => Qd ?_
 show W _ _ _ _ _ _ _
 refine Qs ?_
 refine ⟨.inr rfl, _, (Qm (Qp K rfl)), ?_⟩
 refine ⟨_, rfl, ?_, M.qt⟩
 have h := Mem.newR (L := []) (A := A7) (B := []) M hA7
 simpa using h

theorem Mem.accOr {h0 : Hp} {n0 z : Nat} {st : St} {L A B : List (Nat × Nat × List AV)} {ks : AV} {ls : List (List AV)} (hM : Mem h0 n0 [] st (L ++ (A ++ B))) (h : Acc n0 z A ks ls ∨ (A = [] ∧ RdR h0 [] z ls ks)) : RdR st.h.get [] z ls ks := by
 rcases h with h | ⟨_, h⟩
 ·exact hM.accR h
 ·exact RdR.mem hM h (by simp)
theorem namesN_var {o s : List Nat} {z a : Int} {l : List Nd} {b : List (List Nat)} (h : o = [118, 97, 114] ∨ o = [105, 115]) : namesN (.mk o s z a l) b = if inB s b then [] else [s] := by rw [namesN, if_pos h]
theorem namesN_rest {o s : List Nat} {z a : Int} {l : List Nd} {b b2 : List (List Nat)} (h : ¬ (o = [118, 97, 114] ∨ o = [105, 115])) (hb : b2 = if o = [101, 120] ∨ o = [97, 108, 108] then b ++ [s] else b) : namesN (.mk o s z a l) b = namesL l b2 := by
 rw [namesN, if_neg h, hb]
 split <;> rfl

theorem names_ev (x : Nd) : ∀ (bl : List (List Nat)) (kb : AV) (nb : Bool) (st : St) (cs : List AV), Fresh st → RdN st.h.get x cs → RdR st.h.get [] 1 (txC bl) kb → NilOr kb nb → bl.length + szN x ≤ 1000000 → ∃ v st', Ev Tryd.prog envD 48 [.agg cs, kb] st v st' ∧ ∃ ks, v = ks ∧ NewR st st' 1 ks (txC (namesN x bl)) ∧ Qt st st' := by
 refine nd_rec (M := fun x => ∀ (bl : List (List Nat)) (kb : AV) (nb : Bool) (st : St) (cs : List AV), Fresh st → RdN st.h.get x cs → RdR st.h.get [] 1 (txC bl) kb → NilOr kb nb → bl.length + szN x ≤ 1000000 → ∃ v st', Ev Tryd.prog envD 48 [.agg cs, kb] st v st' ∧ ∃ ks, v = ks ∧ NewR st st' 1 ks (txC (namesN x bl)) ∧ Qt st st') (fun o s z a l ih => ?_) x
 intro bl kb nb st cs hf hr hB hk hsz
 have hr0 := hr
 obtain ⟨kk, ls, rfl, hK, hb⟩ := hr.open5
 have hln := hK.ln
 have hbn := hK.bnd
 rw [szN] at hsz
 have hcl := Jc bl
 refine J5 rfl Tryd.func48 rfl Tryd.ntmps48 rfl (by decide) (by simp) fun T hT => ?_
 have K : KnT [(0, _), (1, _)] T := (.cons (hT 0) (.cons (hT 1) .nil))
 have M := Mem.start hf
 refine Qh <| Qa ?_
 refine Ub K M rfl (Qf rfl (Qf rfl (Qf rfl (Qf rfl (Qf hK.cell Q7))))) (by decide) fun c2 _ _ K M => ?_
 refine o1 K (Qb rfl) rfl fun _ K => Qd ?_
 show W _ _ _ _ _ _ _
 refine Qh <| Qh <| Qa <| o1 K (Qe Je rfl) rfl fun _ K => o1 K (Qg rfl (M.load (k := 0) rfl (Qk Qx rfl))) rfl fun _ K => o1 K (Jo (b := [118, 97, 114]) rfl rfl) rfl fun _ K => ?_
 refine oB K (Qc rfl) rfl fun b11 _ e11 K => ?_
 cases b11
 ·replace e11 := of_decide_eq_false e11
  refine og K rfl rfl (Qe Je rfl) rfl fun _ K => og K rfl rfl (Qg rfl (M.load (k := 0) rfl (Qk Qx rfl))) rfl fun _ K => og K rfl rfl (Jo (b := [105, 115]) rfl rfl) rfl fun _ K => o1 K (Qj rfl rfl rfl) rfl fun _ K => Qd ?_
  show W _ _ _ _ _ _ _
  refine Qr (K.opd rfl) (fun h15 => ?_) (fun h15 => ?_)
  ·have hb15 := h15
   replace h15 := of_decide_eq_true h15
   refine Qh <| Qh <| Qa <| o1 K (Qc rfl) rfl fun _ K => o1 K (Qe Ja rfl) rfl fun _ K => o1 K (Qg rfl (M.load (k := 0) rfl (Qk Qx rfl))) rfl fun _ K => ?_
   obtain ⟨v19, st19, ev19, rfl, q19⟩ := txContains_ev M.fresh (RdR.mem M hB (by simp)) s
   refine o1 K (Qn rfl ev19) rfl fun _ K => ?_
   replace M := M.quiet q19
   refine Qd ?_
   show W _ _ _ _ _ _ _
   refine Qr (K.opd rfl) (fun h19 => ?_) (fun h19 => ?_)
   · have hb19 := h19
     refine Qh <| Qa <| o1 K (Qb rfl) rfl fun _ K => Qd ?_
     show W _ _ _ _ _ _ _
     refine Qs ?_
     refine ⟨.inr rfl, _, (Qm (Qp K rfl)), ?_⟩
     refine ⟨_, rfl, ?_, M.qt⟩
     rw [namesN_var (by simp_all), if_pos (by assumption)]
     exact ⟨[], .none, fun _ _ _ h => by cases h⟩
   have hb19 := h19
   refine Q3 ?_
   show W _ _ _ _ _ _ _
   refine Qh <| Qa <| o1 K (Qe Ja rfl) rfl fun _ K => o1 K (Qg rfl (M.load (k := 0) rfl (Qk Qx rfl))) rfl fun _ K => ?_
   refine wr_bs K M Jv ze_string rfl rfl rfl rfl rfl fun c22 _ _ K M => ?_
   refine o1 K (Qb rfl) rfl fun _ K => Qd ?_
   show W _ _ _ _ _ _ _
   refine Qs ?_
   refine ⟨.inr rfl, _, (Qm (Qp K rfl)), ?_⟩
   refine ⟨_, rfl, ?_, M.qt⟩
   rw [namesN_var (by simp_all), if_neg (by simp_all)]
   exact ⟨[(c22, 0, [.str s])], Acc.own (z := 1) (c := c22) (m := 0) (ls := [[.str s]]) ((M.own c22 0 [.str s] (by simp)).resolve_right (by simp)) (by simp) (by simp), fun c m l h => M.row c m l (by simp at h; simp [h])⟩
  have hb15 := h15
  replace h15 := of_decide_eq_false h15
  refine Q3 ?_
  show W _ _ _ _ _ _ _
  have hnv : ¬ (o = [118, 97, 114] ∨ o = [105, 115]) := by simp_all
  refine w_cut (J := fun T st9 => ∃ (kb2 : AV) (b2 : List (List Nat)) (A2 : List (Nat × Nat × List AV)) (n2 : Bool), KnT [(1, kb2), (2, .ptr c2 0 0), (4, .nils)] T ∧ Mem st.h.get st.n [] st9 ((c2, 0, [.str o, .str s, .int .i64 z, .int .i64 a, kk]) :: (A2 ++ [])) ∧ (Acc st.n 1 A2 kb2 (txC b2) ∨ (A2 = [] ∧ RdR st.h.get [] 1 (txC b2) kb2)) ∧ NilOr kb2 n2 ∧ b2 = (if o = [101, 120] ∨ o = [97, 108, 108] then bl ++ [s] else bl)) ?_ (fun T st9 hJ => ?_)
  ·refine Qh <| Qa <| o1 K (Qg rfl (M.load (k := 0) rfl (Ql Qi rfl))) rfl fun _ K => ?_
   obtain ⟨v24, st24, ev24, rfl, q24⟩ := binds_ev M.fresh (hr0.mono M.rows)
   refine o1 K (Qn rfl ev24) rfl fun _ K => ?_
   replace M := M.quiet q24
   refine Qd ?_
   show W _ _ _ _ _ _ _
   refine Qr (K.opd rfl) (fun h24 => ?_) (fun h24 => ?_)
   · have hb24 := h24
     refine w_drawI (l := [(0, 0), (1, 0), (2, 0), (3, 1), (4, 0), (5, 0), (6, 0)]) (by kernel_rfl) ?_
     refine d1 rfl K (Qc rfl) rfl rfl fun _ K => ?_
     obtain ⟨v26, st26, ev26, ks26, rfl, nr26, q26⟩ := txClone_ev M.fresh (RdR.mem M hB (by simp)) (by omega) hk
     refine dA rfl K (Qn rfl ev26) rfl rfl fun _ K => ?_
     have Mp := M
     obtain ⟨A26, hA26, M⟩ := M.callAcc q26 nr26
     refine d1 rfl K (Qe Ja rfl) rfl rfl fun _ K => ?_
     refine wd_load1 rfl K rfl (M.load (k := 0) rfl (Qk Qx rfl)) (Mp.load (k := 0) rfl (Qk Qx rfl)) (eqV_one rfl) rfl (by decide) fun _ K => ?_
     refine wd_bs rfl K M Jv ze_string rfl rfl rfl rfl rfl fun c29 _ _ K M => ?_
     refine wd_acc1 (k2 := 0) (L := [(c29, 0, [.str s]), (c2, 0, [.str o, .str s, .int .i64 z, .int .i64 a, kk])]) (A := A26) (B := []) rfl K M hA26 Jv rfl rfl rfl rfl (by rw [Jc]; omega) rfl fun ks30 A30 _ _ K hA30 M => ?_
     refine d1 rfl K (Qb rfl) rfl rfl fun _ K => wd_nil ?_
     obtain ⟨nb30, hnb30⟩ := hA30.nilOr
     exact ⟨ks30, bl ++ [s], A30, nb30, (.cons (K _ _ rfl) (.cons (K _ _ rfl) (.cons (K _ _ rfl) .nil))), M.less (.cons _ (.refl _)), (by first | exact .inl (by rw [txC_app]; exact hA30) | exact .inr ⟨rfl, hB⟩), hnb30, (by simp_all)⟩
   have hb24 := h24
   refine Q3 ?_
   have hnb30 := hk
   exact ⟨kb, bl, [], nb, (.cons (K _ _ rfl) (.cons (K _ _ rfl) (.cons (K _ _ rfl) .nil))), M.less (.refl _), (by first | exact .inl (by rw [txC_app]; exact hA30) | exact .inr ⟨rfl, hB⟩), hnb30, (by simp_all)⟩
  obtain ⟨kb2, b2, A2, n2, K, M, hA2, hn2, hb2⟩ := hJ
  have hbl2 : b2.length ≤ bl.length + 1 := by rw [hb2]; split <;> simp
  refine Qh <| Qa <| o1 K (Qb rfl) rfl fun _ K => Qd ?_
  show W _ _ _ _ _ _ _
  refine Qh <| Qh <| Qa <| o1 K (Qe Qw rfl) rfl fun _ K => o1 K (Qg rfl (M.load (k := 0) rfl (Qk Qu rfl))) rfl fun _ K => o1 K (Jn Q9 rfl rfl hK.len) rfl fun _ K => o1 K (Qc rfl) rfl fun _ K => Qd ?_
  show W _ _ _ _ _ _ _
  refine Q5 ?_
  refine w_loop (fun mm1 T st9 => ∃ (i : Nat) (nl : List (List Nat)) (ks : AV) (A : List (Nat × Nat × List AV)), mm1 = l.length - i ∧ KnT [(1, kb2), (4, .nils), (5, ks), (32, kk), (33, .int .i64 (((l.length : Nat) : Int))), (34, .int .i64 (((i : Nat) : Int)))] T ∧ Mem st.h.get st.n [] st9 ((c2, 0, [.str o, .str s, .int .i64 z, .int .i64 a, kk]) :: (A2 ++ (A ++ []))) ∧ Acc st.n 1 A ks (txC nl) ∧ i ≤ l.length ∧ namesL l b2 = nl ++ namesL (l.drop i) b2) (fun mm1 T st9 hI => ?_) _ _ _ ⟨0, [], .nils, [], rfl, (.cons (K _ _ rfl) (.cons (K _ _ rfl) (.cons (K _ _ rfl) (.cons (K _ _ rfl) (.cons (K _ _ rfl) (.cons (K _ _ rfl) .nil)))))), M.less (.refl _), .none, (Nat.zero_le _), rfl⟩
  obtain ⟨i, nl, ks, A, rfl, K, M, hA, hi, hinv⟩ := hI
  refine Qh <| Qa <| o1 K (os_lss rfl rfl) rfl fun _ K => Qd ?_
  show W _ _ _ _ _ _ _
  refine Qh ?_
  refine Qr (K.opd rfl) (fun h35 => ?_) (fun h35 => ?_)
  ·have hb35 := h35
   replace h35 := of_decide_eq_true h35
   refine Q3 ?_
   show W _ _ _ _ _ _ _
   refine Qh <| Q5 <| Qh <| Qa ?_
   obtain ⟨⟨o36, s36, z36, a36, l36⟩, hi36⟩ : ∃ k, l[i]? = some k := ⟨_, List.getElem?_eq_getElem (by first | omega | (have := bare_len (m := 1) (l := l) (by assumption); omega) | (have := bare_len (m := 2) (l := l) (by assumption); omega) | (have := Q8 (m := 1) (l := l) (by assumption); omega))⟩
   have hm36 := kids_mem hi36
   obtain ⟨_, hc36, hn36⟩ := hK.at_ _ _ hi36
   have hp36 := hn36
   obtain ⟨kk36, ls36, rfl, hK36, hb36⟩ := hp36.open5
   obtain ⟨x36, m36, f36, q36, _, la36, lo36, lp36⟩ := (hK.r.mem M (by simp)).load (i := i) (cs := _) hc36
   refine o1 K (Q0 (j := i) Jf (congrArg some q36) rfl (by rw [hK.ln]; first | omega | (have := bare_len (m := 1) (l := l) (by assumption); omega) | (have := bare_len (m := 2) (l := l) (by assumption); omega) | (have := Q8 (m := 1) (l := l) (by assumption); omega))) rfl fun _ K => o1 K (Qg rfl (la36 _ Qi)) rfl fun _ K => ?_
   refine Jy K M Jd (by decide) fun c7 _ _ K M => ?_
   refine Qz (k := 0) K M rfl rfl rfl Q6 rfl (Qf rfl (Qf rfl (Qf rfl (Qf rfl (Qf hK36.cell Q7))))) rfl fun _ M => ?_
   refine Qd ?_
   show W _ _ _ _ _ _ _
   refine Qa <| o1 K (Qc rfl) rfl fun _ K => o1 K (Qg rfl (M.load (k := 0) rfl (Ql Qi rfl))) rfl fun _ K => o1 K (Qc rfl) rfl fun _ K => ?_
   have hkk := szL_mem hm36
   obtain ⟨v41, st41, ev41, ks41, rfl, nr41, q41⟩ := ih _ hm36 b2 kb2 n2 _ _ M.fresh (hn36.mono M.rows) (Mem.accOr (L := [(c7, 0, [.str o36, .str s36, .int .i64 z36, .int .i64 a36, kk36]), (c2, 0, [.str o, .str s, .int .i64 z, .int .i64 a, kk])]) (A := A2) (B := (A ++ [])) M hA2) hn2 (by omega)
   refine o1 K (Qn rfl ev41) rfl fun _ K => ?_
   have hroom : nl.length + (namesN (.mk o36 s36 z36 a36 l36) b2).length ≤ 1000000 := by
    have h1 := namesL_len l b2
    rw [hinv, namesL_step hi36, List.length_append, List.length_append] at h1
    omega
   obtain ⟨A41, hA41, M⟩ := M.callAcc q41 nr41
   replace M := Mem.cast (M' := ((c7, 0, [.str o36, .str s36, .int .i64 z36, .int .i64 a36, kk36]) :: (c2, 0, [.str o, .str s, .int .i64 z, .int .i64 a, kk]) :: (A2 ++ (A ++ (A41 ++ []))))) M (by simp only [List.append_assoc, List.cons_append, List.nil_append, List.append_nil, List.set_cons_zero, List.set_cons_succ])
   refine wr_accS (L := ((c7, 0, [.str o36, .str s36, .int .i64 z36, .int .i64 a36, kk36]) :: (c2, 0, [.str o, .str s, .int .i64 z, .int .i64 a, kk]) :: (A2 ++ []))) (A := A) (B := (A41 ++ [])) K (Mem.cast (M := ((c7, 0, [.str o36, .str s36, .int .i64 z36, .int .i64 a36, kk36]) :: (c2, 0, [.str o, .str s, .int .i64 z, .int .i64 a, kk]) :: (A2 ++ (A ++ (A41 ++ []))))) (M' := ((c7, 0, [.str o36, .str s36, .int .i64 z36, .int .i64 a36, kk36]) :: (c2, 0, [.str o, .str s, .int .i64 z, .int .i64 a, kk]) :: (A2 ++ [])) ++ (A ++ (A41 ++ []))) M (by simp only [List.append_assoc, List.cons_append, List.nil_append, List.append_nil, List.set_cons_zero, List.set_cons_succ])) hA Jv rfl rfl (Mem.accR (L := ((c7, 0, [.str o36, .str s36, .int .i64 z36, .int .i64 a36, kk36]) :: (c2, 0, [.str o, .str s, .int .i64 z, .int .i64 a, kk]) :: (A2 ++ (A ++ [])))) (A := A41) (B := []) (Mem.cast (M := ((c7, 0, [.str o36, .str s36, .int .i64 z36, .int .i64 a36, kk36]) :: (c2, 0, [.str o, .str s, .int .i64 z, .int .i64 a, kk]) :: (A2 ++ (A ++ (A41 ++ []))))) (M' := ((c7, 0, [.str o36, .str s36, .int .i64 z36, .int .i64 a36, kk36]) :: (c2, 0, [.str o, .str s, .int .i64 z, .int .i64 a, kk]) :: (A2 ++ (A ++ []))) ++ (A41 ++ [])) M (by simp only [List.append_assoc, List.cons_append, List.nil_append, List.append_nil, List.set_cons_zero, List.set_cons_succ])) hA41) (txC_one _) (by rw [Jc, Jc]; omega) rfl fun ks42 A42 _ _ K hA42 M => ?_
   replace M := Mem.cast (M := ((c7, 0, [.str o36, .str s36, .int .i64 z36, .int .i64 a36, kk36]) :: (c2, 0, [.str o, .str s, .int .i64 z, .int .i64 a, kk]) :: (A2 ++ [])) ++ (A42 ++ (A41 ++ []))) (M' := ((c7, 0, [.str o36, .str s36, .int .i64 z36, .int .i64 a36, kk36]) :: (c2, 0, [.str o, .str s, .int .i64 z, .int .i64 a, kk]) :: (A2 ++ (A42 ++ (A41 ++ []))))) M (by simp only [List.append_assoc, List.cons_append, List.nil_append, List.append_nil, List.set_cons_zero, List.set_cons_succ])
   refine o1 K (Qb rfl) rfl fun _ K => Qd ?_
   show W _ _ _ _ _ _ _
   refine Qa <| o1 K (Jm rfl rfl (by omega) (by omega)) rfl fun _ K => o1 K (Qc rfl) rfl fun _ K => Qd ?_
   exact ⟨_, (by omega), i + 1, nl ++ namesN (.mk o36 s36 z36 a36 l36) b2, ks42, A42, rfl, (.cons (K _ _ rfl) (.cons (K _ _ rfl) (.cons (K _ _ rfl) (.cons (K _ _ rfl) (.cons (K _ _ rfl) (.cons (K _ _ rfl) .nil)))))), M.less (.cons _ (.cons_cons _ (List.Sublist.append_left (List.Sublist.append_left (List.nil_sublist _) _) _))), (by rw [txC_app]; exact hA42), (by omega), (by rw [hinv, namesL_step hi36, List.append_assoc])⟩
  have hb35 := h35
  replace h35 := of_decide_eq_false h35
  refine Uk ?_
  show W _ _ _ _ _ _ _
  refine Qh <| Qa <| o1 K (Qc rfl) rfl fun _ K => o1 K (Qb rfl) rfl fun _ K => Qd ?_
  show W _ _ _ _ _ _ _
  refine Qs ?_
  refine ⟨.inr rfl, _, (Qm (Qp K rfl)), ?_⟩
  refine ⟨_, rfl, ?_, M.qt⟩
  rw [namesN_rest hnv hb2, hinv, Jl (by omega), namesL, List.append_nil]
  exact Mem.newR (L := ((c2, 0, [.str o, .str s, .int .i64 z, .int .i64 a, kk]) :: (A2 ++ []))) (A := A) (B := []) (Mem.cast (M := ((c2, 0, [.str o, .str s, .int .i64 z, .int .i64 a, kk]) :: (A2 ++ (A ++ [])))) (M' := ((c2, 0, [.str o, .str s, .int .i64 z, .int .i64 a, kk]) :: (A2 ++ [])) ++ (A ++ [])) M (by simp only [List.append_assoc, List.cons_append, List.nil_append, List.append_nil, List.set_cons_zero, List.set_cons_succ])) hA
 replace e11 := of_decide_eq_true e11
 refine gn K rfl rfl rfl rfl fun _ K => gn K rfl rfl rfl rfl fun _ K => gn K rfl rfl rfl rfl fun _ K => o1 K (Qj rfl rfl rfl) rfl fun _ K => Qd ?_
 show W _ _ _ _ _ _ _
 refine Qr (t := true) (K.opd rfl) (fun _ => ?_) (fun h => by cases h)
 refine Qh <| Qh <| Qa <| o1 K (Qc rfl) rfl fun _ K => o1 K (Qe Ja rfl) rfl fun _ K => o1 K (Qg rfl (M.load (k := 0) rfl (Qk Qx rfl))) rfl fun _ K => ?_
 obtain ⟨v19, st19, ev19, rfl, q19⟩ := txContains_ev M.fresh (RdR.mem M hB (by simp)) s
 refine o1 K (Qn rfl ev19) rfl fun _ K => ?_
 replace M := M.quiet q19
 refine Qd ?_
 show W _ _ _ _ _ _ _
 refine Qr (K.opd rfl) (fun h19 => ?_) (fun h19 => ?_)
 ·have hb19 := h19
  refine Qh <| Qa <| o1 K (Qb rfl) rfl fun _ K => Qd ?_
  show W _ _ _ _ _ _ _
  refine Qs ?_
  refine ⟨.inr rfl, _, (Qm (Qp K rfl)), ?_⟩
  refine ⟨_, rfl, ?_, M.qt⟩
  rw [namesN_var (by simp_all), if_pos (by assumption)]
  exact ⟨[], .none, fun _ _ _ h => by cases h⟩
 have hb19 := h19
 refine Q3 ?_
 show W _ _ _ _ _ _ _
 refine Qh <| Qa <| o1 K (Qe Ja rfl) rfl fun _ K => o1 K (Qg rfl (M.load (k := 0) rfl (Qk Qx rfl))) rfl fun _ K => ?_
 refine wr_bs K M Jv ze_string rfl rfl rfl rfl rfl fun c22 _ _ K M => ?_
 refine o1 K (Qb rfl) rfl fun _ K => Qd ?_
 show W _ _ _ _ _ _ _
 refine Qs ?_
 refine ⟨.inr rfl, _, (Qm (Qp K rfl)), ?_⟩
 refine ⟨_, rfl, ?_, M.qt⟩
 rw [namesN_var (by simp_all), if_neg (by simp_all)]
 exact ⟨[(c22, 0, [.str s])], Acc.own (z := 1) (c := c22) (m := 0) (ls := [[.str s]]) ((M.own c22 0 [.str s] (by simp)).resolve_right (by simp)) (by simp) (by simp), fun c m l h => M.row c m l (by simp at h; simp [h])⟩
end Go.Proofs.YtmjnbdkjekdkgaaDoor
