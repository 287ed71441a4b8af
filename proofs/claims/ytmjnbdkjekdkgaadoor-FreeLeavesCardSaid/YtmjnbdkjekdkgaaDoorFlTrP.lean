/-
  sibylref7.Add, Has: rows of texts in their order.
-/
import Derived.Test.YtmjnbdkjekdkgaaDoorFlTrM
namespace Go.Proofs.YtmjnbdkjekdkgaaDoor
open Go Go.RowKit
set_option linter.unusedVariables false
set_option linter.unusedSimpArgs false
set_option linter.unnecessarySimpa false
set_option maxRecDepth 100000
set_option maxHeartbeats 1000000

theorem os_ltS {P : Program} {G : Env} {K : List (Nat × AV)} {st : St} {t yt : TypeId} {x y : Operand} {a b : List Nat} (hx : opK G K x = some (.str a)) (hy : opK G K y = some (.str b)) : OpS P G K (.binOp .lss t x y yt) st (.bool (ltT a b)) st := os_bin hx hy rfl
/-- Put in its place, if it isn't there. -/
noncomputable def insN (x : List Nat) : List (List Nat) → List (List Nat)
  | [] => [x]
  | y :: l => if ltT y x then y :: insN x l else if y = x then y :: l else x :: y :: l
/-- A part of a row. -/
noncomputable def sliceV (kb : AV) (a b : Nat) : AV := match kb with
  | .sl c m off len z => bif' (bif' (Nat.beq a 0) true (Nat.ble (a + 1) len)) (.sl c m (off + a * z) (b - a) z) (.slz c m off a z)
  | _ => .nils
theorem os_sliceV {P : Program} {G : Env} {K : List (Nat × AV)} {st : St} {h : Hp} {t : TypeId} {x : Operand} {lo hi : Option Operand} {kb : AV} {nb : Bool} {X : List Nat} {l : List (List Nat)} {a b : Nat} (r : RdR h X 1 (txC l) kb) (hk : NilOr kb nb) (he : elemOfA P t = some 1) (hx : opK G K x = some kb) (hl : boundLo (opK G K) lo = some a) (hh : boundHi (opK G K) hi l.length = some b) (hab : a ≤ b) (hb : b ≤ l.length) :
  OpS P G K (.slice t x lo hi none) st (sliceV kb a b) st := by
 rcases hk with ⟨rfl, _⟩ | ⟨⟨c, m, off, n, rfl⟩, _⟩
 ·have hl0 := r.len
  rw [Qw] at hl0
  injection hl0 with hl0
  have h1 : l = [] := List.length_eq_zero_iff.1 hl0.symm
  subst h1
  have ha0 : a = 0 := by simp at hb; omega
  have hb0 : b = 0 := by simp at hb; omega
  subst ha0 hb0
  exact os_sliceN he hx hl hh
 ·have hn := r.len
  rw [Qw] at hn
  injection hn with hn
  subst hn
  exact os_sliceL he hx hl hh hab hb
theorem rd_sliceV {h : Hp} {kb : AV} {nb : Bool} {X : List Nat} {l : List (List Nat)} {a b : Nat} (r : RdR h X 1 (txC l) kb) (hk : NilOr kb nb) (hab : a ≤ b) (hb : b ≤ l.length) : RdR h X 1 (txC ((l.drop a).take (b - a))) (sliceV kb a b) := by
 rcases hk with ⟨rfl, _⟩ | ⟨⟨c, m, off, n, rfl⟩, _⟩
 ·have hl0 := r.len
  rw [Qw] at hl0
  injection hl0 with hl0
  have h1 : l = [] := List.length_eq_zero_iff.1 hl0.symm
  subst h1
  have ha0 : a = 0 := by simp at hb; omega
  have hb0 : b = 0 := by simp at hb; omega
  subst ha0 hb0
  exact .nil _ _ _
 ·have hn := r.len
  rw [Qw] at hn
  injection hn with hn
  subst hn
  obtain ⟨hcX, cells, hv, hfit⟩ := r.alive c m off _ 1 rfl
  show RdR h X 1 _ (bif' (bif' (Nat.beq a 0) true (Nat.ble (a + 1) l.length)) (.sl c m (off + a * 1) (b - a) 1) (.slz c m off a 1))
  have hln : (txC ((l.drop a).take (b - a))).length = b - a := by rw [Qw, List.length_take, List.length_drop]; omega
  have hbb := r.bnd
  rw [Qw] at hbb
  by_cases hc : a = 0 ∨ a < l.length
  ·have e : bif' (Nat.beq a 0) true (Nat.ble (a + 1) l.length) = true := by
    rcases hc with rfl | hc
    ·rfl
    ·rw [Nat.ble_eq_true_of_le hc]; cases Nat.beq a 0 <;> rfl
   rw [e]
   refine ⟨by rw [hln]; rfl, by rw [hln]; omega, rfl, fun i cs hi => ?_, fun c' m' off' n' z' e' => ?_⟩
   ·have hlt := (List.getElem?_eq_some_iff.1 hi).1
    rw [hln] at hlt
    have hi2 : (txC l)[a + i]? = some cs := by
     rw [← hi, txC, txC, List.getElem?_map, List.getElem?_map, List.getElem?_take_of_lt hlt, List.getElem?_drop]
    obtain ⟨c2, m2, off2, cells2, e1, e2, e3, e4, e5⟩ := r.at_ _ _ hi2
    injection e1 with x1 x2 x3 x4 x5
    subst x1 x2 x3
    exact ⟨c, m, off + a * 1, cells2, by rw [hln]; rfl, e2, e3, e4, by rw [← e5]; congr 2; omega⟩
   ·injection e' with x1 x2 x3 x4 x5
    subst x1 x2 x3 x4
    exact ⟨hcX, cells, hv, by omega⟩
  ·have e : bif' (Nat.beq a 0) true (Nat.ble (a + 1) l.length) = false := by
    have h1 : Nat.beq a 0 = false := by cases h : Nat.beq a 0 with
     | false => rfl
     | true => exact absurd (Nat.eq_of_beq_eq_true h) (by omega)
    have h2 : Nat.ble (a + 1) l.length = false := by cases h : Nat.ble (a + 1) l.length with
     | false => rfl
     | true => exact absurd (Nat.le_of_ble_eq_true h) (by omega)
    rw [h1, h2]; rfl
   rw [e]
   have h0 : (l.drop a).take (b - a) = [] := by rw [show b - a = 0 by omega]; rfl
   rw [h0]
   exact ⟨rfl, by simp [txC], rfl, fun i cs hi => by simp [txC] at hi, fun _ _ _ _ _ e' => by cases e'⟩

theorem insN_step {x y : List Nat} {l : List (List Nat)} {i : Nat} (h : l[i]? = some y) : insN x (l.drop i) = if ltT y x then y :: insN x (l.drop (i + 1)) else if y = x then y :: l.drop (i + 1) else x :: y :: l.drop (i + 1) := by
 obtain ⟨h1, h2⟩ := List.getElem?_eq_some_iff.1 h
 rw [List.drop_eq_getElem_cons h1, insN, h2]
theorem ins_at {x y : List Nat} {l : List (List Nat)} {i : Nat} (h : l[i]? = some y) (h1 : ltT y x = false) (h2 : ¬ y = x) : insN x (l.drop i) = x :: l.drop i := by
 obtain ⟨h3, h4⟩ := List.getElem?_eq_some_iff.1 h
 rw [insN_step h, h1, if_neg (by decide), if_neg h2, List.drop_eq_getElem_cons h3, h4]
theorem ins_same {x : List Nat} {l : List (List Nat)} {i : Nat} (h : l[i]? = some x) (h1 : ltT x x = false) : l.take i ++ insN x (l.drop i) = l := by
 obtain ⟨h3, h4⟩ := List.getElem?_eq_some_iff.1 h
 rw [insN_step h, h1, if_neg (by decide), if_pos rfl]
 conv => rhs; rw [← List.take_append_drop i l, List.drop_eq_getElem_cons h3, h4]
theorem take_step {α : Type} {l : List α} {i : Nat} {y : α} (h : l[i]? = some y) : l.take (i + 1) = l.take i ++ [y] := by
 rw [List.take_add_one, h]; rfl

theorem txAdd_ev {st : St} (hf : Fresh st) {bl : List (List Nat)} {kb : AV} (hB : RdR st.h.get [] 1 (txC bl) kb) (x : List Nat) {nb : Bool} (hk : NilOr kb nb) (hl : bl.length < 1000000) : ∃ v st', Ev Tryd.prog envD 27 [kb, .str x] st v st' ∧ ∃ ks, v = ks ∧ (NewR st st' 1 ks (txC (insN x bl)) ∨ (ks = kb ∧ insN x bl = bl)) ∧ Qt st st' := by
 have hbn : (bl.length : Int) ≤ 9223372036854775807 := by have := hB.bnd; rw [Qw] at this; exact this
 refine J8 rfl Tryd.func27 rfl Tryd.ntmps27 rfl (by decide) (by simp) fun T hT => ?_
 have K : KnT [(0, _), (1, _)] T := (.cons (hT 0) (.cons (hT 1) .nil))
 have M := Mem.start hf
 refine Qg <| Qa <| o1 K (Qb rfl) rfl fun _ K => Qd ?_
 show W _ _ _ _ _ _ _
 refine Qg <| Qa <| o1 K (Qb rfl) rfl fun _ K => Qd ?_
 show W _ _ _ _ _ _ _
 refine Qg <| Q6 ?_
 refine w_loop (fun mm1 T st9 => ∃ (i : Nat), mm1 = bl.length - i ∧ KnT [(0, kb), (1, .str x), (4, .nils), (5, .int .i64 (((i : Nat) : Int)))] T ∧ Mem st.h.get st.n [] st9 [] ∧ i ≤ bl.length ∧ insN x bl = bl.take i ++ insN x (bl.drop i)) (fun mm1 T st9 hI => ?_) _ _ _ ⟨0, rfl, (.cons (K _ _ rfl) (.cons (K _ _ rfl) (.cons (K _ _ rfl) (.cons (K _ _ rfl) .nil)))), M.less (.refl _), (Nat.zero_le _), (by simp)⟩
 obtain ⟨i, rfl, K, M, hi, hx⟩ := hI
 refine Qg <| Qg <| Qa <| o1 K (Qc rfl) rfl fun _ K => o1 K (Qc rfl) rfl fun _ K => o1 K (Jm Jv rfl rfl (hB.len.trans (congrArg some (Qw _)))) rfl fun _ K => o1 K (os_lss rfl rfl) rfl fun _ K => ?_
 refine oB K (Qc rfl) rfl fun b10 _ e10 K => ?_
 cases b10
 ·replace e10 := of_decide_eq_false e10
  refine gn K rfl rfl rfl rfl fun _ K => gn K rfl rfl rfl rfl fun _ K => gn K rfl rfl rfl rfl fun _ K => gn K rfl rfl rfl rfl fun _ K => gn K rfl rfl rfl rfl fun _ K => gn K rfl rfl rfl rfl fun _ K => o1 K (Qj rfl rfl rfl) rfl fun _ K => Qd ?_
  show W _ _ _ _ _ _ _
  refine Qq (t := false) (K.opd rfl) (fun h => by cases h) (fun _ => ?_)
  refine J6 ?_
  show W _ _ _ _ _ _ _
  refine Qg <| Qg <| Qa <| o1 K (Qc rfl) rfl fun _ K => o1 K (Qc rfl) rfl fun _ K => o1 K (Jm Jv rfl rfl (hB.len.trans (congrArg some (Qw _)))) rfl fun _ K => o1 K (os_lss rfl rfl) rfl fun _ K => ?_
  refine oB K (Qc rfl) rfl fun b24 _ e24 K => ?_
  cases b24
  · replace e24 := of_decide_eq_false e24
    refine gn K rfl rfl rfl rfl fun _ K => gn K rfl rfl rfl rfl fun _ K => gn K rfl rfl rfl rfl fun _ K => gn K rfl rfl rfl rfl fun _ K => gn K rfl rfl rfl rfl fun _ K => gn K rfl rfl rfl rfl fun _ K => o1 K (Qj rfl rfl rfl) rfl fun _ K => Qd ?_
    show W _ _ _ _ _ _ _
    refine Qq (t := false) (K.opd rfl) (fun h => by cases h) (fun _ => ?_)
    refine Qz ?_
    show W _ _ _ _ _ _ _
    refine Qg ?_
    refine w_drawI (l := [(0, 0), (1, 0), (2, 0), (3, 0), (4, 0), (5, 0), (6, 0), (7, 0), (8, 0), (9, 0), (10, 0), (11, 0), (12, 0)]) (by kernel_rfl) ?_
    refine wd_bs rfl K M Q5 J9 rfl rfl rfl rfl rfl fun c33 _ _ K M => ?_
    refine d1 rfl K (Qc rfl) rfl rfl fun _ K => d1 rfl K (Qc rfl) rfl rfl fun _ K => d1 rfl K (os_sliceV (a := 0) (b := i) hB hk Ja rfl rfl rfl (by omega) (by omega)) rfl rfl fun _ K => ?_
    replace M := Mem.cast (M' := ([(c33, 0, [])] ++ [])) (Mem.perm M (List.perm_append_comm (l₁ := [(c33, 0, [])]))) (by simp only [List.append_assoc, List.cons_append, List.nil_append, List.append_nil, List.set_cons_zero, List.set_cons_succ])
    have hA0c33 : Acc st.n 1 [(c33, 0, [])] (.sl c33 0 0 0 1) [] := Acc.own (n0 := st.n) (z := 1) (c := c33) (m := 0) (ls := []) ((M.own c33 0 [] (by simp)).resolve_right (by simp)) (by simp) (by simp)
    refine wd_accS (L := []) (A := [(c33, 0, [])]) (B := []) rfl K M hA0c33 Q5 rfl rfl (RdR.mem M (rd_sliceV hB hk (a := 0) (b := i) (by omega) (by omega)) (by simp)) (txC_one _) (by first | omega | (simp only [List.length_append, Qw, List.length_take, List.length_drop, List.length_cons, List.length_nil]; omega)) rfl fun ks37 A37 _ _ K hA37 M => ?_
    refine d1 rfl K (Qc rfl) rfl rfl fun _ K => ?_
    refine wd_bs rfl K M Q5 J9 rfl rfl rfl rfl rfl fun c39 _ _ K M => ?_
    refine wd_acc1 (k2 := 0) (L := [(c39, 0, [.str x])]) (A := A37) (B := []) rfl K M hA37 Q5 rfl rfl rfl rfl (by first | omega | (simp only [List.length_append, Qw, List.length_take, List.length_drop, List.length_cons, List.length_nil]; omega)) rfl fun ks40 A40 _ _ K hA40 M => ?_
    refine d1 rfl K (Qc rfl) rfl rfl fun _ K => d1 rfl K (Qc rfl) rfl rfl fun _ K => d1 rfl K (os_sliceV (a := i) (b := bl.length) hB hk Ja rfl rfl rfl (by omega) (by omega)) rfl rfl fun _ K => ?_
    refine wd_accS (L := [(c39, 0, [.str x])]) (A := A40) (B := []) rfl K M hA40 Q5 rfl rfl (RdR.mem M (rd_sliceV hB hk (a := i) (b := bl.length) (by omega) (by omega)) (by simp)) (txC_one _) (by first | omega | (simp only [List.length_append, Qw, List.length_take, List.length_drop, List.length_cons, List.length_nil]; omega)) rfl fun ks44 A44 _ _ K hA44 M => ?_
    refine d1 rfl K (Qb rfl) rfl rfl fun _ K => wd_nil ?_
    show W _ _ _ _ _ _ _
    refine Qv ?_
    refine ⟨.inr rfl, _, (Qm (Qp K rfl)), ?_⟩
    refine ⟨_, rfl, .inl ?_, M.qt⟩
    have hins : insN x bl = bl.take i ++ x :: bl.drop i := by
      rw [hx]
      first
       | (rw [Jf (by omega)]; rfl)
       | (exfalso; omega)
       | (congr 1; exact ins_at hi13 (by simp_all) (by simp_all))
    have ht : (bl.drop i).take (bl.length - i) = bl.drop i := List.take_of_length_le (by rw [List.length_drop]; exact Nat.le_refl _)
    have hls : txC (insN x bl) = ((([] ++ (txC ((bl.drop 0).take (i - 0)))) ++ [[.str x]]) ++ (txC ((bl.drop i).take (bl.length - i)))) := by rw [hins, ht]; simp [txC]
    rw [hls]
    exact Mem.newR (L := [(c39, 0, [.str x])]) (A := A44) (B := []) M hA44
  replace e24 := of_decide_eq_true e24
  refine og K rfl rfl (Qc rfl) rfl fun _ K => og K rfl rfl (Qc rfl) rfl fun _ K => ?_
  obtain ⟨y27, hi27⟩ : ∃ x, bl[i]? = some x := ⟨_, List.getElem?_eq_getElem (by omega)⟩
  obtain ⟨x27, m27, f27, q27, _, la27, lo27, lp27⟩ := (RdR.mem M hB (by simp)).load (i := i) (cs := _) (txC_get hi27)
  refine og K rfl rfl (Qu (j := i) Ja (congrArg some q27) rfl (by rw [Qw]; omega)) rfl fun _ K => og K rfl rfl (Qh rfl (lo27 _ 0 _ Qr rfl)) rfl fun _ K => og K rfl rfl (Qc rfl) rfl fun _ K => og K rfl rfl (Jq rfl rfl) rfl fun _ K => o1 K (Qj rfl rfl rfl) rfl fun _ K => Qd ?_
  show W _ _ _ _ _ _ _
  refine Qq (K.opd rfl) (fun h31 => ?_) (fun h31 => ?_)
  · have hb31 := h31
    replace h31 := of_decide_eq_true h31
    refine Qg <| Qa <| o1 K (Qc rfl) rfl fun _ K => o1 K (Qb rfl) rfl fun _ K => Qd ?_
    show W _ _ _ _ _ _ _
    refine Qv ?_
    refine ⟨.inr rfl, _, (Qm (Qp K rfl)), ?_⟩
    first
     | (exfalso; omega)
     | (refine ⟨_, rfl, .inr ⟨rfl, ?_⟩, M.qt⟩; have e := hi13.symm.trans hi27; injection e with e; subst e; subst h31; rw [hx]; exact ins_same hi27 h17)
  have hb31 := h31
  replace h31 := of_decide_eq_false h31
  refine Qz ?_
  show W _ _ _ _ _ _ _
  refine Qg ?_
  refine w_drawI (l := [(0, 0), (1, 0), (2, 0), (3, 0), (4, 0), (5, 0), (6, 0), (7, 0), (8, 0), (9, 0), (10, 0), (11, 0), (12, 0)]) (by kernel_rfl) ?_
  refine wd_bs rfl K M Q5 J9 rfl rfl rfl rfl rfl fun c33 _ _ K M => ?_
  refine d1 rfl K (Qc rfl) rfl rfl fun _ K => d1 rfl K (Qc rfl) rfl rfl fun _ K => d1 rfl K (os_sliceV (a := 0) (b := i) hB hk Ja rfl rfl rfl (by omega) (by omega)) rfl rfl fun _ K => ?_
  replace M := Mem.cast (M' := ([(c33, 0, [])] ++ [])) (Mem.perm M (List.perm_append_comm (l₁ := [(c33, 0, [])]))) (by simp only [List.append_assoc, List.cons_append, List.nil_append, List.append_nil, List.set_cons_zero, List.set_cons_succ])
  have hA0c33 : Acc st.n 1 [(c33, 0, [])] (.sl c33 0 0 0 1) [] := Acc.own (n0 := st.n) (z := 1) (c := c33) (m := 0) (ls := []) ((M.own c33 0 [] (by simp)).resolve_right (by simp)) (by simp) (by simp)
  refine wd_accS (L := []) (A := [(c33, 0, [])]) (B := []) rfl K M hA0c33 Q5 rfl rfl (RdR.mem M (rd_sliceV hB hk (a := 0) (b := i) (by omega) (by omega)) (by simp)) (txC_one _) (by first | omega | (simp only [List.length_append, Qw, List.length_take, List.length_drop, List.length_cons, List.length_nil]; omega)) rfl fun ks37 A37 _ _ K hA37 M => ?_
  refine d1 rfl K (Qc rfl) rfl rfl fun _ K => ?_
  refine wd_bs rfl K M Q5 J9 rfl rfl rfl rfl rfl fun c39 _ _ K M => ?_
  refine wd_acc1 (k2 := 0) (L := [(c39, 0, [.str x])]) (A := A37) (B := []) rfl K M hA37 Q5 rfl rfl rfl rfl (by first | omega | (simp only [List.length_append, Qw, List.length_take, List.length_drop, List.length_cons, List.length_nil]; omega)) rfl fun ks40 A40 _ _ K hA40 M => ?_
  refine d1 rfl K (Qc rfl) rfl rfl fun _ K => d1 rfl K (Qc rfl) rfl rfl fun _ K => d1 rfl K (os_sliceV (a := i) (b := bl.length) hB hk Ja rfl rfl rfl (by omega) (by omega)) rfl rfl fun _ K => ?_
  refine wd_accS (L := [(c39, 0, [.str x])]) (A := A40) (B := []) rfl K M hA40 Q5 rfl rfl (RdR.mem M (rd_sliceV hB hk (a := i) (b := bl.length) (by omega) (by omega)) (by simp)) (txC_one _) (by first | omega | (simp only [List.length_append, Qw, List.length_take, List.length_drop, List.length_cons, List.length_nil]; omega)) rfl fun ks44 A44 _ _ K hA44 M => ?_
  refine d1 rfl K (Qb rfl) rfl rfl fun _ K => wd_nil ?_
  show W _ _ _ _ _ _ _
  refine Qv ?_
  refine ⟨.inr rfl, _, (Qm (Qp K rfl)), ?_⟩
  refine ⟨_, rfl, .inl ?_, M.qt⟩
  have hins : insN x bl = bl.take i ++ x :: bl.drop i := by
    rw [hx]
    first
     | (rw [Jf (by omega)]; rfl)
     | (exfalso; omega)
     | (congr 1; exact ins_at hi13 (by simp_all) (by simp_all))
  have ht : (bl.drop i).take (bl.length - i) = bl.drop i := List.take_of_length_le (by rw [List.length_drop]; exact Nat.le_refl _)
  have hls : txC (insN x bl) = ((([] ++ (txC ((bl.drop 0).take (i - 0)))) ++ [[.str x]]) ++ (txC ((bl.drop i).take (bl.length - i)))) := by rw [hins, ht]; simp [txC]
  rw [hls]
  exact Mem.newR (L := [(c39, 0, [.str x])]) (A := A44) (B := []) M hA44
 replace e10 := of_decide_eq_true e10
 refine og K rfl rfl (Qc rfl) rfl fun _ K => og K rfl rfl (Qc rfl) rfl fun _ K => ?_
 obtain ⟨y13, hi13⟩ : ∃ x, bl[i]? = some x := ⟨_, List.getElem?_eq_getElem (by omega)⟩
 obtain ⟨x13, m13, f13, q13, _, la13, lo13, lp13⟩ := (RdR.mem M hB (by simp)).load (i := i) (cs := _) (txC_get hi13)
 refine og K rfl rfl (Qu (j := i) Ja (congrArg some q13) rfl (by rw [Qw]; omega)) rfl fun _ K => og K rfl rfl (Qh rfl (lo13 _ 0 _ Qr rfl)) rfl fun _ K => og K rfl rfl (Qc rfl) rfl fun _ K => og K rfl rfl (os_ltS rfl rfl) rfl fun _ K => o1 K (Qj rfl rfl rfl) rfl fun _ K => Qd ?_
 show W _ _ _ _ _ _ _
 refine Qq (K.opd rfl) (fun h17 => ?_) (fun h17 => ?_)
 ·have hb17 := h17
  refine Qz ?_
  show W _ _ _ _ _ _ _
  refine Q6 <| Qa <| o1 K (Qc rfl) rfl fun _ K => o1 K (Jj rfl rfl (by omega) (by omega)) rfl fun _ K => o1 K (Qb rfl) rfl fun _ K => Qd ?_
  exact ⟨_, (by omega), i + 1, rfl, (.cons (K _ _ rfl) (.cons (K _ _ rfl) (.cons (K _ _ rfl) (.cons (K _ _ rfl) .nil)))), M.less (.refl _), (by omega), (by rw [hx, insN_step hi13, take_step hi13]; simp_all)⟩
 have hb17 := h17
 refine J6 ?_
 show W _ _ _ _ _ _ _
 refine Qg <| Qg <| Qa <| o1 K (Qc rfl) rfl fun _ K => o1 K (Qc rfl) rfl fun _ K => o1 K (Jm Jv rfl rfl (hB.len.trans (congrArg some (Qw _)))) rfl fun _ K => o1 K (os_lss rfl rfl) rfl fun _ K => ?_
 refine oB K (Qc rfl) rfl fun b24 _ e24 K => ?_
 cases b24
 ·replace e24 := of_decide_eq_false e24
  refine gn K rfl rfl rfl rfl fun _ K => gn K rfl rfl rfl rfl fun _ K => gn K rfl rfl rfl rfl fun _ K => gn K rfl rfl rfl rfl fun _ K => gn K rfl rfl rfl rfl fun _ K => gn K rfl rfl rfl rfl fun _ K => o1 K (Qj rfl rfl rfl) rfl fun _ K => Qd ?_
  show W _ _ _ _ _ _ _
  refine Qq (t := false) (K.opd rfl) (fun h => by cases h) (fun _ => ?_)
  refine Qz ?_
  show W _ _ _ _ _ _ _
  refine Qg ?_
  refine w_drawI (l := [(0, 0), (1, 0), (2, 0), (3, 0), (4, 0), (5, 0), (6, 0), (7, 0), (8, 0), (9, 0), (10, 0), (11, 0), (12, 0)]) (by kernel_rfl) ?_
  refine wd_bs rfl K M Q5 J9 rfl rfl rfl rfl rfl fun c33 _ _ K M => ?_
  refine d1 rfl K (Qc rfl) rfl rfl fun _ K => d1 rfl K (Qc rfl) rfl rfl fun _ K => d1 rfl K (os_sliceV (a := 0) (b := i) hB hk Ja rfl rfl rfl (by omega) (by omega)) rfl rfl fun _ K => ?_
  replace M := Mem.cast (M' := ([(c33, 0, [])] ++ [])) (Mem.perm M (List.perm_append_comm (l₁ := [(c33, 0, [])]))) (by simp only [List.append_assoc, List.cons_append, List.nil_append, List.append_nil, List.set_cons_zero, List.set_cons_succ])
  have hA0c33 : Acc st.n 1 [(c33, 0, [])] (.sl c33 0 0 0 1) [] := Acc.own (n0 := st.n) (z := 1) (c := c33) (m := 0) (ls := []) ((M.own c33 0 [] (by simp)).resolve_right (by simp)) (by simp) (by simp)
  refine wd_accS (L := []) (A := [(c33, 0, [])]) (B := []) rfl K M hA0c33 Q5 rfl rfl (RdR.mem M (rd_sliceV hB hk (a := 0) (b := i) (by omega) (by omega)) (by simp)) (txC_one _) (by first | omega | (simp only [List.length_append, Qw, List.length_take, List.length_drop, List.length_cons, List.length_nil]; omega)) rfl fun ks37 A37 _ _ K hA37 M => ?_
  refine d1 rfl K (Qc rfl) rfl rfl fun _ K => ?_
  refine wd_bs rfl K M Q5 J9 rfl rfl rfl rfl rfl fun c39 _ _ K M => ?_
  refine wd_acc1 (k2 := 0) (L := [(c39, 0, [.str x])]) (A := A37) (B := []) rfl K M hA37 Q5 rfl rfl rfl rfl (by first | omega | (simp only [List.length_append, Qw, List.length_take, List.length_drop, List.length_cons, List.length_nil]; omega)) rfl fun ks40 A40 _ _ K hA40 M => ?_
  refine d1 rfl K (Qc rfl) rfl rfl fun _ K => d1 rfl K (Qc rfl) rfl rfl fun _ K => d1 rfl K (os_sliceV (a := i) (b := bl.length) hB hk Ja rfl rfl rfl (by omega) (by omega)) rfl rfl fun _ K => ?_
  refine wd_accS (L := [(c39, 0, [.str x])]) (A := A40) (B := []) rfl K M hA40 Q5 rfl rfl (RdR.mem M (rd_sliceV hB hk (a := i) (b := bl.length) (by omega) (by omega)) (by simp)) (txC_one _) (by first | omega | (simp only [List.length_append, Qw, List.length_take, List.length_drop, List.length_cons, List.length_nil]; omega)) rfl fun ks44 A44 _ _ K hA44 M => ?_
  refine d1 rfl K (Qb rfl) rfl rfl fun _ K => wd_nil ?_
  show W _ _ _ _ _ _ _
  refine Qv ?_
  refine ⟨.inr rfl, _, (Qm (Qp K rfl)), ?_⟩
  refine ⟨_, rfl, .inl ?_, M.qt⟩
  have hins : insN x bl = bl.take i ++ x :: bl.drop i := by
    rw [hx]
    first
     | (rw [Jf (by omega)]; rfl)
     | (exfalso; omega)
     | (congr 1; exact ins_at hi13 (by simp_all) (by simp_all))
  have ht : (bl.drop i).take (bl.length - i) = bl.drop i := List.take_of_length_le (by rw [List.length_drop]; exact Nat.le_refl _)
  have hls : txC (insN x bl) = ((([] ++ (txC ((bl.drop 0).take (i - 0)))) ++ [[.str x]]) ++ (txC ((bl.drop i).take (bl.length - i)))) := by rw [hins, ht]; simp [txC]
  rw [hls]
  exact Mem.newR (L := [(c39, 0, [.str x])]) (A := A44) (B := []) M hA44
 replace e24 := of_decide_eq_true e24
 refine og K rfl rfl (Qc rfl) rfl fun _ K => og K rfl rfl (Qc rfl) rfl fun _ K => ?_
 obtain ⟨y27, hi27⟩ : ∃ x, bl[i]? = some x := ⟨_, List.getElem?_eq_getElem (by omega)⟩
 obtain ⟨x27, m27, f27, q27, _, la27, lo27, lp27⟩ := (RdR.mem M hB (by simp)).load (i := i) (cs := _) (txC_get hi27)
 refine og K rfl rfl (Qu (j := i) Ja (congrArg some q27) rfl (by rw [Qw]; omega)) rfl fun _ K => og K rfl rfl (Qh rfl (lo27 _ 0 _ Qr rfl)) rfl fun _ K => og K rfl rfl (Qc rfl) rfl fun _ K => og K rfl rfl (Jq rfl rfl) rfl fun _ K => o1 K (Qj rfl rfl rfl) rfl fun _ K => Qd ?_
 show W _ _ _ _ _ _ _
 refine Qq (K.opd rfl) (fun h31 => ?_) (fun h31 => ?_)
 ·have hb31 := h31
  replace h31 := of_decide_eq_true h31
  refine Qg <| Qa <| o1 K (Qc rfl) rfl fun _ K => o1 K (Qb rfl) rfl fun _ K => Qd ?_
  show W _ _ _ _ _ _ _
  refine Qv ?_
  refine ⟨.inr rfl, _, (Qm (Qp K rfl)), ?_⟩
  first
   | (exfalso; omega)
   | (refine ⟨_, rfl, .inr ⟨rfl, ?_⟩, M.qt⟩; have e := hi13.symm.trans hi27; injection e with e; subst e; subst h31; rw [hx]; exact ins_same hi27 h17)
 have hb31 := h31
 replace h31 := of_decide_eq_false h31
 refine Qz ?_
 show W _ _ _ _ _ _ _
 refine Qg ?_
 refine w_drawI (l := [(0, 0), (1, 0), (2, 0), (3, 0), (4, 0), (5, 0), (6, 0), (7, 0), (8, 0), (9, 0), (10, 0), (11, 0), (12, 0)]) (by kernel_rfl) ?_
 refine wd_bs rfl K M Q5 J9 rfl rfl rfl rfl rfl fun c33 _ _ K M => ?_
 refine d1 rfl K (Qc rfl) rfl rfl fun _ K => d1 rfl K (Qc rfl) rfl rfl fun _ K => d1 rfl K (os_sliceV (a := 0) (b := i) hB hk Ja rfl rfl rfl (by omega) (by omega)) rfl rfl fun _ K => ?_
 replace M := Mem.cast (M' := ([(c33, 0, [])] ++ [])) (Mem.perm M (List.perm_append_comm (l₁ := [(c33, 0, [])]))) (by simp only [List.append_assoc, List.cons_append, List.nil_append, List.append_nil, List.set_cons_zero, List.set_cons_succ])
 have hA0c33 : Acc st.n 1 [(c33, 0, [])] (.sl c33 0 0 0 1) [] := Acc.own (n0 := st.n) (z := 1) (c := c33) (m := 0) (ls := []) ((M.own c33 0 [] (by simp)).resolve_right (by simp)) (by simp) (by simp)
 refine wd_accS (L := []) (A := [(c33, 0, [])]) (B := []) rfl K M hA0c33 Q5 rfl rfl (RdR.mem M (rd_sliceV hB hk (a := 0) (b := i) (by omega) (by omega)) (by simp)) (txC_one _) (by first | omega | (simp only [List.length_append, Qw, List.length_take, List.length_drop, List.length_cons, List.length_nil]; omega)) rfl fun ks37 A37 _ _ K hA37 M => ?_
 refine d1 rfl K (Qc rfl) rfl rfl fun _ K => ?_
 refine wd_bs rfl K M Q5 J9 rfl rfl rfl rfl rfl fun c39 _ _ K M => ?_
 refine wd_acc1 (k2 := 0) (L := [(c39, 0, [.str x])]) (A := A37) (B := []) rfl K M hA37 Q5 rfl rfl rfl rfl (by first | omega | (simp only [List.length_append, Qw, List.length_take, List.length_drop, List.length_cons, List.length_nil]; omega)) rfl fun ks40 A40 _ _ K hA40 M => ?_
 refine d1 rfl K (Qc rfl) rfl rfl fun _ K => d1 rfl K (Qc rfl) rfl rfl fun _ K => d1 rfl K (os_sliceV (a := i) (b := bl.length) hB hk Ja rfl rfl rfl (by omega) (by omega)) rfl rfl fun _ K => ?_
 refine wd_accS (L := [(c39, 0, [.str x])]) (A := A40) (B := []) rfl K M hA40 Q5 rfl rfl (RdR.mem M (rd_sliceV hB hk (a := i) (b := bl.length) (by omega) (by omega)) (by simp)) (txC_one _) (by first | omega | (simp only [List.length_append, Qw, List.length_take, List.length_drop, List.length_cons, List.length_nil]; omega)) rfl fun ks44 A44 _ _ K hA44 M => ?_
 refine d1 rfl K (Qb rfl) rfl rfl fun _ K => wd_nil ?_
 show W _ _ _ _ _ _ _
 refine Qv ?_
 refine ⟨.inr rfl, _, (Qm (Qp K rfl)), ?_⟩
 refine ⟨_, rfl, .inl ?_, M.qt⟩
 have hins : insN x bl = bl.take i ++ x :: bl.drop i := by
  rw [hx]
  first
   | (rw [Jf (by omega)]; rfl)
   | (exfalso; omega)
   | (congr 1; exact ins_at hi13 (by simp_all) (by simp_all))
 have ht : (bl.drop i).take (bl.length - i) = bl.drop i := List.take_of_length_le (by rw [List.length_drop]; exact Nat.le_refl _)
 have hls : txC (insN x bl) = ((([] ++ (txC ((bl.drop 0).take (i - 0)))) ++ [[.str x]]) ++ (txC ((bl.drop i).take (bl.length - i)))) := by rw [hins, ht]; simp [txC]
 rw [hls]
 exact Mem.newR (L := [(c39, 0, [.str x])]) (A := A44) (B := []) M hA44
end Go.Proofs.YtmjnbdkjekdkgaaDoor
