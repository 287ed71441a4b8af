/-
  Numbers that a call is handed, by rows.
-/
import Derived.ChangeShapes
import Derived.ChangeOld
import Derived.Below
import Derived.Carry
import Derived.Test.YtiknomepbklibaaDoorQtSy2
import Derived.Test.YtiknomepbklibaaDoorQtTyg
import Derived.Test.YtiknomepbklibaaDoorProg
section
namespace Go.Proofs.YtiknomepbklibaaDoor
open Go Go.RowKit
set_option linter.unusedVariables false
set_option maxRecDepth 100000

/-- A row of things, each of its own cells. -/
structure RowsZ {K : Type} (h : Hp) (z : Nat) (R : K → List AV → Prop) (l : List K) (kk : AV) (ls : List (List AV)) : Prop where
  r : RdR h [] z ls kk
  ln : ls.length = l.length
  at_ : ∀ (i : Nat) (k : K), l[i]? = some k → ∃ cs, ls[i]? = some cs ∧ R k cs
theorem rd_rowsZ {K : Type} {h : Hp} {z : Nat} {R : K → List AV → Prop} {H : Type} {P : Program} {t e : TypeId} (k0 : K) (hu : P.underlying t = some (.slice e)) (hz : P.cellsOf e = z) (hR : ∀ (cs : List AV) (d : DataW H), Rd P h e cs d → ∃ k, R k cs) {xs : List AV} {d : DataW H} (r : Rd P h t xs d) :
  ∃ ks l ls, xs = [ks] ∧ RowsZ h z R l ks ls := by
 cases r with
 | bool ht => rw [hu] at ht; cases ht
 | int ht hw => rw [hu] at ht; cases ht
 | str ht hs => rw [hu] at ht; cases ht
 | nil ht => exact ⟨_, [], [], rfl, ⟨.nil _ _ _, rfl, fun i k hi => by simp at hi⟩⟩
 | none ht => exact ⟨_, [], [], rfl, ⟨⟨rfl, by simp, rfl, fun i cs hi => by simp at hi, fun _ _ _ _ _ e => by cases e⟩, rfl, fun i k hi => by simp at hi⟩⟩
 | row ht hz' hr hl he hm hd =>
  rename_i e' c m len cells elems rest
  rw [hu] at ht
  injection ht with ht
  injection ht with ht
  subst ht
  subst hz
  have hk : ∀ i, ∃ k, i < len → R k ((cells.drop (i * P.cellsOf e)).take (P.cellsOf e)) := fun i => by
   by_cases hi : i < len
   ·obtain ⟨k, hk⟩ := hR _ _ (hd i elems[i] (List.getElem?_eq_getElem (he ▸ hi)))
    exact ⟨k, fun _ => hk⟩
   ·exact ⟨k0, fun h => absurd h hi⟩
  obtain ⟨f, hf⟩ := Classical.axiomOfChoice hk
  have hmx : (len : Int) ≤ 9223372036854775807 := by
   have h1 : (maxLen : Int) ≤ 9223372036854775807 := by decide
   omega
  have hlen : ((List.range len).map fun i => (cells.drop (i * P.cellsOf e)).take (P.cellsOf e)).length = len := by simp
  have hfit : ∀ i, i < len → i * P.cellsOf e + P.cellsOf e ≤ cells.length := fun i hi => by
   have := Nat.mul_le_mul_right (P.cellsOf e) (show i + 1 ≤ len from hi)
   rw [Nat.succ_mul] at this
   omega
  refine ⟨_, (List.range len).map f, (List.range len).map fun i => (cells.drop (i * P.cellsOf e)).take (P.cellsOf e), rfl, ⟨⟨by rw [hlen]; rfl, by rw [hlen]; exact hmx, rfl, fun i cs hi => ?_, fun c' m' off' n' z' e' => ?_⟩, by simp, fun i k hi => ?_⟩⟩
  ·rw [List.getElem?_map] at hi
   have hlt : i < len := by
    by_cases hi' : i < len
    ·exact hi'
    ·rw [List.getElem?_eq_none (by simp; omega)] at hi; cases hi
   rw [List.getElem?_range hlt] at hi
   injection hi with hi
   refine ⟨c, m, 0, cells, by rw [hlen], by simp, hr, ?_, by rw [Nat.zero_add]; exact hi⟩
   rw [← hi, List.length_take, List.length_drop]
   have := hfit i hlt
   omega
  ·injection e' with e1 e2 e3 e4 e5
   subst e1 e2 e3 e4 e5
   exact ⟨by simp, cells, hr, by omega⟩
  ·rw [List.getElem?_map] at hi
   have hlt : i < len := by
    by_cases hi' : i < len
    ·exact hi'
    ·rw [List.getElem?_eq_none (by simp; omega)] at hi; cases hi
   rw [List.getElem?_range hlt] at hi
   injection hi with hi
   refine ⟨_, ?_, by rw [← hi]; exact hf i hlt⟩
   rw [List.getElem?_map, List.getElem?_range hlt]; rfl
 | agg ht hl hp hd => rw [hu] at ht; cases ht
/-- Numbers' cells. -/
def zC (l : List Int) : List (List AV) := l.map fun z => [AV.int .i64 z]
theorem zC_len (l : List Int) : (zC l).length = l.length := by simp [zC]
theorem zC_get {l : List Int} {i : Nat} {z : Int} (h : l[i]? = some z) : (zC l)[i]? = some [AV.int .i64 z] := by rw [zC, List.getElem?_map, h]; rfl
theorem zC_app (a b : List Int) : zC (a ++ b) = zC a ++ zC b := by simp [zC]
theorem zC_one (l : List Int) : ∀ cs ∈ zC l, cs.length = 1 := by
 intro cs h
 obtain ⟨s, _, rfl⟩ := List.mem_map.1 h
 rfl
def In64 (l : List Int) : Prop := ∀ z ∈ l, -9223372036854775808 ≤ z ∧ z ≤ 9223372036854775807
def IntR (z : Int) (cs : List AV) : Prop := cs = [.int .i64 z] ∧ -9223372036854775808 ≤ z ∧ z ≤ 9223372036854775807
theorem rows_zC {h : Hp} {l : List Int} {kk : AV} {ls : List (List AV)} (H : RowsZ h 1 IntR l kk ls) : RdR h [] 1 (zC l) kk ∧ In64 l := by
 have e : ls = zC l := by
  apply List.ext_getElem?
  intro i
  cases hi : l[i]? with
  | none =>
   have h1 := List.getElem?_eq_none_iff.1 hi
   rw [List.getElem?_eq_none (by rw [H.ln]; exact h1), List.getElem?_eq_none (by rw [zC_len]; exact h1)]
  | some z =>
   obtain ⟨cs, h1, h2, _⟩ := H.at_ i z hi
   rw [h1, zC_get hi, h2]
 refine ⟨e ▸ H.r, fun z hz => ?_⟩
 obtain ⟨i, hi, rfl⟩ := List.mem_iff_getElem.1 hz
 obtain ⟨cs, _, _, h3⟩ := H.at_ i _ (List.getElem?_eq_getElem hi)
 exact h3
theorem rd_intZ {H : Type} {h : Hp} {xs : List AV} {d : DataW H} (r : Rd Tryd.prog h 3 xs d) : ∃ z : Int, IntR z xs := by
 cases r with
 | bool ht => rw [un_int] at ht; cases ht
 | int ht hw =>
  rw [un_int] at ht
  injection ht with ht
  injection ht with ht
  subst ht
  simp only [Lit.wf, Bool.and_eq_true, decide_eq_true_eq] at hw
  refine ⟨_, rfl, ?_⟩
  first
   | exact hw
   | (have h1 : IntKind.i64.wrap _ = _ := hw; have := IntWalk.i64_bounds h1; exact this)
   | skip
 | str ht hs => rw [un_int] at ht; cases ht
 | nil ht => rw [un_int] at ht; cases ht
 | none ht => rw [un_int] at ht; cases ht
 | row ht hz' hr hl he hm hd => rw [un_int] at ht; cases ht
 | agg ht hl hp hd => rw [un_int] at ht; cases ht
theorem rd_intsZ {H : Type} {h : Hp} {xs : List AV} {d : DataW H} (r : Rd Tryd.prog h 42 xs d) : ∃ ks l, xs = [ks] ∧ RdR h [] 1 (zC l) ks ∧ In64 l := by
 obtain ⟨ks, l, ls, e, H⟩ := rd_rowsZ (R := IntR) 0 un_S_int ce_int (fun cs d r => rd_intZ r) r
 exact ⟨ks, l, e, rows_zC H⟩
theorem plain_ints : plainSet Tryd.prog [42, 3] = true := by kernel_rfl
theorem hand_intsZ {H : Type} {enc : TypeId × Value → H} {W : World} {ml : Mbs} (hM : GoodM W ml) {v : Value} {d : DataW H} {p : List MemPlace} (h : DataW.Trod enc Tryd.prog W 0 (fun _ => true) true 42 v d p) (hna : ∀ cs, v ≠ .agg cs) :
  ∃ ml' ks l, ml <+: ml' ∧ GoodM W ml' ∧ RdR (hpM ml') [] 1 (zC l) ks ∧ In64 l ∧ WF (hpM ml') ks ∧ conc (plM ml') ks = v := by
 obtain ⟨fuel, h⟩ := h
 obtain ⟨ml', cs, h1, h2, h3, h4, h5, h6⟩ := lift _ plain_ints fuel 42 _ d p ml (by simp) h hM
 obtain ⟨ks, l, rfl, hr, hi⟩ := rd_intsZ h6
 refine ⟨ml', ks, l, h1, h2, hr, hi, ?_, ?_⟩
 ·first | exact h4.1 | exact h4 | simpa [WF, WFL] using h4
 ·obtain ⟨e1, e2⟩ := conc_of_cells h3 h5
  obtain ⟨a, e, h⟩ := e2 hna
  injection e with e
  rw [e]; exact h
end Go.Proofs.YtiknomepbklibaaDoor
end
section
namespace Go.Proofs.YtiknomepbklibaaDoor
open Go
set_option maxRecDepth 100000

theorem tk_S_S_int : tk Tryd.prog 23 = .one := by kernel_rfl
theorem sz_S_S_int : sizeA Tryd.prog 23 = some 1 := by kernel_rfl
theorem ce_S_S_int : Tryd.prog.cellsOf 23 = 1 := by kernel_rfl
theorem un_S_S_int : Tryd.prog.underlying 23 = some (.slice 42) := by kernel_rfl
theorem el_S_S_int : elemOfA Tryd.prog 23 = some 1 := by kernel_rfl
theorem tk_P_pool_Pool : tk Tryd.prog 61 = .one := by kernel_rfl
theorem un_P_pool_Pool : Tryd.prog.underlying 61 = some (.pointer 77) := by kernel_rfl
theorem tk_M_string_int : tk Tryd.prog 75 = .one := by kernel_rfl
theorem ze_pool_Pool : zeroOf Tryd.prog 77 = some [.nils, .nilm] := by kernel_rfl
theorem fo_pool_Pool_0 : fieldOff Tryd.prog 77 0 = some 0 := by kernel_rfl
theorem fo_pool_Pool_1 : fieldOff Tryd.prog 77 1 = some 1 := by kernel_rfl
theorem st_pool_Pool : StT Tryd.prog 77 [(0, 1), (1, 1)] [.nils, .nilm] := ⟨⟨_, Tryd.underlying77, by kernel_rfl, by kernel_rfl⟩, ze_pool_Pool⟩
theorem sl_S_S_int : SlT Tryd.prog 23 42 1 := ⟨un_S_S_int, by kernel_rfl, ⟨_, ze_S_int, rfl⟩, by kernel_rfl, by decide, by decide +kernel⟩
theorem un_M_string_int : Tryd.prog.underlying 75 = some (.map 9 3) := by kernel_rfl
end Go.Proofs.YtiknomepbklibaaDoor
end
section
namespace Go.Proofs.YtiknomepbklibaaDoor
open Go
set_option linter.unusedVariables false

section
variable {P : Program} {G : Env} {K : List (Nat × AV)} {st : St} {t yt e : TypeId} {x y : Operand}
theorem os_eqPN {c m o : Nat} (ht : P.underlying t = some (.pointer e)) (hx : opK G K x = some (.ptr c m o)) (hy : opK G K y = some .nilp) : OpS P G K (.binOp .eql t x y yt) st (.bool false) st :=
 os_bin hx hy (by
  show need (eqFits (P.underlying t) (.ptr c m o)) (ob (eqNil (.ptr c m o) .nilp) fun b => some (AV.bool b)) = _
  rw [ht]; rfl)
theorem os_nePN {c m o : Nat} (ht : P.underlying t = some (.pointer e)) (hx : opK G K x = some (.ptr c m o)) (hy : opK G K y = some .nilp) : OpS P G K (.binOp .neq t x y yt) st (.bool true) st :=
 os_bin hx hy (by
  show need (eqFits (P.underlying t) (.ptr c m o)) (ob (eqNil (.ptr c m o) .nilp) fun b => some (AV.bool !b)) = _
  rw [ht]; rfl)
end
end Go.Proofs.YtiknomepbklibaaDoor
end
section
namespace Go.Proofs.YtiknomepbklibaaDoor
open Go
set_option linter.unusedVariables false

theorem ce_int1 : Program.cellsOf Tryd.prog 3 = 1 := by kernel_rfl
/-- Is a row nil? -/
def nilB : AV → Bool
  | .nils => true
  | _ => false
theorem os_eqNilA {P : Program} {G : Env} {K : List (Nat × AV)} {st : St} {t yt e : TypeId} {x y : Operand} {kb : AV} {n : Nat} (hn : slLen kb = some n) (ht : P.underlying t = some (.slice e)) (hx : opK G K x = some kb) (hy : opK G K y = some .nils) : OpS P G K (.binOp .eql t x y yt) st (.bool (nilB kb)) st :=
 os_bin hx hy (by
  cases kb <;> first | (cases hn; done) | skip
  all_goals
   show need (eqFits (P.underlying t) _) (ob (eqNil _ .nils) fun b => some (AV.bool b)) = _
   rw [ht]; rfl)
theorem nilB_eq {kb : AV} (h : nilB kb = true) : kb = .nils := by cases kb <;> first | rfl | cases h
end Go.Proofs.YtiknomepbklibaaDoor
end
