/-
  What the reckoner knows of pools: a set's text, numbers each once.
-/
import Derived.Test.YtiknomepbklibaaDoorQtEnv
import Derived.Test.YtiknomepbklibaaDoorQtEv4
import Derived.Test.YtiknomepbklibaaDoorQtSortI
import Derived.Test.YtiknomepbklibaaDoorQtPkey
import Derived.Test.YtiknomepbklibaaDoorProg
import Derived.Test.YtiknomepbklibaaDoorQtSy2
section
namespace Go.Proofs.YtiknomepbklibaaDoor
open Go Go.RowKit Go.Shelf Go.Sort
set_option linter.unusedVariables false

/-! Numbers as texts, by a count of digits that the kernel can follow. -/
noncomputable def digF : Nat → Nat → List Nat → List Nat
 | 0, _, acc => acc
 | f + 1, u, acc => bif' (Nat.ble u 9) ((48 + u) :: acc) (digF f (u / 10) ((48 + u % 10) :: acc))
noncomputable def itoaF : Int → List Nat
 | .ofNat u => digF 20 u []
 | .negSucc u => 45 :: digF 20 (u + 1) []
noncomputable def keyF : List Int → List Nat
 | [] => []
 | n :: l => itoaF n ++ 44 :: keyF l
theorem digF_dec : ∀ (f u : Nat) (acc : List Nat), u < 10 ^ (f + 1) → digF (f + 1) u acc = (Lib.decDigits u).map UInt8.toNat ++ acc := by
 intro f
 induction f with
 | zero =>
  intro u acc h
  have h9 : u < 10 := by simpa using h
  rw [digF, Lib.decDigits, dif_pos h9, Nat.ble_eq_true_of_le (by omega), bif_true, List.map_singleton, dig_nat u h9]; rfl
 | succ f ih =>
  intro u acc h
  rw [digF, Lib.decDigits]
  by_cases h9 : u < 10
  ·rw [dif_pos h9, Nat.ble_eq_true_of_le (by omega), bif_true, List.map_singleton, dig_nat u h9]; rfl
  ·have hb : Nat.ble u 9 = false := by
    cases hb : Nat.ble u 9 with
    | false => rfl
    | true => have := Nat.le_of_ble_eq_true hb; omega
   rw [dif_neg h9, hb, bif_false, ih (u / 10) _ (by rw [Nat.pow_succ] at h; omega), List.map_append, List.map_singleton, dig_nat _ (Nat.mod_lt _ (by decide)), List.append_assoc]; rfl
theorem itoaF_eq {z : Int} (h1 : -9223372036854775808 ≤ z) (h2 : z ≤ 9223372036854775807) : itoaF z = itoaN z := by
 have hp : (10 : Nat) ^ 20 = 100000000000000000000 := by decide
 cases z with
 | ofNat u =>
  have h2 : (u : Int) ≤ 9223372036854775807 := h2
  show digF 20 u [] = (Lib.itoa (u : Int)).map UInt8.toNat
  rw [digF_dec 19 u [] (by rw [hp]; omega), List.append_nil, Lib.itoa, if_neg (by omega)]; rfl
 | negSucc u =>
  have h1 : -9223372036854775808 ≤ Int.negSucc u := h1
  show 45 :: digF 20 (u + 1) [] = (Lib.itoa (Int.negSucc u)).map UInt8.toNat
  rw [digF_dec 19 (u + 1) [] (by rw [hp]; omega), List.append_nil, Lib.itoa, if_pos (by omega)]; rfl
def inR (z : Int) : Bool := decide (-9223372036854775808 ≤ z) && decide (z ≤ 9223372036854775807)
theorem inR_eq {z : Int} : inR z = true ↔ -9223372036854775808 ≤ z ∧ z ≤ 9223372036854775807 := by unfold inR; rw [Bool.and_eq_true, decide_eq_true_eq, decide_eq_true_eq]
theorem keyF_eq : ∀ {l : List Int}, l.all inR = true → keyF l = keyN l
 | [], _ => rfl
 | z :: l, h => by
  rw [List.all_cons, Bool.and_eq_true] at h
  have := inR_eq.1 h.1
  rw [keyF, keyN, itoaF_eq this.1 this.2, keyF_eq h.2]

def TabsP (w : World) : Prop := Lib.TabIs Tryd.prog w "internal/strconv.uint64pow10" .u64 Lib.pow10Tab
theorem TabsP.below {w w' : World} (h : TabsP w) (hb : Below w.heap.size w w') : TabsP w' := Lib.tabBelow_of_tabIs h w' hb

/-- A set's text. -/
noncomputable def sumKey : List AV → St → Option (AV × St)
  | [.nils], st => some (.str [], st)
  | [.sl c m 0 len 1], st => match st.h.get c with
    | some (.row false ms) => match ms[m]? with
      | some (e, vs, some l) => match intsOf (l.take len) with
        | some zs => if zs.length = len ∧ len ≤ 1000000 ∧ zs.all inR = true then some (.str (keyF zs), st) else none
        | none => none
      | _ => none
    | _ => none
  | _, _ => none
theorem key_world (zs : List Int) : (⟨(keyB zs).toArray⟩ : ByteArray) = bytesOf (keyN zs) := by
 unfold bytesOf
 rw [← keyB_N, List.map_map]
 have : (UInt8.ofNat ∘ UInt8.toNat) = id := by funext x; simp
 rw [this, List.map_id]
theorem key_sum {G : Env} (hI : ∀ w0 w, G.i w0 → Below w0.heap.size w0 w → TabsP w) : SumOk Tryd.prog G 63 sumKey := by
 intro args st v st' hs hf ha
 have hr : Real Tryd.prog 63 := ⟨_, Tryd.func63, rfl, by decide⟩
 unfold sumKey at hs
 split at hs
 ·injection hs with hs
  injection hs with e1 e2
  subst e1 e2
  refine ⟨hr, fun w0 p w H hG => ⟨Ab.refl _, ?_⟩⟩
  have h := key_any none 0 0 0 [] w (by simp) (fun j hj => absurd hj (by simp)) (fun h => absurd h (by simp)) (by simp) (hI w0 w hG.2 H.under)
  refine h.mono fun e w' he => ?_
  obtain ⟨rfl, hb⟩ := he
  exact ⟨p, by rw [key_world]; rfl, H.belowStep hb, fun x hx => by cases hx⟩
 ·rename_i c m len
  split at hs
  ·rename_i ms hc
   split at hs
   ·rename_i e vs l hm
    split at hs
    ·rename_i zs hzs
     split at hs
     ·rename_i hcond
      obtain ⟨hlen, h1M, hall⟩ := hcond
      injection hs with hs
      injection hs with e1 e2
      subst e1 e2
      have hbz : ∀ z ∈ zs, -9223372036854775808 ≤ z ∧ z ≤ 9223372036854775807 := fun z hz => inR_eq.1 (List.all_eq_true.1 hall z hz)
      refine ⟨hr, fun w0 p w H hG => ⟨Ab.refl _, ?_⟩⟩
      have hR := H.cls c _ hc
      obtain ⟨q, arr, el, g1, g2, g3, g4, g5, g6⟩ := hR.mem m e vs (some l) hm
      obtain ⟨k1, k2⟩ := g6 l rfl
      have hb := g2.own
      have hblt := (Array.getElem?_eq_some_iff.1 hb).1
      have hzl : l.take len = zs.map zAV := intsOf_eq hzs
      have hH : Holds (Value.int .i64) w q.b q.d zs.toArray := by
       intro j hj
       have hj' : j < zs.length := by simpa using hj
       refine ⟨?_, by simp [World.frozen?, hb]⟩
       have ha1 : l[j]? = some (zAV zs[j]) := by
        have h := congrArg (fun x => x[j]?) hzl
        simp only [List.getElem?_map, List.getElem?_eq_getElem hj'] at h
        rw [List.getElem?_take_of_lt (by omega)] at h
        exact h
       obtain ⟨j1, _, _⟩ := k2 j _ ha1
       simp only [World.cell?, hb]
       simp only [Option.isSome_none, Bool.false_eq_true, if_false]
       rw [j1]
       simp [hj', zAV, conc]
      have hargs : (concL p [AV.sl c m 0 len 1]).toArray = #[.slice (some ⟨q.b, q.d, none⟩) zs.length q.e] := by
       show #[conc p (AV.sl c m 0 len 1)] = _
       simp only [conc, g1]
       rw [hlen]
       simp
      rw [hargs]
      refine (key_any (some ⟨q.b, q.d, none⟩) q.b q.d q.e zs w hbz hH (fun _ => ⟨rfl, hblt⟩) (by omega) (hI w0 w hG.2 H.under)).mono fun e' w' he => ?_
      obtain ⟨rfl, hb'⟩ := he
      refine ⟨p, ?_, H.belowStep hb', ?_⟩
      ·rw [key_world, ← keyF_eq hall]; rfl
      ·rw [keyF_eq hall]; exact keyN_bytes zs
     ·cases hs
    ·cases hs
   ·cases hs
  ·cases hs
 ·cases hs
theorem sumTrue_okI {P : Program} {G G' : Env} (hG0 : ∀ g, G.g g = false) (hE : EnvOk P G) (hI : ∀ w0 w, G'.i w0 → Below w0.heap.size w0 w → G.i w) (hm : P.follows .mixedOrders = true) {f : FuncId} {L fuel n : Nat} (h : isTrue (callF P G L fuel f [] ⟨n, .nil⟩) = true) : SumOk P G' f sumTrue := by
 intro args st v st' hs hf ha
 cases args with
 | cons a l => cases hs
 | nil =>
  injection hs with hs
  injection hs with e1 e2
  subst e1 e2
  obtain ⟨⟨u, st2⟩, h1⟩ : ∃ r, callF P G L fuel f [] ⟨n, .nil⟩ = some r := by
   cases hr : callF P G L fuel f [] ⟨n, .nil⟩ with
   | none => rw [hr] at h; cases h
   | some r => exact ⟨r, rfl⟩
  refine ⟨(call_ok (draw_ok hm) hE L fuel f [] _ _ _ h1 (fun _ _ => rfl) trivial).1, fun w0 p w H hG => ⟨Ab.refl _, ?_⟩⟩
  refine (closed_true hG0 hE hm (args := []) (by simp [WFL]) h w (hI w0 w hG.2 H.under)).mono fun e w' he => ?_
  obtain ⟨rfl, hb⟩ := he
  exact ⟨p, rfl, H.belowStep hb, trivial⟩

noncomputable section
def sumsQ : List (FuncId × (List AV → St → Option (AV × St))) :=
 (63, sumKey) ::
 (51, sumPutZ compZ compZV id) ::
 []
def envQ : Env := ⟨fun _ => false, findB backs, findS sumsQ, TabsP⟩
end
theorem envQ_ok : EnvOk Tryd.prog envQ := ⟨fun f q h => backs_ok (f, q) (findB_mem h), fun f sm h => by
 have h : findS sumsQ f = some sm := h
 have h := findS_mem h
 unfold sumsQ at h
 rcases List.mem_cons.1 h with h | h
 ·injection h with e1 e2; subst e1 e2; exact key_sum fun w0 w h hb => TabsP.below h hb
 rcases List.mem_cons.1 h with h | h
 ·injection h with e1 e2; subst e1 e2; exact compactI_sum
 cases h⟩
end Go.Proofs.YtiknomepbklibaaDoor
end
section
namespace Go.Proofs.YtiknomepbklibaaDoor
open Go
set_option maxRecDepth 1000000
set_option linter.unusedVariables false

theorem known22_true : isTrue (callF Tryd.prog envQ 10000 1000 9 [] ⟨0, .nil⟩) = true := callC_true (by decide +kernel)

end Go.Proofs.YtiknomepbklibaaDoor
end
section
namespace Go.Proofs.YtiknomepbklibaaDoor
open Go Go.RowKit Go.Shelf Go.Sort
set_option linter.unusedVariables false

noncomputable section
def sumsP : List (FuncId × (List AV → St → Option (AV × St))) :=
 (63, sumKey) ::
 (9, sumTrue) ::
 (50, sumPutZ orderZ sortZV fun _ => .tup []) ::
 (51, sumPutZ compZ compZV id) ::
 []
def envP : Env := ⟨fun _ => false, findB backs, findS sumsP, TabsP⟩
end
theorem envP_ok : EnvOk Tryd.prog envP := ⟨fun f q h => backs_ok (f, q) (findB_mem h), fun f sm h => by
 have h : findS sumsP f = some sm := h
 have h := findS_mem h
 unfold sumsP at h
 rcases List.mem_cons.1 h with h | h
 ·injection h with e1 e2; subst e1 e2; exact key_sum fun w0 w h hb => TabsP.below h hb
 rcases List.mem_cons.1 h with h | h
 ·injection h with e1 e2; subst e1 e2; exact sumTrue_okI (fun _ => rfl) envQ_ok (fun w0 w h hb => TabsP.below h hb) mixed known22_true
 rcases List.mem_cons.1 h with h | h
 ·injection h with e1 e2; subst e1 e2; exact sortI_sum
 rcases List.mem_cons.1 h with h | h
 ·injection h with e1 e2; subst e1 e2; exact compactI_sum
 cases h⟩
theorem known22_ev (st : St) : Ev Tryd.prog envP 9 [] st (.bool true) st := ⟨0, 1, rfl⟩
end Go.Proofs.YtiknomepbklibaaDoor
end
section
namespace Go.Proofs.YtiknomepbklibaaDoor
open Go
set_option maxRecDepth 100000

theorem tk_int : tk Tryd.prog 3 = .one := by kernel_rfl
theorem sz_int : sizeA Tryd.prog 3 = some 1 := by kernel_rfl
theorem ze_int : zeroOf Tryd.prog 3 = some [.int .i64 0] := by kernel_rfl
theorem ce_int : Tryd.prog.cellsOf 3 = 1 := by kernel_rfl
theorem un_int : Tryd.prog.underlying 3 = some (.int .i64) := by kernel_rfl
theorem tk_bool : tk Tryd.prog 4 = .one := by kernel_rfl
theorem sz_bool : sizeA Tryd.prog 4 = some 1 := by kernel_rfl
theorem ze_bool : zeroOf Tryd.prog 4 = some [.bool false] := by kernel_rfl
theorem un_bool : Tryd.prog.underlying 4 = some (.bool) := by kernel_rfl
theorem un_string : Tryd.prog.underlying 9 = some (.string) := by kernel_rfl
theorem un_uint : Tryd.prog.underlying 43 = some (.int .u64) := by kernel_rfl
end Go.Proofs.YtiknomepbklibaaDoor
end
section
namespace Go.Proofs.YtiknomepbklibaaDoor
open Go
set_option maxRecDepth 100000

theorem tk_S_int : tk Tryd.prog 42 = .one := by kernel_rfl
theorem sz_S_int : sizeA Tryd.prog 42 = some 1 := by kernel_rfl
theorem ze_S_int : zeroOf Tryd.prog 42 = some [.nils] := by kernel_rfl
theorem ce_S_int : Tryd.prog.cellsOf 42 = 1 := by kernel_rfl
theorem un_S_int : Tryd.prog.underlying 42 = some (.slice 3) := by kernel_rfl
theorem el_S_int : elemOfA Tryd.prog 42 = some 1 := by kernel_rfl
theorem sl_S_int : SlT Tryd.prog 42 3 1 := ⟨un_S_int, by kernel_rfl, ⟨_, ze_int, rfl⟩, by kernel_rfl, by decide, by decide +kernel⟩
end Go.Proofs.YtiknomepbklibaaDoor
end
