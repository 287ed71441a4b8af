/-
  A set as a text: pool.key.
-/
import Derived.Lib.AppendIntMem
import Derived.Lib.ItoaLen
import Derived.Lib.Slices
import Derived.Lib.Hide
import Derived.Laws.IdiomStrings
import Derived.OwnWalk
import Derived.WalkKit
import Derived.BigCall
import Derived.Test.YtiknomepbklibaaGreatDoorZoKit
import Derived.Test.YtiknomepbklibaaGreatDoorZoPoolL
import Derived.Test.YtiknomepbklibaaGreatDoorZoEnv
import Derived.Test.YtiknomepbklibaaGreatDoorZoEv4
import Derived.Test.YtiknomepbklibaaGreatDoorZoSortI
import Derived.Test.YtiknomepbklibaaGreatDoorProg
import Derived.Test.YtiknomepbklibaaGreatDoorZoSy2
section
namespace Go.Proofs.YtiknomepbklibaaGreatDoor
open Go Go.Shelf Go.RowKit Go.Sort
set_option linter.unusedVariables false

theorem infoByte : (Tryz.prog.info? 5).map (fun i => (i.zero, i.size, i.bytes)) = some (some (.int .u8 0), 1, 1) := by kernel_rfl
def keyB : List Int → List UInt8
 | [] => []
 | n :: l => Lib.itoa n ++ 44 :: keyB l
theorem keyB_app : ∀ (a b : List Int), keyB (a ++ b) = keyB a ++ keyB b
 | [], b => rfl
 | n :: a, b => by rw [List.cons_append, keyB, keyB, keyB_app a b, List.append_assoc]; rfl
theorem keyB_take {zs : List Int} {k : Nat} {z : Int} (h : zs[k]? = some z) : keyB (zs.take (k + 1)) = keyB (zs.take k) ++ (Lib.itoa z ++ [44]) := by
 rw [List.take_add_one, h, keyB_app]; rfl
theorem keyB_len : ∀ l : List Int, (∀ z ∈ l, -9223372036854775808 ≤ z ∧ z ≤ 9223372036854775807) → (keyB l).length ≤ 22 * l.length
 | [], _ => by simp [keyB]
 | n :: l, h => by
  have h1 := keyB_len l fun z hz => h z (List.mem_cons_of_mem _ hz)
  have h2 := h n (List.mem_cons_self ..)
  have h3 := Lib.itoa_length_le n h2.1 h2.2
  rw [keyB, List.length_append, List.length_cons, List.length_cons]
  omega
theorem keyB_N : ∀ l : List Int, (keyB l).map UInt8.toNat = keyN l
 | [] => rfl
 | n :: l => by rw [keyB, keyN, List.map_append, List.map_cons, keyB_N l]; rfl

set_option maxHeartbeats 6400000 in
set_option maxRecDepth 100000 in
theorem key_any (A : Option Addr) (blk off cap : Nat) (zs : List Int) (w : World) (hz : ∀ z ∈ zs, -9223372036854775808 ≤ z ∧ z ≤ 9223372036854775807) (hH : Holds (Value.int .i64) w blk off zs.toArray) (hA : 0 < zs.length → A = some ⟨blk, off, none⟩ ∧ blk < w.heap.size) (hl : zs.length ≤ 1000000)
  (htab : Lib.TabIs Tryz.prog w "internal/strconv.uint64pow10" .u64 Lib.pow10Tab) :
  Calls Tryz.prog 87 #[.slice A zs.length cap] w fun e w' => e = .returned (.string ⟨(keyB zs).toArray⟩) ∧ Below w.heap.size w w' := by
 obtain ⟨i0, hi, hz0, hz1, hz2⟩ := info_parts infoByte
 have hT := Lib.tabBelow_of_tabIs htab
 have HH := Lib.hid hH
 clear hH
 go_enter Tryz.func87, Tryz.ntmps87
 go_wp2
 go_loopg [3, 8] zs.length (fun q v3 v8 wr => ∃ k : Nat, q = zs.length - k ∧ k ≤ zs.length ∧ v8 = .int .i64 k ∧ wr.ownsRow w.heap.size 5 1 v3 (keyB (zs.take k)).length (Lib.byteCells (keyB (zs.take k))) ∧ Below w.heap.size w wr)
 case atStart => exact ⟨0, by omega, Nat.zero_le _, rfl, World.ownsRow_nil _ _ _ _, Below.refl _ _⟩
 case round =>
  obtain ⟨k, hq, hk, rfl, hown, hb⟩ := hrel
  by_cases hlt : k < zs.length
  ·obtain ⟨rfl, hblk⟩ := hA (by omega)
   obtain ⟨c1, f1⟩ := HH.out k (by simpa using hlt)
   have c2 : wr.cell? ⟨blk, off + k, none⟩ = some (.int .i64 (zs[k])) := by
    rw [hb.cell (p := ⟨blk, off + k, none⟩) hblk, c1]; simp [getElem!_pos, hlt]
   have hget : zs[k]? = some zs[k] := List.getElem?_eq_getElem hlt
   have hbz := hz _ (List.getElem_mem hlt)
   obtain ⟨z, hzk⟩ : ∃ z, z = zs[k] := ⟨_, rfl⟩
   rw [← hzk] at c2 hget hbz
   have hlz := Lib.itoa_length_le z hbz.1 hbz.2
   have hkl := keyB_len (zs.take k) fun z hz' => hz z (List.mem_of_mem_take hz')
   rw [List.length_take] at hkl
   have HG := Lib.hid hget
   have HK := Lib.hid hzk
   clear hget hzk
   obtain ⟨L, hL⟩ : ∃ L, L = keyB (zs.take k) := ⟨_, rfl⟩
   rw [← hL] at hown hkl
   have HL := Lib.hid hL
   clear hL
   go_wp2_with (go_at_call 112; refine (Any.strconv_AppendInt_10 laysM176 w.heap.size L.length z hbz.1 hbz.2 _ _ wr hown hb.size (by omega) (hT.on hb)).mono ?_; rintro e w1 ⟨v1, rfl, hown1, hnx1, -⟩; refine Hid.out ?_)
   refine Lib.hid ?_
   have hown1 : w1.ownsRow w.heap.size 5 1 v1 (L.length + (Lib.itoa z).length) (Lib.byteCells L ++ Lib.byteCells (Lib.itoa z)) := hown1
   have hs1 := hnx1.size
   have hs2 := hb.size
   go_wp2_with (at_builtin; refine wpList_append_own _ rfl _ _ 143 rfl w.heap.size 5 i0 (.int .u8 0) 1 1 Tryz.underlying143 hi hz0 hz1 hz2 rfl (by decide) _ _ _ rfl (hown1.alloc _) ⟨w1.heap.size, 0, none⟩ 1 1 [Value.int .u8 44] rfl rfl ?c1 ?c2 ?c3 ?c4 ?c5 ?_)
   case c1 => exact cells_new _ _ _ _ rfl
   case c2 => intro u hu; simp at hu; subst hu; rfl
   case c3 => unfold maxLen; omega
   case c4 => omega
   case c5 => simp; omega
   intro v2 w2 hown2 hgrow _
   have hnx2 : Below w.heap.size w w2 := ((hb.trans hnx1).alloc (by have := hnx1.size; have := hb.size; omega) _).grown hgrow (by have := hnx1.size; have := hb.size; simp; omega) (fun k hk => (hown1.lt k hk).1)
   go_wp2
   go_roundg (zs.length - (k + 1))
   case measure => omega
   case rel =>
    refine ⟨k + 1, rfl, by omega, rfl, ?_, hnx2⟩
    rw [keyB_take HG.out, ← HL.out]
    have e1 : Lib.byteCells (L ++ (Lib.itoa z ++ [44])) = Lib.byteCells L ++ (Lib.byteCells (Lib.itoa z) ++ [Value.int .u8 44]) := by simp [Lib.byteCells]
    have e2 : (L ++ (Lib.itoa z ++ [44])).length = L.length + (Lib.itoa z).length + 1 := by simp; omega
    rw [e1, e2]
    simpa [List.append_assoc] using hown2
  ·have hkk : zs.take k = zs := List.take_of_length_le (by omega)
   rw [hkk] at hown
   obtain ⟨l, hl'⟩ : ∃ l, l = keyB zs := ⟨_, rfl⟩
   rw [← hl'] at hown
   have HL := Lib.hid hl'
   clear hl'
   rcases hown.2 with ⟨rfl, h0⟩ | ⟨g, cap', cur, rfl, -, -, -, -, -, -⟩
   ·have hcv : (convert 143 9 (.slice none 0 0)).run Tryz.prog wr = .ok (.string ⟨#[]⟩) wr := by
     rw [run_convert_bytes_string wr 143 9 5 none 0 0 Tryz.underlying143 Tryz.underlying5 Tryz.underlying9]
     simp [Conv.bytesToString]
     rfl
    go_wp2
    go_ret
    have h1 := HL.out
    have h2 : l = [] := List.length_eq_zero_iff.1 (by omega)
    rw [← h1, h2]
    exact ⟨rfl, hb⟩
   ·have hcv := run_convert_bytes_back (P := Tryz.prog) wr 143 9 5 ⟨g, 0, none⟩ cap' l Tryz.underlying143 Tryz.underlying5 Tryz.underlying9 (fun j hj => hown.cells (g := g) rfl j _ (by simp [Lib.byteCells, hj]))
    go_wp2
    go_ret
    rw [← HL.out]
    exact ⟨rfl, hb⟩
end Go.Proofs.YtiknomepbklibaaGreatDoor
end
section
namespace Go.Proofs.YtiknomepbklibaaGreatDoor
open Go Go.RowKit Go.Shelf Go.Sort
set_option linter.unusedVariables false

/-! Numbers as texts, by a count of digits that the kernel can follow. -/
noncomputable def digF : Nat → Nat → List Nat → List Nat
 | 0, _, acc => acc
 | f + 1, u, acc => bif' (Nat.ble u 9) ((48 + u) :: acc) (digF f (u / 10) ((48 + u % 10) :: acc))
noncomputable def itoaF : Int → List Nat
 | .ofNat u => digF 20 u []
 | .negSucc u => 45 :: digF 20 (u + 1) []
noncomputable def keyF : List Int → List Nat
 | [] => []
 | n :: l => itoaF n ++ 44 :: keyF l
theorem digF_dec : ∀ (f u : Nat) (acc : List Nat), u < 10 ^ (f + 1) → digF (f + 1) u acc = (Lib.decDigits u).map UInt8.toNat ++ acc := by
 intro f
 induction f with
 | zero =>
  intro u acc h
  have h9 : u < 10 := by simpa using h
  rw [digF, Lib.decDigits, dif_pos h9, Nat.ble_eq_true_of_le (by omega), bif_true, List.map_singleton, dig_nat u h9]; rfl
 | succ f ih =>
  intro u acc h
  rw [digF, Lib.decDigits]
  by_cases h9 : u < 10
  ·rw [dif_pos h9, Nat.ble_eq_true_of_le (by omega), bif_true, List.map_singleton, dig_nat u h9]; rfl
  ·have hb : Nat.ble u 9 = false := by
    cases hb : Nat.ble u 9 with
    | false => rfl
    | true => have := Nat.le_of_ble_eq_true hb; omega
   rw [dif_neg h9, hb, bif_false, ih (u / 10) _ (by rw [Nat.pow_succ] at h; omega), List.map_append, List.map_singleton, dig_nat _ (Nat.mod_lt _ (by decide)), List.append_assoc]; rfl
theorem itoaF_eq {z : Int} (h1 : -9223372036854775808 ≤ z) (h2 : z ≤ 9223372036854775807) : itoaF z = itoaN z := by
 have hp : (10 : Nat) ^ 20 = 100000000000000000000 := by decide
 cases z with
 | ofNat u =>
  have h2 : (u : Int) ≤ 9223372036854775807 := h2
  show digF 20 u [] = (Lib.itoa (u : Int)).map UInt8.toNat
  rw [digF_dec 19 u [] (by rw [hp]; omega), List.append_nil, Lib.itoa, if_neg (by omega)]; rfl
 | negSucc u =>
  have h1 : -9223372036854775808 ≤ Int.negSucc u := h1
  show 45 :: digF 20 (u + 1) [] = (Lib.itoa (Int.negSucc u)).map UInt8.toNat
  rw [digF_dec 19 (u + 1) [] (by rw [hp]; omega), List.append_nil, Lib.itoa, if_pos (by omega)]; rfl
def inR (z : Int) : Bool := decide (-9223372036854775808 ≤ z) && decide (z ≤ 9223372036854775807)
theorem inR_eq {z : Int} : inR z = true ↔ -9223372036854775808 ≤ z ∧ z ≤ 9223372036854775807 := by unfold inR; rw [Bool.and_eq_true, decide_eq_true_eq, decide_eq_true_eq]
theorem keyF_eq : ∀ {l : List Int}, l.all inR = true → keyF l = keyN l
 | [], _ => rfl
 | z :: l, h => by
  rw [List.all_cons, Bool.and_eq_true] at h
  have := inR_eq.1 h.1
  rw [keyF, keyN, itoaF_eq this.1 this.2, keyF_eq h.2]

def TabsP (w : World) : Prop := Lib.TabIs Tryz.prog w "internal/strconv.uint64pow10" .u64 Lib.pow10Tab
theorem TabsP.below {w w' : World} (h : TabsP w) (hb : Below w.heap.size w w') : TabsP w' := Lib.tabBelow_of_tabIs h w' hb

/-- A set's text. -/
noncomputable def sumKey : List AV → St → Option (AV × St)
  | [.nils], st => some (.str [], st)
  | [.sl c m 0 len 1], st => match st.h.get c with
    | some (.row false ms) => match ms[m]? with
      | some (e, vs, some l) => match intsOf (l.take len) with
        | some zs => if zs.length = len ∧ len ≤ 1000000 ∧ zs.all inR = true then some (.str (keyF zs), st) else none
        | none => none
      | _ => none
    | _ => none
  | _, _ => none
theorem key_world (zs : List Int) : (⟨(keyB zs).toArray⟩ : ByteArray) = bytesOf (keyN zs) := by
 unfold bytesOf
 rw [← keyB_N, List.map_map]
 have : (UInt8.ofNat ∘ UInt8.toNat) = id := by funext x; simp
 rw [this, List.map_id]
theorem key_sum {G : Env} (hI : ∀ w0 w, G.i w0 → Below w0.heap.size w0 w → TabsP w) : SumOk Tryz.prog G 87 sumKey := by
 intro args st v st' hs hf ha
 have hr : Real Tryz.prog 87 := ⟨_, Tryz.func87, rfl, by decide⟩
 unfold sumKey at hs
 split at hs
 ·injection hs with hs
  injection hs with e1 e2
  subst e1 e2
  refine ⟨hr, fun w0 p w H hG => ⟨Ab.refl _, ?_⟩⟩
  have h := key_any none 0 0 0 [] w (by simp) (fun j hj => absurd hj (by simp)) (fun h => absurd h (by simp)) (by simp) (hI w0 w hG.2 H.under)
  refine h.mono fun e w' he => ?_
  obtain ⟨rfl, hb⟩ := he
  exact ⟨p, by rw [key_world]; rfl, H.belowStep hb, fun x hx => by cases hx⟩
 ·rename_i c m len
  split at hs
  ·rename_i ms hc
   split at hs
   ·rename_i e vs l hm
    split at hs
    ·rename_i zs hzs
     split at hs
     ·rename_i hcond
      obtain ⟨hlen, h1M, hall⟩ := hcond
      injection hs with hs
      injection hs with e1 e2
      subst e1 e2
      have hbz : ∀ z ∈ zs, -9223372036854775808 ≤ z ∧ z ≤ 9223372036854775807 := fun z hz => inR_eq.1 (List.all_eq_true.1 hall z hz)
      refine ⟨hr, fun w0 p w H hG => ⟨Ab.refl _, ?_⟩⟩
      have hR := H.cls c _ hc
      obtain ⟨q, arr, el, g1, g2, g3, g4, g5, g6⟩ := hR.mem m e vs (some l) hm
      obtain ⟨k1, k2⟩ := g6 l rfl
      have hb := g2.own
      have hblt := (Array.getElem?_eq_some_iff.1 hb).1
      have hzl : l.take len = zs.map zAV := intsOf_eq hzs
      have hH : Holds (Value.int .i64) w q.b q.d zs.toArray := by
       intro j hj
       have hj' : j < zs.length := by simpa using hj
       refine ⟨?_, by simp [World.frozen?, hb]⟩
       have ha1 : l[j]? = some (zAV zs[j]) := by
        have h := congrArg (fun x => x[j]?) hzl
        simp only [List.getElem?_map, List.getElem?_eq_getElem hj'] at h
        rw [List.getElem?_take_of_lt (by omega)] at h
        exact h
       obtain ⟨j1, _, _⟩ := k2 j _ ha1
       simp only [World.cell?, hb]
       simp only [Option.isSome_none, Bool.false_eq_true, if_false]
       rw [j1]
       simp [hj', zAV, conc]
      have hargs : (concL p [AV.sl c m 0 len 1]).toArray = #[.slice (some ⟨q.b, q.d, none⟩) zs.length q.e] := by
       show #[conc p (AV.sl c m 0 len 1)] = _
       simp only [conc, g1]
       rw [hlen]
       simp
      rw [hargs]
      refine (key_any (some ⟨q.b, q.d, none⟩) q.b q.d q.e zs w hbz hH (fun _ => ⟨rfl, hblt⟩) (by omega) (hI w0 w hG.2 H.under)).mono fun e' w' he => ?_
      obtain ⟨rfl, hb'⟩ := he
      refine ⟨p, ?_, H.belowStep hb', ?_⟩
      ·rw [key_world, ← keyF_eq hall]; rfl
      ·rw [keyF_eq hall]; exact keyN_bytes zs
     ·cases hs
    ·cases hs
   ·cases hs
  ·cases hs
 ·cases hs
theorem sumTrue_okI {P : Program} {G G' : Env} (hG0 : ∀ g, G.g g = false) (hE : EnvOk P G) (hI : ∀ w0 w, G'.i w0 → Below w0.heap.size w0 w → G.i w) (hm : P.follows .mixedOrders = true) {f : FuncId} {L fuel n : Nat} (h : isTrue (callF P G L fuel f [] ⟨n, .nil⟩) = true) : SumOk P G' f sumTrue := by
 intro args st v st' hs hf ha
 cases args with
 | cons a l => cases hs
 | nil =>
  injection hs with hs
  injection hs with e1 e2
  subst e1 e2
  obtain ⟨⟨u, st2⟩, h1⟩ : ∃ r, callF P G L fuel f [] ⟨n, .nil⟩ = some r := by
   cases hr : callF P G L fuel f [] ⟨n, .nil⟩ with
   | none => rw [hr] at h; cases h
   | some r => exact ⟨r, rfl⟩
  refine ⟨(call_ok (draw_ok hm) hE L fuel f [] _ _ _ h1 (fun _ _ => rfl) trivial).1, fun w0 p w H hG => ⟨Ab.refl _, ?_⟩⟩
  refine (closed_true hG0 hE hm (args := []) (by simp [WFL]) h w (hI w0 w hG.2 H.under)).mono fun e w' he => ?_
  obtain ⟨rfl, hb⟩ := he
  exact ⟨p, rfl, H.belowStep hb, trivial⟩

noncomputable section
def sumsQ : List (FuncId × (List AV → St → Option (AV × St))) :=
 (87, sumKey) ::
 (67, sumPutZ compZ compZV id) ::
 []
def envQ : Env := ⟨fun _ => false, findB backs, findS sumsQ, TabsP⟩
end
theorem envQ_ok : EnvOk Tryz.prog envQ := ⟨fun f q h => backs_ok (f, q) (findB_mem h), fun f sm h => by
 have h : findS sumsQ f = some sm := h
 have h := findS_mem h
 unfold sumsQ at h
 rcases List.mem_cons.1 h with h | h
 ·injection h with e1 e2; subst e1 e2; exact key_sum fun w0 w h hb => TabsP.below h hb
 rcases List.mem_cons.1 h with h | h
 ·injection h with e1 e2; subst e1 e2; exact compactI_sum
 cases h⟩
end Go.Proofs.YtiknomepbklibaaGreatDoor
end
section
namespace Go.Proofs.YtiknomepbklibaaGreatDoor
open Go
set_option maxRecDepth 1000000
set_option linter.unusedVariables false

theorem known22_true : isTrue (callF Tryz.prog envQ 10000 1000 16 [] ⟨0, .nil⟩) = true := callC_true (by decide +kernel)

end Go.Proofs.YtiknomepbklibaaGreatDoor
end
section
namespace Go.Proofs.YtiknomepbklibaaGreatDoor
open Go
set_option maxRecDepth 1000000
set_option linter.unusedVariables false

theorem known26_true : isTrue (callF Tryz.prog envQ 10000 1000 22 [] ⟨0, .nil⟩) = true := callC_true (by decide +kernel)

end Go.Proofs.YtiknomepbklibaaGreatDoor
end
section
namespace Go.Proofs.YtiknomepbklibaaGreatDoor
open Go Go.RowKit Go.Shelf Go.Sort
set_option linter.unusedVariables false

noncomputable section
def sumsP : List (FuncId × (List AV → St → Option (AV × St))) :=
 (87, sumKey) ::
 (16, sumTrue) ::
 (22, sumTrue) ::
 (66, sumPutZ orderZ sortZV fun _ => .tup []) ::
 (67, sumPutZ compZ compZV id) ::
 []
def envP : Env := ⟨fun _ => false, findB backs, findS sumsP, TabsP⟩
end
theorem envP_ok : EnvOk Tryz.prog envP := ⟨fun f q h => backs_ok (f, q) (findB_mem h), fun f sm h => by
 have h : findS sumsP f = some sm := h
 have h := findS_mem h
 unfold sumsP at h
 rcases List.mem_cons.1 h with h | h
 ·injection h with e1 e2; subst e1 e2; exact key_sum fun w0 w h hb => TabsP.below h hb
 rcases List.mem_cons.1 h with h | h
 ·injection h with e1 e2; subst e1 e2; exact sumTrue_okI (fun _ => rfl) envQ_ok (fun w0 w h hb => TabsP.below h hb) mixed known22_true
 rcases List.mem_cons.1 h with h | h
 ·injection h with e1 e2; subst e1 e2; exact sumTrue_okI (fun _ => rfl) envQ_ok (fun w0 w h hb => TabsP.below h hb) mixed known26_true
 rcases List.mem_cons.1 h with h | h
 ·injection h with e1 e2; subst e1 e2; exact sortI_sum
 rcases List.mem_cons.1 h with h | h
 ·injection h with e1 e2; subst e1 e2; exact compactI_sum
 cases h⟩
theorem known22_ev (st : St) : Ev Tryz.prog envP 16 [] st (.bool true) st := ⟨0, 1, rfl⟩
end Go.Proofs.YtiknomepbklibaaGreatDoor
end
section
namespace Go.Proofs.YtiknomepbklibaaGreatDoor
open Go
set_option maxRecDepth 100000

theorem tk_int : tk Tryz.prog 3 = .one := by kernel_rfl
theorem sz_int : sizeA Tryz.prog 3 = some 1 := by kernel_rfl
theorem ze_int : zeroOf Tryz.prog 3 = some [.int .i64 0] := by kernel_rfl
theorem ce_int : Tryz.prog.cellsOf 3 = 1 := by kernel_rfl
theorem un_int : Tryz.prog.underlying 3 = some (.int .i64) := by kernel_rfl
theorem tk_bool : tk Tryz.prog 4 = .one := by kernel_rfl
theorem sz_bool : sizeA Tryz.prog 4 = some 1 := by kernel_rfl
theorem ze_bool : zeroOf Tryz.prog 4 = some [.bool false] := by kernel_rfl
theorem un_bool : Tryz.prog.underlying 4 = some (.bool) := by kernel_rfl
theorem un_string : Tryz.prog.underlying 9 = some (.string) := by kernel_rfl
theorem un_uint : Tryz.prog.underlying 58 = some (.int .u64) := by kernel_rfl
end Go.Proofs.YtiknomepbklibaaGreatDoor
end
section
namespace Go.Proofs.YtiknomepbklibaaGreatDoor
open Go
set_option maxRecDepth 100000

theorem tk_S_int : tk Tryz.prog 54 = .one := by kernel_rfl
theorem sz_S_int : sizeA Tryz.prog 54 = some 1 := by kernel_rfl
theorem ze_S_int : zeroOf Tryz.prog 54 = some [.nils] := by kernel_rfl
theorem ce_S_int : Tryz.prog.cellsOf 54 = 1 := by kernel_rfl
theorem un_S_int : Tryz.prog.underlying 54 = some (.slice 3) := by kernel_rfl
theorem el_S_int : elemOfA Tryz.prog 54 = some 1 := by kernel_rfl
theorem sl_S_int : SlT Tryz.prog 54 3 1 := ⟨un_S_int, by kernel_rfl, ⟨_, ze_int, rfl⟩, by kernel_rfl, by decide, by decide +kernel⟩
end Go.Proofs.YtiknomepbklibaaGreatDoor
end
