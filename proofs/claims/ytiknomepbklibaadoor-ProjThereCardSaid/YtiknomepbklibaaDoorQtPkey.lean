/-
  A set as a text: pool.key.
-/
import Derived.Lib.AppendIntMem
import Derived.Lib.ItoaLen
import Derived.Lib.Slices
import Derived.Lib.Hide
import Derived.Laws.IdiomStrings
import Derived.OwnWalk
import Derived.WalkKit
import Derived.BigCall
import Derived.Test.YtiknomepbklibaaDoorQtKit
import Derived.Test.YtiknomepbklibaaDoorQtPoolL
import Derived.Test.YtiknomepbklibaaDoorQtLayI
namespace Go.Proofs.YtiknomepbklibaaDoor
open Go Go.Shelf Go.RowKit Go.Sort
set_option linter.unusedVariables false

theorem infoByte : (Tryd.prog.info? 5).map (fun i => (i.zero, i.size, i.bytes)) = some (some (.int .u8 0), 1, 1) := by kernel_rfl
def keyB : List Int → List UInt8
 | [] => []
 | n :: l => Lib.itoa n ++ 44 :: keyB l
theorem keyB_app : ∀ (a b : List Int), keyB (a ++ b) = keyB a ++ keyB b
 | [], b => rfl
 | n :: a, b => by rw [List.cons_append, keyB, keyB, keyB_app a b, List.append_assoc]; rfl
theorem keyB_take {zs : List Int} {k : Nat} {z : Int} (h : zs[k]? = some z) : keyB (zs.take (k + 1)) = keyB (zs.take k) ++ (Lib.itoa z ++ [44]) := by
 rw [List.take_add_one, h, keyB_app]; rfl
theorem keyB_len : ∀ l : List Int, (∀ z ∈ l, -9223372036854775808 ≤ z ∧ z ≤ 9223372036854775807) → (keyB l).length ≤ 22 * l.length
 | [], _ => by simp [keyB]
 | n :: l, h => by
  have h1 := keyB_len l fun z hz => h z (List.mem_cons_of_mem _ hz)
  have h2 := h n (List.mem_cons_self ..)
  have h3 := Lib.itoa_length_le n h2.1 h2.2
  rw [keyB, List.length_append, List.length_cons, List.length_cons]
  omega
theorem keyB_N : ∀ l : List Int, (keyB l).map UInt8.toNat = keyN l
 | [] => rfl
 | n :: l => by rw [keyB, keyN, List.map_append, List.map_cons, keyB_N l]; rfl

set_option maxHeartbeats 6400000 in
set_option maxRecDepth 100000 in
theorem key_any (A : Option Addr) (blk off cap : Nat) (zs : List Int) (w : World) (hz : ∀ z ∈ zs, -9223372036854775808 ≤ z ∧ z ≤ 9223372036854775807) (hH : Holds (Value.int .i64) w blk off zs.toArray) (hA : 0 < zs.length → A = some ⟨blk, off, none⟩ ∧ blk < w.heap.size) (hl : zs.length ≤ 1000000)
  (htab : Lib.TabIs Tryd.prog w "internal/strconv.uint64pow10" .u64 Lib.pow10Tab) :
  Calls Tryd.prog 63 #[.slice A zs.length cap] w fun e w' => e = .returned (.string ⟨(keyB zs).toArray⟩) ∧ Below w.heap.size w w' := by
 obtain ⟨i0, hi, hz0, hz1, hz2⟩ := info_parts infoByte
 have hT := Lib.tabBelow_of_tabIs htab
 have HH := Lib.hid hH
 clear hH
 go_enter Tryd.func63, Tryd.ntmps63
 go_wp2
 go_loopg [3, 8] zs.length (fun q v3 v8 wr => ∃ k : Nat, q = zs.length - k ∧ k ≤ zs.length ∧ v8 = .int .i64 k ∧ wr.ownsRow w.heap.size 5 1 v3 (keyB (zs.take k)).length (Lib.byteCells (keyB (zs.take k))) ∧ Below w.heap.size w wr)
 case atStart => exact ⟨0, by omega, Nat.zero_le _, rfl, World.ownsRow_nil _ _ _ _, Below.refl _ _⟩
 case round =>
  obtain ⟨k, hq, hk, rfl, hown, hb⟩ := hrel
  by_cases hlt : k < zs.length
  ·obtain ⟨rfl, hblk⟩ := hA (by omega)
   obtain ⟨c1, f1⟩ := HH.out k (by simpa using hlt)
   have c2 : wr.cell? ⟨blk, off + k, none⟩ = some (.int .i64 (zs[k])) := by
    rw [hb.cell (p := ⟨blk, off + k, none⟩) hblk, c1]; simp [getElem!_pos, hlt]
   have hget : zs[k]? = some zs[k] := List.getElem?_eq_getElem hlt
   have hbz := hz _ (List.getElem_mem hlt)
   obtain ⟨z, hzk⟩ : ∃ z, z = zs[k] := ⟨_, rfl⟩
   rw [← hzk] at c2 hget hbz
   have hlz := Lib.itoa_length_le z hbz.1 hbz.2
   have hkl := keyB_len (zs.take k) fun z hz' => hz z (List.mem_of_mem_take hz')
   rw [List.length_take] at hkl
   have HG := Lib.hid hget
   have HK := Lib.hid hzk
   clear hget hzk
   obtain ⟨L, hL⟩ : ∃ L, L = keyB (zs.take k) := ⟨_, rfl⟩
   rw [← hL] at hown hkl
   have HL := Lib.hid hL
   clear hL
   go_wp2_with (go_at_call 71; refine (Any.strconv_AppendInt_10 laysM176 w.heap.size L.length z hbz.1 hbz.2 _ _ wr hown hb.size (by omega) (hT.on hb)).mono ?_; rintro e w1 ⟨v1, rfl, hown1, hnx1, -⟩; refine Hid.out ?_)
   refine Lib.hid ?_
   have hown1 : w1.ownsRow w.heap.size 5 1 v1 (L.length + (Lib.itoa z).length) (Lib.byteCells L ++ Lib.byteCells (Lib.itoa z)) := hown1
   have hs1 := hnx1.size
   have hs2 := hb.size
   go_wp2_with (at_builtin; refine wpList_append_own _ rfl _ _ 100 rfl w.heap.size 5 i0 (.int .u8 0) 1 1 Tryd.underlying100 hi hz0 hz1 hz2 rfl (by decide) _ _ _ rfl (hown1.alloc _) ⟨w1.heap.size, 0, none⟩ 1 1 [Value.int .u8 44] rfl rfl ?c1 ?c2 ?c3 ?c4 ?c5 ?_)
   case c1 => exact cells_new _ _ _ _ rfl
   case c2 => intro u hu; simp at hu; subst hu; rfl
   case c3 => unfold maxLen; omega
   case c4 => omega
   case c5 => simp; omega
   intro v2 w2 hown2 hgrow _
   have hnx2 : Below w.heap.size w w2 := ((hb.trans hnx1).alloc (by have := hnx1.size; have := hb.size; omega) _).grown hgrow (by have := hnx1.size; have := hb.size; simp; omega) (fun k hk => (hown1.lt k hk).1)
   go_wp2
   go_roundg (zs.length - (k + 1))
   case measure => omega
   case rel =>
    refine ⟨k + 1, rfl, by omega, rfl, ?_, hnx2⟩
    rw [keyB_take HG.out, ← HL.out]
    have e1 : Lib.byteCells (L ++ (Lib.itoa z ++ [44])) = Lib.byteCells L ++ (Lib.byteCells (Lib.itoa z) ++ [Value.int .u8 44]) := by simp [Lib.byteCells]
    have e2 : (L ++ (Lib.itoa z ++ [44])).length = L.length + (Lib.itoa z).length + 1 := by simp; omega
    rw [e1, e2]
    simpa [List.append_assoc] using hown2
  ·have hkk : zs.take k = zs := List.take_of_length_le (by omega)
   rw [hkk] at hown
   obtain ⟨l, hl'⟩ : ∃ l, l = keyB zs := ⟨_, rfl⟩
   rw [← hl'] at hown
   have HL := Lib.hid hl'
   clear hl'
   rcases hown.2 with ⟨rfl, h0⟩ | ⟨g, cap', cur, rfl, -, -, -, -, -, -⟩
   ·have hcv : (convert 100 9 (.slice none 0 0)).run Tryd.prog wr = .ok (.string ⟨#[]⟩) wr := by
     rw [run_convert_bytes_string wr 100 9 5 none 0 0 Tryd.underlying100 Tryd.underlying5 Tryd.underlying9]
     simp [Conv.bytesToString]
     rfl
    go_wp2
    go_ret
    have h1 := HL.out
    have h2 : l = [] := List.length_eq_zero_iff.1 (by omega)
    rw [← h1, h2]
    exact ⟨rfl, hb⟩
   ·have hcv := run_convert_bytes_back (P := Tryd.prog) wr 100 9 5 ⟨g, 0, none⟩ cap' l Tryd.underlying100 Tryd.underlying5 Tryd.underlying9 (fun j hj => hown.cells (g := g) rfl j _ (by simp [Lib.byteCells, hj]))
    go_wp2
    go_ret
    rw [← HL.out]
    exact ⟨rfl, hb⟩
end Go.Proofs.YtiknomepbklibaaDoor
