/-
  The lexer of 'lex': 'sign'.
-/
import Derived.Test.YtcccnnfmhdogoaaLexC
import Derived.BigRegion
namespace Go.Proofs.Ytcccnnfmhdogoaa
open Go Go.RowKit
set_option linter.unusedVariables false
attribute [local go_sem] drewN_alloc drewN_setCell

theorem hasPrefix_is (s p : ByteArray) (w : World) (b : Bool) (hs : s.size ≤ 100000) (hp : p.size ≤ 100000) (h : hasPre s p = b) :
    Calls Try.prog 28 #[.string s, .string p] w fun e w' => e = .returned (.bool b) ∧ w = w' := h ▸ hasPrefix_any s p w hs hp

/-- The longest sign with which runes begin. -/
def signOf (r : List (Nat × Nat)) : Option ByteArray := signsB.find? fun sg => fitsR r sg.data.toList

theorem signs_ascii : ∀ sg ∈ signsB, ∀ b ∈ sg.data.toList, b.toNat < 128 := by decide +kernel
theorem signs_size : ∀ sg ∈ signsB, 1 ≤ sg.size ∧ sg.size ≤ 3 := by decide +kernel

theorem hasPre_fits (s sg : ByteArray) (n : Nat) (hsg : sg ∈ signsB) :
    hasPre (s.extract (placeAt s (each s).2 (each s).1 n) s.size) sg = fitsR ((each s).1.drop n) sg.data.toList := by
  have hc := each_chain s
  have hp := (placeAt_mono s n n (Nat.le_refl _)).2
  rw [hasPre_eq s sg _ hp]
  exact pre_fits s _ (each_fin s) _ (signs_ascii sg hsg) _ _ (chain_drop s _ n _ 0 hc.1) hp

def SignPost (w : World) (g : Nat) (s : ByteArray) (A : Option Addr) (cap : Nat) (L : List (Nat × Nat)) (bad : Option Nat) (n : Nat) (e : Ending) (w' : World) : Prop :=
  match signOf (L.drop n) with
  | some sg => e = .returned (.tuple #[.agg #[.int .i64 3, .string sg, .int .i64 0, .int .i64 (placeAt s bad L n)], .bool true]) ∧ w.grownBy w' (some g) ∧ LexAt w' g s A cap L bad (n + sg.size)
  | none => e = .returned (.tuple #[.agg #[.int .i64 0, .string ⟨#[]⟩, .int .i64 0, .int .i64 0], .bool false]) ∧ w.grownBy w' (some g) ∧ LexAt w' g s A cap L bad n

set_option maxHeartbeats 1000000 in
theorem sign_at' (w : World) (g : Nat) (s : ByteArray) (A : Option Addr) (cap : Nat) (L : List (Nat × Nat)) (bad : Option Nat) (n : Nat) (h : LexAt w g s A cap L bad n) :
    Calls Try.prog 27 #[.pointer (some ⟨g, 0, none⟩)] w (SignPost w g s A cap L bad n) := by
  have hrun := h.run
  have hpl := (placeAt_mono s n n (Nat.le_refl _)).2
  rw [← hrun.1, ← hrun.2] at hpl
  have hpre := fun sg hsg => hasPre_fits s sg n hsg
  rw [← hrun.1, ← hrun.2] at hpre
  have hss := h.size
  clear hrun
  obtain ⟨P0, hP0⟩ : ∃ P0, placeAt s bad L n = P0 := ⟨_, rfl⟩
  have hat := fun (W : World) (h : LexAt W g s A cap L bad n) => at_at W g s A cap L bad n h
  rw [hP0] at hpl hpre hat
  have HP0 := Lib.hid hP0
  have HPRE := Lib.hid hpre
  have HAT := Lib.hid hat
  clear hP0 hpre hat
  have H := Lib.hid h
  have hglt := h.lt
  clear h
  go_enter Try.func27, Try.ntmps27
  go_wp2_with fail
  refine (signs_any _).mono ?_
  rintro e w1 ⟨rfl, hst, hb1, hsz1⟩
  have hW0 : (w.alloc (.cells #[.int .i64 0, .string ⟨#[]⟩, .int .i64 0, .int .i64 0] 35)).heap.size = w.heap.size + 1 := by simp
  have hx1 : LexAt w1 g s A cap L bad n := (H.out.alloc _).kept hb1
  have hgb1 : w.grownBy w1 (some g) := gb_below (gb_alloc (World.grownBy.refl _ _) _) hb1
  have hB1 : w1.heap[w.heap.size]? = some (.cells #[.int .i64 0, .string ⟨#[]⟩, .int .i64 0, .int .i64 0] 35 (0, 0)) := (hb1.block _ (by simp)).trans (heap_alloc_new w _)
  rw [hW0] at hst hsz1
  clear hW0 hb1
  have HX1 := Lib.hid hx1
  have HB1 := Lib.hid hB1
  have HST := Lib.hid hst
  clear hx1 hB1 hst
  have hl18 : signsB.length = 18 := rfl
  go_wp2_with fail
  go_loopg [9] 18 (fun q iv wr => ∃ k : Nat, q = 18 - k ∧ k ≤ 18 ∧ iv = .int .i64 k ∧ LexAt wr g s A cap L bad n ∧ w.grownBy wr (some g) ∧
    wr.heap[w.heap.size]? = some (.cells #[.int .i64 0, .string ⟨#[]⟩, .int .i64 0, .int .i64 0] 35 (0, 0)) ∧ StrsAt wr (w.heap.size + 1) signsB ∧ w.heap.size + 1 < wr.heap.size ∧
    ∀ j, j < k → fitsR (L.drop n) (signsB.getD j ByteArray.empty).data.toList = false)
  case atStart => exact ⟨0, rfl, by omega, rfl, HX1.out, hgb1, HB1.out, HST.out, hsz1, by omega⟩
  case round =>
    obtain ⟨k, rfl, hk, rfl, hx, hgb, hB, hst, hsz, hj⟩ := hrel
    clear HX1 HB1 HST hsz1 hgb1
    have HX := Lib.hid hx
    have HB := Lib.hid hB
    have HS := Lib.hid hst
    have HJ := Lib.hid hj
    have c0 := hx.c0
    have c3 := hx.c3
    have hf3 := hx.fz 3
    clear hx hB hst hj
    by_cases hlt : k < 18
    · obtain ⟨sg, hsg⟩ : ∃ sg, signsB.getD k ByteArray.empty = sg := ⟨_, rfl⟩
      have hc := HS.out k hlt
      rw [hsg] at hc
      have hmem : sg ∈ signsB := by
        rw [← hsg, List.getD_eq_getElem?_getD, List.getElem?_eq_getElem hlt]
        exact List.getElem_mem _
      have hsgz := signs_size sg hmem
      have HSG := Lib.hid hsg
      have hp := HPRE.out sg hmem
      have HM := Lib.hid hmem
      clear hsg hmem
      have hzx : (s.extract P0 s.size).size ≤ 100000 := by simp; omega
      cases hfit : fitsR (L.drop n) sg.data.toList with
      | false =>
        have HF := Lib.hid hfit
        rw [hfit] at hp
        have HPP := Lib.hid hp
        clear hfit hp
        go_wp2_with fail
        go_quiet ((first
          | (go_at_call 19; exact Calls.quiet_of (HAT.out _ (HX.out.drewN _)))
          | (go_at_call 28; exact Calls.quiet_of (quiet_same (hasPrefix_is _ _ _ _ hzx (by omega) HPP.out)))))
        go_wp2_with fail
        go_roundg (18 - (k + 1))
        case measure => omega
        case rel =>
          refine ⟨k + 1, rfl, by omega, by go_num, HX.out.drewN _, gb_drewN hgb _, HB.out, fun j hj => HS.out j hj, hsz, fun j hj => ?_⟩
          rcases Nat.lt_or_ge j k with h1 | h1
          · exact HJ.out j h1
          · obtain rfl : j = k := by omega
            rw [HSG.out]; exact HF.out
      | true =>
        have HF := Lib.hid hfit
        have hle := fitsR_le _ _ hfit
        have hle2 : n + sg.size ≤ L.length := by
          simp at hle
          have := HX.out.le
          omega
        rw [hfit] at hp
        have HPP := Lib.hid hp
        clear hfit hle hp
        have hso : signOf (L.drop n) = some sg := by
          unfold signOf
          rw [List.find?_eq_some_iff_getElem]
          refine ⟨HF.out, k, hlt, ?_, fun j hjk => ?_⟩
          · have := HSG.out
            simpa [List.getD_eq_getElem?_getD, List.getElem?_eq_getElem (l := signsB) hlt] using this
          · have hjl : j < signsB.length := Nat.lt_trans hjk hlt
            have := HJ.out j hjk
            simp only [List.getD_eq_getElem?_getD, List.getElem?_eq_getElem hjl, Option.getD_some] at this
            simp [this]
        have HSO := Lib.hid hso
        clear hso
        have hfew := HX.out.few
        go_wp2_with fail
        go_quiet ((first
          | (go_at_call 19; exact Calls.quiet_of (HAT.out _ (HX.out.drewN _)))
          | (go_at_call 28; exact Calls.quiet_of (quiet_same (hasPrefix_is _ _ _ _ hzx (by omega) HPP.out)))))
        go_wp2_with fail
        refine (HAT.out _ (HX.out.drewN _)).mono ?_
        rintro e w2 ⟨rfl, m2, rfl⟩
        have hbl : w.heap.size < wr.heap.size := by omega
        have hgl : g < wr.heap.size := HX.out.lt
        have hxa := HX.out.alloc (.cells #[.int .i64 3, .string sg, .int .i64 0, .int .i64 P0] 35)
        have k3 := hxa.c3
        have kf := hxa.fz 3
        have hBa := (alloc_keep wr (.cells #[.int .i64 3, .string sg, .int .i64 0, .int .i64 P0] 35) hbl).trans HB.out
        have hTa := heap_alloc_new wr (.cells #[.int .i64 3, .string sg, .int .i64 0, .int .i64 P0] 35)
        have gba := gb_alloc hgb (.cells #[.int .i64 3, .string sg, .int .i64 0, .int .i64 P0] 35)
        have HXA := Lib.hid hxa
        have HBA := Lib.hid hBa
        have HTA := Lib.hid hTa
        have HGA := Lib.hid gba
        clear hxa hBa hTa gba
        go_upto_region 7 with fail
        have hx5 : LexAt (wr.setCell ⟨g, 3, none⟩ (.int .i64 ((n : Int) + (sg.size : Int)))) g s A cap L bad (n + sg.size) := by
          have := HX.out.put (n' := n + sg.size) hle2
          simpa using this
        have gb5 := gb_setCell hgb 3 (.int .i64 ((n : Int) + (sg.size : Int)))
        have hB5 : (wr.setCell ⟨g, 3, none⟩ (.int .i64 ((n : Int) + (sg.size : Int)))).heap[w.heap.size]? = _ := (Below.heap_setCell _ _ _ _ (by simp; omega)).trans HB.out
        have hsz5 : w.heap.size < (wr.setCell ⟨g, 3, none⟩ (.int .i64 ((n : Int) + (sg.size : Int)))).heap.size := by simpa [World.setCell] using hbl
        have he5 : wr.heap.size = (wr.setCell ⟨g, 3, none⟩ (.int .i64 ((n : Int) + (sg.size : Int)))).heap.size := by simp [World.setCell]
        rw [he5]
        clear HXA HBA HTA HGA k3 kf c0 c3 hf3 hc HX hgb HB HS
        generalize wr.setCell ⟨g, 3, none⟩ (.int .i64 ((n : Int) + (sg.size : Int))) = W5 at *
        have b0 : W5.cell? ⟨w.heap.size, 0, none⟩ = some (.int .i64 0) := cell_of_row _ w.heap.size 0 _ _ _ hB5
        have b1 : W5.cell? ⟨w.heap.size, 1, none⟩ = some (.string ⟨#[]⟩) := cell_of_row _ w.heap.size 1 _ _ _ hB5
        have b2 : W5.cell? ⟨w.heap.size, 2, none⟩ = some (.int .i64 0) := cell_of_row _ w.heap.size 2 _ _ _ hB5
        have b3 : W5.cell? ⟨w.heap.size, 3, none⟩ = some (.int .i64 0) := cell_of_row _ w.heap.size 3 _ _ _ hB5
        have bf : ∀ o, W5.frozen? ⟨w.heap.size, o, none⟩ = false := fun o => by simp [World.frozen?, hB5]
        have hne5 : w.heap.size ≠ W5.heap.size := by omega
        have HB5 := Lib.hid hB5
        have HX5 := Lib.hid hx5
        clear hB5 hx5
        go_wp2
        obtain ⟨r0, r1, r2, r3⟩ := set4_cells HB5.out (.int .i64 3) (.string sg) (.int .i64 0) (.int .i64 P0)
        have G := gb_alloc (gb_set4 (b := w.heap.size) gb5 (Nat.le_refl _) (.int .i64 3) (.string sg) (.int .i64 0) (.int .i64 P0)) (.cells #[.int .i64 3, .string sg, .int .i64 0, .int .i64 P0] 35)
        have hzz : w.heap.size < ((((W5.setCell ⟨w.heap.size, 0, none⟩ (.int .i64 3)).setCell ⟨w.heap.size, 1, none⟩ (.string sg)).setCell ⟨w.heap.size, 2, none⟩ (.int .i64 0)).setCell ⟨w.heap.size, 3, none⟩ (.int .i64 P0)).heap.size := by simpa [World.setCell] using hsz5
        have GB := ((alloc_keep _ (.cells #[.int .i64 3, .string sg, .int .i64 0, .int .i64 P0] 35) (k := g) (by omega)).trans (heap_set4 (w := W5) (b := w.heap.size) (g := g) (by omega) (.int .i64 3) (.string sg) (.int .i64 0) (.int .i64 P0))).trans HX5.out.blk
        generalize (((W5.setCell ⟨w.heap.size, 0, none⟩ (.int .i64 3)).setCell ⟨w.heap.size, 1, none⟩ (.string sg)).setCell ⟨w.heap.size, 2, none⟩ (.int .i64 0)).setCell ⟨w.heap.size, 3, none⟩ (.int .i64 P0) = W6 at *
        have s0 := (World.cell?_alloc_lt W6 (.cells #[.int .i64 3, .string sg, .int .i64 0, .int .i64 P0] 35) ⟨w.heap.size, 0, none⟩ hzz).trans r0
        have s1 := (World.cell?_alloc_lt W6 (.cells #[.int .i64 3, .string sg, .int .i64 0, .int .i64 P0] 35) ⟨w.heap.size, 1, none⟩ hzz).trans r1
        have s2 := (World.cell?_alloc_lt W6 (.cells #[.int .i64 3, .string sg, .int .i64 0, .int .i64 P0] 35) ⟨w.heap.size, 2, none⟩ hzz).trans r2
        have s3 := (World.cell?_alloc_lt W6 (.cells #[.int .i64 3, .string sg, .int .i64 0, .int .i64 P0] 35) ⟨w.heap.size, 3, none⟩ hzz).trans r3
        refine bodyPost_ret (v := .tuple #[.agg #[.int .i64 3, .string sg, .int .i64 0, .int .i64 P0], .bool true]) (by simp [results, Try.results27, go_sem, s0, s1, s2, s3]) rfl ?_
        rw [SignPost, HSO.out]
        exact ⟨by rw [HP0.out], gb_drewN G _, (H.out.next G hle2 GB).drewN _⟩
    · have hk18 : k = 18 := by omega
      have hso : signOf (L.drop n) = none := by
        unfold signOf
        rw [List.find?_eq_none]
        intro sg hsg
        obtain ⟨j, hj, rfl⟩ := List.getElem_of_mem hsg
        have := HJ.out j (by rw [hl18] at hj; omega)
        simp only [List.getD_eq_getElem?_getD, List.getElem?_eq_getElem hj, Option.getD_some] at this
        simp [this]
      have HSO := Lib.hid hso
      clear hso hk18
      have b0 : wr.cell? ⟨w.heap.size, 0, none⟩ = some (.int .i64 0) := cell_of_row _ _ 0 _ _ _ HB.out
      have b1 : wr.cell? ⟨w.heap.size, 1, none⟩ = some (.string ⟨#[]⟩) := cell_of_row _ _ 1 _ _ _ HB.out
      have b2 : wr.cell? ⟨w.heap.size, 2, none⟩ = some (.int .i64 0) := cell_of_row _ _ 2 _ _ _ HB.out
      have b3 : wr.cell? ⟨w.heap.size, 3, none⟩ = some (.int .i64 0) := cell_of_row _ _ 3 _ _ _ HB.out
      have bf : ∀ o, wr.frozen? ⟨w.heap.size, o, none⟩ = false := fun o => by simp [World.frozen?, HB.out]
      go_wp2
      obtain ⟨r0, r1, r2, r3⟩ := set4_cells HB.out (.int .i64 0) (.string ⟨#[]⟩) (.int .i64 0) (.int .i64 0)
      refine bodyPost_ret (v := .tuple #[.agg #[.int .i64 0, .string ⟨#[]⟩, .int .i64 0, .int .i64 0], .bool false]) (by simp [results, Try.results27, go_sem, r0, r1, r2, r3]) rfl ?_
      have G := gb_set4 (b := w.heap.size) hgb (Nat.le_refl _) (.int .i64 0) (.string ⟨#[]⟩) (.int .i64 0) (.int .i64 0)
      rw [SignPost, HSO.out]
      exact ⟨rfl, G, H.out.next G HX.out.le ((heap_set4 (by omega) _ _ _ _).trans HX.out.blk)⟩

end Go.Proofs.Ytcccnnfmhdogoaa
