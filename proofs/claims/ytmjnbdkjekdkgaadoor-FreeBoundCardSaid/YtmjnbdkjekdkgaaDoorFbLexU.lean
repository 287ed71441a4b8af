/-
  The lexer, the runes' classes, the reference's runes: as rules of the reckoner.
-/
import Derived.Test.YtmjnbdkjekdkgaaDoorFbSy2
import Derived.Test.YtmjnbdkjekdkgaaDoorFbLexT
import Derived.Test.YtmjnbdkjekdkgaaDoorFbRefEach
namespace Go.Proofs.YtmjnbdkjekdkgaaDoor
open Go Go.RowKit
set_option linter.unusedVariables false
set_option maxRecDepth 100000

/-! Tokens and runes, as the reckoner has them. -/
def TokR.cells (t : TokR) : List AV := [.int .i64 t.kind, .str (textOf t.text), .int .i64 t.num, .int .i64 t.at']
def runeAV (x : Nat × Nat) : List AV := [.int .i32 x.1, .int .i64 x.2]
theorem tok_conc (p : Pls) (l : List TokR) : concL p (l.flatMap TokR.cells) = tokCells l := by
 rw [Ud, tokCells, List.map_flatMap]
 congr 1
 funext t
 simp [TokR.cells, conc, bytesOf_textOf]
theorem rune_conc (p : Pls) (l : List (Nat × Nat)) : concL p (l.flatMap runeAV) = runeCells l := by
 rw [Ud, runeCells, List.map_flatMap]
 congr 1
theorem tok_wf (h : Hp) (l : List TokR) : WFL h (l.flatMap TokR.cells) ∧ ∀ a ∈ l.flatMap TokR.cells, isCell a = true := by
 refine ⟨(J2 _ _).2 fun v hv => ?_, fun a ha => ?_⟩
 ·obtain ⟨t, _, ht⟩ := List.mem_flatMap.1 hv
  simp [TokR.cells] at ht
  rcases ht with rfl | rfl | rfl | rfl
  ·trivial
  ·exact bytes_textOf _
  ·trivial
  ·trivial
 ·obtain ⟨t, _, ht⟩ := List.mem_flatMap.1 ha
  simp [TokR.cells] at ht
  rcases ht with rfl | rfl | rfl | rfl <;> rfl
theorem rune_wf (h : Hp) (l : List (Nat × Nat)) : WFL h (l.flatMap runeAV) ∧ ∀ a ∈ l.flatMap runeAV, isCell a = true := by
 refine ⟨(J2 _ _).2 fun v hv => ?_, fun a ha => ?_⟩
 ·obtain ⟨t, _, ht⟩ := List.mem_flatMap.1 hv
  simp [runeAV] at ht
  rcases ht with rfl | rfl <;> trivial
 ·obtain ⟨t, _, ht⟩ := List.mem_flatMap.1 ha
  simp [runeAV] at ht
  rcases ht with rfl | rfl <;> rfl

noncomputable section
def sTokens : List AV → Option (List AV × Nat × List AV) := fun args => match args with
 | [.str l] => some ((tokens (bytesOf l)).1.flatMap TokR.cells, (tokens (bytesOf l)).1.length, [.int .i64 (tokens (bytesOf l)).2.1, .int .i64 (tokens (bytesOf l)).2.2])
 | _ => none
def sEach : List AV → Option (List AV × Nat × List AV) := fun args => match args with
 | [.str l] => bif' (Nat.ble l.length 100000) (some ((each (bytesOf l)).1.flatMap runeAV, (each (bytesOf l)).1.length, [.int .i64 (badInt (each (bytesOf l)).2)])) none
 | _ => none
def sClass : List AV → Option AV := fun args => match args with
 | [.int .i32 r] => some (.int .i64 (classOf r))
 | _ => none
end
theorem tokens_sum {G : Env} : SumOk Tryd.prog G 78 (sumRow 4 sTokens) := by
 refine sumRow_ok (I := fun _ => True) (el := 71) ⟨_, Tryd.func78, rfl, by decide⟩ (by decide) (fun _ _ _ _ => trivial) fun h args ls n rest hF hw => ?_
 unfold sTokens at hF
 split at hF
 ·rename_i l
  injection hF with hF
  injection hF with e1 hF
  injection hF with e2 e3
  subst e1 e2 e3
  refine ⟨(tok_wf h _).1, ⟨trivial, trivial, trivial⟩, (tok_wf h _).2, fun p w _ => (tokens_nil (bytesOf l) w).mono fun e w' he => ?_⟩
  obtain ⟨v, h1, h2, h3, h4⟩ := he
  refine ⟨v, h1, ?_, h3, fun e => h4 (List.length_eq_zero_iff.1 e)⟩
  rw [tok_conc]; exact h2
 ·cases hF
theorem each_sum {G : Env} (hI : G.i = Tabs) : SumOk Tryd.prog G 80 (sumRow 2 sEach) := by
 refine sumRow_ok (I := Tabs) (el := 127) ⟨_, Tryd.func80, rfl, by decide⟩ (by decide) (fun w0 w h hb => by rw [hI] at h; exact h.below hb) fun h args ls n rest hF hw => ?_
 unfold sEach at hF
 split at hF
 ·rename_i l
  cases hl : Nat.ble l.length 100000 with
  | false => rw [hl] at hF; cases hF
  | true =>
   rw [hl] at hF
   have hl := Nat.le_of_ble_eq_true hl
   injection hF with hF
   injection hF with e1 hF
   injection hF with e2 e3
   subst e1 e2 e3
   refine ⟨(rune_wf h _).1, ⟨trivial, trivial⟩, (rune_wf h _).2, fun p w hT => (refEach_nil (bytesOf l) w (by rw [Jg]; exact hl) hT).mono fun e w' he => ?_⟩
   obtain ⟨v, h1, h2, h3, h4⟩ := he
   refine ⟨v, h1, ?_, h3, fun e => h4 (List.length_eq_zero_iff.1 e)⟩
   rw [rune_conc]; exact h2
 ·cases hF
theorem class_sum {G : Env} : SumOk Tryd.prog G 138 (sumQ sClass) := by
 refine sumQ_ok (I := fun _ => True) ⟨_, Tryd.func138, rfl, by decide⟩ (fun _ _ _ _ => trivial) fun h args v hF hw => ?_
 unfold sClass at hF
 split at hF
 ·rename_i r
  injection hF with hF
  subst hF
  refine ⟨trivial, fun p w _ => (ref_class r w).mono fun e w' he => ?_⟩
  obtain ⟨rfl, rfl⟩ := he
  exact ⟨rfl, Below.refl _ _⟩
 ·cases hF
end Go.Proofs.YtmjnbdkjekdkgaaDoor
