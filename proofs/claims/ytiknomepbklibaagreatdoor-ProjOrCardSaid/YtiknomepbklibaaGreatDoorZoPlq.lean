/-
  Pools: what is long; PoolSame.
-/
import Derived.Test.YtiknomepbklibaaGreatDoorZoPlp
namespace Go.Proofs.YtiknomepbklibaaGreatDoor
open Go Go.RowKit
set_option linter.unusedVariables false
set_option linter.unusedSimpArgs false
set_option linter.unnecessarySimpa false
set_option maxRecDepth 100000
set_option maxHeartbeats 1000000

/-- A row of rows of numbers. -/
def ListR (h : Hp) (s : List Int) (cs : List AV) : Prop := ∃ v, cs = [v] ∧ RdR h [] 1 (zC s) v ∧ In64 s
def LsR (h : Hp) (l : List (List Int)) (kk : AV) (ls : List (List AV)) : Prop := RowsZ h 1 (ListR h) l kk ls
theorem LsR.len {h : Hp} {l : List (List Int)} {kk : AV} {ls : List (List AV)} (H : LsR h l kk ls) : slLen kk = some l.length := by rw [← RowsZ.ln H]; exact (RowsZ.r H).len
theorem RdR.old {st : St} (hf : Fresh st) {h' : Hp} {z : Nat} {ls : List (List AV)} {v : AV} (r : RdR st.h.get [] z ls v) (hO : ∀ c, c < st.n → h' c = st.h.get c) : RdR h' [] z ls v :=
 r.frame fun c m o n y e => by
  obtain ⟨_, cells, h2, _⟩ := r.alive c m o n y e
  exact hO c (h2.lt hf)
theorem LsR.old {st : St} (hf : Fresh st) {h' : Hp} {l : List (List Int)} {kk : AV} {ls : List (List AV)} (H : LsR st.h.get l kk ls) (hO : ∀ c, c < st.n → h' c = st.h.get c) : LsR h' l kk ls :=
 ⟨(RowsZ.r H).old hf hO, RowsZ.ln H, fun i k hi => by
  obtain ⟨cs, h1, v, h2, h3, h4⟩ := RowsZ.at_ H i k hi
  exact ⟨cs, h1, v, h2, h3.old hf hO, h4⟩⟩
theorem ofL_len (L : List (List Int)) (l : List Int) : (ofL L l).length ≤ L.length + 1 := by
 rw [ofL]; split
 ·omega
 ·simp
end Go.Proofs.YtiknomepbklibaaGreatDoor
