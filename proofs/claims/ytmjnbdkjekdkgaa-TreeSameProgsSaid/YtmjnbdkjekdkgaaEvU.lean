/-
  A function without parameters that yields true is reckoned once.
-/
import Derived.Test.YtmjnbdkjekdkgaaEvR
namespace Go.Proofs.Ytmjnbdkjekdkgaa
open Go Go.RowKit
set_option linter.unusedVariables false

theorem HR.below {w0 : World} {p : Pls} {h : Hp} {w w' : World} (H : HR w0 p h w) (B : Below w.heap.size w w') : HR w0 p h w' := by
  refine ⟨B.os.trans H.os, B.tape.trans H.tape, B.output.trans H.output, Nat.le_trans H.size B.size, fun b hb => ?_, H.dom, fun c m x hx => Nat.lt_of_lt_of_le (H.lt c m x hx) B.size, H.apart, fun c C hC => ?_⟩
  · rw [B.block b (Nat.lt_of_lt_of_le hb H.size)]; exact H.old b hb
  · exact (H.cls c C hC).keep H.cov (fun _ _ _ hx => hx) (Grow.refl h) (fun _ _ hx => hx) fun m x hx => B.block x.b (H.lt c m x hx)
theorem HR.belowStep {w0 : World} {p : Pls} {h : Hp} {w w' : World} (H : HR w0 p h w) (B : Below w.heap.size w w') : Step w0 p w p h w' :=
  ⟨fun _ _ _ hx => hx, H.below B, ⟨B.size, fun b hb _ => B.block b hb⟩, fun c m x hx hn => by rw [hn] at hx; cases hx⟩
/-- A call that yields true, and leaves waste alone. -/
noncomputable def sumTrue : List AV → St → Option (AV × St) := fun args st => List.rec (some (.bool true, st)) (fun _ _ _ => none) args
theorem sumTrue_ok {P : Program} {G G' : Env} (hG0 : ∀ g, G.g g = false) (hE : EnvOk P G) (hm : P.follows .mixedOrders = true) {f : FuncId} {L fuel n : Nat} (h : callC P G L fuel f [] ⟨n, .nil⟩ truthC = true) : SumOk P G' f sumTrue := by
  intro args st v st' hs hf ha
  cases args with
  | cons a l => cases hs
  | nil =>
    injection hs with hs
    injection hs with e1 e2
    subst e1 e2
    obtain ⟨u, st2, h1, h2⟩ := call_law P G L fuel f [] _ _ h
    refine ⟨(call_ok (draw_ok hm) hE L fuel f [] _ _ _ h1 (fun _ _ => rfl) trivial).1, fun w0 p w H hG => ⟨Ab.refl _, ?_⟩⟩
    refine (swift_true hG0 hE hm (args := []) (by simp [WFL]) h w).mono fun e w' he => ?_
    obtain ⟨rfl, hb⟩ := he
    exact ⟨p, rfl, H.belowStep hb, trivial⟩
/-- An environment, and one function more that yields true. -/
noncomputable def Env.known (G : Env) (f : FuncId) : Env := ⟨G.g, G.b, fun k => Bool.rec (G.s k) (some sumTrue) (Nat.beq k f)⟩
theorem known_ok {P : Program} {G : Env} (hG0 : ∀ g, G.g g = false) (hE : EnvOk P G) (hs : ∀ f, G.s f = none) (hm : P.follows .mixedOrders = true) {f : FuncId} {L fuel n : Nat} (h : callC P G L fuel f [] ⟨n, .nil⟩ truthC = true) : EnvOk P (G.known f) := by
  refine ⟨hE.back, fun k sm hk => ?_⟩
  have hk : (Bool.rec (G.s k) (some sumTrue) (Nat.beq k f) : Option (List AV → St → Option (AV × St))) = some sm := hk
  cases hb : Nat.beq k f with
  | false => rw [hb] at hk; rw [hs] at hk; cases hk
  | true =>
    rw [hb] at hk
    injection hk with hk
    subst hk
    rw [Nat.eq_of_beq_eq_true hb]
    exact sumTrue_ok hG0 hE hm h

end Go.Proofs.Ytmjnbdkjekdkgaa
