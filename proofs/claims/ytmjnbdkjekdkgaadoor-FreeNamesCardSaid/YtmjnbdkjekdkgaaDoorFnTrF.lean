/-
  Same by the reference, free.Join, FreeJoin.
-/
import Derived.Test.YtmjnbdkjekdkgaaDoorFnTrD
namespace Go.Proofs.YtmjnbdkjekdkgaaDoor
open Go Go.RowKit
set_option linter.unusedVariables false
set_option linter.unusedSimpArgs false
set_option maxRecDepth 100000
set_option maxHeartbeats 1000000

def Nd.num : Nd → Int
  | .mk _ _ n _ _ => n
/-- What joining yields, by cells. -/
def joinC (o s : List Nat) (z a : Int) (kk : AV) : List AV → List AV
  | [.str ok, .str _, .int _ zk, .int _ _, kkk] => if ok = oNum then [.str oNum, .str [], .int .i64 (z + zk), .int .i64 a, .nils] else if ok = oPlus then [.str o, .str s, .int .i64 (z + zk), .int .i64 a, kkk] else [.str o, .str s, .int .i64 z, .int .i64 a, kk]
  | _ => [.str o, .str s, .int .i64 z, .int .i64 a, kk]
theorem RdN.one {h : Hp} {k : Nd} {kc : List AV} {o s : List Nat} {z a : Int} {c : Nat} (hr : RowV h c 0 kc) (hk : RdN h k kc) (hb : Bytes o ∧ Bytes s) : RdN h (.mk o s z a [k]) [.str o, .str s, .int .i64 z, .int .i64 a, .sl c 0 0 1 5] := by
  have h5 : kc.length = 5 := by
    obtain ⟨ko, ks, kz, ka, kl⟩ := k
    obtain ⟨_, _, rfl, _⟩ := hk.open5
    rfl
  refine .node (kids := [k]) hr (by simp) (by rw [h5]; simp) (fun i k' hi => ?_) hb
  match i, hi with
  | 0, hi =>
    injection hi with hi
    subst hi
    rw [Nat.zero_mul, Nat.zero_add, List.drop_zero, List.take_of_length_le (by omega)]
    exact hk

theorem KidsR.one {h : Hp} {k : Nd} {kc : List AV} {c : Nat} (hr : RowV h c 0 kc) (hk : RdN h k kc) : KidsR h [k] (.sl c 0 0 1 5) [kc] := by
  have h5 : kc.length = 5 := by
    obtain ⟨ko, ks, kz, ka, kl⟩ := k
    obtain ⟨_, _, rfl, _⟩ := hk.open5
    rfl
  refine ⟨⟨rfl, by simp, rfl, fun i cs hi => ?_, fun c' m' off n z e => ?_⟩, rfl, fun i k' hi => ?_⟩
  · match i, hi with
    | 0, hi =>
      injection hi with hi
      subst hi
      exact ⟨c, 0, 0, kc, rfl, by simp, hr, h5, by rw [Nat.zero_mul, Nat.zero_add, List.drop_zero, List.take_of_length_le (by omega)]⟩
  · injection e with e1 e2 e3 e4 e5
    subst e1 e2 e3 e4 e5
    exact ⟨by simp, kc, hr, by omega⟩
  · match i, hi with
    | 0, hi =>
      injection hi with hi
      subst hi
      exact ⟨kc, rfl, hk⟩
theorem known7_ev (st : St) : Ev Tryd.prog envD 25 [] st (.bool true) st := ⟨0, 1, rfl⟩
end Go.Proofs.YtmjnbdkjekdkgaaDoor
