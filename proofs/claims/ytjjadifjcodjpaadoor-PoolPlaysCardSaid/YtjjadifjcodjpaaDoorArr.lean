/-
  Where a cell of an array lies.
-/
import Derived.Test.YtjjadifjcodjpaaDoorSy2
import Derived.Test.YtjjadifjcodjpaaDoorTyg
namespace Go.Proofs.YtjjadifjcodjpaaDoor
open Go
set_option linter.unusedVariables false

theorem os_indexP {P : Program} {G : Env} {K : List (Nat × AV)} {st : St} {t e : TypeId} {x i : Operand} {c m off n z : Nat} {k : IntKind} {j : Nat} (he : arrOfA P t = some (n, e)) (hz : P.cellsOf e = z) (hx : opK G K x = some (.ptr c m off)) (hi : opK G K i = some (.int k (j : Int))) (hj : j < n) :
    OpS P G K (.indexAddr t x i) st (.ptr c m (off + j * z)) st := .of fun T hT cc d ty pos af g => by
  show ret (ob (opd G T x) fun x => ob (opd G T i) fun i => indexAddrA P t x i) st = _
  rw [hT.opd hx, hT.opd hi, ob_some, ob_some]
  show ret (ob (toN (j : Int)) fun i => ob (arrOfA P t) fun q => need (Nat.ble (i + 1) q.1) (sNat (off + i * P.cellsOf q.2) fun o => some (AV.ptr c m o))) st = _
  show ret (ob (arrOfA P t) fun q => need (Nat.ble (j + 1) q.1) (sNat (off + j * P.cellsOf q.2) fun o => some (AV.ptr c m o))) st = _
  rw [he, ob_some]
  show ret (need (Nat.ble (j + 1) n) (sNat (off + j * P.cellsOf e) fun o => some (AV.ptr c m o))) st = _
  rw [Nat.ble_eq_true_of_le hj, hz]
  show ret (sNat (off + j * z) fun o => some (AV.ptr c m o)) st = _
  rw [sNat_eq]; rfl
theorem ce_int1 : Program.cellsOf Tryd.prog 3 = 1 := by kernel_rfl
theorem os_buildArr {P : Program} {G : Env} {K : List (Nat × AV)} {st : St} {t e : TypeId} {parts : Array (Nat × Operand)} {n k : Nat} {z r : List AV} {ps : List (Nat × AV)} (u : P.underlying t = some (.array n e)) (ue : (P.underlying e).isSome = true) (hk : P.cellsOf e = k) (hz : zeroOf P t = some z) (hp : partsV (opK G K) parts = some ps) (hf : fillA (fun i => some (i * k, k)) ps z = some r) :
    OpS P G K (.build t parts) st (.agg r) st := .of fun T hT c d ty pos af g => by
  show ret (buildA P t parts (opd G T)) st = _
  unfold buildA
  simp only [u, ue, need_true', hz, ob_some, hT.parts hp, hk, hf, sList_eq]
  rfl
theorem us_int : (Tryd.prog.underlying 3).isSome = true := by kernel_rfl
/-- Is a row nil? -/
def nilB : AV → Bool
  | .nils => true
  | _ => false
theorem os_eqNilA {P : Program} {G : Env} {K : List (Nat × AV)} {st : St} {t yt e : TypeId} {x y : Operand} {kb : AV} {n : Nat} (hn : slLen kb = some n) (ht : P.underlying t = some (.slice e)) (hx : opK G K x = some kb) (hy : opK G K y = some .nils) : OpS P G K (.binOp .eql t x y yt) st (.bool (nilB kb)) st :=
  os_bin hx hy (by
    cases kb <;> first | (cases hn; done) | skip
    all_goals
      show need (eqFits (P.underlying t) _) (ob (eqNil _ .nils) fun b => some (AV.bool b)) = _
      rw [ht]; rfl)
theorem nilB_eq {kb : AV} (h : nilB kb = true) : kb = .nils := by cases kb <;> first | rfl | cases h
end Go.Proofs.YtjjadifjcodjpaaDoor
