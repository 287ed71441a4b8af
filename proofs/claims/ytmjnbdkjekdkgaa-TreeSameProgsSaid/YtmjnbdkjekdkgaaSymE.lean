/-
  Calls with open arguments, by the reckoner: guards, ends.
-/
import Derived.Test.YtmjnbdkjekdkgaaSymD
namespace Go.Proofs.Ytmjnbdkjekdkgaa
open Go
set_option linter.unusedVariables false

variable {P : Program} {G : Env} {N : Nat} {st : St} {K : List (Nat × AV)} {T : Tr AV} {ops rest : List Oper} {R : Tr AV → St → Prop}
/-- A truth by name. -/
theorem wr_opb {d : Nat} {op : Op} {ty : TypeId} {pos : String} {af : Array Edge} {x : Bool} {st1 : St} (hK : KnT K T) (h : OpS P G K op st (.bool x) st1) (hN : d < N) (hn : ∀ (b : Bool) T', x = b → KnT ((d, .bool b) :: K) T' → WR P G N ops rest R T' st1) :
    WR P G N ops (⟨some d, op, ty, pos, af, none⟩ :: rest) R T st := wr_op hK h hN fun T' hT' => hn x T' rfl hT'
theorem wants_known {j t : Nat} {d : Option Nat} {op : Op} {ty : TypeId} {pos : String} {af : Array Edge} {b pol : Bool} (hK : KnT K T) (ht : dstOf ops j = some t) (hb : K.lookup t = some (.bool b)) : wants ops ⟨d, op, ty, pos, af, some (j, pol)⟩ T = (b == pol) := by
  unfold wants
  simp only [ht]
  rw [show tget T t = .bool b from hK t _ hb]
  cases b <;> cases pol <;> rfl
/-- The guard lets it be. -/
theorem wr_gy {d j t : Nat} {op : Op} {ty : TypeId} {pos : String} {af : Array Edge} {pol : Bool} {v : AV} {st1 : St} (hK : KnT K T) (ht : dstOf ops j = some t) (hb : K.lookup t = some (.bool pol)) (h : OpS P G K op st v st1) (hN : d < N)
    (hn : ∀ T', KnT ((d, v) :: K) T' → WR P G N ops rest R T' st1) : WR P G N ops (⟨some d, op, ty, pos, af, some (j, pol)⟩ :: rest) R T st :=
  wr_step (by rw [wants_known hK ht hb]; cases pol <;> rfl) (h T hK _ _ _ _ _) (fun e he => by injection he with he; rw [← he]; exact hN) (hn _ (hK.set d v))
/-- The guard skips it. -/
theorem wr_gn {d j t : Nat} {op : Op} {ty : TypeId} {pos : String} {af : Array Edge} {b pol : Bool} (hK : KnT K T) (ht : dstOf ops j = some t) (hb : K.lookup t = some (.bool b)) (hne : (b == pol) = false) (hN : d < N)
    (hn : ∀ T', KnT ((d, .tup []) :: K) T' → WR P G N ops rest R T' st) : WR P G N ops (⟨some d, op, ty, pos, af, some (j, pol)⟩ :: rest) R T st := by
  obtain ⟨L', n', T', st', h1, h2⟩ := hn _ (hK.set d (.tup []))
  refine ⟨L', n', T', st', ?_, h2⟩
  show (ob (stepF P G _ ops _ T st) fun r => putF N (some d) r.1 T fun T => tl (regS P G _ N ops rest T r.2)) = _
  unfold stepF
  rw [wants_known hK ht hb, hne, bif_false, ob_some]
  show need (Nat.ble (d + 1) N) (T.put d (.tup []) _) = _
  rw [Nat.ble_eq_true_of_le hN, Tr.put_eq]
  exact h1
theorem res_tmp {t : Nat} {v : AV} (hK : KnT K T) (h : K.lookup t = some v) : resultsF P [.tmp t] T st = some v := by
  show (ob (mapO (resF P T st) [.tmp t]) fun vs => List.rec (some (.tup [])) (fun v t _ => List.rec (some v) (fun _ _ _ => some (.tup vs)) t) vs) = some v
  show some (tget T t) = some v
  rw [hK t v h]
theorem blockQ_self {id : Nat} {Q : Ex → Tr AV → St → Prop} : blockQ id Q (.exit id) = Q .nor := if_pos rfl
theorem os_max {x y : Operand} {tys : Array TypeId} {a b : Int} {k : IntKind} (hx : opK G K x = some (.int k a)) (hy : opK G K y = some (.int k b)) : OpS P G K (.call { callee := .builtin .max, args := #[x, y], argTypes := tys }) st (.int k (max a b)) st := .of fun T hT cc d ty pos af g => by
  show ret (ob (mapO (opd G T) [x, y]) (mmA true)) st = _
  rw [mapO_cons, hT.opd hx, ob_some, mapO_cons, hT.opd hy, ob_some]
  show ret (some (AV.int k (bif' (ltI a b) b a))) st = _
  rw [ltI_eq]
  by_cases h : a < b
  · rw [decide_eq_true h, bif_true, show max a b = b by omega]; rfl
  · rw [decide_eq_false h, bif_false, show max a b = a by omega]; rfl
theorem os_min {x y : Operand} {tys : Array TypeId} {a b : Int} {k : IntKind} (hx : opK G K x = some (.int k a)) (hy : opK G K y = some (.int k b)) : OpS P G K (.call { callee := .builtin .min, args := #[x, y], argTypes := tys }) st (.int k (min a b)) st := .of fun T hT cc d ty pos af g => by
  show ret (ob (mapO (opd G T) [x, y]) (mmA false)) st = _
  rw [mapO_cons, hT.opd hx, ob_some, mapO_cons, hT.opd hy, ob_some]
  show ret (some (AV.int k (bif' (ltI b a) b a))) st = _
  rw [ltI_eq]
  by_cases h : b < a
  · rw [decide_eq_true h, bif_true, show min a b = b by omega]; rfl
  · rw [decide_eq_false h, bif_false, show min a b = a by omega]; rfl
end Go.Proofs.Ytmjnbdkjekdkgaa
