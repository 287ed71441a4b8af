/-
  Calls with open arguments, by the reckoner: variables and stores where a region draws its order.
-/
import Derived.Test.YtmjnbdkjekdkgaaSymF
namespace Go.Proofs.Ytmjnbdkjekdkgaa
open Go
set_option linter.unusedVariables false

variable {P : Program} {G : Env} {N : Nat} {st : St} {K : List (Nat × AV)} {T : Tr AV} {ops : List Oper} {r : List (Nat × Nat)} {R : Tr AV → St → Prop} {sn : List St} {h0 : Hp} {n0 : Nat} {X : List Nat} {M : List (Nat × Nat × List AV)}
theorem wd_alloc {i d : Nat} {t ty : TypeId} {pos : String} {af : Array Edge} {l : List AV} (ho : ops[i]? = some ⟨some d, .alloc t, ty, pos, af, none⟩) (hK : KnT K T) (hM : Mem h0 n0 X st M) (hz : zeroOf P t = some l) (hN : d < N)
    (hn : ∀ (c : Nat) T' st', KnT ((d, .ptr c 0 0) :: K) T' → Mem h0 n0 X st' ((c, 0, l) :: M) → WD P G N ops (r.map (plF ops)) R T' st' sn) : WD P G N ops (((i, 0) :: r).map (plF ops)) R T st sn := by
  refine wd_op (v := .ptr st.n 0 0) (st1 := ⟨st.n + 1, st.h.set st.n (.row false [(l.length, 0, some l)])⟩) ho hK (.of fun T hT c d ty pos af g => ?_) rfl hN fun T' hT' => hn st.n T' _ hT' (hM.alloc l)
  show allocA P t st = _
  unfold allocA
  rw [hz, ob_some, memRow_eq]
theorem wd_store {i : Nat} {t ty : TypeId} {pos : String} {af : Array Edge} {x y : Operand} {w : AV} {k c m off n : Nat} {l l' : List AV} (ho : ops[i]? = some ⟨none, .store t x y, ty, pos, af, none⟩) (hK : KnT K T) (hM : Mem h0 n0 X st M) (hx : opK G K x = some (.ptr c m off)) (hy : opK G K y = some w)
    (hk : M[k]? = some (c, m, l)) (hz : sizeA P t = some n) (hn : (cellsA w).length = n) (hc : allL isCell (cellsA w) = true) (hv : overL (cellsA w) off l = some l')
    (hr : ∀ st', Mem h0 n0 X st' (M.set k (c, m, l')) → WD P G N ops (r.map (plF ops)) R T st' (st' :: sn)) : WD P G N ops (((i, 0) :: r).map (plF ops)) R T st sn := by
  obtain ⟨st1, h1, h2, _⟩ := hM.store hk hz hn hc hv
  rw [plF_cons ho]
  have hS : OpS P G K (.store t x y) st (.tup []) st1 := .of fun T hT c d ty pos af g => by
    show (ob (opd G T x) fun x => ob (opd G T y) fun y => storeA P t x y st) = _
    rw [hT.opd hx, hT.opd hy, ob_some, ob_some, h1]
  exact wd_step rfl (hS T hK _ _ _ _ _) rfl (fun e he => by cases he) (hr st1 h2)
end Go.Proofs.Ytmjnbdkjekdkgaa
