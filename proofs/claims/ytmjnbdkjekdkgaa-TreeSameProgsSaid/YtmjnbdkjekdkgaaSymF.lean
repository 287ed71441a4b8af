/-
  Calls with open arguments, by the reckoner: regions that draw their order.
-/
import Derived.Test.YtmjnbdkjekdkgaaSymE
namespace Go.Proofs.Ytmjnbdkjekdkgaa
open Go
set_option linter.unusedVariables false

variable {P : Program} {G : Env} {N : Nat} {st : St} {K : List (Nat × AV)} {T : Tr AV} {ops : List Oper} {rest : List (Nat × Oper × Nat)} {R : Tr AV → St → Prop} {sn : List St}
/-- A plan by indices. -/
def plF (ops : List Oper) (q : Nat × Nat) : Nat × Oper × Nat := (q.1, (ops[q.1]?).getD ⟨none, .move (.tmp 0), 0, "", #[], none⟩, q.2)
theorem plF_cons {ops : List Oper} {i n : Nat} {o : Oper} (ho : ops[i]? = some o) (r : List (Nat × Nat)) : ((i, n) :: r).map (plF ops) = (i, o, n) :: r.map (plF ops) := by
  rw [List.map_cons]
  unfold plF
  rw [ho]
  rfl
theorem w_drawI {id : Nat} {ops : Array Oper} {Q : Ex → Tr AV → St → Prop} {l : List (Nat × Nat)} (hp : planOf P ops.toList = some (l.map (plF ops.toList)))
    (h : WD P G N ops.toList (l.map (plF ops.toList)) (Q .nor) T st [st]) : W P G N (.region id ops true) Q T st := w_draw hp h
theorem wd_nil (h : R T st) : WD P G N ops (([] : List (Nat × Nat)).map (plF ops)) R T st sn := ⟨0, 0, T, st, rfl, h⟩
theorem wd_step {i n : Nat} {o : Oper} {v : AV} {st1 : St} (hw : wants ops o T = true) (h : ∃ L n, ∀ L' n', L ≤ L' → n ≤ n' → opF P (opd G T) (callF P G L' n') o st = some (v, st1)) (ha : again P G o T v n sn.tail = true) (hd : ∀ d, o.dst = some d → d < N)
    (hn : WD P G N ops rest R (match o.dst with | some d => T.set d v | none => T) st1 (bif' (Nat.beq (kindA P o.op) 3) (st1 :: sn) sn)) : WD P G N ops ((i, o, n) :: rest) R T st sn := by
  obtain ⟨L, m, h⟩ := h
  obtain ⟨L', m', T', st', h1, h2⟩ := hn
  refine ⟨max L L', max m m', T', st', ?_, h2⟩
  show (ob (stepF P G _ ops o T st) fun r => need (bif' (wants ops o T) (again P G o T r.1 n (List.rec [] (fun _ t _ => t) sn)) true)
    (putF N o.dst r.1 T fun T => tl (regD P G _ N ops rest T r.2 (bif' (Nat.beq (kindA P o.op) 3) (r.2 :: sn) sn)))) = _
  have e : stepF P G (callF P G (max L L') (max m m')) ops o T st = some (v, st1) := by
    unfold stepF
    rw [hw, bif_true]
    exact h _ _ (Nat.le_max_left _ _) (Nat.le_max_left _ _)
  rw [e, ob_some, hw, bif_true, rec_tail]
  show need (again P G o T v n sn.tail) _ = _
  rw [ha, need_true']
  have h1' := regD_mono (callF_mono m' (max m m') L' (max L L') (Nat.le_max_right _ _) (Nat.le_max_right _ _)) _ _ _ _ _ h1
  cases hdst : o.dst with
  | none => rw [hdst] at h1'; exact h1'
  | some d =>
    rw [hdst] at h1'
    show need (Nat.ble (d + 1) N) (T.put d v _) = _
    rw [Nat.ble_eq_true_of_le (hd d hdst), Tr.put_eq]
    exact h1'
section
variable {r : List (Nat × Nat)} {i d : Nat} {op : Op} {ty : TypeId} {pos : String} {af : Array Edge} {v : AV} {st1 : St}
theorem wd_op (ho : ops[i]? = some ⟨some d, op, ty, pos, af, none⟩) (hK : KnT K T) (h : OpS P G K op st v st1) (hk : Nat.beq (kindA P op) 3 = false) (hN : d < N) (hn : ∀ T', KnT ((d, v) :: K) T' → WD P G N ops (r.map (plF ops)) R T' st1 sn) :
    WD P G N ops (((i, 0) :: r).map (plF ops)) R T st sn := by
  rw [plF_cons ho]
  exact wd_step rfl (h T hK _ _ _ _ _) rfl (fun e he => by injection he with he; rw [← he]; exact hN) (by
    show WD P G N ops (r.map (plF ops)) R _ st1 (bif' (Nat.beq (kindA P op) 3) _ _)
    rw [hk]; exact hn _ (hK.set d v))
theorem wd_act (ho : ops[i]? = some ⟨some d, op, ty, pos, af, none⟩) (hK : KnT K T) (h : OpS P G K op st v st1) (hk : Nat.beq (kindA P op) 3 = true) (hN : d < N) (hn : ∀ T', KnT ((d, v) :: K) T' → WD P G N ops (r.map (plF ops)) R T' st1 (st1 :: sn)) :
    WD P G N ops (((i, 0) :: r).map (plF ops)) R T st sn := by
  rw [plF_cons ho]
  exact wd_step rfl (h T hK _ _ _ _ _) rfl (fun e he => by injection he with he; rw [← he]; exact hN) (by
    show WD P G N ops (r.map (plF ops)) R _ st1 (bif' (Nat.beq (kindA P op) 3) _ _)
    rw [hk]; exact hn _ (hK.set d v))
/-- A load that stands before an act or behind it. -/
theorem wd_load1 {t : TypeId} {x : Operand} {u : AV} {s0 s1 : St} (ho : ops[i]? = some ⟨some d, .load t x, ty, pos, af, none⟩) (hK : KnT K T) (hx : opK G K x = some u) (h : loadA P t u st.h.get = some v) (h1 : loadA P t u s1.h.get = some v) (he : eqV v v = true) (hk : Nat.beq (kindA P (.load t x)) 3 = false) (hN : d < N)
    (hn : ∀ T', KnT ((d, v) :: K) T' → WD P G N ops (r.map (plF ops)) R T' st (s0 :: s1 :: sn)) : WD P G N ops (((i, 1) :: r).map (plF ops)) R T st (s0 :: s1 :: sn) := by
  rw [plF_cons ho]
  exact wd_step rfl (os_load hx h T hK _ _ _ _ _) (by
    show bif' (Option.rec false (fun x => Option.rec false (fun u => eqV u v) (loadA P t x s1.h.get)) (opd G T x)) true false = true
    rw [hK.opd hx]
    show bif' (Option.rec false (fun u => eqV u v) (loadA P t u s1.h.get)) true false = true
    rw [h1]
    show bif' (eqV v v) true false = true
    rw [he]; rfl) (fun e he => by injection he with he; rw [← he]; exact hN) (by
    show WD P G N ops (r.map (plF ops)) R _ st (bif' (Nat.beq (kindA P (.load t x)) 3) _ _)
    rw [hk]; exact hn _ (hK.set d v))
theorem wd_opb {x : Bool} (ho : ops[i]? = some ⟨some d, op, ty, pos, af, none⟩) (hK : KnT K T) (h : OpS P G K op st (.bool x) st1) (hk : Nat.beq (kindA P op) 3 = false) (hN : d < N) (hn : ∀ (b : Bool) T', x = b → KnT ((d, .bool b) :: K) T' → WD P G N ops (r.map (plF ops)) R T' st1 sn) :
    WD P G N ops (((i, 0) :: r).map (plF ops)) R T st sn := wd_op ho hK h hk hN fun T' hT' => hn x T' rfl hT'
theorem wd_gy {j t : Nat} {pol : Bool} (ho : ops[i]? = some ⟨some d, op, ty, pos, af, some (j, pol)⟩) (hK : KnT K T) (ht : dstOf ops j = some t) (hb : K.lookup t = some (.bool pol)) (h : OpS P G K op st v st1) (hk : Nat.beq (kindA P op) 3 = false) (hN : d < N)
    (hn : ∀ T', KnT ((d, v) :: K) T' → WD P G N ops (r.map (plF ops)) R T' st1 sn) : WD P G N ops (((i, 0) :: r).map (plF ops)) R T st sn := by
  rw [plF_cons ho]
  exact wd_step (by rw [wants_known hK ht hb]; cases pol <;> rfl) (h T hK _ _ _ _ _) rfl (fun e he => by injection he with he; rw [← he]; exact hN) (by
    show WD P G N ops (r.map (plF ops)) R _ st1 (bif' (Nat.beq (kindA P op) 3) _ _)
    rw [hk]; exact hn _ (hK.set d v))
theorem wd_gya {j t : Nat} {pol : Bool} (ho : ops[i]? = some ⟨some d, op, ty, pos, af, some (j, pol)⟩) (hK : KnT K T) (ht : dstOf ops j = some t) (hb : K.lookup t = some (.bool pol)) (h : OpS P G K op st v st1) (hk : Nat.beq (kindA P op) 3 = true) (hN : d < N)
    (hn : ∀ T', KnT ((d, v) :: K) T' → WD P G N ops (r.map (plF ops)) R T' st1 (st1 :: sn)) : WD P G N ops (((i, 0) :: r).map (plF ops)) R T st sn := by
  rw [plF_cons ho]
  exact wd_step (by rw [wants_known hK ht hb]; cases pol <;> rfl) (h T hK _ _ _ _ _) rfl (fun e he => by injection he with he; rw [← he]; exact hN) (by
    show WD P G N ops (r.map (plF ops)) R _ st1 (bif' (Nat.beq (kindA P op) 3) _ _)
    rw [hk]; exact hn _ (hK.set d v))
theorem wd_gn {j t n : Nat} {b pol : Bool} (ho : ops[i]? = some ⟨some d, op, ty, pos, af, some (j, pol)⟩) (hK : KnT K T) (ht : dstOf ops j = some t) (hb : K.lookup t = some (.bool b)) (hne : (b == pol) = false) (hN : d < N)
    (hn : ∀ T' sn', KnT ((d, .tup []) :: K) T' → WD P G N ops (r.map (plF ops)) R T' st sn') : WD P G N ops (((i, n) :: r).map (plF ops)) R T st sn := by
  rw [plF_cons ho]
  obtain ⟨L', n', T', st', h1, h2⟩ := hn _ (bif' (Nat.beq (kindA P op) 3) (st :: sn) sn) (hK.set d (.tup []))
  refine ⟨L', n', T', st', ?_, h2⟩
  show (ob (stepF P G _ ops _ T st) fun x => need (bif' (wants ops _ T) _ true) (putF N (some d) x.1 T fun T => tl (regD P G _ N ops (r.map (plF ops)) T x.2 (bif' (Nat.beq (kindA P op) 3) (x.2 :: sn) sn)))) = _
  unfold stepF
  rw [wants_known hK ht hb, hne, bif_false, ob_some, bif_false, need_true']
  show need (Nat.ble (d + 1) N) (T.put d (.tup []) _) = _
  rw [Nat.ble_eq_true_of_le hN, Tr.put_eq]
  exact h1
end
theorem eq5 {op name : List Nat} {n at_ : Int} {ks : AV} {m : Nat} (h : slLen ks = some m) : eqV (.agg [.str op, .str name, .int .i64 n, .int .i64 at_, ks]) (.agg [.str op, .str name, .int .i64 n, .int .i64 at_, ks]) = true := by
  have hT : ∀ l : List Nat, eqT l l = true := fun l => by rw [eqT_eq]; simp
  have hk : eqCell ks ks = true := by
    cases ks <;> simp only [slLen] at h <;> first | (cases h; done) | skip
    all_goals simp [eqCell, bif']
    rename_i s
    cases s <;> simp [eqON]
  show bif' (eqT op op) (bif' (eqT name name) (bif' (bif' (eqK .i64 .i64) (eqI n n) false) (bif' (bif' (eqK .i64 .i64) (eqI at_ at_) false) (bif' (eqCell ks ks) true false) false) false) false) false = true
  rw [hT, hT, hk, eqK_self, eqI_eq, eqI_eq]
  simp [bif']
end Go.Proofs.Ytmjnbdkjekdkgaa
