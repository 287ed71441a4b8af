/-
  Calls with open arguments, by the reckoner: what each operation yields.
-/
import Derived.Test.YtmjnbdkjekdkgaaSymB
namespace Go.Proofs.Ytmjnbdkjekdkgaa
open Go
set_option linter.unusedVariables false
set_option linter.unusedSimpArgs false

variable {P : Program} {G : Env} {K : List (Nat × AV)} {st : St}
theorem OpS.of {op : Op} {v : AV} {st1 : St} (h : ∀ T, KnT K T → ∀ (c : CallF) (d : Option Tmp) (ty : TypeId) (pos : String) (af : Array Edge) (g : Option (Nat × Bool)), opF P (opd G T) c ⟨d, op, ty, pos, af, g⟩ st = some (v, st1)) : OpS P G K op st v st1 :=
  fun T hT d ty pos af g => ⟨0, 0, fun _ _ _ _ => h T hT _ d ty pos af g⟩
theorem os_move {x : Operand} {v : AV} (hx : opK G K x = some v) : OpS P G K (.move x) st v st := .of fun T hT c d ty pos af g => by
  show ret (opd G T x) st = _
  rw [hT.opd hx]; rfl
theorem os_assign {x : Operand} {v : AV} (hx : opK G K x = some v) : OpS P G K (.assign x) st v st := .of fun T hT c d ty pos af g => by
  show ret (opd G T x) st = _
  rw [hT.opd hx]; rfl
theorem os_pick {x a b : Operand} {t : Bool} {u v : AV} (hx : opK G K x = some (.bool t)) (ha : opK G K a = some u) (hb : opK G K b = some v) : OpS P G K (.pick x a b) st (bif' t u v) st := .of fun T hT c d ty pos af g => by
  show (ob (opd G T x) fun c => (match c with
    | .bool t => ret (bif' t (opd G T a) (opd G T b)) st
    | _ => none)) = _
  rw [hT.opd hx, ob_some]
  show ret (bif' t (opd G T a) (opd G T b)) st = _
  rw [hT.opd ha, hT.opd hb]
  cases t <;> rfl
theorem os_bin {op : BinOp} {t yt : TypeId} {x y : Operand} {u w v : AV} (hx : opK G K x = some u) (hy : opK G K y = some w) (h : b2 P op t u w = some v) : OpS P G K (.binOp op t x y yt) st v st := .of fun T hT c d ty pos af g => by
  show ret (ob (opd G T x) fun x => ob (opd G T y) fun y => b2 P op t x y) st = _
  rw [hT.opd hx, hT.opd hy, ob_some, ob_some, h]; rfl
theorem eqK_self (k : IntKind) : eqK k k = true := decide_eq_true rfl
theorem b2_int {op : BinOp} {t : TypeId} {k : IntKind} {a b : Int} (h1 : op ≠ .shl) (h2 : op ≠ .shr) : b2 P op t (.int k a) (.int k b) = b2i op k a b := by
  cases op <;> first
    | exact absurd rfl h1
    | exact absurd rfl h2
    | (show need (eqK k k) _ = _; rw [eqK_self]; rfl)
theorem os_lss {t yt : TypeId} {x y : Operand} {k : IntKind} {a b : Int} (hx : opK G K x = some (.int k a)) (hy : opK G K y = some (.int k b)) : OpS P G K (.binOp .lss t x y yt) st (.bool (decide (a < b))) st :=
  os_bin hx hy (by rw [b2_int (by decide) (by decide)]; show some (AV.bool (ltI a b)) = _; rw [ltI_eq])
theorem os_gtr {t yt : TypeId} {x y : Operand} {k : IntKind} {a b : Int} (hx : opK G K x = some (.int k a)) (hy : opK G K y = some (.int k b)) : OpS P G K (.binOp .gtr t x y yt) st (.bool (decide (b < a))) st :=
  os_bin hx hy (by rw [b2_int (by decide) (by decide)]; show some (AV.bool (ltI b a)) = _; rw [ltI_eq])
theorem not_lt_dec (a b : Int) : (!decide (a < b)) = decide (b ≤ a) := by
  by_cases h : a < b
  · rw [decide_eq_true h, decide_eq_false (by omega)]; rfl
  · rw [decide_eq_false h, decide_eq_true (by omega)]; rfl
theorem os_leq {t yt : TypeId} {x y : Operand} {k : IntKind} {a b : Int} (hx : opK G K x = some (.int k a)) (hy : opK G K y = some (.int k b)) : OpS P G K (.binOp .leq t x y yt) st (.bool (decide (a ≤ b))) st :=
  os_bin hx hy (by rw [b2_int (by decide) (by decide)]; show some (AV.bool (!ltI b a)) = _; rw [ltI_eq, not_lt_dec])
theorem os_geq {t yt : TypeId} {x y : Operand} {k : IntKind} {a b : Int} (hx : opK G K x = some (.int k a)) (hy : opK G K y = some (.int k b)) : OpS P G K (.binOp .geq t x y yt) st (.bool (decide (b ≤ a))) st :=
  os_bin hx hy (by rw [b2_int (by decide) (by decide)]; show some (AV.bool (!ltI a b)) = _; rw [ltI_eq, not_lt_dec])
theorem eqI_dec (a b : Int) : eqI a b = decide (a = b) := by rw [eqI_eq]; exact Bool.beq_eq_decide_eq a b
theorem os_eqI {t yt : TypeId} {x y : Operand} {k : IntKind} {a b : Int} (hx : opK G K x = some (.int k a)) (hy : opK G K y = some (.int k b)) : OpS P G K (.binOp .eql t x y yt) st (.bool (decide (a = b))) st :=
  os_bin hx hy (by rw [b2_int (by decide) (by decide)]; show some (AV.bool (eqI a b)) = _; rw [eqI_dec])
theorem os_neI {t yt : TypeId} {x y : Operand} {k : IntKind} {a b : Int} (hx : opK G K x = some (.int k a)) (hy : opK G K y = some (.int k b)) : OpS P G K (.binOp .neq t x y yt) st (.bool (!decide (a = b))) st :=
  os_bin hx hy (by rw [b2_int (by decide) (by decide)]; show some (AV.bool (!eqI a b)) = _; rw [eqI_dec])
theorem wrap64 {n : Int} (h1 : -9223372036854775808 ≤ n) (h2 : n ≤ 9223372036854775807) : IntKind.i64.wrap n = n := IntWalk.i64_in n (by omega)
theorem os_add {t yt : TypeId} {x y : Operand} {a b : Int} (hx : opK G K x = some (.int .i64 a)) (hy : opK G K y = some (.int .i64 b)) (h1 : -9223372036854775808 ≤ a + b) (h2 : a + b ≤ 9223372036854775807) : OpS P G K (.binOp .add t x y yt) st (.int .i64 (a + b)) st :=
  os_bin hx hy (by rw [b2_int (by decide) (by decide)]; show sInt (wrapF .i64 (a + b)) (fun z => some (AV.int .i64 z)) = _; rw [sInt_eq, wrapF_eq, wrap64 h1 h2])
theorem os_sub {t yt : TypeId} {x y : Operand} {a b : Int} (hx : opK G K x = some (.int .i64 a)) (hy : opK G K y = some (.int .i64 b)) (h1 : -9223372036854775808 ≤ a - b) (h2 : a - b ≤ 9223372036854775807) : OpS P G K (.binOp .sub t x y yt) st (.int .i64 (a - b)) st :=
  os_bin hx hy (by rw [b2_int (by decide) (by decide)]; show sInt (wrapF .i64 (a - b)) (fun z => some (AV.int .i64 z)) = _; rw [sInt_eq, wrapF_eq, wrap64 h1 h2])
theorem os_eqS {t yt : TypeId} {x y : Operand} {a b : List Nat} (hx : opK G K x = some (.str a)) (hy : opK G K y = some (.str b)) : OpS P G K (.binOp .eql t x y yt) st (.bool (decide (a = b))) st :=
  os_bin hx hy (by show some (AV.bool (eqT a b)) = _; rw [eqT_eq])
theorem os_neS {t yt : TypeId} {x y : Operand} {a b : List Nat} (hx : opK G K x = some (.str a)) (hy : opK G K y = some (.str b)) : OpS P G K (.binOp .neq t x y yt) st (.bool (!decide (a = b))) st :=
  os_bin hx hy (by show some (AV.bool (!eqT a b)) = _; rw [eqT_eq])
theorem os_addS {t yt : TypeId} {x y : Operand} {a b : List Nat} (hx : opK G K x = some (.str a)) (hy : opK G K y = some (.str b)) (hl : a.length + b.length ≤ 9223372036854775807) : OpS P G K (.binOp .add t x y yt) st (.str (a ++ b)) st :=
  os_bin hx hy (by
    show bif' (Nat.ble (lenL a + lenL b) i64most) (sList (appL a b) fun l => some (AV.str l)) none = _
    rw [lenL_eq, lenL_eq, Nat.ble_eq_true_of_le (show a.length + b.length ≤ i64most from hl), bif_true, sList_eq, appL_eq])
theorem os_not {t : TypeId} {x : Operand} {b : Bool} (hx : opK G K x = some (.bool b)) : OpS P G K (.unOp .not t x) st (.bool (!b)) st := .of fun T hT c d ty pos af g => by
  show ret (ob (opd G T x) fun x => un1 .not x) st = _
  rw [hT.opd hx]; rfl
theorem os_nil {x : Operand} {v : AV} (hx : opK G K x = some v) (hv : (match v with | .ptr _ _ _ => true | .fn _ _ _ => true | _ => false) = true) : OpS P G K (.nilCheck x) st v st := .of fun T hT c d ty pos af g => by
  show ret (ob (opd G T x) fun v => (match v with
    | .ptr c m off => some (.ptr c m off)
    | .fn f a c => some (.fn f a c)
    | _ => none)) st = _
  rw [hT.opd hx, ob_some]
  cases v <;> first | rfl | cases hv
theorem os_fieldAddr {t : TypeId} {x : Operand} {f c m off o : Nat} (ho : fieldOff P t f = some o) (hx : opK G K x = some (.ptr c m off)) : OpS P G K (.fieldAddr t x f) st (.ptr c m (off + o)) st := .of fun T hT cc d ty pos af g => by
  show ret (ob (opd G T x) fun x => fieldAddrA P t x f) st = _
  rw [hT.opd hx, ob_some]
  show ret (ob (fieldOff P t f) fun o => sNat (off + o) fun z => some (AV.ptr c m z)) st = _
  rw [ho, ob_some, sNat_eq]; rfl
theorem os_field {t : TypeId} {x : Operand} {f : Nat} {u v : AV} (hx : opK G K x = some u) (h : fieldA P t u f = some v) : OpS P G K (.field t x f) st v st := .of fun T hT cc d ty pos af g => by
  show ret (ob (opd G T x) fun x => fieldA P t x f) st = _
  rw [hT.opd hx, ob_some, h]; rfl
theorem os_extract {x : Operand} {i : Nat} {l : List AV} {v : AV} (hx : opK G K x = some (.tup l)) (h : nth l i = some v) : OpS P G K (.extract x i) st v st := .of fun T hT cc d ty pos af g => by
  show ret (ob (opd G T x) fun v => (match v with
    | .tup l => nth l i
    | _ => none)) st = _
  rw [hT.opd hx, ob_some]
  show ret (nth l i) st = _
  rw [h]; rfl
theorem os_indexAddr {t : TypeId} {x i : Operand} {c m off len z z' : Nat} {k : IntKind} {j : Nat} (he : elemOfA P t = some z) (hx : opK G K x = some (.sl c m off len z')) (hi : opK G K i = some (.int k (j : Int))) (hj : j < len) :
    OpS P G K (.indexAddr t x i) st (.ptr c m (off + j * z)) st := .of fun T hT cc d ty pos af g => by
  show ret (ob (opd G T x) fun x => ob (opd G T i) fun i => indexAddrA P t x i) st = _
  rw [hT.opd hx, hT.opd hi, ob_some, ob_some]
  show ret (ob (toN (j : Int)) fun i => need (Nat.ble (i + 1) len) (ob (elemOfA P t) fun z => sNat (off + i * z) fun o => some (AV.ptr c m o))) st = _
  show ret (need (Nat.ble (j + 1) len) (ob (elemOfA P t) fun z => sNat (off + j * z) fun o => some (AV.ptr c m o))) st = _
  rw [Nat.ble_eq_true_of_le hj, he]
  show ret (sNat (off + j * z) fun o => some (AV.ptr c m o)) st = _
  rw [sNat_eq]; rfl
theorem os_indexS {t : TypeId} {x i : Operand} {l : List Nat} {k : IntKind} {j b : Nat} (ht : P.underlying t = some .string) (hx : opK G K x = some (.str l)) (hi : opK G K i = some (.int k (j : Int))) (hj : l[j]? = some b) :
    OpS P G K (.index t x i) st (.int .u8 (b : Int)) st := .of fun T hT cc d ty pos af g => by
  show ret (ob (opd G T x) fun x => ob (opd G T i) fun i => indexA P t x i) st = _
  rw [hT.opd hx, hT.opd hi, ob_some, ob_some]
  unfold indexA
  simp only [ht]
  show ret (ob (nth l j) fun b => some (AV.int .u8 (Int.ofNat b))) st = _
  rw [nth_eq, hj]; rfl
theorem os_lenS {tys : Array TypeId} {t : TypeId} {x : Operand} {l : List Nat} (ht : P.underlying t = some .string) (htys : tys = #[t]) (hx : opK G K x = some (.str l)) :
    OpS P G K (.call { callee := .builtin .len, args := #[x], argTypes := tys }) st (.int .i64 (l.length : Int)) st := .of fun T hT cc d ty pos af g => by
  subst htys
  show ret (ob (opd G T x) fun x => lenA P [t] x) st = _
  rw [hT.opd hx, ob_some]
  unfold lenA
  simp only [ht, sNat_eq, lenL_eq]
  rfl
/-- How long a row is. -/
def slLen : AV → Option Nat
  | .nils => some 0
  | .slz _ _ _ _ _ => some 0
  | .sl0 _ _ _ => some 0
  | .sl _ _ _ n _ => some n
  | _ => none
theorem os_lenL {tys : Array TypeId} {t e : TypeId} {x : Operand} {u : AV} {n : Nat} (ht : P.underlying t = some (.slice e)) (htys : tys = #[t]) (hx : opK G K x = some u) (hn : slLen u = some n) :
    OpS P G K (.call { callee := .builtin .len, args := #[x], argTypes := tys }) st (.int .i64 (n : Int)) st := .of fun T hT cc d ty pos af g => by
  subst htys
  show ret (ob (opd G T x) fun x => lenA P [t] x) st = _
  rw [hT.opd hx, ob_some]
  cases u <;> simp only [slLen] at hn <;> first | (cases hn; done) | skip
  all_goals
    injection hn with hn
    subst hn
    unfold lenA
    simp only [ht]
    rfl
theorem os_call {f : FuncId} {args : Array Operand} {tys : Array TypeId} {l : List AV} {v : AV} {st1 : St} (ha : mapO (opK G K) args.toList = some l) (h : Ev P G f l st v st1) :
    OpS P G K (.call { callee := .value (.func f), args := args, argTypes := tys }) st v st1 := fun T hT d ty pos af g => by
  obtain ⟨L, n, h⟩ := h
  refine ⟨L, n, fun L' n' hL hn => ?_⟩
  show (ob (opd G T (.func f)) fun v => (match v with
    | .fn fid a cap => ob (mapO (opd G T) args.toList) fun l => callF P G L' n' fid (appL a (appL l cap)) st
    | _ => none)) = _
  show (ob (mapO (opd G T) args.toList) fun l => callF P G L' n' f (appL [] (appL l [])) st) = _
  rw [hT.row _ _ ha, ob_some, appL_eq, appL_eq, List.nil_append, List.append_nil]
  exact callF_mono n n' L L' hn hL _ _ _ _ h
theorem os_callv {g : Operand} {args : Array Operand} {tys : Array TypeId} {f : FuncId} {a l cap : List AV} {v : AV} {st1 : St} (hg : opK G K g = some (.fn f a cap)) (ha : mapO (opK G K) args.toList = some l) (h : Ev P G f (a ++ (l ++ cap)) st v st1) :
    OpS P G K (.call { callee := .value g, args := args, argTypes := tys }) st v st1 := fun T hT d ty pos af gg => by
  obtain ⟨L, n, h⟩ := h
  refine ⟨L, n, fun L' n' hL hn => ?_⟩
  show (ob (opd G T g) fun v => (match v with
    | .fn fid a cap => ob (mapO (opd G T) args.toList) fun l => callF P G L' n' fid (appL a (appL l cap)) st
    | _ => none)) = _
  rw [hT.opd hg, ob_some]
  show (ob (mapO (opd G T) args.toList) fun l => callF P G L' n' f (appL a (appL l cap)) st) = _
  rw [hT.row _ _ ha, ob_some, appL_eq, appL_eq]
  exact callF_mono n n' L L' hn hL _ _ _ _ h
theorem os_func {f : FuncId} {first cap : Array Operand} {a c : List AV} (ha : mapO (opK G K) first.toList = some a) (hc : mapO (opK G K) cap.toList = some c) : OpS P G K (.makeFunc (.func f) first cap) st (.fn f a c) st := .of fun T hT cc d ty pos af g => by
  show ret (ob (mapO (opd G T) first.toList) fun l => ob (mapO (opd G T) cap.toList) fun r => some (AV.fn f l r)) st = _
  rw [hT.row _ _ ha, hT.row _ _ hc]; rfl
theorem os_load {t : TypeId} {x : Operand} {u v : AV} (hx : opK G K x = some u) (h : loadA P t u st.h.get = some v) : OpS P G K (.load t x) st v st := .of fun T hT cc d ty pos af g => by
  show (ob (opd G T x) fun x => ret (loadA P t x st.h.get) st) = _
  rw [hT.opd hx, ob_some, h]; rfl
theorem os_slice {t : TypeId} {x : Operand} {lo hi : Option Operand} {u v : AV} (hx : opK G K x = some u) (h : ∀ T, KnT K T → sliceA P t u (opd G T) lo hi = some v) : OpS P G K (.slice t x lo hi none) st v st := .of fun T hT cc d ty pos af g => by
  show ret (ob (opd G T x) fun x => sliceA P t x (opd G T) lo hi) st = _
  rw [hT.opd hx, ob_some, h T hT]; rfl
theorem os_convert {s d : TypeId} {x : Operand} {u v : AV} (hx : opK G K x = some u) (h : convM P s d u st.h.get = some v) : OpS P G K (.convert s d x) st v st := .of fun T hT cc dd ty pos af g => by
  show ret (ob (opd G T x) fun x => convM P s d x st.h.get) st = _
  rw [hT.opd hx, ob_some, h]; rfl

/-! Functions. -/
theorem ev_fn {f : FuncId} {fn : Func} {c : Code} {N : Nat} {rs : List ResultVar} {args : List AV} {Q : AV → St → Prop} (hs : G.s f = none) (hf : P.funcs[f]? = some fn) (hb : fn.body = some c) (hN : fn.ntmps = N) (hr : fn.results.toList = rs) (hname : (fn.name == "runtime.NumGoroutine") = false) (hl : args.length ≤ N)
    (h : ∀ T, (∀ t, tget T t = (args[t]?).getD (.tup [])) → W P G N c (fun x T st => (x = .nor ∨ x = .ret) ∧ ∃ v, resultsF P rs T st = some v ∧ Q v st) T st) : ∃ v st', Ev P G f args st v st' ∧ Q v st' := by
  obtain ⟨T, hT1, hT2⟩ := argsF_all args
  obtain ⟨L, n, x, T', st', h1, hx, v, h2, h3⟩ := h T hT2
  refine ⟨v, st', ⟨L, n + 1, ?_⟩, h3⟩
  show (Option.rec (ob (fnOf P f) fun q => need (Nat.ble (lenL args) q.2.1) (argsF args fun T => endF (codeF P G (callF P G L n) q.2.1 L q.1 T st) fun T st => ob (resultsF P q.2.2 T st) fun v => some (v, st))) (fun sm => sm args st) (G.s f) : Option (AV × St)) = some (v, st')
  rw [hs]
  show (ob (fnOf P f) fun q => need (Nat.ble (lenL args) q.2.1) (argsF args fun T => endF (codeF P G (callF P G L n) q.2.1 L q.1 T st) fun T st => ob (resultsF P q.2.2 T st) fun v => some (v, st))) = some (v, st')
  have hfn : fnOf P f = some (c, N, rs) := by
    unfold fnOf
    rw [hf]
    simp only [hb, hname, hN, hr]
    rfl
  rw [hfn, ob_some, lenL_eq, Nat.ble_eq_true_of_le hl, hT1, need_true']
  show endF (codeF P G (callF P G L n) N L c T st) _ = _
  rw [h1]
  rcases hx with rfl | rfl
  · show ob (resultsF P rs T' st') _ = _
    rw [h2]; rfl
  · show ob (resultsF P rs T' st') _ = _
    rw [h2]; rfl
end Go.Proofs.Ytmjnbdkjekdkgaa
