/-
  A reckoner for closed calls: regions, code, calls.
-/
import Derived.Test.YtmjnbdkjekdkgaaEvI
namespace Go.Proofs.Ytmjnbdkjekdkgaa
open Go
set_option linter.unusedVariables false
set_option linter.unusedSimpArgs false

noncomputable section

/-- What is known of the program beside its text: which of its variables are; which functions go through a row from behind (the row's type, its elements'); which functions are reckoned by a rule of their own. -/
structure Env where
  g : Nat → Bool
  b : FuncId → Option (TypeId × TypeId)
  s : FuncId → Option (List AV → St → Option (AV × St))
def env0 : Env := ⟨fun _ => false, fun _ => none, fun _ => none⟩

def tget (T : Tr AV) (t : Nat) : AV := Option.rec (.tup []) (fun v => v) (T.get t)
/-- What an operand says. -/
def opd (G : Env) (T : Tr AV) (x : Operand) : Option AV := match x with
  | .tmp t => some (tget T t)
  | .const v => ofConst v
  | .global g => need (G.g g) (some (.ptr g 0 0))
  | .func f => some (.fn f [] [])
abbrev CallF := FuncId → List AV → St → Option (AV × St)

/-- The temporary that an operation writes. -/
def dstOf (ops : List Oper) (j : Nat) : Option Nat := ob (nth ops j) fun o => o.dst
def wants (ops : List Oper) (o : Oper) (T : Tr AV) : Bool := match o.guard with
  | none => true
  | some g => Option.rec false (fun t => (match tget T t with
    | .bool b => bif' b g.2 (!g.2)
    | _ => false)) (dstOf ops g.1)
/-- One operation; what it yields. -/
def opF (P : Program) (R : Operand → Option AV) (call : CallF) (o : Oper) (st : St) : Option (AV × St) := match o.op with
  | .call c => (match c.callee with
    | .value f => ob (R f) fun v => (match v with
      | .fn fid a cap => ob (mapO R c.args.toList) fun l => call fid (appL a (appL l cap)) st
      | _ => none)
    | _ => aop P R o.op st)
  | _ => aop P R o.op st
def stepF (P : Program) (G : Env) (call : CallF) (ops : List Oper) (o : Oper) (T : Tr AV) (st : St) : Option (AV × St) :=
  bif' (wants ops o T) (opF P (opd G T) call o st) (some (.tup [], st))
/-- A temporary is written. -/
def putF {β : Type} (N : Nat) (dst : Option Nat) (v : AV) (T : Tr AV) (k : Tr AV → Option β) : Option β := Option.rec (k T) (fun d => need (Nat.ble (d + 1) N) (T.put d v k)) dst

/-- A region in the order of its text. -/
def regS (P : Program) (G : Env) (call : CallF) (N : Nat) (ops : List Oper) (l : List Oper) : Tr AV → St → Option (Tr AV × St) :=
  List.rec (fun T st => some (T, st)) (fun o _ ih T st => ob (stepF P G call ops o T st) fun r => putF N o.dst r.1 T fun T => tl (ih T r.2)) l

/-! A region that draws its order: what stands ahead of what; the order in which it is reckoned here. -/
def edgesOf (o : Oper) : List Nat := (o.after.toList.filter fun e => Region.binds .any e).map Edge.on
def orL (l : List Nat) : Nat := List.rec 0 (fun a _ ih => a ||| ih) l
/-- Masks of all that stands ahead, operation by operation. -/
def masksF (ops : List Oper) : List Nat := List.rec (fun acc => acc) (fun o _ ih acc => ih (appL acc [orL (mapL (fun e => 2 ^ e ||| (Option.rec 0 (fun x => x) (nth acc e))) (edgesOf o))])) ops []
/-- Those of a range that stand in a mask and not in another. -/
def inMask (m placed : Nat) (l : List Nat) : List Nat := List.rec [] (fun i _ ih => bif' (Nat.testBit m i) (bif' (Nat.testBit placed i) ih (i :: ih)) ih) l
def rangeL (n : Nat) : List Nat := Nat.rec [] (fun i ih => appL ih [i]) n
/-- The order: ahead of each act what it hangs on, no more. -/
def orderF (P : Program) (ops : List Oper) (ms : List Nat) (n : Nat) : List Nat :=
  List.rec (fun (_ placed : Nat) => inMask (2 ^ n - 1) placed (rangeL n)) (fun o _ ih i placed => bif' (Nat.beq (kindA P o.op) 3)
    (appL (inMask (Option.rec 0 (fun x => x) (nth ms i)) placed (rangeL n)) (i :: ih (i + 1) (placed ||| Option.rec 0 (fun x => x) (nth ms i) ||| 2 ^ i)))
    (ih (i + 1) placed)) ops 0 0
/-- How many of the acts reckoned so far do not stand ahead. -/
def freeOf (m : Nat) (acts : List Nat) : Nat := List.rec 0 (fun e _ ih => bif' (Nat.testBit m e) ih (ih + 1)) acts
/-- The plan: each operation with how many of the last states a read must be reckoned at again; nothing: there is none. -/
def planF (P : Program) (ops : List Oper) (ms : List Nat) (n : Nat) (order : List Nat) : Option (List (Nat × Oper × Nat)) :=
  List.rec (fun placed (_ : List Nat) => need (Nat.beq placed (2 ^ n - 1)) (some [])) (fun i _ ih placed acts => ob (nth ops i) fun o => ob (nth ms i) fun m =>
    need (!Nat.testBit placed i) (need (Nat.beq (m &&& placed) m) (need (bif' (Nat.beq (kindA P o.op) 3) (Nat.beq m placed) true)
      (ob (ih (placed ||| 2 ^ i) (bif' (Nat.beq (kindA P o.op) 3) (i :: acts) acts)) fun r => some ((i, o, bif' (Nat.beq (kindA P o.op) 1) (freeOf m acts) 0) :: r))))) order 0 []
/-- The temporaries that an operation looks at. -/
def looksF (ops : List Oper) (o : Oper) : List Nat := appL (List.rec [] (fun x _ ih => (match x with
  | .tmp t => t :: ih
  | _ => ih)) o.op.operands.toList) (match o.guard with
  | none => []
  | some g => Option.rec [] (fun t => [t]) (dstOf ops g.1))
def memN (x : Nat) (l : List Nat) : Bool := List.rec false (fun y _ ih => bif' (Nat.beq x y) true ih) l
/-- Each masks is what its edges say, and edges point back. -/
def maskOk (ops : List Oper) (ms : List Nat) : Bool := List.rec (fun _ => true) (fun o _ ih i => bif' (allL (fun e => Nat.ble (e + 1) i) (edgesOf o))
  (bif' (Nat.beq (Option.rec 0 (fun x => x) (nth ms i)) (orL (mapL (fun e => 2 ^ e ||| (Option.rec 0 (fun x => x) (nth ms e))) (edgesOf o)))) (ih (i + 1)) false) false) ops 0
/-- Of two operations one of which writes what the other looks at, one stands ahead; no two write one. -/
def pairOk (ops : List Oper) (ms : List Nat) (i : Nat) (o : Oper) (j : Nat) (q : Oper) : Bool := Option.rec true (fun t => bif' (Nat.beq i j) true
  (bif' (Option.rec false (fun u => Nat.beq t u) q.dst) false (bif' (memN t (looksF ops q)) (bif' (Nat.testBit (Option.rec 0 (fun x => x) (nth ms j)) i) true (Nat.testBit (Option.rec 0 (fun x => x) (nth ms i)) j)) true))) o.dst
def tmpsOk (ops : List Oper) (ms : List Nat) : Bool := List.rec (fun _ => true) (fun o _ ih i => bif' (List.rec (fun _ => true) (fun q _ ih2 j => bif' (pairOk ops ms i o j q) (ih2 (j + 1)) false) ops 0) (ih (i + 1)) false) ops 0
def planOf (P : Program) (ops : List Oper) : Option (List (Nat × Oper × Nat)) := need (maskOk ops (masksF ops)) (need (tmpsOk ops (masksF ops)) (planF P ops (masksF ops) (lenL ops) (orderF P ops (masksF ops) (lenL ops))))

def eqON (a b : Option Nat) : Bool := Option.rec (Option.rec true (fun _ => false) b) (fun x => Option.rec false (fun y => Nat.beq x y) b) a
def eqCell (a b : AV) : Bool := match a with
  | .bool x => (match b with | .bool y => bif' x y (!y) | _ => false)
  | .int j x => (match b with | .int k y => bif' (eqK j k) (eqI x y) false | _ => false)
  | .str x => (match b with | .str y => eqT x y | _ => false)
  | .nilp => (match b with | .nilp => true | _ => false)
  | .ptr c m o => (match b with | .ptr d n q => bif' (Nat.beq c d) (bif' (Nat.beq m n) (Nat.beq o q) false) false | _ => false)
  | .nils => (match b with | .nils => true | _ => false)
  | .sl c m o l z => (match b with | .sl d n q k y => bif' (Nat.beq c d) (bif' (Nat.beq m n) (bif' (Nat.beq o q) (bif' (Nat.beq l k) (Nat.beq z y) false) false) false) false | _ => false)
  | .slz c m o l z => (match b with | .slz d n q k y => bif' (Nat.beq c d) (bif' (Nat.beq m n) (bif' (Nat.beq o q) (bif' (Nat.beq l k) (Nat.beq z y) false) false) false) false | _ => false)
  | .sl0 x o s => (match b with | .sl0 y q t => bif' (Nat.beq x y) (bif' (Nat.beq o q) (eqON s t) false) false | _ => false)
  | .nilf => (match b with | .nilf => true | _ => false)
  | .nili => (match b with | .nili => true | _ => false)
  | .nilm => (match b with | .nilm => true | _ => false)
  | _ => false
def eqCells (a : List AV) : List AV → Bool := List.rec (fun b => List.rec true (fun _ _ _ => false) b) (fun x _ ih b => List.rec false (fun y t _ => bif' (eqCell x y) (ih t) false) b) a
def eqV (a b : AV) : Bool := match a with
  | .agg x => (match b with | .agg y => eqCells x y | _ => false)
  | _ => eqCell a b
/-- A read is reckoned at some states again. -/
def again (P : Program) (G : Env) (o : Oper) (T : Tr AV) (v : AV) (n : Nat) : List St → Bool := Nat.rec (fun _ => true) (fun _ ih l => List.rec false (fun st t _ =>
  bif' (match o.op with
    | .load t a => Option.rec false (fun x => Option.rec false (fun u => eqV u v) (loadA P t x st.h.get)) (opd G T a)
    | _ => false) (ih t) false) l) n
/-- A region that draws, along its plan; the states behind its acts, the newest first. -/
def regD (P : Program) (G : Env) (call : CallF) (N : Nat) (ops : List Oper) (pl : List (Nat × Oper × Nat)) : Tr AV → St → List St → Option (Tr AV × St) :=
  List.rec (fun T st _ => some (T, st)) (fun q _ ih T st sn => ob (stepF P G call ops q.2.1 T st) fun r => need (bif' (wants ops q.2.1 T) (again P G q.2.1 T r.1 q.2.2 (List.rec [] (fun _ t _ => t) sn)) true)
    (putF N q.2.1.dst r.1 T fun T => tl (ih T r.2 (bif' (Nat.beq (kindA P q.2.1.op) 3) (r.2 :: sn) sn)))) pl

/-- How code ends. -/
inductive Ex where
  | nor
  | exit (id : Nat)
  | ret
def condF {β : Type} (v : Option AV) (x y : Option β) : Option β := ob v fun v => (match v with
  | .bool b => bif' b x y
  | _ => none)
def thenF (r : Option (Ex × Tr AV × St)) (k : Tr AV → St → Option (Ex × Tr AV × St)) : Option (Ex × Tr AV × St) := ob r fun r => Ex.rec (tl (k r.2.1 r.2.2)) (fun _ => some r) (some r) r.1
def blockF (id : Nat) (r : Option (Ex × Tr AV × St)) : Option (Ex × Tr AV × St) := ob r fun r => Ex.rec (some r) (fun i => bif' (Nat.beq i id) (some (.nor, r.2)) (some r)) (some r) r.1
def loopF (L : Nat) (f : Tr AV → St → Option (Ex × Tr AV × St)) : Tr AV → St → Option (Ex × Tr AV × St) := Nat.rec (fun _ _ => none) (fun _ ih T st => thenF (f T st) ih) L
/-- No range over a function, no call put off. -/
def plainC (c : Code) : Bool := Code.rec (motive := fun _ => Bool) true (fun _ _ _ => true) (fun _ _ a b => bif' a b false) (fun _ _ _ a b => bif' a b false) (fun _ _ a => a) (fun _ a => a) (fun _ _ _ _ _ _ => false) (fun _ => true) (fun _ _ => false) (fun _ => true) (fun _ => true) true (fun _ => true) c
/-- Of a row from behind: a round's temporaries. -/
def back1 {β : Type} (N : Nat) (ps : List Tmp) (i v : AV) (T : Tr AV) (k : Tr AV → Option β) : Option β := match ps with
  | a :: b :: [] => putF N (some a) i T fun T => putF N (some b) v T k
  | _ => none
/-- The rounds that are left. -/
def backF (P : Program) (N : Nat) (ts te : TypeId) (cap : AV) (ps : List Tmp) (fa fb : Tr AV → St → Option (Ex × Tr AV × St)) (T : Tr AV) (n : Nat) : St → Option (Ex × Tr AV × St) :=
  Nat.rec (fun st => some (.nor, T, st)) (fun i ih st => ob (loadA P ts cap st.h.get) fun s => ob (indexAddrA P ts s (.int .i64 (Int.ofNat i))) fun q => ob (loadA P te q st.h.get) fun v =>
    back1 N ps (.int .i64 (Int.ofNat i)) v T fun T1 => ob (fa T1 st) fun r => Ex.rec (ob (fb r.2.1 r.2.2) fun q => Ex.rec (tl (ih q.2.2)) (fun id => some (.exit id, T, q.2.2)) (some (.ret, T, q.2.2)) q.1) (fun _ => none) none r.1) n
def rangeF (P : Program) (G : Env) (N : Nat) (g : Operand) (ps : List Tmp) (pl : Bool) (fa fb : Tr AV → St → Option (Ex × Tr AV × St)) (T : Tr AV) (st : St) : Option (Ex × Tr AV × St) :=
  need pl (ob (opd G T g) fun v => match v with
    | .fn f first cap => ob (G.b f) fun q => (match first with
      | [] => (match cap with
        | x :: [] => ob (loadA P q.1 x st.h.get) fun s => ob (lenA P [q.1] s) fun n => (match n with
          | .int _ n => ob (toN n) fun n => need (Nat.ble n i64most) (backF P N q.1 q.2 x ps fa fb T n st)
          | _ => none)
        | _ => none)
      | _ => none)
    | _ => none)
/-- Code. -/
def codeF (P : Program) (G : Env) (call : CallF) (N L : Nat) (c : Code) : Tr AV → St → Option (Ex × Tr AV × St) := Code.rec (motive := fun _ => Tr AV → St → Option (Ex × Tr AV × St))
  (fun T st => some (.nor, T, st))
  (fun _ ops draw T st => bif' draw (ob (planOf P ops.toList) fun pl => ob (regD P G call N ops.toList pl T st [st]) fun r => some (.nor, r)) (ob (regS P G call N ops.toList ops.toList T st) fun r => some (.nor, r)))
  (fun _ _ fa fb T st => thenF (fa T st) fb)
  (fun c _ _ fa fb T st => condF (opd G T c) (tl (fa T st)) (tl (fb T st)))
  (fun id _ f T st => blockF id (f T st))
  (fun _ f T st => loopF L f T st)
  (fun g ps a c fa fb T st => rangeF P G N g ps.toList (bif' (plainC a) (plainC c) false) fa fb T st)
  (fun id T st => some (.exit id, T, st))
  (fun _ _ _ _ => none)
  (fun _ T st => some (.nor, T, st))
  (fun _ _ _ => none)
  (fun T st => some (.ret, T, st))
  (fun _ _ _ => none)
  c

/-! Functions. -/
def fnOf (P : Program) (f : FuncId) : Option (Code × Nat × List ResultVar) := match P.funcs[f]? with
  | some fn => (match fn.body with
    | some c => bif' (fn.name == "runtime.NumGoroutine") none (some (c, fn.ntmps, fn.results.toList))
    | none => none)
  | none => none
def argsF {β : Type} (l : List AV) (k : Tr AV → β) : β := List.rec (fun (_ : Nat) T => k T) (fun v _ ih i T => T.put i v (ih (i + 1))) l 0 .nil
def resF (P : Program) (T : Tr AV) (st : St) (r : ResultVar) : Option AV := match r with
  | .tmp t => some (tget T t)
  | .cell a t => loadA P t (tget T a) st.h.get
def resultsF (P : Program) (l : List ResultVar) (T : Tr AV) (st : St) : Option AV := ob (mapO (resF P T st) l) fun vs => List.rec (some (.tup [])) (fun v t _ => List.rec (some v) (fun _ _ _ => some (.tup vs)) t) vs
def endF (r : Option (Ex × Tr AV × St)) (k : Tr AV → St → Option (AV × St)) : Option (AV × St) := ob r fun r => Ex.rec (k r.2.1 r.2.2) (fun _ => none) (k r.2.1 r.2.2) r.1
/-- A call. -/
def callF (P : Program) (G : Env) (L : Nat) (fuel : Nat) : CallF := Nat.rec (fun _ _ _ => none) (fun _ ih f args st => Option.rec (ob (fnOf P f) fun q => need (Nat.ble (lenL args) q.2.1) (argsF args fun T =>
  endF (codeF P G ih q.2.1 L q.1 T st) fun T st => ob (resultsF P q.2.2 T st) fun v => some (v, st))) (fun sm => sm args st) (G.s f)) fuel

/-- A closed call yields true. -/
def isTrue (r : Option (AV × St)) : Bool := Option.rec false (fun r => (match r.1 with
  | .bool b => b
  | _ => false)) r

end
end Go.Proofs.Ytmjnbdkjekdkgaa
