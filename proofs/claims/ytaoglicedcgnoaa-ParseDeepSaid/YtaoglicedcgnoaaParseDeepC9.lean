/-
  'ParseDeep', reckoned: first parameter 9 to 10.
-/
import Derived.Test.YtaoglicedcgnoaaEvO
import Derived.Test.YtaoglicedcgnoaaProg
namespace Go.Proofs.Ytaoglicedcgnoaa
open Go
set_option maxRecDepth 1000000

theorem parseDeep_9_0 : callC Try.prog (fun _ => false) 10000 1000 5 [.int .i64 ((9 : Nat) : Int), .int .i64 ((0 : Nat) : Int)] ⟨0, .nil⟩ truthC = true := by decide +kernel
theorem parseDeep_9_1 : callC Try.prog (fun _ => false) 10000 1000 5 [.int .i64 ((9 : Nat) : Int), .int .i64 ((1 : Nat) : Int)] ⟨0, .nil⟩ truthC = true := by decide +kernel
theorem parseDeep_9_2 : callC Try.prog (fun _ => false) 10000 1000 5 [.int .i64 ((9 : Nat) : Int), .int .i64 ((2 : Nat) : Int)] ⟨0, .nil⟩ truthC = true := by decide +kernel
theorem parseDeep_10_0 : callC Try.prog (fun _ => false) 10000 1000 5 [.int .i64 ((10 : Nat) : Int), .int .i64 ((0 : Nat) : Int)] ⟨0, .nil⟩ truthC = true := by decide +kernel
theorem parseDeep_10_1 : callC Try.prog (fun _ => false) 10000 1000 5 [.int .i64 ((10 : Nat) : Int), .int .i64 ((1 : Nat) : Int)] ⟨0, .nil⟩ truthC = true := by decide +kernel
theorem parseDeep_10_2 : callC Try.prog (fun _ => false) 10000 1000 5 [.int .i64 ((10 : Nat) : Int), .int .i64 ((2 : Nat) : Int)] ⟨0, .nil⟩ truthC = true := by decide +kernel

end Go.Proofs.Ytaoglicedcgnoaa
