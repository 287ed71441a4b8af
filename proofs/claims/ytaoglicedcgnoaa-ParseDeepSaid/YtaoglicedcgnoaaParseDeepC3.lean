/-
  'ParseDeep', reckoned: first parameter 3 to 5.
-/
import Derived.Test.YtaoglicedcgnoaaEvO
import Derived.Test.YtaoglicedcgnoaaProg
namespace Go.Proofs.Ytaoglicedcgnoaa
open Go
set_option maxRecDepth 1000000

theorem parseDeep_3_0 : callC Try.prog (fun _ => false) 10000 1000 5 [.int .i64 ((3 : Nat) : Int), .int .i64 ((0 : Nat) : Int)] ⟨0, .nil⟩ truthC = true := by decide +kernel
theorem parseDeep_3_1 : callC Try.prog (fun _ => false) 10000 1000 5 [.int .i64 ((3 : Nat) : Int), .int .i64 ((1 : Nat) : Int)] ⟨0, .nil⟩ truthC = true := by decide +kernel
theorem parseDeep_3_2 : callC Try.prog (fun _ => false) 10000 1000 5 [.int .i64 ((3 : Nat) : Int), .int .i64 ((2 : Nat) : Int)] ⟨0, .nil⟩ truthC = true := by decide +kernel
theorem parseDeep_4_0 : callC Try.prog (fun _ => false) 10000 1000 5 [.int .i64 ((4 : Nat) : Int), .int .i64 ((0 : Nat) : Int)] ⟨0, .nil⟩ truthC = true := by decide +kernel
theorem parseDeep_4_1 : callC Try.prog (fun _ => false) 10000 1000 5 [.int .i64 ((4 : Nat) : Int), .int .i64 ((1 : Nat) : Int)] ⟨0, .nil⟩ truthC = true := by decide +kernel
theorem parseDeep_4_2 : callC Try.prog (fun _ => false) 10000 1000 5 [.int .i64 ((4 : Nat) : Int), .int .i64 ((2 : Nat) : Int)] ⟨0, .nil⟩ truthC = true := by decide +kernel
theorem parseDeep_5_0 : callC Try.prog (fun _ => false) 10000 1000 5 [.int .i64 ((5 : Nat) : Int), .int .i64 ((0 : Nat) : Int)] ⟨0, .nil⟩ truthC = true := by decide +kernel
theorem parseDeep_5_1 : callC Try.prog (fun _ => false) 10000 1000 5 [.int .i64 ((5 : Nat) : Int), .int .i64 ((1 : Nat) : Int)] ⟨0, .nil⟩ truthC = true := by decide +kernel
theorem parseDeep_5_2 : callC Try.prog (fun _ => false) 10000 1000 5 [.int .i64 ((5 : Nat) : Int), .int .i64 ((2 : Nat) : Int)] ⟨0, .nil⟩ truthC = true := by decide +kernel

end Go.Proofs.Ytaoglicedcgnoaa
