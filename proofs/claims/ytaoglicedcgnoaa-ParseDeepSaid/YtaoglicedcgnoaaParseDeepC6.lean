/-
  'ParseDeep', reckoned: first parameter 6 to 8.
-/
import Derived.Test.YtaoglicedcgnoaaEvO
import Derived.Test.YtaoglicedcgnoaaProg
namespace Go.Proofs.Ytaoglicedcgnoaa
open Go
set_option maxRecDepth 1000000

theorem parseDeep_6_0 : callC Try.prog (fun _ => false) 10000 1000 5 [.int .i64 ((6 : Nat) : Int), .int .i64 ((0 : Nat) : Int)] ⟨0, .nil⟩ truthC = true := by decide +kernel
theorem parseDeep_6_1 : callC Try.prog (fun _ => false) 10000 1000 5 [.int .i64 ((6 : Nat) : Int), .int .i64 ((1 : Nat) : Int)] ⟨0, .nil⟩ truthC = true := by decide +kernel
theorem parseDeep_6_2 : callC Try.prog (fun _ => false) 10000 1000 5 [.int .i64 ((6 : Nat) : Int), .int .i64 ((2 : Nat) : Int)] ⟨0, .nil⟩ truthC = true := by decide +kernel
theorem parseDeep_7_0 : callC Try.prog (fun _ => false) 10000 1000 5 [.int .i64 ((7 : Nat) : Int), .int .i64 ((0 : Nat) : Int)] ⟨0, .nil⟩ truthC = true := by decide +kernel
theorem parseDeep_7_1 : callC Try.prog (fun _ => false) 10000 1000 5 [.int .i64 ((7 : Nat) : Int), .int .i64 ((1 : Nat) : Int)] ⟨0, .nil⟩ truthC = true := by decide +kernel
theorem parseDeep_7_2 : callC Try.prog (fun _ => false) 10000 1000 5 [.int .i64 ((7 : Nat) : Int), .int .i64 ((2 : Nat) : Int)] ⟨0, .nil⟩ truthC = true := by decide +kernel
theorem parseDeep_8_0 : callC Try.prog (fun _ => false) 10000 1000 5 [.int .i64 ((8 : Nat) : Int), .int .i64 ((0 : Nat) : Int)] ⟨0, .nil⟩ truthC = true := by decide +kernel
theorem parseDeep_8_1 : callC Try.prog (fun _ => false) 10000 1000 5 [.int .i64 ((8 : Nat) : Int), .int .i64 ((1 : Nat) : Int)] ⟨0, .nil⟩ truthC = true := by decide +kernel
theorem parseDeep_8_2 : callC Try.prog (fun _ => false) 10000 1000 5 [.int .i64 ((8 : Nat) : Int), .int .i64 ((2 : Nat) : Int)] ⟨0, .nil⟩ truthC = true := by decide +kernel

end Go.Proofs.Ytaoglicedcgnoaa
