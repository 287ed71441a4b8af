/-
  'ParseDeep', reckoned: first parameter 27 to 27.
-/
import Derived.Test.YtaoglicedcgnoaaEvO
import Derived.Test.YtaoglicedcgnoaaProg
namespace Go.Proofs.Ytaoglicedcgnoaa
open Go
set_option maxRecDepth 1000000

theorem parseDeep_27_0 : callC Try.prog (fun _ => false) 10000 1000 5 [.int .i64 ((27 : Nat) : Int), .int .i64 ((0 : Nat) : Int)] ⟨0, .nil⟩ truthC = true := by decide +kernel
theorem parseDeep_27_1 : callC Try.prog (fun _ => false) 10000 1000 5 [.int .i64 ((27 : Nat) : Int), .int .i64 ((1 : Nat) : Int)] ⟨0, .nil⟩ truthC = true := by decide +kernel
theorem parseDeep_27_2 : callC Try.prog (fun _ => false) 10000 1000 5 [.int .i64 ((27 : Nat) : Int), .int .i64 ((2 : Nat) : Int)] ⟨0, .nil⟩ truthC = true := by decide +kernel

end Go.Proofs.Ytaoglicedcgnoaa
