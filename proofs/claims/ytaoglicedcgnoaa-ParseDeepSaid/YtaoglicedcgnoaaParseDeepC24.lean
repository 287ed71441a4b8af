/-
  'ParseDeep', reckoned: first parameter 24 to 24.
-/
import Derived.Test.YtaoglicedcgnoaaEvO
import Derived.Test.YtaoglicedcgnoaaProg
namespace Go.Proofs.Ytaoglicedcgnoaa
open Go
set_option maxRecDepth 1000000

theorem parseDeep_24_0 : callC Try.prog (fun _ => false) 10000 1000 5 [.int .i64 ((24 : Nat) : Int), .int .i64 ((0 : Nat) : Int)] ⟨0, .nil⟩ truthC = true := by decide +kernel
theorem parseDeep_24_1 : callC Try.prog (fun _ => false) 10000 1000 5 [.int .i64 ((24 : Nat) : Int), .int .i64 ((1 : Nat) : Int)] ⟨0, .nil⟩ truthC = true := by decide +kernel
theorem parseDeep_24_2 : callC Try.prog (fun _ => false) 10000 1000 5 [.int .i64 ((24 : Nat) : Int), .int .i64 ((2 : Nat) : Int)] ⟨0, .nil⟩ truthC = true := by decide +kernel

end Go.Proofs.Ytaoglicedcgnoaa
