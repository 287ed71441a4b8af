/-
  'ParseDeep', reckoned: first parameter 19 to 19.
-/
import Derived.Test.YtaoglicedcgnoaaEvO
import Derived.Test.YtaoglicedcgnoaaProg
namespace Go.Proofs.Ytaoglicedcgnoaa
open Go
set_option maxRecDepth 1000000

theorem parseDeep_19_0 : callC Try.prog (fun _ => false) 10000 1000 5 [.int .i64 ((19 : Nat) : Int), .int .i64 ((0 : Nat) : Int)] ⟨0, .nil⟩ truthC = true := by decide +kernel
theorem parseDeep_19_1 : callC Try.prog (fun _ => false) 10000 1000 5 [.int .i64 ((19 : Nat) : Int), .int .i64 ((1 : Nat) : Int)] ⟨0, .nil⟩ truthC = true := by decide +kernel
theorem parseDeep_19_2 : callC Try.prog (fun _ => false) 10000 1000 5 [.int .i64 ((19 : Nat) : Int), .int .i64 ((2 : Nat) : Int)] ⟨0, .nil⟩ truthC = true := by decide +kernel

end Go.Proofs.Ytaoglicedcgnoaa
