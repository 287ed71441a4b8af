/-
  'ParseOdd', reckoned: cases 3 to 3.
-/
import Derived.Test.YtaoglicedcgnoaaEvN
import Derived.Test.YtaoglicedcgnoaaProg
namespace Go.Proofs.Ytaoglicedcgnoaa
open Go
set_option maxRecDepth 1000000

theorem parseOdd_3 : isTrue (callF Try.prog (fun _ => false) 10000 200 6 [.int .i64 ((3 : Nat) : Int)] ⟨0, .nil⟩) = true := by decide +kernel

end Go.Proofs.Ytaoglicedcgnoaa
