/-
  'ParseOdd', reckoned: cases 5 to 5.
-/
import Derived.Test.YtaoglicedcgnoaaEvN
import Derived.Test.YtaoglicedcgnoaaProg
namespace Go.Proofs.Ytaoglicedcgnoaa
open Go
set_option maxRecDepth 1000000

theorem parseOdd_5 : isTrue (callF Try.prog (fun _ => false) 10000 200 6 [.int .i64 ((5 : Nat) : Int)] ⟨0, .nil⟩) = true := by decide +kernel

end Go.Proofs.Ytaoglicedcgnoaa
