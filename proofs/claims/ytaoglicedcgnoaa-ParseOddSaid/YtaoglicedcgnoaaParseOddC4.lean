/-
  'ParseOdd', reckoned: cases 4 to 4.
-/
import Derived.Test.YtaoglicedcgnoaaEvN
import Derived.Test.YtaoglicedcgnoaaProg
namespace Go.Proofs.Ytaoglicedcgnoaa
open Go
set_option maxRecDepth 1000000

theorem parseOdd_4 : isTrue (callF Try.prog (fun _ => false) 10000 200 6 [.int .i64 ((4 : Nat) : Int)] ⟨0, .nil⟩) = true := by decide +kernel

end Go.Proofs.Ytaoglicedcgnoaa
