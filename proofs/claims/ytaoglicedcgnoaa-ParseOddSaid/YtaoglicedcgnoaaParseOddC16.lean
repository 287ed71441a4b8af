/-
  'ParseOdd', reckoned: cases 16 to 16.
-/
import Derived.Test.YtaoglicedcgnoaaEvN
import Derived.Test.YtaoglicedcgnoaaProg
namespace Go.Proofs.Ytaoglicedcgnoaa
open Go
set_option maxRecDepth 1000000

theorem parseOdd_16 : isTrue (callF Try.prog (fun _ => false) 10000 200 6 [.int .i64 ((16 : Nat) : Int)] ⟨0, .nil⟩) = true := by decide +kernel

end Go.Proofs.Ytaoglicedcgnoaa
