/-
  'TreeDeep', reckoned: cases 0 to 40.
-/
import Derived.Test.YtaoglicedcgnoaaEvN
import Derived.Test.YtaoglicedcgnoaaProg
namespace Go.Proofs.Ytaoglicedcgnoaa
open Go
set_option maxRecDepth 1000000

theorem treeDeep_0 : isTrue (callF Try.prog (fun _ => false) 10000 200 3 [.int .i64 ((0 : Nat) : Int)] ⟨0, .nil⟩) = true := by decide +kernel
theorem treeDeep_1 : isTrue (callF Try.prog (fun _ => false) 10000 200 3 [.int .i64 ((1 : Nat) : Int)] ⟨0, .nil⟩) = true := by decide +kernel
theorem treeDeep_2 : isTrue (callF Try.prog (fun _ => false) 10000 200 3 [.int .i64 ((2 : Nat) : Int)] ⟨0, .nil⟩) = true := by decide +kernel
theorem treeDeep_3 : isTrue (callF Try.prog (fun _ => false) 10000 200 3 [.int .i64 ((3 : Nat) : Int)] ⟨0, .nil⟩) = true := by decide +kernel
theorem treeDeep_4 : isTrue (callF Try.prog (fun _ => false) 10000 200 3 [.int .i64 ((4 : Nat) : Int)] ⟨0, .nil⟩) = true := by decide +kernel
theorem treeDeep_5 : isTrue (callF Try.prog (fun _ => false) 10000 200 3 [.int .i64 ((5 : Nat) : Int)] ⟨0, .nil⟩) = true := by decide +kernel
theorem treeDeep_6 : isTrue (callF Try.prog (fun _ => false) 10000 200 3 [.int .i64 ((6 : Nat) : Int)] ⟨0, .nil⟩) = true := by decide +kernel
theorem treeDeep_7 : isTrue (callF Try.prog (fun _ => false) 10000 200 3 [.int .i64 ((7 : Nat) : Int)] ⟨0, .nil⟩) = true := by decide +kernel
theorem treeDeep_8 : isTrue (callF Try.prog (fun _ => false) 10000 200 3 [.int .i64 ((8 : Nat) : Int)] ⟨0, .nil⟩) = true := by decide +kernel
theorem treeDeep_9 : isTrue (callF Try.prog (fun _ => false) 10000 200 3 [.int .i64 ((9 : Nat) : Int)] ⟨0, .nil⟩) = true := by decide +kernel
theorem treeDeep_10 : isTrue (callF Try.prog (fun _ => false) 10000 200 3 [.int .i64 ((10 : Nat) : Int)] ⟨0, .nil⟩) = true := by decide +kernel
theorem treeDeep_11 : isTrue (callF Try.prog (fun _ => false) 10000 200 3 [.int .i64 ((11 : Nat) : Int)] ⟨0, .nil⟩) = true := by decide +kernel
theorem treeDeep_12 : isTrue (callF Try.prog (fun _ => false) 10000 200 3 [.int .i64 ((12 : Nat) : Int)] ⟨0, .nil⟩) = true := by decide +kernel
theorem treeDeep_13 : isTrue (callF Try.prog (fun _ => false) 10000 200 3 [.int .i64 ((13 : Nat) : Int)] ⟨0, .nil⟩) = true := by decide +kernel
theorem treeDeep_14 : isTrue (callF Try.prog (fun _ => false) 10000 200 3 [.int .i64 ((14 : Nat) : Int)] ⟨0, .nil⟩) = true := by decide +kernel
theorem treeDeep_15 : isTrue (callF Try.prog (fun _ => false) 10000 200 3 [.int .i64 ((15 : Nat) : Int)] ⟨0, .nil⟩) = true := by decide +kernel
theorem treeDeep_16 : isTrue (callF Try.prog (fun _ => false) 10000 200 3 [.int .i64 ((16 : Nat) : Int)] ⟨0, .nil⟩) = true := by decide +kernel
theorem treeDeep_17 : isTrue (callF Try.prog (fun _ => false) 10000 200 3 [.int .i64 ((17 : Nat) : Int)] ⟨0, .nil⟩) = true := by decide +kernel
theorem treeDeep_18 : isTrue (callF Try.prog (fun _ => false) 10000 200 3 [.int .i64 ((18 : Nat) : Int)] ⟨0, .nil⟩) = true := by decide +kernel
theorem treeDeep_19 : isTrue (callF Try.prog (fun _ => false) 10000 200 3 [.int .i64 ((19 : Nat) : Int)] ⟨0, .nil⟩) = true := by decide +kernel
theorem treeDeep_20 : isTrue (callF Try.prog (fun _ => false) 10000 200 3 [.int .i64 ((20 : Nat) : Int)] ⟨0, .nil⟩) = true := by decide +kernel
theorem treeDeep_21 : isTrue (callF Try.prog (fun _ => false) 10000 200 3 [.int .i64 ((21 : Nat) : Int)] ⟨0, .nil⟩) = true := by decide +kernel
theorem treeDeep_22 : isTrue (callF Try.prog (fun _ => false) 10000 200 3 [.int .i64 ((22 : Nat) : Int)] ⟨0, .nil⟩) = true := by decide +kernel
theorem treeDeep_23 : isTrue (callF Try.prog (fun _ => false) 10000 200 3 [.int .i64 ((23 : Nat) : Int)] ⟨0, .nil⟩) = true := by decide +kernel
theorem treeDeep_24 : isTrue (callF Try.prog (fun _ => false) 10000 200 3 [.int .i64 ((24 : Nat) : Int)] ⟨0, .nil⟩) = true := by decide +kernel
theorem treeDeep_25 : isTrue (callF Try.prog (fun _ => false) 10000 200 3 [.int .i64 ((25 : Nat) : Int)] ⟨0, .nil⟩) = true := by decide +kernel
theorem treeDeep_26 : isTrue (callF Try.prog (fun _ => false) 10000 200 3 [.int .i64 ((26 : Nat) : Int)] ⟨0, .nil⟩) = true := by decide +kernel
theorem treeDeep_27 : isTrue (callF Try.prog (fun _ => false) 10000 200 3 [.int .i64 ((27 : Nat) : Int)] ⟨0, .nil⟩) = true := by decide +kernel
theorem treeDeep_28 : isTrue (callF Try.prog (fun _ => false) 10000 200 3 [.int .i64 ((28 : Nat) : Int)] ⟨0, .nil⟩) = true := by decide +kernel
theorem treeDeep_29 : isTrue (callF Try.prog (fun _ => false) 10000 200 3 [.int .i64 ((29 : Nat) : Int)] ⟨0, .nil⟩) = true := by decide +kernel
theorem treeDeep_30 : isTrue (callF Try.prog (fun _ => false) 10000 200 3 [.int .i64 ((30 : Nat) : Int)] ⟨0, .nil⟩) = true := by decide +kernel
theorem treeDeep_31 : isTrue (callF Try.prog (fun _ => false) 10000 200 3 [.int .i64 ((31 : Nat) : Int)] ⟨0, .nil⟩) = true := by decide +kernel
theorem treeDeep_32 : isTrue (callF Try.prog (fun _ => false) 10000 200 3 [.int .i64 ((32 : Nat) : Int)] ⟨0, .nil⟩) = true := by decide +kernel
theorem treeDeep_33 : isTrue (callF Try.prog (fun _ => false) 10000 200 3 [.int .i64 ((33 : Nat) : Int)] ⟨0, .nil⟩) = true := by decide +kernel
theorem treeDeep_34 : isTrue (callF Try.prog (fun _ => false) 10000 200 3 [.int .i64 ((34 : Nat) : Int)] ⟨0, .nil⟩) = true := by decide +kernel
theorem treeDeep_35 : isTrue (callF Try.prog (fun _ => false) 10000 200 3 [.int .i64 ((35 : Nat) : Int)] ⟨0, .nil⟩) = true := by decide +kernel
theorem treeDeep_36 : isTrue (callF Try.prog (fun _ => false) 10000 200 3 [.int .i64 ((36 : Nat) : Int)] ⟨0, .nil⟩) = true := by decide +kernel
theorem treeDeep_37 : isTrue (callF Try.prog (fun _ => false) 10000 200 3 [.int .i64 ((37 : Nat) : Int)] ⟨0, .nil⟩) = true := by decide +kernel
theorem treeDeep_38 : isTrue (callF Try.prog (fun _ => false) 10000 200 3 [.int .i64 ((38 : Nat) : Int)] ⟨0, .nil⟩) = true := by decide +kernel
theorem treeDeep_39 : isTrue (callF Try.prog (fun _ => false) 10000 200 3 [.int .i64 ((39 : Nat) : Int)] ⟨0, .nil⟩) = true := by decide +kernel
theorem treeDeep_40 : isTrue (callF Try.prog (fun _ => false) 10000 200 3 [.int .i64 ((40 : Nat) : Int)] ⟨0, .nil⟩) = true := by decide +kernel

end Go.Proofs.Ytaoglicedcgnoaa
