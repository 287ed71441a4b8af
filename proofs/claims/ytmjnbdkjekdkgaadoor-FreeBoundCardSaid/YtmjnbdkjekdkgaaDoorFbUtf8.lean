/-
  'unicode/utf8.DecodeRuneInString' of this program, by the library's contract: the numbers of this program put in.
-/
import Derived.Test.YtmjnbdkjekdkgaaDoorProg
import Derived.Shelf.Unicode.DecodeAny
import Derived.Lib.LaidU8
import Derived.PinnedBridge
import Derived.Test.YtmjnbdkjekdkgaaDoorFbRunesP
import Derived.Test.YtmjnbdkjekdkgaaDoorFbKit
namespace Go.Proofs.YtmjnbdkjekdkgaaDoor
open Go Go.RowKit Go.Shelf
set_option linter.unusedVariables false

def ren : Ren := ⟨
 fun n => if n = 197 then 111 else if n = 260 then 137 else 0,
 fun n => if n = 0 then 0 else if n = 3 then 3 else if n = 4 then 4 else if n = 5 then 5 else if n = 9 then 9 else if n = 21 then 21 else if n = 46 then 74
  else if n = 105 then 124 else if n = 119 then 143 else if n = 138 then 145 else if n = 139 then 146 else 0,
 fun n => if n = 3 then 0 else if n = 4 then 1 else 0⟩

set_option maxRecDepth 100000 in
theorem lays : Lays.n197 Tryd.prog ren := {
 mixed := by kernel_rfl
 f197 := by kernel_rfl
 f260 := by kernel_rfl
 t0 := by kernel_rfl
 a0 := fun _ => by kernel_rfl
 z0 := fun _ => by kernel_rfl
 v0 := fun _ => by kernel_rfl
 t3 := by kernel_rfl
 a3 := fun _ => by kernel_rfl
 z3 := fun _ => by kernel_rfl
 v3 := fun _ => by kernel_rfl
 t4 := by kernel_rfl
 a4 := fun _ => by kernel_rfl
 z4 := fun _ => by kernel_rfl
 v4 := fun _ => by kernel_rfl
 t5 := by kernel_rfl
 a5 := fun _ => by kernel_rfl
 z5 := fun _ => by kernel_rfl
 v5 := fun _ => by kernel_rfl
 t9 := by kernel_rfl
 a9 := fun _ => by kernel_rfl
 z9 := fun _ => by kernel_rfl
 v9 := fun _ => by kernel_rfl
 t21 := by kernel_rfl
 a21 := fun _ => by kernel_rfl
 z21 := fun _ => by kernel_rfl
 v21 := fun _ => by kernel_rfl
 t46 := by kernel_rfl
 a46 := fun _ => by kernel_rfl
 z46 := fun _ => by kernel_rfl
 v46 := fun _ => by kernel_rfl
 t105 := by kernel_rfl
 a105 := fun _ => by kernel_rfl
 z105 := fun _ => by kernel_rfl
 v105 := fun _ => by kernel_rfl
 t119 := by kernel_rfl
 a119 := fun _ => by kernel_rfl
 z119 := fun _ => by kernel_rfl
 t138 := by kernel_rfl
 a138 := fun _ => by kernel_rfl
 z138 := fun _ => by kernel_rfl
 v138 := fun _ => by kernel_rfl
 t139 := by kernel_rfl
 a139 := fun _ => by kernel_rfl
 z139 := fun _ => by kernel_rfl
 v139 := fun _ => by kernel_rfl
 g3 := by kernel_rfl
 g4 := by kernel_rfl }

theorem extra : U8Extra Tryd.prog ren := ⟨by kernel_rfl, by kernel_rfl, by kernel_rfl, by kernel_rfl, by kernel_rfl, by kernel_rfl, by kernel_rfl⟩

/-- The two tables of package utf8 hold what they hold in Go. -/
def Tabs (w : World) : Prop := Lib.Utf8Tabs 0 1 w

theorem decode_any (s : ByteArray) (w : World) (hT : Tabs w) :
  Calls Tryd.prog 111 #[.string s] w fun e w' => e = .returned (.tuple #[.int .i32 (Lib.decodeGo s).1, .int .i64 (Lib.decodeGo s).2]) ∧ Below w.heap.size w w' :=
 Any.utf8_DecodeRuneInString lays s w hT

theorem tabs_of {w : World} (h3 : Lib.VarReads Tryd.prog w "unicode/utf8.first" Go.Pinned.utf8First) (h4 : Lib.VarReads Tryd.prog w "unicode/utf8.acceptRanges" Lib.acceptData) : Tabs w :=
 utf8Tabs_of_reads { lays with } extra (Pinned.utf8First_eq ▸ h3) h4
theorem Tabs.below {w w' : World} (h : Tabs w) (hb : Below w.heap.size w w') : Tabs w' := Utf8Tabs_below h hb

end Go.Proofs.YtmjnbdkjekdkgaaDoor
