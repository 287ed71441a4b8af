/-
  slices.Sort, slices.Compact at numbers and strconv.AppendInt, by the library's contracts: the numbers of this program put in.
-/
import Derived.Test.YtiknomepbklibaaDoorProg
import Derived.Shelf.Sort.Plain
import Derived.Shelf.Slices.CompactI
import Derived.Shelf.Slices.In.SortNone
import Derived.Shelf.Strconv.AppendIntPublic10
namespace Go.Proofs.YtiknomepbklibaaDoor
open Go Go.RowKit Go.Shelf
set_option linter.unusedVariables false

def renI : Ren := ⟨
 fun n => if n = 125 then 66 else if n = 128 then 81 else if n = 129 then 82 else if n = 189 then 50 else if n = 215 then 92 else if n = 216 then 78 else if n = 257 then 65 else if n = 294 then 72 else if n = 295 then 73 else if n = 296 then 74 else if n = 297 then 75 else if n = 298 then 76 else if n = 299 then 77 else if n = 300 then 79 else if n = 301 then 80 else if n = 328 then 87 else if n = 329 then 88 else if n = 330 then 89 else if n = 331 then 90 else if n = 332 then 91 else if n = 343 then 94 else 0,
 fun n => if n = 0 then 0 else if n = 3 then 3 else if n = 4 then 4 else if n = 5 then 5 else if n = 9 then 9 else if n = 28 then 42 else if n = 46 then 43 else if n = 51 then 111 else if n = 53 then 113 else if n = 131 then 44 else if n = 182 then 103 else if n = 183 then 104 else if n = 218 then 120 else if n = 222 then 124 else if n = 228 then 128 else if n = 229 then 129 else 0,
 fun _ => 0⟩

set_option maxRecDepth 100000 in
theorem lays189 : Lays.n189 Tryd.prog renI := {
 mixed := by kernel_rfl
 f125 := by kernel_rfl
 f128 := by kernel_rfl
 f129 := by kernel_rfl
 f189 := by kernel_rfl
 f215 := by kernel_rfl
 f216 := by kernel_rfl
 f257 := by kernel_rfl
 f294 := by kernel_rfl
 f295 := by kernel_rfl
 f296 := by kernel_rfl
 f297 := by kernel_rfl
 f298 := by kernel_rfl
 f299 := by kernel_rfl
 f300 := by kernel_rfl
 f301 := by kernel_rfl
 f328 := by kernel_rfl
 f329 := by kernel_rfl
 f330 := by kernel_rfl
 f331 := by kernel_rfl
 f332 := by kernel_rfl
 f343 := by kernel_rfl
 t0 := by kernel_rfl
 a0 := fun _ => by kernel_rfl
 z0 := fun _ => by kernel_rfl
 v0 := fun _ => by kernel_rfl
 t3 := by kernel_rfl
 a3 := fun _ => by kernel_rfl
 z3 := fun _ => by kernel_rfl
 v3 := fun _ => by kernel_rfl
 t4 := by kernel_rfl
 a4 := fun _ => by kernel_rfl
 z4 := fun _ => by kernel_rfl
 v4 := fun _ => by kernel_rfl
 t5 := by kernel_rfl
 a5 := fun _ => by kernel_rfl
 z5 := fun _ => by kernel_rfl
 v5 := fun _ => by kernel_rfl
 t9 := by kernel_rfl
 a9 := fun _ => by kernel_rfl
 z9 := fun _ => by kernel_rfl
 v9 := fun _ => by kernel_rfl
 t28 := by kernel_rfl
 a28 := fun _ => by kernel_rfl
 z28 := fun _ => by kernel_rfl
 v28 := fun _ => by kernel_rfl
 t46 := by kernel_rfl
 a46 := fun _ => by kernel_rfl
 z46 := fun _ => by kernel_rfl
 v46 := fun _ => by kernel_rfl
 t51 := by kernel_rfl
 a51 := fun _ => by kernel_rfl
 z51 := fun _ => by kernel_rfl
 v51 := fun _ => by kernel_rfl
 t53 := by kernel_rfl
 a53 := fun _ => by kernel_rfl
 z53 := fun _ => by kernel_rfl
 v53 := fun _ => by kernel_rfl
 t131 := by kernel_rfl
 a131 := fun _ => by kernel_rfl
 z131 := fun _ => by kernel_rfl
 v131 := fun _ => by kernel_rfl
 t182 := by kernel_rfl
 a182 := fun _ => by kernel_rfl
 z182 := fun _ => by kernel_rfl
 v182 := fun _ => by kernel_rfl
 t183 := by kernel_rfl
 a183 := fun _ => by kernel_rfl
 z183 := fun _ => by kernel_rfl
 v183 := fun _ => by kernel_rfl
 t218 := by kernel_rfl
 a218 := fun _ => by kernel_rfl
 z218 := fun _ => by kernel_rfl
 v218 := fun _ => by kernel_rfl
 t222 := by kernel_rfl
 a222 := fun _ => by kernel_rfl
 z222 := fun _ => by kernel_rfl
 v222 := fun _ => by kernel_rfl
 t228 := by kernel_rfl
 a228 := fun _ => by kernel_rfl
 z228 := fun _ => by kernel_rfl
 v228 := fun _ => by kernel_rfl
 t229 := by kernel_rfl
 a229 := fun _ => by kernel_rfl
 z229 := fun _ => by kernel_rfl
 v229 := fun _ => by kernel_rfl }
def renC : Ren := ⟨
 fun n => if n = 20 then 51 else 0,
 fun n => if n = 0 then 0 else if n = 3 then 3 else if n = 4 then 4 else if n = 22 then 42 else 0,
 fun _ => 0⟩

set_option maxRecDepth 100000 in
theorem lays20 : Lays2.n20 Tryd.prog renC := {
 mixed := by kernel_rfl
 f20 := by kernel_rfl
 t0 := by kernel_rfl
 a0 := fun _ => by kernel_rfl
 z0 := fun _ => by kernel_rfl
 v0 := fun _ => by kernel_rfl
 t3 := by kernel_rfl
 a3 := fun _ => by kernel_rfl
 z3 := fun _ => by kernel_rfl
 v3 := fun _ => by kernel_rfl
 t4 := by kernel_rfl
 a4 := fun _ => by kernel_rfl
 z4 := fun _ => by kernel_rfl
 v4 := fun _ => by kernel_rfl
 t22 := by kernel_rfl
 a22 := fun _ => by kernel_rfl
 z22 := fun _ => by kernel_rfl
 v22 := fun _ => by kernel_rfl
 i3 := by kernel_rfl }
def renA : Ren := ⟨
 fun n => if n = 129 then 82 else if n = 176 then 71 else if n = 249 then 86 else if n = 283 then 95 else if n = 284 then 96 else if n = 285 then 97 else if n = 286 then 98 else if n = 288 then 93 else if n = 317 then 99 else if n = 318 then 100 else if n = 319 then 101 else if n = 320 then 102 else if n = 337 then 103 else if n = 338 then 104 else 0,
 fun n => if n = 0 then 0 else if n = 2 then 2 else if n = 3 then 3 else if n = 4 then 4 else if n = 5 then 5 else if n = 9 then 9 else if n = 20 then 20 else if n = 37 then 100 else if n = 46 then 43 else if n = 51 then 111 else if n = 53 then 113 else if n = 171 then 132 else if n = 173 then 134 else if n = 212 then 137 else if n = 213 then 138 else if n = 232 then 139 else if n = 233 then 140 else 0,
 fun n => if n = 17 then 0 else if n = 18 then 1 else if n = 19 then 2 else 0⟩

set_option maxRecDepth 100000 in
theorem lays176 : Lays.n176 Tryd.prog renA := {
 mixed := by kernel_rfl
 f129 := by kernel_rfl
 f176 := by kernel_rfl
 f249 := by kernel_rfl
 f283 := by kernel_rfl
 f284 := by kernel_rfl
 f285 := by kernel_rfl
 f286 := by kernel_rfl
 f288 := by kernel_rfl
 f317 := by kernel_rfl
 f318 := by kernel_rfl
 f319 := by kernel_rfl
 f320 := by kernel_rfl
 f337 := by kernel_rfl
 f338 := by kernel_rfl
 t0 := by kernel_rfl
 a0 := fun _ => by kernel_rfl
 z0 := fun _ => by kernel_rfl
 v0 := fun _ => by kernel_rfl
 t2 := by kernel_rfl
 a2 := fun _ => by kernel_rfl
 z2 := fun _ => by kernel_rfl
 v2 := fun _ => by kernel_rfl
 t3 := by kernel_rfl
 a3 := fun _ => by kernel_rfl
 z3 := fun _ => by kernel_rfl
 v3 := fun _ => by kernel_rfl
 t4 := by kernel_rfl
 a4 := fun _ => by kernel_rfl
 z4 := fun _ => by kernel_rfl
 v4 := fun _ => by kernel_rfl
 t5 := by kernel_rfl
 a5 := fun _ => by kernel_rfl
 z5 := fun _ => by kernel_rfl
 v5 := fun _ => by kernel_rfl
 t9 := by kernel_rfl
 a9 := fun _ => by kernel_rfl
 z9 := fun _ => by kernel_rfl
 v9 := fun _ => by kernel_rfl
 t20 := by kernel_rfl
 a20 := fun _ => by kernel_rfl
 z20 := fun _ => by kernel_rfl
 v20 := fun _ => by kernel_rfl
 t37 := by kernel_rfl
 a37 := fun _ => by kernel_rfl
 z37 := fun _ => by kernel_rfl
 v37 := fun _ => by kernel_rfl
 t46 := by kernel_rfl
 a46 := fun _ => by kernel_rfl
 z46 := fun _ => by kernel_rfl
 v46 := fun _ => by kernel_rfl
 t51 := by kernel_rfl
 a51 := fun _ => by kernel_rfl
 z51 := fun _ => by kernel_rfl
 v51 := fun _ => by kernel_rfl
 t53 := by kernel_rfl
 a53 := fun _ => by kernel_rfl
 z53 := fun _ => by kernel_rfl
 v53 := fun _ => by kernel_rfl
 t171 := by kernel_rfl
 a171 := fun _ => by kernel_rfl
 z171 := fun _ => by kernel_rfl
 v171 := fun _ => by kernel_rfl
 t173 := by kernel_rfl
 a173 := fun _ => by kernel_rfl
 z173 := fun _ => by kernel_rfl
 v173 := fun _ => by kernel_rfl
 t212 := by kernel_rfl
 a212 := fun _ => by kernel_rfl
 z212 := fun _ => by kernel_rfl
 v212 := fun _ => by kernel_rfl
 t213 := by kernel_rfl
 a213 := fun _ => by kernel_rfl
 z213 := fun _ => by kernel_rfl
 t232 := by kernel_rfl
 a232 := fun _ => by kernel_rfl
 z232 := fun _ => by kernel_rfl
 v232 := fun _ => by kernel_rfl
 t233 := by kernel_rfl
 a233 := fun _ => by kernel_rfl
 z233 := fun _ => by kernel_rfl
 v233 := fun _ => by kernel_rfl
 g17 := by kernel_rfl
 g18 := by kernel_rfl
 g19 := by kernel_rfl }
set_option maxRecDepth 100000 in
theorem laysM176 : LaysM.n176 Tryd.prog renA := {
 ton176 := lays176
 i0 := by kernel_rfl
 i2 := by kernel_rfl
 i3 := by kernel_rfl
 i4 := by kernel_rfl
 i5 := by kernel_rfl
 i9 := by kernel_rfl
 i20 := by kernel_rfl
 i37 := by kernel_rfl
 i46 := by kernel_rfl
 i51 := by kernel_rfl
 i53 := by kernel_rfl
 i171 := by kernel_rfl
 i173 := by kernel_rfl
 i212 := by kernel_rfl
 i232 := by kernel_rfl
 i233 := by kernel_rfl
 m17 := by kernel_rfl
 m18 := by kernel_rfl
 m19 := by kernel_rfl }
end Go.Proofs.YtiknomepbklibaaDoor
