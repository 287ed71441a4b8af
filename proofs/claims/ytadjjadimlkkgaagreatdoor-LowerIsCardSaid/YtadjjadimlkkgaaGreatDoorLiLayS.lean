/-
  What the laws of chapter 10 ask beside their own question is reckoned once.
-/
import Derived.Test.YtadjjadimlkkgaaGreatDoorLiEnv
import Derived.Test.YtadjjadimlkkgaaGreatDoorLiEv4
import Derived.Shelf.Sort.Plain
import Derived.Shelf.Slices.CompactS
import Derived.Shelf.Slices.In.SortNone
section
namespace Go.Proofs.YtadjjadimlkkgaaGreatDoor
open Go
set_option maxRecDepth 1000000

theorem NI:isTrue (Jn Tryz.prog ym 10000 1000 25 [] ⟨0,.nil⟩)=true:=Cp (by decide+kernel)
end Go.Proofs.YtadjjadimlkkgaaGreatDoor
end
section
namespace Go.Proofs.YtadjjadimlkkgaaGreatDoor
open Go Go.RowKit Go.Shelf
set_option linter.unusedVariables false

def uZ:Ren:=⟨
 fun n=>if n=125 then 102 else if n=128 then 160 else if n=129 then 161 else if n=190 then 55 else if n=258 then 101 else if n=302 then 151 else if n=303 then 152 else if n=304 then 153 else if n=305 then 154 else if n=306 then 155 else if n=307 then 156 else if n=308 then 157 else if n=309 then 158 else if n=310 then 159 else if n=329 then 201 else if n=330 then 202 else if n=333 then 200 else if n=334 then 203 else if n=335 then 204 else if n=336 then 205 else if n=344 then 235 else if n=194 then 56 else 0,
 fun n=>if n=0 then 0 else if n=3 then 3 else if n=4 then 4 else if n=5 then 5 else if n=9 then 9 else if n=31 then 41 else if n=46 then 134 else if n=51 then 177 else if n=53 then 179 else if n=131 then 84 else if n=182 then 170 else if n=183 then 171 else if n=218 then 210 else if n=222 then 214 else if n=228 then 231 else if n=229 then 35 else 0,
 fun _=>0⟩

set_option maxRecDepth 100000 in
theorem CY:Lays.n190 Tryz.prog uZ:={
 mixed:=by kernel_rfl
 f125:=by kernel_rfl
 f128:=by kernel_rfl
 f129:=by kernel_rfl
 f190:=by kernel_rfl
 f258:=by kernel_rfl
 f302:=by kernel_rfl
 f303:=by kernel_rfl
 f304:=by kernel_rfl
 f305:=by kernel_rfl
 f306:=by kernel_rfl
 f307:=by kernel_rfl
 f308:=by kernel_rfl
 f309:=by kernel_rfl
 f310:=by kernel_rfl
 f329:=by kernel_rfl
 f330:=by kernel_rfl
 f333:=by kernel_rfl
 f334:=by kernel_rfl
 f335:=by kernel_rfl
 f336:=by kernel_rfl
 f344:=by kernel_rfl
 t0:=by kernel_rfl
 a0:=fun _=>by kernel_rfl
 z0:=fun _=>by kernel_rfl
 v0:=fun _=>by kernel_rfl
 t3:=by kernel_rfl
 a3:=fun _=>by kernel_rfl
 z3:=fun _=>by kernel_rfl
 v3:=fun _=>by kernel_rfl
 t4:=by kernel_rfl
 a4:=fun _=>by kernel_rfl
 z4:=fun _=>by kernel_rfl
 v4:=fun _=>by kernel_rfl
 t5:=by kernel_rfl
 a5:=fun _=>by kernel_rfl
 z5:=fun _=>by kernel_rfl
 v5:=fun _=>by kernel_rfl
 t9:=by kernel_rfl
 a9:=fun _=>by kernel_rfl
 z9:=fun _=>by kernel_rfl
 v9:=fun _=>by kernel_rfl
 t31:=by kernel_rfl
 a31:=fun _=>by kernel_rfl
 z31:=fun _=>by kernel_rfl
 v31:=fun _=>by kernel_rfl
 t46:=by kernel_rfl
 a46:=fun _=>by kernel_rfl
 z46:=fun _=>by kernel_rfl
 v46:=fun _=>by kernel_rfl
 t51:=by kernel_rfl
 a51:=fun _=>by kernel_rfl
 z51:=fun _=>by kernel_rfl
 v51:=fun _=>by kernel_rfl
 t53:=by kernel_rfl
 a53:=fun _=>by kernel_rfl
 z53:=fun _=>by kernel_rfl
 v53:=fun _=>by kernel_rfl
 t131:=by kernel_rfl
 a131:=fun _=>by kernel_rfl
 z131:=fun _=>by kernel_rfl
 v131:=fun _=>by kernel_rfl
 t182:=by kernel_rfl
 a182:=fun _=>by kernel_rfl
 z182:=fun _=>by kernel_rfl
 v182:=fun _=>by kernel_rfl
 t183:=by kernel_rfl
 a183:=fun _=>by kernel_rfl
 z183:=fun _=>by kernel_rfl
 v183:=fun _=>by kernel_rfl
 t218:=by kernel_rfl
 a218:=fun _=>by kernel_rfl
 z218:=fun _=>by kernel_rfl
 v218:=fun _=>by kernel_rfl
 t222:=by kernel_rfl
 a222:=fun _=>by kernel_rfl
 z222:=fun _=>by kernel_rfl
 v222:=fun _=>by kernel_rfl
 t228:=by kernel_rfl
 a228:=fun _=>by kernel_rfl
 z228:=fun _=>by kernel_rfl
 v228:=fun _=>by kernel_rfl
 t229:=by kernel_rfl
 a229:=fun _=>by kernel_rfl
 z229:=fun _=>by kernel_rfl
 v229:=fun _=>by kernel_rfl}
set_option maxRecDepth 100000 in
theorem CX:Lays.n194 Tryz.prog uZ:={
 mixed:=by kernel_rfl
 f194:=by kernel_rfl
 t0:=by kernel_rfl
 a0:=fun _=>by kernel_rfl
 z0:=fun _=>by kernel_rfl
 v0:=fun _=>by kernel_rfl
 t3:=by kernel_rfl
 a3:=fun _=>by kernel_rfl
 z3:=fun _=>by kernel_rfl
 v3:=fun _=>by kernel_rfl
 t4:=by kernel_rfl
 a4:=fun _=>by kernel_rfl
 z4:=fun _=>by kernel_rfl
 v4:=fun _=>by kernel_rfl
 t9:=by kernel_rfl
 a9:=fun _=>by kernel_rfl
 z9:=fun _=>by kernel_rfl
 v9:=fun _=>by kernel_rfl
 t31:=by kernel_rfl
 a31:=fun _=>by kernel_rfl
 z31:=fun _=>by kernel_rfl
 v31:=fun _=>by kernel_rfl}
end Go.Proofs.YtadjjadimlkkgaaGreatDoor
end
