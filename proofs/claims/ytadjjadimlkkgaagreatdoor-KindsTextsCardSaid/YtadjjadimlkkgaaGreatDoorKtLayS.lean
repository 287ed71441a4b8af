/-
  Several texts in one: XEvO, XEvP, XEvR (the swift reckoner).
-/
import Derived.Test.YtadjjadimlkkgaaGreatDoorKtEnv
import Derived.Shelf.Sort.Plain
import Derived.Shelf.Slices.CompactS
import Derived.Shelf.Slices.In.SortNone
set_option linter.unusedSimpArgs false
set_option linter.unusedVariables false
section
section

namespace Go.Proofs.YtadjjadimlkkgaaGreatDoor
open Go
set_option maxRecDepth 100000

structure Q1 where
 a0:AV
 a1:AV
 a2:AV
 a3:AV
 a4:AV
 a5:AV
 a6:AV
 a7:AV
 a8:AV
 a9:AV
 a10:AV
 a11:AV
 a12:AV
 a13:AV
 a14:AV
 a15:AV
structure Q2 where
 a0:Q1
 a1:Q1
 a2:Q1
 a3:Q1
 a4:Q1
 a5:Q1
 a6:Q1
 a7:Q1
 a8:Q1
 a9:Q1
 a10:Q1
 a11:Q1
 a12:Q1
 a13:Q1
 a14:Q1
 a15:Q1
inductive Dg where
 |d0
 |d1
 |d2
 |d3
 |d4
 |d5
 |d6
 |d7
 |d8
 |d9
 |d10
 |d11
 |d12
 |d13
 |d14
 |d15

noncomputable section
def Q1.u0:Q1→AV→(Q1→Bool)→Bool:=fun q v k=>(Q1.rec (motive:=fun _=>AV→(Q1→Bool)→Bool) (fun x0 x1 x2 x3 x4 x5 x6 x7 x8 x9 x10 x11 x12 x13 x14 x15 v k=>k (Q1.mk v x1 x2 x3 x4 x5 x6 x7 x8 x9 x10 x11 x12 x13 x14 x15))) q v k
def Q1.u1:Q1→AV→(Q1→Bool)→Bool:=fun q v k=>(Q1.rec (motive:=fun _=>AV→(Q1→Bool)→Bool) (fun x0 x1 x2 x3 x4 x5 x6 x7 x8 x9 x10 x11 x12 x13 x14 x15 v k=>k (Q1.mk x0 v x2 x3 x4 x5 x6 x7 x8 x9 x10 x11 x12 x13 x14 x15))) q v k
def Q1.u2:Q1→AV→(Q1→Bool)→Bool:=fun q v k=>(Q1.rec (motive:=fun _=>AV→(Q1→Bool)→Bool) (fun x0 x1 x2 x3 x4 x5 x6 x7 x8 x9 x10 x11 x12 x13 x14 x15 v k=>k (Q1.mk x0 x1 v x3 x4 x5 x6 x7 x8 x9 x10 x11 x12 x13 x14 x15))) q v k
def Q1.u3:Q1→AV→(Q1→Bool)→Bool:=fun q v k=>(Q1.rec (motive:=fun _=>AV→(Q1→Bool)→Bool) (fun x0 x1 x2 x3 x4 x5 x6 x7 x8 x9 x10 x11 x12 x13 x14 x15 v k=>k (Q1.mk x0 x1 x2 v x4 x5 x6 x7 x8 x9 x10 x11 x12 x13 x14 x15))) q v k
def Q1.u4:Q1→AV→(Q1→Bool)→Bool:=fun q v k=>(Q1.rec (motive:=fun _=>AV→(Q1→Bool)→Bool) (fun x0 x1 x2 x3 x4 x5 x6 x7 x8 x9 x10 x11 x12 x13 x14 x15 v k=>k (Q1.mk x0 x1 x2 x3 v x5 x6 x7 x8 x9 x10 x11 x12 x13 x14 x15))) q v k
def Q1.u5:Q1→AV→(Q1→Bool)→Bool:=fun q v k=>(Q1.rec (motive:=fun _=>AV→(Q1→Bool)→Bool) (fun x0 x1 x2 x3 x4 x5 x6 x7 x8 x9 x10 x11 x12 x13 x14 x15 v k=>k (Q1.mk x0 x1 x2 x3 x4 v x6 x7 x8 x9 x10 x11 x12 x13 x14 x15))) q v k
def Q1.u6:Q1→AV→(Q1→Bool)→Bool:=fun q v k=>(Q1.rec (motive:=fun _=>AV→(Q1→Bool)→Bool) (fun x0 x1 x2 x3 x4 x5 x6 x7 x8 x9 x10 x11 x12 x13 x14 x15 v k=>k (Q1.mk x0 x1 x2 x3 x4 x5 v x7 x8 x9 x10 x11 x12 x13 x14 x15))) q v k
def Q1.u7:Q1→AV→(Q1→Bool)→Bool:=fun q v k=>(Q1.rec (motive:=fun _=>AV→(Q1→Bool)→Bool) (fun x0 x1 x2 x3 x4 x5 x6 x7 x8 x9 x10 x11 x12 x13 x14 x15 v k=>k (Q1.mk x0 x1 x2 x3 x4 x5 x6 v x8 x9 x10 x11 x12 x13 x14 x15))) q v k
def Q1.u8:Q1→AV→(Q1→Bool)→Bool:=fun q v k=>(Q1.rec (motive:=fun _=>AV→(Q1→Bool)→Bool) (fun x0 x1 x2 x3 x4 x5 x6 x7 x8 x9 x10 x11 x12 x13 x14 x15 v k=>k (Q1.mk x0 x1 x2 x3 x4 x5 x6 x7 v x9 x10 x11 x12 x13 x14 x15))) q v k
def Q1.u9:Q1→AV→(Q1→Bool)→Bool:=fun q v k=>(Q1.rec (motive:=fun _=>AV→(Q1→Bool)→Bool) (fun x0 x1 x2 x3 x4 x5 x6 x7 x8 x9 x10 x11 x12 x13 x14 x15 v k=>k (Q1.mk x0 x1 x2 x3 x4 x5 x6 x7 x8 v x10 x11 x12 x13 x14 x15))) q v k
def Q1.uX:Q1→AV→(Q1→Bool)→Bool:=fun q v k=>(Q1.rec (motive:=fun _=>AV→(Q1→Bool)→Bool) (fun x0 x1 x2 x3 x4 x5 x6 x7 x8 x9 x10 x11 x12 x13 x14 x15 v k=>k (Q1.mk x0 x1 x2 x3 x4 x5 x6 x7 x8 x9 v x11 x12 x13 x14 x15))) q v k
def Q1.uW:Q1→AV→(Q1→Bool)→Bool:=fun q v k=>(Q1.rec (motive:=fun _=>AV→(Q1→Bool)→Bool) (fun x0 x1 x2 x3 x4 x5 x6 x7 x8 x9 x10 x11 x12 x13 x14 x15 v k=>k (Q1.mk x0 x1 x2 x3 x4 x5 x6 x7 x8 x9 x10 v x12 x13 x14 x15))) q v k
def Q1.uV:Q1→AV→(Q1→Bool)→Bool:=fun q v k=>(Q1.rec (motive:=fun _=>AV→(Q1→Bool)→Bool) (fun x0 x1 x2 x3 x4 x5 x6 x7 x8 x9 x10 x11 x12 x13 x14 x15 v k=>k (Q1.mk x0 x1 x2 x3 x4 x5 x6 x7 x8 x9 x10 x11 v x13 x14 x15))) q v k
def Q1.uU:Q1→AV→(Q1→Bool)→Bool:=fun q v k=>(Q1.rec (motive:=fun _=>AV→(Q1→Bool)→Bool) (fun x0 x1 x2 x3 x4 x5 x6 x7 x8 x9 x10 x11 x12 x13 x14 x15 v k=>k (Q1.mk x0 x1 x2 x3 x4 x5 x6 x7 x8 x9 x10 x11 x12 v x14 x15))) q v k
def Q1.uT:Q1→AV→(Q1→Bool)→Bool:=fun q v k=>(Q1.rec (motive:=fun _=>AV→(Q1→Bool)→Bool) (fun x0 x1 x2 x3 x4 x5 x6 x7 x8 x9 x10 x11 x12 x13 x14 x15 v k=>k (Q1.mk x0 x1 x2 x3 x4 x5 x6 x7 x8 x9 x10 x11 x12 x13 v x15))) q v k
def Q1.uS:Q1→AV→(Q1→Bool)→Bool:=fun q v k=>(Q1.rec (motive:=fun _=>AV→(Q1→Bool)→Bool) (fun x0 x1 x2 x3 x4 x5 x6 x7 x8 x9 x10 x11 x12 x13 x14 x15 v k=>k (Q1.mk x0 x1 x2 x3 x4 x5 x6 x7 x8 x9 x10 x11 x12 x13 x14 v))) q v k
def Q1.at(d:Dg):Q1→AV:=Dg.rec (motive:=fun _=>Q1→AV) Q1.a0 Q1.a1 Q1.a2 Q1.a3 Q1.a4 Q1.a5 Q1.a6 Q1.a7 Q1.a8 Q1.a9 Q1.a10 Q1.a11 Q1.a12 Q1.a13 Q1.a14 Q1.a15 d
def Q1.up(d:Dg):Q1→AV→(Q1→Bool)→Bool:=Dg.rec (motive:=fun _=>Q1→AV→(Q1→Bool)→Bool) Q1.u0 Q1.u1 Q1.u2 Q1.u3 Q1.u4 Q1.u5 Q1.u6 Q1.u7 Q1.u8 Q1.u9 Q1.uX Q1.uW Q1.uV Q1.uU Q1.uT Q1.uS d
def Q2.u0:Q2→Q1→(Q2→Bool)→Bool:=fun q v k=>(Q2.rec (motive:=fun _=>Q1→(Q2→Bool)→Bool) (fun x0 x1 x2 x3 x4 x5 x6 x7 x8 x9 x10 x11 x12 x13 x14 x15 v k=>k (Q2.mk v x1 x2 x3 x4 x5 x6 x7 x8 x9 x10 x11 x12 x13 x14 x15))) q v k
def Q2.u1:Q2→Q1→(Q2→Bool)→Bool:=fun q v k=>(Q2.rec (motive:=fun _=>Q1→(Q2→Bool)→Bool) (fun x0 x1 x2 x3 x4 x5 x6 x7 x8 x9 x10 x11 x12 x13 x14 x15 v k=>k (Q2.mk x0 v x2 x3 x4 x5 x6 x7 x8 x9 x10 x11 x12 x13 x14 x15))) q v k
def Q2.u2:Q2→Q1→(Q2→Bool)→Bool:=fun q v k=>(Q2.rec (motive:=fun _=>Q1→(Q2→Bool)→Bool) (fun x0 x1 x2 x3 x4 x5 x6 x7 x8 x9 x10 x11 x12 x13 x14 x15 v k=>k (Q2.mk x0 x1 v x3 x4 x5 x6 x7 x8 x9 x10 x11 x12 x13 x14 x15))) q v k
def Q2.u3:Q2→Q1→(Q2→Bool)→Bool:=fun q v k=>(Q2.rec (motive:=fun _=>Q1→(Q2→Bool)→Bool) (fun x0 x1 x2 x3 x4 x5 x6 x7 x8 x9 x10 x11 x12 x13 x14 x15 v k=>k (Q2.mk x0 x1 x2 v x4 x5 x6 x7 x8 x9 x10 x11 x12 x13 x14 x15))) q v k
def Q2.u4:Q2→Q1→(Q2→Bool)→Bool:=fun q v k=>(Q2.rec (motive:=fun _=>Q1→(Q2→Bool)→Bool) (fun x0 x1 x2 x3 x4 x5 x6 x7 x8 x9 x10 x11 x12 x13 x14 x15 v k=>k (Q2.mk x0 x1 x2 x3 v x5 x6 x7 x8 x9 x10 x11 x12 x13 x14 x15))) q v k
def Q2.u5:Q2→Q1→(Q2→Bool)→Bool:=fun q v k=>(Q2.rec (motive:=fun _=>Q1→(Q2→Bool)→Bool) (fun x0 x1 x2 x3 x4 x5 x6 x7 x8 x9 x10 x11 x12 x13 x14 x15 v k=>k (Q2.mk x0 x1 x2 x3 x4 v x6 x7 x8 x9 x10 x11 x12 x13 x14 x15))) q v k
def Q2.u6:Q2→Q1→(Q2→Bool)→Bool:=fun q v k=>(Q2.rec (motive:=fun _=>Q1→(Q2→Bool)→Bool) (fun x0 x1 x2 x3 x4 x5 x6 x7 x8 x9 x10 x11 x12 x13 x14 x15 v k=>k (Q2.mk x0 x1 x2 x3 x4 x5 v x7 x8 x9 x10 x11 x12 x13 x14 x15))) q v k
def Q2.u7:Q2→Q1→(Q2→Bool)→Bool:=fun q v k=>(Q2.rec (motive:=fun _=>Q1→(Q2→Bool)→Bool) (fun x0 x1 x2 x3 x4 x5 x6 x7 x8 x9 x10 x11 x12 x13 x14 x15 v k=>k (Q2.mk x0 x1 x2 x3 x4 x5 x6 v x8 x9 x10 x11 x12 x13 x14 x15))) q v k
def Q2.u8:Q2→Q1→(Q2→Bool)→Bool:=fun q v k=>(Q2.rec (motive:=fun _=>Q1→(Q2→Bool)→Bool) (fun x0 x1 x2 x3 x4 x5 x6 x7 x8 x9 x10 x11 x12 x13 x14 x15 v k=>k (Q2.mk x0 x1 x2 x3 x4 x5 x6 x7 v x9 x10 x11 x12 x13 x14 x15))) q v k
def Q2.u9:Q2→Q1→(Q2→Bool)→Bool:=fun q v k=>(Q2.rec (motive:=fun _=>Q1→(Q2→Bool)→Bool) (fun x0 x1 x2 x3 x4 x5 x6 x7 x8 x9 x10 x11 x12 x13 x14 x15 v k=>k (Q2.mk x0 x1 x2 x3 x4 x5 x6 x7 x8 v x10 x11 x12 x13 x14 x15))) q v k
def Q2.uX:Q2→Q1→(Q2→Bool)→Bool:=fun q v k=>(Q2.rec (motive:=fun _=>Q1→(Q2→Bool)→Bool) (fun x0 x1 x2 x3 x4 x5 x6 x7 x8 x9 x10 x11 x12 x13 x14 x15 v k=>k (Q2.mk x0 x1 x2 x3 x4 x5 x6 x7 x8 x9 v x11 x12 x13 x14 x15))) q v k
def Q2.uW:Q2→Q1→(Q2→Bool)→Bool:=fun q v k=>(Q2.rec (motive:=fun _=>Q1→(Q2→Bool)→Bool) (fun x0 x1 x2 x3 x4 x5 x6 x7 x8 x9 x10 x11 x12 x13 x14 x15 v k=>k (Q2.mk x0 x1 x2 x3 x4 x5 x6 x7 x8 x9 x10 v x12 x13 x14 x15))) q v k
def Q2.uV:Q2→Q1→(Q2→Bool)→Bool:=fun q v k=>(Q2.rec (motive:=fun _=>Q1→(Q2→Bool)→Bool) (fun x0 x1 x2 x3 x4 x5 x6 x7 x8 x9 x10 x11 x12 x13 x14 x15 v k=>k (Q2.mk x0 x1 x2 x3 x4 x5 x6 x7 x8 x9 x10 x11 v x13 x14 x15))) q v k
def Q2.uU:Q2→Q1→(Q2→Bool)→Bool:=fun q v k=>(Q2.rec (motive:=fun _=>Q1→(Q2→Bool)→Bool) (fun x0 x1 x2 x3 x4 x5 x6 x7 x8 x9 x10 x11 x12 x13 x14 x15 v k=>k (Q2.mk x0 x1 x2 x3 x4 x5 x6 x7 x8 x9 x10 x11 x12 v x14 x15))) q v k
def Q2.uT:Q2→Q1→(Q2→Bool)→Bool:=fun q v k=>(Q2.rec (motive:=fun _=>Q1→(Q2→Bool)→Bool) (fun x0 x1 x2 x3 x4 x5 x6 x7 x8 x9 x10 x11 x12 x13 x14 x15 v k=>k (Q2.mk x0 x1 x2 x3 x4 x5 x6 x7 x8 x9 x10 x11 x12 x13 v x15))) q v k
def Q2.uS:Q2→Q1→(Q2→Bool)→Bool:=fun q v k=>(Q2.rec (motive:=fun _=>Q1→(Q2→Bool)→Bool) (fun x0 x1 x2 x3 x4 x5 x6 x7 x8 x9 x10 x11 x12 x13 x14 x15 v k=>k (Q2.mk x0 x1 x2 x3 x4 x5 x6 x7 x8 x9 x10 x11 x12 x13 x14 v))) q v k
def Q2.at(d:Dg):Q2→Q1:=Dg.rec (motive:=fun _=>Q2→Q1) Q2.a0 Q2.a1 Q2.a2 Q2.a3 Q2.a4 Q2.a5 Q2.a6 Q2.a7 Q2.a8 Q2.a9 Q2.a10 Q2.a11 Q2.a12 Q2.a13 Q2.a14 Q2.a15 d
def Q2.up(d:Dg):Q2→Q1→(Q2→Bool)→Bool:=Dg.rec (motive:=fun _=>Q2→Q1→(Q2→Bool)→Bool) Q2.u0 Q2.u1 Q2.u2 Q2.u3 Q2.u4 Q2.u5 Q2.u6 Q2.u7 Q2.u8 Q2.u9 Q2.uX Q2.uW Q2.uV Q2.uU Q2.uT Q2.uS d
def Dg.num(d:Dg):Nat:=match d with
 |.d0=>0
 |.d1=>1
 |.d2=>2
 |.d3=>3
 |.d4=>4
 |.d5=>5
 |.d6=>6
 |.d7=>7
 |.d8=>8
 |.d9=>9
 |.d10=>10
 |.d11=>11
 |.d12=>12
 |.d13=>13
 |.d14=>14
 |.d15=>15
def MP(n:Int)(k:Nat→Bool):Bool:=Int.rec (fun n=>Bool.rec false (k n) (Nat.ble n Xq)) (fun _=>false) n
def q0:AV:=.tup []
def Q1.zero:Q1:=⟨q0,q0,q0,q0,q0,q0,q0,q0,q0,q0,q0,q0,q0,q0,q0,q0⟩
def Q2.zero:Q2:=⟨.zero,.zero,.zero,.zero,.zero,.zero,.zero,.zero,.zero,.zero,.zero,.zero,.zero,.zero,.zero,.zero⟩
end
end Go.Proofs.YtadjjadimlkkgaaGreatDoor
end

section

namespace Go.Proofs.YtadjjadimlkkgaaGreatDoor
open Go

end Go.Proofs.YtadjjadimlkkgaaGreatDoor
end

section

namespace Go.Proofs.YtadjjadimlkkgaaGreatDoor
open Go Go.RowKit

end Go.Proofs.YtadjjadimlkkgaaGreatDoor
end
end
section
namespace Go.Proofs.YtadjjadimlkkgaaGreatDoor
open Go
set_option maxRecDepth 1000000

theorem GX:isTrue (Ui Tryz.prog uF 10000 1000 13 [] ⟨0,.nil⟩)=true:=by decide+kernel
end Go.Proofs.YtadjjadimlkkgaaGreatDoor
end
section
namespace Go.Proofs.YtadjjadimlkkgaaGreatDoor
open Go Go.RowKit Go.Shelf

def uo:Ren:=⟨
 fun n=>if n=125 then 102 else if n=128 then 160 else if n=129 then 161 else if n=190 then 55 else if n=258 then 101 else if n=302 then 151 else if n=303 then 152 else if n=304 then 153 else if n=305 then 154 else if n=306 then 155 else if n=307 then 156 else if n=308 then 157 else if n=309 then 158 else if n=310 then 159 else if n=329 then 201 else if n=330 then 202 else if n=333 then 200 else if n=334 then 203 else if n=335 then 204 else if n=336 then 205 else if n=344 then 235 else if n=194 then 56 else 0,
 fun n=>if n=0 then 0 else if n=3 then 3 else if n=4 then 4 else if n=5 then 5 else if n=9 then 9 else if n=31 then 41 else if n=46 then 134 else if n=51 then 177 else if n=53 then 179 else if n=131 then 84 else if n=182 then 170 else if n=183 then 171 else if n=218 then 210 else if n=222 then 214 else if n=228 then 231 else if n=229 then 35 else 0,
 fun _=>0⟩

set_option maxRecDepth 100000 in
theorem D3:Lays.n190 Tryz.prog uo:={
 mixed:=by kernel_rfl
 f125:=by kernel_rfl
 f128:=by kernel_rfl
 f129:=by kernel_rfl
 f190:=by kernel_rfl
 f258:=by kernel_rfl
 f302:=by kernel_rfl
 f303:=by kernel_rfl
 f304:=by kernel_rfl
 f305:=by kernel_rfl
 f306:=by kernel_rfl
 f307:=by kernel_rfl
 f308:=by kernel_rfl
 f309:=by kernel_rfl
 f310:=by kernel_rfl
 f329:=by kernel_rfl
 f330:=by kernel_rfl
 f333:=by kernel_rfl
 f334:=by kernel_rfl
 f335:=by kernel_rfl
 f336:=by kernel_rfl
 f344:=by kernel_rfl
 t0:=by kernel_rfl
 a0:=fun _=>by kernel_rfl
 z0:=fun _=>by kernel_rfl
 v0:=fun _=>by kernel_rfl
 t3:=by kernel_rfl
 a3:=fun _=>by kernel_rfl
 z3:=fun _=>by kernel_rfl
 v3:=fun _=>by kernel_rfl
 t4:=by kernel_rfl
 a4:=fun _=>by kernel_rfl
 z4:=fun _=>by kernel_rfl
 v4:=fun _=>by kernel_rfl
 t5:=by kernel_rfl
 a5:=fun _=>by kernel_rfl
 z5:=fun _=>by kernel_rfl
 v5:=fun _=>by kernel_rfl
 t9:=by kernel_rfl
 a9:=fun _=>by kernel_rfl
 z9:=fun _=>by kernel_rfl
 v9:=fun _=>by kernel_rfl
 t31:=by kernel_rfl
 a31:=fun _=>by kernel_rfl
 z31:=fun _=>by kernel_rfl
 v31:=fun _=>by kernel_rfl
 t46:=by kernel_rfl
 a46:=fun _=>by kernel_rfl
 z46:=fun _=>by kernel_rfl
 v46:=fun _=>by kernel_rfl
 t51:=by kernel_rfl
 a51:=fun _=>by kernel_rfl
 z51:=fun _=>by kernel_rfl
 v51:=fun _=>by kernel_rfl
 t53:=by kernel_rfl
 a53:=fun _=>by kernel_rfl
 z53:=fun _=>by kernel_rfl
 v53:=fun _=>by kernel_rfl
 t131:=by kernel_rfl
 a131:=fun _=>by kernel_rfl
 z131:=fun _=>by kernel_rfl
 v131:=fun _=>by kernel_rfl
 t182:=by kernel_rfl
 a182:=fun _=>by kernel_rfl
 z182:=fun _=>by kernel_rfl
 v182:=fun _=>by kernel_rfl
 t183:=by kernel_rfl
 a183:=fun _=>by kernel_rfl
 z183:=fun _=>by kernel_rfl
 v183:=fun _=>by kernel_rfl
 t218:=by kernel_rfl
 a218:=fun _=>by kernel_rfl
 z218:=fun _=>by kernel_rfl
 v218:=fun _=>by kernel_rfl
 t222:=by kernel_rfl
 a222:=fun _=>by kernel_rfl
 z222:=fun _=>by kernel_rfl
 v222:=fun _=>by kernel_rfl
 t228:=by kernel_rfl
 a228:=fun _=>by kernel_rfl
 z228:=fun _=>by kernel_rfl
 v228:=fun _=>by kernel_rfl
 t229:=by kernel_rfl
 a229:=fun _=>by kernel_rfl
 z229:=fun _=>by kernel_rfl
 v229:=fun _=>by kernel_rfl}
set_option maxRecDepth 100000 in
theorem D2:Lays.n194 Tryz.prog uo:={
 mixed:=by kernel_rfl
 f194:=by kernel_rfl
 t0:=by kernel_rfl
 a0:=fun _=>by kernel_rfl
 z0:=fun _=>by kernel_rfl
 v0:=fun _=>by kernel_rfl
 t3:=by kernel_rfl
 a3:=fun _=>by kernel_rfl
 z3:=fun _=>by kernel_rfl
 v3:=fun _=>by kernel_rfl
 t4:=by kernel_rfl
 a4:=fun _=>by kernel_rfl
 z4:=fun _=>by kernel_rfl
 v4:=fun _=>by kernel_rfl
 t9:=by kernel_rfl
 a9:=fun _=>by kernel_rfl
 z9:=fun _=>by kernel_rfl
 v9:=fun _=>by kernel_rfl
 t31:=by kernel_rfl
 a31:=fun _=>by kernel_rfl
 z31:=fun _=>by kernel_rfl
 v31:=fun _=>by kernel_rfl}
end Go.Proofs.YtadjjadimlkkgaaGreatDoor
end
