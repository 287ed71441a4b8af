/-
  Several texts in one: XEvO, XEvP, XEvR (the swift reckoner).
-/
import Derived.Test.YtadjjadimlkkgaaGreatDoorMnEv3
set_option linter.unusedSimpArgs false
set_option linter.unusedVariables false
section

namespace Go.Proofs.YtadjjadimlkkgaaGreatDoor
open Go
set_option maxRecDepth 100000

structure Q1 where
 a0:AV
 a1:AV
 a2:AV
 a3:AV
 a4:AV
 a5:AV
 a6:AV
 a7:AV
 a8:AV
 a9:AV
 a10:AV
 a11:AV
 a12:AV
 a13:AV
 a14:AV
 a15:AV
structure Q2 where
 a0:Q1
 a1:Q1
 a2:Q1
 a3:Q1
 a4:Q1
 a5:Q1
 a6:Q1
 a7:Q1
 a8:Q1
 a9:Q1
 a10:Q1
 a11:Q1
 a12:Q1
 a13:Q1
 a14:Q1
 a15:Q1
inductive Dg where
 |d0
 |d1
 |d2
 |d3
 |d4
 |d5
 |d6
 |d7
 |d8
 |d9
 |d10
 |d11
 |d12
 |d13
 |d14
 |d15

noncomputable section
def Q1.u0:Q1→AV→(Q1→Bool)→Bool:=fun q v k=>(Q1.rec (motive:=fun _=>AV→(Q1→Bool)→Bool) (fun x0 x1 x2 x3 x4 x5 x6 x7 x8 x9 x10 x11 x12 x13 x14 x15 v k=>k (Q1.mk v x1 x2 x3 x4 x5 x6 x7 x8 x9 x10 x11 x12 x13 x14 x15))) q v k
def Q1.u1:Q1→AV→(Q1→Bool)→Bool:=fun q v k=>(Q1.rec (motive:=fun _=>AV→(Q1→Bool)→Bool) (fun x0 x1 x2 x3 x4 x5 x6 x7 x8 x9 x10 x11 x12 x13 x14 x15 v k=>k (Q1.mk x0 v x2 x3 x4 x5 x6 x7 x8 x9 x10 x11 x12 x13 x14 x15))) q v k
def Q1.u2:Q1→AV→(Q1→Bool)→Bool:=fun q v k=>(Q1.rec (motive:=fun _=>AV→(Q1→Bool)→Bool) (fun x0 x1 x2 x3 x4 x5 x6 x7 x8 x9 x10 x11 x12 x13 x14 x15 v k=>k (Q1.mk x0 x1 v x3 x4 x5 x6 x7 x8 x9 x10 x11 x12 x13 x14 x15))) q v k
def Q1.u3:Q1→AV→(Q1→Bool)→Bool:=fun q v k=>(Q1.rec (motive:=fun _=>AV→(Q1→Bool)→Bool) (fun x0 x1 x2 x3 x4 x5 x6 x7 x8 x9 x10 x11 x12 x13 x14 x15 v k=>k (Q1.mk x0 x1 x2 v x4 x5 x6 x7 x8 x9 x10 x11 x12 x13 x14 x15))) q v k
def Q1.u4:Q1→AV→(Q1→Bool)→Bool:=fun q v k=>(Q1.rec (motive:=fun _=>AV→(Q1→Bool)→Bool) (fun x0 x1 x2 x3 x4 x5 x6 x7 x8 x9 x10 x11 x12 x13 x14 x15 v k=>k (Q1.mk x0 x1 x2 x3 v x5 x6 x7 x8 x9 x10 x11 x12 x13 x14 x15))) q v k
def Q1.u5:Q1→AV→(Q1→Bool)→Bool:=fun q v k=>(Q1.rec (motive:=fun _=>AV→(Q1→Bool)→Bool) (fun x0 x1 x2 x3 x4 x5 x6 x7 x8 x9 x10 x11 x12 x13 x14 x15 v k=>k (Q1.mk x0 x1 x2 x3 x4 v x6 x7 x8 x9 x10 x11 x12 x13 x14 x15))) q v k
def Q1.u6:Q1→AV→(Q1→Bool)→Bool:=fun q v k=>(Q1.rec (motive:=fun _=>AV→(Q1→Bool)→Bool) (fun x0 x1 x2 x3 x4 x5 x6 x7 x8 x9 x10 x11 x12 x13 x14 x15 v k=>k (Q1.mk x0 x1 x2 x3 x4 x5 v x7 x8 x9 x10 x11 x12 x13 x14 x15))) q v k
def Q1.u7:Q1→AV→(Q1→Bool)→Bool:=fun q v k=>(Q1.rec (motive:=fun _=>AV→(Q1→Bool)→Bool) (fun x0 x1 x2 x3 x4 x5 x6 x7 x8 x9 x10 x11 x12 x13 x14 x15 v k=>k (Q1.mk x0 x1 x2 x3 x4 x5 x6 v x8 x9 x10 x11 x12 x13 x14 x15))) q v k
def Q1.u8:Q1→AV→(Q1→Bool)→Bool:=fun q v k=>(Q1.rec (motive:=fun _=>AV→(Q1→Bool)→Bool) (fun x0 x1 x2 x3 x4 x5 x6 x7 x8 x9 x10 x11 x12 x13 x14 x15 v k=>k (Q1.mk x0 x1 x2 x3 x4 x5 x6 x7 v x9 x10 x11 x12 x13 x14 x15))) q v k
def Q1.u9:Q1→AV→(Q1→Bool)→Bool:=fun q v k=>(Q1.rec (motive:=fun _=>AV→(Q1→Bool)→Bool) (fun x0 x1 x2 x3 x4 x5 x6 x7 x8 x9 x10 x11 x12 x13 x14 x15 v k=>k (Q1.mk x0 x1 x2 x3 x4 x5 x6 x7 x8 v x10 x11 x12 x13 x14 x15))) q v k
def Q1.zB:Q1→AV→(Q1→Bool)→Bool:=fun q v k=>(Q1.rec (motive:=fun _=>AV→(Q1→Bool)→Bool) (fun x0 x1 x2 x3 x4 x5 x6 x7 x8 x9 x10 x11 x12 x13 x14 x15 v k=>k (Q1.mk x0 x1 x2 x3 x4 x5 x6 x7 x8 x9 v x11 x12 x13 x14 x15))) q v k
def Q1.zA:Q1→AV→(Q1→Bool)→Bool:=fun q v k=>(Q1.rec (motive:=fun _=>AV→(Q1→Bool)→Bool) (fun x0 x1 x2 x3 x4 x5 x6 x7 x8 x9 x10 x11 x12 x13 x14 x15 v k=>k (Q1.mk x0 x1 x2 x3 x4 x5 x6 x7 x8 x9 x10 v x12 x13 x14 x15))) q v k
def Q1.z8:Q1→AV→(Q1→Bool)→Bool:=fun q v k=>(Q1.rec (motive:=fun _=>AV→(Q1→Bool)→Bool) (fun x0 x1 x2 x3 x4 x5 x6 x7 x8 x9 x10 x11 x12 x13 x14 x15 v k=>k (Q1.mk x0 x1 x2 x3 x4 x5 x6 x7 x8 x9 x10 x11 v x13 x14 x15))) q v k
def Q1.z7:Q1→AV→(Q1→Bool)→Bool:=fun q v k=>(Q1.rec (motive:=fun _=>AV→(Q1→Bool)→Bool) (fun x0 x1 x2 x3 x4 x5 x6 x7 x8 x9 x10 x11 x12 x13 x14 x15 v k=>k (Q1.mk x0 x1 x2 x3 x4 x5 x6 x7 x8 x9 x10 x11 x12 v x14 x15))) q v k
def Q1.z6:Q1→AV→(Q1→Bool)→Bool:=fun q v k=>(Q1.rec (motive:=fun _=>AV→(Q1→Bool)→Bool) (fun x0 x1 x2 x3 x4 x5 x6 x7 x8 x9 x10 x11 x12 x13 x14 x15 v k=>k (Q1.mk x0 x1 x2 x3 x4 x5 x6 x7 x8 x9 x10 x11 x12 x13 v x15))) q v k
def Q1.zz:Q1→AV→(Q1→Bool)→Bool:=fun q v k=>(Q1.rec (motive:=fun _=>AV→(Q1→Bool)→Bool) (fun x0 x1 x2 x3 x4 x5 x6 x7 x8 x9 x10 x11 x12 x13 x14 x15 v k=>k (Q1.mk x0 x1 x2 x3 x4 x5 x6 x7 x8 x9 x10 x11 x12 x13 x14 v))) q v k
def Q1.at(d:Dg):Q1→AV:=Dg.rec (motive:=fun _=>Q1→AV) Q1.a0 Q1.a1 Q1.a2 Q1.a3 Q1.a4 Q1.a5 Q1.a6 Q1.a7 Q1.a8 Q1.a9 Q1.a10 Q1.a11 Q1.a12 Q1.a13 Q1.a14 Q1.a15 d
def Q1.up(d:Dg):Q1→AV→(Q1→Bool)→Bool:=Dg.rec (motive:=fun _=>Q1→AV→(Q1→Bool)→Bool) Q1.u0 Q1.u1 Q1.u2 Q1.u3 Q1.u4 Q1.u5 Q1.u6 Q1.u7 Q1.u8 Q1.u9 Q1.zB Q1.zA Q1.z8 Q1.z7 Q1.z6 Q1.zz d
def Q1.Gj{β:Type}(d:Dg)(k:(Q1→AV)→(Q1→AV→(Q1→Bool)→Bool)→β):β:=Dg.rec (motive:=fun _=>β) (k Q1.a0 Q1.u0) (k Q1.a1 Q1.u1) (k Q1.a2 Q1.u2) (k Q1.a3 Q1.u3) (k Q1.a4 Q1.u4) (k Q1.a5 Q1.u5) (k Q1.a6 Q1.u6) (k Q1.a7 Q1.u7) (k Q1.a8 Q1.u8) (k Q1.a9 Q1.u9) (k Q1.a10 Q1.zB) (k Q1.a11 Q1.zA) (k Q1.a12 Q1.z8) (k Q1.a13 Q1.z7) (k Q1.a14 Q1.z6) (k Q1.a15 Q1.zz) d
theorem Q1.IM{β:Type}(d:Dg)(k:(Q1→AV)→(Q1→AV→(Q1→Bool)→Bool)→β):Q1.Gj d k=k (Q1.at d) (Q1.up d):=by cases d<;>rfl
theorem Q1.Oa(d:Dg)(q:Q1)(v:AV)(k:Q1→Bool): ∃q',Q1.up d q v k=k q'∧Q1.at d q'=v∧ ∀e,e≠d→Q1.at e q'=Q1.at e q:=by
 cases d<;>exact⟨_,rfl,rfl,fun e he=>by cases e<;>first|rfl|exact absurd rfl he⟩
def Q2.u0:Q2→Q1→(Q2→Bool)→Bool:=fun q v k=>(Q2.rec (motive:=fun _=>Q1→(Q2→Bool)→Bool) (fun x0 x1 x2 x3 x4 x5 x6 x7 x8 x9 x10 x11 x12 x13 x14 x15 v k=>k (Q2.mk v x1 x2 x3 x4 x5 x6 x7 x8 x9 x10 x11 x12 x13 x14 x15))) q v k
def Q2.u1:Q2→Q1→(Q2→Bool)→Bool:=fun q v k=>(Q2.rec (motive:=fun _=>Q1→(Q2→Bool)→Bool) (fun x0 x1 x2 x3 x4 x5 x6 x7 x8 x9 x10 x11 x12 x13 x14 x15 v k=>k (Q2.mk x0 v x2 x3 x4 x5 x6 x7 x8 x9 x10 x11 x12 x13 x14 x15))) q v k
def Q2.u2:Q2→Q1→(Q2→Bool)→Bool:=fun q v k=>(Q2.rec (motive:=fun _=>Q1→(Q2→Bool)→Bool) (fun x0 x1 x2 x3 x4 x5 x6 x7 x8 x9 x10 x11 x12 x13 x14 x15 v k=>k (Q2.mk x0 x1 v x3 x4 x5 x6 x7 x8 x9 x10 x11 x12 x13 x14 x15))) q v k
def Q2.u3:Q2→Q1→(Q2→Bool)→Bool:=fun q v k=>(Q2.rec (motive:=fun _=>Q1→(Q2→Bool)→Bool) (fun x0 x1 x2 x3 x4 x5 x6 x7 x8 x9 x10 x11 x12 x13 x14 x15 v k=>k (Q2.mk x0 x1 x2 v x4 x5 x6 x7 x8 x9 x10 x11 x12 x13 x14 x15))) q v k
def Q2.u4:Q2→Q1→(Q2→Bool)→Bool:=fun q v k=>(Q2.rec (motive:=fun _=>Q1→(Q2→Bool)→Bool) (fun x0 x1 x2 x3 x4 x5 x6 x7 x8 x9 x10 x11 x12 x13 x14 x15 v k=>k (Q2.mk x0 x1 x2 x3 v x5 x6 x7 x8 x9 x10 x11 x12 x13 x14 x15))) q v k
def Q2.u5:Q2→Q1→(Q2→Bool)→Bool:=fun q v k=>(Q2.rec (motive:=fun _=>Q1→(Q2→Bool)→Bool) (fun x0 x1 x2 x3 x4 x5 x6 x7 x8 x9 x10 x11 x12 x13 x14 x15 v k=>k (Q2.mk x0 x1 x2 x3 x4 v x6 x7 x8 x9 x10 x11 x12 x13 x14 x15))) q v k
def Q2.u6:Q2→Q1→(Q2→Bool)→Bool:=fun q v k=>(Q2.rec (motive:=fun _=>Q1→(Q2→Bool)→Bool) (fun x0 x1 x2 x3 x4 x5 x6 x7 x8 x9 x10 x11 x12 x13 x14 x15 v k=>k (Q2.mk x0 x1 x2 x3 x4 x5 v x7 x8 x9 x10 x11 x12 x13 x14 x15))) q v k
def Q2.u7:Q2→Q1→(Q2→Bool)→Bool:=fun q v k=>(Q2.rec (motive:=fun _=>Q1→(Q2→Bool)→Bool) (fun x0 x1 x2 x3 x4 x5 x6 x7 x8 x9 x10 x11 x12 x13 x14 x15 v k=>k (Q2.mk x0 x1 x2 x3 x4 x5 x6 v x8 x9 x10 x11 x12 x13 x14 x15))) q v k
def Q2.u8:Q2→Q1→(Q2→Bool)→Bool:=fun q v k=>(Q2.rec (motive:=fun _=>Q1→(Q2→Bool)→Bool) (fun x0 x1 x2 x3 x4 x5 x6 x7 x8 x9 x10 x11 x12 x13 x14 x15 v k=>k (Q2.mk x0 x1 x2 x3 x4 x5 x6 x7 v x9 x10 x11 x12 x13 x14 x15))) q v k
def Q2.u9:Q2→Q1→(Q2→Bool)→Bool:=fun q v k=>(Q2.rec (motive:=fun _=>Q1→(Q2→Bool)→Bool) (fun x0 x1 x2 x3 x4 x5 x6 x7 x8 x9 x10 x11 x12 x13 x14 x15 v k=>k (Q2.mk x0 x1 x2 x3 x4 x5 x6 x7 x8 v x10 x11 x12 x13 x14 x15))) q v k
def Q2.zB:Q2→Q1→(Q2→Bool)→Bool:=fun q v k=>(Q2.rec (motive:=fun _=>Q1→(Q2→Bool)→Bool) (fun x0 x1 x2 x3 x4 x5 x6 x7 x8 x9 x10 x11 x12 x13 x14 x15 v k=>k (Q2.mk x0 x1 x2 x3 x4 x5 x6 x7 x8 x9 v x11 x12 x13 x14 x15))) q v k
def Q2.zA:Q2→Q1→(Q2→Bool)→Bool:=fun q v k=>(Q2.rec (motive:=fun _=>Q1→(Q2→Bool)→Bool) (fun x0 x1 x2 x3 x4 x5 x6 x7 x8 x9 x10 x11 x12 x13 x14 x15 v k=>k (Q2.mk x0 x1 x2 x3 x4 x5 x6 x7 x8 x9 x10 v x12 x13 x14 x15))) q v k
def Q2.z8:Q2→Q1→(Q2→Bool)→Bool:=fun q v k=>(Q2.rec (motive:=fun _=>Q1→(Q2→Bool)→Bool) (fun x0 x1 x2 x3 x4 x5 x6 x7 x8 x9 x10 x11 x12 x13 x14 x15 v k=>k (Q2.mk x0 x1 x2 x3 x4 x5 x6 x7 x8 x9 x10 x11 v x13 x14 x15))) q v k
def Q2.z7:Q2→Q1→(Q2→Bool)→Bool:=fun q v k=>(Q2.rec (motive:=fun _=>Q1→(Q2→Bool)→Bool) (fun x0 x1 x2 x3 x4 x5 x6 x7 x8 x9 x10 x11 x12 x13 x14 x15 v k=>k (Q2.mk x0 x1 x2 x3 x4 x5 x6 x7 x8 x9 x10 x11 x12 v x14 x15))) q v k
def Q2.z6:Q2→Q1→(Q2→Bool)→Bool:=fun q v k=>(Q2.rec (motive:=fun _=>Q1→(Q2→Bool)→Bool) (fun x0 x1 x2 x3 x4 x5 x6 x7 x8 x9 x10 x11 x12 x13 x14 x15 v k=>k (Q2.mk x0 x1 x2 x3 x4 x5 x6 x7 x8 x9 x10 x11 x12 x13 v x15))) q v k
def Q2.zz:Q2→Q1→(Q2→Bool)→Bool:=fun q v k=>(Q2.rec (motive:=fun _=>Q1→(Q2→Bool)→Bool) (fun x0 x1 x2 x3 x4 x5 x6 x7 x8 x9 x10 x11 x12 x13 x14 x15 v k=>k (Q2.mk x0 x1 x2 x3 x4 x5 x6 x7 x8 x9 x10 x11 x12 x13 x14 v))) q v k
def Q2.at(d:Dg):Q2→Q1:=Dg.rec (motive:=fun _=>Q2→Q1) Q2.a0 Q2.a1 Q2.a2 Q2.a3 Q2.a4 Q2.a5 Q2.a6 Q2.a7 Q2.a8 Q2.a9 Q2.a10 Q2.a11 Q2.a12 Q2.a13 Q2.a14 Q2.a15 d
def Q2.up(d:Dg):Q2→Q1→(Q2→Bool)→Bool:=Dg.rec (motive:=fun _=>Q2→Q1→(Q2→Bool)→Bool) Q2.u0 Q2.u1 Q2.u2 Q2.u3 Q2.u4 Q2.u5 Q2.u6 Q2.u7 Q2.u8 Q2.u9 Q2.zB Q2.zA Q2.z8 Q2.z7 Q2.z6 Q2.zz d
def Q2.Gj{β:Type}(d:Dg)(k:(Q2→Q1)→(Q2→Q1→(Q2→Bool)→Bool)→β):β:=Dg.rec (motive:=fun _=>β) (k Q2.a0 Q2.u0) (k Q2.a1 Q2.u1) (k Q2.a2 Q2.u2) (k Q2.a3 Q2.u3) (k Q2.a4 Q2.u4) (k Q2.a5 Q2.u5) (k Q2.a6 Q2.u6) (k Q2.a7 Q2.u7) (k Q2.a8 Q2.u8) (k Q2.a9 Q2.u9) (k Q2.a10 Q2.zB) (k Q2.a11 Q2.zA) (k Q2.a12 Q2.z8) (k Q2.a13 Q2.z7) (k Q2.a14 Q2.z6) (k Q2.a15 Q2.zz) d
theorem Q2.IM{β:Type}(d:Dg)(k:(Q2→Q1)→(Q2→Q1→(Q2→Bool)→Bool)→β):Q2.Gj d k=k (Q2.at d) (Q2.up d):=by cases d<;>rfl
theorem Q2.Oa(d:Dg)(q:Q2)(v:Q1)(k:Q2→Bool): ∃q',Q2.up d q v k=k q'∧Q2.at d q'=v∧ ∀e,e≠d→Q2.at e q'=Q2.at e q:=by
 cases d<;>exact⟨_,rfl,rfl,fun e he=>by cases e<;>first|rfl|exact absurd rfl he⟩

def LC(n:Nat):Option Dg:=match n with
 |0=>some .d0
 |1=>some .d1
 |2=>some .d2
 |3=>some .d3
 |4=>some .d4
 |5=>some .d5
 |6=>some .d6
 |7=>some .d7
 |8=>some .d8
 |9=>some .d9
 |10=>some .d10
 |11=>some .d11
 |12=>some .d12
 |13=>some .d13
 |14=>some .d14
 |15=>some .d15
 |_=>none
def Dg.num(d:Dg):Nat:=match d with
 |.d0=>0
 |.d1=>1
 |.d2=>2
 |.d3=>3
 |.d4=>4
 |.d5=>5
 |.d6=>6
 |.d7=>7
 |.d8=>8
 |.d9=>9
 |.d10=>10
 |.d11=>11
 |.d12=>12
 |.d13=>13
 |.d14=>14
 |.d15=>15
theorem IE{n:Nat}{d:Dg}(h:LC n=some d):n=d.num:=by
 unfold LC at h
 split at h<;>first|(injection h with h;subst h;rfl)|cases h
theorem Dg.DR{d e:Dg}(h:d.num=e.num):d=e:=by cases d<;>cases e<;>first|rfl|(simp[Dg.num]at h;done)

abbrev KB:=Q2→St→Bool
abbrev Zl:=FuncId→List AV→St→(AV→St→Bool)→Bool
abbrev NU:=Zl→KB→Q2→St→Bool
abbrev ES:=Q2→AV→KB→St→Bool
abbrev KV:=AV→Bool
structure CI where
 run:NU
def Ec(t:Nat)(q:Q2):AV:=match LC (t/16)with
 |some i=>(match LC (t % 16)with
  |some j=>Q1.at j (Q2.at i q)
  |none=>.tup [])
 |none=>.tup []
def xL(g1:Q1→AV)(g2:Q2→Q1):Q2→AV:=fun T=>g1 (g2 T)
def M3:AV→KV→Bool:=AV.rec (motive_1:=fun _=>KV→Bool) (motive_2:=fun _=>Unit) (fun b k=>k (.bool b)) (fun j n k=>k (.int j n)) (fun l k=>k (.str l)) (fun k=>k .nilp) (fun c m o k=>k (.ptr c m o)) (fun k=>k .nils) (fun c m o l z k=>k (.sl c m o l z)) (fun c m o a z k=>k (.slz c m o a z)) (fun b o s k=>k (.sl0 b o s)) (fun f a c _ _ k=>k (.fn f a c)) (fun k=>k .nilf) (fun t v _ k=>k (.ifc t v)) (fun k=>k .nili) (fun c k=>k (.mp c)) (fun k=>k .nilm) (fun l _ k=>k (.agg l)) (fun l _ k=>k (.tup l)) () (fun _ _ _ _=>())
theorem R7(v:AV)(k:KV):M3 v k=k v:=by cases v<;>rfl
def xC(u1:Q1→AV→(Q1→Bool)→Bool)(g2:Q2→Q1)(u2:Q2→Q1→(Q2→Bool)→Bool):ES:=fun T v K st=>M3 v fun v=>u1 (g2 T) v fun q=>u2 T q fun T=>K T st
def V5{β:Type}(t:Nat)(bad:β)(k:(Q2→AV)→ES→β):β:=match LC (t/16)with
 |some i=>(match LC (t % 16)with
  |some j=>Q1.Gj j fun g1 u1=>Q2.Gj i fun g2 u2=>k (xL g1 g2) (xC u1 g2 u2)
  |none=>bad)
 |none=>bad
def yT:NU:=fun _ _ _ _=>false
def JB:CI:=⟨yT⟩
def UA{β:Type}(G:Env)(x:Operand)(bad:β)(k:(Q2→AV)→β):β:=match x with
 |.tmp t=>V5 t bad fun g _=>k g
 |.const v=>Option.rec bad (fun a=>k (fun _=>a)) (ofConst v)
 |.global g=>Qg (G.g g) (k (fun _=>.ptr g 0 0)) bad
 |.func f=>k (fun _=>.fn f [] [])
def DA(N:Nat)(d:Option Nat)(k:ES→CI):CI:=match d with
 |none=>k (fun T _ K st=>K T st)
 |some t=>Qg (Nat.ble (t+1) N) (V5 t JB fun _ p=>k p) JB
def Hf{β:Type}(G:Env)(bad:β)(l:List Operand):(List (Q2→AV)→β)→β:=List.rec (fun k=>k []) (fun x _ ih k=>UA G x bad fun g=>ih fun gs=>k (g::gs)) l
def G9(gs:List (Q2→AV)):Q2→(List AV→Bool)→Bool:=List.rec (fun _ k=>k []) (fun g _ ih T k=>ih T fun l=>k (g T::l)) gs
def vd(G:Env)(q:Q2)(x:Operand):Option AV:=match x with
 |.tmp t=>some (Ec t q)
 |.const v=>ofConst v
 |.global g=>QD (G.g g) (some (.ptr g 0 0))
 |.func f=>some (.fn f [] [])
def Ic{α:Type}(x:Option α)(k:α→Bool):Bool:=Option.rec false k x

def vf(g:Q2→AV)(p:ES):NU:=fun _ K T st=>p T (g T) K st
def zf(f:AV→KV→Bool)(g:Q2→AV)(p:ES):NU:=fun _ K T st=>f (g T) fun v=>p T v K st
def xV(f:AV→AV→KV→Bool)(g h:Q2→AV)(p:ES):NU:=fun _ K T st=>f (g T) (h T) fun v=>p T v K st
def vn(f:AV→St→KV→Bool)(g:Q2→AV)(p:ES):NU:=fun _ K T st=>f (g T) st fun v=>p T v K st
def vk(f:AV→AV→St→(AV→St→Bool)→Bool)(g h:Q2→AV)(p:ES):NU:=fun _ K T st=>f (g T) (h T) st fun v st=>p T v K st
def vt(f:St→(AV→St→Bool)→Bool)(p:ES):NU:=fun _ K T st=>f st fun v st=>p T v K st
def uw:AV→AV→AV→KV→Bool:=(AV.rec (motive_1:=fun _=>AV→AV→KV→Bool) (motive_2:=fun _=>Unit) (fun b x y k=>Bool.rec (k y) (k x) b) ((fun _ _=>fun _ _ _=>false)) ((fun _=>fun _ _ _=>false)) (fun _ _ _=>false) ((fun _ _ _=>fun _ _ _=>false)) (fun _ _ _=>false) ((fun _ _ _ _ _=>fun _ _ _=>false)) ((fun _ _ _ _ _=>fun _ _ _=>false)) ((fun _ _ _=>fun _ _ _=>false)) ((fun _ _ _ _ _=>fun _ _ _=>false)) (fun _ _ _=>false) ((fun _ _ _=>fun _ _ _=>false)) (fun _ _ _=>false) ((fun _=>fun _ _ _=>false)) (fun _ _ _=>false) ((fun _ _=>fun _ _ _=>false)) ((fun _ _=>fun _ _ _=>false)) () (fun _ _ _ _=>()))
def vl(f g h:Q2→AV)(p:ES):NU:=fun _ K T st=>uw (f T) (g T) (h T) fun v=>p T v K st
def zX(f:FuncId)(gs:List (Q2→AV))(p:ES):NU:=fun cc K T st=>G9 gs T fun l=>cc f l st fun v st=>p T v K st
def uY:AV→Zl→List AV→St→(AV→St→Bool)→Bool:=(AV.rec (motive_1:=fun _=>Zl→List AV→St→(AV→St→Bool)→Bool) (motive_2:=fun _=>Unit) ((fun _=>fun _ _ _ _=>false)) ((fun _ _=>fun _ _ _ _=>false)) ((fun _=>fun _ _ _ _=>false)) (fun _ _ _ _=>false) ((fun _ _ _=>fun _ _ _ _=>false)) (fun _ _ _ _=>false) ((fun _ _ _ _ _=>fun _ _ _ _=>false)) ((fun _ _ _ _ _=>fun _ _ _ _=>false)) ((fun _ _ _=>fun _ _ _ _=>false)) (fun f a cap _ _ cc l st k=>cc f (Yu a (Yu l cap)) st k) (fun _ _ _ _=>false) ((fun _ _ _=>fun _ _ _ _=>false)) (fun _ _ _ _=>false) ((fun _=>fun _ _ _ _=>false)) (fun _ _ _ _=>false) ((fun _ _=>fun _ _ _ _=>false)) ((fun _ _=>fun _ _ _ _=>false)) () (fun _ _ _ _=>()))
def qd(g:Q2→AV)(gs:List (Q2→AV))(p:ES):NU:=fun cc K T st=>G9 gs T fun l=>uY (g T) cc l st fun v st=>p T v K st
def zP(P:Program)(name:String)(v:AV)(cc:Zl)(l:List AV)(st:St)(k:AV→St→Bool):Bool:=match v with
 |.ifc t u=>Ic (Ig P t name) fun fid=>cc fid (u::l) st k
 |_=>false
def xJ(P:Program)(name:String)(g:Q2→AV)(gs:List (Q2→AV))(p:ES):NU:=fun cc K T st=>G9 gs T fun l=>zP P name (g T) cc l st fun v st=>p T v K st
def Ss:AV→Bool→Bool→Bool→Bool:=(AV.rec (motive_1:=fun _=>Bool→Bool→Bool→Bool) (motive_2:=fun _=>Unit) (fun b pol x y=>Bool.rec (Bool.rec x y pol) (Bool.rec y x pol) b) ((fun _ _=>fun _ _ y=>y)) ((fun _=>fun _ _ y=>y)) (fun _ _ y=>y) ((fun _ _ _=>fun _ _ y=>y)) (fun _ _ y=>y) ((fun _ _ _ _ _=>fun _ _ y=>y)) ((fun _ _ _ _ _=>fun _ _ y=>y)) ((fun _ _ _=>fun _ _ y=>y)) ((fun _ _ _ _ _=>fun _ _ y=>y)) (fun _ _ y=>y) ((fun _ _ _=>fun _ _ y=>y)) (fun _ _ y=>y) ((fun _=>fun _ _ y=>y)) (fun _ _ y=>y) ((fun _ _=>fun _ _ y=>y)) ((fun _ _=>fun _ _ y=>y)) () (fun _ _ _ _=>()))
def vg(g:Q2→AV)(pol:Bool)(r:NU)(p:ES):NU:=fun cc K T st=>Ss (g T) pol (r cc K T st) (p T (.tup []) K st)
def R6(P:Program)(G:Env)(o:Op)(p:ES):NU:=fun _ K T st=>Ic (Sj P (vd G T) o st) fun r=>p T r.1 K r.2

def Tr.xM{α:Type}(t:Tr α):Nat→Option α:=
 Tr.rec (fun _=>none) (fun v _ _ gl gr n=>Bool.rec (Bool.rec (gr (Nat.div n 2)) (gl (Nat.div n 2)) (Nat.beq (Nat.mod n 2) 0)) v (Nat.beq n 0)) t
abbrev XI:=List AV→Nat→KV→Bool
def je(n:Nat):XI:=fun l off k=>Ic (Ve n (Vt off l) fun r=>some (.agg r)) k
def jd:XI:=fun l off k=>Ic (nth l off) k
def Eg{β:Type}(P:Program)(t:TypeId)(bad:β)(k:XI→β):β:=match tk P t with
 |.agg n=>k (je n)
 |.one=>k jd
 |.bad=>bad
def uB(ro:Bool)(ms:List (Nat×Nat×Option (List AV)))(m off:Nat)(pt:XI)(k:KV):Bool:=Ic (nth ms m) fun x=>Ic x.2.2 fun l=>pt l off k
def zL:Ao→Nat→Nat→XI→KV→Bool:=Ao.rec (motive:=fun _=>Nat→Nat→XI→KV→Bool) uB (fun _ _ _ _ _ _ _=>false) (fun _ _ _ _ _ _=>false)
def uC:Option Ao→Nat→Nat→XI→KV→Bool:=Option.rec (motive:=fun _=>Nat→Nat→XI→KV→Bool) (fun _ _ _ _=>false) zL
def Nx(pt:XI):AV→St→KV→Bool:=fun x st k=>(AV.rec (motive_1:=fun _=>St→XI→KV→Bool) (motive_2:=fun _=>Unit) ((fun _=>fun _ _ _=>false)) ((fun _ _=>fun _ _ _=>false)) ((fun _=>fun _ _ _=>false)) (fun _ _ _=>false) (fun c m off st pt k=>uC (Tr.xM st.h c) m off pt k) (fun _ _ _=>false) ((fun _ _ _ _ _=>fun _ _ _=>false)) ((fun _ _ _ _ _=>fun _ _ _=>false)) ((fun _ _ _=>fun _ _ _=>false)) ((fun _ _ _ _ _=>fun _ _ _=>false)) (fun _ _ _=>false) ((fun _ _ _=>fun _ _ _=>false)) (fun _ _ _=>false) ((fun _=>fun _ _ _=>false)) (fun _ _ _=>false) ((fun _ _=>fun _ _ _=>false)) ((fun _ _=>fun _ _ _=>false)) () (fun _ _ _ _=>())) x st pt k
def xP(o:Nat):AV→KV→Bool:=fun x k=>(AV.rec (motive_1:=fun _=>Nat→KV→Bool) (motive_2:=fun _=>Unit) ((fun _=>fun _ _=>false)) ((fun _ _=>fun _ _=>false)) ((fun _=>fun _ _=>false)) (fun _ _=>false) (fun c m off o k=>JP (Nat.add off o) fun z=>k (.ptr c m z)) (fun _ _=>false) ((fun _ _ _ _ _=>fun _ _=>false)) ((fun _ _ _ _ _=>fun _ _=>false)) ((fun _ _ _=>fun _ _=>false)) ((fun _ _ _ _ _=>fun _ _=>false)) (fun _ _=>false) ((fun _ _ _=>fun _ _=>false)) (fun _ _=>false) ((fun _=>fun _ _=>false)) (fun _ _=>false) ((fun _ _=>fun _ _=>false)) ((fun _ _=>fun _ _=>false)) () (fun _ _ _ _=>())) x o k
def ve:AV→KV→Bool:=(AV.rec (motive_1:=fun _=>KV→Bool) (motive_2:=fun _=>Unit) ((fun _=>fun _=>false)) ((fun _ _=>fun _=>false)) ((fun _=>fun _=>false)) (fun _=>false) (fun c m off k=>k (.ptr c m off)) (fun _=>false) ((fun _ _ _ _ _=>fun _=>false)) ((fun _ _ _ _ _=>fun _=>false)) ((fun _ _ _=>fun _=>false)) (fun f a c _ _ k=>k (.fn f a c)) (fun _=>false) ((fun _ _ _=>fun _=>false)) (fun _=>false) ((fun _=>fun _=>false)) (fun _=>false) ((fun _ _=>fun _=>false)) ((fun _ _=>fun _=>false)) () (fun _ _ _ _=>()))
def ys(P:Program)(t:TypeId):AV→AV→St→(AV→St→Bool)→Bool:=fun x y st k=>Ic (W8 P t x y st) fun r=>k r.1 r.2
def yX(P:Program)(t:TypeId):St→(AV→St→Bool)→Bool:=fun st k=>Ic (Fj P t st) fun r=>k r.1 r.2
def vq(P:Program)(t:TypeId):AV→AV→KV→Bool:=fun x y k=>Ic (Jy P t x y) k
def vp(P:Program)(t:TypeId):AV→AV→KV→Bool:=fun x y k=>Ic (KF P t x y) k
def vh(i:Nat):AV→KV→Bool:=fun x k=>(AV.rec (motive_1:=fun _=>Nat→KV→Bool) (motive_2:=fun _=>Unit) ((fun _=>fun _ _=>false)) ((fun _ _=>fun _ _=>false)) ((fun _=>fun _ _=>false)) (fun _ _=>false) ((fun _ _ _=>fun _ _=>false)) (fun _ _=>false) ((fun _ _ _ _ _=>fun _ _=>false)) ((fun _ _ _ _ _=>fun _ _=>false)) ((fun _ _ _=>fun _ _=>false)) ((fun _ _ _ _ _=>fun _ _=>false)) (fun _ _=>false) ((fun _ _ _=>fun _ _=>false)) (fun _ _=>false) ((fun _=>fun _ _=>false)) (fun _ _=>false) ((fun _ _=>fun _ _=>false)) (fun l _ i k=>Ic (nth l i) k) () (fun _ _ _ _=>())) x i k
def zJ(P:Program)(ts:List TypeId):AV→KV→Bool:=fun x k=>Ic (AN P ts x) k

def Mi{α:Type}(k:IntKind)(x z:α):α:=IntKind.rec (motive:=fun _=>α→α→α) (fun _ z=>z) (fun _ z=>z) (fun _ z=>z) (fun x _=>x) (fun _ z=>z) (fun _ z=>z) (fun _ z=>z) (fun _ z=>z) k x z
def zQ(f:Int→Int→KV→Bool→Bool):AV→AV→KV→Bool→Bool:=fun x y k z=>
 (AV.rec (motive_1:=fun _=>AV→(Int→Int→KV→Bool→Bool)→KV→Bool→Bool) (motive_2:=fun _=>Unit) ((fun _=>fun _ _ _ z=>z)) (fun j a y f k z=>(AV.rec (motive_1:=fun _=>IntKind→Int→(Int→Int→KV→Bool→Bool)→KV→Bool→Bool) (motive_2:=fun _=>Unit) ((fun _=>fun _ _ _ _ z=>z)) (fun i b j a f k z=>Mi j (Mi i (f a b k z) z) z) ((fun _=>fun _ _ _ _ z=>z)) (fun _ _ _ _ z=>z) ((fun _ _ _=>fun _ _ _ _ z=>z)) (fun _ _ _ _ z=>z) ((fun _ _ _ _ _=>fun _ _ _ _ z=>z)) ((fun _ _ _ _ _=>fun _ _ _ _ z=>z)) ((fun _ _ _=>fun _ _ _ _ z=>z)) ((fun _ _ _ _ _=>fun _ _ _ _ z=>z)) (fun _ _ _ _ z=>z) ((fun _ _ _=>fun _ _ _ _ z=>z)) (fun _ _ _ _ z=>z) ((fun _=>fun _ _ _ _ z=>z)) (fun _ _ _ _ z=>z) ((fun _ _=>fun _ _ _ _ z=>z)) ((fun _ _=>fun _ _ _ _ z=>z)) () (fun _ _ _ _=>())) y j a f k z) ((fun _=>fun _ _ _ z=>z)) (fun _ _ _ z=>z) ((fun _ _ _=>fun _ _ _ z=>z)) (fun _ _ _ z=>z) ((fun _ _ _ _ _=>fun _ _ _ z=>z)) ((fun _ _ _ _ _=>fun _ _ _ z=>z)) ((fun _ _ _=>fun _ _ _ z=>z)) ((fun _ _ _ _ _=>fun _ _ _ z=>z)) (fun _ _ _ z=>z) ((fun _ _ _=>fun _ _ _ z=>z)) (fun _ _ _ z=>z) ((fun _=>fun _ _ _ z=>z)) (fun _ _ _ z=>z) ((fun _ _=>fun _ _ _ z=>z)) ((fun _ _=>fun _ _ _ z=>z)) () (fun _ _ _ _=>())) x y f k z
def xQ:Int→Int→KV→Bool→Bool:=fun a b k z=>k (.bool (ID a b))
def xF:Int→Int→KV→Bool→Bool:=fun a b k z=>k (.bool (!ID a b))
def xG:Int→Int→KV→Bool→Bool:=fun a b k z=>k (.bool (Nv a b))
def xH:Int→Int→KV→Bool→Bool:=fun a b k z=>k (.bool (!Nv b a))
def xK:Int→Int→KV→Bool→Bool:=fun a b k z=>k (.bool (Nv b a))
def xN:Int→Int→KV→Bool→Bool:=fun a b k z=>k (.bool (!Nv a b))
def xf:Int→Int→KV→Bool→Bool:=fun a b k z=>Int.rec (motive:=fun _=>Int→KV→Bool→Bool) (fun m b k z=>Int.rec (motive:=fun _=>Nat→KV→Bool→Bool) (fun n m k z=>Bool.rec z (JP (Nat.add m n) fun s=>k (.int .i64 (Int.ofNat s))) (Nat.ble (Nat.add m n) UP)) (fun _ _ _ z=>z) b m k z) (fun _ _ _ z=>z) a b k z
def OX(P:Program)(op:BinOp)(t:TypeId):AV→AV→KV→Bool:=fun x y k=>Ic (b2 P op t x y) k
def BU(f:Int→Int→KV→Bool→Bool)(g:AV→AV→KV→Bool):AV→AV→KV→Bool:=fun x y k=>zQ f x y k (g x y k)
def xd(P:Program)(op:BinOp)(t:TypeId):AV→AV→KV→Bool:=match op with
 |.eql=>BU xQ (OX P op t)
 |.neq=>BU xF (OX P op t)
 |.lss=>BU xG (OX P op t)
 |.leq=>BU xH (OX P op t)
 |.gtr=>BU xK (OX P op t)
 |.geq=>BU xN (OX P op t)
 |.add=>BU xf (OX P op t)
 |_=>OX P op t

def Mk(P:Program)(G:Env)(o:Op)(p:ES):CI:=match o with
 |.move x=>UA G x JB fun g=>⟨vf g p⟩
 |.assign x=>UA G x JB fun g=>⟨vf g p⟩
 |.pick c a b=>UA G c JB fun f=>UA G a JB fun g=>UA G b JB fun h=>⟨vl f g h p⟩
 |.alloc t=>⟨vt (yX P t) p⟩
 |.load t a=>Eg P t JB fun pt=>UA G a JB fun g=>⟨vn (Nx pt) g p⟩
 |.store t a v=>UA G a JB fun g=>UA G v JB fun h=>⟨vk (ys P t) g h p⟩
 |.nilCheck x=>UA G x JB fun g=>⟨zf ve g p⟩
 |.binOp op t x y _=>UA G x JB fun g=>UA G y JB fun h=>⟨xV (xd P op t) g h p⟩
 |.fieldAddr t x f=>UA G x JB fun g=>Option.rec JB (fun off=>JP off fun off=>⟨zf (xP off) g p⟩) (QY P t f)
 |.indexAddr t x i=>UA G x JB fun g=>UA G i JB fun h=>⟨xV (vq P t) g h p⟩
 |.index t x i=>UA G x JB fun g=>UA G i JB fun h=>⟨xV (vp P t) g h p⟩
 |.extract t i=>UA G t JB fun g=>⟨zf (vh i) g p⟩
 |.call c=>(match c.callee with
  |.value f=>(match f with
   |.func f=>Hf G JB c.args.toList fun gs=>⟨zX f gs p⟩
   |x=>UA G x JB fun g=>Hf G JB c.args.toList fun gs=>⟨qd g gs p⟩)
  |.invoke x name=>UA G x JB fun g=>Hf G JB c.args.toList fun gs=>⟨xJ P name g gs p⟩
  |.builtin b=>(match b with
   |.len=>(match c.args.toList with
    |x::[]=>Qg (XA P c.argTypes.toList) ⟨R6 P G o p⟩ (UA G x JB fun g=>⟨zf (zJ P c.argTypes.toList) g p⟩)
    |_=>JB)
   |_=>⟨R6 P G o p⟩))
 |_=>⟨R6 P G o p⟩
def KH(ops:List Oper)(o:Oper)(p:ES)(c:CI):CI:=match o.guard with
 |none=>c
 |some g=>(match JL ops g.1 with
  |some t=>V5 t JB fun gt _=>⟨vg gt g.2 c.run p⟩
  |none=>⟨fun _ K T st=>p T (.tup []) K st⟩)
def Lc(P:Program)(G:Env)(N:Nat)(ops:List Oper)(o:Oper):CI:=DA N o.dst fun p=>KH ops o p (Mk P G o.op p)
def y5(l:List CI):Zl→KB→KB:=List.rec (motive:=fun _=>Zl→KB→KB) (fun _ K T st=>K T st) (fun i _ ih cc K T st=>i.run cc (ih cc K) T st) l

inductive DI where
 |plain (c:CI)
 |act (c:CI)
 |read (f:List St→NU)
def Gb(pt:XI)(x v:AV)(n:Nat):List St→Bool:=Nat.rec (fun _=>true) (fun _ ih l=>List.rec false (fun st t _=>Qg (Nx pt x st fun u=>Gf u v) (ih t) false) l) n
def vc(pt:XI)(n:Nat)(g:Q2→AV)(p:ES)(sn:List St):NU:=fun _ K T st=>Nx pt (g T) st fun v=>Bool.rec false (p T v K st) (Gb pt (g T) v n (List.rec [] (fun _ t _=>t) sn))
def NL(P:Program)(G:Env)(N:Nat)(ops:List Oper)(q:Nat×Oper×Nat):DI:=
 Qg (Nat.beq q.2.2 0) (Qg (Nat.beq (QG P q.2.1.op) 3) (.act (Lc P G N ops q.2.1)) (.plain (Lc P G N ops q.2.1)))
  (match q.2.1.op with
  |.load t a=>.read fun sn=>CI.run (DA N q.2.1.dst fun p=>KH ops q.2.1 p (Eg P t JB fun pt=>UA G a JB fun g=>⟨vc pt q.2.2 g p sn⟩))
  |_=>.plain JB)
def MX(c:CI):(List St→KB)→Zl→List St→KB:=fun kk cc sn T st=>c.run cc (kk sn) T st
def zW(c:CI):(List St→KB)→Zl→List St→KB:=fun kk cc sn T st=>c.run cc (fun T st=>kk (st::sn) T st) T st
def uT(f:List St→NU):(List St→KB)→Zl→List St→KB:=fun kk cc sn T st=>f sn cc (kk sn) T st
def yx(l:List DI):Zl→KB→List St→KB:=List.rec (motive:=fun _=>Zl→KB→List St→KB) (fun _ K _ T st=>K T st) (fun i _ ih cc K sn T st=>DI.rec (motive:=fun _=>(List St→KB)→Zl→List St→KB) MX zW uT i (ih cc K) cc sn T st) l

inductive CC where
 |skip
 |reg (l:List CI)
 |VN (l:List DI)
 |seq (a b:CC)
 |cond (g:Q2→AV) (a b:CC)
 |block (id:Nat) (b:CC)
 |loop (b:CC)
 |range (hd:AV→St→(Nat→(Nat→St→KV→Bool)→Bool)→Bool) (g:Q2→AV) (p1 p2:ES) (a b:CC)
 |exit (id:Nat)
 |ret
 |bad
def NZ{β:Type}(N:Nat)(t:Nat)(bad:β)(k:ES→β):β:=Qg (Nat.ble (t+1) N) (V5 t bad fun _ p=>k p) bad
def Mv(n:Int)(k:Nat→Bool):Bool:=Int.rec (fun n=>Bool.rec false (k n) (Nat.ble n UP)) (fun _=>false) n
def xr(P:Program)(q:TypeId×TypeId)(x:AV):Nat→St→KV→Bool:=fun i st kv=>Ic (QX P q.1 x st.h.get) fun s=>Ic (Jy P q.1 s (.int .i64 (Int.ofNat i))) fun a=>Ic (QX P q.2 a st.h.get) kv
def xq(P:Program)(G:Env):AV→St→(Nat→(Nat→St→KV→Bool)→Bool)→Bool:=fun v st k=>match v with
 |.fn f first cap=>Ic (G.b f) fun q=>(match first with
  |[]=>(match cap with
   |x::[]=>Ic (QX P q.1 x st.h.get) fun s=>Ic (AN P [q.1] s) fun n=>(match n with
    |.int _ n=>Mv n fun n=>k n (xr P q x)
    |_=>false)
   |_=>false)
  |_=>false)
 |_=>false
def MY(P:Program)(G:Env)(N:Nat)(g:Operand)(ps:List Tmp)(pl:Bool)(a b:CC):CC:=match ps with
 |x::y::[]=>Qg pl (UA G g .bad fun gg=>NZ N x .bad fun p1=>NZ N y .bad fun p2=>.range (xq P G) gg p1 p2 a b) .bad
 |_=>.bad
def EH(P:Program)(G:Env)(N:Nat)(c:Code):CC:=Code.rec (motive:=fun _=>CC)
 .skip
 (fun _ ops draw=>Qg draw (Option.rec .bad (fun pl=>.VN (Ht (NL P G N ops.toList) pl)) (ZK P ops.toList)) (.reg (Ht (Lc P G N ops.toList) ops.toList)))
 (fun _ _ a b=>.seq a b)
 (fun c _ _ a b=>UA G c .bad fun g=>.cond g a b)
 (fun id _ f=>.block id f)
 (fun _ f=>.loop f)
 (fun g ps x y a b=>MY P G N g ps.toList (Qg (JX x) (JX y) false) a b)
 (fun id=>.exit id)
 (fun _ _=>.bad)
 (fun _=>.skip)
 (fun _=>.bad)
 .ret
 (fun _=>.bad)
 c
def uV:AV→KB→KB→Q2→St→Bool:=(AV.rec (motive_1:=fun _=>KB→KB→Q2→St→Bool) (motive_2:=fun _=>Unit) (fun b x y T st=>Bool.rec (y T st) (x T st) b) ((fun _ _=>fun _ _ _ _=>false)) ((fun _=>fun _ _ _ _=>false)) (fun _ _ _ _=>false) ((fun _ _ _=>fun _ _ _ _=>false)) (fun _ _ _ _=>false) ((fun _ _ _ _ _=>fun _ _ _ _=>false)) ((fun _ _ _ _ _=>fun _ _ _ _=>false)) ((fun _ _ _=>fun _ _ _ _=>false)) ((fun _ _ _ _ _=>fun _ _ _ _=>false)) (fun _ _ _ _=>false) ((fun _ _ _=>fun _ _ _ _=>false)) (fun _ _ _ _=>false) ((fun _=>fun _ _ _ _=>false)) (fun _ _ _ _=>false) ((fun _ _=>fun _ _ _ _=>false)) ((fun _ _=>fun _ _ _ _=>false)) () (fun _ _ _ _=>()))
abbrev ZW:=Zl→(Nat→KB)→KB→KB→KB
def zY:ZW:=fun _ _ _ K T st=>K T st
def xT(l:List CI):ZW:=fun cc _ _ K T st=>y5 l cc K T st
def zZ(l:List DI):ZW:=fun cc _ _ K T st=>yx l cc K [st] T st
def xR(_ _:CC)(f g:ZW):ZW:=fun cc E R K T st=>f cc E R (g cc E R K) T st
def xc(g:Q2→AV)(_ _:CC)(a b:ZW):ZW:=fun cc E R K T st=>uV (g T) (a cc E R K) (b cc E R K) T st
def yR(id:Nat)(_:CC)(f:ZW):ZW:=fun cc E R K T st=>f cc (fun i=>Qg (Nat.beq i id) K (E i)) R K T st
def xa(L:Nat)(_:CC)(f:ZW):ZW:=fun cc E R K T st=>Nat.rec (motive:=fun _=>KB) (fun _ _=>false) (fun _ ih=>f cc E R ih) L T st
def yQ(hd:AV→St→(Nat→(Nat→St→KV→Bool)→Bool)→Bool)(g:Q2→AV)(p1 p2:ES)(_ _:CC)(fa fb:ZW):ZW:=fun cc E R K T st=>hd (g T) st fun n el=>
 Nat.rec (motive:=fun _=>St→Bool) (fun st=>K T st) (fun i ih st=>el i st fun v=>p1 T (.int .i64 (Int.ofNat i)) (fun T1 st=>p2 T1 v (fun T2 st=>fa cc (fun _ _ _=>false) (fun _ _=>false) (fun T3 st=>fb cc (fun id _ st=>E id T st) (fun _ st=>R T st) (fun _ st=>tl (ih st)) T3 st) T2 st) st) st) n st
def xb(id:Nat):ZW:=fun _ E _ _ T st=>E id T st
def xS:ZW:=fun _ _ R _ T st=>R T st
def xU:ZW:=fun _ _ _ _ _ _=>false
def runK(L:Nat)(c:CC):ZW:=CC.rec (motive:=fun _=>ZW) zY xT zZ xR xc yR (xa L) yQ xb xS xU c

structure FN where
 code:CC
 n:Nat
 res:List ResultVar
def uX(P:Program)(G:Env)(f:FuncId):Option FN:=ob (FI P f) fun q=>QD (Nat.ble q.2.1 256) (some ⟨EH P G q.2.1 q.1,q.2.1,q.2.2⟩)
def q0:AV:=.tup []
def Q1.zero:Q1:=⟨q0,q0,q0,q0,q0,q0,q0,q0,q0,q0,q0,q0,q0,q0,q0,q0⟩
def Q2.zero:Q2:=⟨.zero,.zero,.zero,.zero,.zero,.zero,.zero,.zero,.zero,.zero,.zero,.zero,.zero,.zero,.zero,.zero⟩
structure D6 where
 put:ES
def putAt(t:Nat):D6:=V5 t ⟨fun _ _ _ _=>false⟩ fun _ p=>⟨p⟩
def qB(l:List AV):Nat→Q2→KB→St→Bool:=List.rec (motive:=fun _=>Nat→Q2→KB→St→Bool) (fun _ T K st=>K T st) (fun v _ ih i T K st=>(putAt i).put T v (fun T st=>ih (Nat.succ i) T K st) st) l
def yz(P:Program)(T:Q2)(st:St)(r:ResultVar)(k:KV):Bool:=match r with
 |.tmp t=>k (Ec t T)
 |.cell a t=>Ic (QX P t (Ec a T) st.h.get) k
def Kd(P:Program)(l:List ResultVar)(T:Q2)(st:St):(List AV→Bool)→Bool:=List.rec (motive:=fun _=>(List AV→Bool)→Bool) (fun k=>k []) (fun r _ ih k=>yz P T st r fun v=>ih fun l=>k (v::l)) l
def yO(P:Program)(res:List ResultVar)(k:AV→St→Bool):KB:=fun T st=>Kd P res T st fun vs=>k (List.rec (.tup []) (fun v t _=>List.rec v (fun _ _ _=>.tup vs) t) vs) st
def Pq(P:Program)(L:Nat)(q:FN)(cc:Zl):List AV→St→(AV→St→Bool)→Bool:=fun args st k=>Bool.rec false (qB args 0 .zero (fun T st=>runK L q.code cc (fun _ _ _=>false) (yO P q.res k) (yO P q.res k) T st) st) (Nat.ble (Y2 args) q.n)
def BN(P:Program)(G:Env)(L:Nat)(fuel:Nat):Zl:=Nat.rec (motive:=fun _=>Zl) (fun _ _ _ _=>false) (fun _ ih f args st k=>Option.rec (Ic (uX P G f) fun q=>tl (Pq P L q ih args st k)) (fun sm=>Ic (sm args st) fun r=>k r.1 r.2) (G.s f)) fuel
def ym:AV→St→Bool:=fun v _=>(AV.rec (motive_1:=fun _=>Bool) (motive_2:=fun _=>Unit) (fun b=>b) ((fun _ _=>false)) ((fun _=>false)) (false) ((fun _ _ _=>false)) (false) ((fun _ _ _ _ _=>false)) ((fun _ _ _ _ _=>false)) ((fun _ _ _=>false)) ((fun _ _ _ _ _=>false)) (false) ((fun _ _ _=>false)) (false) ((fun _=>false)) (false) ((fun _ _=>false)) ((fun _ _=>false)) () (fun _ _ _ _=>())) v

end
end Go.Proofs.YtadjjadimlkkgaaGreatDoor
end

section

namespace Go.Proofs.YtadjjadimlkkgaaGreatDoor
open Go

theorem Us{α:Type}{x:Option α}{k:α→Bool}(h:Ic x k=true): ∃a,x=some a∧k a=true:=by
 cases x with
 |none=>cases h
 |some a=>exact⟨a,rfl,h⟩
def Uy(T:Tr AV)(q:Q2):Prop:= ∀t,UH T t=Ec t q
theorem OD{t:Nat}{i j:Dg}(hi:LC (t/16)=some i)(hj:LC (t % 16)=some j)(q:Q2):Ec t q=Q1.at j (Q2.at i q):=by
 unfold Ec;rw[hi,hj]
theorem Vb{β:Type}(Pd:β→Prop){t:Nat}{bad:β}{k:(Q2→AV)→ES→β}(hb:Pd bad)
  (h: ∀g p,(∀q,g q=Ec t q)→(∀q v K st,∃q',p q v K st=K q' st∧ ∀u,Ec u q'=if u=t then v else Ec u q)→Pd (k g p)):Pd (V5 t bad k):=by
 unfold V5
 split
 ·rename_i i hi
  split
  ·rename_i j hj;rw[Q1.IM,Q2.IM];refine h _ _ (fun q=>(OD hi hj q).symm) fun q v K st=>?_;obtain⟨q1,e1,f1,g1⟩:=Q1.Oa j (Q2.at i q) v (fun x=>Q2.up i q x fun T=>K T st);obtain⟨q2,e2,f2,g2⟩:=Q2.Oa i q q1 (fun T=>K T st);refine⟨q2,(R7 _ _).trans (e1.trans e2),fun u=>?_⟩
   cases hi':LC (u/16)with
   |none=>
    have:u≠t:=fun e=>by rw[e,hi]at hi';cases hi'
    rw[if_neg this];unfold Ec;rw[hi']
   |some i'=>
    cases hj':LC (u % 16)with
    |none=>
     have:u≠t:=fun e=>by rw[e,hj]at hj';cases hj'
     rw[if_neg this];unfold Ec;rw[hi',hj']
    |some j'=>
     rw[OD hi' hj',OD hi' hj'];have a1:=IE hi;have a2:=IE hj;have a3:=IE hi';have a4:=IE hj'
     by_cases hii:i'=i
     ·subst hii;rw[f2]
      by_cases hjj:j'=j
      ·subst hjj;rw[f1,if_pos (by omega)]
      ·have:u≠t:=fun e=>hjj (Dg.DR (by rw[←a4,←a2,e]));rw[if_neg this,g1 _ hjj]
     ·have:u≠t:=fun e=>hii (Dg.DR (by rw[←a3,←a1,e]));rw[if_neg this,g2 _ hii]
  ·exact hb
 ·exact hb
def yh(G:Env)(x:Operand)(g:Q2→AV):Prop:= ∀T q,Uy T q→QF G T x=some (g q)
def It(N:Nat)(d:Option Nat)(p:ES):Prop:= ∀T q v K st,Uy T q→p q v K st=true→ ∃T' q',(∀(β:Type) (k:Tr AV→Option β),Yt N d v T k=k T')∧Uy T' q'∧K q' st=true
theorem J0{β:Type}(Pd:β→Prop){G:Env}{x:Operand}{bad:β}{k:(Q2→AV)→β}(hb:Pd bad)(h: ∀g,yh G x g→Pd (k g)):Pd (UA G x bad k):=by
 cases x with
 |tmp t=>exact Vb (k:=fun g _=>k g) (t:=t) Pd hb fun g p hg _=>h g fun T q hT=>by rw[hg];exact congrArg some (hT t)
 |const v=>
  show Pd (Option.rec bad (fun a=>k (fun _=>a)) (ofConst v))
  cases hv:ofConst v with
  |none=>exact hb
  |some a=>exact h _ fun T q hT=>hv
 |global n=>
  show Pd (Qg (G.g n) (k (fun _=>.ptr n 0 0)) bad)
  cases hg:G.g n with
  |false=>exact hb
  |true=>exact h _ fun T q hT=>by show QD (G.g n) _=_;rw[hg];rfl
 |func f=>exact h _ fun T q hT=>rfl
theorem Gi(Pd:CI→Prop){N:Nat}{d:Option Nat}{k:ES→CI}(hb:Pd JB)(h: ∀p,It N d p→Pd (k p)):Pd (DA N d k):=by
 cases d with
 |none=>exact h _ fun T q v K st hT hK=>⟨T,q,fun _ _=>rfl,hT,hK⟩
 |some t=>
  show Pd (Qg (Nat.ble (t+1) N) (V5 t JB fun _ p=>k p) JB)
  cases hn:Nat.ble (t+1) N with
  |false=>exact hb
  |true=>
   refine Vb (k:=fun _ p=>k p) (t:=t) Pd hb fun g p _ hp=>h p fun T q v K st hT hK=>?_;obtain⟨q',e,hq⟩:=hp q v K st;refine⟨T.set t v,q',fun β k=>?_,fun u=>?_,by rw[←e];exact hK⟩
   ·show QD (Nat.ble (t+1) N) (T.put t v k)=_;rw[hn,Tr.put_eq];rfl
   ·rw[Yi,hq,hT u]
theorem LL{β:Type}(Pd:β→Prop){N:Nat}{t:Nat}{bad:β}{k:ES→β}(hb:Pd bad)(h: ∀p,It N (some t) p→Pd (k p)):Pd (NZ N t bad k):=by
 unfold NZ
 cases hn:Nat.ble (t+1) N with
 |false=>exact hb
 |true=>
  refine Vb (k:=fun _ p=>k p) (t:=t) Pd hb fun g p _ hp=>h p fun T q v K st hT hK=>?_;obtain⟨q',e,hq⟩:=hp q v K st;refine⟨T.set t v,q',fun β k=>?_,fun u=>?_,by rw[←e];exact hK⟩
  ·show QD (Nat.ble (t+1) N) (T.put t v k)=_;rw[hn,Tr.put_eq];rfl
  ·rw[Yi,hq,hT u]
theorem He{β:Type}(Pd:β→Prop){G:Env}{bad:β}(hb:Pd bad): ∀(l:List Operand) {k:List (Q2→AV)→β},(∀gs,(∀T q,Uy T q→JW (QF G T) l=some (gs.map fun g=>g q))→Pd (k gs))→Pd (Hf G bad l k):=by
 intro l
 induction l with
 |nil=>intro k h;exact h [] fun T q hT=>rfl
 |cons x l ih=>
  intro k h;show Pd (UA G x bad fun g=>Hf G bad l fun gs=>k (g::gs));refine J0 Pd hb fun g hg=>ih fun gs hgs=>h _ fun T q hT=>?_;rw[Jm,hg T q hT,Qh,hgs T q hT,Qh];rfl
theorem Ot(gs:List (Q2→AV))(q:Q2): ∀k:List AV→Bool,G9 gs q k=k (gs.map fun g=>g q):=by
 induction gs with
 |nil=>intro k;rfl
 |cons g gs ih=>intro k;show G9 gs q (fun l=>k (g q::l))=_;rw[ih];rfl
theorem yC{G:Env}{T:Tr AV}{q:Q2}(h:Uy T q):vd G q=QF G T:=by
 funext x
 cases x with
 |tmp t=>exact congrArg some (h t).symm
 |const v=>rfl
 |global g=>rfl
 |func f=>rfl

def UR(cc:Zl)(call:Uc):Prop:= ∀f args st k,cc f args st k=true→ ∃v st',call f args st=some (v,st')∧k v st'=true
def Zk(P:Program)(G:Env)(N:Nat)(o:Oper)(r:NU):Prop:= ∀call cc,UR cc call→ ∀T q st K,Uy T q→r cc K q st=true→
 ∃v st' T' q',Ib P (QF G T) call o st=some (v,st')∧(∀(β:Type) (k:Tr AV→Option β),Yt N o.dst v T k=k T')∧Uy T' q'∧K q' st'=true
theorem EA(P:Program)(G:Env)(N:Nat)(o:Oper):Zk P G N o JB.run:=fun _ _ _ _ _ _ _ _ h=>by cases h
theorem N7{P:Program}{G:Env}{N:Nat}{o:Oper}{p:ES}(hp:It N o.dst p){call:Uc}{T:Tr AV}{q:Q2}{st st':St}{K:KB}{v:AV}(hT:Uy T q)(ho:Ib P (QF G T) call o st=some (v,st'))(h:p q v K st'=true):
  ∃v st' T' q',Ib P (QF G T) call o st=some (v,st')∧(∀(β:Type) (k:Tr AV→Option β),Yt N o.dst v T k=k T')∧Uy T' q'∧K q' st'=true:=by
 obtain⟨T',q',h1,h2,h3⟩:=hp T q v K st' hT h;exact⟨v,st',T',q',ho,h1,h2,h3⟩
theorem Mn{P:Program}{G:Env}{N:Nat}{o:Oper}{p:ES}(hp:It N o.dst p)(hn: ∀R call st,Ib P R call o st=Sj P R o.op st):Zk P G N o (R6 P G o.op p):=by
 intro call cc hc T q st K hT h;obtain⟨⟨v,st'⟩,h1,h2⟩:=Us h;rw[yC hT]at h1;exact N7 hp hT (by rw[hn,h1]) h2

theorem Tj{x a b:AV}{k:KV}(h:uw x a b k=true): ∃t,x=.bool t∧k (Qg t a b)=true:=by
 cases x<;>first|(cases h;done)|skip
 rename_i t;refine⟨t,rfl,?_⟩
 cases t<;>exact h
theorem DO{P:Program}{t:TypeId}{β:Type}(Pd:β→Prop){bad:β}{k:XI→β}(hb:Pd bad)(h: ∀pt:XI,(∀l off kv,pt l off kv=true→ ∃v,Z2 P t l off=some v∧kv v=true)→Pd (k pt)):Pd (Eg P t bad k):=by
 unfold Eg
 split
 ·rename_i n hk
  exact h _ fun l off kv hkv=>by
   obtain⟨v,h1,h2⟩:=Us hkv;exact⟨v,by unfold Z2;rw[hk];exact h1,h2⟩
 ·rename_i hk
  exact h _ fun l off kv hkv=>by
   obtain⟨v,h1,h2⟩:=Us hkv;exact⟨v,by unfold Z2;rw[hk];exact h1,h2⟩
 ·exact hb
theorem KA{P:Program}{t:TypeId}{pt:XI}(hpt: ∀l off kv,pt l off kv=true→ ∃v,Z2 P t l off=some v∧kv v=true){x:AV}{st:St}{k:KV}(h:Nx pt x st k=true): ∃v,QX P t x st.h.get=some v∧k v=true:=by
 cases x<;>first|(cases h;done)|skip
 rename_i c m off;replace h:uC (Tr.get st.h c) m off pt k=true:=h
 cases hc:Tr.get st.h c with
 |none=>rw[hc]at h;cases h
 |some C=>
  rw[hc]at h
  cases C with
  |iter=>cases h
  |map=>cases h
  |row ro ms=>
   replace h:uB ro ms m off pt k=true:=h;obtain⟨x,h1,h⟩:=Us h;obtain⟨l,h2,h⟩:=Us h;obtain⟨v,h3,h4⟩:=hpt _ _ _ h;refine⟨v,?_,h4⟩;show ob (rowOf st.h.get c m) _=_;unfold rowOf;rw[hc,Qh];show ob (ob (nth ms m) _) _=_;rw[h1,Qh,h2,Qh,Qh];exact h3
theorem yJ{P:Program}{t:TypeId}{f o:Nat}(ho:QY P t f=some o){x:AV}{k:KV}(h:xP o x k=true): ∃v,Xm P t x f=some v∧k v=true:=by
 cases x<;>first|(cases h;done)|skip
 rename_i c m off;replace h:JP (Nat.add off o) (fun z=>k (.ptr c m z))=true:=h;rw[QQ]at h;refine⟨.ptr c m (off+o),?_,h⟩;show ob (QY P t f) _=_;rw[ho,Qh,QQ]
theorem yF{x:AV}{k:KV}(h:ve x k=true):((∃c m off,x=.ptr c m off)∨ ∃f a c,x=.fn f a c)∧k x=true:=by
 cases x<;>first|(cases h;done)|exact⟨.inl ⟨_,_,_,rfl⟩,h⟩|exact⟨.inr ⟨_,_,_,rfl⟩,h⟩
theorem yL{i:Nat}{x:AV}{k:KV}(h:vh i x k=true): ∃l v,x=.tup l∧nth l i=some v∧k v=true:=by
 cases x<;>first|(cases h;done)|skip
 rename_i l;obtain⟨v,h1,h2⟩:=Us h;exact⟨l,v,rfl,h1,h2⟩
theorem DY{α:Type}{k:IntKind}{x z:α}:Mi k x z=if k=.i64 then x else z:=by cases k<;>rfl
theorem js{f:Int→Int→KV→Bool→Bool}{x y:AV}{k:KV}{z:Bool}(h:zQ f x y k z=true):z=true∨ ∃a b,x=.int .i64 a∧y=.int .i64 b∧f a b k z=true:=by
 cases x<;>first|exact .inl h|skip
 rename_i j a
 cases y<;>first|exact .inl h|skip
 rename_i i b;replace h:Mi j (Mi i (f a b k z) z) z=true:=h;rw[DY,DY]at h
 split at h
 ·rename_i e1
  split at h
  ·rename_i e2;subst e1 e2;exact .inr ⟨a,b,rfl,rfl,h⟩
  ·exact .inl h
 ·exact .inl h
theorem Pv{P:Program}{op:BinOp}{t:TypeId}{f:Int→Int→KV→Bool→Bool}(hf: ∀a b k z,f a b k z=true→z=true∨ ∃v,ya op .i64 a b=some v∧k v=true)
  (hop: ∀a b,b2 P op t (.int .i64 a) (.int .i64 b)=ya op .i64 a b) {x y:AV} {k:KV} (h:BU f (OX P op t) x y k=true): ∃v,b2 P op t x y=some v∧k v=true:=by
 rcases js h with h|⟨a,b,rfl,rfl,h⟩
 ·exact Us h
 ·rcases hf _ _ _ _ h with h|⟨v,h1,h2⟩
  ·exact Us h
  ·exact⟨v,by rw[hop];exact h1,h2⟩
theorem jU(a b:Int)(k:KV)(z:Bool)(h:xf a b k z=true):z=true∨ ∃v,ya .add .i64 a b=some v∧k v=true:=by
 cases a with
 |negSucc m=>exact .inl h
 |ofNat m=>cases b with
  |negSucc n=>exact .inl h
  |ofNat n=>
   replace h:Bool.rec (motive:=fun _=>Bool) z (JP (Nat.add m n) fun s=>k (.int .i64 (Int.ofNat s))) (Nat.ble (Nat.add m n) UP)=true:=h
   cases hb:Nat.ble (Nat.add m n) UP with
   |false=>rw[hb]at h;exact .inl h
   |true=>
    rw[hb]at h;replace h:JP (Nat.add m n) (fun s=>k (.int .i64 (Int.ofNat s)))=true:=h;rw[QQ]at h;refine .inr ⟨.int .i64 (Int.ofNat (m+n)),?_,h⟩;unfold ya;simp only[XK,Yg];have:=Vq hb
    have e:IntKind.wrap .i64 (Int.ofNat m+Int.ofNat n)=Int.ofNat m+Int.ofNat n:=IntWalk.i64_in _ (by
     have:m+n≤9223372036854775807:=this;simp only[Int.ofNat_eq_natCast]
     omega)
    rw[e];rfl
theorem jN{P:Program}{op:BinOp}{t:TypeId}{x y:AV}{k:KV}(h:xd P op t x y k=true): ∃v,b2 P op t x y=some v∧k v=true:=by
 cases op<;>first
  |exact Us h
  |exact Pv (fun a b k z h=>.inr ⟨_,rfl,h⟩) (fun a b=>by show QD (IC .i64 .i64) _=_;rw[IC,decide_eq_true rfl];rfl) h
  |exact Pv jU (fun a b=>by show QD (IC .i64 .i64) _=_;rw[IC,decide_eq_true rfl];rfl) h

end Go.Proofs.YtadjjadimlkkgaaGreatDoor
end

section

namespace Go.Proofs.YtadjjadimlkkgaaGreatDoor
open Go Go.RowKit

theorem Mj(P:Program)(G:Env)(N:Nat)(o:Oper)(p:ES)(hp:It N o.dst p):Zk P G N o (Mk P G o.op p).run:=by
 have hbad:Zk P G N o JB.run:=EA P G N o;obtain⟨dst,op,ty,pos,after,guard⟩:=o
 have in_of': ∀{call:Uc} {T:Tr AV} {q:Q2} {st st':St} {K:KB} {v:AV},Uy T q→Ib P (QF G T) call ⟨dst,op,ty,pos,after,guard⟩ st=some (v,st')→p q v K st'=true→
  ∃v st' T' q',Ib P (QF G T) call ⟨dst,op,ty,pos,after,guard⟩ st=some (v,st')∧(∀(β:Type) (k:Tr AV→Option β),Yt N dst v T k=k T')∧Uy T' q'∧K q' st'=true:=fun hT ho h=>N7 hp hT ho h
 cases op with
 |move x=>
  refine J0 (fun c:CI=>Zk P G N _ c.run) hbad fun g hg=>?_;intro call cc hc T q st K hT h;exact in_of' hT (show ret (QF G T x) st=some (g q,st) by rw[hg T q hT];rfl) h
 |assign x=>
  refine J0 (fun c:CI=>Zk P G N _ c.run) hbad fun g hg=>?_;intro call cc hc T q st K hT h;exact in_of' hT (show ret (QF G T x) st=some (g q,st) by rw[hg T q hT];rfl) h
 |pick c a b=>
  refine J0 (fun c:CI=>Zk P G N _ c.run) hbad fun f hf=>J0 (fun c:CI=>Zk P G N _ c.run) hbad fun g hg=>J0 (fun c:CI=>Zk P G N _ c.run) hbad fun h' hh=>?_;intro call cc hc T q st K hT h;obtain⟨t,ht,h⟩:=Tj h;refine in_of' hT (v:=Qg t (g q) (h' q)) (st':=st) ?_ h;show ob (QF G T c) _=_;rw[hf T q hT,Qh,ht];show ret (Qg t (QF G T a) (QF G T b)) st=_;rw[hg T q hT,hh T q hT]
  cases t<;>rfl
 |alloc t=>
  intro call cc hc T q st K hT h;obtain⟨⟨v,st'⟩,h1,h2⟩:=Us h;exact in_of' hT (show Fj P t st=some (v,st')from h1) h2
 |load t a=>
  refine DO (fun c:CI=>Zk P G N _ c.run) hbad fun pt hpt=>J0 (fun c:CI=>Zk P G N _ c.run) hbad fun g hg=>?_;intro call cc hc T q st K hT h;obtain⟨v,h1,h2⟩:=KA hpt h;refine in_of' hT (v:=v) (st':=st) ?_ h2;show ob (QF G T a) _=_;rw[hg T q hT,Qh];show ret (QX P t (g q) st.h.get) st=_;rw[h1];rfl
 |store t a v=>
  refine J0 (fun c:CI=>Zk P G N _ c.run) hbad fun g hg=>J0 (fun c:CI=>Zk P G N _ c.run) hbad fun h' hh=>?_;intro call cc hc T q st K hT h;obtain⟨⟨v',st'⟩,h1,h2⟩:=Us h;refine in_of' hT (v:=v') (st':=st') ?_ h2;show ob (QF G T a) _=_;rw[hg T q hT,Qh];show ob (QF G T v) _=_;rw[hh T q hT,Qh];exact h1
 |nilCheck x=>
  refine J0 (fun c:CI=>Zk P G N _ c.run) hbad fun g hg=>?_;intro call cc hc T q st K hT h;obtain⟨h1,h2⟩:=yF h;refine in_of' hT (v:=g q) (st':=st) ?_ h2;show ret (ob (QF G T x) _) st=_;rw[hg T q hT,Qh]
  rcases h1 with⟨c,m,off,e⟩|⟨f,a,c,e⟩<;>(rw[e];rfl)
 |binOp op t x y yt=>
  refine J0 (fun c:CI=>Zk P G N _ c.run) hbad fun g hg=>J0 (fun c:CI=>Zk P G N _ c.run) hbad fun h' hh=>?_;intro call cc hc T q st K hT h;obtain⟨v,h1,h2⟩:=jN h;refine in_of' hT (v:=v) (st':=st) ?_ h2;show ret (ob (QF G T x) fun x=>ob (QF G T y) fun y=>b2 P op t x y) st=_;rw[hg T q hT,Qh,hh T q hT,Qh,h1];rfl
 |fieldAddr t x f=>
  refine J0 (fun c:CI=>Zk P G N _ c.run) hbad fun g hg=>?_
  cases hf:QY P t f with
  |none=>exact hbad
  |some off=>
   show Zk P G N _ (CI.run (JP off fun off=>⟨zf (xP off) g p⟩));rw[QQ];intro call cc hc T q st K hT h;obtain⟨v,h1,h2⟩:=yJ hf h;refine in_of' hT (v:=v) (st':=st) ?_ h2;show ret (ob (QF G T x) fun x=>Xm P t x f) st=_;rw[hg T q hT,Qh,h1];rfl
 |indexAddr t x i=>
  refine J0 (fun c:CI=>Zk P G N _ c.run) hbad fun g hg=>J0 (fun c:CI=>Zk P G N _ c.run) hbad fun h' hh=>?_;intro call cc hc T q st K hT h;obtain⟨v,h1,h2⟩:=Us h;refine in_of' hT (v:=v) (st':=st) ?_ h2;show ret (ob (QF G T x) fun x=>ob (QF G T i) fun i=>Jy P t x i) st=_;rw[hg T q hT,Qh,hh T q hT,Qh,h1];rfl
 |index t x i=>
  refine J0 (fun c:CI=>Zk P G N _ c.run) hbad fun g hg=>J0 (fun c:CI=>Zk P G N _ c.run) hbad fun h' hh=>?_;intro call cc hc T q st K hT h;obtain⟨v,h1,h2⟩:=Us h;refine in_of' hT (v:=v) (st':=st) ?_ h2;show ret (ob (QF G T x) fun x=>ob (QF G T i) fun i=>KF P t x i) st=_;rw[hg T q hT,Qh,hh T q hT,Qh,h1];rfl
 |extract t i=>
  refine J0 (fun c:CI=>Zk P G N _ c.run) hbad fun g hg=>?_;intro call cc hc T q st K hT h;obtain⟨l,v,e,h1,h2⟩:=yL h;refine in_of' hT (v:=v) (st':=st) ?_ h2;show ret (ob (QF G T t) _) st=_;rw[hg T q hT,Qh,e];show ret (nth l i) st=_;rw[h1];rfl
 |call c=>
  obtain⟨callee,args,ats⟩:=c
  cases callee with
  |value f=>
   have key: ∀(x:Operand) (gs:List (Q2→AV)) (call:Uc) (T:Tr AV) (q:Q2) (st st':St) (v:AV) (fid:FuncId) (a cap:List AV),
     JW (QF G T) args.toList=some (gs.map fun g=>g q)→QF G T x=some (.fn fid a cap)→call fid (Yu a (Yu (gs.map fun g=>g q) cap)) st=some (v,st')→
     Ib P (QF G T) call ⟨dst,.call ⟨.value x,args,ats⟩,ty,pos,after,guard⟩ st=some (v,st'):=by
    intro x gs call T q st st' v fid a cap h1 h2 h3;show ob (QF G T x) _=_;rw[h2,Qh];show ob (JW (QF G T) args.toList) _=_;rw[h1,Qh];exact h3
   have gen: ∀x:Operand,Zk P G N ⟨dst,.call ⟨.value x,args,ats⟩,ty,pos,after,guard⟩ (CI.run (UA G x JB fun g=>Hf G JB args.toList fun gs=>⟨qd g gs p⟩)):=by
    intro x;refine J0 (fun c:CI=>Zk P G N _ c.run) (EA P G N _) fun g hg=>He (fun c:CI=>Zk P G N _ c.run) (EA P G N _) _ fun gs hgs=>?_;intro call cc hc T q st K hT h;replace h:G9 gs q (fun l=>uY (g q) cc l st fun v st=>p q v K st)=true:=h;rw[Ot]at h
    cases hv:g q with
    |fn fid a cap=>
     rw[hv]at h;replace h:cc fid (Yu a (Yu (gs.map fun g=>g q) cap)) st (fun v st=>p q v K st)=true:=h;obtain⟨v,st',h1,h2⟩:=hc _ _ _ _ h;exact N7 (o:=⟨dst,.call ⟨.value x,args,ats⟩,ty,pos,after,guard⟩) hp hT (key x gs call T q st st' v fid a cap (hgs T q hT) (by rw[hg T q hT,hv]) h1) h2
    |_=>rw[hv]at h;cases h
   cases f with
   |func f=>
    refine He (fun c:CI=>Zk P G N _ c.run) (EA P G N _) _ fun gs hgs=>?_;intro call cc hc T q st K hT h;replace h:G9 gs q (fun l=>cc f l st fun v st=>p q v K st)=true:=h;rw[Ot]at h;obtain⟨v,st',h1,h2⟩:=hc _ _ _ _ h;refine N7 hp hT (key (.func f) gs call T q st st' v f [] [] (hgs T q hT) rfl ?_) h2;rw[Uw,Uw,List.append_nil,List.nil_append];exact h1
   |tmp t=>exact gen _
   |const t=>exact gen _
   |global t=>exact gen _
  |invoke x s=>
   refine J0 (fun c:CI=>Zk P G N _ c.run) (EA P G N _) fun g hg=>He (fun c:CI=>Zk P G N _ c.run) (EA P G N _) _ fun gs hgs=>?_;intro call cc hc T q st K hT h;replace h:G9 gs q (fun l=>zP P s (g q) cc l st fun v st=>p q v K st)=true:=h;rw[Ot]at h
   cases hv:g q with
   |ifc t u=>
    rw[hv]at h;obtain⟨fid,hm,h⟩:=Us (show Ic (Ig P t s) (fun fid=>cc fid (u::gs.map fun g=>g q) st fun v st=>p q v K st)=true from h);obtain⟨v,st',h1,h2⟩:=hc _ _ _ _ h;refine N7 (o:=⟨dst,.call ⟨.invoke x s,args,ats⟩,ty,pos,after,guard⟩) hp hT ?_ h2;show ob (QF G T x) _=_;rw[hg T q hT,hv,Qh];show ob (Ig P t s) _=_;rw[hm,Qh,hgs T q hT,Qh];exact h1
   |_=>rw[hv]at h;cases h
  |builtin b=>
   have hgen:Zk P G N ⟨dst,.call ⟨.builtin b,args,ats⟩,ty,pos,after,guard⟩ (R6 P G (.call ⟨.builtin b,args,ats⟩) p):=Mn hp fun R call st=>rfl
   cases b<;>try exact hgen
   show Zk P G N _ (CI.run (match args.toList with
    |x::[]=>Qg (XA P ats.toList) ⟨R6 P G (.call ⟨.builtin .len,args,ats⟩) p⟩ (UA G x JB fun g=>⟨zf (zJ P ats.toList) g p⟩)
    |_=>JB))
   split
   ·rename_i x hx
    cases hmt:XA P ats.toList with
    |true=>exact hgen
    |false=>
    refine J0 (fun c:CI=>Zk P G N _ c.run) (EA P G N _) fun g hg=>?_;intro call cc hc T q st K hT h;obtain⟨v,h1,h2⟩:=Us h;refine N7 hp hT (v:=v) (st':=st) ?_ h2;show xe P (QF G T) .len args.toList ats.toList st=_;rw[hx];show Qg (XA P ats.toList) _ (ret (ob (QF G T x) fun x=>AN P ats.toList x) st)=_;rw[hmt,Q3];rw[hg T q hT,Qh,h1];rfl
   ·exact EA P G N _
 |_=>exact Mn hp fun R call st=>rfl

def yd(P:Program)(G:Env)(N:Nat)(ops:List Oper)(o:Oper)(r:NU):Prop:= ∀call cc,UR cc call→ ∀T q st K,Uy T q→r cc K q st=true→
 ∃v st' T' q',JH P G call ops o T st=some (v,st')∧(∀(β:Type) (k:Tr AV→Option β),Yt N o.dst v T k=k T')∧Uy T' q'∧K q' st'=true
noncomputable def DB(pol:Bool)(x:AV):Bool:=match x with
 |.bool b=>Qg b pol (!pol)
 |_=>false
theorem Cp{ops:List Oper}{o:Oper}{T:Tr AV}(h:o.guard=none):Jp ops o T=true:=by unfold Jp;rw[h]
theorem Co{ops:List Oper}{o:Oper}{T:Tr AV}{g:Nat×Bool}(h:o.guard=some g){t:Nat}(ht:JL ops g.1=some t):Jp ops o T=DB g.2 (UH T t):=by
 unfold Jp;rw[h];simp only[ht];rfl
theorem Cq{ops:List Oper}{o:Oper}{T:Tr AV}{g:Nat×Bool}(h:o.guard=some g)(ht:JL ops g.1=none):Jp ops o T=false:=by
 unfold Jp;rw[h];simp only[ht]
theorem Sr{x:AV}{pol a b:Bool}(h:Ss x pol a b=true):DB pol x=true∧a=true∨DB pol x=false∧b=true:=by
 cases x<;>first|exact .inr ⟨rfl,h⟩|skip
 rename_i t
 cases t<;>cases pol<;>first|exact .inl ⟨rfl,h⟩|exact .inr ⟨rfl,h⟩
theorem Bo{P:Program}{G:Env}{N:Nat}{ops:List Oper}{o:Oper}{p:ES}{c:CI}(hp:It N o.dst p)(X:(Tr AV→AV→Q2→Prop))(hX: ∀call cc,UR cc call→ ∀T q st K,Uy T q→c.run cc K q st=true→
  ∃v st' T' q',Ib P (QF G T) call o st=some (v,st')∧X T v q∧(∀(β:Type) (k:Tr AV→Option β),Yt N o.dst v T k=k T')∧Uy T' q'∧K q' st'=true):
  ∀call cc,UR cc call→ ∀T q st K,Uy T q→(KH ops o p c).run cc K q st=true→
  ∃v st' T' q',JH P G call ops o T st=some (v,st')∧(Jp ops o T=true→X T v q)∧(∀(β:Type) (k:Tr AV→Option β),Yt N o.dst v T k=k T')∧Uy T' q'∧K q' st'=true:=by
 have idle: ∀(call:Uc) T q st K,Uy T q→Jp ops o T=false→p q (.tup []) K st=true→ ∃v st' T' q',JH P G call ops o T st=some (v,st')∧(Jp ops o T=true→X T v q)∧(∀(β:Type) (k:Tr AV→Option β),Yt N o.dst v T k=k T')∧Uy T' q'∧K q' st'=true:=by
  intro call T q st K hT hw h;obtain⟨T',q',h1,h2,h3⟩:=hp T q _ K st hT h;exact⟨.tup [],st,T',q',by unfold JH;rw[hw];rfl,fun h=>(by rw[hw]at h;cases h),h1,h2,h3⟩
 have busy: ∀(call:Uc) cc,UR cc call→ ∀T q st K,Uy T q→Jp ops o T=true→c.run cc K q st=true→ ∃v st' T' q',JH P G call ops o T st=some (v,st')∧(Jp ops o T=true→X T v q)∧(∀(β:Type) (k:Tr AV→Option β),Yt N o.dst v T k=k T')∧Uy T' q'∧K q' st'=true:=by
  intro call cc hc T q st K hT hw h;obtain⟨v,st',T',q',h1,h2,h3⟩:=hX call cc hc T q st K hT h;exact⟨v,st',T',q',by unfold JH;rw[hw];exact h1,fun _=>h2,h3⟩
 unfold KH
 split
 ·rename_i hg;intro call cc hc T q st K hT h;exact busy call cc hc T q st K hT (Cp hg) h
 ·rename_i g hg
  split
  ·rename_i t ht
   refine Vb (k:=fun gt _=>⟨vg gt g.2 c.run p⟩) (t:=t) (fun c:CI=> ∀call cc,UR cc call→ ∀T q st K,Uy T q→c.run cc K q st=true→
    ∃v st' T' q',JH P G call ops o T st=some (v,st')∧(Jp ops o T=true→X T v q)∧(∀(β:Type) (k:Tr AV→Option β),Yt N o.dst v T k=k T')∧Uy T' q'∧K q' st'=true) (fun _ _ _ _ _ _ _ _ h=>by cases h) fun gt _ hgt _=>?_
   intro call cc hc T q st K hT h
   have hw:Jp ops o T=DB g.2 (Ec t q):=by rw[Co hg ht,hT t]
   replace h:Ss (gt q) g.2 (c.run cc K q st) (p q (.tup []) K st)=true:=h;rw[hgt q]at h;rcases Sr h with⟨h1,h2⟩|⟨h1,h2⟩
   ·exact busy call cc hc T q st K hT (hw.trans h1) h2
   ·exact idle call T q st K hT (hw.trans h1) h2
  ·rename_i ht;intro call cc hc T q st K hT h;exact idle call T q st K hT (Cq hg ht) h
theorem OQ(P:Program)(G:Env)(N:Nat)(ops:List Oper)(o:Oper):yd P G N ops o (Lc P G N ops o).run:=by
 refine Gi (fun c:CI=>yd P G N ops o c.run) (fun _ _ _ _ _ _ _ _ h=>by cases h) fun p hp=>?_;intro call cc hc T q st K hT h
 obtain⟨v,st',T',q',h1,_,h3⟩:=Bo hp (fun _ _ _=>True) (fun call cc hc T q st K hT h=>by
  obtain⟨v,st',T',q',h1,h2⟩:=Mj P G N o p hp call cc hc T q st K hT h
  exact⟨v,st',T',q',h1,trivial,h2⟩) call cc hc T q st K hT h
 exact⟨v,st',T',q',h1,h3⟩
theorem y0(P:Program)(G:Env)(N:Nat)(ops:List Oper){call:Uc}{cc:Zl}(hc:UR cc call)(K:KB): ∀(l:List Oper) (T:Tr AV) (q:Q2) (st:St),Uy T q→y5 (Ht (Lc P G N ops) l) cc K q st=true→
  ∃T' st' q',Ez P G call N ops l T st=some (T',st')∧Uy T' q'∧K q' st'=true:=by
 intro l
 induction l with
 |nil=>intro T q st hT h;exact⟨T,st,q,rfl,hT,h⟩
 |cons o l ih=>
  intro T q st hT h;replace h:(Lc P G N ops o).run cc (y5 (Ht (Lc P G N ops) l) cc K) q st=true:=h;obtain⟨v,st',T',q',h1,h2,h3,h4⟩:=OQ P G N ops o call cc hc T q st _ hT h;obtain⟨T2,st2,q2,k1,k2,k3⟩:=ih T' q' st' h3 h4;refine⟨T2,st2,q2,?_,k2,k3⟩;show ob (JH P G call ops o T st) _=_;rw[h1,Qh,h2];exact k1

theorem TV{P:Program}{t:TypeId}{pt:XI}(hpt: ∀l off kv,pt l off kv=true→ ∃v,Z2 P t l off=some v∧kv v=true){x v:AV}: ∀(n:Nat) (l:List St),Gb pt x v n l=true→
  ∀(G:Env) (o:Oper) (T:Tr AV) (a:Operand),o.op=.load t a→QF G T a=some x→again P G o T v n l=true:=by
 intro n
 induction n with
 |zero=>intro l h G o T a _ _;rfl
 |succ n ih=>
  intro l h G o T a ho ha
  cases l with
  |nil=>cases h
  |cons st l=>
   replace h:Qg (Nx pt x st fun u=>Gf u v) (Gb pt x v n l) false=true:=h
   cases hl:Nx pt x st fun u=>Gf u v with
   |false=>rw[hl]at h;cases h
   |true=>
    rw[hl]at h;obtain⟨u,h1,h2⟩:=KA hpt hl
    show Qg (match o.op with
     |.load t a=>Option.rec false (fun x=>Option.rec false (fun u=>Gf u v) (QX P t x st.h.get)) (QF G T a)
     |_=>false) (again P G o T v n l) false=true
    rw[ih l h G o T a ho ha,ho];show Qg (Option.rec false (fun x=>Option.rec false (fun u=>Gf u v) (QX P t x st.h.get)) (QF G T a)) true false=true;rw[ha];show Qg (Option.rec false (fun u=>Gf u v) (QX P t x st.h.get)) true false=true;rw[h1];show Qg (Gf u v) true false=true;rw[h2];rfl
def yc(P:Program)(G:Env)(N:Nat)(ops:List Oper)(q:Nat×Oper×Nat)(d:DI):Prop:= ∀call cc,UR cc call→ ∀T e st sn (kk:List St→KB),Uy T e→DI.rec (motive:=fun _=>(List St→KB)→Zl→List St→KB) MX zW uT d kk cc sn e st=true→
 ∃v st' T' e',JH P G call ops q.2.1 T st=some (v,st')∧Qg (Jp ops q.2.1 T) (again P G q.2.1 T v q.2.2 (List.rec [] (fun _ t _=>t) sn)) true=true∧
  (∀(β:Type) (k:Tr AV→Option β),Yt N q.2.1.dst v T k=k T')∧Uy T' e'∧kk (Qg (Nat.beq (QG P q.2.1.op) 3) (st'::sn) sn) e' st'=true
theorem SE(P:Program)(G:Env)(N:Nat)(ops:List Oper)(q:Nat×Oper×Nat):yc P G N ops q (NL P G N ops q):=by
 obtain⟨i,o,n⟩:=q;unfold NL
 cases hn:Nat.beq n 0 with
 |true=>
  have hn0:n=0:=Nat.eq_of_beq_eq_true hn;subst hn0;rw[QB]
  have agz: ∀T v l,Qg (Jp ops o T) (again P G o T v 0 l) true=true:=fun T v l=>by cases Jp ops o T<;>rfl
  cases hk:Nat.beq (QG P o.op) 3 with
  |true=>
   rw[QB];intro call cc hc T e st sn kk hT h;obtain⟨v,st',T',e',h1,h2,h3,h4⟩:=OQ P G N ops o call cc hc T e st _ hT h;exact⟨v,st',T',e',h1,agz _ _ _,h2,h3,by simp only[hk,QB];exact h4⟩
  |false=>
   rw[Q3];intro call cc hc T e st sn kk hT h;obtain⟨v,st',T',e',h1,h2,h3,h4⟩:=OQ P G N ops o call cc hc T e st _ hT h;exact⟨v,st',T',e',h1,agz _ _ _,h2,h3,by simp only[hk,Q3];exact h4⟩
 |false=>
  rw[Q3]
  have nope:yc P G N ops (i,o,n) (.plain JB):=fun _ _ _ _ _ _ _ _ _ h=>by cases h
  simp only
  split
  ·rename_i t a ho;intro call cc hc T e st sn kk hT h
   have hk:Nat.beq (QG P o.op) 3=false:=by rw[ho];rfl
   have key: ∀call cc,UR cc call→ ∀T e st K,Uy T e→CI.run (DA N o.dst fun p=>KH ops o p (Eg P t JB fun pt=>UA G a JB fun g=>⟨vc pt n g p sn⟩)) cc K e st=true→
     ∃v st' T' e',JH P G call ops o T st=some (v,st')∧(Jp ops o T=true→again P G o T v n (List.rec [] (fun _ t _=>t) sn)=true)∧(∀(β:Type) (k:Tr AV→Option β),Yt N o.dst v T k=k T')∧Uy T' e'∧K e' st'=true:=by
    refine Gi (fun c:CI=> ∀call cc,UR cc call→ ∀T e st K,Uy T e→c.run cc K e st=true→
     ∃v st' T' e',JH P G call ops o T st=some (v,st')∧(Jp ops o T=true→again P G o T v n (List.rec [] (fun _ t _=>t) sn)=true)∧(∀(β:Type) (k:Tr AV→Option β),Yt N o.dst v T k=k T')∧Uy T' e'∧K e' st'=true) (fun _ _ _ _ _ _ _ _ h=>by cases h) fun p hp=>?_
    refine Bo hp (fun T v _=>again P G o T v n (List.rec [] (fun _ t _=>t) sn)=true) ?_
    refine DO (fun c:CI=> ∀call cc,UR cc call→ ∀T q st K,Uy T q→c.run cc K q st=true→
     ∃v st' T' q',Ib P (QF G T) call o st=some (v,st')∧again P G o T v n (List.rec [] (fun _ t _=>t) sn)=true∧(∀(β:Type) (k:Tr AV→Option β),Yt N o.dst v T k=k T')∧Uy T' q'∧K q' st'=true) (fun _ _ _ _ _ _ _ _ h=>by cases h) fun pt hpt=>?_
    refine J0 (fun c:CI=> ∀call cc,UR cc call→ ∀T q st K,Uy T q→c.run cc K q st=true→
     ∃v st' T' q',Ib P (QF G T) call o st=some (v,st')∧again P G o T v n (List.rec [] (fun _ t _=>t) sn)=true∧(∀(β:Type) (k:Tr AV→Option β),Yt N o.dst v T k=k T')∧Uy T' q'∧K q' st'=true) (fun _ _ _ _ _ _ _ _ h=>by cases h) fun g hg=>?_
    intro call cc hc T q st K hT h;obtain⟨v,h1,h2⟩:=KA hpt h
    cases hag:Gb pt (g q) v n (List.rec [] (fun _ t _=>t) sn)with
    |false=>rw[hag]at h2;cases h2
    |true=>
     rw[hag]at h2;obtain⟨T',q',k1,k2,k3⟩:=hp T q v K st hT h2;refine⟨v,st,T',q',?_,TV hpt n _ hag G o T a ho (hg T q hT),k1,k2,k3⟩;unfold Ib;rw[ho];show ob (QF G T a) (fun x=>ret (QX P t x st.h.get) st)=_;rw[hg T q hT,Qh,h1];rfl
   obtain⟨v,st',T',e',h1,h2,h3,h4,h5⟩:=key call cc hc T e st _ hT h;refine⟨v,st',T',e',h1,?_,h3,h4,by simp only[hk,Q3];exact h5⟩;show Qg (Jp ops o T) (again P G o T v n (List.rec [] (fun _ t _=>t) sn)) true=true
   cases hw:Jp ops o T with
   |false=>rfl
   |true=>exact h2 hw
  ·exact nope
theorem qX(P:Program)(G:Env)(N:Nat)(ops:List Oper){call:Uc}{cc:Zl}(hc:UR cc call)(K:KB): ∀(l:List (Nat×Oper×Nat)) (T:Tr AV) (q:Q2) (st:St) (sn:List St),Uy T q→yx (Ht (NL P G N ops) l) cc K sn q st=true→
  ∃T' st' q',VN P G call N ops l T st sn=some (T',st')∧Uy T' q'∧K q' st'=true:=by
 intro l
 induction l with
 |nil=>intro T q st sn hT h;exact⟨T,st,q,rfl,hT,h⟩
 |cons o l ih=>
  intro T q st sn hT h;obtain⟨v,st',T',q',h1,h2,h3,h4,h5⟩:=SE P G N ops o call cc hc T q st sn (yx (Ht (NL P G N ops) l) cc K) hT h;obtain⟨T2,st2,q2,k1,k2,k3⟩:=ih T' q' st' _ h4 h5;refine⟨T2,st2,q2,?_,k2,k3⟩;show ob (JH P G call ops o.2.1 T st) _=_;rw[h1,Qh];show QD (Qg (Jp ops o.2.1 T) (again P G o.2.1 T v o.2.2 (List.rec [] (fun _ t _=>t) sn)) true) _=_;rw[h2,QR,h3];exact k1

def MN(x:Ex)(E:Nat→KB)(R K:KB):KB:=match x with
 |.nor=>K
 |.exit i=>E i
 |.ret=>R
def VX(f:Tr AV→St→Option (Ex×Tr AV×St))(call:Uc)(b:ZW):Prop:= ∀cc,UR cc call→ ∀E R K T q st,Uy T q→b cc E R K q st=true→ ∃x T' st' q',f T st=some (x,T',st')∧Uy T' q'∧MN x E R K q' st'=true
theorem Tb{P:Program}{G:Env}{N L:Nat}{call:Uc}{a b:CC}{fa fb:Tr AV→St→Option (Ex×Tr AV×St)}{g:Operand}{x y:Tmp}{gg:Q2→AV}{p1 p2:ES}(hg:yh G g gg)(hp1:It N (some x) p1)(hp2:It N (some y) p2)
  (ha:VX fa call (runK L a)) (hb:VX fb call (runK L b)) {cc:Zl} (hc:UR cc call) {E:Nat→KB} {R K:KB} {T:Tr AV} {q:Q2} {st:St} (hT:Uy T q) (h:runK L (.range (xq P G) gg p1 p2 a b) cc E R K q st=true):
  ∃e T' st' q',Vh P G N g [x,y] true fa fb T st=some (e,T',st')∧Uy T' q'∧MN e E R K q' st'=true:=by
 replace h:xq P G (gg q) st (fun n el=>Nat.rec (motive:=fun _=>St→Bool) (fun st=>K q st) (fun i ih st=>el i st fun v=>p1 q (.int .i64 (Int.ofNat i)) (fun T1 st=>p2 T1 v (fun T2 st=>runK L a cc (fun _ _ _=>false) (fun _ _=>false) (fun T3 st=>runK L b cc (fun id _ st=>E id q st) (fun _ st=>R q st) (fun _ st=>tl (ih st)) T3 st) T2 st) st) st) n st)=true:=h;unfold Vh;rw[hg T q hT,QR,Qh];unfold xq at h
 split at h
 ·rename_i f first cap hv
  rw[hv];replace h:=Us h;obtain⟨qq,hq,h⟩:=h;simp only[hq,Qh]
  split at h
  ·split at h
   ·rename_i cap;replace h:=Us h;obtain⟨s,hs,h⟩:=h;replace h:=Us h;obtain⟨nv,hl,h⟩:=h;simp only[hs,Qh,hl]
    split at h
    ·rename_i k n
     cases n with
     |negSucc n=>cases h
     |ofNat n=>
      simp only[LO,Qh];unfold Mv at h;simp only at h
      cases hm:Nat.ble n UP with
      |false=>rw[hm]at h;cases h
      |true=>
       rw[hm]at h;rw[QR];simp only at h;clear hl hs hm hv hq;revert st
       induction n with
       |zero=>intro st h;exact⟨.nor,T,st,q,rfl,hT,h⟩
       |succ n ih=>
        intro st h;replace h:xr P qq cap n st (fun v=>p1 q (.int .i64 (Int.ofNat n)) (fun T1 st=>p2 T1 v (fun T2 st=>runK L a cc (fun _ _ _=>false) (fun _ _=>false) (fun T3 st=>runK L b cc (fun id _ st=>E id q st) (fun _ st=>R q st) (fun _ st=>tl (Nat.rec (motive:=fun _=>St→Bool) (fun st=>K q st) (fun i ih st=>xr P qq cap i st fun v=>p1 q (.int .i64 (Int.ofNat i)) (fun T1 st=>p2 T1 v (fun T2 st=>runK L a cc (fun _ _ _=>false) (fun _ _=>false) (fun T3 st=>runK L b cc (fun id _ st=>E id q st) (fun _ st=>R q st) (fun _ st=>tl (ih st)) T3 st) T2 st) st) st) n st)) T3 st) T2 st) st) st)=true:=h;unfold xr at h;replace h:=Us h;obtain⟨s,hs,h⟩:=h;replace h:=Us h;obtain⟨ad,had,h⟩:=h;replace h:=Us h;obtain⟨v,hv,h⟩:=h;obtain⟨T1,q1,k1,r1,h⟩:=hp1 T q _ _ _ hT h;obtain⟨T2,q2,k2,r2,h⟩:=hp2 T1 q1 _ _ _ r1 h;obtain⟨e,T3,st3,q3,c1,r3,h⟩:=ha cc hc _ _ _ T2 q2 _ r2 h
        cases e with
        |exit i=>cases h
        |ret=>cases h
        |nor=>
         obtain⟨e,T4,st4,q4,c2,r4,h⟩:=hb cc hc _ _ _ T3 q3 _ r3 h
         have e0:Xe P N qq.1 qq.2 cap [x,y] fa fb T (n+1) st=Ex.rec (tl (Xe P N qq.1 qq.2 cap [x,y] fa fb T n st4)) (fun id=>some (.exit id,T,st4)) (some (.ret,T,st4)) e:=by
          show(ob (QX P qq.1 cap st.h.get) fun s=>ob (Jy P qq.1 s (.int .i64 (Int.ofNat n))) fun q=>ob (QX P qq.2 q st.h.get) fun v=>AA N [x,y] (.int .i64 (Int.ofNat n)) v T fun T1=>ob (fa T1 st) fun r=>Ex.rec (ob (fb r.2.1 r.2.2) fun q=>Ex.rec (tl (Xe P N qq.1 qq.2 cap [x,y] fa fb T n q.2.2)) (fun id=>some (.exit id,T,q.2.2)) (some (.ret,T,q.2.2)) q.1) (fun _=>none) none r.1)=_;rw[hs,Qh,had,Qh,hv,Qh];show Yt N (some x) _ T _=_;rw[k1,k2,c1,Qh];show(ob (fb T3 st3) _)=_;rw[c2,Qh]
         cases e with
         |nor=>
          obtain⟨e,T5,st5,q5,d1,d2,d3⟩:=ih h;exact⟨e,T5,st5,q5,by rw[e0];exact d1,d2,d3⟩
         |exit id=>exact⟨.exit id,T,st4,q,e0,hT,h⟩
         |ret=>exact⟨.ret,T,st4,q,e0,hT,h⟩
    ·cases h
   ·cases h
  ·cases h
 ·cases h
theorem jI(P:Program)(G:Env)(N L:Nat)(call:Uc): ∀c:Code,VX (codeF P G call N L c) call (runK L (EH P G N c)):=by
 have nope: ∀f,VX f call (runK L .bad):=fun f _ _ _ _ _ _ _ _ _ h=>by cases h
 intro c
 induction c with
 |skip=>intro cc hc E R K T q st hT h;exact⟨.nor,T,st,q,rfl,hT,h⟩
 |region id ops draw=>
  cases draw with
  |false=>
   intro cc hc E R K T q st hT h;obtain⟨T',st',q',h1,h2,h3⟩:=y0 P G N ops.toList hc K ops.toList T q st hT h;refine⟨.nor,T',st',q',?_,h2,h3⟩;show(ob (Ez P G call N ops.toList ops.toList T st) fun r=>some (Ex.nor,r))=_;rw[h1];rfl
  |true=>
   have e:EH P G N (.region id ops true)=Option.rec .bad (fun pl=>.VN (Ht (NL P G N ops.toList) pl)) (ZK P ops.toList):=rfl;rw[e]
   cases hpl:ZK P ops.toList with
   |none=>exact nope _
   |some pl=>
    intro cc hc E R K T q st hT h;obtain⟨T',st',q',h1,h2,h3⟩:=qX P G N ops.toList hc K pl T q st [st] hT h;refine⟨.nor,T',st',q',?_,h2,h3⟩;show(ob (ZK P ops.toList) fun pl=>ob (VN P G call N ops.toList pl T st [st]) fun r=>some (Ex.nor,r))=_;rw[hpl,Qh,h1];rfl
 |seq a b ha hb=>
  intro cc hc E R K T q st hT h;obtain⟨x,T',st',q',h1,h2,h3⟩:=ha cc hc E R (runK L (EH P G N b) cc E R K) T q st hT h;have e:codeF P G call N L (.seq a b) T st=Xb (codeF P G call N L a T st) (codeF P G call N L b):=rfl
  cases x with
  |nor=>
   obtain⟨x,T2,st2,q2,k1,k2,k3⟩:=hb cc hc E R K T' q' st' h2 h3;exact⟨x,T2,st2,q2,by rw[e,h1];exact k1,k2,k3⟩
  |exit i=>exact⟨.exit i,T',st',q',by rw[e,h1];rfl,h2,h3⟩
  |ret=>exact⟨.ret,T',st',q',by rw[e,h1];rfl,h2,h3⟩
 |cond c a b ha hb=>
  show VX _ call (runK L (UA G c .bad fun g=>.cond g (EH P G N a) (EH P G N b)));refine J0 (fun d:CC=>VX (codeF P G call N L (.cond c a b)) call (runK L d)) (nope _) fun g hg=>?_;intro cc hc E R K T q st hT h;replace h:uV (g q) (runK L (EH P G N a) cc E R K) (runK L (EH P G N b) cc E R K) q st=true:=h;have e:codeF P G call N L (.cond c a b) T st=Lb (QF G T c) (codeF P G call N L a T st) (codeF P G call N L b T st):=rfl;rw[hg T q hT]at e
  cases hv:g q with
  |bool t=>
   rw[hv]at h e
   cases t with
   |true=>
    obtain⟨x,T',st',q',h1,h2,h3⟩:=ha cc hc E R K T q st hT h;exact⟨x,T',st',q',by rw[e];exact h1,h2,h3⟩
   |false=>
    obtain⟨x,T',st',q',h1,h2,h3⟩:=hb cc hc E R K T q st hT h;exact⟨x,T',st',q',by rw[e];exact h1,h2,h3⟩
  |_=>rw[hv]at h;cases h
 |block id b hb=>
  intro cc hc E R K T q st hT h;obtain⟨x,T',st',q',h1,h2,h3⟩:=hb cc hc (fun i=>Qg (Nat.beq i id) K (E i)) R K T q st hT h;have e:codeF P G call N L (.block id b) T st=HA id (codeF P G call N L b T st):=rfl
  cases x with
  |nor=>exact⟨.nor,T',st',q',by rw[e,h1];rfl,h2,h3⟩
  |ret=>exact⟨.ret,T',st',q',by rw[e,h1];rfl,h2,h3⟩
  |exit i=>
   replace h3:Qg (Nat.beq i id) K (E i) q' st'=true:=h3
   cases hi:Nat.beq i id with
   |true=>rw[hi]at h3;exact⟨.nor,T',st',q',by rw[e,h1];show Qg (Nat.beq i id) _ _=_;rw[hi];rfl,h2,h3⟩
   |false=>rw[hi]at h3;exact⟨.exit i,T',st',q',by rw[e,h1];show Qg (Nat.beq i id) _ _=_;rw[hi];rfl,h2,h3⟩
 |loop b hb=>
  intro cc hc E R K T q st hT h
  have key: ∀n T q st,Uy T q→Nat.rec (motive:=fun _=>KB) (fun _ _=>false) (fun _ ih=>runK L (EH P G N b) cc E R ih) n q st=true→
    ∃x T' st' q',Nat.rec (motive:=fun _=>Tr AV→St→Option (Ex×Tr AV×St)) (fun _ _=>none) (fun _ ih T st=>Xb (codeF P G call N L b T st) ih) n T st=some (x,T',st')∧Uy T' q'∧MN x E R K q' st'=true:=by
   intro n
   induction n with
   |zero=>intro T q st hT h;cases h
   |succ n ih=>
    intro T q st hT h;obtain⟨x,T',st',q',h1,h2,h3⟩:=hb cc hc E R _ T q st hT h
    cases x with
    |nor=>
     obtain⟨x,T2,st2,q2,k1,k2,k3⟩:=ih T' q' st' h2 h3;refine⟨x,T2,st2,q2,?_,k2,k3⟩;show Xb (codeF P G call N L b T st) _=_;rw[h1];exact k1
    |exit i=>exact⟨.exit i,T',st',q',by show Xb (codeF P G call N L b T st) _=_;rw[h1];rfl,h2,h3⟩
    |ret=>exact⟨.ret,T',st',q',by show Xb (codeF P G call N L b T st) _=_;rw[h1];rfl,h2,h3⟩
  exact key L T q st hT h
 |rangeFunc g ps a b ha hb=>
  show VX _ call (runK L (MY P G N g ps.toList (Qg (JX a) (JX b) false) (EH P G N a) (EH P G N b)));have e:codeF P G call N L (.rangeFunc g ps a b)=Vh P G N g ps.toList (Qg (JX a) (JX b) false) (codeF P G call N L a) (codeF P G call N L b):=rfl;rw[e];unfold MY
  split
  ·rename_i x y hps;rw[hps]
   cases hpl:Qg (JX a) (JX b) false with
   |false=>exact nope _
   |true=>
    refine J0 (fun d:CC=>VX _ call (runK L d)) (nope _) fun gg hg=>?_;refine LL (fun d:CC=>VX _ call (runK L d)) (nope _) fun p1 hp1=>?_;refine LL (fun d:CC=>VX _ call (runK L d)) (nope _) fun p2 hp2=>?_;intro cc hc E R K T q st hT h;exact Tb hg hp1 hp2 ha hb hc hT h
  ·exact nope _
 |exit id=>intro cc hc E R K T q st hT h;exact⟨.exit id,T,st,q,rfl,hT,h⟩
 |ret=>intro cc hc E R K T q st hT h;exact⟨.ret,T,st,q,rfl,hT,h⟩
 |label id=>intro cc hc E R K T q st hT h;exact⟨.nor,T,st,q,rfl,hT,h⟩
 |_=>exact nope _

theorem jP: ∀(l:List AV) (i:Nat) (T:Tr AV) (q:Q2) (K:KB) (st:St),Uy T q→qB l i q K st=true→ ∃T' q',(∀(β:Type) (k:Tr AV→β),List.rec (motive:=fun _=>Nat→Tr AV→β) (fun(_:Nat) T=>k T) (fun v _ ih i T=>T.put i v (ih (i+1))) l i T=k T')∧Uy T' q'∧K q' st=true:=by
 intro l
 induction l with
 |nil=>intro i T q K st hT h;exact⟨T,q,fun _ _=>rfl,hT,h⟩
 |cons v l ih=>
  intro i T q K st hT h;replace h:(putAt i).put q v (fun T st=>qB l (Nat.succ i) T K st) st=true:=h
  have key: ∀q K st,(putAt i).put q v K st=true→ ∃q',K q' st=true∧ ∀u,Ec u q'=if u=i then v else Ec u q:=by
   refine Vb (k:=fun _ p=>D6.mk p) (t:=i) (fun b:D6=> ∀q K st,b.put q v K st=true→ ∃q',K q' st=true∧ ∀u,Ec u q'=if u=i then v else Ec u q) (fun _ _ _ h=>by cases h) fun g p _ hp=>?_;intro q K st h;obtain⟨q',e,hq⟩:=hp q v K st;exact⟨q',by rw[←e];exact h,hq⟩
  obtain⟨q',h1,h2⟩:=key q _ st h;obtain⟨T',q2,k1,k2,k3⟩:=ih (i+1) (T.set i v) q' K st (fun u=>by rw[Yi,h2,hT u]) h1;refine⟨T',q2,fun β k=>?_,k2,k3⟩;show T.put i v _=_;rw[Tr.put_eq];exact k1 β k
theorem Sk:Uy .nil .zero:=by
 intro t;have e:UH .nil t=.tup []:=rfl;rw[e];unfold Ec
 split
 ·rename_i i _
  split
  ·rename_i j _
   cases i<;>cases j<;>rfl
  ·rfl
 ·rfl
theorem yy{P:Program}{T:Tr AV}{q:Q2}{st:St}(hT:Uy T q){r:ResultVar}{k:KV}(h:yz P q st r k=true): ∃v,Al P T st r=some v∧k v=true:=by
 cases r with
 |tmp t=>exact⟨Ec t q,congrArg some (hT t),h⟩
 |cell a t=>
  obtain⟨v,h1,h2⟩:=Us h;exact⟨v,by show QX P t (UH T a) st.h.get=_;rw[hT a];exact h1,h2⟩
theorem GA{P:Program}{T:Tr AV}{q:Q2}{st:St}(hT:Uy T q): ∀(l:List ResultVar) (k:List AV→Bool),Kd P l q st k=true→ ∃vs,JW (Al P T st) l=some vs∧k vs=true:=by
 intro l
 induction l with
 |nil=>intro k h;exact⟨[],rfl,h⟩
 |cons r l ih=>
  intro k h;replace h:yz P q st r (fun v=>Kd P l q st fun l=>k (v::l))=true:=h;obtain⟨v,h1,h⟩:=yy hT h;obtain⟨vs,h2,h⟩:=ih _ h;exact⟨v::vs,by rw[Jm,h1,Qh,h2,Qh],h⟩
theorem MM{P:Program}{res:List ResultVar}{T:Tr AV}{q:Q2}{st:St}(hT:Uy T q){k:AV→St→Bool}(h:yO P res k q st=true): ∃v,Jl P res T st=some v∧k v st=true:=by
 obtain⟨vs,h1,h2⟩:=GA hT res _ h;refine⟨_,?_,h2⟩;unfold Jl;rw[h1,Qh]
 cases vs with
 |nil=>rfl
 |cons v t=>cases t<;>rfl
theorem qe(P:Program)(G:Env)(L:Nat): ∀fuel,UR (BN P G L fuel) (Jg P G L fuel):=by
 intro fuel
 induction fuel with
 |zero=>intro f args st k h;cases h
 |succ n ih=>
  intro f args st k h;replace h:(Option.rec (Ic (uX P G f) fun q=>tl (Pq P L q (BN P G L n) args st k)) (fun sm=>Ic (sm args st) fun r=>k r.1 r.2) (G.s f):Bool)=true:=h;have e0:Jg P G L (n+1) f args st=(Option.rec (ob (FI P f) fun q=>QD (Nat.ble (Y2 args) q.2.1) (ER args fun T=>H5 (codeF P G (Jg P G L n) q.2.1 L q.1 T st) fun T st=>ob (Jl P q.2.2 T st) fun v=>some (v,st))) (fun sm=>sm args st) (G.s f):Option (AV×St)):=rfl;rw[e0]
  cases hsm:G.s f with
  |some sm=>
   rw[hsm]at h;obtain⟨⟨v,st'⟩,h1,h2⟩:=Us h;exact⟨v,st',h1,h2⟩
  |none=>
  rw[hsm]at h;obtain⟨fn,h1,h⟩:=Us h;replace h:Pq P L fn (BN P G L n) args st k=true:=h;replace h1:=Qi h1;obtain⟨q,hq,h1⟩:=h1;obtain⟨_,h1⟩:=Qo h1
  injection h1 with h1
  subst h1;show∃v st',(ob (FI P f) fun q=>QD (Nat.ble (Y2 args) q.2.1) (ER args fun T=>H5 (codeF P G (Jg P G L n) q.2.1 L q.1 T st) fun T st=>ob (Jl P q.2.2 T st) fun v=>some (v,st)))=some (v,st')∧k v st'=true;rw[hq,Qh];unfold Pq at h;simp only at h
  cases hb:Nat.ble (Y2 args) q.2.1 with
  |false=>rw[hb]at h;cases h
  |true=>
   rw[hb]at h;rw[QR];obtain⟨T,q1,k1,k2,k3⟩:=jP args 0 .nil .zero _ st Sk h;have e: ∀(β:Type) (k:Tr AV→β),ER args k=k T:=fun β k=>k1 β k;rw[e];obtain⟨x,T',st',q',c1,c2,c3⟩:=jI P G q.2.1 L (Jg P G L n) q.1 (BN P G L n) ih _ _ _ T q1 st k2 k3;rw[c1]
   cases x with
   |exit i=>cases c3
   |nor=>
    obtain⟨v,r1,r2⟩:=MM c2 c3;refine⟨v,st',?_,r2⟩;show ob (Jl P q.2.2 T' st') _=_;rw[r1];rfl
   |ret=>
    obtain⟨v,r1,r2⟩:=MM c2 c3;refine⟨v,st',?_,r2⟩;show ob (Jl P q.2.2 T' st') _=_;rw[r1];rfl

theorem Du{P:Program}{G:Env}{f:FuncId}{args:List AV}{L fuel:Nat}{st:St}(h:BN P G L fuel f args st ym=true):isTrue (Jg P G L fuel f args st)=true:=by
 obtain⟨v,st',h1,h2⟩:=qe P _ L fuel f args _ _ h;rw[h1]
 cases v<;>first|exact h2|cases h2

end Go.Proofs.YtadjjadimlkkgaaGreatDoor
end
