/-
  Several texts in one: XEvO, XEvP, XEvR (the swift reckoner).
-/
import Derived.Test.YtadjjadimlkkgaaGreatDoorLiEv3
set_option linter.unusedSimpArgs false
set_option linter.unusedVariables false
section

namespace Go.Proofs.YtadjjadimlkkgaaGreatDoor
open Go
set_option maxRecDepth 100000

structure Q1 where
 a0:AV
 a1:AV
 a2:AV
 a3:AV
 a4:AV
 a5:AV
 a6:AV
 a7:AV
 a8:AV
 a9:AV
 a10:AV
 a11:AV
 a12:AV
 a13:AV
 a14:AV
 a15:AV
structure Q2 where
 a0:Q1
 a1:Q1
 a2:Q1
 a3:Q1
 a4:Q1
 a5:Q1
 a6:Q1
 a7:Q1
 a8:Q1
 a9:Q1
 a10:Q1
 a11:Q1
 a12:Q1
 a13:Q1
 a14:Q1
 a15:Q1
inductive Dg where
 |d0
 |d1
 |d2
 |d3
 |d4
 |d5
 |d6
 |d7
 |d8
 |d9
 |d10
 |d11
 |d12
 |d13
 |d14
 |d15

noncomputable section
def Q1.u0:Q1→AV→(Q1→Bool)→Bool:=fun q v k=>(Q1.rec (motive:=fun _=>AV→(Q1→Bool)→Bool) (fun x0 x1 x2 x3 x4 x5 x6 x7 x8 x9 x10 x11 x12 x13 x14 x15 v k=>k (Q1.mk v x1 x2 x3 x4 x5 x6 x7 x8 x9 x10 x11 x12 x13 x14 x15))) q v k
def Q1.u1:Q1→AV→(Q1→Bool)→Bool:=fun q v k=>(Q1.rec (motive:=fun _=>AV→(Q1→Bool)→Bool) (fun x0 x1 x2 x3 x4 x5 x6 x7 x8 x9 x10 x11 x12 x13 x14 x15 v k=>k (Q1.mk x0 v x2 x3 x4 x5 x6 x7 x8 x9 x10 x11 x12 x13 x14 x15))) q v k
def Q1.u2:Q1→AV→(Q1→Bool)→Bool:=fun q v k=>(Q1.rec (motive:=fun _=>AV→(Q1→Bool)→Bool) (fun x0 x1 x2 x3 x4 x5 x6 x7 x8 x9 x10 x11 x12 x13 x14 x15 v k=>k (Q1.mk x0 x1 v x3 x4 x5 x6 x7 x8 x9 x10 x11 x12 x13 x14 x15))) q v k
def Q1.u3:Q1→AV→(Q1→Bool)→Bool:=fun q v k=>(Q1.rec (motive:=fun _=>AV→(Q1→Bool)→Bool) (fun x0 x1 x2 x3 x4 x5 x6 x7 x8 x9 x10 x11 x12 x13 x14 x15 v k=>k (Q1.mk x0 x1 x2 v x4 x5 x6 x7 x8 x9 x10 x11 x12 x13 x14 x15))) q v k
def Q1.u4:Q1→AV→(Q1→Bool)→Bool:=fun q v k=>(Q1.rec (motive:=fun _=>AV→(Q1→Bool)→Bool) (fun x0 x1 x2 x3 x4 x5 x6 x7 x8 x9 x10 x11 x12 x13 x14 x15 v k=>k (Q1.mk x0 x1 x2 x3 v x5 x6 x7 x8 x9 x10 x11 x12 x13 x14 x15))) q v k
def Q1.u5:Q1→AV→(Q1→Bool)→Bool:=fun q v k=>(Q1.rec (motive:=fun _=>AV→(Q1→Bool)→Bool) (fun x0 x1 x2 x3 x4 x5 x6 x7 x8 x9 x10 x11 x12 x13 x14 x15 v k=>k (Q1.mk x0 x1 x2 x3 x4 v x6 x7 x8 x9 x10 x11 x12 x13 x14 x15))) q v k
def Q1.u6:Q1→AV→(Q1→Bool)→Bool:=fun q v k=>(Q1.rec (motive:=fun _=>AV→(Q1→Bool)→Bool) (fun x0 x1 x2 x3 x4 x5 x6 x7 x8 x9 x10 x11 x12 x13 x14 x15 v k=>k (Q1.mk x0 x1 x2 x3 x4 x5 v x7 x8 x9 x10 x11 x12 x13 x14 x15))) q v k
def Q1.u7:Q1→AV→(Q1→Bool)→Bool:=fun q v k=>(Q1.rec (motive:=fun _=>AV→(Q1→Bool)→Bool) (fun x0 x1 x2 x3 x4 x5 x6 x7 x8 x9 x10 x11 x12 x13 x14 x15 v k=>k (Q1.mk x0 x1 x2 x3 x4 x5 x6 v x8 x9 x10 x11 x12 x13 x14 x15))) q v k
def Q1.u8:Q1→AV→(Q1→Bool)→Bool:=fun q v k=>(Q1.rec (motive:=fun _=>AV→(Q1→Bool)→Bool) (fun x0 x1 x2 x3 x4 x5 x6 x7 x8 x9 x10 x11 x12 x13 x14 x15 v k=>k (Q1.mk x0 x1 x2 x3 x4 x5 x6 x7 v x9 x10 x11 x12 x13 x14 x15))) q v k
def Q1.u9:Q1→AV→(Q1→Bool)→Bool:=fun q v k=>(Q1.rec (motive:=fun _=>AV→(Q1→Bool)→Bool) (fun x0 x1 x2 x3 x4 x5 x6 x7 x8 x9 x10 x11 x12 x13 x14 x15 v k=>k (Q1.mk x0 x1 x2 x3 x4 x5 x6 x7 x8 v x10 x11 x12 x13 x14 x15))) q v k
def Q1.uX:Q1→AV→(Q1→Bool)→Bool:=fun q v k=>(Q1.rec (motive:=fun _=>AV→(Q1→Bool)→Bool) (fun x0 x1 x2 x3 x4 x5 x6 x7 x8 x9 x10 x11 x12 x13 x14 x15 v k=>k (Q1.mk x0 x1 x2 x3 x4 x5 x6 x7 x8 x9 v x11 x12 x13 x14 x15))) q v k
def Q1.uW:Q1→AV→(Q1→Bool)→Bool:=fun q v k=>(Q1.rec (motive:=fun _=>AV→(Q1→Bool)→Bool) (fun x0 x1 x2 x3 x4 x5 x6 x7 x8 x9 x10 x11 x12 x13 x14 x15 v k=>k (Q1.mk x0 x1 x2 x3 x4 x5 x6 x7 x8 x9 x10 v x12 x13 x14 x15))) q v k
def Q1.uV:Q1→AV→(Q1→Bool)→Bool:=fun q v k=>(Q1.rec (motive:=fun _=>AV→(Q1→Bool)→Bool) (fun x0 x1 x2 x3 x4 x5 x6 x7 x8 x9 x10 x11 x12 x13 x14 x15 v k=>k (Q1.mk x0 x1 x2 x3 x4 x5 x6 x7 x8 x9 x10 x11 v x13 x14 x15))) q v k
def Q1.uU:Q1→AV→(Q1→Bool)→Bool:=fun q v k=>(Q1.rec (motive:=fun _=>AV→(Q1→Bool)→Bool) (fun x0 x1 x2 x3 x4 x5 x6 x7 x8 x9 x10 x11 x12 x13 x14 x15 v k=>k (Q1.mk x0 x1 x2 x3 x4 x5 x6 x7 x8 x9 x10 x11 x12 v x14 x15))) q v k
def Q1.uT:Q1→AV→(Q1→Bool)→Bool:=fun q v k=>(Q1.rec (motive:=fun _=>AV→(Q1→Bool)→Bool) (fun x0 x1 x2 x3 x4 x5 x6 x7 x8 x9 x10 x11 x12 x13 x14 x15 v k=>k (Q1.mk x0 x1 x2 x3 x4 x5 x6 x7 x8 x9 x10 x11 x12 x13 v x15))) q v k
def Q1.uS:Q1→AV→(Q1→Bool)→Bool:=fun q v k=>(Q1.rec (motive:=fun _=>AV→(Q1→Bool)→Bool) (fun x0 x1 x2 x3 x4 x5 x6 x7 x8 x9 x10 x11 x12 x13 x14 x15 v k=>k (Q1.mk x0 x1 x2 x3 x4 x5 x6 x7 x8 x9 x10 x11 x12 x13 x14 v))) q v k
def Q1.at(d:Dg):Q1→AV:=Dg.rec (motive:=fun _=>Q1→AV) Q1.a0 Q1.a1 Q1.a2 Q1.a3 Q1.a4 Q1.a5 Q1.a6 Q1.a7 Q1.a8 Q1.a9 Q1.a10 Q1.a11 Q1.a12 Q1.a13 Q1.a14 Q1.a15 d
def Q1.up(d:Dg):Q1→AV→(Q1→Bool)→Bool:=Dg.rec (motive:=fun _=>Q1→AV→(Q1→Bool)→Bool) Q1.u0 Q1.u1 Q1.u2 Q1.u3 Q1.u4 Q1.u5 Q1.u6 Q1.u7 Q1.u8 Q1.u9 Q1.uX Q1.uW Q1.uV Q1.uU Q1.uT Q1.uS d
def Q1.O1{β:Type}(d:Dg)(k:(Q1→AV)→(Q1→AV→(Q1→Bool)→Bool)→β):β:=Dg.rec (motive:=fun _=>β) (k Q1.a0 Q1.u0) (k Q1.a1 Q1.u1) (k Q1.a2 Q1.u2) (k Q1.a3 Q1.u3) (k Q1.a4 Q1.u4) (k Q1.a5 Q1.u5) (k Q1.a6 Q1.u6) (k Q1.a7 Q1.u7) (k Q1.a8 Q1.u8) (k Q1.a9 Q1.u9) (k Q1.a10 Q1.uX) (k Q1.a11 Q1.uW) (k Q1.a12 Q1.uV) (k Q1.a13 Q1.uU) (k Q1.a14 Q1.uT) (k Q1.a15 Q1.uS) d
theorem Q1.HU{β:Type}(d:Dg)(k:(Q1→AV)→(Q1→AV→(Q1→Bool)→Bool)→β):Q1.O1 d k=k (Q1.at d) (Q1.up d):=by cases d<;>rfl
theorem Q1.Nn(d:Dg)(q:Q1)(v:AV)(k:Q1→Bool): ∃q',Q1.up d q v k=k q'∧Q1.at d q'=v∧ ∀e,e≠d→Q1.at e q'=Q1.at e q:=by
 cases d<;>exact⟨_,rfl,rfl,fun e he=>by cases e<;>first|rfl|exact absurd rfl he⟩
def Q2.u0:Q2→Q1→(Q2→Bool)→Bool:=fun q v k=>(Q2.rec (motive:=fun _=>Q1→(Q2→Bool)→Bool) (fun x0 x1 x2 x3 x4 x5 x6 x7 x8 x9 x10 x11 x12 x13 x14 x15 v k=>k (Q2.mk v x1 x2 x3 x4 x5 x6 x7 x8 x9 x10 x11 x12 x13 x14 x15))) q v k
def Q2.u1:Q2→Q1→(Q2→Bool)→Bool:=fun q v k=>(Q2.rec (motive:=fun _=>Q1→(Q2→Bool)→Bool) (fun x0 x1 x2 x3 x4 x5 x6 x7 x8 x9 x10 x11 x12 x13 x14 x15 v k=>k (Q2.mk x0 v x2 x3 x4 x5 x6 x7 x8 x9 x10 x11 x12 x13 x14 x15))) q v k
def Q2.u2:Q2→Q1→(Q2→Bool)→Bool:=fun q v k=>(Q2.rec (motive:=fun _=>Q1→(Q2→Bool)→Bool) (fun x0 x1 x2 x3 x4 x5 x6 x7 x8 x9 x10 x11 x12 x13 x14 x15 v k=>k (Q2.mk x0 x1 v x3 x4 x5 x6 x7 x8 x9 x10 x11 x12 x13 x14 x15))) q v k
def Q2.u3:Q2→Q1→(Q2→Bool)→Bool:=fun q v k=>(Q2.rec (motive:=fun _=>Q1→(Q2→Bool)→Bool) (fun x0 x1 x2 x3 x4 x5 x6 x7 x8 x9 x10 x11 x12 x13 x14 x15 v k=>k (Q2.mk x0 x1 x2 v x4 x5 x6 x7 x8 x9 x10 x11 x12 x13 x14 x15))) q v k
def Q2.u4:Q2→Q1→(Q2→Bool)→Bool:=fun q v k=>(Q2.rec (motive:=fun _=>Q1→(Q2→Bool)→Bool) (fun x0 x1 x2 x3 x4 x5 x6 x7 x8 x9 x10 x11 x12 x13 x14 x15 v k=>k (Q2.mk x0 x1 x2 x3 v x5 x6 x7 x8 x9 x10 x11 x12 x13 x14 x15))) q v k
def Q2.u5:Q2→Q1→(Q2→Bool)→Bool:=fun q v k=>(Q2.rec (motive:=fun _=>Q1→(Q2→Bool)→Bool) (fun x0 x1 x2 x3 x4 x5 x6 x7 x8 x9 x10 x11 x12 x13 x14 x15 v k=>k (Q2.mk x0 x1 x2 x3 x4 v x6 x7 x8 x9 x10 x11 x12 x13 x14 x15))) q v k
def Q2.u6:Q2→Q1→(Q2→Bool)→Bool:=fun q v k=>(Q2.rec (motive:=fun _=>Q1→(Q2→Bool)→Bool) (fun x0 x1 x2 x3 x4 x5 x6 x7 x8 x9 x10 x11 x12 x13 x14 x15 v k=>k (Q2.mk x0 x1 x2 x3 x4 x5 v x7 x8 x9 x10 x11 x12 x13 x14 x15))) q v k
def Q2.u7:Q2→Q1→(Q2→Bool)→Bool:=fun q v k=>(Q2.rec (motive:=fun _=>Q1→(Q2→Bool)→Bool) (fun x0 x1 x2 x3 x4 x5 x6 x7 x8 x9 x10 x11 x12 x13 x14 x15 v k=>k (Q2.mk x0 x1 x2 x3 x4 x5 x6 v x8 x9 x10 x11 x12 x13 x14 x15))) q v k
def Q2.u8:Q2→Q1→(Q2→Bool)→Bool:=fun q v k=>(Q2.rec (motive:=fun _=>Q1→(Q2→Bool)→Bool) (fun x0 x1 x2 x3 x4 x5 x6 x7 x8 x9 x10 x11 x12 x13 x14 x15 v k=>k (Q2.mk x0 x1 x2 x3 x4 x5 x6 x7 v x9 x10 x11 x12 x13 x14 x15))) q v k
def Q2.u9:Q2→Q1→(Q2→Bool)→Bool:=fun q v k=>(Q2.rec (motive:=fun _=>Q1→(Q2→Bool)→Bool) (fun x0 x1 x2 x3 x4 x5 x6 x7 x8 x9 x10 x11 x12 x13 x14 x15 v k=>k (Q2.mk x0 x1 x2 x3 x4 x5 x6 x7 x8 v x10 x11 x12 x13 x14 x15))) q v k
def Q2.uX:Q2→Q1→(Q2→Bool)→Bool:=fun q v k=>(Q2.rec (motive:=fun _=>Q1→(Q2→Bool)→Bool) (fun x0 x1 x2 x3 x4 x5 x6 x7 x8 x9 x10 x11 x12 x13 x14 x15 v k=>k (Q2.mk x0 x1 x2 x3 x4 x5 x6 x7 x8 x9 v x11 x12 x13 x14 x15))) q v k
def Q2.uW:Q2→Q1→(Q2→Bool)→Bool:=fun q v k=>(Q2.rec (motive:=fun _=>Q1→(Q2→Bool)→Bool) (fun x0 x1 x2 x3 x4 x5 x6 x7 x8 x9 x10 x11 x12 x13 x14 x15 v k=>k (Q2.mk x0 x1 x2 x3 x4 x5 x6 x7 x8 x9 x10 v x12 x13 x14 x15))) q v k
def Q2.uV:Q2→Q1→(Q2→Bool)→Bool:=fun q v k=>(Q2.rec (motive:=fun _=>Q1→(Q2→Bool)→Bool) (fun x0 x1 x2 x3 x4 x5 x6 x7 x8 x9 x10 x11 x12 x13 x14 x15 v k=>k (Q2.mk x0 x1 x2 x3 x4 x5 x6 x7 x8 x9 x10 x11 v x13 x14 x15))) q v k
def Q2.uU:Q2→Q1→(Q2→Bool)→Bool:=fun q v k=>(Q2.rec (motive:=fun _=>Q1→(Q2→Bool)→Bool) (fun x0 x1 x2 x3 x4 x5 x6 x7 x8 x9 x10 x11 x12 x13 x14 x15 v k=>k (Q2.mk x0 x1 x2 x3 x4 x5 x6 x7 x8 x9 x10 x11 x12 v x14 x15))) q v k
def Q2.uT:Q2→Q1→(Q2→Bool)→Bool:=fun q v k=>(Q2.rec (motive:=fun _=>Q1→(Q2→Bool)→Bool) (fun x0 x1 x2 x3 x4 x5 x6 x7 x8 x9 x10 x11 x12 x13 x14 x15 v k=>k (Q2.mk x0 x1 x2 x3 x4 x5 x6 x7 x8 x9 x10 x11 x12 x13 v x15))) q v k
def Q2.uS:Q2→Q1→(Q2→Bool)→Bool:=fun q v k=>(Q2.rec (motive:=fun _=>Q1→(Q2→Bool)→Bool) (fun x0 x1 x2 x3 x4 x5 x6 x7 x8 x9 x10 x11 x12 x13 x14 x15 v k=>k (Q2.mk x0 x1 x2 x3 x4 x5 x6 x7 x8 x9 x10 x11 x12 x13 x14 v))) q v k
def Q2.at(d:Dg):Q2→Q1:=Dg.rec (motive:=fun _=>Q2→Q1) Q2.a0 Q2.a1 Q2.a2 Q2.a3 Q2.a4 Q2.a5 Q2.a6 Q2.a7 Q2.a8 Q2.a9 Q2.a10 Q2.a11 Q2.a12 Q2.a13 Q2.a14 Q2.a15 d
def Q2.up(d:Dg):Q2→Q1→(Q2→Bool)→Bool:=Dg.rec (motive:=fun _=>Q2→Q1→(Q2→Bool)→Bool) Q2.u0 Q2.u1 Q2.u2 Q2.u3 Q2.u4 Q2.u5 Q2.u6 Q2.u7 Q2.u8 Q2.u9 Q2.uX Q2.uW Q2.uV Q2.uU Q2.uT Q2.uS d
def Q2.O1{β:Type}(d:Dg)(k:(Q2→Q1)→(Q2→Q1→(Q2→Bool)→Bool)→β):β:=Dg.rec (motive:=fun _=>β) (k Q2.a0 Q2.u0) (k Q2.a1 Q2.u1) (k Q2.a2 Q2.u2) (k Q2.a3 Q2.u3) (k Q2.a4 Q2.u4) (k Q2.a5 Q2.u5) (k Q2.a6 Q2.u6) (k Q2.a7 Q2.u7) (k Q2.a8 Q2.u8) (k Q2.a9 Q2.u9) (k Q2.a10 Q2.uX) (k Q2.a11 Q2.uW) (k Q2.a12 Q2.uV) (k Q2.a13 Q2.uU) (k Q2.a14 Q2.uT) (k Q2.a15 Q2.uS) d
theorem Q2.HU{β:Type}(d:Dg)(k:(Q2→Q1)→(Q2→Q1→(Q2→Bool)→Bool)→β):Q2.O1 d k=k (Q2.at d) (Q2.up d):=by cases d<;>rfl
theorem Q2.Nn(d:Dg)(q:Q2)(v:Q1)(k:Q2→Bool): ∃q',Q2.up d q v k=k q'∧Q2.at d q'=v∧ ∀e,e≠d→Q2.at e q'=Q2.at e q:=by
 cases d<;>exact⟨_,rfl,rfl,fun e he=>by cases e<;>first|rfl|exact absurd rfl he⟩

def KQ(n:Nat):Option Dg:=match n with
 |0=>some .d0
 |1=>some .d1
 |2=>some .d2
 |3=>some .d3
 |4=>some .d4
 |5=>some .d5
 |6=>some .d6
 |7=>some .d7
 |8=>some .d8
 |9=>some .d9
 |10=>some .d10
 |11=>some .d11
 |12=>some .d12
 |13=>some .d13
 |14=>some .d14
 |15=>some .d15
 |_=>none
def Dg.num(d:Dg):Nat:=match d with
 |.d0=>0
 |.d1=>1
 |.d2=>2
 |.d3=>3
 |.d4=>4
 |.d5=>5
 |.d6=>6
 |.d7=>7
 |.d8=>8
 |.d9=>9
 |.d10=>10
 |.d11=>11
 |.d12=>12
 |.d13=>13
 |.d14=>14
 |.d15=>15
theorem H9{n:Nat}{d:Dg}(h:KQ n=some d):n=d.num:=by
 unfold KQ at h
 split at h<;>first|(injection h with h;subst h;rfl)|cases h
theorem Dg.CV{d e:Dg}(h:d.num=e.num):d=e:=by cases d<;>cases e<;>first|rfl|(simp[Dg.num]at h;done)

abbrev KB:=Q2→St→Bool
abbrev YH:=FuncId→List AV→St→(AV→St→Bool)→Bool
abbrev Nb:=YH→KB→Q2→St→Bool
abbrev Al:=Q2→AV→KB→St→Bool
abbrev KV:=AV→Bool
structure CI where
 run:Nb
def Wq(t:Nat)(q:Q2):AV:=match KQ (t/16)with
 |some i=>(match KQ (t % 16)with
  |some j=>Q1.at j (Q2.at i q)
  |none=>.tup [])
 |none=>.tup []
def yY(g1:Q1→AV)(g2:Q2→Q1):Q2→AV:=fun T=>g1 (g2 T)
def Ta:AV→KV→Bool:=AV.rec (motive_1:=fun _=>KV→Bool) (motive_2:=fun _=>Unit) (fun b k=>k (.bool b)) (fun j n k=>k (.int j n)) (fun l k=>k (.str l)) (fun k=>k .nilp) (fun c m o k=>k (.ptr c m o)) (fun k=>k .nils) (fun c m o l z k=>k (.sl c m o l z)) (fun c m o a z k=>k (.slz c m o a z)) (fun b o s k=>k (.sl0 b o s)) (fun f a c _ _ k=>k (.fn f a c)) (fun k=>k .nilf) (fun t v _ k=>k (.ifc t v)) (fun k=>k .nili) (fun c k=>k (.mp c)) (fun k=>k .nilm) (fun l _ k=>k (.agg l)) (fun l _ k=>k (.tup l)) () (fun _ _ _ _=>())
theorem P5(v:AV)(k:KV):Ta v k=k v:=by cases v<;>rfl
def yP(u1:Q1→AV→(Q1→Bool)→Bool)(g2:Q2→Q1)(u2:Q2→Q1→(Q2→Bool)→Bool):Al:=fun T v K st=>Ta v fun v=>u1 (g2 T) v fun q=>u2 T q fun T=>K T st
def XQ{β:Type}(t:Nat)(bad:β)(k:(Q2→AV)→Al→β):β:=match KQ (t/16)with
 |some i=>(match KQ (t % 16)with
  |some j=>Q1.O1 j fun g1 u1=>Q2.O1 i fun g2 u2=>k (yY g1 g2) (yP u1 g2 u2)
  |none=>bad)
 |none=>bad
def uv:Nb:=fun _ _ _ _=>false
def JJ:CI:=⟨uv⟩
def UD{β:Type}(G:Env)(x:Operand)(bad:β)(k:(Q2→AV)→β):β:=match x with
 |.tmp t=>XQ t bad fun g _=>k g
 |.const v=>Option.rec bad (fun a=>k (fun _=>a)) (ofConst v)
 |.global g=>Qi (G.g g) (k (fun _=>.ptr g 0 0)) bad
 |.func f=>k (fun _=>.fn f [] [])
def C9(N:Nat)(d:Option Nat)(k:Al→CI):CI:=match d with
 |none=>k (fun T _ K st=>K T st)
 |some t=>Qi (Nat.ble (t+1) N) (XQ t JJ fun _ p=>k p) JJ
def Fg{β:Type}(G:Env)(bad:β)(l:List Operand):(List (Q2→AV)→β)→β:=List.rec (fun k=>k []) (fun x _ ih k=>UD G x bad fun g=>ih fun gs=>k (g::gs)) l
def OP(gs:List (Q2→AV)):Q2→(List AV→Bool)→Bool:=List.rec (fun _ k=>k []) (fun g _ ih T k=>ih T fun l=>k (g T::l)) gs
def zq(G:Env)(q:Q2)(x:Operand):Option AV:=match x with
 |.tmp t=>some (Wq t q)
 |.const v=>ofConst v
 |.global g=>QD (G.g g) (some (.ptr g 0 0))
 |.func f=>some (.fn f [] [])
def FT{α:Type}(x:Option α)(k:α→Bool):Bool:=Option.rec false k x

def zt(g:Q2→AV)(p:Al):Nb:=fun _ K T st=>p T (g T) K st
def uG(f:AV→KV→Bool)(g:Q2→AV)(p:Al):Nb:=fun _ K T st=>f (g T) fun v=>p T v K st
def zi(f:AV→AV→KV→Bool)(g h:Q2→AV)(p:Al):Nb:=fun _ K T st=>f (g T) (h T) fun v=>p T v K st
def zA(f:AV→St→KV→Bool)(g:Q2→AV)(p:Al):Nb:=fun _ K T st=>f (g T) st fun v=>p T v K st
def zz(f:AV→AV→St→(AV→St→Bool)→Bool)(g h:Q2→AV)(p:Al):Nb:=fun _ K T st=>f (g T) (h T) st fun v st=>p T v K st
def zF(f:St→(AV→St→Bool)→Bool)(p:Al):Nb:=fun _ K T st=>f st fun v st=>p T v K st
def qU:AV→AV→AV→KV→Bool:=(AV.rec (motive_1:=fun _=>AV→AV→KV→Bool) (motive_2:=fun _=>Unit) (fun b x y k=>Bool.rec (k y) (k x) b) ((fun _ _=>fun _ _ _=>false)) ((fun _=>fun _ _ _=>false)) (fun _ _ _=>false) ((fun _ _ _=>fun _ _ _=>false)) (fun _ _ _=>false) ((fun _ _ _ _ _=>fun _ _ _=>false)) ((fun _ _ _ _ _=>fun _ _ _=>false)) ((fun _ _ _=>fun _ _ _=>false)) ((fun _ _ _ _ _=>fun _ _ _=>false)) (fun _ _ _=>false) ((fun _ _ _=>fun _ _ _=>false)) (fun _ _ _=>false) ((fun _=>fun _ _ _=>false)) (fun _ _ _=>false) ((fun _ _=>fun _ _ _=>false)) ((fun _ _=>fun _ _ _=>false)) () (fun _ _ _ _=>()))
def z6(f g h:Q2→AV)(p:Al):Nb:=fun _ K T st=>qU (f T) (g T) (h T) fun v=>p T v K st
def yp(f:FuncId)(gs:List (Q2→AV))(p:Al):Nb:=fun cc K T st=>OP gs T fun l=>cc f l st fun v st=>p T v K st
def js:AV→YH→List AV→St→(AV→St→Bool)→Bool:=(AV.rec (motive_1:=fun _=>YH→List AV→St→(AV→St→Bool)→Bool) (motive_2:=fun _=>Unit) ((fun _=>fun _ _ _ _=>false)) ((fun _ _=>fun _ _ _ _=>false)) ((fun _=>fun _ _ _ _=>false)) (fun _ _ _ _=>false) ((fun _ _ _=>fun _ _ _ _=>false)) (fun _ _ _ _=>false) ((fun _ _ _ _ _=>fun _ _ _ _=>false)) ((fun _ _ _ _ _=>fun _ _ _ _=>false)) ((fun _ _ _=>fun _ _ _ _=>false)) (fun f a cap _ _ cc l st k=>cc f (Yp a (Yp l cap)) st k) (fun _ _ _ _=>false) ((fun _ _ _=>fun _ _ _ _=>false)) (fun _ _ _ _=>false) ((fun _=>fun _ _ _ _=>false)) (fun _ _ _ _=>false) ((fun _ _=>fun _ _ _ _=>false)) ((fun _ _=>fun _ _ _ _=>false)) () (fun _ _ _ _=>()))
def TC(g:Q2→AV)(gs:List (Q2→AV))(p:Al):Nb:=fun cc K T st=>OP gs T fun l=>js (g T) cc l st fun v st=>p T v K st
def yh(P:Program)(name:String)(v:AV)(cc:YH)(l:List AV)(st:St)(k:AV→St→Bool):Bool:=match v with
 |.ifc t u=>FT (FU P t name) fun fid=>cc fid (u::l) st k
 |_=>false
def yW(P:Program)(name:String)(g:Q2→AV)(gs:List (Q2→AV))(p:Al):Nb:=fun cc K T st=>OP gs T fun l=>yh P name (g T) cc l st fun v st=>p T v K st
def Rt:AV→Bool→Bool→Bool→Bool:=(AV.rec (motive_1:=fun _=>Bool→Bool→Bool→Bool) (motive_2:=fun _=>Unit) (fun b pol x y=>Bool.rec (Bool.rec x y pol) (Bool.rec y x pol) b) ((fun _ _=>fun _ _ y=>y)) ((fun _=>fun _ _ y=>y)) (fun _ _ y=>y) ((fun _ _ _=>fun _ _ y=>y)) (fun _ _ y=>y) ((fun _ _ _ _ _=>fun _ _ y=>y)) ((fun _ _ _ _ _=>fun _ _ y=>y)) ((fun _ _ _=>fun _ _ y=>y)) ((fun _ _ _ _ _=>fun _ _ y=>y)) (fun _ _ y=>y) ((fun _ _ _=>fun _ _ y=>y)) (fun _ _ y=>y) ((fun _=>fun _ _ y=>y)) (fun _ _ y=>y) ((fun _ _=>fun _ _ y=>y)) ((fun _ _=>fun _ _ y=>y)) () (fun _ _ _ _=>()))
def zu(g:Q2→AV)(pol:Bool)(r:Nb)(p:Al):Nb:=fun cc K T st=>Rt (g T) pol (r cc K T st) (p T (.tup []) K st)
def P3(P:Program)(G:Env)(o:Op)(p:Al):Nb:=fun _ K T st=>FT (Ro P (zq G T) o st) fun r=>p T r.1 K r.2

def Tr.yZ{α:Type}(t:Tr α):Nat→Option α:=
 Tr.rec (fun _=>none) (fun v _ _ gl gr n=>Bool.rec (Bool.rec (gr (Nat.div n 2)) (gl (Nat.div n 2)) (Nat.beq (Nat.mod n 2) 0)) v (Nat.beq n 0)) t
abbrev Xn:=List AV→Nat→KV→Bool
def MB(n:Nat):Xn:=fun l off k=>FT (X6 n (XJ off l) fun r=>some (.agg r)) k
def MA:Xn:=fun l off k=>FT (nth l off) k
def Wu{β:Type}(P:Program)(t:TypeId)(bad:β)(k:Xn→β):β:=match tk P t with
 |.agg n=>k (MB n)
 |.one=>k MA
 |.bad=>bad
def qV(ro:Bool)(ms:List (Nat×Nat×Option (List AV)))(m off:Nat)(pt:Xn)(k:KV):Bool:=FT (nth ms m) fun x=>FT x.2.2 fun l=>pt l off k
def yf:Eu→Nat→Nat→Xn→KV→Bool:=Eu.rec (motive:=fun _=>Nat→Nat→Xn→KV→Bool) qV (fun _ _ _ _ _ _ _=>false) (fun _ _ _ _ _ _=>false)
def qW:Option Eu→Nat→Nat→Xn→KV→Bool:=Option.rec (motive:=fun _=>Nat→Nat→Xn→KV→Bool) (fun _ _ _ _=>false) yf
def L6(pt:Xn):AV→St→KV→Bool:=fun x st k=>(AV.rec (motive_1:=fun _=>St→Xn→KV→Bool) (motive_2:=fun _=>Unit) ((fun _=>fun _ _ _=>false)) ((fun _ _=>fun _ _ _=>false)) ((fun _=>fun _ _ _=>false)) (fun _ _ _=>false) (fun c m off st pt k=>qW (Tr.yZ st.h c) m off pt k) (fun _ _ _=>false) ((fun _ _ _ _ _=>fun _ _ _=>false)) ((fun _ _ _ _ _=>fun _ _ _=>false)) ((fun _ _ _=>fun _ _ _=>false)) ((fun _ _ _ _ _=>fun _ _ _=>false)) (fun _ _ _=>false) ((fun _ _ _=>fun _ _ _=>false)) (fun _ _ _=>false) ((fun _=>fun _ _ _=>false)) (fun _ _ _=>false) ((fun _ _=>fun _ _ _=>false)) ((fun _ _=>fun _ _ _=>false)) () (fun _ _ _ _=>())) x st pt k
def zb(o:Nat):AV→KV→Bool:=fun x k=>(AV.rec (motive_1:=fun _=>Nat→KV→Bool) (motive_2:=fun _=>Unit) ((fun _=>fun _ _=>false)) ((fun _ _=>fun _ _=>false)) ((fun _=>fun _ _=>false)) (fun _ _=>false) (fun c m off o k=>JW (Nat.add off o) fun z=>k (.ptr c m z)) (fun _ _=>false) ((fun _ _ _ _ _=>fun _ _=>false)) ((fun _ _ _ _ _=>fun _ _=>false)) ((fun _ _ _=>fun _ _=>false)) ((fun _ _ _ _ _=>fun _ _=>false)) (fun _ _=>false) ((fun _ _ _=>fun _ _=>false)) (fun _ _=>false) ((fun _=>fun _ _=>false)) (fun _ _=>false) ((fun _ _=>fun _ _=>false)) ((fun _ _=>fun _ _=>false)) () (fun _ _ _ _=>())) x o k
def zr:AV→KV→Bool:=(AV.rec (motive_1:=fun _=>KV→Bool) (motive_2:=fun _=>Unit) ((fun _=>fun _=>false)) ((fun _ _=>fun _=>false)) ((fun _=>fun _=>false)) (fun _=>false) (fun c m off k=>k (.ptr c m off)) (fun _=>false) ((fun _ _ _ _ _=>fun _=>false)) ((fun _ _ _ _ _=>fun _=>false)) ((fun _ _ _=>fun _=>false)) (fun f a c _ _ k=>k (.fn f a c)) (fun _=>false) ((fun _ _ _=>fun _=>false)) (fun _=>false) ((fun _=>fun _=>false)) (fun _=>false) ((fun _ _=>fun _=>false)) ((fun _ _=>fun _=>false)) () (fun _ _ _ _=>()))
def jJ(P:Program)(t:TypeId):AV→AV→St→(AV→St→Bool)→Bool:=fun x y st k=>FT (VO P t x y st) fun r=>k r.1 r.2
def uA(P:Program)(t:TypeId):St→(AV→St→Bool)→Bool:=fun st k=>FT (Ai P t st) fun r=>k r.1 r.2
def zD(P:Program)(t:TypeId):AV→AV→KV→Bool:=fun x y k=>FT (J5 P t x y) k
def zC(P:Program)(t:TypeId):AV→AV→KV→Bool:=fun x y k=>FT (EV P t x y) k
def zw(i:Nat):AV→KV→Bool:=fun x k=>(AV.rec (motive_1:=fun _=>Nat→KV→Bool) (motive_2:=fun _=>Unit) ((fun _=>fun _ _=>false)) ((fun _ _=>fun _ _=>false)) ((fun _=>fun _ _=>false)) (fun _ _=>false) ((fun _ _ _=>fun _ _=>false)) (fun _ _=>false) ((fun _ _ _ _ _=>fun _ _=>false)) ((fun _ _ _ _ _=>fun _ _=>false)) ((fun _ _ _=>fun _ _=>false)) ((fun _ _ _ _ _=>fun _ _=>false)) (fun _ _=>false) ((fun _ _ _=>fun _ _=>false)) (fun _ _=>false) ((fun _=>fun _ _=>false)) (fun _ _=>false) ((fun _ _=>fun _ _=>false)) (fun l _ i k=>FT (nth l i) k) () (fun _ _ _ _=>())) x i k
def Pf(P:Program)(ts:List TypeId):AV→KV→Bool:=fun x k=>FT (WM P ts x) k

def SK{α:Type}(k:IntKind)(x z:α):α:=IntKind.rec (motive:=fun _=>α→α→α) (fun _ z=>z) (fun _ z=>z) (fun _ z=>z) (fun x _=>x) (fun _ z=>z) (fun _ z=>z) (fun _ z=>z) (fun _ z=>z) k x z
def yi(f:Int→Int→KV→Bool→Bool):AV→AV→KV→Bool→Bool:=fun x y k z=>
 (AV.rec (motive_1:=fun _=>AV→(Int→Int→KV→Bool→Bool)→KV→Bool→Bool) (motive_2:=fun _=>Unit) ((fun _=>fun _ _ _ z=>z)) (fun j a y f k z=>(AV.rec (motive_1:=fun _=>IntKind→Int→(Int→Int→KV→Bool→Bool)→KV→Bool→Bool) (motive_2:=fun _=>Unit) ((fun _=>fun _ _ _ _ z=>z)) (fun i b j a f k z=>SK j (SK i (f a b k z) z) z) ((fun _=>fun _ _ _ _ z=>z)) (fun _ _ _ _ z=>z) ((fun _ _ _=>fun _ _ _ _ z=>z)) (fun _ _ _ _ z=>z) ((fun _ _ _ _ _=>fun _ _ _ _ z=>z)) ((fun _ _ _ _ _=>fun _ _ _ _ z=>z)) ((fun _ _ _=>fun _ _ _ _ z=>z)) ((fun _ _ _ _ _=>fun _ _ _ _ z=>z)) (fun _ _ _ _ z=>z) ((fun _ _ _=>fun _ _ _ _ z=>z)) (fun _ _ _ _ z=>z) ((fun _=>fun _ _ _ _ z=>z)) (fun _ _ _ _ z=>z) ((fun _ _=>fun _ _ _ _ z=>z)) ((fun _ _=>fun _ _ _ _ z=>z)) () (fun _ _ _ _=>())) y j a f k z) ((fun _=>fun _ _ _ z=>z)) (fun _ _ _ z=>z) ((fun _ _ _=>fun _ _ _ z=>z)) (fun _ _ _ z=>z) ((fun _ _ _ _ _=>fun _ _ _ z=>z)) ((fun _ _ _ _ _=>fun _ _ _ z=>z)) ((fun _ _ _=>fun _ _ _ z=>z)) ((fun _ _ _ _ _=>fun _ _ _ z=>z)) (fun _ _ _ z=>z) ((fun _ _ _=>fun _ _ _ z=>z)) (fun _ _ _ z=>z) ((fun _=>fun _ _ _ z=>z)) (fun _ _ _ z=>z) ((fun _ _=>fun _ _ _ z=>z)) ((fun _ _=>fun _ _ _ z=>z)) () (fun _ _ _ _=>())) x y f k z
def zd:Int→Int→KV→Bool→Bool:=fun a b k z=>k (.bool (H8 a b))
def yS:Int→Int→KV→Bool→Bool:=fun a b k z=>k (.bool (!H8 a b))
def yT:Int→Int→KV→Bool→Bool:=fun a b k z=>k (.bool (L4 a b))
def yU:Int→Int→KV→Bool→Bool:=fun a b k z=>k (.bool (!L4 b a))
def yX:Int→Int→KV→Bool→Bool:=fun a b k z=>k (.bool (L4 b a))
def za:Int→Int→KV→Bool→Bool:=fun a b k z=>k (.bool (!L4 a b))
def yz:Int→Int→KV→Bool→Bool:=fun a b k z=>Int.rec (motive:=fun _=>Int→KV→Bool→Bool) (fun m b k z=>Int.rec (motive:=fun _=>Nat→KV→Bool→Bool) (fun n m k z=>Bool.rec z (JW (Nat.add m n) fun s=>k (.int .i64 (Int.ofNat s))) (Nat.ble (Nat.add m n) UX)) (fun _ _ _ z=>z) b m k z) (fun _ _ _ z=>z) a b k z
def Ol(P:Program)(op:BinOp)(t:TypeId):AV→AV→KV→Bool:=fun x y k=>FT (b2 P op t x y) k
def GR(f:Int→Int→KV→Bool→Bool)(g:AV→AV→KV→Bool):AV→AV→KV→Bool:=fun x y k=>yi f x y k (g x y k)
def yx(P:Program)(op:BinOp)(t:TypeId):AV→AV→KV→Bool:=match op with
 |.eql=>GR zd (Ol P op t)
 |.neq=>GR yS (Ol P op t)
 |.lss=>GR yT (Ol P op t)
 |.leq=>GR yU (Ol P op t)
 |.gtr=>GR yX (Ol P op t)
 |.geq=>GR za (Ol P op t)
 |.add=>GR yz (Ol P op t)
 |_=>Ol P op t

def SM(P:Program)(G:Env)(o:Op)(p:Al):CI:=match o with
 |.move x=>UD G x JJ fun g=>⟨zt g p⟩
 |.assign x=>UD G x JJ fun g=>⟨zt g p⟩
 |.pick c a b=>UD G c JJ fun f=>UD G a JJ fun g=>UD G b JJ fun h=>⟨z6 f g h p⟩
 |.alloc t=>⟨zF (uA P t) p⟩
 |.load t a=>Wu P t JJ fun pt=>UD G a JJ fun g=>⟨zA (L6 pt) g p⟩
 |.store t a v=>UD G a JJ fun g=>UD G v JJ fun h=>⟨zz (jJ P t) g h p⟩
 |.nilCheck x=>UD G x JJ fun g=>⟨uG zr g p⟩
 |.binOp op t x y _=>UD G x JJ fun g=>UD G y JJ fun h=>⟨zi (yx P op t) g h p⟩
 |.fieldAddr t x f=>UD G x JJ fun g=>Option.rec JJ (fun off=>JW off fun off=>⟨uG (zb off) g p⟩) (QR P t f)
 |.indexAddr t x i=>UD G x JJ fun g=>UD G i JJ fun h=>⟨zi (zD P t) g h p⟩
 |.index t x i=>UD G x JJ fun g=>UD G i JJ fun h=>⟨zi (zC P t) g h p⟩
 |.extract t i=>UD G t JJ fun g=>⟨uG (zw i) g p⟩
 |.call c=>(match c.callee with
  |.value f=>(match f with
   |.func f=>Fg G JJ c.args.toList fun gs=>⟨yp f gs p⟩
   |x=>UD G x JJ fun g=>Fg G JJ c.args.toList fun gs=>⟨TC g gs p⟩)
  |.invoke x name=>UD G x JJ fun g=>Fg G JJ c.args.toList fun gs=>⟨yW P name g gs p⟩
  |.builtin b=>(match b with
   |.len=>(match c.args.toList with
    |x::[]=>Qi (YQ P c.argTypes.toList) ⟨P3 P G o p⟩ (UD G x JJ fun g=>⟨uG (Pf P c.argTypes.toList) g p⟩)
    |_=>JJ)
   |_=>⟨P3 P G o p⟩))
 |_=>⟨P3 P G o p⟩
def IG(ops:List Oper)(o:Oper)(p:Al)(c:CI):CI:=match o.guard with
 |none=>c
 |some g=>(match Uh ops g.1 with
  |some t=>XQ t JJ fun gt _=>⟨zu gt g.2 c.run p⟩
  |none=>⟨fun _ K T st=>p T (.tup []) K st⟩)
def Ke(P:Program)(G:Env)(N:Nat)(ops:List Oper)(o:Oper):CI:=C9 N o.dst fun p=>IG ops o p (SM P G o.op p)
def jQ(l:List CI):YH→KB→KB:=List.rec (motive:=fun _=>YH→KB→KB) (fun _ K T st=>K T st) (fun i _ ih cc K T st=>i.run cc (ih cc K) T st) l

inductive DI where
 |plain (c:CI)
 |act (c:CI)
 |read (f:List St→Nb)
def Oq(pt:Xn)(x v:AV)(n:Nat):List St→Bool:=Nat.rec (fun _=>true) (fun _ ih l=>List.rec false (fun st t _=>Qi (L6 pt x st fun u=>Ow u v) (ih t) false) l) n
def zp(pt:Xn)(n:Nat)(g:Q2→AV)(p:Al)(sn:List St):Nb:=fun _ K T st=>L6 pt (g T) st fun v=>Bool.rec false (p T v K st) (Oq pt (g T) v n (List.rec [] (fun _ t _=>t) sn))
def LR(P:Program)(G:Env)(N:Nat)(ops:List Oper)(q:Nat×Oper×Nat):DI:=
 Qi (Nat.beq q.2.2 0) (Qi (Nat.beq (QL P q.2.1.op) 3) (.act (Ke P G N ops q.2.1)) (.plain (Ke P G N ops q.2.1)))
  (match q.2.1.op with
  |.load t a=>.read fun sn=>CI.run (C9 N q.2.1.dst fun p=>IG ops q.2.1 p (Wu P t JJ fun pt=>UD G a JJ fun g=>⟨zp pt q.2.2 g p sn⟩))
  |_=>.plain JJ)
def Ty(c:CI):(List St→KB)→YH→List St→KB:=fun kk cc sn T st=>c.run cc (kk sn) T st
def yo(c:CI):(List St→KB)→YH→List St→KB:=fun kk cc sn T st=>c.run cc (fun T st=>kk (st::sn) T st) T st
def jn(f:List St→Nb):(List St→KB)→YH→List St→KB:=fun kk cc sn T st=>f sn cc (kk sn) T st
def jL(l:List DI):YH→KB→List St→KB:=List.rec (motive:=fun _=>YH→KB→List St→KB) (fun _ K _ T st=>K T st) (fun i _ ih cc K sn T st=>DI.rec (motive:=fun _=>(List St→KB)→YH→List St→KB) Ty yo jn i (ih cc K) cc sn T st) l

inductive CC where
 |skip
 |reg (l:List CI)
 |V1 (l:List DI)
 |seq (a b:CC)
 |cond (g:Q2→AV) (a b:CC)
 |block (id:Nat) (b:CC)
 |loop (b:CC)
 |range (hd:AV→St→(Nat→(Nat→St→KV→Bool)→Bool)→Bool) (g:Q2→AV) (p1 p2:Al) (a b:CC)
 |exit (id:Nat)
 |ret
 |bad
def Ni{β:Type}(N:Nat)(t:Nat)(bad:β)(k:Al→β):β:=Qi (Nat.ble (t+1) N) (XQ t bad fun _ p=>k p) bad
def SS(n:Int)(k:Nat→Bool):Bool:=Int.rec (fun n=>Bool.rec false (k n) (Nat.ble n UX)) (fun _=>false) n
def yG(P:Program)(q:TypeId×TypeId)(x:AV):Nat→St→KV→Bool:=fun i st kv=>FT (Jd P q.1 x st.h.get) fun s=>FT (J5 P q.1 s (.int .i64 (Int.ofNat i))) fun a=>FT (Jd P q.2 a st.h.get) kv
def yF(P:Program)(G:Env):AV→St→(Nat→(Nat→St→KV→Bool)→Bool)→Bool:=fun v st k=>match v with
 |.fn f first cap=>FT (G.b f) fun q=>(match first with
  |[]=>(match cap with
   |x::[]=>FT (Jd P q.1 x st.h.get) fun s=>FT (WM P [q.1] s) fun n=>(match n with
    |.int _ n=>SS n fun n=>k n (yG P q x)
    |_=>false)
   |_=>false)
  |_=>false)
 |_=>false
def T6(P:Program)(G:Env)(N:Nat)(g:Operand)(ps:List Tmp)(pl:Bool)(a b:CC):CC:=match ps with
 |x::y::[]=>Qi pl (UD G g .bad fun gg=>Ni N x .bad fun p1=>Ni N y .bad fun p2=>.range (yF P G) gg p1 p2 a b) .bad
 |_=>.bad
def WW(P:Program)(G:Env)(N:Nat)(c:Code):CC:=Code.rec (motive:=fun _=>CC)
 .skip
 (fun _ ops draw=>Qi draw (Option.rec .bad (fun pl=>.V1 (Fy (LR P G N ops.toList) pl)) (Zp P ops.toList)) (.reg (Fy (Ke P G N ops.toList) ops.toList)))
 (fun _ _ a b=>.seq a b)
 (fun c _ _ a b=>UD G c .bad fun g=>.cond g a b)
 (fun id _ f=>.block id f)
 (fun _ f=>.loop f)
 (fun g ps x y a b=>T6 P G N g ps.toList (Qi (JY x) (JY y) false) a b)
 (fun id=>.exit id)
 (fun _ _=>.bad)
 (fun _=>.skip)
 (fun _=>.bad)
 .ret
 (fun _=>.bad)
 c
def jq:AV→KB→KB→Q2→St→Bool:=(AV.rec (motive_1:=fun _=>KB→KB→Q2→St→Bool) (motive_2:=fun _=>Unit) (fun b x y T st=>Bool.rec (y T st) (x T st) b) ((fun _ _=>fun _ _ _ _=>false)) ((fun _=>fun _ _ _ _=>false)) (fun _ _ _ _=>false) ((fun _ _ _=>fun _ _ _ _=>false)) (fun _ _ _ _=>false) ((fun _ _ _ _ _=>fun _ _ _ _=>false)) ((fun _ _ _ _ _=>fun _ _ _ _=>false)) ((fun _ _ _=>fun _ _ _ _=>false)) ((fun _ _ _ _ _=>fun _ _ _ _=>false)) (fun _ _ _ _=>false) ((fun _ _ _=>fun _ _ _ _=>false)) (fun _ _ _ _=>false) ((fun _=>fun _ _ _ _=>false)) (fun _ _ _ _=>false) ((fun _ _=>fun _ _ _ _=>false)) ((fun _ _=>fun _ _ _ _=>false)) () (fun _ _ _ _=>()))
abbrev Z0:=YH→(Nat→KB)→KB→KB→KB
def yq:Z0:=fun _ _ _ K T st=>K T st
def zg(l:List CI):Z0:=fun cc _ _ K T st=>jQ l cc K T st
def yr(l:List DI):Z0:=fun cc _ _ K T st=>jL l cc K [st] T st
def ze(_ _:CC)(f g:Z0):Z0:=fun cc E R K T st=>f cc E R (g cc E R K) T st
def yw(g:Q2→AV)(_ _:CC)(a b:Z0):Z0:=fun cc E R K T st=>jq (g T) (a cc E R K) (b cc E R K) T st
def ur(id:Nat)(_:CC)(f:Z0):Z0:=fun cc E R K T st=>f cc (fun i=>Qi (Nat.beq i id) K (E i)) R K T st
def ys(L:Nat)(_:CC)(f:Z0):Z0:=fun cc E R K T st=>Nat.rec (motive:=fun _=>KB) (fun _ _=>false) (fun _ ih=>f cc E R ih) L T st
def uq(hd:AV→St→(Nat→(Nat→St→KV→Bool)→Bool)→Bool)(g:Q2→AV)(p1 p2:Al)(_ _:CC)(fa fb:Z0):Z0:=fun cc E R K T st=>hd (g T) st fun n el=>
 Nat.rec (motive:=fun _=>St→Bool) (fun st=>K T st) (fun i ih st=>el i st fun v=>p1 T (.int .i64 (Int.ofNat i)) (fun T1 st=>p2 T1 v (fun T2 st=>fa cc (fun _ _ _=>false) (fun _ _=>false) (fun T3 st=>fb cc (fun id _ st=>E id T st) (fun _ st=>R T st) (fun _ st=>tl (ih st)) T3 st) T2 st) st) st) n st
def yu(id:Nat):Z0:=fun _ E _ _ T st=>E id T st
def zf:Z0:=fun _ _ R _ T st=>R T st
def zh:Z0:=fun _ _ _ _ _ _=>false
def runK(L:Nat)(c:CC):Z0:=CC.rec (motive:=fun _=>Z0) yq zg yr ze yw ur (ys L) uq yu zf zh c

structure FN where
 code:CC
 n:Nat
 res:List ResultVar
def jr(P:Program)(G:Env)(f:FuncId):Option FN:=ob (AN P f) fun q=>QD (Nat.ble q.2.1 256) (some ⟨WW P G q.2.1 q.1,q.2.1,q.2.2⟩)
def q0:AV:=.tup []
def Q1.zero:Q1:=⟨q0,q0,q0,q0,q0,q0,q0,q0,q0,q0,q0,q0,q0,q0,q0,q0⟩
def Q2.zero:Q2:=⟨.zero,.zero,.zero,.zero,.zero,.zero,.zero,.zero,.zero,.zero,.zero,.zero,.zero,.zero,.zero,.zero⟩
structure C3 where
 put:Al
def putAt(t:Nat):C3:=XQ t ⟨fun _ _ _ _=>false⟩ fun _ p=>⟨p⟩
def TX(l:List AV):Nat→Q2→KB→St→Bool:=List.rec (motive:=fun _=>Nat→Q2→KB→St→Bool) (fun _ T K st=>K T st) (fun v _ ih i T K st=>(putAt i).put T v (fun T st=>ih (Nat.succ i) T K st) st) l
def jO(P:Program)(T:Q2)(st:St)(r:ResultVar)(k:KV):Bool:=match r with
 |.tmp t=>k (Wq t T)
 |.cell a t=>FT (Jd P t (Wq a T) st.h.get) k
def Ip(P:Program)(l:List ResultVar)(T:Q2)(st:St):(List AV→Bool)→Bool:=List.rec (motive:=fun _=>(List AV→Bool)→Bool) (fun k=>k []) (fun r _ ih k=>jO P T st r fun v=>ih fun l=>k (v::l)) l
def um(P:Program)(res:List ResultVar)(k:AV→St→Bool):KB:=fun T st=>Ip P res T st fun vs=>k (List.rec (.tup []) (fun v t _=>List.rec v (fun _ _ _=>.tup vs) t) vs) st
def Dr(P:Program)(L:Nat)(q:FN)(cc:YH):List AV→St→(AV→St→Bool)→Bool:=fun args st k=>Bool.rec false (TX args 0 .zero (fun T st=>runK L q.code cc (fun _ _ _=>false) (um P q.res k) (um P q.res k) T st) st) (Nat.ble (Yo args) q.n)
def GM(P:Program)(G:Env)(L:Nat)(fuel:Nat):YH:=Nat.rec (motive:=fun _=>YH) (fun _ _ _ _=>false) (fun _ ih f args st k=>Option.rec (FT (jr P G f) fun q=>tl (Dr P L q ih args st k)) (fun sm=>FT (sm args st) fun r=>k r.1 r.2) (G.s f)) fuel
def jD:AV→St→Bool:=fun v _=>(AV.rec (motive_1:=fun _=>Bool) (motive_2:=fun _=>Unit) (fun b=>b) ((fun _ _=>false)) ((fun _=>false)) (false) ((fun _ _ _=>false)) (false) ((fun _ _ _ _ _=>false)) ((fun _ _ _ _ _=>false)) ((fun _ _ _=>false)) ((fun _ _ _ _ _=>false)) (false) ((fun _ _ _=>false)) (false) ((fun _=>false)) (false) ((fun _ _=>false)) ((fun _ _=>false)) () (fun _ _ _ _=>())) v

end
end Go.Proofs.YtadjjadimlkkgaaGreatDoor
end

section

namespace Go.Proofs.YtadjjadimlkkgaaGreatDoor
open Go

theorem Uz{α:Type}{x:Option α}{k:α→Bool}(h:FT x k=true): ∃a,x=some a∧k a=true:=by
 cases x with
 |none=>cases h
 |some a=>exact⟨a,rfl,h⟩
def U2(T:Tr AV)(q:Q2):Prop:= ∀t,UH T t=Wq t q
theorem NQ{t:Nat}{i j:Dg}(hi:KQ (t/16)=some i)(hj:KQ (t % 16)=some j)(q:Q2):Wq t q=Q1.at j (Q2.at i q):=by
 unfold Wq;rw[hi,hj]
theorem X3{β:Type}(Pd:β→Prop){t:Nat}{bad:β}{k:(Q2→AV)→Al→β}(hb:Pd bad)
  (h: ∀g p,(∀q,g q=Wq t q)→(∀q v K st,∃q',p q v K st=K q' st∧ ∀u,Wq u q'=if u=t then v else Wq u q)→Pd (k g p)):Pd (XQ t bad k):=by
 unfold XQ
 split
 ·rename_i i hi
  split
  ·rename_i j hj;rw[Q1.HU,Q2.HU];refine h _ _ (fun q=>(NQ hi hj q).symm) fun q v K st=>?_;obtain⟨q1,e1,f1,g1⟩:=Q1.Nn j (Q2.at i q) v (fun x=>Q2.up i q x fun T=>K T st);obtain⟨q2,e2,f2,g2⟩:=Q2.Nn i q q1 (fun T=>K T st);refine⟨q2,(P5 _ _).trans (e1.trans e2),fun u=>?_⟩
   cases hi':KQ (u/16)with
   |none=>
    have:u≠t:=fun e=>by rw[e,hi]at hi';cases hi'
    rw[if_neg this];unfold Wq;rw[hi']
   |some i'=>
    cases hj':KQ (u % 16)with
    |none=>
     have:u≠t:=fun e=>by rw[e,hj]at hj';cases hj'
     rw[if_neg this];unfold Wq;rw[hi',hj']
    |some j'=>
     rw[NQ hi' hj',NQ hi' hj'];have a1:=H9 hi;have a2:=H9 hj;have a3:=H9 hi';have a4:=H9 hj'
     by_cases hii:i'=i
     ·subst hii;rw[f2]
      by_cases hjj:j'=j
      ·subst hjj;rw[f1,if_pos (by omega)]
      ·have:u≠t:=fun e=>hjj (Dg.CV (by rw[←a4,←a2,e]));rw[if_neg this,g1 _ hjj]
     ·have:u≠t:=fun e=>hii (Dg.CV (by rw[←a3,←a1,e]));rw[if_neg this,g2 _ hii]
  ·exact hb
 ·exact hb
def jA(G:Env)(x:Operand)(g:Q2→AV):Prop:= ∀T q,U2 T q→QB G T x=some (g q)
def Hh(N:Nat)(d:Option Nat)(p:Al):Prop:= ∀T q v K st,U2 T q→p q v K st=true→ ∃T' q',(∀(β:Type) (k:Tr AV→Option β),Yn N d v T k=k T')∧U2 T' q'∧K q' st=true
theorem J6{β:Type}(Pd:β→Prop){G:Env}{x:Operand}{bad:β}{k:(Q2→AV)→β}(hb:Pd bad)(h: ∀g,jA G x g→Pd (k g)):Pd (UD G x bad k):=by
 cases x with
 |tmp t=>exact X3 (k:=fun g _=>k g) (t:=t) Pd hb fun g p hg _=>h g fun T q hT=>by rw[hg];exact congrArg some (hT t)
 |const v=>
  show Pd (Option.rec bad (fun a=>k (fun _=>a)) (ofConst v))
  cases hv:ofConst v with
  |none=>exact hb
  |some a=>exact h _ fun T q hT=>hv
 |global n=>
  show Pd (Qi (G.g n) (k (fun _=>.ptr n 0 0)) bad)
  cases hg:G.g n with
  |false=>exact hb
  |true=>exact h _ fun T q hT=>by show QD (G.g n) _=_;rw[hg];rfl
 |func f=>exact h _ fun T q hT=>rfl
theorem O0(Pd:CI→Prop){N:Nat}{d:Option Nat}{k:Al→CI}(hb:Pd JJ)(h: ∀p,Hh N d p→Pd (k p)):Pd (C9 N d k):=by
 cases d with
 |none=>exact h _ fun T q v K st hT hK=>⟨T,q,fun _ _=>rfl,hT,hK⟩
 |some t=>
  show Pd (Qi (Nat.ble (t+1) N) (XQ t JJ fun _ p=>k p) JJ)
  cases hn:Nat.ble (t+1) N with
  |false=>exact hb
  |true=>
   refine X3 (k:=fun _ p=>k p) (t:=t) Pd hb fun g p _ hp=>h p fun T q v K st hT hK=>?_;obtain⟨q',e,hq⟩:=hp q v K st;refine⟨T.set t v,q',fun β k=>?_,fun u=>?_,by rw[←e];exact hK⟩
   ·show QD (Nat.ble (t+1) N) (T.put t v k)=_;rw[hn,Tr.put_eq];rfl
   ·rw[Ya,hq,hT u]
theorem KX{β:Type}(Pd:β→Prop){N:Nat}{t:Nat}{bad:β}{k:Al→β}(hb:Pd bad)(h: ∀p,Hh N (some t) p→Pd (k p)):Pd (Ni N t bad k):=by
 unfold Ni
 cases hn:Nat.ble (t+1) N with
 |false=>exact hb
 |true=>
  refine X3 (k:=fun _ p=>k p) (t:=t) Pd hb fun g p _ hp=>h p fun T q v K st hT hK=>?_;obtain⟨q',e,hq⟩:=hp q v K st;refine⟨T.set t v,q',fun β k=>?_,fun u=>?_,by rw[←e];exact hK⟩
  ·show QD (Nat.ble (t+1) N) (T.put t v k)=_;rw[hn,Tr.put_eq];rfl
  ·rw[Ya,hq,hT u]
theorem Ff{β:Type}(Pd:β→Prop){G:Env}{bad:β}(hb:Pd bad): ∀(l:List Operand) {k:List (Q2→AV)→β},(∀gs,(∀T q,U2 T q→Ug (QB G T) l=some (gs.map fun g=>g q))→Pd (k gs))→Pd (Fg G bad l k):=by
 intro l
 induction l with
 |nil=>intro k h;exact h [] fun T q hT=>rfl
 |cons x l ih=>
  intro k h;show Pd (UD G x bad fun g=>Fg G bad l fun gs=>k (g::gs));refine J6 Pd hb fun g hg=>ih fun gs hgs=>h _ fun T q hT=>?_;rw[Jw,hg T q hT,Qk,hgs T q hT,Qk];rfl
theorem N1(gs:List (Q2→AV))(q:Q2): ∀k:List AV→Bool,OP gs q k=k (gs.map fun g=>g q):=by
 induction gs with
 |nil=>intro k;rfl
 |cons g gs ih=>intro k;show OP gs q (fun l=>k (g q::l))=_;rw[ih];rfl
theorem jW{G:Env}{T:Tr AV}{q:Q2}(h:U2 T q):zq G q=QB G T:=by
 funext x
 cases x with
 |tmp t=>exact congrArg some (h t).symm
 |const v=>rfl
 |global g=>rfl
 |func f=>rfl

def UL(cc:YH)(call:Uo):Prop:= ∀f args st k,cc f args st k=true→ ∃v st',call f args st=some (v,st')∧k v st'=true
def YG(P:Program)(G:Env)(N:Nat)(o:Oper)(r:Nb):Prop:= ∀call cc,UL cc call→ ∀T q st K,U2 T q→r cc K q st=true→
 ∃v st' T' q',FQ P (QB G T) call o st=some (v,st')∧(∀(β:Type) (k:Tr AV→Option β),Yn N o.dst v T k=k T')∧U2 T' q'∧K q' st'=true
theorem WN(P:Program)(G:Env)(N:Nat)(o:Oper):YG P G N o JJ.run:=fun _ _ _ _ _ _ _ _ h=>by cases h
theorem LI{P:Program}{G:Env}{N:Nat}{o:Oper}{p:Al}(hp:Hh N o.dst p){call:Uo}{T:Tr AV}{q:Q2}{st st':St}{K:KB}{v:AV}(hT:U2 T q)(ho:FQ P (QB G T) call o st=some (v,st'))(h:p q v K st'=true):
  ∃v st' T' q',FQ P (QB G T) call o st=some (v,st')∧(∀(β:Type) (k:Tr AV→Option β),Yn N o.dst v T k=k T')∧U2 T' q'∧K q' st'=true:=by
 obtain⟨T',q',h1,h2,h3⟩:=hp T q v K st' hT h;exact⟨v,st',T',q',ho,h1,h2,h3⟩
theorem SN{P:Program}{G:Env}{N:Nat}{o:Oper}{p:Al}(hp:Hh N o.dst p)(hn: ∀R call st,FQ P R call o st=Ro P R o.op st):YG P G N o (P3 P G o.op p):=by
 intro call cc hc T q st K hT h;obtain⟨⟨v,st'⟩,h1,h2⟩:=Uz h;rw[jW hT]at h1;exact LI hp hT (by rw[hn,h1]) h2

theorem Sa{x a b:AV}{k:KV}(h:qU x a b k=true): ∃t,x=.bool t∧k (Qi t a b)=true:=by
 cases x<;>first|(cases h;done)|skip
 rename_i t;refine⟨t,rfl,?_⟩
 cases t<;>exact h
theorem CT{P:Program}{t:TypeId}{β:Type}(Pd:β→Prop){bad:β}{k:Xn→β}(hb:Pd bad)(h: ∀pt:Xn,(∀l off kv,pt l off kv=true→ ∃v,Zc P t l off=some v∧kv v=true)→Pd (k pt)):Pd (Wu P t bad k):=by
 unfold Wu
 split
 ·rename_i n hk
  exact h _ fun l off kv hkv=>by
   obtain⟨v,h1,h2⟩:=Uz hkv;exact⟨v,by unfold Zc;rw[hk];exact h1,h2⟩
 ·rename_i hk
  exact h _ fun l off kv hkv=>by
   obtain⟨v,h1,h2⟩:=Uz hkv;exact⟨v,by unfold Zc;rw[hk];exact h1,h2⟩
 ·exact hb
theorem IC{P:Program}{t:TypeId}{pt:Xn}(hpt: ∀l off kv,pt l off kv=true→ ∃v,Zc P t l off=some v∧kv v=true){x:AV}{st:St}{k:KV}(h:L6 pt x st k=true): ∃v,Jd P t x st.h.get=some v∧k v=true:=by
 cases x<;>first|(cases h;done)|skip
 rename_i c m off;replace h:qW (Tr.get st.h c) m off pt k=true:=h
 cases hc:Tr.get st.h c with
 |none=>rw[hc]at h;cases h
 |some C=>
  rw[hc]at h
  cases C with
  |iter=>cases h
  |map=>cases h
  |row ro ms=>
   replace h:qV ro ms m off pt k=true:=h;obtain⟨x,h1,h⟩:=Uz h;obtain⟨l,h2,h⟩:=Uz h;obtain⟨v,h3,h4⟩:=hpt _ _ _ h;refine⟨v,?_,h4⟩;show ob (rowOf st.h.get c m) _=_;unfold rowOf;rw[hc,Qk];show ob (ob (nth ms m) _) _=_;rw[h1,Qk,h2,Qk,Qk];exact h3
theorem ug{P:Program}{t:TypeId}{f o:Nat}(ho:QR P t f=some o){x:AV}{k:KV}(h:zb o x k=true): ∃v,ZF P t x f=some v∧k v=true:=by
 cases x<;>first|(cases h;done)|skip
 rename_i c m off;replace h:JW (Nat.add off o) (fun z=>k (.ptr c m z))=true:=h;rw[QX]at h;refine⟨.ptr c m (off+o),?_,h⟩;show ob (QR P t f) _=_;rw[ho,Qk,QX]
theorem ua{x:AV}{k:KV}(h:zr x k=true):((∃c m off,x=.ptr c m off)∨ ∃f a c,x=.fn f a c)∧k x=true:=by
 cases x<;>first|(cases h;done)|exact⟨.inl ⟨_,_,_,rfl⟩,h⟩|exact⟨.inr ⟨_,_,_,rfl⟩,h⟩
theorem ui{i:Nat}{x:AV}{k:KV}(h:zw i x k=true): ∃l v,x=.tup l∧nth l i=some v∧k v=true:=by
 cases x<;>first|(cases h;done)|skip
 rename_i l;obtain⟨v,h1,h2⟩:=Uz h;exact⟨l,v,rfl,h1,h2⟩
theorem Db{α:Type}{k:IntKind}{x z:α}:SK k x z=if k=.i64 then x else z:=by cases k<;>rfl
theorem MS{f:Int→Int→KV→Bool→Bool}{x y:AV}{k:KV}{z:Bool}(h:yi f x y k z=true):z=true∨ ∃a b,x=.int .i64 a∧y=.int .i64 b∧f a b k z=true:=by
 cases x<;>first|exact .inl h|skip
 rename_i j a
 cases y<;>first|exact .inl h|skip
 rename_i i b;replace h:SK j (SK i (f a b k z) z) z=true:=h;rw[Db,Db]at h
 split at h
 ·rename_i e1
  split at h
  ·rename_i e2;subst e1 e2;exact .inr ⟨a,b,rfl,rfl,h⟩
  ·exact .inl h
 ·exact .inl h
theorem Dv{P:Program}{op:BinOp}{t:TypeId}{f:Int→Int→KV→Bool→Bool}(hf: ∀a b k z,f a b k z=true→z=true∨ ∃v,ju op .i64 a b=some v∧k v=true)
  (hop: ∀a b,b2 P op t (.int .i64 a) (.int .i64 b)=ju op .i64 a b) {x y:AV} {k:KV} (h:GR f (Ol P op t) x y k=true): ∃v,b2 P op t x y=some v∧k v=true:=by
 rcases MS h with h|⟨a,b,rfl,rfl,h⟩
 ·exact Uz h
 ·rcases hf _ _ _ _ h with h|⟨v,h1,h2⟩
  ·exact Uz h
  ·exact⟨v,by rw[hop];exact h1,h2⟩
theorem qv(a b:Int)(k:KV)(z:Bool)(h:yz a b k z=true):z=true∨ ∃v,ju .add .i64 a b=some v∧k v=true:=by
 cases a with
 |negSucc m=>exact .inl h
 |ofNat m=>cases b with
  |negSucc n=>exact .inl h
  |ofNat n=>
   replace h:Bool.rec (motive:=fun _=>Bool) z (JW (Nat.add m n) fun s=>k (.int .i64 (Int.ofNat s))) (Nat.ble (Nat.add m n) UX)=true:=h
   cases hb:Nat.ble (Nat.add m n) UX with
   |false=>rw[hb]at h;exact .inl h
   |true=>
    rw[hb]at h;replace h:JW (Nat.add m n) (fun s=>k (.int .i64 (Int.ofNat s)))=true:=h;rw[QX]at h;refine .inr ⟨.int .i64 (Int.ofNat (m+n)),?_,h⟩;unfold ju;simp only[Xq,UY];have:=XF hb
    have e:IntKind.wrap .i64 (Int.ofNat m+Int.ofNat n)=Int.ofNat m+Int.ofNat n:=IntWalk.i64_in _ (by
     have:m+n≤9223372036854775807:=this;simp only[Int.ofNat_eq_natCast]
     omega)
    rw[e];rfl
theorem qn{P:Program}{op:BinOp}{t:TypeId}{x y:AV}{k:KV}(h:yx P op t x y k=true): ∃v,b2 P op t x y=some v∧k v=true:=by
 cases op<;>first
  |exact Uz h
  |exact Dv (fun a b k z h=>.inr ⟨_,rfl,h⟩) (fun a b=>by show QD (H7 .i64 .i64) _=_;rw[H7,decide_eq_true rfl];rfl) h
  |exact Dv qv (fun a b=>by show QD (H7 .i64 .i64) _=_;rw[H7,decide_eq_true rfl];rfl) h

end Go.Proofs.YtadjjadimlkkgaaGreatDoor
end

section

namespace Go.Proofs.YtadjjadimlkkgaaGreatDoor
open Go Go.RowKit

theorem SL(P:Program)(G:Env)(N:Nat)(o:Oper)(p:Al)(hp:Hh N o.dst p):YG P G N o (SM P G o.op p).run:=by
 have hbad:YG P G N o JJ.run:=WN P G N o;obtain⟨dst,op,ty,pos,after,guard⟩:=o
 have in_of': ∀{call:Uo} {T:Tr AV} {q:Q2} {st st':St} {K:KB} {v:AV},U2 T q→FQ P (QB G T) call ⟨dst,op,ty,pos,after,guard⟩ st=some (v,st')→p q v K st'=true→
  ∃v st' T' q',FQ P (QB G T) call ⟨dst,op,ty,pos,after,guard⟩ st=some (v,st')∧(∀(β:Type) (k:Tr AV→Option β),Yn N dst v T k=k T')∧U2 T' q'∧K q' st'=true:=fun hT ho h=>LI hp hT ho h
 cases op with
 |move x=>
  refine J6 (fun c:CI=>YG P G N _ c.run) hbad fun g hg=>?_;intro call cc hc T q st K hT h;exact in_of' hT (show ret (QB G T x) st=some (g q,st) by rw[hg T q hT];rfl) h
 |assign x=>
  refine J6 (fun c:CI=>YG P G N _ c.run) hbad fun g hg=>?_;intro call cc hc T q st K hT h;exact in_of' hT (show ret (QB G T x) st=some (g q,st) by rw[hg T q hT];rfl) h
 |pick c a b=>
  refine J6 (fun c:CI=>YG P G N _ c.run) hbad fun f hf=>J6 (fun c:CI=>YG P G N _ c.run) hbad fun g hg=>J6 (fun c:CI=>YG P G N _ c.run) hbad fun h' hh=>?_;intro call cc hc T q st K hT h;obtain⟨t,ht,h⟩:=Sa h;refine in_of' hT (v:=Qi t (g q) (h' q)) (st':=st) ?_ h;show ob (QB G T c) _=_;rw[hf T q hT,Qk,ht];show ret (Qi t (QB G T a) (QB G T b)) st=_;rw[hg T q hT,hh T q hT]
  cases t<;>rfl
 |alloc t=>
  intro call cc hc T q st K hT h;obtain⟨⟨v,st'⟩,h1,h2⟩:=Uz h;exact in_of' hT (show Ai P t st=some (v,st')from h1) h2
 |load t a=>
  refine CT (fun c:CI=>YG P G N _ c.run) hbad fun pt hpt=>J6 (fun c:CI=>YG P G N _ c.run) hbad fun g hg=>?_;intro call cc hc T q st K hT h;obtain⟨v,h1,h2⟩:=IC hpt h;refine in_of' hT (v:=v) (st':=st) ?_ h2;show ob (QB G T a) _=_;rw[hg T q hT,Qk];show ret (Jd P t (g q) st.h.get) st=_;rw[h1];rfl
 |store t a v=>
  refine J6 (fun c:CI=>YG P G N _ c.run) hbad fun g hg=>J6 (fun c:CI=>YG P G N _ c.run) hbad fun h' hh=>?_;intro call cc hc T q st K hT h;obtain⟨⟨v',st'⟩,h1,h2⟩:=Uz h;refine in_of' hT (v:=v') (st':=st') ?_ h2;show ob (QB G T a) _=_;rw[hg T q hT,Qk];show ob (QB G T v) _=_;rw[hh T q hT,Qk];exact h1
 |nilCheck x=>
  refine J6 (fun c:CI=>YG P G N _ c.run) hbad fun g hg=>?_;intro call cc hc T q st K hT h;obtain⟨h1,h2⟩:=ua h;refine in_of' hT (v:=g q) (st':=st) ?_ h2;show ret (ob (QB G T x) _) st=_;rw[hg T q hT,Qk]
  rcases h1 with⟨c,m,off,e⟩|⟨f,a,c,e⟩<;>(rw[e];rfl)
 |binOp op t x y yt=>
  refine J6 (fun c:CI=>YG P G N _ c.run) hbad fun g hg=>J6 (fun c:CI=>YG P G N _ c.run) hbad fun h' hh=>?_;intro call cc hc T q st K hT h;obtain⟨v,h1,h2⟩:=qn h;refine in_of' hT (v:=v) (st':=st) ?_ h2;show ret (ob (QB G T x) fun x=>ob (QB G T y) fun y=>b2 P op t x y) st=_;rw[hg T q hT,Qk,hh T q hT,Qk,h1];rfl
 |fieldAddr t x f=>
  refine J6 (fun c:CI=>YG P G N _ c.run) hbad fun g hg=>?_
  cases hf:QR P t f with
  |none=>exact hbad
  |some off=>
   show YG P G N _ (CI.run (JW off fun off=>⟨uG (zb off) g p⟩));rw[QX];intro call cc hc T q st K hT h;obtain⟨v,h1,h2⟩:=ug hf h;refine in_of' hT (v:=v) (st':=st) ?_ h2;show ret (ob (QB G T x) fun x=>ZF P t x f) st=_;rw[hg T q hT,Qk,h1];rfl
 |indexAddr t x i=>
  refine J6 (fun c:CI=>YG P G N _ c.run) hbad fun g hg=>J6 (fun c:CI=>YG P G N _ c.run) hbad fun h' hh=>?_;intro call cc hc T q st K hT h;obtain⟨v,h1,h2⟩:=Uz h;refine in_of' hT (v:=v) (st':=st) ?_ h2;show ret (ob (QB G T x) fun x=>ob (QB G T i) fun i=>J5 P t x i) st=_;rw[hg T q hT,Qk,hh T q hT,Qk,h1];rfl
 |index t x i=>
  refine J6 (fun c:CI=>YG P G N _ c.run) hbad fun g hg=>J6 (fun c:CI=>YG P G N _ c.run) hbad fun h' hh=>?_;intro call cc hc T q st K hT h;obtain⟨v,h1,h2⟩:=Uz h;refine in_of' hT (v:=v) (st':=st) ?_ h2;show ret (ob (QB G T x) fun x=>ob (QB G T i) fun i=>EV P t x i) st=_;rw[hg T q hT,Qk,hh T q hT,Qk,h1];rfl
 |extract t i=>
  refine J6 (fun c:CI=>YG P G N _ c.run) hbad fun g hg=>?_;intro call cc hc T q st K hT h;obtain⟨l,v,e,h1,h2⟩:=ui h;refine in_of' hT (v:=v) (st':=st) ?_ h2;show ret (ob (QB G T t) _) st=_;rw[hg T q hT,Qk,e];show ret (nth l i) st=_;rw[h1];rfl
 |call c=>
  obtain⟨callee,args,ats⟩:=c
  cases callee with
  |value f=>
   have key: ∀(x:Operand) (gs:List (Q2→AV)) (call:Uo) (T:Tr AV) (q:Q2) (st st':St) (v:AV) (fid:FuncId) (a cap:List AV),
     Ug (QB G T) args.toList=some (gs.map fun g=>g q)→QB G T x=some (.fn fid a cap)→call fid (Yp a (Yp (gs.map fun g=>g q) cap)) st=some (v,st')→
     FQ P (QB G T) call ⟨dst,.call ⟨.value x,args,ats⟩,ty,pos,after,guard⟩ st=some (v,st'):=by
    intro x gs call T q st st' v fid a cap h1 h2 h3;show ob (QB G T x) _=_;rw[h2,Qk];show ob (Ug (QB G T) args.toList) _=_;rw[h1,Qk];exact h3
   have gen: ∀x:Operand,YG P G N ⟨dst,.call ⟨.value x,args,ats⟩,ty,pos,after,guard⟩ (CI.run (UD G x JJ fun g=>Fg G JJ args.toList fun gs=>⟨TC g gs p⟩)):=by
    intro x;refine J6 (fun c:CI=>YG P G N _ c.run) (WN P G N _) fun g hg=>Ff (fun c:CI=>YG P G N _ c.run) (WN P G N _) _ fun gs hgs=>?_;intro call cc hc T q st K hT h;replace h:OP gs q (fun l=>js (g q) cc l st fun v st=>p q v K st)=true:=h;rw[N1]at h
    cases hv:g q with
    |fn fid a cap=>
     rw[hv]at h;replace h:cc fid (Yp a (Yp (gs.map fun g=>g q) cap)) st (fun v st=>p q v K st)=true:=h;obtain⟨v,st',h1,h2⟩:=hc _ _ _ _ h;exact LI (o:=⟨dst,.call ⟨.value x,args,ats⟩,ty,pos,after,guard⟩) hp hT (key x gs call T q st st' v fid a cap (hgs T q hT) (by rw[hg T q hT,hv]) h1) h2
    |_=>rw[hv]at h;cases h
   cases f with
   |func f=>
    refine Ff (fun c:CI=>YG P G N _ c.run) (WN P G N _) _ fun gs hgs=>?_;intro call cc hc T q st K hT h;replace h:OP gs q (fun l=>cc f l st fun v st=>p q v K st)=true:=h;rw[N1]at h;obtain⟨v,st',h1,h2⟩:=hc _ _ _ _ h;refine LI hp hT (key (.func f) gs call T q st st' v f [] [] (hgs T q hT) rfl ?_) h2;rw[UB,UB,List.append_nil,List.nil_append];exact h1
   |tmp t=>exact gen _
   |const t=>exact gen _
   |global t=>exact gen _
  |invoke x s=>
   refine J6 (fun c:CI=>YG P G N _ c.run) (WN P G N _) fun g hg=>Ff (fun c:CI=>YG P G N _ c.run) (WN P G N _) _ fun gs hgs=>?_;intro call cc hc T q st K hT h;replace h:OP gs q (fun l=>yh P s (g q) cc l st fun v st=>p q v K st)=true:=h;rw[N1]at h
   cases hv:g q with
   |ifc t u=>
    rw[hv]at h;obtain⟨fid,hm,h⟩:=Uz (show FT (FU P t s) (fun fid=>cc fid (u::gs.map fun g=>g q) st fun v st=>p q v K st)=true from h);obtain⟨v,st',h1,h2⟩:=hc _ _ _ _ h;refine LI (o:=⟨dst,.call ⟨.invoke x s,args,ats⟩,ty,pos,after,guard⟩) hp hT ?_ h2;show ob (QB G T x) _=_;rw[hg T q hT,hv,Qk];show ob (FU P t s) _=_;rw[hm,Qk,hgs T q hT,Qk];exact h1
   |_=>rw[hv]at h;cases h
  |builtin b=>
   have hgen:YG P G N ⟨dst,.call ⟨.builtin b,args,ats⟩,ty,pos,after,guard⟩ (P3 P G (.call ⟨.builtin b,args,ats⟩) p):=SN hp fun R call st=>rfl
   cases b<;>try exact hgen
   show YG P G N _ (CI.run (match args.toList with
    |x::[]=>Qi (YQ P ats.toList) ⟨P3 P G (.call ⟨.builtin .len,args,ats⟩) p⟩ (UD G x JJ fun g=>⟨uG (Pf P ats.toList) g p⟩)
    |_=>JJ))
   split
   ·rename_i x hx
    cases hmt:YQ P ats.toList with
    |true=>exact hgen
    |false=>
    refine J6 (fun c:CI=>YG P G N _ c.run) (WN P G N _) fun g hg=>?_;intro call cc hc T q st K hT h;obtain⟨v,h1,h2⟩:=Uz h;refine LI hp hT (v:=v) (st':=st) ?_ h2;show yy P (QB G T) .len args.toList ats.toList st=_;rw[hx];show Qi (YQ P ats.toList) _ (ret (ob (QB G T x) fun x=>WM P ats.toList x) st)=_;rw[hmt,Q4];rw[hg T q hT,Qk,h1];rfl
   ·exact WN P G N _
 |_=>exact SN hp fun R call st=>rfl

def jx(P:Program)(G:Env)(N:Nat)(ops:List Oper)(o:Oper)(r:Nb):Prop:= ∀call cc,UL cc call→ ∀T q st K,U2 T q→r cc K q st=true→
 ∃v st' T' q',JU P G call ops o T st=some (v,st')∧(∀(β:Type) (k:Tr AV→Option β),Yn N o.dst v T k=k T')∧U2 T' q'∧K q' st'=true
noncomputable def CA(pol:Bool)(x:AV):Bool:=match x with
 |.bool b=>Qi b pol (!pol)
 |_=>false
theorem Bl{ops:List Oper}{o:Oper}{T:Tr AV}(h:o.guard=none):J0 ops o T=true:=by unfold J0;rw[h]
theorem Bk{ops:List Oper}{o:Oper}{T:Tr AV}{g:Nat×Bool}(h:o.guard=some g){t:Nat}(ht:Uh ops g.1=some t):J0 ops o T=CA g.2 (UH T t):=by
 unfold J0;rw[h];simp only[ht];rfl
theorem Bm{ops:List Oper}{o:Oper}{T:Tr AV}{g:Nat×Bool}(h:o.guard=some g)(ht:Uh ops g.1=none):J0 ops o T=false:=by
 unfold J0;rw[h];simp only[ht]
theorem Rs{x:AV}{pol a b:Bool}(h:Rt x pol a b=true):CA pol x=true∧a=true∨CA pol x=false∧b=true:=by
 cases x<;>first|exact .inr ⟨rfl,h⟩|skip
 rename_i t
 cases t<;>cases pol<;>first|exact .inl ⟨rfl,h⟩|exact .inr ⟨rfl,h⟩
theorem Gs{P:Program}{G:Env}{N:Nat}{ops:List Oper}{o:Oper}{p:Al}{c:CI}(hp:Hh N o.dst p)(X:(Tr AV→AV→Q2→Prop))(hX: ∀call cc,UL cc call→ ∀T q st K,U2 T q→c.run cc K q st=true→
  ∃v st' T' q',FQ P (QB G T) call o st=some (v,st')∧X T v q∧(∀(β:Type) (k:Tr AV→Option β),Yn N o.dst v T k=k T')∧U2 T' q'∧K q' st'=true):
  ∀call cc,UL cc call→ ∀T q st K,U2 T q→(IG ops o p c).run cc K q st=true→
  ∃v st' T' q',JU P G call ops o T st=some (v,st')∧(J0 ops o T=true→X T v q)∧(∀(β:Type) (k:Tr AV→Option β),Yn N o.dst v T k=k T')∧U2 T' q'∧K q' st'=true:=by
 have idle: ∀(call:Uo) T q st K,U2 T q→J0 ops o T=false→p q (.tup []) K st=true→ ∃v st' T' q',JU P G call ops o T st=some (v,st')∧(J0 ops o T=true→X T v q)∧(∀(β:Type) (k:Tr AV→Option β),Yn N o.dst v T k=k T')∧U2 T' q'∧K q' st'=true:=by
  intro call T q st K hT hw h;obtain⟨T',q',h1,h2,h3⟩:=hp T q _ K st hT h;exact⟨.tup [],st,T',q',by unfold JU;rw[hw];rfl,fun h=>(by rw[hw]at h;cases h),h1,h2,h3⟩
 have busy: ∀(call:Uo) cc,UL cc call→ ∀T q st K,U2 T q→J0 ops o T=true→c.run cc K q st=true→ ∃v st' T' q',JU P G call ops o T st=some (v,st')∧(J0 ops o T=true→X T v q)∧(∀(β:Type) (k:Tr AV→Option β),Yn N o.dst v T k=k T')∧U2 T' q'∧K q' st'=true:=by
  intro call cc hc T q st K hT hw h;obtain⟨v,st',T',q',h1,h2,h3⟩:=hX call cc hc T q st K hT h;exact⟨v,st',T',q',by unfold JU;rw[hw];exact h1,fun _=>h2,h3⟩
 unfold IG
 split
 ·rename_i hg;intro call cc hc T q st K hT h;exact busy call cc hc T q st K hT (Bl hg) h
 ·rename_i g hg
  split
  ·rename_i t ht
   refine X3 (k:=fun gt _=>⟨zu gt g.2 c.run p⟩) (t:=t) (fun c:CI=> ∀call cc,UL cc call→ ∀T q st K,U2 T q→c.run cc K q st=true→
    ∃v st' T' q',JU P G call ops o T st=some (v,st')∧(J0 ops o T=true→X T v q)∧(∀(β:Type) (k:Tr AV→Option β),Yn N o.dst v T k=k T')∧U2 T' q'∧K q' st'=true) (fun _ _ _ _ _ _ _ _ h=>by cases h) fun gt _ hgt _=>?_
   intro call cc hc T q st K hT h
   have hw:J0 ops o T=CA g.2 (Wq t q):=by rw[Bk hg ht,hT t]
   replace h:Rt (gt q) g.2 (c.run cc K q st) (p q (.tup []) K st)=true:=h;rw[hgt q]at h;rcases Rs h with⟨h1,h2⟩|⟨h1,h2⟩
   ·exact busy call cc hc T q st K hT (hw.trans h1) h2
   ·exact idle call T q st K hT (hw.trans h1) h2
  ·rename_i ht;intro call cc hc T q st K hT h;exact idle call T q st K hT (Bm hg ht) h
theorem Od(P:Program)(G:Env)(N:Nat)(ops:List Oper)(o:Oper):jx P G N ops o (Ke P G N ops o).run:=by
 refine O0 (fun c:CI=>jx P G N ops o c.run) (fun _ _ _ _ _ _ _ _ h=>by cases h) fun p hp=>?_;intro call cc hc T q st K hT h
 obtain⟨v,st',T',q',h1,_,h3⟩:=Gs hp (fun _ _ _=>True) (fun call cc hc T q st K hT h=>by
  obtain⟨v,st',T',q',h1,h2⟩:=SL P G N o p hp call cc hc T q st K hT h
  exact⟨v,st',T',q',h1,trivial,h2⟩) call cc hc T q st K hT h
 exact⟨v,st',T',q',h1,h3⟩
theorem jP(P:Program)(G:Env)(N:Nat)(ops:List Oper){call:Uo}{cc:YH}(hc:UL cc call)(K:KB): ∀(l:List Oper) (T:Tr AV) (q:Q2) (st:St),U2 T q→jQ (Fy (Ke P G N ops) l) cc K q st=true→
  ∃T' st' q',W7 P G call N ops l T st=some (T',st')∧U2 T' q'∧K q' st'=true:=by
 intro l
 induction l with
 |nil=>intro T q st hT h;exact⟨T,st,q,rfl,hT,h⟩
 |cons o l ih=>
  intro T q st hT h;replace h:(Ke P G N ops o).run cc (jQ (Fy (Ke P G N ops) l) cc K) q st=true:=h;obtain⟨v,st',T',q',h1,h2,h3,h4⟩:=Od P G N ops o call cc hc T q st _ hT h;obtain⟨T2,st2,q2,k1,k2,k3⟩:=ih T' q' st' h3 h4;refine⟨T2,st2,q2,?_,k2,k3⟩;show ob (JU P G call ops o T st) _=_;rw[h1,Qk,h2];exact k1

theorem S6{P:Program}{t:TypeId}{pt:Xn}(hpt: ∀l off kv,pt l off kv=true→ ∃v,Zc P t l off=some v∧kv v=true){x v:AV}: ∀(n:Nat) (l:List St),Oq pt x v n l=true→
  ∀(G:Env) (o:Oper) (T:Tr AV) (a:Operand),o.op=.load t a→QB G T a=some x→again P G o T v n l=true:=by
 intro n
 induction n with
 |zero=>intro l h G o T a _ _;rfl
 |succ n ih=>
  intro l h G o T a ho ha
  cases l with
  |nil=>cases h
  |cons st l=>
   replace h:Qi (L6 pt x st fun u=>Ow u v) (Oq pt x v n l) false=true:=h
   cases hl:L6 pt x st fun u=>Ow u v with
   |false=>rw[hl]at h;cases h
   |true=>
    rw[hl]at h;obtain⟨u,h1,h2⟩:=IC hpt hl
    show Qi (match o.op with
     |.load t a=>Option.rec false (fun x=>Option.rec false (fun u=>Ow u v) (Jd P t x st.h.get)) (QB G T a)
     |_=>false) (again P G o T v n l) false=true
    rw[ih l h G o T a ho ha,ho];show Qi (Option.rec false (fun x=>Option.rec false (fun u=>Ow u v) (Jd P t x st.h.get)) (QB G T a)) true false=true;rw[ha];show Qi (Option.rec false (fun u=>Ow u v) (Jd P t x st.h.get)) true false=true;rw[h1];show Qi (Ow u v) true false=true;rw[h2];rfl
def jw(P:Program)(G:Env)(N:Nat)(ops:List Oper)(q:Nat×Oper×Nat)(d:DI):Prop:= ∀call cc,UL cc call→ ∀T e st sn (kk:List St→KB),U2 T e→DI.rec (motive:=fun _=>(List St→KB)→YH→List St→KB) Ty yo jn d kk cc sn e st=true→
 ∃v st' T' e',JU P G call ops q.2.1 T st=some (v,st')∧Qi (J0 ops q.2.1 T) (again P G q.2.1 T v q.2.2 (List.rec [] (fun _ t _=>t) sn)) true=true∧
  (∀(β:Type) (k:Tr AV→Option β),Yn N q.2.1.dst v T k=k T')∧U2 T' e'∧kk (Qi (Nat.beq (QL P q.2.1.op) 3) (st'::sn) sn) e' st'=true
theorem RC(P:Program)(G:Env)(N:Nat)(ops:List Oper)(q:Nat×Oper×Nat):jw P G N ops q (LR P G N ops q):=by
 obtain⟨i,o,n⟩:=q;unfold LR
 cases hn:Nat.beq n 0 with
 |true=>
  have hn0:n=0:=Nat.eq_of_beq_eq_true hn;subst hn0;rw[QA]
  have agz: ∀T v l,Qi (J0 ops o T) (again P G o T v 0 l) true=true:=fun T v l=>by cases J0 ops o T<;>rfl
  cases hk:Nat.beq (QL P o.op) 3 with
  |true=>
   rw[QA];intro call cc hc T e st sn kk hT h;obtain⟨v,st',T',e',h1,h2,h3,h4⟩:=Od P G N ops o call cc hc T e st _ hT h;exact⟨v,st',T',e',h1,agz _ _ _,h2,h3,by simp only[hk,QA];exact h4⟩
  |false=>
   rw[Q4];intro call cc hc T e st sn kk hT h;obtain⟨v,st',T',e',h1,h2,h3,h4⟩:=Od P G N ops o call cc hc T e st _ hT h;exact⟨v,st',T',e',h1,agz _ _ _,h2,h3,by simp only[hk,Q4];exact h4⟩
 |false=>
  rw[Q4]
  have nope:jw P G N ops (i,o,n) (.plain JJ):=fun _ _ _ _ _ _ _ _ _ h=>by cases h
  simp only
  split
  ·rename_i t a ho;intro call cc hc T e st sn kk hT h
   have hk:Nat.beq (QL P o.op) 3=false:=by rw[ho];rfl
   have key: ∀call cc,UL cc call→ ∀T e st K,U2 T e→CI.run (C9 N o.dst fun p=>IG ops o p (Wu P t JJ fun pt=>UD G a JJ fun g=>⟨zp pt n g p sn⟩)) cc K e st=true→
     ∃v st' T' e',JU P G call ops o T st=some (v,st')∧(J0 ops o T=true→again P G o T v n (List.rec [] (fun _ t _=>t) sn)=true)∧(∀(β:Type) (k:Tr AV→Option β),Yn N o.dst v T k=k T')∧U2 T' e'∧K e' st'=true:=by
    refine O0 (fun c:CI=> ∀call cc,UL cc call→ ∀T e st K,U2 T e→c.run cc K e st=true→
     ∃v st' T' e',JU P G call ops o T st=some (v,st')∧(J0 ops o T=true→again P G o T v n (List.rec [] (fun _ t _=>t) sn)=true)∧(∀(β:Type) (k:Tr AV→Option β),Yn N o.dst v T k=k T')∧U2 T' e'∧K e' st'=true) (fun _ _ _ _ _ _ _ _ h=>by cases h) fun p hp=>?_
    refine Gs hp (fun T v _=>again P G o T v n (List.rec [] (fun _ t _=>t) sn)=true) ?_
    refine CT (fun c:CI=> ∀call cc,UL cc call→ ∀T q st K,U2 T q→c.run cc K q st=true→
     ∃v st' T' q',FQ P (QB G T) call o st=some (v,st')∧again P G o T v n (List.rec [] (fun _ t _=>t) sn)=true∧(∀(β:Type) (k:Tr AV→Option β),Yn N o.dst v T k=k T')∧U2 T' q'∧K q' st'=true) (fun _ _ _ _ _ _ _ _ h=>by cases h) fun pt hpt=>?_
    refine J6 (fun c:CI=> ∀call cc,UL cc call→ ∀T q st K,U2 T q→c.run cc K q st=true→
     ∃v st' T' q',FQ P (QB G T) call o st=some (v,st')∧again P G o T v n (List.rec [] (fun _ t _=>t) sn)=true∧(∀(β:Type) (k:Tr AV→Option β),Yn N o.dst v T k=k T')∧U2 T' q'∧K q' st'=true) (fun _ _ _ _ _ _ _ _ h=>by cases h) fun g hg=>?_
    intro call cc hc T q st K hT h;obtain⟨v,h1,h2⟩:=IC hpt h
    cases hag:Oq pt (g q) v n (List.rec [] (fun _ t _=>t) sn)with
    |false=>rw[hag]at h2;cases h2
    |true=>
     rw[hag]at h2;obtain⟨T',q',k1,k2,k3⟩:=hp T q v K st hT h2;refine⟨v,st,T',q',?_,S6 hpt n _ hag G o T a ho (hg T q hT),k1,k2,k3⟩;unfold FQ;rw[ho];show ob (QB G T a) (fun x=>ret (Jd P t x st.h.get) st)=_;rw[hg T q hT,Qk,h1];rfl
   obtain⟨v,st',T',e',h1,h2,h3,h4,h5⟩:=key call cc hc T e st _ hT h;refine⟨v,st',T',e',h1,?_,h3,h4,by simp only[hk,Q4];exact h5⟩;show Qi (J0 ops o T) (again P G o T v n (List.rec [] (fun _ t _=>t) sn)) true=true
   cases hw:J0 ops o T with
   |false=>rfl
   |true=>exact h2 hw
  ·exact nope
theorem M0(P:Program)(G:Env)(N:Nat)(ops:List Oper){call:Uo}{cc:YH}(hc:UL cc call)(K:KB): ∀(l:List (Nat×Oper×Nat)) (T:Tr AV) (q:Q2) (st:St) (sn:List St),U2 T q→jL (Fy (LR P G N ops) l) cc K sn q st=true→
  ∃T' st' q',V1 P G call N ops l T st sn=some (T',st')∧U2 T' q'∧K q' st'=true:=by
 intro l
 induction l with
 |nil=>intro T q st sn hT h;exact⟨T,st,q,rfl,hT,h⟩
 |cons o l ih=>
  intro T q st sn hT h;obtain⟨v,st',T',q',h1,h2,h3,h4,h5⟩:=RC P G N ops o call cc hc T q st sn (jL (Fy (LR P G N ops) l) cc K) hT h;obtain⟨T2,st2,q2,k1,k2,k3⟩:=ih T' q' st' _ h4 h5;refine⟨T2,st2,q2,?_,k2,k3⟩;show ob (JU P G call ops o.2.1 T st) _=_;rw[h1,Qk];show QD (Qi (J0 ops o.2.1 T) (again P G o.2.1 T v o.2.2 (List.rec [] (fun _ t _=>t) sn)) true) _=_;rw[h2,Jj,h3];exact k1

def Tn(x:Ex)(E:Nat→KB)(R K:KB):KB:=match x with
 |.nor=>K
 |.exit i=>E i
 |.ret=>R
def Vs(f:Tr AV→St→Option (Ex×Tr AV×St))(call:Uo)(b:Z0):Prop:= ∀cc,UL cc call→ ∀E R K T q st,U2 T q→b cc E R K q st=true→ ∃x T' st' q',f T st=some (x,T',st')∧U2 T' q'∧Tn x E R K q' st'=true
theorem RS{P:Program}{G:Env}{N L:Nat}{call:Uo}{a b:CC}{fa fb:Tr AV→St→Option (Ex×Tr AV×St)}{g:Operand}{x y:Tmp}{gg:Q2→AV}{p1 p2:Al}(hg:jA G g gg)(hp1:Hh N (some x) p1)(hp2:Hh N (some y) p2)
  (ha:Vs fa call (runK L a)) (hb:Vs fb call (runK L b)) {cc:YH} (hc:UL cc call) {E:Nat→KB} {R K:KB} {T:Tr AV} {q:Q2} {st:St} (hT:U2 T q) (h:runK L (.range (yF P G) gg p1 p2 a b) cc E R K q st=true):
  ∃e T' st' q',X8 P G N g [x,y] true fa fb T st=some (e,T',st')∧U2 T' q'∧Tn e E R K q' st'=true:=by
 replace h:yF P G (gg q) st (fun n el=>Nat.rec (motive:=fun _=>St→Bool) (fun st=>K q st) (fun i ih st=>el i st fun v=>p1 q (.int .i64 (Int.ofNat i)) (fun T1 st=>p2 T1 v (fun T2 st=>runK L a cc (fun _ _ _=>false) (fun _ _=>false) (fun T3 st=>runK L b cc (fun id _ st=>E id q st) (fun _ st=>R q st) (fun _ st=>tl (ih st)) T3 st) T2 st) st) st) n st)=true:=h;unfold X8;rw[hg T q hT,Jj,Qk];unfold yF at h
 split at h
 ·rename_i f first cap hv
  rw[hv];replace h:=Uz h;obtain⟨qq,hq,h⟩:=h;simp only[hq,Qk]
  split at h
  ·split at h
   ·rename_i cap;replace h:=Uz h;obtain⟨s,hs,h⟩:=h;replace h:=Uz h;obtain⟨nv,hl,h⟩:=h;simp only[hs,Qk,hl]
    split at h
    ·rename_i k n
     cases n with
     |negSucc n=>cases h
     |ofNat n=>
      simp only[La,Qk];unfold SS at h;simp only at h
      cases hm:Nat.ble n UX with
      |false=>rw[hm]at h;cases h
      |true=>
       rw[hm]at h;rw[Jj];simp only at h;clear hl hs hm hv hq;revert st
       induction n with
       |zero=>intro st h;exact⟨.nor,T,st,q,rfl,hT,h⟩
       |succ n ih=>
        intro st h;replace h:yG P qq cap n st (fun v=>p1 q (.int .i64 (Int.ofNat n)) (fun T1 st=>p2 T1 v (fun T2 st=>runK L a cc (fun _ _ _=>false) (fun _ _=>false) (fun T3 st=>runK L b cc (fun id _ st=>E id q st) (fun _ st=>R q st) (fun _ st=>tl (Nat.rec (motive:=fun _=>St→Bool) (fun st=>K q st) (fun i ih st=>yG P qq cap i st fun v=>p1 q (.int .i64 (Int.ofNat i)) (fun T1 st=>p2 T1 v (fun T2 st=>runK L a cc (fun _ _ _=>false) (fun _ _=>false) (fun T3 st=>runK L b cc (fun id _ st=>E id q st) (fun _ st=>R q st) (fun _ st=>tl (ih st)) T3 st) T2 st) st) st) n st)) T3 st) T2 st) st) st)=true:=h;unfold yG at h;replace h:=Uz h;obtain⟨s,hs,h⟩:=h;replace h:=Uz h;obtain⟨ad,had,h⟩:=h;replace h:=Uz h;obtain⟨v,hv,h⟩:=h;obtain⟨T1,q1,k1,r1,h⟩:=hp1 T q _ _ _ hT h;obtain⟨T2,q2,k2,r2,h⟩:=hp2 T1 q1 _ _ _ r1 h;obtain⟨e,T3,st3,q3,c1,r3,h⟩:=ha cc hc _ _ _ T2 q2 _ r2 h
        cases e with
        |exit i=>cases h
        |ret=>cases h
        |nor=>
         obtain⟨e,T4,st4,q4,c2,r4,h⟩:=hb cc hc _ _ _ T3 q3 _ r3 h
         have e0:Z7 P N qq.1 qq.2 cap [x,y] fa fb T (n+1) st=Ex.rec (tl (Z7 P N qq.1 qq.2 cap [x,y] fa fb T n st4)) (fun id=>some (.exit id,T,st4)) (some (.ret,T,st4)) e:=by
          show(ob (Jd P qq.1 cap st.h.get) fun s=>ob (J5 P qq.1 s (.int .i64 (Int.ofNat n))) fun q=>ob (Jd P qq.2 q st.h.get) fun v=>EF N [x,y] (.int .i64 (Int.ofNat n)) v T fun T1=>ob (fa T1 st) fun r=>Ex.rec (ob (fb r.2.1 r.2.2) fun q=>Ex.rec (tl (Z7 P N qq.1 qq.2 cap [x,y] fa fb T n q.2.2)) (fun id=>some (.exit id,T,q.2.2)) (some (.ret,T,q.2.2)) q.1) (fun _=>none) none r.1)=_;rw[hs,Qk,had,Qk,hv,Qk];show Yn N (some x) _ T _=_;rw[k1,k2,c1,Qk];show(ob (fb T3 st3) _)=_;rw[c2,Qk]
         cases e with
         |nor=>
          obtain⟨e,T5,st5,q5,d1,d2,d3⟩:=ih h;exact⟨e,T5,st5,q5,by rw[e0];exact d1,d2,d3⟩
         |exit id=>exact⟨.exit id,T,st4,q,e0,hT,h⟩
         |ret=>exact⟨.ret,T,st4,q,e0,hT,h⟩
    ·cases h
   ·cases h
  ·cases h
 ·cases h
theorem qk(P:Program)(G:Env)(N L:Nat)(call:Uo): ∀c:Code,Vs (codeF P G call N L c) call (runK L (WW P G N c)):=by
 have nope: ∀f,Vs f call (runK L .bad):=fun f _ _ _ _ _ _ _ _ _ h=>by cases h
 intro c
 induction c with
 |skip=>intro cc hc E R K T q st hT h;exact⟨.nor,T,st,q,rfl,hT,h⟩
 |region id ops draw=>
  cases draw with
  |false=>
   intro cc hc E R K T q st hT h;obtain⟨T',st',q',h1,h2,h3⟩:=jP P G N ops.toList hc K ops.toList T q st hT h;refine⟨.nor,T',st',q',?_,h2,h3⟩;show(ob (W7 P G call N ops.toList ops.toList T st) fun r=>some (Ex.nor,r))=_;rw[h1];rfl
  |true=>
   have e:WW P G N (.region id ops true)=Option.rec .bad (fun pl=>.V1 (Fy (LR P G N ops.toList) pl)) (Zp P ops.toList):=rfl;rw[e]
   cases hpl:Zp P ops.toList with
   |none=>exact nope _
   |some pl=>
    intro cc hc E R K T q st hT h;obtain⟨T',st',q',h1,h2,h3⟩:=M0 P G N ops.toList hc K pl T q st [st] hT h;refine⟨.nor,T',st',q',?_,h2,h3⟩;show(ob (Zp P ops.toList) fun pl=>ob (V1 P G call N ops.toList pl T st [st]) fun r=>some (Ex.nor,r))=_;rw[hpl,Qk,h1];rfl
 |seq a b ha hb=>
  intro cc hc E R K T q st hT h;obtain⟨x,T',st',q',h1,h2,h3⟩:=ha cc hc E R (runK L (WW P G N b) cc E R K) T q st hT h;have e:codeF P G call N L (.seq a b) T st=Z4 (codeF P G call N L a T st) (codeF P G call N L b):=rfl
  cases x with
  |nor=>
   obtain⟨x,T2,st2,q2,k1,k2,k3⟩:=hb cc hc E R K T' q' st' h2 h3;exact⟨x,T2,st2,q2,by rw[e,h1];exact k1,k2,k3⟩
  |exit i=>exact⟨.exit i,T',st',q',by rw[e,h1];rfl,h2,h3⟩
  |ret=>exact⟨.ret,T',st',q',by rw[e,h1];rfl,h2,h3⟩
 |cond c a b ha hb=>
  show Vs _ call (runK L (UD G c .bad fun g=>.cond g (WW P G N a) (WW P G N b)));refine J6 (fun d:CC=>Vs (codeF P G call N L (.cond c a b)) call (runK L d)) (nope _) fun g hg=>?_;intro cc hc E R K T q st hT h;replace h:jq (g q) (runK L (WW P G N a) cc E R K) (runK L (WW P G N b) cc E R K) q st=true:=h;have e:codeF P G call N L (.cond c a b) T st=Kc (QB G T c) (codeF P G call N L a T st) (codeF P G call N L b T st):=rfl;rw[hg T q hT]at e
  cases hv:g q with
  |bool t=>
   rw[hv]at h e
   cases t with
   |true=>
    obtain⟨x,T',st',q',h1,h2,h3⟩:=ha cc hc E R K T q st hT h;exact⟨x,T',st',q',by rw[e];exact h1,h2,h3⟩
   |false=>
    obtain⟨x,T',st',q',h1,h2,h3⟩:=hb cc hc E R K T q st hT h;exact⟨x,T',st',q',by rw[e];exact h1,h2,h3⟩
  |_=>rw[hv]at h;cases h
 |block id b hb=>
  intro cc hc E R K T q st hT h;obtain⟨x,T',st',q',h1,h2,h3⟩:=hb cc hc (fun i=>Qi (Nat.beq i id) K (E i)) R K T q st hT h;have e:codeF P G call N L (.block id b) T st=F8 id (codeF P G call N L b T st):=rfl
  cases x with
  |nor=>exact⟨.nor,T',st',q',by rw[e,h1];rfl,h2,h3⟩
  |ret=>exact⟨.ret,T',st',q',by rw[e,h1];rfl,h2,h3⟩
  |exit i=>
   replace h3:Qi (Nat.beq i id) K (E i) q' st'=true:=h3
   cases hi:Nat.beq i id with
   |true=>rw[hi]at h3;exact⟨.nor,T',st',q',by rw[e,h1];show Qi (Nat.beq i id) _ _=_;rw[hi];rfl,h2,h3⟩
   |false=>rw[hi]at h3;exact⟨.exit i,T',st',q',by rw[e,h1];show Qi (Nat.beq i id) _ _=_;rw[hi];rfl,h2,h3⟩
 |loop b hb=>
  intro cc hc E R K T q st hT h
  have key: ∀n T q st,U2 T q→Nat.rec (motive:=fun _=>KB) (fun _ _=>false) (fun _ ih=>runK L (WW P G N b) cc E R ih) n q st=true→
    ∃x T' st' q',Nat.rec (motive:=fun _=>Tr AV→St→Option (Ex×Tr AV×St)) (fun _ _=>none) (fun _ ih T st=>Z4 (codeF P G call N L b T st) ih) n T st=some (x,T',st')∧U2 T' q'∧Tn x E R K q' st'=true:=by
   intro n
   induction n with
   |zero=>intro T q st hT h;cases h
   |succ n ih=>
    intro T q st hT h;obtain⟨x,T',st',q',h1,h2,h3⟩:=hb cc hc E R _ T q st hT h
    cases x with
    |nor=>
     obtain⟨x,T2,st2,q2,k1,k2,k3⟩:=ih T' q' st' h2 h3;refine⟨x,T2,st2,q2,?_,k2,k3⟩;show Z4 (codeF P G call N L b T st) _=_;rw[h1];exact k1
    |exit i=>exact⟨.exit i,T',st',q',by show Z4 (codeF P G call N L b T st) _=_;rw[h1];rfl,h2,h3⟩
    |ret=>exact⟨.ret,T',st',q',by show Z4 (codeF P G call N L b T st) _=_;rw[h1];rfl,h2,h3⟩
  exact key L T q st hT h
 |rangeFunc g ps a b ha hb=>
  show Vs _ call (runK L (T6 P G N g ps.toList (Qi (JY a) (JY b) false) (WW P G N a) (WW P G N b)));have e:codeF P G call N L (.rangeFunc g ps a b)=X8 P G N g ps.toList (Qi (JY a) (JY b) false) (codeF P G call N L a) (codeF P G call N L b):=rfl;rw[e];unfold T6
  split
  ·rename_i x y hps;rw[hps]
   cases hpl:Qi (JY a) (JY b) false with
   |false=>exact nope _
   |true=>
    refine J6 (fun d:CC=>Vs _ call (runK L d)) (nope _) fun gg hg=>?_;refine KX (fun d:CC=>Vs _ call (runK L d)) (nope _) fun p1 hp1=>?_;refine KX (fun d:CC=>Vs _ call (runK L d)) (nope _) fun p2 hp2=>?_;intro cc hc E R K T q st hT h;exact RS hg hp1 hp2 ha hb hc hT h
  ·exact nope _
 |exit id=>intro cc hc E R K T q st hT h;exact⟨.exit id,T,st,q,rfl,hT,h⟩
 |ret=>intro cc hc E R K T q st hT h;exact⟨.ret,T,st,q,rfl,hT,h⟩
 |label id=>intro cc hc E R K T q st hT h;exact⟨.nor,T,st,q,rfl,hT,h⟩
 |_=>exact nope _

theorem qo: ∀(l:List AV) (i:Nat) (T:Tr AV) (q:Q2) (K:KB) (st:St),U2 T q→TX l i q K st=true→ ∃T' q',(∀(β:Type) (k:Tr AV→β),List.rec (motive:=fun _=>Nat→Tr AV→β) (fun(_:Nat) T=>k T) (fun v _ ih i T=>T.put i v (ih (i+1))) l i T=k T')∧U2 T' q'∧K q' st=true:=by
 intro l
 induction l with
 |nil=>intro i T q K st hT h;exact⟨T,q,fun _ _=>rfl,hT,h⟩
 |cons v l ih=>
  intro i T q K st hT h;replace h:(putAt i).put q v (fun T st=>TX l (Nat.succ i) T K st) st=true:=h
  have key: ∀q K st,(putAt i).put q v K st=true→ ∃q',K q' st=true∧ ∀u,Wq u q'=if u=i then v else Wq u q:=by
   refine X3 (k:=fun _ p=>C3.mk p) (t:=i) (fun b:C3=> ∀q K st,b.put q v K st=true→ ∃q',K q' st=true∧ ∀u,Wq u q'=if u=i then v else Wq u q) (fun _ _ _ h=>by cases h) fun g p _ hp=>?_;intro q K st h;obtain⟨q',e,hq⟩:=hp q v K st;exact⟨q',by rw[←e];exact h,hq⟩
  obtain⟨q',h1,h2⟩:=key q _ st h;obtain⟨T',q2,k1,k2,k3⟩:=ih (i+1) (T.set i v) q' K st (fun u=>by rw[Ya,h2,hT u]) h1;refine⟨T',q2,fun β k=>?_,k2,k3⟩;show T.put i v _=_;rw[Tr.put_eq];exact k1 β k
theorem Rp:U2 .nil .zero:=by
 intro t;have e:UH .nil t=.tup []:=rfl;rw[e];unfold Wq
 split
 ·rename_i i _
  split
  ·rename_i j _
   cases i<;>cases j<;>rfl
  ·rfl
 ·rfl
theorem jN{P:Program}{T:Tr AV}{q:Q2}{st:St}(hT:U2 T q){r:ResultVar}{k:KV}(h:jO P q st r k=true): ∃v,Es P T st r=some v∧k v=true:=by
 cases r with
 |tmp t=>exact⟨Wq t q,congrArg some (hT t),h⟩
 |cell a t=>
  obtain⟨v,h1,h2⟩:=Uz h;exact⟨v,by show Jd P t (UH T a) st.h.get=_;rw[hT a];exact h1,h2⟩
theorem OQ{P:Program}{T:Tr AV}{q:Q2}{st:St}(hT:U2 T q): ∀(l:List ResultVar) (k:List AV→Bool),Ip P l q st k=true→ ∃vs,Ug (Es P T st) l=some vs∧k vs=true:=by
 intro l
 induction l with
 |nil=>intro k h;exact⟨[],rfl,h⟩
 |cons r l ih=>
  intro k h;replace h:jO P q st r (fun v=>Ip P l q st fun l=>k (v::l))=true:=h;obtain⟨v,h1,h⟩:=jN hT h;obtain⟨vs,h2,h⟩:=ih _ h;exact⟨v::vs,by rw[Jw,h1,Qk,h2,Qk],h⟩
theorem Tm{P:Program}{res:List ResultVar}{T:Tr AV}{q:Q2}{st:St}(hT:U2 T q){k:AV→St→Bool}(h:um P res k q st=true): ∃v,Jp P res T st=some v∧k v st=true:=by
 obtain⟨vs,h1,h2⟩:=OQ hT res _ h;refine⟨_,?_,h2⟩;unfold Jp;rw[h1,Qk]
 cases vs with
 |nil=>rfl
 |cons v t=>cases t<;>rfl
theorem TD(P:Program)(G:Env)(L:Nat): ∀fuel,UL (GM P G L fuel) (Jn P G L fuel):=by
 intro fuel
 induction fuel with
 |zero=>intro f args st k h;cases h
 |succ n ih=>
  intro f args st k h;replace h:(Option.rec (FT (jr P G f) fun q=>tl (Dr P L q (GM P G L n) args st k)) (fun sm=>FT (sm args st) fun r=>k r.1 r.2) (G.s f):Bool)=true:=h;have e0:Jn P G L (n+1) f args st=(Option.rec (ob (AN P f) fun q=>QD (Nat.ble (Yo args) q.2.1) (Ef args fun T=>F5 (codeF P G (Jn P G L n) q.2.1 L q.1 T st) fun T st=>ob (Jp P q.2.2 T st) fun v=>some (v,st))) (fun sm=>sm args st) (G.s f):Option (AV×St)):=rfl;rw[e0]
  cases hsm:G.s f with
  |some sm=>
   rw[hsm]at h;obtain⟨⟨v,st'⟩,h1,h2⟩:=Uz h;exact⟨v,st',h1,h2⟩
  |none=>
  rw[hsm]at h;obtain⟨fn,h1,h⟩:=Uz h;replace h:Dr P L fn (GM P G L n) args st k=true:=h;replace h1:=Qn h1;obtain⟨q,hq,h1⟩:=h1;obtain⟨_,h1⟩:=Qu h1
  injection h1 with h1
  subst h1;show∃v st',(ob (AN P f) fun q=>QD (Nat.ble (Yo args) q.2.1) (Ef args fun T=>F5 (codeF P G (Jn P G L n) q.2.1 L q.1 T st) fun T st=>ob (Jp P q.2.2 T st) fun v=>some (v,st)))=some (v,st')∧k v st'=true;rw[hq,Qk];unfold Dr at h;simp only at h
  cases hb:Nat.ble (Yo args) q.2.1 with
  |false=>rw[hb]at h;cases h
  |true=>
   rw[hb]at h;rw[Jj];obtain⟨T,q1,k1,k2,k3⟩:=qo args 0 .nil .zero _ st Rp h;have e: ∀(β:Type) (k:Tr AV→β),Ef args k=k T:=fun β k=>k1 β k;rw[e];obtain⟨x,T',st',q',c1,c2,c3⟩:=qk P G q.2.1 L (Jn P G L n) q.1 (GM P G L n) ih _ _ _ T q1 st k2 k3;rw[c1]
   cases x with
   |exit i=>cases c3
   |nor=>
    obtain⟨v,r1,r2⟩:=Tm c2 c3;refine⟨v,st',?_,r2⟩;show ob (Jp P q.2.2 T' st') _=_;rw[r1];rfl
   |ret=>
    obtain⟨v,r1,r2⟩:=Tm c2 c3;refine⟨v,st',?_,r2⟩;show ob (Jp P q.2.2 T' st') _=_;rw[r1];rfl

theorem Cp{P:Program}{G:Env}{f:FuncId}{args:List AV}{L fuel:Nat}{st:St}(h:GM P G L fuel f args st jD=true):isTrue (Jn P G L fuel f args st)=true:=by
 obtain⟨v,st',h1,h2⟩:=TD P _ L fuel f args _ _ h;rw[h1]
 cases v<;>first|exact h2|cases h2

end Go.Proofs.YtadjjadimlkkgaaGreatDoor
end
