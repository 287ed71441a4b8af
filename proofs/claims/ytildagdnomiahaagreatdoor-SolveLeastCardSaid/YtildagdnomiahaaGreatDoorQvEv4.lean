/-
  Several texts in one: XEvO, XEvP, XEvR (the swift reckoner).
-/
import Derived.Test.YtildagdnomiahaaGreatDoorQvEv3
set_option linter.unusedSimpArgs false
set_option linter.unusedVariables false
namespace Go.Proofs.YtildagdnomiahaaGreatDoor
section
open Go
set_option maxRecDepth 100000

structure Q1 where
 a0:AV
 a1:AV
 a2:AV
 a3:AV
 a4:AV
 a5:AV
 a6:AV
 a7:AV
 a8:AV
 a9:AV
 a10:AV
 a11:AV
 a12:AV
 a13:AV
 a14:AV
 a15:AV
structure Q2 where
 a0:Q1
 a1:Q1
 a2:Q1
 a3:Q1
 a4:Q1
 a5:Q1
 a6:Q1
 a7:Q1
 a8:Q1
 a9:Q1
 a10:Q1
 a11:Q1
 a12:Q1
 a13:Q1
 a14:Q1
 a15:Q1
inductive Dg where
 |d0
 |d1
 |d2
 |d3
 |d4
 |d5
 |d6
 |d7
 |d8
 |d9
 |d10
 |d11
 |d12
 |d13
 |d14
 |d15

noncomputable section
def Q1.u0:Q1→AV→(Q1→Bool)→Bool:=fun q v k=>(Q1.rec (motive:=fun _=>AV→(Q1→Bool)→Bool) (fun x0 x1 x2 x3 x4 x5 x6 x7 x8 x9 x10 x11 x12 x13 x14 x15 v k=>k (Q1.mk v x1 x2 x3 x4 x5 x6 x7 x8 x9 x10 x11 x12 x13 x14 x15))) q v k
def Q1.u1:Q1→AV→(Q1→Bool)→Bool:=fun q v k=>(Q1.rec (motive:=fun _=>AV→(Q1→Bool)→Bool) (fun x0 x1 x2 x3 x4 x5 x6 x7 x8 x9 x10 x11 x12 x13 x14 x15 v k=>k (Q1.mk x0 v x2 x3 x4 x5 x6 x7 x8 x9 x10 x11 x12 x13 x14 x15))) q v k
def Q1.u2:Q1→AV→(Q1→Bool)→Bool:=fun q v k=>(Q1.rec (motive:=fun _=>AV→(Q1→Bool)→Bool) (fun x0 x1 x2 x3 x4 x5 x6 x7 x8 x9 x10 x11 x12 x13 x14 x15 v k=>k (Q1.mk x0 x1 v x3 x4 x5 x6 x7 x8 x9 x10 x11 x12 x13 x14 x15))) q v k
def Q1.u3:Q1→AV→(Q1→Bool)→Bool:=fun q v k=>(Q1.rec (motive:=fun _=>AV→(Q1→Bool)→Bool) (fun x0 x1 x2 x3 x4 x5 x6 x7 x8 x9 x10 x11 x12 x13 x14 x15 v k=>k (Q1.mk x0 x1 x2 v x4 x5 x6 x7 x8 x9 x10 x11 x12 x13 x14 x15))) q v k
def Q1.u4:Q1→AV→(Q1→Bool)→Bool:=fun q v k=>(Q1.rec (motive:=fun _=>AV→(Q1→Bool)→Bool) (fun x0 x1 x2 x3 x4 x5 x6 x7 x8 x9 x10 x11 x12 x13 x14 x15 v k=>k (Q1.mk x0 x1 x2 x3 v x5 x6 x7 x8 x9 x10 x11 x12 x13 x14 x15))) q v k
def Q1.u5:Q1→AV→(Q1→Bool)→Bool:=fun q v k=>(Q1.rec (motive:=fun _=>AV→(Q1→Bool)→Bool) (fun x0 x1 x2 x3 x4 x5 x6 x7 x8 x9 x10 x11 x12 x13 x14 x15 v k=>k (Q1.mk x0 x1 x2 x3 x4 v x6 x7 x8 x9 x10 x11 x12 x13 x14 x15))) q v k
def Q1.u6:Q1→AV→(Q1→Bool)→Bool:=fun q v k=>(Q1.rec (motive:=fun _=>AV→(Q1→Bool)→Bool) (fun x0 x1 x2 x3 x4 x5 x6 x7 x8 x9 x10 x11 x12 x13 x14 x15 v k=>k (Q1.mk x0 x1 x2 x3 x4 x5 v x7 x8 x9 x10 x11 x12 x13 x14 x15))) q v k
def Q1.u7:Q1→AV→(Q1→Bool)→Bool:=fun q v k=>(Q1.rec (motive:=fun _=>AV→(Q1→Bool)→Bool) (fun x0 x1 x2 x3 x4 x5 x6 x7 x8 x9 x10 x11 x12 x13 x14 x15 v k=>k (Q1.mk x0 x1 x2 x3 x4 x5 x6 v x8 x9 x10 x11 x12 x13 x14 x15))) q v k
def Q1.u8:Q1→AV→(Q1→Bool)→Bool:=fun q v k=>(Q1.rec (motive:=fun _=>AV→(Q1→Bool)→Bool) (fun x0 x1 x2 x3 x4 x5 x6 x7 x8 x9 x10 x11 x12 x13 x14 x15 v k=>k (Q1.mk x0 x1 x2 x3 x4 x5 x6 x7 v x9 x10 x11 x12 x13 x14 x15))) q v k
def Q1.u9:Q1→AV→(Q1→Bool)→Bool:=fun q v k=>(Q1.rec (motive:=fun _=>AV→(Q1→Bool)→Bool) (fun x0 x1 x2 x3 x4 x5 x6 x7 x8 x9 x10 x11 x12 x13 x14 x15 v k=>k (Q1.mk x0 x1 x2 x3 x4 x5 x6 x7 x8 v x10 x11 x12 x13 x14 x15))) q v k
def Q1.hU:Q1→AV→(Q1→Bool)→Bool:=fun q v k=>(Q1.rec (motive:=fun _=>AV→(Q1→Bool)→Bool) (fun x0 x1 x2 x3 x4 x5 x6 x7 x8 x9 x10 x11 x12 x13 x14 x15 v k=>k (Q1.mk x0 x1 x2 x3 x4 x5 x6 x7 x8 x9 v x11 x12 x13 x14 x15))) q v k
def Q1.fZ:Q1→AV→(Q1→Bool)→Bool:=fun q v k=>(Q1.rec (motive:=fun _=>AV→(Q1→Bool)→Bool) (fun x0 x1 x2 x3 x4 x5 x6 x7 x8 x9 x10 x11 x12 x13 x14 x15 v k=>k (Q1.mk x0 x1 x2 x3 x4 x5 x6 x7 x8 x9 x10 v x12 x13 x14 x15))) q v k
def Q1.fY:Q1→AV→(Q1→Bool)→Bool:=fun q v k=>(Q1.rec (motive:=fun _=>AV→(Q1→Bool)→Bool) (fun x0 x1 x2 x3 x4 x5 x6 x7 x8 x9 x10 x11 x12 x13 x14 x15 v k=>k (Q1.mk x0 x1 x2 x3 x4 x5 x6 x7 x8 x9 x10 x11 v x13 x14 x15))) q v k
def Q1.fX:Q1→AV→(Q1→Bool)→Bool:=fun q v k=>(Q1.rec (motive:=fun _=>AV→(Q1→Bool)→Bool) (fun x0 x1 x2 x3 x4 x5 x6 x7 x8 x9 x10 x11 x12 x13 x14 x15 v k=>k (Q1.mk x0 x1 x2 x3 x4 x5 x6 x7 x8 x9 x10 x11 x12 v x14 x15))) q v k
def Q1.fW:Q1→AV→(Q1→Bool)→Bool:=fun q v k=>(Q1.rec (motive:=fun _=>AV→(Q1→Bool)→Bool) (fun x0 x1 x2 x3 x4 x5 x6 x7 x8 x9 x10 x11 x12 x13 x14 x15 v k=>k (Q1.mk x0 x1 x2 x3 x4 x5 x6 x7 x8 x9 x10 x11 x12 x13 v x15))) q v k
def Q1.fV:Q1→AV→(Q1→Bool)→Bool:=fun q v k=>(Q1.rec (motive:=fun _=>AV→(Q1→Bool)→Bool) (fun x0 x1 x2 x3 x4 x5 x6 x7 x8 x9 x10 x11 x12 x13 x14 x15 v k=>k (Q1.mk x0 x1 x2 x3 x4 x5 x6 x7 x8 x9 x10 x11 x12 x13 x14 v))) q v k
def Q1.at(d:Dg):Q1→AV:=Dg.rec (motive:=fun _=>Q1→AV) Q1.a0 Q1.a1 Q1.a2 Q1.a3 Q1.a4 Q1.a5 Q1.a6 Q1.a7 Q1.a8 Q1.a9 Q1.a10 Q1.a11 Q1.a12 Q1.a13 Q1.a14 Q1.a15 d
def Q1.up(d:Dg):Q1→AV→(Q1→Bool)→Bool:=Dg.rec (motive:=fun _=>Q1→AV→(Q1→Bool)→Bool) Q1.u0 Q1.u1 Q1.u2 Q1.u3 Q1.u4 Q1.u5 Q1.u6 Q1.u7 Q1.u8 Q1.u9 Q1.hU Q1.fZ Q1.fY Q1.fX Q1.fW Q1.fV d
def Q1.Cn{β:Type}(d:Dg)(k:(Q1→AV)→(Q1→AV→(Q1→Bool)→Bool)→β):β:=Dg.rec (motive:=fun _=>β) (k Q1.a0 Q1.u0) (k Q1.a1 Q1.u1) (k Q1.a2 Q1.u2) (k Q1.a3 Q1.u3) (k Q1.a4 Q1.u4) (k Q1.a5 Q1.u5) (k Q1.a6 Q1.u6) (k Q1.a7 Q1.u7) (k Q1.a8 Q1.u8) (k Q1.a9 Q1.u9) (k Q1.a10 Q1.hU) (k Q1.a11 Q1.fZ) (k Q1.a12 Q1.fY) (k Q1.a13 Q1.fX) (k Q1.a14 Q1.fW) (k Q1.a15 Q1.fV) d
theorem Q1.KY{β:Type}(d:Dg)(k:(Q1→AV)→(Q1→AV→(Q1→Bool)→Bool)→β):Q1.Cn d k=k (Q1.at d) (Q1.up d):=by cases d<;>rfl
theorem Q1.GC(d:Dg)(q:Q1)(v:AV)(k:Q1→Bool): ∃q',Q1.up d q v k=k q'∧Q1.at d q'=v∧ ∀e,e≠d→Q1.at e q'=Q1.at e q:=by
 cases d<;>exact⟨_,rfl,rfl,fun e he=>by cases e<;>first|rfl|exact absurd rfl he⟩
def Q2.u0:Q2→Q1→(Q2→Bool)→Bool:=fun q v k=>(Q2.rec (motive:=fun _=>Q1→(Q2→Bool)→Bool) (fun x0 x1 x2 x3 x4 x5 x6 x7 x8 x9 x10 x11 x12 x13 x14 x15 v k=>k (Q2.mk v x1 x2 x3 x4 x5 x6 x7 x8 x9 x10 x11 x12 x13 x14 x15))) q v k
def Q2.u1:Q2→Q1→(Q2→Bool)→Bool:=fun q v k=>(Q2.rec (motive:=fun _=>Q1→(Q2→Bool)→Bool) (fun x0 x1 x2 x3 x4 x5 x6 x7 x8 x9 x10 x11 x12 x13 x14 x15 v k=>k (Q2.mk x0 v x2 x3 x4 x5 x6 x7 x8 x9 x10 x11 x12 x13 x14 x15))) q v k
def Q2.u2:Q2→Q1→(Q2→Bool)→Bool:=fun q v k=>(Q2.rec (motive:=fun _=>Q1→(Q2→Bool)→Bool) (fun x0 x1 x2 x3 x4 x5 x6 x7 x8 x9 x10 x11 x12 x13 x14 x15 v k=>k (Q2.mk x0 x1 v x3 x4 x5 x6 x7 x8 x9 x10 x11 x12 x13 x14 x15))) q v k
def Q2.u3:Q2→Q1→(Q2→Bool)→Bool:=fun q v k=>(Q2.rec (motive:=fun _=>Q1→(Q2→Bool)→Bool) (fun x0 x1 x2 x3 x4 x5 x6 x7 x8 x9 x10 x11 x12 x13 x14 x15 v k=>k (Q2.mk x0 x1 x2 v x4 x5 x6 x7 x8 x9 x10 x11 x12 x13 x14 x15))) q v k
def Q2.u4:Q2→Q1→(Q2→Bool)→Bool:=fun q v k=>(Q2.rec (motive:=fun _=>Q1→(Q2→Bool)→Bool) (fun x0 x1 x2 x3 x4 x5 x6 x7 x8 x9 x10 x11 x12 x13 x14 x15 v k=>k (Q2.mk x0 x1 x2 x3 v x5 x6 x7 x8 x9 x10 x11 x12 x13 x14 x15))) q v k
def Q2.u5:Q2→Q1→(Q2→Bool)→Bool:=fun q v k=>(Q2.rec (motive:=fun _=>Q1→(Q2→Bool)→Bool) (fun x0 x1 x2 x3 x4 x5 x6 x7 x8 x9 x10 x11 x12 x13 x14 x15 v k=>k (Q2.mk x0 x1 x2 x3 x4 v x6 x7 x8 x9 x10 x11 x12 x13 x14 x15))) q v k
def Q2.u6:Q2→Q1→(Q2→Bool)→Bool:=fun q v k=>(Q2.rec (motive:=fun _=>Q1→(Q2→Bool)→Bool) (fun x0 x1 x2 x3 x4 x5 x6 x7 x8 x9 x10 x11 x12 x13 x14 x15 v k=>k (Q2.mk x0 x1 x2 x3 x4 x5 v x7 x8 x9 x10 x11 x12 x13 x14 x15))) q v k
def Q2.u7:Q2→Q1→(Q2→Bool)→Bool:=fun q v k=>(Q2.rec (motive:=fun _=>Q1→(Q2→Bool)→Bool) (fun x0 x1 x2 x3 x4 x5 x6 x7 x8 x9 x10 x11 x12 x13 x14 x15 v k=>k (Q2.mk x0 x1 x2 x3 x4 x5 x6 v x8 x9 x10 x11 x12 x13 x14 x15))) q v k
def Q2.u8:Q2→Q1→(Q2→Bool)→Bool:=fun q v k=>(Q2.rec (motive:=fun _=>Q1→(Q2→Bool)→Bool) (fun x0 x1 x2 x3 x4 x5 x6 x7 x8 x9 x10 x11 x12 x13 x14 x15 v k=>k (Q2.mk x0 x1 x2 x3 x4 x5 x6 x7 v x9 x10 x11 x12 x13 x14 x15))) q v k
def Q2.u9:Q2→Q1→(Q2→Bool)→Bool:=fun q v k=>(Q2.rec (motive:=fun _=>Q1→(Q2→Bool)→Bool) (fun x0 x1 x2 x3 x4 x5 x6 x7 x8 x9 x10 x11 x12 x13 x14 x15 v k=>k (Q2.mk x0 x1 x2 x3 x4 x5 x6 x7 x8 v x10 x11 x12 x13 x14 x15))) q v k
def Q2.hU:Q2→Q1→(Q2→Bool)→Bool:=fun q v k=>(Q2.rec (motive:=fun _=>Q1→(Q2→Bool)→Bool) (fun x0 x1 x2 x3 x4 x5 x6 x7 x8 x9 x10 x11 x12 x13 x14 x15 v k=>k (Q2.mk x0 x1 x2 x3 x4 x5 x6 x7 x8 x9 v x11 x12 x13 x14 x15))) q v k
def Q2.fZ:Q2→Q1→(Q2→Bool)→Bool:=fun q v k=>(Q2.rec (motive:=fun _=>Q1→(Q2→Bool)→Bool) (fun x0 x1 x2 x3 x4 x5 x6 x7 x8 x9 x10 x11 x12 x13 x14 x15 v k=>k (Q2.mk x0 x1 x2 x3 x4 x5 x6 x7 x8 x9 x10 v x12 x13 x14 x15))) q v k
def Q2.fY:Q2→Q1→(Q2→Bool)→Bool:=fun q v k=>(Q2.rec (motive:=fun _=>Q1→(Q2→Bool)→Bool) (fun x0 x1 x2 x3 x4 x5 x6 x7 x8 x9 x10 x11 x12 x13 x14 x15 v k=>k (Q2.mk x0 x1 x2 x3 x4 x5 x6 x7 x8 x9 x10 x11 v x13 x14 x15))) q v k
def Q2.fX:Q2→Q1→(Q2→Bool)→Bool:=fun q v k=>(Q2.rec (motive:=fun _=>Q1→(Q2→Bool)→Bool) (fun x0 x1 x2 x3 x4 x5 x6 x7 x8 x9 x10 x11 x12 x13 x14 x15 v k=>k (Q2.mk x0 x1 x2 x3 x4 x5 x6 x7 x8 x9 x10 x11 x12 v x14 x15))) q v k
def Q2.fW:Q2→Q1→(Q2→Bool)→Bool:=fun q v k=>(Q2.rec (motive:=fun _=>Q1→(Q2→Bool)→Bool) (fun x0 x1 x2 x3 x4 x5 x6 x7 x8 x9 x10 x11 x12 x13 x14 x15 v k=>k (Q2.mk x0 x1 x2 x3 x4 x5 x6 x7 x8 x9 x10 x11 x12 x13 v x15))) q v k
def Q2.fV:Q2→Q1→(Q2→Bool)→Bool:=fun q v k=>(Q2.rec (motive:=fun _=>Q1→(Q2→Bool)→Bool) (fun x0 x1 x2 x3 x4 x5 x6 x7 x8 x9 x10 x11 x12 x13 x14 x15 v k=>k (Q2.mk x0 x1 x2 x3 x4 x5 x6 x7 x8 x9 x10 x11 x12 x13 x14 v))) q v k
def Q2.at(d:Dg):Q2→Q1:=Dg.rec (motive:=fun _=>Q2→Q1) Q2.a0 Q2.a1 Q2.a2 Q2.a3 Q2.a4 Q2.a5 Q2.a6 Q2.a7 Q2.a8 Q2.a9 Q2.a10 Q2.a11 Q2.a12 Q2.a13 Q2.a14 Q2.a15 d
def Q2.up(d:Dg):Q2→Q1→(Q2→Bool)→Bool:=Dg.rec (motive:=fun _=>Q2→Q1→(Q2→Bool)→Bool) Q2.u0 Q2.u1 Q2.u2 Q2.u3 Q2.u4 Q2.u5 Q2.u6 Q2.u7 Q2.u8 Q2.u9 Q2.hU Q2.fZ Q2.fY Q2.fX Q2.fW Q2.fV d
def Q2.Cn{β:Type}(d:Dg)(k:(Q2→Q1)→(Q2→Q1→(Q2→Bool)→Bool)→β):β:=Dg.rec (motive:=fun _=>β) (k Q2.a0 Q2.u0) (k Q2.a1 Q2.u1) (k Q2.a2 Q2.u2) (k Q2.a3 Q2.u3) (k Q2.a4 Q2.u4) (k Q2.a5 Q2.u5) (k Q2.a6 Q2.u6) (k Q2.a7 Q2.u7) (k Q2.a8 Q2.u8) (k Q2.a9 Q2.u9) (k Q2.a10 Q2.hU) (k Q2.a11 Q2.fZ) (k Q2.a12 Q2.fY) (k Q2.a13 Q2.fX) (k Q2.a14 Q2.fW) (k Q2.a15 Q2.fV) d
theorem Q2.KY{β:Type}(d:Dg)(k:(Q2→Q1)→(Q2→Q1→(Q2→Bool)→Bool)→β):Q2.Cn d k=k (Q2.at d) (Q2.up d):=by cases d<;>rfl
theorem Q2.GC(d:Dg)(q:Q2)(v:Q1)(k:Q2→Bool): ∃q',Q2.up d q v k=k q'∧Q2.at d q'=v∧ ∀e,e≠d→Q2.at e q'=Q2.at e q:=by
 cases d<;>exact⟨_,rfl,rfl,fun e he=>by cases e<;>first|rfl|exact absurd rfl he⟩

def O3(n:Nat):Option Dg:=match n with
 |0=>some .d0
 |1=>some .d1
 |2=>some .d2
 |3=>some .d3
 |4=>some .d4
 |5=>some .d5
 |6=>some .d6
 |7=>some .d7
 |8=>some .d8
 |9=>some .d9
 |10=>some .d10
 |11=>some .d11
 |12=>some .d12
 |13=>some .d13
 |14=>some .d14
 |15=>some .d15
 |_=>none
def Dg.num(d:Dg):Nat:=match d with
 |.d0=>0
 |.d1=>1
 |.d2=>2
 |.d3=>3
 |.d4=>4
 |.d5=>5
 |.d6=>6
 |.d7=>7
 |.d8=>8
 |.d9=>9
 |.d10=>10
 |.d11=>11
 |.d12=>12
 |.d13=>13
 |.d14=>14
 |.d15=>15
theorem KQ{n:Nat}{d:Dg}(h:O3 n=some d):n=d.num:=by
 unfold O3 at h
 split at h<;>first|(injection h with h;subst h;rfl)|cases h
theorem Dg.S9{d e:Dg}(h:d.num=e.num):d=e:=by cases d<;>cases e<;>first|rfl|(simp[Dg.num]at h;done)

abbrev KB:=Q2→St→Bool
abbrev YQ:=FuncId→List AV→St→(AV→St→Bool)→Bool
abbrev G3:=YQ→KB→Q2→St→Bool
abbrev F9:=Q2→AV→KB→St→Bool
abbrev KV:=AV→Bool
structure CI where
 run:G3
def Ef(t:Nat)(q:Q2):AV:=match O3 (t/16)with
 |some i=>(match O3 (t % 16)with
  |some j=>Q1.at j (Q2.at i q)
  |none=>.tup [])
 |none=>.tup []
def lE(g1:Q1→AV)(g2:Q2→Q1):Q2→AV:=fun T=>g1 (g2 T)
def yc:AV→KV→Bool:=AV.rec (motive_1:=fun _=>KV→Bool) (motive_2:=fun _=>Unit) (fun b k=>k (.bool b)) (fun j n k=>k (.int j n)) (fun l k=>k (.str l)) (fun k=>k .nilp) (fun c m o k=>k (.ptr c m o)) (fun k=>k .nils) (fun c m o l z k=>k (.sl c m o l z)) (fun c m o a z k=>k (.slz c m o a z)) (fun b o s k=>k (.sl0 b o s)) (fun f a c _ _ k=>k (.fn f a c)) (fun k=>k .nilf) (fun t v _ k=>k (.ifc t v)) (fun k=>k .nili) (fun c k=>k (.mp c)) (fun k=>k .nilm) (fun l _ k=>k (.agg l)) (fun l _ k=>k (.tup l)) () (fun _ _ _ _=>())
theorem MG(v:AV)(k:KV):yc v k=k v:=by cases v<;>rfl
def l3(u1:Q1→AV→(Q1→Bool)→Bool)(g2:Q2→Q1)(u2:Q2→Q1→(Q2→Bool)→Bool):F9:=fun T v K st=>yc v fun v=>u1 (g2 T) v fun q=>u2 T q fun T=>K T st
def Vq{β:Type}(t:Nat)(bad:β)(k:(Q2→AV)→F9→β):β:=match O3 (t/16)with
 |some i=>(match O3 (t % 16)with
  |some j=>Q1.Cn j fun g1 u1=>Q2.Cn i fun g2 u2=>k (lE g1 g2) (l3 u1 g2 u2)
  |none=>bad)
 |none=>bad
def fk:G3:=fun _ _ _ _=>false
def Jt:CI:=⟨fk⟩
def Uq{β:Type}(G:Env)(x:Operand)(bad:β)(k:(Q2→AV)→β):β:=match x with
 |.tmp t=>Vq t bad fun g _=>k g
 |.const v=>Option.rec bad (fun a=>k (fun _=>a)) (ofConst v)
 |.global g=>Qj (G.g g) (k (fun _=>.ptr g 0 0)) bad
 |.func f=>k (fun _=>.fn f [] [])
def Si(N:Nat)(d:Option Nat)(k:F9→CI):CI:=match d with
 |none=>k (fun T _ K st=>K T st)
 |some t=>Qj (Nat.ble (t+1) N) (Vq t Jt fun _ p=>k p) Jt
def HN{β:Type}(G:Env)(bad:β)(l:List Operand):(List (Q2→AV)→β)→β:=List.rec (fun k=>k []) (fun x _ ih k=>Uq G x bad fun g=>ih fun gs=>k (g::gs)) l
def CO(gs:List (Q2→AV)):Q2→(List AV→Bool)→Bool:=List.rec (fun _ k=>k []) (fun g _ ih T k=>ih T fun l=>k (g T::l)) gs
def lY(G:Env)(q:Q2)(x:Operand):Option AV:=match x with
 |.tmp t=>some (Ef t q)
 |.const v=>ofConst v
 |.global g=>Q6 (G.g g) (some (.ptr g 0 0))
 |.func f=>some (.fn f [] [])
def IK{α:Type}(x:Option α)(k:α→Bool):Bool:=Option.rec false k x

def nc(g:Q2→AV)(p:F9):G3:=fun _ K T st=>p T (g T) K st
def fK(f:AV→KV→Bool)(g:Q2→AV)(p:F9):G3:=fun _ K T st=>f (g T) fun v=>p T v K st
def lR(f:AV→AV→KV→Bool)(g h:Q2→AV)(p:F9):G3:=fun _ K T st=>f (g T) (h T) fun v=>p T v K st
def nA(f:AV→St→KV→Bool)(g:Q2→AV)(p:F9):G3:=fun _ K T st=>f (g T) st fun v=>p T v K st
def np(f:AV→AV→St→(AV→St→Bool)→Bool)(g h:Q2→AV)(p:F9):G3:=fun _ K T st=>f (g T) (h T) st fun v st=>p T v K st
def nH(f:St→(AV→St→Bool)→Bool)(p:F9):G3:=fun _ K T st=>f st fun v st=>p T v K st
def wu:AV→AV→AV→KV→Bool:=(AV.rec (motive_1:=fun _=>AV→AV→KV→Bool) (motive_2:=fun _=>Unit) (fun b x y k=>Bool.rec (k y) (k x) b) ((fun _ _=>fun _ _ _=>false)) ((fun _=>fun _ _ _=>false)) (fun _ _ _=>false) ((fun _ _ _=>fun _ _ _=>false)) (fun _ _ _=>false) ((fun _ _ _ _ _=>fun _ _ _=>false)) ((fun _ _ _ _ _=>fun _ _ _=>false)) ((fun _ _ _=>fun _ _ _=>false)) ((fun _ _ _ _ _=>fun _ _ _=>false)) (fun _ _ _=>false) ((fun _ _ _=>fun _ _ _=>false)) (fun _ _ _=>false) ((fun _=>fun _ _ _=>false)) (fun _ _ _=>false) ((fun _ _=>fun _ _ _=>false)) ((fun _ _=>fun _ _ _=>false)) () (fun _ _ _ _=>()))
def nq(f g h:Q2→AV)(p:F9):G3:=fun _ K T st=>wu (f T) (g T) (h T) fun v=>p T v K st
def ky(f:FuncId)(gs:List (Q2→AV))(p:F9):G3:=fun cc K T st=>CO gs T fun l=>cc f l st fun v st=>p T v K st
def wL:AV→YQ→List AV→St→(AV→St→Bool)→Bool:=(AV.rec (motive_1:=fun _=>YQ→List AV→St→(AV→St→Bool)→Bool) (motive_2:=fun _=>Unit) ((fun _=>fun _ _ _ _=>false)) ((fun _ _=>fun _ _ _ _=>false)) ((fun _=>fun _ _ _ _=>false)) (fun _ _ _ _=>false) ((fun _ _ _=>fun _ _ _ _=>false)) (fun _ _ _ _=>false) ((fun _ _ _ _ _=>fun _ _ _ _=>false)) ((fun _ _ _ _ _=>fun _ _ _ _=>false)) ((fun _ _ _=>fun _ _ _ _=>false)) (fun f a cap _ _ cc l st k=>cc f (Yk a (Yk l cap)) st k) (fun _ _ _ _=>false) ((fun _ _ _=>fun _ _ _ _=>false)) (fun _ _ _ _=>false) ((fun _=>fun _ _ _ _=>false)) (fun _ _ _ _=>false) ((fun _ _=>fun _ _ _ _=>false)) ((fun _ _=>fun _ _ _ _=>false)) () (fun _ _ _ _=>()))
def yN(g:Q2→AV)(gs:List (Q2→AV))(p:F9):G3:=fun cc K T st=>CO gs T fun l=>wL (g T) cc l st fun v st=>p T v K st
def iY(P:Program)(name:String)(v:AV)(cc:YQ)(l:List AV)(st:St)(k:AV→St→Bool):Bool:=match v with
 |.ifc t u=>IK (Vw P t name) fun fid=>cc fid (u::l) st k
 |_=>false
def lC(P:Program)(name:String)(g:Q2→AV)(gs:List (Q2→AV))(p:F9):G3:=fun cc K T st=>CO gs T fun l=>iY P name (g T) cc l st fun v st=>p T v K st
def qy:AV→Bool→Bool→Bool→Bool:=(AV.rec (motive_1:=fun _=>Bool→Bool→Bool→Bool) (motive_2:=fun _=>Unit) (fun b pol x y=>Bool.rec (Bool.rec x y pol) (Bool.rec y x pol) b) ((fun _ _=>fun _ _ y=>y)) ((fun _=>fun _ _ y=>y)) (fun _ _ y=>y) ((fun _ _ _=>fun _ _ y=>y)) (fun _ _ y=>y) ((fun _ _ _ _ _=>fun _ _ y=>y)) ((fun _ _ _ _ _=>fun _ _ y=>y)) ((fun _ _ _=>fun _ _ y=>y)) ((fun _ _ _ _ _=>fun _ _ y=>y)) (fun _ _ y=>y) ((fun _ _ _=>fun _ _ y=>y)) (fun _ _ y=>y) ((fun _=>fun _ _ y=>y)) (fun _ _ y=>y) ((fun _ _=>fun _ _ y=>y)) ((fun _ _=>fun _ _ y=>y)) () (fun _ _ _ _=>()))
def ng(g:Q2→AV)(pol:Bool)(r:G3)(p:F9):G3:=fun cc K T st=>qy (g T) pol (r cc K T st) (p T (.tup []) K st)
def MD(P:Program)(G:Env)(o:Op)(p:F9):G3:=fun _ K T st=>IK (qs P (lY G T) o st) fun r=>p T r.1 K r.2

def Tr.lF{α:Type}(t:Tr α):Nat→Option α:=
 Tr.rec (fun _=>none) (fun v _ _ gl gr n=>Bool.rec (Bool.rec (gr (Nat.div n 2)) (gl (Nat.div n 2)) (Nat.beq (Nat.mod n 2) 0)) v (Nat.beq n 0)) t
abbrev X6:=List AV→Nat→KV→Bool
def xw(n:Nat):X6:=fun l off k=>IK (VW n (Wr off l) fun r=>some (.agg r)) k
def xu:X6:=fun l off k=>IK (nth l off) k
def En{β:Type}(P:Program)(t:TypeId)(bad:β)(k:X6→β):β:=match tk P t with
 |.agg n=>k (xw n)
 |.one=>k xu
 |.bad=>bad
def w8(ro:Bool)(ms:List (Nat×Nat×Option (List AV)))(m off:Nat)(pt:X6)(k:KV):Bool:=IK (nth ms m) fun x=>IK x.2.2 fun l=>pt l off k
def iX:Eb→Nat→Nat→X6→KV→Bool:=Eb.rec (motive:=fun _=>Nat→Nat→X6→KV→Bool) w8 (fun _ _ _ _ _ _ _=>false) (fun _ _ _ _ _ _=>false)
def wA:Option Eb→Nat→Nat→X6→KV→Bool:=Option.rec (motive:=fun _=>Nat→Nat→X6→KV→Bool) (fun _ _ _ _=>false) iX
def OV(pt:X6):AV→St→KV→Bool:=fun x st k=>(AV.rec (motive_1:=fun _=>St→X6→KV→Bool) (motive_2:=fun _=>Unit) ((fun _=>fun _ _ _=>false)) ((fun _ _=>fun _ _ _=>false)) ((fun _=>fun _ _ _=>false)) (fun _ _ _=>false) (fun c m off st pt k=>wA (Tr.lF st.h c) m off pt k) (fun _ _ _=>false) ((fun _ _ _ _ _=>fun _ _ _=>false)) ((fun _ _ _ _ _=>fun _ _ _=>false)) ((fun _ _ _=>fun _ _ _=>false)) ((fun _ _ _ _ _=>fun _ _ _=>false)) (fun _ _ _=>false) ((fun _ _ _=>fun _ _ _=>false)) (fun _ _ _=>false) ((fun _=>fun _ _ _=>false)) (fun _ _ _=>false) ((fun _ _=>fun _ _ _=>false)) ((fun _ _=>fun _ _ _=>false)) () (fun _ _ _ _=>())) x st pt k
def lH(o:Nat):AV→KV→Bool:=fun x k=>(AV.rec (motive_1:=fun _=>Nat→KV→Bool) (motive_2:=fun _=>Unit) ((fun _=>fun _ _=>false)) ((fun _ _=>fun _ _=>false)) ((fun _=>fun _ _=>false)) (fun _ _=>false) (fun c m off o k=>JF (Nat.add off o) fun z=>k (.ptr c m z)) (fun _ _=>false) ((fun _ _ _ _ _=>fun _ _=>false)) ((fun _ _ _ _ _=>fun _ _=>false)) ((fun _ _ _=>fun _ _=>false)) ((fun _ _ _ _ _=>fun _ _=>false)) (fun _ _=>false) ((fun _ _ _=>fun _ _=>false)) (fun _ _=>false) ((fun _=>fun _ _=>false)) (fun _ _=>false) ((fun _ _=>fun _ _=>false)) ((fun _ _=>fun _ _=>false)) () (fun _ _ _ _=>())) x o k
def lZ:AV→KV→Bool:=(AV.rec (motive_1:=fun _=>KV→Bool) (motive_2:=fun _=>Unit) ((fun _=>fun _=>false)) ((fun _ _=>fun _=>false)) ((fun _=>fun _=>false)) (fun _=>false) (fun c m off k=>k (.ptr c m off)) (fun _=>false) ((fun _ _ _ _ _=>fun _=>false)) ((fun _ _ _ _ _=>fun _=>false)) ((fun _ _ _=>fun _=>false)) (fun f a c _ _ k=>k (.fn f a c)) (fun _=>false) ((fun _ _ _=>fun _=>false)) (fun _=>false) ((fun _=>fun _=>false)) (fun _=>false) ((fun _ _=>fun _=>false)) ((fun _ _=>fun _=>false)) () (fun _ _ _ _=>()))
def en(P:Program)(t:TypeId):AV→AV→St→(AV→St→Bool)→Bool:=fun x y st k=>IK (W7 P t x y st) fun r=>k r.1 r.2
def fz(P:Program)(t:TypeId):St→(AV→St→Bool)→Bool:=fun st k=>IK (WU P t st) fun r=>k r.1 r.2
def nD(P:Program)(t:TypeId):AV→AV→KV→Bool:=fun x y k=>IK (JA P t x y) k
def nC(P:Program)(t:TypeId):AV→AV→KV→Bool:=fun x y k=>IK (Fj P t x y) k
def nj(i:Nat):AV→KV→Bool:=fun x k=>(AV.rec (motive_1:=fun _=>Nat→KV→Bool) (motive_2:=fun _=>Unit) ((fun _=>fun _ _=>false)) ((fun _ _=>fun _ _=>false)) ((fun _=>fun _ _=>false)) (fun _ _=>false) ((fun _ _ _=>fun _ _=>false)) (fun _ _=>false) ((fun _ _ _ _ _=>fun _ _=>false)) ((fun _ _ _ _ _=>fun _ _=>false)) ((fun _ _ _=>fun _ _=>false)) ((fun _ _ _ _ _=>fun _ _=>false)) (fun _ _=>false) ((fun _ _ _=>fun _ _=>false)) (fun _ _=>false) ((fun _=>fun _ _=>false)) (fun _ _=>false) ((fun _ _=>fun _ _=>false)) (fun l _ i k=>IK (nth l i) k) () (fun _ _ _ _=>())) x i k
def iW(P:Program)(ts:List TypeId):AV→KV→Bool:=fun x k=>IK (Kh P ts x) k

def uO{α:Type}(k:IntKind)(x z:α):α:=IntKind.rec (motive:=fun _=>α→α→α) (fun _ z=>z) (fun _ z=>z) (fun _ z=>z) (fun x _=>x) (fun _ z=>z) (fun _ z=>z) (fun _ z=>z) (fun _ z=>z) k x z
def ke(f:Int→Int→KV→Bool→Bool):AV→AV→KV→Bool→Bool:=fun x y k z=>
 (AV.rec (motive_1:=fun _=>AV→(Int→Int→KV→Bool→Bool)→KV→Bool→Bool) (motive_2:=fun _=>Unit) ((fun _=>fun _ _ _ z=>z)) (fun j a y f k z=>(AV.rec (motive_1:=fun _=>IntKind→Int→(Int→Int→KV→Bool→Bool)→KV→Bool→Bool) (motive_2:=fun _=>Unit) ((fun _=>fun _ _ _ _ z=>z)) (fun i b j a f k z=>uO j (uO i (f a b k z) z) z) ((fun _=>fun _ _ _ _ z=>z)) (fun _ _ _ _ z=>z) ((fun _ _ _=>fun _ _ _ _ z=>z)) (fun _ _ _ _ z=>z) ((fun _ _ _ _ _=>fun _ _ _ _ z=>z)) ((fun _ _ _ _ _=>fun _ _ _ _ z=>z)) ((fun _ _ _=>fun _ _ _ _ z=>z)) ((fun _ _ _ _ _=>fun _ _ _ _ z=>z)) (fun _ _ _ _ z=>z) ((fun _ _ _=>fun _ _ _ _ z=>z)) (fun _ _ _ _ z=>z) ((fun _=>fun _ _ _ _ z=>z)) (fun _ _ _ _ z=>z) ((fun _ _=>fun _ _ _ _ z=>z)) ((fun _ _=>fun _ _ _ _ z=>z)) () (fun _ _ _ _=>())) y j a f k z) ((fun _=>fun _ _ _ z=>z)) (fun _ _ _ z=>z) ((fun _ _ _=>fun _ _ _ z=>z)) (fun _ _ _ z=>z) ((fun _ _ _ _ _=>fun _ _ _ z=>z)) ((fun _ _ _ _ _=>fun _ _ _ z=>z)) ((fun _ _ _=>fun _ _ _ z=>z)) ((fun _ _ _ _ _=>fun _ _ _ z=>z)) (fun _ _ _ z=>z) ((fun _ _ _=>fun _ _ _ z=>z)) (fun _ _ _ z=>z) ((fun _=>fun _ _ _ z=>z)) (fun _ _ _ z=>z) ((fun _ _=>fun _ _ _ z=>z)) ((fun _ _=>fun _ _ _ z=>z)) () (fun _ _ _ _=>())) x y f k z
def lI:Int→Int→KV→Bool→Bool:=fun a b k z=>k (.bool (Fu a b))
def l6:Int→Int→KV→Bool→Bool:=fun a b k z=>k (.bool (!Fu a b))
def lA:Int→Int→KV→Bool→Bool:=fun a b k z=>k (.bool (NK a b))
def lB:Int→Int→KV→Bool→Bool:=fun a b k z=>k (.bool (!NK b a))
def lD:Int→Int→KV→Bool→Bool:=fun a b k z=>k (.bool (NK b a))
def lG:Int→Int→KV→Bool→Bool:=fun a b k z=>k (.bool (!NK a b))
def kH:Int→Int→KV→Bool→Bool:=fun a b k z=>Int.rec (motive:=fun _=>Int→KV→Bool→Bool) (fun m b k z=>Int.rec (motive:=fun _=>Nat→KV→Bool→Bool) (fun n m k z=>Bool.rec z (JF (Nat.add m n) fun s=>k (.int .i64 (Int.ofNat s))) (Nat.ble (Nat.add m n) YW)) (fun _ _ _ z=>z) b m k z) (fun _ _ _ z=>z) a b k z
def BR(P:Program)(op:BinOp)(t:TypeId):AV→AV→KV→Bool:=fun x y k=>IK (b2 P op t x y) k
def Pk(f:Int→Int→KV→Bool→Bool)(g:AV→AV→KV→Bool):AV→AV→KV→Bool:=fun x y k=>ke f x y k (g x y k)
def kF(P:Program)(op:BinOp)(t:TypeId):AV→AV→KV→Bool:=match op with
 |.eql=>Pk lI (BR P op t)
 |.neq=>Pk l6 (BR P op t)
 |.lss=>Pk lA (BR P op t)
 |.leq=>Pk lB (BR P op t)
 |.gtr=>Pk lD (BR P op t)
 |.geq=>Pk lG (BR P op t)
 |.add=>Pk kH (BR P op t)
 |_=>BR P op t

def uQ(P:Program)(G:Env)(o:Op)(p:F9):CI:=match o with
 |.move x=>Uq G x Jt fun g=>⟨nc g p⟩
 |.assign x=>Uq G x Jt fun g=>⟨nc g p⟩
 |.pick c a b=>Uq G c Jt fun f=>Uq G a Jt fun g=>Uq G b Jt fun h=>⟨nq f g h p⟩
 |.alloc t=>⟨nH (fz P t) p⟩
 |.load t a=>En P t Jt fun pt=>Uq G a Jt fun g=>⟨nA (OV pt) g p⟩
 |.store t a v=>Uq G a Jt fun g=>Uq G v Jt fun h=>⟨np (en P t) g h p⟩
 |.nilCheck x=>Uq G x Jt fun g=>⟨fK lZ g p⟩
 |.binOp op t x y _=>Uq G x Jt fun g=>Uq G y Jt fun h=>⟨lR (kF P op t) g h p⟩
 |.fieldAddr t x f=>Uq G x Jt fun g=>Option.rec Jt (fun off=>JF off fun off=>⟨fK (lH off) g p⟩) (Q5 P t f)
 |.indexAddr t x i=>Uq G x Jt fun g=>Uq G i Jt fun h=>⟨lR (nD P t) g h p⟩
 |.index t x i=>Uq G x Jt fun g=>Uq G i Jt fun h=>⟨lR (nC P t) g h p⟩
 |.extract t i=>Uq G t Jt fun g=>⟨fK (nj i) g p⟩
 |.call c=>(match c.callee with
  |.value f=>(match f with
   |.func f=>HN G Jt c.args.toList fun gs=>⟨ky f gs p⟩
   |x=>Uq G x Jt fun g=>HN G Jt c.args.toList fun gs=>⟨yN g gs p⟩)
  |.invoke x name=>Uq G x Jt fun g=>HN G Jt c.args.toList fun gs=>⟨lC P name g gs p⟩
  |.builtin b=>(match b with
   |.len=>(match c.args.toList with
    |x::[]=>Qj (Ze P c.argTypes.toList) ⟨MD P G o p⟩ (Uq G x Jt fun g=>⟨fK (iW P c.argTypes.toList) g p⟩)
    |_=>Jt)
   |_=>⟨MD P G o p⟩))
 |_=>⟨MD P G o p⟩
def LV(ops:List Oper)(o:Oper)(p:F9)(c:CI):CI:=match o.guard with
 |none=>c
 |some g=>(match Ur ops g.1 with
  |some t=>Vq t Jt fun gt _=>⟨ng gt g.2 c.run p⟩
  |none=>⟨fun _ K T st=>p T (.tup []) K st⟩)
def N0(P:Program)(G:Env)(N:Nat)(ops:List Oper)(o:Oper):CI:=Si N o.dst fun p=>LV ops o p (uQ P G o.op p)
def eC(l:List CI):YQ→KB→KB:=List.rec (motive:=fun _=>YQ→KB→KB) (fun _ K T st=>K T st) (fun i _ ih cc K T st=>i.run cc (ih cc K) T st) l

inductive DI where
 |plain (c:CI)
 |act (c:CI)
 |read (f:List St→G3)
def BV(pt:X6)(x v:AV)(n:Nat):List St→Bool:=Nat.rec (fun _=>true) (fun _ ih l=>List.rec false (fun st t _=>Qj (OV pt x st fun u=>HI u v) (ih t) false) l) n
def lX(pt:X6)(n:Nat)(g:Q2→AV)(p:F9)(sn:List St):G3:=fun _ K T st=>OV pt (g T) st fun v=>Bool.rec false (p T v K st) (BV pt (g T) v n (List.rec [] (fun _ t _=>t) sn))
def Gq(P:Program)(G:Env)(N:Nat)(ops:List Oper)(q:Nat×Oper×Nat):DI:=
 Qj (Nat.beq q.2.2 0) (Qj (Nat.beq (Qz P q.2.1.op) 3) (.act (N0 P G N ops q.2.1)) (.plain (N0 P G N ops q.2.1)))
  (match q.2.1.op with
  |.load t a=>.read fun sn=>CI.run (Si N q.2.1.dst fun p=>LV ops q.2.1 p (En P t Jt fun pt=>Uq G a Jt fun g=>⟨lX pt q.2.2 g p sn⟩))
  |_=>.plain Jt)
def y9(c:CI):(List St→KB)→YQ→List St→KB:=fun kk cc sn T st=>c.run cc (kk sn) T st
def kp(c:CI):(List St→KB)→YQ→List St→KB:=fun kk cc sn T st=>c.run cc (fun T st=>kk (st::sn) T st) T st
def wH(f:List St→G3):(List St→KB)→YQ→List St→KB:=fun kk cc sn T st=>f sn cc (kk sn) T st
def ew(l:List DI):YQ→KB→List St→KB:=List.rec (motive:=fun _=>YQ→KB→List St→KB) (fun _ K _ T st=>K T st) (fun i _ ih cc K sn T st=>DI.rec (motive:=fun _=>(List St→KB)→YQ→List St→KB) y9 kp wH i (ih cc K) cc sn T st) l

inductive CC where
 |skip
 |reg (l:List CI)
 |Vm (l:List DI)
 |seq (a b:CC)
 |cond (g:Q2→AV) (a b:CC)
 |block (id:Nat) (b:CC)
 |loop (b:CC)
 |range (hd:AV→St→(Nat→(Nat→St→KV→Bool)→Bool)→Bool) (g:Q2→AV) (p1 p2:F9) (a b:CC)
 |exit (id:Nat)
 |ret
 |bad
def GA{β:Type}(N:Nat)(t:Nat)(bad:β)(k:F9→β):β:=Qj (Nat.ble (t+1) N) (Vq t bad fun _ p=>k p) bad
def MC(n:Int)(k:Nat→Bool):Bool:=Int.rec (fun n=>Bool.rec false (k n) (Nat.ble n YW)) (fun _=>false) n
def kT(P:Program)(q:TypeId×TypeId)(x:AV):Nat→St→KV→Bool:=fun i st kv=>IK (QF P q.1 x st.h.get) fun s=>IK (JA P q.1 s (.int .i64 (Int.ofNat i))) fun a=>IK (QF P q.2 a st.h.get) kv
def kS(P:Program)(G:Env):AV→St→(Nat→(Nat→St→KV→Bool)→Bool)→Bool:=fun v st k=>match v with
 |.fn f first cap=>IK (G.b f) fun q=>(match first with
  |[]=>(match cap with
   |x::[]=>IK (QF P q.1 x st.h.get) fun s=>IK (Kh P [q.1] s) fun n=>(match n with
    |.int _ n=>MC n fun n=>k n (kT P q x)
    |_=>false)
   |_=>false)
  |_=>false)
 |_=>false
def yI(P:Program)(G:Env)(N:Nat)(g:Operand)(ps:List Tmp)(pl:Bool)(a b:CC):CC:=match ps with
 |x::y::[]=>Qj pl (Uq G g .bad fun gg=>GA N x .bad fun p1=>GA N y .bad fun p2=>.range (kS P G) gg p1 p2 a b) .bad
 |_=>.bad
def EN(P:Program)(G:Env)(N:Nat)(c:Code):CC:=Code.rec (motive:=fun _=>CC)
 .skip
 (fun _ ops draw=>Qj draw (Option.rec .bad (fun pl=>.Vm (Ii (Gq P G N ops.toList) pl)) (Z0 P ops.toList)) (.reg (Ii (N0 P G N ops.toList) ops.toList)))
 (fun _ _ a b=>.seq a b)
 (fun c _ _ a b=>Uq G c .bad fun g=>.cond g a b)
 (fun id _ f=>.block id f)
 (fun _ f=>.loop f)
 (fun g ps x y a b=>yI P G N g ps.toList (Qj (U3 x) (U3 y) false) a b)
 (fun id=>.exit id)
 (fun _ _=>.bad)
 (fun _=>.skip)
 (fun _=>.bad)
 .ret
 (fun _=>.bad)
 c
def wJ:AV→KB→KB→Q2→St→Bool:=(AV.rec (motive_1:=fun _=>KB→KB→Q2→St→Bool) (motive_2:=fun _=>Unit) (fun b x y T st=>Bool.rec (y T st) (x T st) b) ((fun _ _=>fun _ _ _ _=>false)) ((fun _=>fun _ _ _ _=>false)) (fun _ _ _ _=>false) ((fun _ _ _=>fun _ _ _ _=>false)) (fun _ _ _ _=>false) ((fun _ _ _ _ _=>fun _ _ _ _=>false)) ((fun _ _ _ _ _=>fun _ _ _ _=>false)) ((fun _ _ _=>fun _ _ _ _=>false)) ((fun _ _ _ _ _=>fun _ _ _ _=>false)) (fun _ _ _ _=>false) ((fun _ _ _=>fun _ _ _ _=>false)) (fun _ _ _ _=>false) ((fun _=>fun _ _ _ _=>false)) (fun _ _ _ _=>false) ((fun _ _=>fun _ _ _ _=>false)) ((fun _ _=>fun _ _ _ _=>false)) () (fun _ _ _ _=>()))
abbrev Z9:=YQ→(Nat→KB)→KB→KB→KB
def kz:Z9:=fun _ _ _ K T st=>K T st
def lN(l:List CI):Z9:=fun cc _ _ K T st=>eC l cc K T st
def kA(l:List DI):Z9:=fun cc _ _ K T st=>ew l cc K [st] T st
def lK(_ _:CC)(f g:Z9):Z9:=fun cc E R K T st=>f cc E R (g cc E R K) T st
def kD(g:Q2→AV)(_ _:CC)(a b:Z9):Z9:=fun cc E R K T st=>wJ (g T) (a cc E R K) (b cc E R K) T st
def fj(id:Nat)(_:CC)(f:Z9):Z9:=fun cc E R K T st=>f cc (fun i=>Qj (Nat.beq i id) K (E i)) R K T st
def kB(L:Nat)(_:CC)(f:Z9):Z9:=fun cc E R K T st=>Nat.rec (motive:=fun _=>KB) (fun _ _=>false) (fun _ ih=>f cc E R ih) L T st
def fi(hd:AV→St→(Nat→(Nat→St→KV→Bool)→Bool)→Bool)(g:Q2→AV)(p1 p2:F9)(_ _:CC)(fa fb:Z9):Z9:=fun cc E R K T st=>hd (g T) st fun n el=>
 Nat.rec (motive:=fun _=>St→Bool) (fun st=>K T st) (fun i ih st=>el i st fun v=>p1 T (.int .i64 (Int.ofNat i)) (fun T1 st=>p2 T1 v (fun T2 st=>fa cc (fun _ _ _=>false) (fun _ _=>false) (fun T3 st=>fb cc (fun id _ st=>E id T st) (fun _ st=>R T st) (fun _ st=>tl (ih st)) T3 st) T2 st) st) st) n st
def kC(id:Nat):Z9:=fun _ E _ _ T st=>E id T st
def lM:Z9:=fun _ _ R _ T st=>R T st
def lO:Z9:=fun _ _ _ _ _ _=>false
def runK(L:Nat)(c:CC):Z9:=CC.rec (motive:=fun _=>Z9) kz lN kA lK kD fj (kB L) fi kC lM lO c

structure FN where
 code:CC
 n:Nat
 res:List ResultVar
def wK(P:Program)(G:Env)(f:FuncId):Option FN:=ob (Hq P f) fun q=>Q6 (Nat.ble q.2.1 256) (some ⟨EN P G q.2.1 q.1,q.2.1,q.2.2⟩)
def q0:AV:=.tup []
def Q1.zero:Q1:=⟨q0,q0,q0,q0,q0,q0,q0,q0,q0,q0,q0,q0,q0,q0,q0,q0⟩
def Q2.zero:Q2:=⟨.zero,.zero,.zero,.zero,.zero,.zero,.zero,.zero,.zero,.zero,.zero,.zero,.zero,.zero,.zero,.zero⟩
structure Sb where
 put:F9
def putAt(t:Nat):Sb:=Vq t ⟨fun _ _ _ _=>false⟩ fun _ p=>⟨p⟩
def zt(l:List AV):Nat→Q2→KB→St→Bool:=List.rec (motive:=fun _=>Nat→Q2→KB→St→Bool) (fun _ T K st=>K T st) (fun v _ ih i T K st=>(putAt i).put T v (fun T st=>ih (Nat.succ i) T K st) st) l
def eA(P:Program)(T:Q2)(st:St)(r:ResultVar)(k:KV):Bool:=match r with
 |.tmp t=>k (Ef t T)
 |.cell a t=>IK (QF P t (Ef a T) st.h.get) k
def Ly(P:Program)(l:List ResultVar)(T:Q2)(st:St):(List AV→Bool)→Bool:=List.rec (motive:=fun _=>(List AV→Bool)→Bool) (fun k=>k []) (fun r _ ih k=>eA P T st r fun v=>ih fun l=>k (v::l)) l
def aV(P:Program)(res:List ResultVar)(k:AV→St→Bool):KB:=fun T st=>Ly P res T st fun vs=>k (List.rec (.tup []) (fun v t _=>List.rec v (fun _ _ _=>.tup vs) t) vs) st
def Tl(P:Program)(L:Nat)(q:FN)(cc:YQ):List AV→St→(AV→St→Bool)→Bool:=fun args st k=>Bool.rec false (zt args 0 .zero (fun T st=>runK L q.code cc (fun _ _ _=>false) (aV P q.res k) (aV P q.res k) T st) st) (Nat.ble (UZ args) q.n)
def AU(P:Program)(G:Env)(L:Nat)(fuel:Nat):YQ:=Nat.rec (motive:=fun _=>YQ) (fun _ _ _ _=>false) (fun _ ih f args st k=>Option.rec (IK (wK P G f) fun q=>tl (Tl P L q ih args st k)) (fun sm=>IK (sm args st) fun r=>k r.1 r.2) (G.s f)) fuel
def HS:AV→St→Bool:=fun v _=>(AV.rec (motive_1:=fun _=>Bool) (motive_2:=fun _=>Unit) (fun b=>b) ((fun _ _=>false)) ((fun _=>false)) (false) ((fun _ _ _=>false)) (false) ((fun _ _ _ _ _=>false)) ((fun _ _ _ _ _=>false)) ((fun _ _ _=>false)) ((fun _ _ _ _ _=>false)) (false) ((fun _ _ _=>false)) (false) ((fun _=>false)) (false) ((fun _ _=>false)) ((fun _ _=>false)) () (fun _ _ _ _=>())) v

end
end
section
open Go
variable {G:Env} {N:Nat} {P:Program} {t:TypeId} {x:AV}

theorem JU{α:Type}{x:Option α}{k:α→Bool}(h:IK x k=true): ∃a,x=some a∧k a=true:=by
 cases x with
 |none=>cases h
 |some a=>exact⟨a,rfl,h⟩
def JY(T:Tr AV)(q:Q2):Prop:= ∀t,Ux T t=Ef t q
theorem Bz{t:Nat}{i j:Dg}(hi:O3 (t/16)=some i)(hj:O3 (t % 16)=some j)(q:Q2):Ef t q=Q1.at j (Q2.at i q):=by
 unfold Ef;rw[hi,hj]
theorem XO{β:Type}(Pd:β→Prop){t:Nat}{bad:β}{k:(Q2→AV)→F9→β}(hb:Pd bad)
  (h: ∀g p,(∀q,g q=Ef t q)→(∀q v K st,∃q',p q v K st=K q' st∧ ∀u,Ef u q'=if u=t then v else Ef u q)→Pd (k g p)):Pd (Vq t bad k):=by
 unfold Vq
 split
 ·rename_i i hi
  split
  ·rename_i j hj;rw[Q1.KY,Q2.KY];refine h _ _ (fun q=>(Bz hi hj q).symm) fun q v K st=>?_;obtain⟨q1,e1,f1,g1⟩:=Q1.GC j (Q2.at i q) v (fun x=>Q2.up i q x fun T=>K T st);obtain⟨q2,e2,f2,g2⟩:=Q2.GC i q q1 (fun T=>K T st);refine⟨q2,(MG _ _).trans (e1.trans e2),fun u=>?_⟩
   cases hi':O3 (u/16)with
   |none=>
    have:u≠t:=fun e=>by rw[e,hi]at hi';cases hi'
    rw[if_neg this];unfold Ef;rw[hi']
   |some i'=>
    cases hj':O3 (u % 16)with
    |none=>
     have:u≠t:=fun e=>by rw[e,hj]at hj';cases hj'
     rw[if_neg this];unfold Ef;rw[hi',hj']
    |some j'=>
     rw[Bz hi' hj',Bz hi' hj'];have a1:=KQ hi;have a2:=KQ hj;have a3:=KQ hi';have a4:=KQ hj'
     by_cases hii:i'=i
     ·subst hii;rw[f2]
      by_cases hjj:j'=j
      ·subst hjj;rw[f1,if_pos Qd]
      ·have:u≠t:=fun e=>hjj (Dg.S9 (by rw[←a4,←a2,e]));rw[if_neg this,g1 _ hjj]
     ·have:u≠t:=fun e=>hii (Dg.S9 (by rw[←a3,←a1,e]));rw[if_neg this,g2 _ hii]
  ·exact hb
 ·exact hb
def wU(G:Env)(x:Operand)(g:Q2→AV):Prop:= ∀T q,JY T q→QN G T x=some (g q)
def IZ(N:Nat)(d:Option Nat)(p:F9):Prop:= ∀T q v K st,JY T q→p q v K st=true→ ∃T' q',(∀(β:Type) (k:Tr AV→Option β),Yy N d v T k=k T')∧JY T' q'∧K q' st=true
theorem Ji{β:Type}(Pd:β→Prop){x:Operand}{bad:β}{k:(Q2→AV)→β}(hb:Pd bad)(h: ∀g,wU G x g→Pd (k g)):Pd (Uq G x bad k):=by
 cases x with
 |tmp t=>exact XO (k:=fun g _=>k g) (t:=t) Pd hb fun g p hg _=>h g fun T q hT=>by rw[hg];exact congrArg some (hT t)
 |const v=>
  show Pd (Option.rec bad (fun a=>k (fun _=>a)) (ofConst v))
  cases hv:ofConst v with
  |none=>exact hb
  |some a=>exact h _ fun T q hT=>hv
 |global n=>
  show Pd (Qj (G.g n) (k (fun _=>.ptr n 0 0)) bad)
  cases hg:G.g n with
  |false=>exact hb
  |true=>exact h _ fun T q hT=>by show Q6 (G.g n) _=_;rw[hg];rfl
 |func f=>exact h _ fun T q hT=>rfl
theorem Cm(Pd:CI→Prop){d:Option Nat}{k:F9→CI}(hb:Pd Jt)(h: ∀p,IZ N d p→Pd (k p)):Pd (Si N d k):=by
 cases d with
 |none=>exact h _ fun T q v K st hT hK=>⟨T,q,fun _ _=>rfl,hT,hK⟩
 |some t=>
  show Pd (Qj (Nat.ble (t+1) N) (Vq t Jt fun _ p=>k p) Jt)
  cases hn:Nat.ble (t+1) N with
  |false=>exact hb
  |true=>
   refine XO (k:=fun _ p=>k p) (t:=t) Pd hb fun g p _ hp=>h p fun T q v K st hT hK=>?_;obtain⟨q',e,hq⟩:=hp q v K st;refine⟨T.set t v,q',fun β k=>?_,fun u=>?_,by rw[←e];exact hK⟩
   ·show Q6 (Nat.ble (t+1) N) (T.put t v k)=_;rw[hn,Tr.put_eq];rfl
   ·rw[UU,hq,hT u]
theorem OB{β:Type}(Pd:β→Prop){t:Nat}{bad:β}{k:F9→β}(hb:Pd bad)(h: ∀p,IZ N (some t) p→Pd (k p)):Pd (GA N t bad k):=by
 unfold GA
 cases hn:Nat.ble (t+1) N with
 |false=>exact hb
 |true=>
  refine XO (k:=fun _ p=>k p) (t:=t) Pd hb fun g p _ hp=>h p fun T q v K st hT hK=>?_;obtain⟨q',e,hq⟩:=hp q v K st;refine⟨T.set t v,q',fun β k=>?_,fun u=>?_,by rw[←e];exact hK⟩
  ·show Q6 (Nat.ble (t+1) N) (T.put t v k)=_;rw[hn,Tr.put_eq];rfl
  ·rw[UU,hq,hT u]
theorem HM{β:Type}(Pd:β→Prop){bad:β}(hb:Pd bad): ∀(l:List Operand) {k:List (Q2→AV)→β},(∀gs,(∀T q,JY T q→JB (QN G T) l=some (gs.map fun g=>g q))→Pd (k gs))→Pd (HN G bad l k):=by
 intro l
 induction l with
 |nil=>intro k h;exact h [] fun T q hT=>rfl
 |cons x l ih=>
  intro k h;show Pd (Uq G x bad fun g=>HN G bad l fun gs=>k (g::gs));refine Ji Pd hb fun g hg=>ih fun gs hgs=>h _ fun T q hT=>?_;rw[Jw,hg T q hT,Qg,hgs T q hT,Qg];rfl
theorem GY(gs:List (Q2→AV))(q:Q2): ∀k:List AV→Bool,CO gs q k=k (gs.map fun g=>g q):=by
 induction gs with
 |nil=>intro k;rfl
 |cons g gs ih=>intro k;show CO gs q (fun l=>k (g q::l))=_;rw[ih];rfl
theorem eY{T:Tr AV}{q:Q2}(h:JY T q):lY G q=QN G T:=by
 funext x
 cases x with
 |tmp t=>exact congrArg some (h t).symm
 |const v=>rfl
 |global g=>rfl
 |func f=>rfl

def UC(cc:YQ)(call:JO):Prop:= ∀f args st k,cc f args st k=true→ ∃v st',call f args st=some (v,st')∧k v st'=true
def YP(P:Program)(G:Env)(N:Nat)(o:Oper)(r:G3):Prop:= ∀call cc,UC cc call→ ∀T q st K,JY T q→r cc K q st=true→
 ∃v st' T' q',IJ P (QN G T) call o st=some (v,st')∧(∀(β:Type) (k:Tr AV→Option β),Yy N o.dst v T k=k T')∧JY T' q'∧K q' st'=true
theorem EA(P:Program)(G:Env)(N:Nat)(o:Oper):YP P G N o Jt.run:=fun _ _ _ _ _ _ _ _ h=>by cases h
theorem Gd{o:Oper}{p:F9}(hp:IZ N o.dst p){call:JO}{T:Tr AV}{q:Q2}{st st':St}{K:KB}{v:AV}(hT:JY T q)(ho:IJ P (QN G T) call o st=some (v,st'))(h:p q v K st'=true):
  ∃v st' T' q',IJ P (QN G T) call o st=some (v,st')∧(∀(β:Type) (k:Tr AV→Option β),Yy N o.dst v T k=k T')∧JY T' q'∧K q' st'=true:=by
 obtain⟨T',q',h1,h2,h3⟩:=hp T q v K st' hT h;exact⟨v,st',T',q',ho,h1,h2,h3⟩
theorem uS{o:Oper}{p:F9}(hp:IZ N o.dst p)(hn: ∀R call st,IJ P R call o st=qs P R o.op st):YP P G N o (MD P G o.op p):=by
 intro call cc hc T q st K hT h;obtain⟨⟨v,st'⟩,h1,h2⟩:=JU h;rw[eY hT]at h1;exact Gd hp hT (by rw[hn,h1]) h2

theorem jA{a b:AV}{k:KV}(h:wu x a b k=true): ∃t,x=.bool t∧k (Qj t a b)=true:=by
 cases x<;>first|(cases h;done)|skip
 rename_i t;refine⟨t,rfl,?_⟩
 cases t<;>exact h
theorem S0{β:Type}(Pd:β→Prop){bad:β}{k:X6→β}(hb:Pd bad)(h: ∀pt:X6,(∀l off kv,pt l off kv=true→ ∃v,YJ P t l off=some v∧kv v=true)→Pd (k pt)):Pd (En P t bad k):=by
 unfold En
 split
 ·rename_i n hk
  exact h _ fun l off kv hkv=>by
   obtain⟨v,h1,h2⟩:=JU hkv;exact⟨v,by unfold YJ;rw[hk];exact h1,h2⟩
 ·rename_i hk
  exact h _ fun l off kv hkv=>by
   obtain⟨v,h1,h2⟩:=JU hkv;exact⟨v,by unfold YJ;rw[hk];exact h1,h2⟩
 ·exact hb
theorem LK{pt:X6}(hpt: ∀l off kv,pt l off kv=true→ ∃v,YJ P t l off=some v∧kv v=true){st:St}{k:KV}(h:OV pt x st k=true): ∃v,QF P t x st.h.get=some v∧k v=true:=by
 cases x<;>first|(cases h;done)|skip
 rename_i c m off;replace h:wA (Tr.get st.h c) m off pt k=true:=h
 cases hc:Tr.get st.h c with
 |none=>rw[hc]at h;cases h
 |some C=>
  rw[hc]at h
  cases C with
  |iter=>cases h
  |map=>cases h
  |row ro ms=>
   replace h:w8 ro ms m off pt k=true:=h;obtain⟨x,h1,h⟩:=JU h;obtain⟨l,h2,h⟩:=JU h;obtain⟨v,h3,h4⟩:=hpt _ _ _ h;refine⟨v,?_,h4⟩;show ob (rowOf st.h.get c m) _=_;unfold rowOf;rw[hc,Qg];show ob (ob (nth ms m) _) _=_;rw[h1,Qg,h2,Qg,Qg];exact h3
theorem aM{f o:Nat}(ho:Q5 P t f=some o){k:KV}(h:lH o x k=true): ∃v,ZR P t x f=some v∧k v=true:=by
 cases x<;>first|(cases h;done)|skip
 rename_i c m off;replace h:JF (Nat.add off o) (fun z=>k (.ptr c m z))=true:=h;rw[QE]at h;refine⟨.ptr c m (off+o),?_,h⟩;show ob (Q5 P t f) _=_;rw[ho,Qg,QE]
theorem aE{k:KV}(h:lZ x k=true):((∃c m off,x=.ptr c m off)∨ ∃f a c,x=.fn f a c)∧k x=true:=by
 cases x<;>first|(cases h;done)|exact⟨.inl ⟨_,_,_,rfl⟩,h⟩|exact⟨.inr ⟨_,_,_,rfl⟩,h⟩
theorem aN{i:Nat}{k:KV}(h:nj i x k=true): ∃l v,x=.tup l∧nth l i=some v∧k v=true:=by
 cases x<;>first|(cases h;done)|skip
 rename_i l;obtain⟨v,h1,h2⟩:=JU h;exact⟨l,v,rfl,h1,h2⟩
theorem SP{α:Type}{k:IntKind}{x z:α}:uO k x z=if k=.i64 then x else z:=by cases k<;>rfl
theorem vu{f:Int→Int→KV→Bool→Bool}{y:AV}{k:KV}{z:Bool}(h:ke f x y k z=true):z=true∨ ∃a b,x=.int .i64 a∧y=.int .i64 b∧f a b k z=true:=by
 cases x<;>first|exact .inl h|skip
 rename_i j a
 cases y<;>first|exact .inl h|skip
 rename_i i b;replace h:uO j (uO i (f a b k z) z) z=true:=h;rw[SP,SP]at h
 split at h
 ·rename_i e1
  split at h
  ·rename_i e2;subst e1 e2;exact .inr ⟨a,b,rfl,rfl,h⟩
  ·exact .inl h
 ·exact .inl h
theorem Tt{op:BinOp}{f:Int→Int→KV→Bool→Bool}(hf: ∀a b k z,f a b k z=true→z=true∨ ∃v,wM op .i64 a b=some v∧k v=true)
  (hop: ∀a b,b2 P op t (.int .i64 a) (.int .i64 b)=wM op .i64 a b) {x y:AV} {k:KV} (h:Pk f (BR P op t) x y k=true): ∃v,b2 P op t x y=some v∧k v=true:=by
 rcases vu h with h|⟨a,b,rfl,rfl,h⟩
 ·exact JU h
 ·rcases hf _ _ _ _ h with h|⟨v,h1,h2⟩
  ·exact JU h
  ·exact⟨v,by rw[hop];exact h1,h2⟩
theorem vV(a b:Int)(k:KV)(z:Bool)(h:kH a b k z=true):z=true∨ ∃v,wM .add .i64 a b=some v∧k v=true:=by
 cases a with
 |negSucc m=>exact .inl h
 |ofNat m=>cases b with
  |negSucc n=>exact .inl h
  |ofNat n=>
   replace h:Bool.rec (motive:=fun _=>Bool) z (JF (Nat.add m n) fun s=>k (.int .i64 (Int.ofNat s))) (Nat.ble (Nat.add m n) YW)=true:=h
   cases hb:Nat.ble (Nat.add m n) YW with
   |false=>rw[hb]at h;exact .inl h
   |true=>
    rw[hb]at h;replace h:JF (Nat.add m n) (fun s=>k (.int .i64 (Int.ofNat s)))=true:=h;rw[QE]at h;refine .inr ⟨.int .i64 (Int.ofNat (m+n)),?_,h⟩;unfold wM;simp only[UP,Ug];have:=Vd hb
    have e:IntKind.wrap .i64 (Int.ofNat m+Int.ofNat n)=Int.ofNat m+Int.ofNat n:=IntWalk.i64_in _ (by
     have:m+n≤9223372036854775807:=this;simp only[Int.ofNat_eq_natCast]
     omega)
    rw[e];rfl
theorem vN{op:BinOp}{y:AV}{k:KV}(h:kF P op t x y k=true): ∃v,b2 P op t x y=some v∧k v=true:=by
 cases op<;>first
  |exact JU h
  |exact Tt (fun a b k z h=>.inr ⟨_,rfl,h⟩) (fun a b=>by show Q6 (Ku .i64 .i64) _=_;rw[Ku,decide_eq_true rfl];rfl) h
  |exact Tt vV (fun a b=>by show Q6 (Ku .i64 .i64) _=_;rw[Ku,decide_eq_true rfl];rfl) h

end
section
open Go Go.RowKit
variable {G:Env} {P:Program} {T:Tr AV} {o:Oper} {ops:List Oper} {st:St}

theorem uP(P:Program)(G:Env)(N:Nat)(o:Oper)(p:F9)(hp:IZ N o.dst p):YP P G N o (uQ P G o.op p).run:=by
 have hbad:YP P G N o Jt.run:=EA P G N o;obtain⟨dst,op,ty,pos,after,guard⟩:=o
 have in_of': ∀{call:JO} {T:Tr AV} {q:Q2} {st st':St} {K:KB} {v:AV},JY T q→IJ P (QN G T) call ⟨dst,op,ty,pos,after,guard⟩ st=some (v,st')→p q v K st'=true→
  ∃v st' T' q',IJ P (QN G T) call ⟨dst,op,ty,pos,after,guard⟩ st=some (v,st')∧(∀(β:Type) (k:Tr AV→Option β),Yy N dst v T k=k T')∧JY T' q'∧K q' st'=true:=fun hT ho h=>Gd hp hT ho h
 cases op with
 |move x=>
  refine Ji (fun c:CI=>YP P G N _ c.run) hbad fun g hg=>?_;intro call cc hc T q st K hT h;exact in_of' hT (show ret (QN G T x) st=some (g q,st) by rw[hg T q hT];rfl) h
 |assign x=>
  refine Ji (fun c:CI=>YP P G N _ c.run) hbad fun g hg=>?_;intro call cc hc T q st K hT h;exact in_of' hT (show ret (QN G T x) st=some (g q,st) by rw[hg T q hT];rfl) h
 |pick c a b=>
  refine Ji (fun c:CI=>YP P G N _ c.run) hbad fun f hf=>Ji (fun c:CI=>YP P G N _ c.run) hbad fun g hg=>Ji (fun c:CI=>YP P G N _ c.run) hbad fun h' hh=>?_;intro call cc hc T q st K hT h;obtain⟨t,ht,h⟩:=jA h;refine in_of' hT (v:=Qj t (g q) (h' q)) (st':=st) ?_ h;show ob (QN G T c) _=_;rw[hf T q hT,Qg,ht];show ret (Qj t (QN G T a) (QN G T b)) st=_;rw[hg T q hT,hh T q hT]
  cases t<;>rfl
 |alloc t=>
  intro call cc hc T q st K hT h;obtain⟨⟨v,st'⟩,h1,h2⟩:=JU h;exact in_of' hT (show WU P t st=some (v,st')from h1) h2
 |load t a=>
  refine S0 (fun c:CI=>YP P G N _ c.run) hbad fun pt hpt=>Ji (fun c:CI=>YP P G N _ c.run) hbad fun g hg=>?_;intro call cc hc T q st K hT h;obtain⟨v,h1,h2⟩:=LK hpt h;refine in_of' hT (v:=v) (st':=st) ?_ h2;show ob (QN G T a) _=_;rw[hg T q hT,Qg];show ret (QF P t (g q) st.h.get) st=_;rw[h1];rfl
 |store t a v=>
  refine Ji (fun c:CI=>YP P G N _ c.run) hbad fun g hg=>Ji (fun c:CI=>YP P G N _ c.run) hbad fun h' hh=>?_;intro call cc hc T q st K hT h;obtain⟨⟨v',st'⟩,h1,h2⟩:=JU h;refine in_of' hT (v:=v') (st':=st') ?_ h2;show ob (QN G T a) _=_;rw[hg T q hT,Qg];show ob (QN G T v) _=_;rw[hh T q hT,Qg];exact h1
 |nilCheck x=>
  refine Ji (fun c:CI=>YP P G N _ c.run) hbad fun g hg=>?_;intro call cc hc T q st K hT h;obtain⟨h1,h2⟩:=aE h;refine in_of' hT (v:=g q) (st':=st) ?_ h2;show ret (ob (QN G T x) _) st=_;rw[hg T q hT,Qg]
  rcases h1 with⟨c,m,off,e⟩|⟨f,a,c,e⟩<;>(rw[e];rfl)
 |binOp op t x y yt=>
  refine Ji (fun c:CI=>YP P G N _ c.run) hbad fun g hg=>Ji (fun c:CI=>YP P G N _ c.run) hbad fun h' hh=>?_;intro call cc hc T q st K hT h;obtain⟨v,h1,h2⟩:=vN h;refine in_of' hT (v:=v) (st':=st) ?_ h2;show ret (ob (QN G T x) fun x=>ob (QN G T y) fun y=>b2 P op t x y) st=_;rw[hg T q hT,Qg,hh T q hT,Qg,h1];rfl
 |fieldAddr t x f=>
  refine Ji (fun c:CI=>YP P G N _ c.run) hbad fun g hg=>?_
  cases hf:Q5 P t f with
  |none=>exact hbad
  |some off=>
   show YP P G N _ (CI.run (JF off fun off=>⟨fK (lH off) g p⟩));rw[QE];intro call cc hc T q st K hT h;obtain⟨v,h1,h2⟩:=aM hf h;refine in_of' hT (v:=v) (st':=st) ?_ h2;show ret (ob (QN G T x) fun x=>ZR P t x f) st=_;rw[hg T q hT,Qg,h1];rfl
 |indexAddr t x i=>
  refine Ji (fun c:CI=>YP P G N _ c.run) hbad fun g hg=>Ji (fun c:CI=>YP P G N _ c.run) hbad fun h' hh=>?_;intro call cc hc T q st K hT h;obtain⟨v,h1,h2⟩:=JU h;refine in_of' hT (v:=v) (st':=st) ?_ h2;show ret (ob (QN G T x) fun x=>ob (QN G T i) fun i=>JA P t x i) st=_;rw[hg T q hT,Qg,hh T q hT,Qg,h1];rfl
 |index t x i=>
  refine Ji (fun c:CI=>YP P G N _ c.run) hbad fun g hg=>Ji (fun c:CI=>YP P G N _ c.run) hbad fun h' hh=>?_;intro call cc hc T q st K hT h;obtain⟨v,h1,h2⟩:=JU h;refine in_of' hT (v:=v) (st':=st) ?_ h2;show ret (ob (QN G T x) fun x=>ob (QN G T i) fun i=>Fj P t x i) st=_;rw[hg T q hT,Qg,hh T q hT,Qg,h1];rfl
 |extract t i=>
  refine Ji (fun c:CI=>YP P G N _ c.run) hbad fun g hg=>?_;intro call cc hc T q st K hT h;obtain⟨l,v,e,h1,h2⟩:=aN h;refine in_of' hT (v:=v) (st':=st) ?_ h2;show ret (ob (QN G T t) _) st=_;rw[hg T q hT,Qg,e];show ret (nth l i) st=_;rw[h1];rfl
 |call c=>
  obtain⟨callee,args,ats⟩:=c
  cases callee with
  |value f=>
   have key: ∀(x:Operand) (gs:List (Q2→AV)) (call:JO) (T:Tr AV) (q:Q2) (st st':St) (v:AV) (fid:FuncId) (a cap:List AV),
     JB (QN G T) args.toList=some (gs.map fun g=>g q)→QN G T x=some (.fn fid a cap)→call fid (Yk a (Yk (gs.map fun g=>g q) cap)) st=some (v,st')→
     IJ P (QN G T) call ⟨dst,.call ⟨.value x,args,ats⟩,ty,pos,after,guard⟩ st=some (v,st'):=by
    intro x gs call T q st st' v fid a cap h1 h2 h3;show ob (QN G T x) _=_;rw[h2,Qg];show ob (JB (QN G T) args.toList) _=_;rw[h1,Qg];exact h3
   have gen: ∀x:Operand,YP P G N ⟨dst,.call ⟨.value x,args,ats⟩,ty,pos,after,guard⟩ (CI.run (Uq G x Jt fun g=>HN G Jt args.toList fun gs=>⟨yN g gs p⟩)):=by
    intro x;refine Ji (fun c:CI=>YP P G N _ c.run) (EA P G N _) fun g hg=>HM (fun c:CI=>YP P G N _ c.run) (EA P G N _) _ fun gs hgs=>?_;intro call cc hc T q st K hT h;replace h:CO gs q (fun l=>wL (g q) cc l st fun v st=>p q v K st)=true:=h;rw[GY]at h
    cases hv:g q with
    |fn fid a cap=>
     rw[hv]at h;replace h:cc fid (Yk a (Yk (gs.map fun g=>g q) cap)) st (fun v st=>p q v K st)=true:=h;obtain⟨v,st',h1,h2⟩:=hc _ _ _ _ h;exact Gd (o:=⟨dst,.call ⟨.value x,args,ats⟩,ty,pos,after,guard⟩) hp hT (key x gs call T q st st' v fid a cap (hgs T q hT) (by rw[hg T q hT,hv]) h1) h2
    |_=>rw[hv]at h;cases h
   cases f with
   |func f=>
    refine HM (fun c:CI=>YP P G N _ c.run) (EA P G N _) _ fun gs hgs=>?_;intro call cc hc T q st K hT h;replace h:CO gs q (fun l=>cc f l st fun v st=>p q v K st)=true:=h;rw[GY]at h;obtain⟨v,st',h1,h2⟩:=hc _ _ _ _ h;refine Gd hp hT (key (.func f) gs call T q st st' v f [] [] (hgs T q hT) rfl ?_) h2;rw[JD,JD,List.append_nil,List.nil_append];exact h1
   |tmp t=>exact gen _
   |const t=>exact gen _
   |global t=>exact gen _
  |invoke x s=>
   refine Ji (fun c:CI=>YP P G N _ c.run) (EA P G N _) fun g hg=>HM (fun c:CI=>YP P G N _ c.run) (EA P G N _) _ fun gs hgs=>?_;intro call cc hc T q st K hT h;replace h:CO gs q (fun l=>iY P s (g q) cc l st fun v st=>p q v K st)=true:=h;rw[GY]at h
   cases hv:g q with
   |ifc t u=>
    rw[hv]at h;obtain⟨fid,hm,h⟩:=JU (show IK (Vw P t s) (fun fid=>cc fid (u::gs.map fun g=>g q) st fun v st=>p q v K st)=true from h);obtain⟨v,st',h1,h2⟩:=hc _ _ _ _ h;refine Gd (o:=⟨dst,.call ⟨.invoke x s,args,ats⟩,ty,pos,after,guard⟩) hp hT ?_ h2;show ob (QN G T x) _=_;rw[hg T q hT,hv,Qg];show ob (Vw P t s) _=_;rw[hm,Qg,hgs T q hT,Qg];exact h1
   |_=>rw[hv]at h;cases h
  |builtin b=>
   have hgen:YP P G N ⟨dst,.call ⟨.builtin b,args,ats⟩,ty,pos,after,guard⟩ (MD P G (.call ⟨.builtin b,args,ats⟩) p):=uS hp fun R call st=>rfl
   cases b<;>try exact hgen
   show YP P G N _ (CI.run (match args.toList with
    |x::[]=>Qj (Ze P ats.toList) ⟨MD P G (.call ⟨.builtin .len,args,ats⟩) p⟩ (Uq G x Jt fun g=>⟨fK (iW P ats.toList) g p⟩)
    |_=>Jt))
   split
   ·rename_i x hx
    cases hmt:Ze P ats.toList with
    |true=>exact hgen
    |false=>
    refine Ji (fun c:CI=>YP P G N _ c.run) (EA P G N _) fun g hg=>?_;intro call cc hc T q st K hT h;obtain⟨v,h1,h2⟩:=JU h;refine Gd hp hT (v:=v) (st':=st) ?_ h2;show kG P (QN G T) .len args.toList ats.toList st=_;rw[hx];show Qj (Ze P ats.toList) _ (ret (ob (QN G T x) fun x=>Kh P ats.toList x) st)=_;rw[hmt,Qq];rw[hg T q hT,Qg,h1];rfl
   ·exact EA P G N _
 |_=>exact uS hp fun R call st=>rfl

def wR(P:Program)(G:Env)(N:Nat)(ops:List Oper)(o:Oper)(r:G3):Prop:= ∀call cc,UC cc call→ ∀T q st K,JY T q→r cc K q st=true→
 ∃v st' T' q',Jz P G call ops o T st=some (v,st')∧(∀(β:Type) (k:Tr AV→Option β),Yy N o.dst v T k=k T')∧JY T' q'∧K q' st'=true
noncomputable def Sj(pol:Bool)(x:AV):Bool:=match x with
 |.bool b=>Qj b pol (!pol)
 |_=>false
theorem P8(h:o.guard=none):QX ops o T=true:=by unfold QX;rw[h]
theorem P7{g:Nat×Bool}(h:o.guard=some g){t:Nat}(ht:Ur ops g.1=some t):QX ops o T=Sj g.2 (Ux T t):=by
 unfold QX;rw[h];simp only[ht];rfl
theorem P9{g:Nat×Bool}(h:o.guard=some g)(ht:Ur ops g.1=none):QX ops o T=false:=by
 unfold QX;rw[h];simp only[ht]
theorem qx{x:AV}{pol a b:Bool}(h:qy x pol a b=true):Sj pol x=true∧a=true∨Sj pol x=false∧b=true:=by
 cases x<;>first|exact .inr ⟨rfl,h⟩|skip
 rename_i t
 cases t<;>cases pol<;>first|exact .inl ⟨rfl,h⟩|exact .inr ⟨rfl,h⟩
theorem D5{N:Nat}{p:F9}{c:CI}(hp:IZ N o.dst p)(X:(Tr AV→AV→Q2→Prop))(hX: ∀call cc,UC cc call→ ∀T q st K,JY T q→c.run cc K q st=true→
  ∃v st' T' q',IJ P (QN G T) call o st=some (v,st')∧X T v q∧(∀(β:Type) (k:Tr AV→Option β),Yy N o.dst v T k=k T')∧JY T' q'∧K q' st'=true):
  ∀call cc,UC cc call→ ∀T q st K,JY T q→(LV ops o p c).run cc K q st=true→
  ∃v st' T' q',Jz P G call ops o T st=some (v,st')∧(QX ops o T=true→X T v q)∧(∀(β:Type) (k:Tr AV→Option β),Yy N o.dst v T k=k T')∧JY T' q'∧K q' st'=true:=by
 have idle: ∀(call:JO) T q st K,JY T q→QX ops o T=false→p q (.tup []) K st=true→ ∃v st' T' q',Jz P G call ops o T st=some (v,st')∧(QX ops o T=true→X T v q)∧(∀(β:Type) (k:Tr AV→Option β),Yy N o.dst v T k=k T')∧JY T' q'∧K q' st'=true:=by
  intro call T q st K hT hw h;obtain⟨T',q',h1,h2,h3⟩:=hp T q _ K st hT h;exact⟨.tup [],st,T',q',by unfold Jz;rw[hw];rfl,fun h=>(by rw[hw]at h;cases h),h1,h2,h3⟩
 have busy: ∀(call:JO) cc,UC cc call→ ∀T q st K,JY T q→QX ops o T=true→c.run cc K q st=true→ ∃v st' T' q',Jz P G call ops o T st=some (v,st')∧(QX ops o T=true→X T v q)∧(∀(β:Type) (k:Tr AV→Option β),Yy N o.dst v T k=k T')∧JY T' q'∧K q' st'=true:=by
  intro call cc hc T q st K hT hw h;obtain⟨v,st',T',q',h1,h2,h3⟩:=hX call cc hc T q st K hT h;exact⟨v,st',T',q',by unfold Jz;rw[hw];exact h1,fun _=>h2,h3⟩
 unfold LV
 split
 ·rename_i hg;intro call cc hc T q st K hT h;exact busy call cc hc T q st K hT (P8 hg) h
 ·rename_i g hg
  split
  ·rename_i t ht
   refine XO (k:=fun gt _=>⟨ng gt g.2 c.run p⟩) (t:=t) (fun c:CI=> ∀call cc,UC cc call→ ∀T q st K,JY T q→c.run cc K q st=true→
    ∃v st' T' q',Jz P G call ops o T st=some (v,st')∧(QX ops o T=true→X T v q)∧(∀(β:Type) (k:Tr AV→Option β),Yy N o.dst v T k=k T')∧JY T' q'∧K q' st'=true) (fun _ _ _ _ _ _ _ _ h=>by cases h) fun gt _ hgt _=>?_
   intro call cc hc T q st K hT h
   have hw:QX ops o T=Sj g.2 (Ef t q):=by rw[P7 hg ht,hT t]
   replace h:qy (gt q) g.2 (c.run cc K q st) (p q (.tup []) K st)=true:=h;rw[hgt q]at h;rcases qx h with⟨h1,h2⟩|⟨h1,h2⟩
   ·exact busy call cc hc T q st K hT (hw.trans h1) h2
   ·exact idle call T q st K hT (hw.trans h1) h2
  ·rename_i ht;intro call cc hc T q st K hT h;exact idle call T q st K hT (P9 hg ht) h
theorem BI(P:Program)(G:Env)(N:Nat)(ops:List Oper)(o:Oper):wR P G N ops o (N0 P G N ops o).run:=by
 refine Cm (fun c:CI=>wR P G N ops o c.run) (fun _ _ _ _ _ _ _ _ h=>by cases h) fun p hp=>?_;intro call cc hc T q st K hT h
 obtain⟨v,st',T',q',h1,_,h3⟩:=D5 hp (fun _ _ _=>True) (fun call cc hc T q st K hT h=>by
  obtain⟨v,st',T',q',h1,h2⟩:=uP P G N o p hp call cc hc T q st K hT h
  exact⟨v,st',T',q',h1,trivial,h2⟩) call cc hc T q st K hT h
 exact⟨v,st',T',q',h1,h3⟩
theorem eB(P:Program)(G:Env)(N:Nat)(ops:List Oper){call:JO}{cc:YQ}(hc:UC cc call)(K:KB): ∀(l:List Oper) (T:Tr AV) (q:Q2) (st:St),JY T q→eC (Ii (N0 P G N ops) l) cc K q st=true→
  ∃T' st' q',Ez P G call N ops l T st=some (T',st')∧JY T' q'∧K q' st'=true:=by
 intro l
 induction l with
 |nil=>intro T q st hT h;exact⟨T,st,q,rfl,hT,h⟩
 |cons o l ih=>
  intro T q st hT h;replace h:(N0 P G N ops o).run cc (eC (Ii (N0 P G N ops) l) cc K) q st=true:=h;obtain⟨v,st',T',q',h1,h2,h3,h4⟩:=BI P G N ops o call cc hc T q st _ hT h;obtain⟨T2,st2,q2,k1,k2,k3⟩:=ih T' q' st' h3 h4;refine⟨T2,st2,q2,?_,k2,k3⟩;show ob (Jz P G call ops o T st) _=_;rw[h1,Qg,h2];exact k1

theorem uq{t:TypeId}{pt:X6}(hpt: ∀l off kv,pt l off kv=true→ ∃v,YJ P t l off=some v∧kv v=true){x v:AV}: ∀(n:Nat) (l:List St),BV pt x v n l=true→
  ∀(G:Env) (o:Oper) (T:Tr AV) (a:Operand),o.op=.load t a→QN G T a=some x→again P G o T v n l=true:=by
 intro n
 induction n with
 |zero=>intro l h G o T a _ _;rfl
 |succ n ih=>
  intro l h G o T a ho ha
  cases l with
  |nil=>cases h
  |cons st l=>
   replace h:Qj (OV pt x st fun u=>HI u v) (BV pt x v n l) false=true:=h
   cases hl:OV pt x st fun u=>HI u v with
   |false=>rw[hl]at h;cases h
   |true=>
    rw[hl]at h;obtain⟨u,h1,h2⟩:=LK hpt hl
    show Qj (match o.op with
     |.load t a=>Option.rec false (fun x=>Option.rec false (fun u=>HI u v) (QF P t x st.h.get)) (QN G T a)
     |_=>false) (again P G o T v n l) false=true
    rw[ih l h G o T a ho ha,ho];show Qj (Option.rec false (fun x=>Option.rec false (fun u=>HI u v) (QF P t x st.h.get)) (QN G T a)) true false=true;rw[ha];show Qj (Option.rec false (fun u=>HI u v) (QF P t x st.h.get)) true false=true;rw[h1];show Qj (HI u v) true false=true;rw[h2];rfl
def wQ(P:Program)(G:Env)(N:Nat)(ops:List Oper)(q:Nat×Oper×Nat)(d:DI):Prop:= ∀call cc,UC cc call→ ∀T e st sn (kk:List St→KB),JY T e→DI.rec (motive:=fun _=>(List St→KB)→YQ→List St→KB) y9 kp wH d kk cc sn e st=true→
 ∃v st' T' e',Jz P G call ops q.2.1 T st=some (v,st')∧Qj (QX ops q.2.1 T) (again P G q.2.1 T v q.2.2 (List.rec [] (fun _ t _=>t) sn)) true=true∧
  (∀(β:Type) (k:Tr AV→Option β),Yy N q.2.1.dst v T k=k T')∧JY T' e'∧kk (Qj (Nat.beq (Qz P q.2.1.op) 3) (st'::sn) sn) e' st'=true
theorem qX(P:Program)(G:Env)(N:Nat)(ops:List Oper)(q:Nat×Oper×Nat):wQ P G N ops q (Gq P G N ops q):=by
 obtain⟨i,o,n⟩:=q;unfold Gq
 cases hn:Nat.beq n 0 with
 |true=>
  have hn0:n=0:=Nat.eq_of_beq_eq_true hn;subst hn0;rw[Qv]
  have agz: ∀T v l,Qj (QX ops o T) (again P G o T v 0 l) true=true:=fun T v l=>by cases QX ops o T<;>rfl
  cases hk:Nat.beq (Qz P o.op) 3 with
  |true=>
   rw[Qv];intro call cc hc T e st sn kk hT h;obtain⟨v,st',T',e',h1,h2,h3,h4⟩:=BI P G N ops o call cc hc T e st _ hT h;exact⟨v,st',T',e',h1,agz _ _ _,h2,h3,by simp only[hk,Qv];exact h4⟩
  |false=>
   rw[Qq];intro call cc hc T e st sn kk hT h;obtain⟨v,st',T',e',h1,h2,h3,h4⟩:=BI P G N ops o call cc hc T e st _ hT h;exact⟨v,st',T',e',h1,agz _ _ _,h2,h3,by simp only[hk,Qq];exact h4⟩
 |false=>
  rw[Qq]
  have nope:wQ P G N ops (i,o,n) (.plain Jt):=fun _ _ _ _ _ _ _ _ _ h=>by cases h
  simp only
  split
  ·rename_i t a ho;intro call cc hc T e st sn kk hT h
   have hk:Nat.beq (Qz P o.op) 3=false:=by rw[ho];rfl
   have key: ∀call cc,UC cc call→ ∀T e st K,JY T e→CI.run (Si N o.dst fun p=>LV ops o p (En P t Jt fun pt=>Uq G a Jt fun g=>⟨lX pt n g p sn⟩)) cc K e st=true→
     ∃v st' T' e',Jz P G call ops o T st=some (v,st')∧(QX ops o T=true→again P G o T v n (List.rec [] (fun _ t _=>t) sn)=true)∧(∀(β:Type) (k:Tr AV→Option β),Yy N o.dst v T k=k T')∧JY T' e'∧K e' st'=true:=by
    refine Cm (fun c:CI=> ∀call cc,UC cc call→ ∀T e st K,JY T e→c.run cc K e st=true→
     ∃v st' T' e',Jz P G call ops o T st=some (v,st')∧(QX ops o T=true→again P G o T v n (List.rec [] (fun _ t _=>t) sn)=true)∧(∀(β:Type) (k:Tr AV→Option β),Yy N o.dst v T k=k T')∧JY T' e'∧K e' st'=true) (fun _ _ _ _ _ _ _ _ h=>by cases h) fun p hp=>?_
    refine D5 hp (fun T v _=>again P G o T v n (List.rec [] (fun _ t _=>t) sn)=true) ?_
    refine S0 (fun c:CI=> ∀call cc,UC cc call→ ∀T q st K,JY T q→c.run cc K q st=true→
     ∃v st' T' q',IJ P (QN G T) call o st=some (v,st')∧again P G o T v n (List.rec [] (fun _ t _=>t) sn)=true∧(∀(β:Type) (k:Tr AV→Option β),Yy N o.dst v T k=k T')∧JY T' q'∧K q' st'=true) (fun _ _ _ _ _ _ _ _ h=>by cases h) fun pt hpt=>?_
    refine Ji (fun c:CI=> ∀call cc,UC cc call→ ∀T q st K,JY T q→c.run cc K q st=true→
     ∃v st' T' q',IJ P (QN G T) call o st=some (v,st')∧again P G o T v n (List.rec [] (fun _ t _=>t) sn)=true∧(∀(β:Type) (k:Tr AV→Option β),Yy N o.dst v T k=k T')∧JY T' q'∧K q' st'=true) (fun _ _ _ _ _ _ _ _ h=>by cases h) fun g hg=>?_
    intro call cc hc T q st K hT h;obtain⟨v,h1,h2⟩:=LK hpt h
    cases hag:BV pt (g q) v n (List.rec [] (fun _ t _=>t) sn)with
    |false=>rw[hag]at h2;cases h2
    |true=>
     rw[hag]at h2;obtain⟨T',q',k1,k2,k3⟩:=hp T q v K st hT h2;refine⟨v,st,T',q',?_,uq hpt n _ hag G o T a ho (hg T q hT),k1,k2,k3⟩;unfold IJ;rw[ho];show ob (QN G T a) (fun x=>ret (QF P t x st.h.get) st)=_;rw[hg T q hT,Qg,h1];rfl
   obtain⟨v,st',T',e',h1,h2,h3,h4,h5⟩:=key call cc hc T e st _ hT h;refine⟨v,st',T',e',h1,?_,h3,h4,by simp only[hk,Qq];exact h5⟩;show Qj (QX ops o T) (again P G o T v n (List.rec [] (fun _ t _=>t) sn)) true=true
   cases hw:QX ops o T with
   |false=>rfl
   |true=>exact h2 hw
  ·exact nope
theorem xi(P:Program)(G:Env)(N:Nat)(ops:List Oper){call:JO}{cc:YQ}(hc:UC cc call)(K:KB): ∀(l:List (Nat×Oper×Nat)) (T:Tr AV) (q:Q2) (st:St) (sn:List St),JY T q→ew (Ii (Gq P G N ops) l) cc K sn q st=true→
  ∃T' st' q',Vm P G call N ops l T st sn=some (T',st')∧JY T' q'∧K q' st'=true:=by
 intro l
 induction l with
 |nil=>intro T q st sn hT h;exact⟨T,st,q,rfl,hT,h⟩
 |cons o l ih=>
  intro T q st sn hT h;obtain⟨v,st',T',q',h1,h2,h3,h4,h5⟩:=qX P G N ops o call cc hc T q st sn (ew (Ii (Gq P G N ops) l) cc K) hT h;obtain⟨T2,st2,q2,k1,k2,k3⟩:=ih T' q' st' _ h4 h5;refine⟨T2,st2,q2,?_,k2,k3⟩;show ob (Jz P G call ops o.2.1 T st) _=_;rw[h1,Qg];show Q6 (Qj (QX ops o.2.1 T) (again P G o.2.1 T v o.2.2 (List.rec [] (fun _ t _=>t) sn)) true) _=_;rw[h2,Q7,h3];exact k1

def yv(x:Ex)(E:Nat→KB)(R K:KB):KB:=match x with
 |.nor=>K
 |.exit i=>E i
 |.ret=>R
def VK(f:Tr AV→St→Option (Ex×Tr AV×St))(call:JO)(b:Z9):Prop:= ∀cc,UC cc call→ ∀E R K T q st,JY T q→b cc E R K q st=true→ ∃x T' st' q',f T st=some (x,T',st')∧JY T' q'∧yv x E R K q' st'=true
theorem jm{N L:Nat}{call:JO}{a b:CC}{fa fb:Tr AV→St→Option (Ex×Tr AV×St)}{g:Operand}{x y:Tmp}{gg:Q2→AV}{p1 p2:F9}(hg:wU G g gg)(hp1:IZ N (some x) p1)(hp2:IZ N (some y) p2)
  (ha:VK fa call (runK L a)) (hb:VK fb call (runK L b)) {cc:YQ} (hc:UC cc call) {E:Nat→KB} {R K:KB} {T:Tr AV} {q:Q2} {st:St} (hT:JY T q) (h:runK L (.range (kS P G) gg p1 p2 a b) cc E R K q st=true):
  ∃e T' st' q',WC P G N g [x,y] true fa fb T st=some (e,T',st')∧JY T' q'∧yv e E R K q' st'=true:=by
 replace h:kS P G (gg q) st (fun n el=>Nat.rec (motive:=fun _=>St→Bool) (fun st=>K q st) (fun i ih st=>el i st fun v=>p1 q (.int .i64 (Int.ofNat i)) (fun T1 st=>p2 T1 v (fun T2 st=>runK L a cc (fun _ _ _=>false) (fun _ _=>false) (fun T3 st=>runK L b cc (fun id _ st=>E id q st) (fun _ st=>R q st) (fun _ st=>tl (ih st)) T3 st) T2 st) st) st) n st)=true:=h;unfold WC;rw[hg T q hT,Q7,Qg];unfold kS at h
 split at h
 ·rename_i f first cap hv
  rw[hv];replace h:=JU h;obtain⟨qq,hq,h⟩:=h;simp only[hq,Qg]
  split at h
  ·split at h
   ·rename_i cap;replace h:=JU h;obtain⟨s,hs,h⟩:=h;replace h:=JU h;obtain⟨nv,hl,h⟩:=h;simp only[hs,Qg,hl]
    split at h
    ·rename_i k n
     cases n with
     |negSucc n=>cases h
     |ofNat n=>
      simp only[TB,Qg];unfold MC at h;simp only at h
      cases hm:Nat.ble n YW with
      |false=>rw[hm]at h;cases h
      |true=>
       rw[hm]at h;rw[Q7];simp only at h;clear hl hs hm hv hq;revert st
       induction n with
       |zero=>intro st h;exact⟨.nor,T,st,q,rfl,hT,h⟩
       |succ n ih=>
        intro st h;replace h:kT P qq cap n st (fun v=>p1 q (.int .i64 (Int.ofNat n)) (fun T1 st=>p2 T1 v (fun T2 st=>runK L a cc (fun _ _ _=>false) (fun _ _=>false) (fun T3 st=>runK L b cc (fun id _ st=>E id q st) (fun _ st=>R q st) (fun _ st=>tl (Nat.rec (motive:=fun _=>St→Bool) (fun st=>K q st) (fun i ih st=>kT P qq cap i st fun v=>p1 q (.int .i64 (Int.ofNat i)) (fun T1 st=>p2 T1 v (fun T2 st=>runK L a cc (fun _ _ _=>false) (fun _ _=>false) (fun T3 st=>runK L b cc (fun id _ st=>E id q st) (fun _ st=>R q st) (fun _ st=>tl (ih st)) T3 st) T2 st) st) st) n st)) T3 st) T2 st) st) st)=true:=h;unfold kT at h;replace h:=JU h;obtain⟨s,hs,h⟩:=h;replace h:=JU h;obtain⟨ad,had,h⟩:=h;replace h:=JU h;obtain⟨v,hv,h⟩:=h;obtain⟨T1,q1,k1,r1,h⟩:=hp1 T q _ _ _ hT h;obtain⟨T2,q2,k2,r2,h⟩:=hp2 T1 q1 _ _ _ r1 h;obtain⟨e,T3,st3,q3,c1,r3,h⟩:=ha cc hc _ _ _ T2 q2 _ r2 h
        cases e with
        |exit i=>cases h
        |ret=>cases h
        |nor=>
         obtain⟨e,T4,st4,q4,c2,r4,h⟩:=hb cc hc _ _ _ T3 q3 _ r3 h
         have e0:V5 P N qq.1 qq.2 cap [x,y] fa fb T (n+1) st=Ex.rec (tl (V5 P N qq.1 qq.2 cap [x,y] fa fb T n st4)) (fun id=>some (.exit id,T,st4)) (some (.ret,T,st4)) e:=by
          show(ob (QF P qq.1 cap st.h.get) fun s=>ob (JA P qq.1 s (.int .i64 (Int.ofNat n))) fun q=>ob (QF P qq.2 q st.h.get) fun v=>IW N [x,y] (.int .i64 (Int.ofNat n)) v T fun T1=>ob (fa T1 st) fun r=>Ex.rec (ob (fb r.2.1 r.2.2) fun q=>Ex.rec (tl (V5 P N qq.1 qq.2 cap [x,y] fa fb T n q.2.2)) (fun id=>some (.exit id,T,q.2.2)) (some (.ret,T,q.2.2)) q.1) (fun _=>none) none r.1)=_;rw[hs,Qg,had,Qg,hv,Qg];show Yy N (some x) _ T _=_;rw[k1,k2,c1,Qg];show(ob (fb T3 st3) _)=_;rw[c2,Qg]
         cases e with
         |nor=>
          obtain⟨e,T5,st5,q5,d1,d2,d3⟩:=ih h;exact⟨e,T5,st5,q5,by rw[e0];exact d1,d2,d3⟩
         |exit id=>exact⟨.exit id,T,st4,q,e0,hT,h⟩
         |ret=>exact⟨.ret,T,st4,q,e0,hT,h⟩
    ·cases h
   ·cases h
  ·cases h
 ·cases h
theorem vH(P:Program)(G:Env)(N L:Nat)(call:JO): ∀c:Code,VK (codeF P G call N L c) call (runK L (EN P G N c)):=by
 have nope: ∀f,VK f call (runK L .bad):=fun f _ _ _ _ _ _ _ _ _ h=>by cases h
 intro c
 induction c with
 |skip=>intro cc hc E R K T q st hT h;exact⟨.nor,T,st,q,rfl,hT,h⟩
 |region id ops draw=>
  cases draw with
  |false=>
   intro cc hc E R K T q st hT h;obtain⟨T',st',q',h1,h2,h3⟩:=eB P G N ops.toList hc K ops.toList T q st hT h;refine⟨.nor,T',st',q',?_,h2,h3⟩;show(ob (Ez P G call N ops.toList ops.toList T st) fun r=>some (Ex.nor,r))=_;rw[h1];rfl
  |true=>
   have e:EN P G N (.region id ops true)=Option.rec .bad (fun pl=>.Vm (Ii (Gq P G N ops.toList) pl)) (Z0 P ops.toList):=rfl;rw[e]
   cases hpl:Z0 P ops.toList with
   |none=>exact nope _
   |some pl=>
    intro cc hc E R K T q st hT h;obtain⟨T',st',q',h1,h2,h3⟩:=xi P G N ops.toList hc K pl T q st [st] hT h;refine⟨.nor,T',st',q',?_,h2,h3⟩;show(ob (Z0 P ops.toList) fun pl=>ob (Vm P G call N ops.toList pl T st [st]) fun r=>some (Ex.nor,r))=_;rw[hpl,Qg,h1];rfl
 |seq a b ha hb=>
  intro cc hc E R K T q st hT h;obtain⟨x,T',st',q',h1,h2,h3⟩:=ha cc hc E R (runK L (EN P G N b) cc E R K) T q st hT h;have e:codeF P G call N L (.seq a b) T st=ZD (codeF P G call N L a T st) (codeF P G call N L b):=rfl
  cases x with
  |nor=>
   obtain⟨x,T2,st2,q2,k1,k2,k3⟩:=hb cc hc E R K T' q' st' h2 h3;exact⟨x,T2,st2,q2,by rw[e,h1];exact k1,k2,k3⟩
  |exit i=>exact⟨.exit i,T',st',q',by rw[e,h1];rfl,h2,h3⟩
  |ret=>exact⟨.ret,T',st',q',by rw[e,h1];rfl,h2,h3⟩
 |cond c a b ha hb=>
  show VK _ call (runK L (Uq G c .bad fun g=>.cond g (EN P G N a) (EN P G N b)));refine Ji (fun d:CC=>VK (codeF P G call N L (.cond c a b)) call (runK L d)) (nope _) fun g hg=>?_;intro cc hc E R K T q st hT h;replace h:wJ (g q) (runK L (EN P G N a) cc E R K) (runK L (EN P G N b) cc E R K) q st=true:=h;have e:codeF P G call N L (.cond c a b) T st=Nx (QN G T c) (codeF P G call N L a T st) (codeF P G call N L b T st):=rfl;rw[hg T q hT]at e
  cases hv:g q with
  |bool t=>
   rw[hv]at h e
   cases t with
   |true=>
    obtain⟨x,T',st',q',h1,h2,h3⟩:=ha cc hc E R K T q st hT h;exact⟨x,T',st',q',by rw[e];exact h1,h2,h3⟩
   |false=>
    obtain⟨x,T',st',q',h1,h2,h3⟩:=hb cc hc E R K T q st hT h;exact⟨x,T',st',q',by rw[e];exact h1,h2,h3⟩
  |_=>rw[hv]at h;cases h
 |block id b hb=>
  intro cc hc E R K T q st hT h;obtain⟨x,T',st',q',h1,h2,h3⟩:=hb cc hc (fun i=>Qj (Nat.beq i id) K (E i)) R K T q st hT h;have e:codeF P G call N L (.block id b) T st=I0 id (codeF P G call N L b T st):=rfl
  cases x with
  |nor=>exact⟨.nor,T',st',q',by rw[e,h1];rfl,h2,h3⟩
  |ret=>exact⟨.ret,T',st',q',by rw[e,h1];rfl,h2,h3⟩
  |exit i=>
   replace h3:Qj (Nat.beq i id) K (E i) q' st'=true:=h3
   cases hi:Nat.beq i id with
   |true=>rw[hi]at h3;exact⟨.nor,T',st',q',by rw[e,h1];show Qj (Nat.beq i id) _ _=_;rw[hi];rfl,h2,h3⟩
   |false=>rw[hi]at h3;exact⟨.exit i,T',st',q',by rw[e,h1];show Qj (Nat.beq i id) _ _=_;rw[hi];rfl,h2,h3⟩
 |loop b hb=>
  intro cc hc E R K T q st hT h
  have key: ∀n T q st,JY T q→Nat.rec (motive:=fun _=>KB) (fun _ _=>false) (fun _ ih=>runK L (EN P G N b) cc E R ih) n q st=true→
    ∃x T' st' q',Nat.rec (motive:=fun _=>Tr AV→St→Option (Ex×Tr AV×St)) (fun _ _=>none) (fun _ ih T st=>ZD (codeF P G call N L b T st) ih) n T st=some (x,T',st')∧JY T' q'∧yv x E R K q' st'=true:=by
   intro n
   induction n with
   |zero=>intro T q st hT h;cases h
   |succ n ih=>
    intro T q st hT h;obtain⟨x,T',st',q',h1,h2,h3⟩:=hb cc hc E R _ T q st hT h
    cases x with
    |nor=>
     obtain⟨x,T2,st2,q2,k1,k2,k3⟩:=ih T' q' st' h2 h3;refine⟨x,T2,st2,q2,?_,k2,k3⟩;show ZD (codeF P G call N L b T st) _=_;rw[h1];exact k1
    |exit i=>exact⟨.exit i,T',st',q',by show ZD (codeF P G call N L b T st) _=_;rw[h1];rfl,h2,h3⟩
    |ret=>exact⟨.ret,T',st',q',by show ZD (codeF P G call N L b T st) _=_;rw[h1];rfl,h2,h3⟩
  exact key L T q st hT h
 |rangeFunc g ps a b ha hb=>
  show VK _ call (runK L (yI P G N g ps.toList (Qj (U3 a) (U3 b) false) (EN P G N a) (EN P G N b)));have e:codeF P G call N L (.rangeFunc g ps a b)=WC P G N g ps.toList (Qj (U3 a) (U3 b) false) (codeF P G call N L a) (codeF P G call N L b):=rfl;rw[e];unfold yI
  split
  ·rename_i x y hps;rw[hps]
   cases hpl:Qj (U3 a) (U3 b) false with
   |false=>exact nope _
   |true=>
    refine Ji (fun d:CC=>VK _ call (runK L d)) (nope _) fun gg hg=>?_;refine OB (fun d:CC=>VK _ call (runK L d)) (nope _) fun p1 hp1=>?_;refine OB (fun d:CC=>VK _ call (runK L d)) (nope _) fun p2 hp2=>?_;intro cc hc E R K T q st hT h;exact jm hg hp1 hp2 ha hb hc hT h
  ·exact nope _
 |exit id=>intro cc hc E R K T q st hT h;exact⟨.exit id,T,st,q,rfl,hT,h⟩
 |ret=>intro cc hc E R K T q st hT h;exact⟨.ret,T,st,q,rfl,hT,h⟩
 |label id=>intro cc hc E R K T q st hT h;exact⟨.nor,T,st,q,rfl,hT,h⟩
 |_=>exact nope _

theorem vQ: ∀(l:List AV) (i:Nat) (T:Tr AV) (q:Q2) (K:KB) (st:St),JY T q→zt l i q K st=true→ ∃T' q',(∀(β:Type) (k:Tr AV→β),List.rec (motive:=fun _=>Nat→Tr AV→β) (fun(_:Nat) T=>k T) (fun v _ ih i T=>T.put i v (ih (i+1))) l i T=k T')∧JY T' q'∧K q' st=true:=by
 intro l
 induction l with
 |nil=>intro i T q K st hT h;exact⟨T,q,fun _ _=>rfl,hT,h⟩
 |cons v l ih=>
  intro i T q K st hT h;replace h:(putAt i).put q v (fun T st=>zt l (Nat.succ i) T K st) st=true:=h
  have key: ∀q K st,(putAt i).put q v K st=true→ ∃q',K q' st=true∧ ∀u,Ef u q'=if u=i then v else Ef u q:=by
   refine XO (k:=fun _ p=>Sb.mk p) (t:=i) (fun b:Sb=> ∀q K st,b.put q v K st=true→ ∃q',K q' st=true∧ ∀u,Ef u q'=if u=i then v else Ef u q) (fun _ _ _ h=>by cases h) fun g p _ hp=>?_;intro q K st h;obtain⟨q',e,hq⟩:=hp q v K st;exact⟨q',by rw[←e];exact h,hq⟩
  obtain⟨q',h1,h2⟩:=key q _ st h;obtain⟨T',q2,k1,k2,k3⟩:=ih (i+1) (T.set i v) q' K st (fun u=>by rw[UU,h2,hT u]) h1;refine⟨T',q2,fun β k=>?_,k2,k3⟩;show T.put i v _=_;rw[Tr.put_eq];exact k1 β k
theorem qu:JY .nil .zero:=by
 intro t;have e:Ux .nil t=.tup []:=rfl;rw[e];unfold Ef
 split
 ·rename_i i _
  split
  ·rename_i j _
   cases i<;>cases j<;>rfl
  ·rfl
 ·rfl
theorem ey{q:Q2}(hT:JY T q){r:ResultVar}{k:KV}(h:eA P q st r k=true): ∃v,Kf P T st r=some v∧k v=true:=by
 cases r with
 |tmp t=>exact⟨Ef t q,congrArg some (hT t),h⟩
 |cell a t=>
  obtain⟨v,h1,h2⟩:=JU h;exact⟨v,by show QF P t (Ux T a) st.h.get=_;rw[hT a];exact h1,h2⟩
theorem CS{q:Q2}(hT:JY T q): ∀(l:List ResultVar) (k:List AV→Bool),Ly P l q st k=true→ ∃vs,JB (Kf P T st) l=some vs∧k vs=true:=by
 intro l
 induction l with
 |nil=>intro k h;exact⟨[],rfl,h⟩
 |cons r l ih=>
  intro k h;replace h:eA P q st r (fun v=>Ly P l q st fun l=>k (v::l))=true:=h;obtain⟨v,h1,h⟩:=ey hT h;obtain⟨vs,h2,h⟩:=ih _ h;exact⟨v::vs,by rw[Jw,h1,Qg,h2,Qg],h⟩
theorem yu{res:List ResultVar}{q:Q2}(hT:JY T q){k:AV→St→Bool}(h:aV P res k q st=true): ∃v,QS P res T st=some v∧k v st=true:=by
 obtain⟨vs,h1,h2⟩:=CS hT res _ h;refine⟨_,?_,h2⟩;unfold QS;rw[h1,Qg]
 cases vs with
 |nil=>rfl
 |cons v t=>cases t<;>rfl
theorem yO(P:Program)(G:Env)(L:Nat): ∀fuel,UC (AU P G L fuel) (Jp P G L fuel):=by
 intro fuel
 induction fuel with
 |zero=>intro f args st k h;cases h
 |succ n ih=>
  intro f args st k h;replace h:(Option.rec (IK (wK P G f) fun q=>tl (Tl P L q (AU P G L n) args st k)) (fun sm=>IK (sm args st) fun r=>k r.1 r.2) (G.s f):Bool)=true:=h;have e0:Jp P G L (n+1) f args st=(Option.rec (ob (Hq P f) fun q=>Q6 (Nat.ble (UZ args) q.2.1) (ER args fun T=>Iv (codeF P G (Jp P G L n) q.2.1 L q.1 T st) fun T st=>ob (QS P q.2.2 T st) fun v=>some (v,st))) (fun sm=>sm args st) (G.s f):Option (AV×St)):=rfl;rw[e0]
  cases hsm:G.s f with
  |some sm=>
   rw[hsm]at h;obtain⟨⟨v,st'⟩,h1,h2⟩:=JU h;exact⟨v,st',h1,h2⟩
  |none=>
  rw[hsm]at h;obtain⟨fn,h1,h⟩:=JU h;replace h:Tl P L fn (AU P G L n) args st k=true:=h;replace h1:=Qk h1;obtain⟨q,hq,h1⟩:=h1;obtain⟨_,h1⟩:=Qp h1
  injection h1 with h1
  subst h1;show∃v st',(ob (Hq P f) fun q=>Q6 (Nat.ble (UZ args) q.2.1) (ER args fun T=>Iv (codeF P G (Jp P G L n) q.2.1 L q.1 T st) fun T st=>ob (QS P q.2.2 T st) fun v=>some (v,st)))=some (v,st')∧k v st'=true;rw[hq,Qg];unfold Tl at h;simp only at h
  cases hb:Nat.ble (UZ args) q.2.1 with
  |false=>rw[hb]at h;cases h
  |true=>
   rw[hb]at h;rw[Q7];obtain⟨T,q1,k1,k2,k3⟩:=vQ args 0 .nil .zero _ st qu h;have e: ∀(β:Type) (k:Tr AV→β),ER args k=k T:=fun β k=>k1 β k;rw[e];obtain⟨x,T',st',q',c1,c2,c3⟩:=vH P G q.2.1 L (Jp P G L n) q.1 (AU P G L n) ih _ _ _ T q1 st k2 k3;rw[c1]
   cases x with
   |exit i=>cases c3
   |nor=>
    obtain⟨v,r1,r2⟩:=yu c2 c3;refine⟨v,st',?_,r2⟩;show ob (QS P q.2.2 T' st') _=_;rw[r1];rfl
   |ret=>
    obtain⟨v,r1,r2⟩:=yu c2 c3;refine⟨v,st',?_,r2⟩;show ob (QS P q.2.2 T' st') _=_;rw[r1];rfl

theorem PD(hG0: ∀g,G.g g=false)(hE:Ea P G)(hm:P.follows .mixedOrders=true){f:FuncId}{args:List AV}{L fuel n:Nat}(hargs:YC (Tr.nil:Tr Eb).get args)(h:AU P G L fuel f args ⟨n,.nil⟩ HS=true)(w:World)(hi:G.i w:=by trivial):
  Calls P f (Qm (fun _ _=>none) args).toArray w fun e w'=>e=.returned (.bool true)∧Below w.heap.size w w':=by
 obtain⟨v,st',h1,h2⟩:=yO P _ L fuel f args _ _ h;refine IV hG0 hE hm hargs (L:=L) (fuel:=fuel) (n:=n) ?_ w hi;rw[h1]
 cases v<;>first|exact h2|cases h2

end
end Go.Proofs.YtildagdnomiahaaGreatDoor
