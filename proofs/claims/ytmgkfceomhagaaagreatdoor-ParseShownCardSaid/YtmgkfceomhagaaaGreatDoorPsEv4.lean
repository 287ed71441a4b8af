/-
  Several texts in one: XEvO, XEvP, XEvR (the swift reckoner).
-/
import Derived.Test.YtmgkfceomhagaaaGreatDoorPsEv3
set_option linter.unusedSimpArgs false
set_option linter.unusedVariables false
namespace Go.Proofs.YtmgkfceomhagaaaGreatDoor
section
open Go
set_option maxRecDepth 100000

structure Q1 where
 a0:AV
 a1:AV
 a2:AV
 a3:AV
 a4:AV
 a5:AV
 a6:AV
 a7:AV
 a8:AV
 a9:AV
 a10:AV
 a11:AV
 a12:AV
 a13:AV
 a14:AV
 a15:AV
structure Q2 where
 a0:Q1
 a1:Q1
 a2:Q1
 a3:Q1
 a4:Q1
 a5:Q1
 a6:Q1
 a7:Q1
 a8:Q1
 a9:Q1
 a10:Q1
 a11:Q1
 a12:Q1
 a13:Q1
 a14:Q1
 a15:Q1
inductive Dg where
 |d0
 |d1
 |d2
 |d3
 |d4
 |d5
 |d6
 |d7
 |d8
 |d9
 |d10
 |d11
 |d12
 |d13
 |d14
 |d15

noncomputable section
def Q1.u0:Q1→AV→(Q1→Bool)→Bool:=fun q v k=>(Q1.rec (motive:=fun _=>AV→(Q1→Bool)→Bool) (fun x0 x1 x2 x3 x4 x5 x6 x7 x8 x9 x10 x11 x12 x13 x14 x15 v k=>k (Q1.mk v x1 x2 x3 x4 x5 x6 x7 x8 x9 x10 x11 x12 x13 x14 x15))) q v k
def Q1.u1:Q1→AV→(Q1→Bool)→Bool:=fun q v k=>(Q1.rec (motive:=fun _=>AV→(Q1→Bool)→Bool) (fun x0 x1 x2 x3 x4 x5 x6 x7 x8 x9 x10 x11 x12 x13 x14 x15 v k=>k (Q1.mk x0 v x2 x3 x4 x5 x6 x7 x8 x9 x10 x11 x12 x13 x14 x15))) q v k
def Q1.u2:Q1→AV→(Q1→Bool)→Bool:=fun q v k=>(Q1.rec (motive:=fun _=>AV→(Q1→Bool)→Bool) (fun x0 x1 x2 x3 x4 x5 x6 x7 x8 x9 x10 x11 x12 x13 x14 x15 v k=>k (Q1.mk x0 x1 v x3 x4 x5 x6 x7 x8 x9 x10 x11 x12 x13 x14 x15))) q v k
def Q1.u3:Q1→AV→(Q1→Bool)→Bool:=fun q v k=>(Q1.rec (motive:=fun _=>AV→(Q1→Bool)→Bool) (fun x0 x1 x2 x3 x4 x5 x6 x7 x8 x9 x10 x11 x12 x13 x14 x15 v k=>k (Q1.mk x0 x1 x2 v x4 x5 x6 x7 x8 x9 x10 x11 x12 x13 x14 x15))) q v k
def Q1.u4:Q1→AV→(Q1→Bool)→Bool:=fun q v k=>(Q1.rec (motive:=fun _=>AV→(Q1→Bool)→Bool) (fun x0 x1 x2 x3 x4 x5 x6 x7 x8 x9 x10 x11 x12 x13 x14 x15 v k=>k (Q1.mk x0 x1 x2 x3 v x5 x6 x7 x8 x9 x10 x11 x12 x13 x14 x15))) q v k
def Q1.u5:Q1→AV→(Q1→Bool)→Bool:=fun q v k=>(Q1.rec (motive:=fun _=>AV→(Q1→Bool)→Bool) (fun x0 x1 x2 x3 x4 x5 x6 x7 x8 x9 x10 x11 x12 x13 x14 x15 v k=>k (Q1.mk x0 x1 x2 x3 x4 v x6 x7 x8 x9 x10 x11 x12 x13 x14 x15))) q v k
def Q1.u6:Q1→AV→(Q1→Bool)→Bool:=fun q v k=>(Q1.rec (motive:=fun _=>AV→(Q1→Bool)→Bool) (fun x0 x1 x2 x3 x4 x5 x6 x7 x8 x9 x10 x11 x12 x13 x14 x15 v k=>k (Q1.mk x0 x1 x2 x3 x4 x5 v x7 x8 x9 x10 x11 x12 x13 x14 x15))) q v k
def Q1.u7:Q1→AV→(Q1→Bool)→Bool:=fun q v k=>(Q1.rec (motive:=fun _=>AV→(Q1→Bool)→Bool) (fun x0 x1 x2 x3 x4 x5 x6 x7 x8 x9 x10 x11 x12 x13 x14 x15 v k=>k (Q1.mk x0 x1 x2 x3 x4 x5 x6 v x8 x9 x10 x11 x12 x13 x14 x15))) q v k
def Q1.u8:Q1→AV→(Q1→Bool)→Bool:=fun q v k=>(Q1.rec (motive:=fun _=>AV→(Q1→Bool)→Bool) (fun x0 x1 x2 x3 x4 x5 x6 x7 x8 x9 x10 x11 x12 x13 x14 x15 v k=>k (Q1.mk x0 x1 x2 x3 x4 x5 x6 x7 v x9 x10 x11 x12 x13 x14 x15))) q v k
def Q1.u9:Q1→AV→(Q1→Bool)→Bool:=fun q v k=>(Q1.rec (motive:=fun _=>AV→(Q1→Bool)→Bool) (fun x0 x1 x2 x3 x4 x5 x6 x7 x8 x9 x10 x11 x12 x13 x14 x15 v k=>k (Q1.mk x0 x1 x2 x3 x4 x5 x6 x7 x8 v x10 x11 x12 x13 x14 x15))) q v k
def Q1.ah:Q1→AV→(Q1→Bool)→Bool:=fun q v k=>(Q1.rec (motive:=fun _=>AV→(Q1→Bool)→Bool) (fun x0 x1 x2 x3 x4 x5 x6 x7 x8 x9 x10 x11 x12 x13 x14 x15 v k=>k (Q1.mk x0 x1 x2 x3 x4 x5 x6 x7 x8 x9 v x11 x12 x13 x14 x15))) q v k
def Q1.ag:Q1→AV→(Q1→Bool)→Bool:=fun q v k=>(Q1.rec (motive:=fun _=>AV→(Q1→Bool)→Bool) (fun x0 x1 x2 x3 x4 x5 x6 x7 x8 x9 x10 x11 x12 x13 x14 x15 v k=>k (Q1.mk x0 x1 x2 x3 x4 x5 x6 x7 x8 x9 x10 v x12 x13 x14 x15))) q v k
def Q1.ae:Q1→AV→(Q1→Bool)→Bool:=fun q v k=>(Q1.rec (motive:=fun _=>AV→(Q1→Bool)→Bool) (fun x0 x1 x2 x3 x4 x5 x6 x7 x8 x9 x10 x11 x12 x13 x14 x15 v k=>k (Q1.mk x0 x1 x2 x3 x4 x5 x6 x7 x8 x9 x10 x11 v x13 x14 x15))) q v k
def Q1.eZ:Q1→AV→(Q1→Bool)→Bool:=fun q v k=>(Q1.rec (motive:=fun _=>AV→(Q1→Bool)→Bool) (fun x0 x1 x2 x3 x4 x5 x6 x7 x8 x9 x10 x11 x12 x13 x14 x15 v k=>k (Q1.mk x0 x1 x2 x3 x4 x5 x6 x7 x8 x9 x10 x11 x12 v x14 x15))) q v k
def Q1.eY:Q1→AV→(Q1→Bool)→Bool:=fun q v k=>(Q1.rec (motive:=fun _=>AV→(Q1→Bool)→Bool) (fun x0 x1 x2 x3 x4 x5 x6 x7 x8 x9 x10 x11 x12 x13 x14 x15 v k=>k (Q1.mk x0 x1 x2 x3 x4 x5 x6 x7 x8 x9 x10 x11 x12 x13 v x15))) q v k
def Q1.eX:Q1→AV→(Q1→Bool)→Bool:=fun q v k=>(Q1.rec (motive:=fun _=>AV→(Q1→Bool)→Bool) (fun x0 x1 x2 x3 x4 x5 x6 x7 x8 x9 x10 x11 x12 x13 x14 x15 v k=>k (Q1.mk x0 x1 x2 x3 x4 x5 x6 x7 x8 x9 x10 x11 x12 x13 x14 v))) q v k
def Q1.at(d:Dg):Q1→AV:=Dg.rec (motive:=fun _=>Q1→AV) Q1.a0 Q1.a1 Q1.a2 Q1.a3 Q1.a4 Q1.a5 Q1.a6 Q1.a7 Q1.a8 Q1.a9 Q1.a10 Q1.a11 Q1.a12 Q1.a13 Q1.a14 Q1.a15 d
def Q1.up(d:Dg):Q1→AV→(Q1→Bool)→Bool:=Dg.rec (motive:=fun _=>Q1→AV→(Q1→Bool)→Bool) Q1.u0 Q1.u1 Q1.u2 Q1.u3 Q1.u4 Q1.u5 Q1.u6 Q1.u7 Q1.u8 Q1.u9 Q1.ah Q1.ag Q1.ae Q1.eZ Q1.eY Q1.eX d
def Q1.CD{β:Type}(d:Dg)(k:(Q1→AV)→(Q1→AV→(Q1→Bool)→Bool)→β):β:=Dg.rec (motive:=fun _=>β) (k Q1.a0 Q1.u0) (k Q1.a1 Q1.u1) (k Q1.a2 Q1.u2) (k Q1.a3 Q1.u3) (k Q1.a4 Q1.u4) (k Q1.a5 Q1.u5) (k Q1.a6 Q1.u6) (k Q1.a7 Q1.u7) (k Q1.a8 Q1.u8) (k Q1.a9 Q1.u9) (k Q1.a10 Q1.ah) (k Q1.a11 Q1.ag) (k Q1.a12 Q1.ae) (k Q1.a13 Q1.eZ) (k Q1.a14 Q1.eY) (k Q1.a15 Q1.eX) d
theorem Q1.Ni{β:Type}(d:Dg)(k:(Q1→AV)→(Q1→AV→(Q1→Bool)→Bool)→β):Q1.CD d k=k (Q1.at d) (Q1.up d):=by cases d<;>rfl
theorem Q1.Bn(d:Dg)(q:Q1)(v:AV)(k:Q1→Bool): ∃q',Q1.up d q v k=k q'∧Q1.at d q'=v∧ ∀e,e≠d→Q1.at e q'=Q1.at e q:=by
 cases d<;>exact⟨_,rfl,rfl,fun e he=>by cases e<;>first|rfl|exact absurd rfl he⟩
def Q2.u0:Q2→Q1→(Q2→Bool)→Bool:=fun q v k=>(Q2.rec (motive:=fun _=>Q1→(Q2→Bool)→Bool) (fun x0 x1 x2 x3 x4 x5 x6 x7 x8 x9 x10 x11 x12 x13 x14 x15 v k=>k (Q2.mk v x1 x2 x3 x4 x5 x6 x7 x8 x9 x10 x11 x12 x13 x14 x15))) q v k
def Q2.u1:Q2→Q1→(Q2→Bool)→Bool:=fun q v k=>(Q2.rec (motive:=fun _=>Q1→(Q2→Bool)→Bool) (fun x0 x1 x2 x3 x4 x5 x6 x7 x8 x9 x10 x11 x12 x13 x14 x15 v k=>k (Q2.mk x0 v x2 x3 x4 x5 x6 x7 x8 x9 x10 x11 x12 x13 x14 x15))) q v k
def Q2.u2:Q2→Q1→(Q2→Bool)→Bool:=fun q v k=>(Q2.rec (motive:=fun _=>Q1→(Q2→Bool)→Bool) (fun x0 x1 x2 x3 x4 x5 x6 x7 x8 x9 x10 x11 x12 x13 x14 x15 v k=>k (Q2.mk x0 x1 v x3 x4 x5 x6 x7 x8 x9 x10 x11 x12 x13 x14 x15))) q v k
def Q2.u3:Q2→Q1→(Q2→Bool)→Bool:=fun q v k=>(Q2.rec (motive:=fun _=>Q1→(Q2→Bool)→Bool) (fun x0 x1 x2 x3 x4 x5 x6 x7 x8 x9 x10 x11 x12 x13 x14 x15 v k=>k (Q2.mk x0 x1 x2 v x4 x5 x6 x7 x8 x9 x10 x11 x12 x13 x14 x15))) q v k
def Q2.u4:Q2→Q1→(Q2→Bool)→Bool:=fun q v k=>(Q2.rec (motive:=fun _=>Q1→(Q2→Bool)→Bool) (fun x0 x1 x2 x3 x4 x5 x6 x7 x8 x9 x10 x11 x12 x13 x14 x15 v k=>k (Q2.mk x0 x1 x2 x3 v x5 x6 x7 x8 x9 x10 x11 x12 x13 x14 x15))) q v k
def Q2.u5:Q2→Q1→(Q2→Bool)→Bool:=fun q v k=>(Q2.rec (motive:=fun _=>Q1→(Q2→Bool)→Bool) (fun x0 x1 x2 x3 x4 x5 x6 x7 x8 x9 x10 x11 x12 x13 x14 x15 v k=>k (Q2.mk x0 x1 x2 x3 x4 v x6 x7 x8 x9 x10 x11 x12 x13 x14 x15))) q v k
def Q2.u6:Q2→Q1→(Q2→Bool)→Bool:=fun q v k=>(Q2.rec (motive:=fun _=>Q1→(Q2→Bool)→Bool) (fun x0 x1 x2 x3 x4 x5 x6 x7 x8 x9 x10 x11 x12 x13 x14 x15 v k=>k (Q2.mk x0 x1 x2 x3 x4 x5 v x7 x8 x9 x10 x11 x12 x13 x14 x15))) q v k
def Q2.u7:Q2→Q1→(Q2→Bool)→Bool:=fun q v k=>(Q2.rec (motive:=fun _=>Q1→(Q2→Bool)→Bool) (fun x0 x1 x2 x3 x4 x5 x6 x7 x8 x9 x10 x11 x12 x13 x14 x15 v k=>k (Q2.mk x0 x1 x2 x3 x4 x5 x6 v x8 x9 x10 x11 x12 x13 x14 x15))) q v k
def Q2.u8:Q2→Q1→(Q2→Bool)→Bool:=fun q v k=>(Q2.rec (motive:=fun _=>Q1→(Q2→Bool)→Bool) (fun x0 x1 x2 x3 x4 x5 x6 x7 x8 x9 x10 x11 x12 x13 x14 x15 v k=>k (Q2.mk x0 x1 x2 x3 x4 x5 x6 x7 v x9 x10 x11 x12 x13 x14 x15))) q v k
def Q2.u9:Q2→Q1→(Q2→Bool)→Bool:=fun q v k=>(Q2.rec (motive:=fun _=>Q1→(Q2→Bool)→Bool) (fun x0 x1 x2 x3 x4 x5 x6 x7 x8 x9 x10 x11 x12 x13 x14 x15 v k=>k (Q2.mk x0 x1 x2 x3 x4 x5 x6 x7 x8 v x10 x11 x12 x13 x14 x15))) q v k
def Q2.ah:Q2→Q1→(Q2→Bool)→Bool:=fun q v k=>(Q2.rec (motive:=fun _=>Q1→(Q2→Bool)→Bool) (fun x0 x1 x2 x3 x4 x5 x6 x7 x8 x9 x10 x11 x12 x13 x14 x15 v k=>k (Q2.mk x0 x1 x2 x3 x4 x5 x6 x7 x8 x9 v x11 x12 x13 x14 x15))) q v k
def Q2.ag:Q2→Q1→(Q2→Bool)→Bool:=fun q v k=>(Q2.rec (motive:=fun _=>Q1→(Q2→Bool)→Bool) (fun x0 x1 x2 x3 x4 x5 x6 x7 x8 x9 x10 x11 x12 x13 x14 x15 v k=>k (Q2.mk x0 x1 x2 x3 x4 x5 x6 x7 x8 x9 x10 v x12 x13 x14 x15))) q v k
def Q2.ae:Q2→Q1→(Q2→Bool)→Bool:=fun q v k=>(Q2.rec (motive:=fun _=>Q1→(Q2→Bool)→Bool) (fun x0 x1 x2 x3 x4 x5 x6 x7 x8 x9 x10 x11 x12 x13 x14 x15 v k=>k (Q2.mk x0 x1 x2 x3 x4 x5 x6 x7 x8 x9 x10 x11 v x13 x14 x15))) q v k
def Q2.eZ:Q2→Q1→(Q2→Bool)→Bool:=fun q v k=>(Q2.rec (motive:=fun _=>Q1→(Q2→Bool)→Bool) (fun x0 x1 x2 x3 x4 x5 x6 x7 x8 x9 x10 x11 x12 x13 x14 x15 v k=>k (Q2.mk x0 x1 x2 x3 x4 x5 x6 x7 x8 x9 x10 x11 x12 v x14 x15))) q v k
def Q2.eY:Q2→Q1→(Q2→Bool)→Bool:=fun q v k=>(Q2.rec (motive:=fun _=>Q1→(Q2→Bool)→Bool) (fun x0 x1 x2 x3 x4 x5 x6 x7 x8 x9 x10 x11 x12 x13 x14 x15 v k=>k (Q2.mk x0 x1 x2 x3 x4 x5 x6 x7 x8 x9 x10 x11 x12 x13 v x15))) q v k
def Q2.eX:Q2→Q1→(Q2→Bool)→Bool:=fun q v k=>(Q2.rec (motive:=fun _=>Q1→(Q2→Bool)→Bool) (fun x0 x1 x2 x3 x4 x5 x6 x7 x8 x9 x10 x11 x12 x13 x14 x15 v k=>k (Q2.mk x0 x1 x2 x3 x4 x5 x6 x7 x8 x9 x10 x11 x12 x13 x14 v))) q v k
def Q2.at(d:Dg):Q2→Q1:=Dg.rec (motive:=fun _=>Q2→Q1) Q2.a0 Q2.a1 Q2.a2 Q2.a3 Q2.a4 Q2.a5 Q2.a6 Q2.a7 Q2.a8 Q2.a9 Q2.a10 Q2.a11 Q2.a12 Q2.a13 Q2.a14 Q2.a15 d
def Q2.up(d:Dg):Q2→Q1→(Q2→Bool)→Bool:=Dg.rec (motive:=fun _=>Q2→Q1→(Q2→Bool)→Bool) Q2.u0 Q2.u1 Q2.u2 Q2.u3 Q2.u4 Q2.u5 Q2.u6 Q2.u7 Q2.u8 Q2.u9 Q2.ah Q2.ag Q2.ae Q2.eZ Q2.eY Q2.eX d
def Q2.CD{β:Type}(d:Dg)(k:(Q2→Q1)→(Q2→Q1→(Q2→Bool)→Bool)→β):β:=Dg.rec (motive:=fun _=>β) (k Q2.a0 Q2.u0) (k Q2.a1 Q2.u1) (k Q2.a2 Q2.u2) (k Q2.a3 Q2.u3) (k Q2.a4 Q2.u4) (k Q2.a5 Q2.u5) (k Q2.a6 Q2.u6) (k Q2.a7 Q2.u7) (k Q2.a8 Q2.u8) (k Q2.a9 Q2.u9) (k Q2.a10 Q2.ah) (k Q2.a11 Q2.ag) (k Q2.a12 Q2.ae) (k Q2.a13 Q2.eZ) (k Q2.a14 Q2.eY) (k Q2.a15 Q2.eX) d
theorem Q2.Ni{β:Type}(d:Dg)(k:(Q2→Q1)→(Q2→Q1→(Q2→Bool)→Bool)→β):Q2.CD d k=k (Q2.at d) (Q2.up d):=by cases d<;>rfl
theorem Q2.Bn(d:Dg)(q:Q2)(v:Q1)(k:Q2→Bool): ∃q',Q2.up d q v k=k q'∧Q2.at d q'=v∧ ∀e,e≠d→Q2.at e q'=Q2.at e q:=by
 cases d<;>exact⟨_,rfl,rfl,fun e he=>by cases e<;>first|rfl|exact absurd rfl he⟩

def Gf(n:Nat):Option Dg:=match n with
 |0=>some .d0
 |1=>some .d1
 |2=>some .d2
 |3=>some .d3
 |4=>some .d4
 |5=>some .d5
 |6=>some .d6
 |7=>some .d7
 |8=>some .d8
 |9=>some .d9
 |10=>some .d10
 |11=>some .d11
 |12=>some .d12
 |13=>some .d13
 |14=>some .d14
 |15=>some .d15
 |_=>none
def Dg.num(d:Dg):Nat:=match d with
 |.d0=>0
 |.d1=>1
 |.d2=>2
 |.d3=>3
 |.d4=>4
 |.d5=>5
 |.d6=>6
 |.d7=>7
 |.d8=>8
 |.d9=>9
 |.d10=>10
 |.d11=>11
 |.d12=>12
 |.d13=>13
 |.d14=>14
 |.d15=>15
theorem LZ{n:Nat}{d:Dg}(h:Gf n=some d):n=d.num:=by
 unfold Gf at h
 split at h<;>first|(injection h with h;subst h;rfl)|cases h
theorem Dg.Tc{d e:Dg}(h:d.num=e.num):d=e:=by cases d<;>cases e<;>first|rfl|(simp[Dg.num]at h;done)

abbrev KB:=Q2→St→Bool
abbrev X3:=FuncId→List AV→St→(AV→St→Bool)→Bool
abbrev Bi:=X3→KB→Q2→St→Bool
abbrev HZ:=Q2→AV→KB→St→Bool
abbrev KV:=AV→Bool
structure CI where
 run:Bi
def Ax(t:Nat)(q:Q2):AV:=match Gf (t/16)with
 |some i=>(match Gf (t % 16)with
  |some j=>Q1.at j (Q2.at i q)
  |none=>.tup [])
 |none=>.tup []
def ix(g1:Q1→AV)(g2:Q2→Q1):Q2→AV:=fun T=>g1 (g2 T)
def ya:AV→KV→Bool:=AV.rec (motive_1:=fun _=>KV→Bool) (motive_2:=fun _=>Unit) (fun b k=>k (.bool b)) (fun j n k=>k (.int j n)) (fun l k=>k (.str l)) (fun k=>k .nilp) (fun c m o k=>k (.ptr c m o)) (fun k=>k .nils) (fun c m o l z k=>k (.sl c m o l z)) (fun c m o a z k=>k (.slz c m o a z)) (fun b o s k=>k (.sl0 b o s)) (fun f a c _ _ k=>k (.fn f a c)) (fun k=>k .nilf) (fun t v _ k=>k (.ifc t v)) (fun k=>k .nili) (fun c k=>k (.mp c)) (fun k=>k .nilm) (fun l _ k=>k (.agg l)) (fun l _ k=>k (.tup l)) () (fun _ _ _ _=>())
theorem MO(v:AV)(k:KV):ya v k=k v:=by cases v<;>rfl
def ig(u1:Q1→AV→(Q1→Bool)→Bool)(g2:Q2→Q1)(u2:Q2→Q1→(Q2→Bool)→Bool):HZ:=fun T v K st=>ya v fun v=>u1 (g2 T) v fun q=>u2 T q fun T=>K T st
def Eb{β:Type}(t:Nat)(bad:β)(k:(Q2→AV)→HZ→β):β:=match Gf (t/16)with
 |some i=>(match Gf (t % 16)with
  |some j=>Q1.CD j fun g1 u1=>Q2.CD i fun g2 u2=>k (ix g1 g2) (ig u1 g2 u2)
  |none=>bad)
 |none=>bad
def eA:Bi:=fun _ _ _ _=>false
def UE:CI:=⟨eA⟩
def YP{β:Type}(G:Env)(x:Operand)(bad:β)(k:(Q2→AV)→β):β:=match x with
 |.tmp t=>Eb t bad fun g _=>k g
 |.const v=>Option.rec bad (fun a=>k (fun _=>a)) (ofConst v)
 |.global g=>Qs (G.g g) (k (fun _=>.ptr g 0 0)) bad
 |.func f=>k (fun _=>.fn f [] [])
def Sy(N:Nat)(d:Option Nat)(k:HZ→CI):CI:=match d with
 |none=>k (fun T _ K st=>K T st)
 |some t=>Qs (Nat.ble (t+1) N) (Eb t UE fun _ p=>k p) UE
def Kq{β:Type}(G:Env)(bad:β)(l:List Operand):(List (Q2→AV)→β)→β:=List.rec (fun k=>k []) (fun x _ ih k=>YP G x bad fun g=>ih fun gs=>k (g::gs)) l
def Dl(gs:List (Q2→AV)):Q2→(List AV→Bool)→Bool:=List.rec (fun _ k=>k []) (fun g _ ih T k=>ih T fun l=>k (g T::l)) gs
def iV(G:Env)(q:Q2)(x:Operand):Option AV:=match x with
 |.tmp t=>some (Ax t q)
 |.const v=>ofConst v
 |.global g=>Jm (G.g g) (some (.ptr g 0 0))
 |.func f=>some (.fn f [] [])
def Lm{α:Type}(x:Option α)(k:α→Bool):Bool:=Option.rec false k x

def iX(g:Q2→AV)(p:HZ):Bi:=fun _ K T st=>p T (g T) K st
def eI(f:AV→KV→Bool)(g:Q2→AV)(p:HZ):Bi:=fun _ K T st=>f (g T) fun v=>p T v K st
def iJ(f:AV→AV→KV→Bool)(g h:Q2→AV)(p:HZ):Bi:=fun _ K T st=>f (g T) (h T) fun v=>p T v K st
def kA(f:AV→St→KV→Bool)(g:Q2→AV)(p:HZ):Bi:=fun _ K T st=>f (g T) st fun v=>p T v K st
def kq(f:AV→AV→St→(AV→St→Bool)→Bool)(g h:Q2→AV)(p:HZ):Bi:=fun _ K T st=>f (g T) (h T) st fun v st=>p T v K st
def kG(f:St→(AV→St→Bool)→Bool)(p:HZ):Bi:=fun _ K T st=>f st fun v st=>p T v K st
def vj:AV→AV→AV→KV→Bool:=(AV.rec (motive_1:=fun _=>AV→AV→KV→Bool) (motive_2:=fun _=>Unit) (fun b x y k=>Bool.rec (k y) (k x) b) ((fun _ _=>fun _ _ _=>false)) ((fun _=>fun _ _ _=>false)) (fun _ _ _=>false) ((fun _ _ _=>fun _ _ _=>false)) (fun _ _ _=>false) ((fun _ _ _ _ _=>fun _ _ _=>false)) ((fun _ _ _ _ _=>fun _ _ _=>false)) ((fun _ _ _=>fun _ _ _=>false)) ((fun _ _ _ _ _=>fun _ _ _=>false)) (fun _ _ _=>false) ((fun _ _ _=>fun _ _ _=>false)) (fun _ _ _=>false) ((fun _=>fun _ _ _=>false)) (fun _ _ _=>false) ((fun _ _=>fun _ _ _=>false)) ((fun _ _=>fun _ _ _=>false)) () (fun _ _ _ _=>()))
def ku(f g h:Q2→AV)(p:HZ):Bi:=fun _ K T st=>vj (f T) (g T) (h T) fun v=>p T v K st
def fp(f:FuncId)(gs:List (Q2→AV))(p:HZ):Bi:=fun cc K T st=>Dl gs T fun l=>cc f l st fun v st=>p T v K st
def vA:AV→X3→List AV→St→(AV→St→Bool)→Bool:=(AV.rec (motive_1:=fun _=>X3→List AV→St→(AV→St→Bool)→Bool) (motive_2:=fun _=>Unit) ((fun _=>fun _ _ _ _=>false)) ((fun _ _=>fun _ _ _ _=>false)) ((fun _=>fun _ _ _ _=>false)) (fun _ _ _ _=>false) ((fun _ _ _=>fun _ _ _ _=>false)) (fun _ _ _ _=>false) ((fun _ _ _ _ _=>fun _ _ _ _=>false)) ((fun _ _ _ _ _=>fun _ _ _ _=>false)) ((fun _ _ _=>fun _ _ _ _=>false)) (fun f a cap _ _ cc l st k=>cc f (ZQ a (ZQ l cap)) st k) (fun _ _ _ _=>false) ((fun _ _ _=>fun _ _ _ _=>false)) (fun _ _ _ _=>false) ((fun _=>fun _ _ _ _=>false)) (fun _ _ _ _=>false) ((fun _ _=>fun _ _ _ _=>false)) ((fun _ _=>fun _ _ _ _=>false)) () (fun _ _ _ _=>()))
def yI(g:Q2→AV)(gs:List (Q2→AV))(p:HZ):Bi:=fun cc K T st=>Dl gs T fun l=>vA (g T) cc l st fun v st=>p T v K st
def fe(P:Program)(name:String)(v:AV)(cc:X3)(l:List AV)(st:St)(k:AV→St→Bool):Bool:=match v with
 |.ifc t u=>Lm (Ln P t name) fun fid=>cc fid (u::l) st k
 |_=>false
def iu(P:Program)(name:String)(g:Q2→AV)(gs:List (Q2→AV))(p:HZ):Bi:=fun cc K T st=>Dl gs T fun l=>fe P name (g T) cc l st fun v st=>p T v K st
def qG:AV→Bool→Bool→Bool→Bool:=(AV.rec (motive_1:=fun _=>Bool→Bool→Bool→Bool) (motive_2:=fun _=>Unit) (fun b pol x y=>Bool.rec (Bool.rec x y pol) (Bool.rec y x pol) b) ((fun _ _=>fun _ _ y=>y)) ((fun _=>fun _ _ y=>y)) (fun _ _ y=>y) ((fun _ _ _=>fun _ _ y=>y)) (fun _ _ y=>y) ((fun _ _ _ _ _=>fun _ _ y=>y)) ((fun _ _ _ _ _=>fun _ _ y=>y)) ((fun _ _ _=>fun _ _ y=>y)) ((fun _ _ _ _ _=>fun _ _ y=>y)) (fun _ _ y=>y) ((fun _ _ _=>fun _ _ y=>y)) (fun _ _ y=>y) ((fun _=>fun _ _ y=>y)) (fun _ _ y=>y) ((fun _ _=>fun _ _ y=>y)) ((fun _ _=>fun _ _ y=>y)) () (fun _ _ _ _=>()))
def kh(g:Q2→AV)(pol:Bool)(r:Bi)(p:HZ):Bi:=fun cc K T st=>qG (g T) pol (r cc K T st) (p T (.tup []) K st)
def MN(P:Program)(G:Env)(o:Op)(p:HZ):Bi:=fun _ K T st=>Lm (qB P (iV G T) o st) fun r=>p T r.1 K r.2

def Tr.iy{α:Type}(t:Tr α):Nat→Option α:=
 Tr.rec (fun _=>none) (fun v _ _ gl gr n=>Bool.rec (Bool.rec (gr (Nat.div n 2)) (gl (Nat.div n 2)) (Nat.beq (Nat.mod n 2) 0)) v (Nat.beq n 0)) t
abbrev Wh:=List AV→Nat→KV→Bool
def zU(n:Nat):Wh:=fun l off k=>Lm (W7 n (Ej off l) fun r=>some (.agg r)) k
def zT:Wh:=fun l off k=>Lm (nth l off) k
def AG{β:Type}(P:Program)(t:TypeId)(bad:β)(k:Wh→β):β:=match tk P t with
 |.agg n=>k (zU n)
 |.one=>k zT
 |.bad=>bad
def vo(ro:Bool)(ms:List (Nat×Nat×Option (List AV)))(m off:Nat)(pt:Wh)(k:KV):Bool:=Lm (nth ms m) fun x=>Lm x.2.2 fun l=>pt l off k
def aZ:Ia→Nat→Nat→Wh→KV→Bool:=Ia.rec (motive:=fun _=>Nat→Nat→Wh→KV→Bool) vo (fun _ _ _ _ _ _ _=>false) (fun _ _ _ _ _ _=>false)
def vp:Option Ia→Nat→Nat→Wh→KV→Bool:=Option.rec (motive:=fun _=>Nat→Nat→Wh→KV→Bool) (fun _ _ _ _=>false) aZ
def GH(pt:Wh):AV→St→KV→Bool:=fun x st k=>(AV.rec (motive_1:=fun _=>St→Wh→KV→Bool) (motive_2:=fun _=>Unit) ((fun _=>fun _ _ _=>false)) ((fun _ _=>fun _ _ _=>false)) ((fun _=>fun _ _ _=>false)) (fun _ _ _=>false) (fun c m off st pt k=>vp (Tr.iy st.h c) m off pt k) (fun _ _ _=>false) ((fun _ _ _ _ _=>fun _ _ _=>false)) ((fun _ _ _ _ _=>fun _ _ _=>false)) ((fun _ _ _=>fun _ _ _=>false)) ((fun _ _ _ _ _=>fun _ _ _=>false)) (fun _ _ _=>false) ((fun _ _ _=>fun _ _ _=>false)) (fun _ _ _=>false) ((fun _=>fun _ _ _=>false)) (fun _ _ _=>false) ((fun _ _=>fun _ _ _=>false)) ((fun _ _=>fun _ _ _=>false)) () (fun _ _ _ _=>())) x st pt k
def iA(o:Nat):AV→KV→Bool:=fun x k=>(AV.rec (motive_1:=fun _=>Nat→KV→Bool) (motive_2:=fun _=>Unit) ((fun _=>fun _ _=>false)) ((fun _ _=>fun _ _=>false)) ((fun _=>fun _ _=>false)) (fun _ _=>false) (fun c m off o k=>Yw (Nat.add off o) fun z=>k (.ptr c m z)) (fun _ _=>false) ((fun _ _ _ _ _=>fun _ _=>false)) ((fun _ _ _ _ _=>fun _ _=>false)) ((fun _ _ _=>fun _ _=>false)) ((fun _ _ _ _ _=>fun _ _=>false)) (fun _ _=>false) ((fun _ _ _=>fun _ _=>false)) (fun _ _=>false) ((fun _=>fun _ _=>false)) (fun _ _=>false) ((fun _ _=>fun _ _=>false)) ((fun _ _=>fun _ _=>false)) () (fun _ _ _ _=>())) x o k
def iW:AV→KV→Bool:=(AV.rec (motive_1:=fun _=>KV→Bool) (motive_2:=fun _=>Unit) ((fun _=>fun _=>false)) ((fun _ _=>fun _=>false)) ((fun _=>fun _=>false)) (fun _=>false) (fun c m off k=>k (.ptr c m off)) (fun _=>false) ((fun _ _ _ _ _=>fun _=>false)) ((fun _ _ _ _ _=>fun _=>false)) ((fun _ _ _=>fun _=>false)) (fun f a c _ _ k=>k (.fn f a c)) (fun _=>false) ((fun _ _ _=>fun _=>false)) (fun _=>false) ((fun _=>fun _=>false)) (fun _=>false) ((fun _ _=>fun _=>false)) ((fun _ _=>fun _=>false)) () (fun _ _ _ _=>()))
def vY(P:Program)(t:TypeId):AV→AV→St→(AV→St→Bool)→Bool:=fun x y st k=>Lm (ER P t x y st) fun r=>k r.1 r.2
def eF(P:Program)(t:TypeId):St→(AV→St→Bool)→Bool:=fun st k=>Lm (Ar P t st) fun r=>k r.1 r.2
def kD(P:Program)(t:TypeId):AV→AV→KV→Bool:=fun x y k=>Lm (Yi P t x y) k
def kC(P:Program)(t:TypeId):AV→AV→KV→Bool:=fun x y k=>Lm (Hz P t x y) k
def ki(i:Nat):AV→KV→Bool:=fun x k=>(AV.rec (motive_1:=fun _=>Nat→KV→Bool) (motive_2:=fun _=>Unit) ((fun _=>fun _ _=>false)) ((fun _ _=>fun _ _=>false)) ((fun _=>fun _ _=>false)) (fun _ _=>false) ((fun _ _ _=>fun _ _=>false)) (fun _ _=>false) ((fun _ _ _ _ _=>fun _ _=>false)) ((fun _ _ _ _ _=>fun _ _=>false)) ((fun _ _ _=>fun _ _=>false)) ((fun _ _ _ _ _=>fun _ _=>false)) (fun _ _=>false) ((fun _ _ _=>fun _ _=>false)) (fun _ _=>false) ((fun _=>fun _ _=>false)) (fun _ _=>false) ((fun _ _=>fun _ _=>false)) (fun l _ i k=>Lm (nth l i) k) () (fun _ _ _ _=>())) x i k
def aY(P:Program)(ts:List TypeId):AV→KV→Bool:=fun x k=>Lm (IE P ts x) k

def uM{α:Type}(k:IntKind)(x z:α):α:=IntKind.rec (motive:=fun _=>α→α→α) (fun _ z=>z) (fun _ z=>z) (fun _ z=>z) (fun x _=>x) (fun _ z=>z) (fun _ z=>z) (fun _ z=>z) (fun _ z=>z) k x z
def ff(f:Int→Int→KV→Bool→Bool):AV→AV→KV→Bool→Bool:=fun x y k z=>
 (AV.rec (motive_1:=fun _=>AV→(Int→Int→KV→Bool→Bool)→KV→Bool→Bool) (motive_2:=fun _=>Unit) ((fun _=>fun _ _ _ z=>z)) (fun j a y f k z=>(AV.rec (motive_1:=fun _=>IntKind→Int→(Int→Int→KV→Bool→Bool)→KV→Bool→Bool) (motive_2:=fun _=>Unit) ((fun _=>fun _ _ _ _ z=>z)) (fun i b j a f k z=>uM j (uM i (f a b k z) z) z) ((fun _=>fun _ _ _ _ z=>z)) (fun _ _ _ _ z=>z) ((fun _ _ _=>fun _ _ _ _ z=>z)) (fun _ _ _ _ z=>z) ((fun _ _ _ _ _=>fun _ _ _ _ z=>z)) ((fun _ _ _ _ _=>fun _ _ _ _ z=>z)) ((fun _ _ _=>fun _ _ _ _ z=>z)) ((fun _ _ _ _ _=>fun _ _ _ _ z=>z)) (fun _ _ _ _ z=>z) ((fun _ _ _=>fun _ _ _ _ z=>z)) (fun _ _ _ _ z=>z) ((fun _=>fun _ _ _ _ z=>z)) (fun _ _ _ _ z=>z) ((fun _ _=>fun _ _ _ _ z=>z)) ((fun _ _=>fun _ _ _ _ z=>z)) () (fun _ _ _ _=>())) y j a f k z) ((fun _=>fun _ _ _ z=>z)) (fun _ _ _ z=>z) ((fun _ _ _=>fun _ _ _ z=>z)) (fun _ _ _ z=>z) ((fun _ _ _ _ _=>fun _ _ _ z=>z)) ((fun _ _ _ _ _=>fun _ _ _ z=>z)) ((fun _ _ _=>fun _ _ _ z=>z)) ((fun _ _ _ _ _=>fun _ _ _ z=>z)) (fun _ _ _ z=>z) ((fun _ _ _=>fun _ _ _ z=>z)) (fun _ _ _ z=>z) ((fun _=>fun _ _ _ z=>z)) (fun _ _ _ z=>z) ((fun _ _=>fun _ _ _ z=>z)) ((fun _ _=>fun _ _ _ z=>z)) () (fun _ _ _ _=>())) x y f k z
def iB:Int→Int→KV→Bool→Bool:=fun a b k z=>k (.bool (LY a b))
def il:Int→Int→KV→Bool→Bool:=fun a b k z=>k (.bool (!LY a b))
def im:Int→Int→KV→Bool→Bool:=fun a b k z=>k (.bool (GG a b))
def iq:Int→Int→KV→Bool→Bool:=fun a b k z=>k (.bool (!GG b a))
def iw:Int→Int→KV→Bool→Bool:=fun a b k z=>k (.bool (GG b a))
def iz:Int→Int→KV→Bool→Bool:=fun a b k z=>k (.bool (!GG a b))
def fD:Int→Int→KV→Bool→Bool:=fun a b k z=>Int.rec (motive:=fun _=>Int→KV→Bool→Bool) (fun m b k z=>Int.rec (motive:=fun _=>Nat→KV→Bool→Bool) (fun n m k z=>Bool.rec z (Yw (Nat.add m n) fun s=>k (.int .i64 (Int.ofNat s))) (Nat.ble (Nat.add m n) ZV)) (fun _ _ _ z=>z) b m k z) (fun _ _ _ z=>z) a b k z
def Cy(P:Program)(op:BinOp)(t:TypeId):AV→AV→KV→Bool:=fun x y k=>Lm (b2 P op t x y) k
def P5(f:Int→Int→KV→Bool→Bool)(g:AV→AV→KV→Bool):AV→AV→KV→Bool:=fun x y k=>ff f x y k (g x y k)
def fA(P:Program)(op:BinOp)(t:TypeId):AV→AV→KV→Bool:=match op with
 |.eql=>P5 iB (Cy P op t)
 |.neq=>P5 il (Cy P op t)
 |.lss=>P5 im (Cy P op t)
 |.leq=>P5 iq (Cy P op t)
 |.gtr=>P5 iw (Cy P op t)
 |.geq=>P5 iz (Cy P op t)
 |.add=>P5 fD (Cy P op t)
 |_=>Cy P op t

def uP(P:Program)(G:Env)(o:Op)(p:HZ):CI:=match o with
 |.move x=>YP G x UE fun g=>⟨iX g p⟩
 |.assign x=>YP G x UE fun g=>⟨iX g p⟩
 |.pick c a b=>YP G c UE fun f=>YP G a UE fun g=>YP G b UE fun h=>⟨ku f g h p⟩
 |.alloc t=>⟨kG (eF P t) p⟩
 |.load t a=>AG P t UE fun pt=>YP G a UE fun g=>⟨kA (GH pt) g p⟩
 |.store t a v=>YP G a UE fun g=>YP G v UE fun h=>⟨kq (vY P t) g h p⟩
 |.nilCheck x=>YP G x UE fun g=>⟨eI iW g p⟩
 |.binOp op t x y _=>YP G x UE fun g=>YP G y UE fun h=>⟨iJ (fA P op t) g h p⟩
 |.fieldAddr t x f=>YP G x UE fun g=>Option.rec UE (fun off=>Yw off fun off=>⟨eI (iA off) g p⟩) (Jw P t f)
 |.indexAddr t x i=>YP G x UE fun g=>YP G i UE fun h=>⟨iJ (kD P t) g h p⟩
 |.index t x i=>YP G x UE fun g=>YP G i UE fun h=>⟨iJ (kC P t) g h p⟩
 |.extract t i=>YP G t UE fun g=>⟨eI (ki i) g p⟩
 |.call c=>(match c.callee with
  |.value f=>(match f with
   |.func f=>Kq G UE c.args.toList fun gs=>⟨fp f gs p⟩
   |x=>YP G x UE fun g=>Kq G UE c.args.toList fun gs=>⟨yI g gs p⟩)
  |.invoke x name=>YP G x UE fun g=>Kq G UE c.args.toList fun gs=>⟨iu P name g gs p⟩
  |.builtin b=>(match b with
   |.len=>(match c.args.toList with
    |x::[]=>Qs (XF P c.argTypes.toList) ⟨MN P G o p⟩ (YP G x UE fun g=>⟨eI (aY P c.argTypes.toList) g p⟩)
    |_=>UE)
   |_=>⟨MN P G o p⟩))
 |_=>⟨MN P G o p⟩
def Oa(ops:List Oper)(o:Oper)(p:HZ)(c:CI):CI:=match o.guard with
 |none=>c
 |some g=>(match YS ops g.1 with
  |some t=>Eb t UE fun gt _=>⟨kh gt g.2 c.run p⟩
  |none=>⟨fun _ K T st=>p T (.tup []) K st⟩)
def O2(P:Program)(G:Env)(N:Nat)(ops:List Oper)(o:Oper):CI:=Sy N o.dst fun p=>Oa ops o p (uP P G o.op p)
def wv(l:List CI):X3→KB→KB:=List.rec (motive:=fun _=>X3→KB→KB) (fun _ K T st=>K T st) (fun i _ ih cc K T st=>i.run cc (ih cc K) T st) l

inductive DI where
 |plain (c:CI)
 |act (c:CI)
 |read (f:List St→Bi)
def C6(pt:Wh)(x v:AV)(n:Nat):List St→Bool:=Nat.rec (fun _=>true) (fun _ ih l=>List.rec false (fun st t _=>Qs (GH pt x st fun u=>LW u v) (ih t) false) l) n
def iU(pt:Wh)(n:Nat)(g:Q2→AV)(p:HZ)(sn:List St):Bi:=fun _ K T st=>GH pt (g T) st fun v=>Bool.rec false (p T v K st) (C6 pt (g T) v n (List.rec [] (fun _ t _=>t) sn))
def GX(P:Program)(G:Env)(N:Nat)(ops:List Oper)(q:Nat×Oper×Nat):DI:=
 Qs (Nat.beq q.2.2 0) (Qs (Nat.beq (QZ P q.2.1.op) 3) (.act (O2 P G N ops q.2.1)) (.plain (O2 P G N ops q.2.1)))
  (match q.2.1.op with
  |.load t a=>.read fun sn=>CI.run (Sy N q.2.1.dst fun p=>Oa ops q.2.1 p (AG P t UE fun pt=>YP G a UE fun g=>⟨iU pt q.2.2 g p sn⟩))
  |_=>.plain UE)
def yD(c:CI):(List St→KB)→X3→List St→KB:=fun kk cc sn T st=>c.run cc (kk sn) T st
def fl(c:CI):(List St→KB)→X3→List St→KB:=fun kk cc sn T st=>c.run cc (fun T st=>kk (st::sn) T st) T st
def vv(f:List St→Bi):(List St→KB)→X3→List St→KB:=fun kk cc sn T st=>f sn cc (kk sn) T st
def wi(l:List DI):X3→KB→List St→KB:=List.rec (motive:=fun _=>X3→KB→List St→KB) (fun _ K _ T st=>K T st) (fun i _ ih cc K sn T st=>DI.rec (motive:=fun _=>(List St→KB)→X3→List St→KB) yD fl vv i (ih cc K) cc sn T st) l

inductive CC where
 |skip
 |reg (l:List CI)
 |Ep (l:List DI)
 |seq (a b:CC)
 |cond (g:Q2→AV) (a b:CC)
 |block (id:Nat) (b:CC)
 |loop (b:CC)
 |range (hd:AV→St→(Nat→(Nat→St→KV→Bool)→Bool)→Bool) (g:Q2→AV) (p1 p2:HZ) (a b:CC)
 |exit (id:Nat)
 |ret
 |bad
def Bm{β:Type}(N:Nat)(t:Nat)(bad:β)(k:HZ→β):β:=Qs (Nat.ble (t+1) N) (Eb t bad fun _ p=>k p) bad
def uW(n:Int)(k:Nat→Bool):Bool:=Int.rec (fun n=>Bool.rec false (k n) (Nat.ble n ZV)) (fun _=>false) n
def fP(P:Program)(q:TypeId×TypeId)(x:AV):Nat→St→KV→Bool:=fun i st kv=>Lm (J3 P q.1 x st.h.get) fun s=>Lm (Yi P q.1 s (.int .i64 (Int.ofNat i))) fun a=>Lm (J3 P q.2 a st.h.get) kv
def fO(P:Program)(G:Env):AV→St→(Nat→(Nat→St→KV→Bool)→Bool)→Bool:=fun v st k=>match v with
 |.fn f first cap=>Lm (G.b f) fun q=>(match first with
  |[]=>(match cap with
   |x::[]=>Lm (J3 P q.1 x st.h.get) fun s=>Lm (IE P [q.1] s) fun n=>(match n with
    |.int _ n=>uW n fun n=>k n (fP P q x)
    |_=>false)
   |_=>false)
  |_=>false)
 |_=>false
def yE(P:Program)(G:Env)(N:Nat)(g:Operand)(ps:List Tmp)(pl:Bool)(a b:CC):CC:=match ps with
 |x::y::[]=>Qs pl (YP G g .bad fun gg=>Bm N x .bad fun p1=>Bm N y .bad fun p2=>.range (fO P G) gg p1 p2 a b) .bad
 |_=>.bad
def Fl(P:Program)(G:Env)(N:Nat)(c:Code):CC:=Code.rec (motive:=fun _=>CC)
 .skip
 (fun _ ops draw=>Qs draw (Option.rec .bad (fun pl=>.Ep (KG (GX P G N ops.toList) pl)) (Va P ops.toList)) (.reg (KG (O2 P G N ops.toList) ops.toList)))
 (fun _ _ a b=>.seq a b)
 (fun c _ _ a b=>YP G c .bad fun g=>.cond g a b)
 (fun id _ f=>.block id f)
 (fun _ f=>.loop f)
 (fun g ps x y a b=>yE P G N g ps.toList (Qs (Zc x) (Zc y) false) a b)
 (fun id=>.exit id)
 (fun _ _=>.bad)
 (fun _=>.skip)
 (fun _=>.bad)
 .ret
 (fun _=>.bad)
 c
def vw:AV→KB→KB→Q2→St→Bool:=(AV.rec (motive_1:=fun _=>KB→KB→Q2→St→Bool) (motive_2:=fun _=>Unit) (fun b x y T st=>Bool.rec (y T st) (x T st) b) ((fun _ _=>fun _ _ _ _=>false)) ((fun _=>fun _ _ _ _=>false)) (fun _ _ _ _=>false) ((fun _ _ _=>fun _ _ _ _=>false)) (fun _ _ _ _=>false) ((fun _ _ _ _ _=>fun _ _ _ _=>false)) ((fun _ _ _ _ _=>fun _ _ _ _=>false)) ((fun _ _ _=>fun _ _ _ _=>false)) ((fun _ _ _ _ _=>fun _ _ _ _=>false)) (fun _ _ _ _=>false) ((fun _ _ _=>fun _ _ _ _=>false)) (fun _ _ _ _=>false) ((fun _=>fun _ _ _ _=>false)) (fun _ _ _ _=>false) ((fun _ _=>fun _ _ _ _=>false)) ((fun _ _=>fun _ _ _ _=>false)) () (fun _ _ _ _=>()))
abbrev Vp:=X3→(Nat→KB)→KB→KB→KB
def fq:Vp:=fun _ _ _ K T st=>K T st
def iH(l:List CI):Vp:=fun cc _ _ K T st=>wv l cc K T st
def fu(l:List DI):Vp:=fun cc _ _ K T st=>wi l cc K [st] T st
def iF(_ _:CC)(f g:Vp):Vp:=fun cc E R K T st=>f cc E R (g cc E R K) T st
def fy(g:Q2→AV)(_ _:CC)(a b:Vp):Vp:=fun cc E R K T st=>vw (g T) (a cc E R K) (b cc E R K) T st
def e8(id:Nat)(_:CC)(f:Vp):Vp:=fun cc E R K T st=>f cc (fun i=>Qs (Nat.beq i id) K (E i)) R K T st
def fv(L:Nat)(_:CC)(f:Vp):Vp:=fun cc E R K T st=>Nat.rec (motive:=fun _=>KB) (fun _ _=>false) (fun _ ih=>f cc E R ih) L T st
def e7(hd:AV→St→(Nat→(Nat→St→KV→Bool)→Bool)→Bool)(g:Q2→AV)(p1 p2:HZ)(_ _:CC)(fa fb:Vp):Vp:=fun cc E R K T st=>hd (g T) st fun n el=>
 Nat.rec (motive:=fun _=>St→Bool) (fun st=>K T st) (fun i ih st=>el i st fun v=>p1 T (.int .i64 (Int.ofNat i)) (fun T1 st=>p2 T1 v (fun T2 st=>fa cc (fun _ _ _=>false) (fun _ _=>false) (fun T3 st=>fb cc (fun id _ st=>E id T st) (fun _ st=>R T st) (fun _ st=>tl (ih st)) T3 st) T2 st) st) st) n st
def fx(id:Nat):Vp:=fun _ E _ _ T st=>E id T st
def iG:Vp:=fun _ _ R _ T st=>R T st
def iI:Vp:=fun _ _ _ _ _ _=>false
def runK(L:Nat)(c:CC):Vp:=CC.rec (motive:=fun _=>Vp) fq iH fu iF fy e8 (fv L) e7 fx iG iI c

structure FN where
 code:CC
 n:Nat
 res:List ResultVar
def vy(P:Program)(G:Env)(f:FuncId):Option FN:=ob (IU P f) fun q=>Jm (Nat.ble q.2.1 256) (some ⟨Fl P G q.2.1 q.1,q.2.1,q.2.2⟩)
def q0:AV:=.tup []
def Q1.zero:Q1:=⟨q0,q0,q0,q0,q0,q0,q0,q0,q0,q0,q0,q0,q0,q0,q0,q0⟩
def Q2.zero:Q2:=⟨.zero,.zero,.zero,.zero,.zero,.zero,.zero,.zero,.zero,.zero,.zero,.zero,.zero,.zero,.zero,.zero⟩
structure Sr where
 put:HZ
def putAt(t:Nat):Sr:=Eb t ⟨fun _ _ _ _=>false⟩ fun _ p=>⟨p⟩
def yZ(l:List AV):Nat→Q2→KB→St→Bool:=List.rec (motive:=fun _=>Nat→Q2→KB→St→Bool) (fun _ T K st=>K T st) (fun v _ ih i T K st=>(putAt i).put T v (fun T st=>ih (Nat.succ i) T K st) st) l
def wm(P:Program)(T:Q2)(st:St)(r:ResultVar)(k:KV):Bool:=match r with
 |.tmp t=>k (Ax t T)
 |.cell a t=>Lm (J3 P t (Ax a T) st.h.get) k
def N8(P:Program)(l:List ResultVar)(T:Q2)(st:St):(List AV→Bool)→Bool:=List.rec (motive:=fun _=>(List AV→Bool)→Bool) (fun k=>k []) (fun r _ ih k=>wm P T st r fun v=>ih fun l=>k (v::l)) l
def er(P:Program)(res:List ResultVar)(k:AV→St→Bool):KB:=fun T st=>N8 P res T st fun vs=>k (List.rec (.tup []) (fun v t _=>List.rec v (fun _ _ _=>.tup vs) t) vs) st
def TB(P:Program)(L:Nat)(q:FN)(cc:X3):List AV→St→(AV→St→Bool)→Bool:=fun args st k=>Bool.rec false (yZ args 0 .zero (fun T st=>runK L q.code cc (fun _ _ _=>false) (er P q.res k) (er P q.res k) T st) st) (Nat.ble (Z9 args) q.n)
def Px(P:Program)(G:Env)(L:Nat)(fuel:Nat):X3:=Nat.rec (motive:=fun _=>X3) (fun _ _ _ _=>false) (fun _ ih f args st k=>Option.rec (Lm (vy P G f) fun q=>tl (TB P L q ih args st k)) (fun sm=>Lm (sm args st) fun r=>k r.1 r.2) (G.s f)) fuel
def vT:AV→St→Bool:=fun v _=>(AV.rec (motive_1:=fun _=>Bool) (motive_2:=fun _=>Unit) (fun b=>b) ((fun _ _=>false)) ((fun _=>false)) (false) ((fun _ _ _=>false)) (false) ((fun _ _ _ _ _=>false)) ((fun _ _ _ _ _=>false)) ((fun _ _ _=>false)) ((fun _ _ _ _ _=>false)) (false) ((fun _ _ _=>false)) (false) ((fun _=>false)) (false) ((fun _ _=>false)) ((fun _ _=>false)) () (fun _ _ _ _=>())) v

end
end
section
open Go
variable {G:Env} {N:Nat} {P:Program} {t:TypeId} {x:AV}

theorem Y6{α:Type}{x:Option α}{k:α→Bool}(h:Lm x k=true): ∃a,x=some a∧k a=true:=by
 cases x with
 |none=>cases h
 |some a=>exact⟨a,rfl,h⟩
def Y9(T:Tr AV)(q:Q2):Prop:= ∀t,YW T t=Ax t q
theorem Ca{t:Nat}{i j:Dg}(hi:Gf (t/16)=some i)(hj:Gf (t % 16)=some j)(q:Q2):Ax t q=Q1.at j (Q2.at i q):=by
 unfold Ax;rw[hi,hj]
theorem Wz{β:Type}(Pd:β→Prop){t:Nat}{bad:β}{k:(Q2→AV)→HZ→β}(hb:Pd bad)
  (h: ∀g p,(∀q,g q=Ax t q)→(∀q v K st,∃q',p q v K st=K q' st∧ ∀u,Ax u q'=if u=t then v else Ax u q)→Pd (k g p)):Pd (Eb t bad k):=by
 unfold Eb
 split
 ·rename_i i hi
  split
  ·rename_i j hj;rw[Q1.Ni,Q2.Ni];refine h _ _ (fun q=>(Ca hi hj q).symm) fun q v K st=>?_;obtain⟨q1,e1,f1,g1⟩:=Q1.Bn j (Q2.at i q) v (fun x=>Q2.up i q x fun T=>K T st);obtain⟨q2,e2,f2,g2⟩:=Q2.Bn i q q1 (fun T=>K T st);refine⟨q2,(MO _ _).trans (e1.trans e2),fun u=>?_⟩
   cases hi':Gf (u/16)with
   |none=>
    have:u≠t:=fun e=>by rw[e,hi]at hi';cases hi'
    rw[if_neg this];unfold Ax;rw[hi']
   |some i'=>
    cases hj':Gf (u % 16)with
    |none=>
     have:u≠t:=fun e=>by rw[e,hj]at hj';cases hj'
     rw[if_neg this];unfold Ax;rw[hi',hj']
    |some j'=>
     rw[Ca hi' hj',Ca hi' hj'];have a1:=LZ hi;have a2:=LZ hj;have a3:=LZ hi';have a4:=LZ hj'
     by_cases hii:i'=i
     ·subst hii;rw[f2]
      by_cases hjj:j'=j
      ·subst hjj;rw[f1,if_pos Qq]
      ·have:u≠t:=fun e=>hjj (Dg.Tc (by rw[←a4,←a2,e]));rw[if_neg this,g1 _ hjj]
     ·have:u≠t:=fun e=>hii (Dg.Tc (by rw[←a3,←a1,e]));rw[if_neg this,g2 _ hii]
  ·exact hb
 ·exact hb
def vL(G:Env)(x:Operand)(g:Q2→AV):Prop:= ∀T q,Y9 T q→JW G T x=some (g q)
def L6(N:Nat)(d:Option Nat)(p:HZ):Prop:= ∀T q v K st,Y9 T q→p q v K st=true→ ∃T' q',(∀(β:Type) (k:Tr AV→Option β),Xm N d v T k=k T')∧Y9 T' q'∧K q' st=true
theorem Uw{β:Type}(Pd:β→Prop){x:Operand}{bad:β}{k:(Q2→AV)→β}(hb:Pd bad)(h: ∀g,vL G x g→Pd (k g)):Pd (YP G x bad k):=by
 cases x with
 |tmp t=>exact Wz (k:=fun g _=>k g) (t:=t) Pd hb fun g p hg _=>h g fun T q hT=>by rw[hg];exact congrArg some (hT t)
 |const v=>
  show Pd (Option.rec bad (fun a=>k (fun _=>a)) (ofConst v))
  cases hv:ofConst v with
  |none=>exact hb
  |some a=>exact h _ fun T q hT=>hv
 |global n=>
  show Pd (Qs (G.g n) (k (fun _=>.ptr n 0 0)) bad)
  cases hg:G.g n with
  |false=>exact hb
  |true=>exact h _ fun T q hT=>by show Jm (G.g n) _=_;rw[hg];rfl
 |func f=>exact h _ fun T q hT=>rfl
theorem CB(Pd:CI→Prop){d:Option Nat}{k:HZ→CI}(hb:Pd UE)(h: ∀p,L6 N d p→Pd (k p)):Pd (Sy N d k):=by
 cases d with
 |none=>exact h _ fun T q v K st hT hK=>⟨T,q,fun _ _=>rfl,hT,hK⟩
 |some t=>
  show Pd (Qs (Nat.ble (t+1) N) (Eb t UE fun _ p=>k p) UE)
  cases hn:Nat.ble (t+1) N with
  |false=>exact hb
  |true=>
   refine Wz (k:=fun _ p=>k p) (t:=t) Pd hb fun g p _ hp=>h p fun T q v K st hT hK=>?_;obtain⟨q',e,hq⟩:=hp q v K st;refine⟨T.set t v,q',fun β k=>?_,fun u=>?_,by rw[←e];exact hK⟩
   ·show Jm (Nat.ble (t+1) N) (T.put t v k)=_;rw[hn,Tr.put_eq];rfl
   ·rw[Z8,hq,hT u]
theorem Gn{β:Type}(Pd:β→Prop){t:Nat}{bad:β}{k:HZ→β}(hb:Pd bad)(h: ∀p,L6 N (some t) p→Pd (k p)):Pd (Bm N t bad k):=by
 unfold Bm
 cases hn:Nat.ble (t+1) N with
 |false=>exact hb
 |true=>
  refine Wz (k:=fun _ p=>k p) (t:=t) Pd hb fun g p _ hp=>h p fun T q v K st hT hK=>?_;obtain⟨q',e,hq⟩:=hp q v K st;refine⟨T.set t v,q',fun β k=>?_,fun u=>?_,by rw[←e];exact hK⟩
  ·show Jm (Nat.ble (t+1) N) (T.put t v k)=_;rw[hn,Tr.put_eq];rfl
  ·rw[Z8,hq,hT u]
theorem Kp{β:Type}(Pd:β→Prop){bad:β}(hb:Pd bad): ∀(l:List Operand) {k:List (Q2→AV)→β},(∀gs,(∀T q,Y9 T q→Ye (JW G T) l=some (gs.map fun g=>g q))→Pd (k gs))→Pd (Kq G bad l k):=by
 intro l
 induction l with
 |nil=>intro k h;exact h [] fun T q hT=>rfl
 |cons x l ih=>
  intro k h;show Pd (YP G x bad fun g=>Kq G bad l fun gs=>k (g::gs));refine Uw Pd hb fun g hg=>ih fun gs hgs=>h _ fun T q hT=>?_;rw[Uf,hg T q hT,Q0,hgs T q hT,Q0];rfl
theorem BA(gs:List (Q2→AV))(q:Q2): ∀k:List AV→Bool,Dl gs q k=k (gs.map fun g=>g q):=by
 induction gs with
 |nil=>intro k;rfl
 |cons g gs ih=>intro k;show Dl gs q (fun l=>k (g q::l))=_;rw[ih];rfl
theorem wP{T:Tr AV}{q:Q2}(h:Y9 T q):iV G q=JW G T:=by
 funext x
 cases x with
 |tmp t=>exact congrArg some (h t).symm
 |const v=>rfl
 |global g=>rfl
 |func f=>rfl

def Zp(cc:X3)(call:Yv):Prop:= ∀f args st k,cc f args st k=true→ ∃v st',call f args st=some (v,st')∧k v st'=true
def X2(P:Program)(G:Env)(N:Nat)(o:Oper)(r:Bi):Prop:= ∀call cc,Zp cc call→ ∀T q st K,Y9 T q→r cc K q st=true→
 ∃v st' T' q',Ll P (JW G T) call o st=some (v,st')∧(∀(β:Type) (k:Tr AV→Option β),Xm N o.dst v T k=k T')∧Y9 T' q'∧K q' st'=true
theorem Fc(P:Program)(G:Env)(N:Nat)(o:Oper):X2 P G N o UE.run:=fun _ _ _ _ _ _ _ _ h=>by cases h
theorem GP{o:Oper}{p:HZ}(hp:L6 N o.dst p){call:Yv}{T:Tr AV}{q:Q2}{st st':St}{K:KB}{v:AV}(hT:Y9 T q)(ho:Ll P (JW G T) call o st=some (v,st'))(h:p q v K st'=true):
  ∃v st' T' q',Ll P (JW G T) call o st=some (v,st')∧(∀(β:Type) (k:Tr AV→Option β),Xm N o.dst v T k=k T')∧Y9 T' q'∧K q' st'=true:=by
 obtain⟨T',q',h1,h2,h3⟩:=hp T q v K st' hT h;exact⟨v,st',T',q',ho,h1,h2,h3⟩
theorem uQ{o:Oper}{p:HZ}(hp:L6 N o.dst p)(hn: ∀R call st,Ll P R call o st=qB P R o.op st):X2 P G N o (MN P G o.op p):=by
 intro call cc hc T q st K hT h;obtain⟨⟨v,st'⟩,h1,h2⟩:=Y6 h;rw[wP hT]at h1;exact GP hp hT (by rw[hn,h1]) h2

theorem jR{a b:AV}{k:KV}(h:vj x a b k=true): ∃t,x=.bool t∧k (Qs t a b)=true:=by
 cases x<;>first|(cases h;done)|skip
 rename_i t;refine⟨t,rfl,?_⟩
 cases t<;>exact h
theorem SX{β:Type}(Pd:β→Prop){bad:β}{k:Wh→β}(hb:Pd bad)(h: ∀pt:Wh,(∀l off kv,pt l off kv=true→ ∃v,Xc P t l off=some v∧kv v=true)→Pd (k pt)):Pd (AG P t bad k):=by
 unfold AG
 split
 ·rename_i n hk
  exact h _ fun l off kv hkv=>by
   obtain⟨v,h1,h2⟩:=Y6 hkv;exact⟨v,by unfold Xc;rw[hk];exact h1,h2⟩
 ·rename_i hk
  exact h _ fun l off kv hkv=>by
   obtain⟨v,h1,h2⟩:=Y6 hkv;exact⟨v,by unfold Xc;rw[hk];exact h1,h2⟩
 ·exact hb
theorem NV{pt:Wh}(hpt: ∀l off kv,pt l off kv=true→ ∃v,Xc P t l off=some v∧kv v=true){st:St}{k:KV}(h:GH pt x st k=true): ∃v,J3 P t x st.h.get=some v∧k v=true:=by
 cases x<;>first|(cases h;done)|skip
 rename_i c m off;replace h:vp (Tr.get st.h c) m off pt k=true:=h
 cases hc:Tr.get st.h c with
 |none=>rw[hc]at h;cases h
 |some C=>
  rw[hc]at h
  cases C with
  |iter=>cases h
  |map=>cases h
  |row ro ms=>
   replace h:vo ro ms m off pt k=true:=h;obtain⟨x,h1,h⟩:=Y6 h;obtain⟨l,h2,h⟩:=Y6 h;obtain⟨v,h3,h4⟩:=hpt _ _ _ h;refine⟨v,?_,h4⟩;show ob (rowOf st.h.get c m) _=_;unfold rowOf;rw[hc,Q0];show ob (ob (nth ms m) _) _=_;rw[h1,Q0,h2,Q0,Q0];exact h3
theorem eh{f o:Nat}(ho:Jw P t f=some o){k:KV}(h:iA o x k=true): ∃v,V5 P t x f=some v∧k v=true:=by
 cases x<;>first|(cases h;done)|skip
 rename_i c m off;replace h:Yw (Nat.add off o) (fun z=>k (.ptr c m z))=true:=h;rw[JH]at h;refine⟨.ptr c m (off+o),?_,h⟩;show ob (Jw P t f) _=_;rw[ho,Q0,JH]
theorem wV{k:KV}(h:iW x k=true):((∃c m off,x=.ptr c m off)∨ ∃f a c,x=.fn f a c)∧k x=true:=by
 cases x<;>first|(cases h;done)|exact⟨.inl ⟨_,_,_,rfl⟩,h⟩|exact⟨.inr ⟨_,_,_,rfl⟩,h⟩
theorem ei{i:Nat}{k:KV}(h:ki i x k=true): ∃l v,x=.tup l∧nth l i=some v∧k v=true:=by
 cases x<;>first|(cases h;done)|skip
 rename_i l;obtain⟨v,h1,h2⟩:=Y6 h;exact⟨l,v,rfl,h1,h2⟩
theorem Th{α:Type}{k:IntKind}{x z:α}:uM k x z=if k=.i64 then x else z:=by cases k<;>rfl
theorem xm{f:Int→Int→KV→Bool→Bool}{y:AV}{k:KV}{z:Bool}(h:ff f x y k z=true):z=true∨ ∃a b,x=.int .i64 a∧y=.int .i64 b∧f a b k z=true:=by
 cases x<;>first|exact .inl h|skip
 rename_i j a
 cases y<;>first|exact .inl h|skip
 rename_i i b;replace h:uM j (uM i (f a b k z) z) z=true:=h;rw[Th,Th]at h
 split at h
 ·rename_i e1
  split at h
  ·rename_i e2;subst e1 e2;exact .inr ⟨a,b,rfl,rfl,h⟩
  ·exact .inl h
 ·exact .inl h
theorem TE{op:BinOp}{f:Int→Int→KV→Bool→Bool}(hf: ∀a b k z,f a b k z=true→z=true∨ ∃v,vC op .i64 a b=some v∧k v=true)
  (hop: ∀a b,b2 P op t (.int .i64 a) (.int .i64 b)=vC op .i64 a b) {x y:AV} {k:KV} (h:P5 f (Cy P op t) x y k=true): ∃v,b2 P op t x y=some v∧k v=true:=by
 rcases xm h with h|⟨a,b,rfl,rfl,h⟩
 ·exact Y6 h
 ·rcases hf _ _ _ _ h with h|⟨v,h1,h2⟩
  ·exact Y6 h
  ·exact⟨v,by rw[hop];exact h1,h2⟩
theorem xW(a b:Int)(k:KV)(z:Bool)(h:fD a b k z=true):z=true∨ ∃v,vC .add .i64 a b=some v∧k v=true:=by
 cases a with
 |negSucc m=>exact .inl h
 |ofNat m=>cases b with
  |negSucc n=>exact .inl h
  |ofNat n=>
   replace h:Bool.rec (motive:=fun _=>Bool) z (Yw (Nat.add m n) fun s=>k (.int .i64 (Int.ofNat s))) (Nat.ble (Nat.add m n) ZV)=true:=h
   cases hb:Nat.ble (Nat.add m n) ZV with
   |false=>rw[hb]at h;exact .inl h
   |true=>
    rw[hb]at h;replace h:Yw (Nat.add m n) (fun s=>k (.int .i64 (Int.ofNat s)))=true:=h;rw[JH]at h;refine .inr ⟨.int .i64 (Int.ofNat (m+n)),?_,h⟩;unfold vC;simp only[ZT,Yz];have:=WI hb
    have e:IntKind.wrap .i64 (Int.ofNat m+Int.ofNat n)=Int.ofNat m+Int.ofNat n:=IntWalk.i64_in _ (by
     have:m+n≤9223372036854775807:=this;simp only[Int.ofNat_eq_natCast]
     omega)
    rw[e];rfl
theorem xR{op:BinOp}{y:AV}{k:KV}(h:fA P op t x y k=true): ∃v,b2 P op t x y=some v∧k v=true:=by
 cases op<;>first
  |exact Y6 h
  |exact TE (fun a b k z h=>.inr ⟨_,rfl,h⟩) (fun a b=>by show Jm (LX .i64 .i64) _=_;rw[LX,decide_eq_true rfl];rfl) h
  |exact TE xW (fun a b=>by show Jm (LX .i64 .i64) _=_;rw[LX,decide_eq_true rfl];rfl) h

end
section
open Go Go.RowKit
variable {G:Env} {P:Program} {T:Tr AV} {o:Oper} {ops:List Oper} {st:St}

theorem uO(P:Program)(G:Env)(N:Nat)(o:Oper)(p:HZ)(hp:L6 N o.dst p):X2 P G N o (uP P G o.op p).run:=by
 have hbad:X2 P G N o UE.run:=Fc P G N o;obtain⟨dst,op,ty,pos,after,guard⟩:=o
 have in_of': ∀{call:Yv} {T:Tr AV} {q:Q2} {st st':St} {K:KB} {v:AV},Y9 T q→Ll P (JW G T) call ⟨dst,op,ty,pos,after,guard⟩ st=some (v,st')→p q v K st'=true→
  ∃v st' T' q',Ll P (JW G T) call ⟨dst,op,ty,pos,after,guard⟩ st=some (v,st')∧(∀(β:Type) (k:Tr AV→Option β),Xm N dst v T k=k T')∧Y9 T' q'∧K q' st'=true:=fun hT ho h=>GP hp hT ho h
 cases op with
 |move x=>
  refine Uw (fun c:CI=>X2 P G N _ c.run) hbad fun g hg=>?_;intro call cc hc T q st K hT h;exact in_of' hT (show ret (JW G T x) st=some (g q,st) by rw[hg T q hT];rfl) h
 |assign x=>
  refine Uw (fun c:CI=>X2 P G N _ c.run) hbad fun g hg=>?_;intro call cc hc T q st K hT h;exact in_of' hT (show ret (JW G T x) st=some (g q,st) by rw[hg T q hT];rfl) h
 |pick c a b=>
  refine Uw (fun c:CI=>X2 P G N _ c.run) hbad fun f hf=>Uw (fun c:CI=>X2 P G N _ c.run) hbad fun g hg=>Uw (fun c:CI=>X2 P G N _ c.run) hbad fun h' hh=>?_;intro call cc hc T q st K hT h;obtain⟨t,ht,h⟩:=jR h;refine in_of' hT (v:=Qs t (g q) (h' q)) (st':=st) ?_ h;show ob (JW G T c) _=_;rw[hf T q hT,Q0,ht];show ret (Qs t (JW G T a) (JW G T b)) st=_;rw[hg T q hT,hh T q hT]
  cases t<;>rfl
 |alloc t=>
  intro call cc hc T q st K hT h;obtain⟨⟨v,st'⟩,h1,h2⟩:=Y6 h;exact in_of' hT (show Ar P t st=some (v,st')from h1) h2
 |load t a=>
  refine SX (fun c:CI=>X2 P G N _ c.run) hbad fun pt hpt=>Uw (fun c:CI=>X2 P G N _ c.run) hbad fun g hg=>?_;intro call cc hc T q st K hT h;obtain⟨v,h1,h2⟩:=NV hpt h;refine in_of' hT (v:=v) (st':=st) ?_ h2;show ob (JW G T a) _=_;rw[hg T q hT,Q0];show ret (J3 P t (g q) st.h.get) st=_;rw[h1];rfl
 |store t a v=>
  refine Uw (fun c:CI=>X2 P G N _ c.run) hbad fun g hg=>Uw (fun c:CI=>X2 P G N _ c.run) hbad fun h' hh=>?_;intro call cc hc T q st K hT h;obtain⟨⟨v',st'⟩,h1,h2⟩:=Y6 h;refine in_of' hT (v:=v') (st':=st') ?_ h2;show ob (JW G T a) _=_;rw[hg T q hT,Q0];show ob (JW G T v) _=_;rw[hh T q hT,Q0];exact h1
 |nilCheck x=>
  refine Uw (fun c:CI=>X2 P G N _ c.run) hbad fun g hg=>?_;intro call cc hc T q st K hT h;obtain⟨h1,h2⟩:=wV h;refine in_of' hT (v:=g q) (st':=st) ?_ h2;show ret (ob (JW G T x) _) st=_;rw[hg T q hT,Q0]
  rcases h1 with⟨c,m,off,e⟩|⟨f,a,c,e⟩<;>(rw[e];rfl)
 |binOp op t x y yt=>
  refine Uw (fun c:CI=>X2 P G N _ c.run) hbad fun g hg=>Uw (fun c:CI=>X2 P G N _ c.run) hbad fun h' hh=>?_;intro call cc hc T q st K hT h;obtain⟨v,h1,h2⟩:=xR h;refine in_of' hT (v:=v) (st':=st) ?_ h2;show ret (ob (JW G T x) fun x=>ob (JW G T y) fun y=>b2 P op t x y) st=_;rw[hg T q hT,Q0,hh T q hT,Q0,h1];rfl
 |fieldAddr t x f=>
  refine Uw (fun c:CI=>X2 P G N _ c.run) hbad fun g hg=>?_
  cases hf:Jw P t f with
  |none=>exact hbad
  |some off=>
   show X2 P G N _ (CI.run (Yw off fun off=>⟨eI (iA off) g p⟩));rw[JH];intro call cc hc T q st K hT h;obtain⟨v,h1,h2⟩:=eh hf h;refine in_of' hT (v:=v) (st':=st) ?_ h2;show ret (ob (JW G T x) fun x=>V5 P t x f) st=_;rw[hg T q hT,Q0,h1];rfl
 |indexAddr t x i=>
  refine Uw (fun c:CI=>X2 P G N _ c.run) hbad fun g hg=>Uw (fun c:CI=>X2 P G N _ c.run) hbad fun h' hh=>?_;intro call cc hc T q st K hT h;obtain⟨v,h1,h2⟩:=Y6 h;refine in_of' hT (v:=v) (st':=st) ?_ h2;show ret (ob (JW G T x) fun x=>ob (JW G T i) fun i=>Yi P t x i) st=_;rw[hg T q hT,Q0,hh T q hT,Q0,h1];rfl
 |index t x i=>
  refine Uw (fun c:CI=>X2 P G N _ c.run) hbad fun g hg=>Uw (fun c:CI=>X2 P G N _ c.run) hbad fun h' hh=>?_;intro call cc hc T q st K hT h;obtain⟨v,h1,h2⟩:=Y6 h;refine in_of' hT (v:=v) (st':=st) ?_ h2;show ret (ob (JW G T x) fun x=>ob (JW G T i) fun i=>Hz P t x i) st=_;rw[hg T q hT,Q0,hh T q hT,Q0,h1];rfl
 |extract t i=>
  refine Uw (fun c:CI=>X2 P G N _ c.run) hbad fun g hg=>?_;intro call cc hc T q st K hT h;obtain⟨l,v,e,h1,h2⟩:=ei h;refine in_of' hT (v:=v) (st':=st) ?_ h2;show ret (ob (JW G T t) _) st=_;rw[hg T q hT,Q0,e];show ret (nth l i) st=_;rw[h1];rfl
 |call c=>
  obtain⟨callee,args,ats⟩:=c
  cases callee with
  |value f=>
   have key: ∀(x:Operand) (gs:List (Q2→AV)) (call:Yv) (T:Tr AV) (q:Q2) (st st':St) (v:AV) (fid:FuncId) (a cap:List AV),
     Ye (JW G T) args.toList=some (gs.map fun g=>g q)→JW G T x=some (.fn fid a cap)→call fid (ZQ a (ZQ (gs.map fun g=>g q) cap)) st=some (v,st')→
     Ll P (JW G T) call ⟨dst,.call ⟨.value x,args,ats⟩,ty,pos,after,guard⟩ st=some (v,st'):=by
    intro x gs call T q st st' v fid a cap h1 h2 h3;show ob (JW G T x) _=_;rw[h2,Q0];show ob (Ye (JW G T) args.toList) _=_;rw[h1,Q0];exact h3
   have gen: ∀x:Operand,X2 P G N ⟨dst,.call ⟨.value x,args,ats⟩,ty,pos,after,guard⟩ (CI.run (YP G x UE fun g=>Kq G UE args.toList fun gs=>⟨yI g gs p⟩)):=by
    intro x;refine Uw (fun c:CI=>X2 P G N _ c.run) (Fc P G N _) fun g hg=>Kp (fun c:CI=>X2 P G N _ c.run) (Fc P G N _) _ fun gs hgs=>?_;intro call cc hc T q st K hT h;replace h:Dl gs q (fun l=>vA (g q) cc l st fun v st=>p q v K st)=true:=h;rw[BA]at h
    cases hv:g q with
    |fn fid a cap=>
     rw[hv]at h;replace h:cc fid (ZQ a (ZQ (gs.map fun g=>g q) cap)) st (fun v st=>p q v K st)=true:=h;obtain⟨v,st',h1,h2⟩:=hc _ _ _ _ h;exact GP (o:=⟨dst,.call ⟨.value x,args,ats⟩,ty,pos,after,guard⟩) hp hT (key x gs call T q st st' v fid a cap (hgs T q hT) (by rw[hg T q hT,hv]) h1) h2
    |_=>rw[hv]at h;cases h
   cases f with
   |func f=>
    refine Kp (fun c:CI=>X2 P G N _ c.run) (Fc P G N _) _ fun gs hgs=>?_;intro call cc hc T q st K hT h;replace h:Dl gs q (fun l=>cc f l st fun v st=>p q v K st)=true:=h;rw[BA]at h;obtain⟨v,st',h1,h2⟩:=hc _ _ _ _ h;refine GP hp hT (key (.func f) gs call T q st st' v f [] [] (hgs T q hT) rfl ?_) h2;rw[YN,YN,List.append_nil,List.nil_append];exact h1
   |tmp t=>exact gen _
   |const t=>exact gen _
   |global t=>exact gen _
  |invoke x s=>
   refine Uw (fun c:CI=>X2 P G N _ c.run) (Fc P G N _) fun g hg=>Kp (fun c:CI=>X2 P G N _ c.run) (Fc P G N _) _ fun gs hgs=>?_;intro call cc hc T q st K hT h;replace h:Dl gs q (fun l=>fe P s (g q) cc l st fun v st=>p q v K st)=true:=h;rw[BA]at h
   cases hv:g q with
   |ifc t u=>
    rw[hv]at h;obtain⟨fid,hm,h⟩:=Y6 (show Lm (Ln P t s) (fun fid=>cc fid (u::gs.map fun g=>g q) st fun v st=>p q v K st)=true from h);obtain⟨v,st',h1,h2⟩:=hc _ _ _ _ h;refine GP (o:=⟨dst,.call ⟨.invoke x s,args,ats⟩,ty,pos,after,guard⟩) hp hT ?_ h2;show ob (JW G T x) _=_;rw[hg T q hT,hv,Q0];show ob (Ln P t s) _=_;rw[hm,Q0,hgs T q hT,Q0];exact h1
   |_=>rw[hv]at h;cases h
  |builtin b=>
   have hgen:X2 P G N ⟨dst,.call ⟨.builtin b,args,ats⟩,ty,pos,after,guard⟩ (MN P G (.call ⟨.builtin b,args,ats⟩) p):=uQ hp fun R call st=>rfl
   cases b<;>try exact hgen
   show X2 P G N _ (CI.run (match args.toList with
    |x::[]=>Qs (XF P ats.toList) ⟨MN P G (.call ⟨.builtin .len,args,ats⟩) p⟩ (YP G x UE fun g=>⟨eI (aY P ats.toList) g p⟩)
    |_=>UE))
   split
   ·rename_i x hx
    cases hmt:XF P ats.toList with
    |true=>exact hgen
    |false=>
    refine Uw (fun c:CI=>X2 P G N _ c.run) (Fc P G N _) fun g hg=>?_;intro call cc hc T q st K hT h;obtain⟨v,h1,h2⟩:=Y6 h;refine GP hp hT (v:=v) (st':=st) ?_ h2;show fB P (JW G T) .len args.toList ats.toList st=_;rw[hx];show Qs (XF P ats.toList) _ (ret (ob (JW G T x) fun x=>IE P ats.toList x) st)=_;rw[hmt,QT];rw[hg T q hT,Q0,h1];rfl
   ·exact Fc P G N _
 |_=>exact uQ hp fun R call st=>rfl

def vF(P:Program)(G:Env)(N:Nat)(ops:List Oper)(o:Oper)(r:Bi):Prop:= ∀call cc,Zp cc call→ ∀T q st K,Y9 T q→r cc K q st=true→
 ∃v st' T' q',UP P G call ops o T st=some (v,st')∧(∀(β:Type) (k:Tr AV→Option β),Xm N o.dst v T k=k T')∧Y9 T' q'∧K q' st'=true
noncomputable def S6(pol:Bool)(x:AV):Bool:=match x with
 |.bool b=>Qs b pol (!pol)
 |_=>false
theorem PW(h:o.guard=none):Ui ops o T=true:=by unfold Ui;rw[h]
theorem PV{g:Nat×Bool}(h:o.guard=some g){t:Nat}(ht:YS ops g.1=some t):Ui ops o T=S6 g.2 (YW T t):=by
 unfold Ui;rw[h];simp only[ht];rfl
theorem PX{g:Nat×Bool}(h:o.guard=some g)(ht:YS ops g.1=none):Ui ops o T=false:=by
 unfold Ui;rw[h];simp only[ht]
theorem qF{x:AV}{pol a b:Bool}(h:qG x pol a b=true):S6 pol x=true∧a=true∨S6 pol x=false∧b=true:=by
 cases x<;>first|exact .inr ⟨rfl,h⟩|skip
 rename_i t
 cases t<;>cases pol<;>first|exact .inl ⟨rfl,h⟩|exact .inr ⟨rfl,h⟩
theorem DM{N:Nat}{p:HZ}{c:CI}(hp:L6 N o.dst p)(X:(Tr AV→AV→Q2→Prop))(hX: ∀call cc,Zp cc call→ ∀T q st K,Y9 T q→c.run cc K q st=true→
  ∃v st' T' q',Ll P (JW G T) call o st=some (v,st')∧X T v q∧(∀(β:Type) (k:Tr AV→Option β),Xm N o.dst v T k=k T')∧Y9 T' q'∧K q' st'=true):
  ∀call cc,Zp cc call→ ∀T q st K,Y9 T q→(Oa ops o p c).run cc K q st=true→
  ∃v st' T' q',UP P G call ops o T st=some (v,st')∧(Ui ops o T=true→X T v q)∧(∀(β:Type) (k:Tr AV→Option β),Xm N o.dst v T k=k T')∧Y9 T' q'∧K q' st'=true:=by
 have idle: ∀(call:Yv) T q st K,Y9 T q→Ui ops o T=false→p q (.tup []) K st=true→ ∃v st' T' q',UP P G call ops o T st=some (v,st')∧(Ui ops o T=true→X T v q)∧(∀(β:Type) (k:Tr AV→Option β),Xm N o.dst v T k=k T')∧Y9 T' q'∧K q' st'=true:=by
  intro call T q st K hT hw h;obtain⟨T',q',h1,h2,h3⟩:=hp T q _ K st hT h;exact⟨.tup [],st,T',q',by unfold UP;rw[hw];rfl,fun h=>(by rw[hw]at h;cases h),h1,h2,h3⟩
 have busy: ∀(call:Yv) cc,Zp cc call→ ∀T q st K,Y9 T q→Ui ops o T=true→c.run cc K q st=true→ ∃v st' T' q',UP P G call ops o T st=some (v,st')∧(Ui ops o T=true→X T v q)∧(∀(β:Type) (k:Tr AV→Option β),Xm N o.dst v T k=k T')∧Y9 T' q'∧K q' st'=true:=by
  intro call cc hc T q st K hT hw h;obtain⟨v,st',T',q',h1,h2,h3⟩:=hX call cc hc T q st K hT h;exact⟨v,st',T',q',by unfold UP;rw[hw];exact h1,fun _=>h2,h3⟩
 unfold Oa
 split
 ·rename_i hg;intro call cc hc T q st K hT h;exact busy call cc hc T q st K hT (PW hg) h
 ·rename_i g hg
  split
  ·rename_i t ht
   refine Wz (k:=fun gt _=>⟨kh gt g.2 c.run p⟩) (t:=t) (fun c:CI=> ∀call cc,Zp cc call→ ∀T q st K,Y9 T q→c.run cc K q st=true→
    ∃v st' T' q',UP P G call ops o T st=some (v,st')∧(Ui ops o T=true→X T v q)∧(∀(β:Type) (k:Tr AV→Option β),Xm N o.dst v T k=k T')∧Y9 T' q'∧K q' st'=true) (fun _ _ _ _ _ _ _ _ h=>by cases h) fun gt _ hgt _=>?_
   intro call cc hc T q st K hT h
   have hw:Ui ops o T=S6 g.2 (Ax t q):=by rw[PV hg ht,hT t]
   replace h:qG (gt q) g.2 (c.run cc K q st) (p q (.tup []) K st)=true:=h;rw[hgt q]at h;rcases qF h with⟨h1,h2⟩|⟨h1,h2⟩
   ·exact busy call cc hc T q st K hT (hw.trans h1) h2
   ·exact idle call T q st K hT (hw.trans h1) h2
  ·rename_i ht;intro call cc hc T q st K hT h;exact idle call T q st K hT (PX hg ht) h
theorem Cq(P:Program)(G:Env)(N:Nat)(ops:List Oper)(o:Oper):vF P G N ops o (O2 P G N ops o).run:=by
 refine CB (fun c:CI=>vF P G N ops o c.run) (fun _ _ _ _ _ _ _ _ h=>by cases h) fun p hp=>?_;intro call cc hc T q st K hT h
 obtain⟨v,st',T',q',h1,_,h3⟩:=DM hp (fun _ _ _=>True) (fun call cc hc T q st K hT h=>by
  obtain⟨v,st',T',q',h1,h2⟩:=uO P G N o p hp call cc hc T q st K hT h
  exact⟨v,st',T',q',h1,trivial,h2⟩) call cc hc T q st K hT h
 exact⟨v,st',T',q',h1,h3⟩
theorem wu(P:Program)(G:Env)(N:Nat)(ops:List Oper){call:Yv}{cc:X3}(hc:Zp cc call)(K:KB): ∀(l:List Oper) (T:Tr AV) (q:Q2) (st:St),Y9 T q→wv (KG (O2 P G N ops) l) cc K q st=true→
  ∃T' st' q',AQ P G call N ops l T st=some (T',st')∧Y9 T' q'∧K q' st'=true:=by
 intro l
 induction l with
 |nil=>intro T q st hT h;exact⟨T,st,q,rfl,hT,h⟩
 |cons o l ih=>
  intro T q st hT h;replace h:(O2 P G N ops o).run cc (wv (KG (O2 P G N ops) l) cc K) q st=true:=h;obtain⟨v,st',T',q',h1,h2,h3,h4⟩:=Cq P G N ops o call cc hc T q st _ hT h;obtain⟨T2,st2,q2,k1,k2,k3⟩:=ih T' q' st' h3 h4;refine⟨T2,st2,q2,?_,k2,k3⟩;show ob (UP P G call ops o T st) _=_;rw[h1,Q0,h2];exact k1

theorem uB{t:TypeId}{pt:Wh}(hpt: ∀l off kv,pt l off kv=true→ ∃v,Xc P t l off=some v∧kv v=true){x v:AV}: ∀(n:Nat) (l:List St),C6 pt x v n l=true→
  ∀(G:Env) (o:Oper) (T:Tr AV) (a:Operand),o.op=.load t a→JW G T a=some x→again P G o T v n l=true:=by
 intro n
 induction n with
 |zero=>intro l h G o T a _ _;rfl
 |succ n ih=>
  intro l h G o T a ho ha
  cases l with
  |nil=>cases h
  |cons st l=>
   replace h:Qs (GH pt x st fun u=>LW u v) (C6 pt x v n l) false=true:=h
   cases hl:GH pt x st fun u=>LW u v with
   |false=>rw[hl]at h;cases h
   |true=>
    rw[hl]at h;obtain⟨u,h1,h2⟩:=NV hpt hl
    show Qs (match o.op with
     |.load t a=>Option.rec false (fun x=>Option.rec false (fun u=>LW u v) (J3 P t x st.h.get)) (JW G T a)
     |_=>false) (again P G o T v n l) false=true
    rw[ih l h G o T a ho ha,ho];show Qs (Option.rec false (fun x=>Option.rec false (fun u=>LW u v) (J3 P t x st.h.get)) (JW G T a)) true false=true;rw[ha];show Qs (Option.rec false (fun u=>LW u v) (J3 P t x st.h.get)) true false=true;rw[h1];show Qs (LW u v) true false=true;rw[h2];rfl
def vE(P:Program)(G:Env)(N:Nat)(ops:List Oper)(q:Nat×Oper×Nat)(d:DI):Prop:= ∀call cc,Zp cc call→ ∀T e st sn (kk:List St→KB),Y9 T e→DI.rec (motive:=fun _=>(List St→KB)→X3→List St→KB) yD fl vv d kk cc sn e st=true→
 ∃v st' T' e',UP P G call ops q.2.1 T st=some (v,st')∧Qs (Ui ops q.2.1 T) (again P G q.2.1 T v q.2.2 (List.rec [] (fun _ t _=>t) sn)) true=true∧
  (∀(β:Type) (k:Tr AV→Option β),Xm N q.2.1.dst v T k=k T')∧Y9 T' e'∧kk (Qs (Nat.beq (QZ P q.2.1.op) 3) (st'::sn) sn) e' st'=true
theorem qZ(P:Program)(G:Env)(N:Nat)(ops:List Oper)(q:Nat×Oper×Nat):vE P G N ops q (GX P G N ops q):=by
 obtain⟨i,o,n⟩:=q;unfold GX
 cases hn:Nat.beq n 0 with
 |true=>
  have hn0:n=0:=Nat.eq_of_beq_eq_true hn;subst hn0;rw[Jg]
  have agz: ∀T v l,Qs (Ui ops o T) (again P G o T v 0 l) true=true:=fun T v l=>by cases Ui ops o T<;>rfl
  cases hk:Nat.beq (QZ P o.op) 3 with
  |true=>
   rw[Jg];intro call cc hc T e st sn kk hT h;obtain⟨v,st',T',e',h1,h2,h3,h4⟩:=Cq P G N ops o call cc hc T e st _ hT h;exact⟨v,st',T',e',h1,agz _ _ _,h2,h3,by simp only[hk,Jg];exact h4⟩
  |false=>
   rw[QT];intro call cc hc T e st sn kk hT h;obtain⟨v,st',T',e',h1,h2,h3,h4⟩:=Cq P G N ops o call cc hc T e st _ hT h;exact⟨v,st',T',e',h1,agz _ _ _,h2,h3,by simp only[hk,QT];exact h4⟩
 |false=>
  rw[QT]
  have nope:vE P G N ops (i,o,n) (.plain UE):=fun _ _ _ _ _ _ _ _ _ h=>by cases h
  simp only
  split
  ·rename_i t a ho;intro call cc hc T e st sn kk hT h
   have hk:Nat.beq (QZ P o.op) 3=false:=by rw[ho];rfl
   have key: ∀call cc,Zp cc call→ ∀T e st K,Y9 T e→CI.run (Sy N o.dst fun p=>Oa ops o p (AG P t UE fun pt=>YP G a UE fun g=>⟨iU pt n g p sn⟩)) cc K e st=true→
     ∃v st' T' e',UP P G call ops o T st=some (v,st')∧(Ui ops o T=true→again P G o T v n (List.rec [] (fun _ t _=>t) sn)=true)∧(∀(β:Type) (k:Tr AV→Option β),Xm N o.dst v T k=k T')∧Y9 T' e'∧K e' st'=true:=by
    refine CB (fun c:CI=> ∀call cc,Zp cc call→ ∀T e st K,Y9 T e→c.run cc K e st=true→
     ∃v st' T' e',UP P G call ops o T st=some (v,st')∧(Ui ops o T=true→again P G o T v n (List.rec [] (fun _ t _=>t) sn)=true)∧(∀(β:Type) (k:Tr AV→Option β),Xm N o.dst v T k=k T')∧Y9 T' e'∧K e' st'=true) (fun _ _ _ _ _ _ _ _ h=>by cases h) fun p hp=>?_
    refine DM hp (fun T v _=>again P G o T v n (List.rec [] (fun _ t _=>t) sn)=true) ?_
    refine SX (fun c:CI=> ∀call cc,Zp cc call→ ∀T q st K,Y9 T q→c.run cc K q st=true→
     ∃v st' T' q',Ll P (JW G T) call o st=some (v,st')∧again P G o T v n (List.rec [] (fun _ t _=>t) sn)=true∧(∀(β:Type) (k:Tr AV→Option β),Xm N o.dst v T k=k T')∧Y9 T' q'∧K q' st'=true) (fun _ _ _ _ _ _ _ _ h=>by cases h) fun pt hpt=>?_
    refine Uw (fun c:CI=> ∀call cc,Zp cc call→ ∀T q st K,Y9 T q→c.run cc K q st=true→
     ∃v st' T' q',Ll P (JW G T) call o st=some (v,st')∧again P G o T v n (List.rec [] (fun _ t _=>t) sn)=true∧(∀(β:Type) (k:Tr AV→Option β),Xm N o.dst v T k=k T')∧Y9 T' q'∧K q' st'=true) (fun _ _ _ _ _ _ _ _ h=>by cases h) fun g hg=>?_
    intro call cc hc T q st K hT h;obtain⟨v,h1,h2⟩:=NV hpt h
    cases hag:C6 pt (g q) v n (List.rec [] (fun _ t _=>t) sn)with
    |false=>rw[hag]at h2;cases h2
    |true=>
     rw[hag]at h2;obtain⟨T',q',k1,k2,k3⟩:=hp T q v K st hT h2;refine⟨v,st,T',q',?_,uB hpt n _ hag G o T a ho (hg T q hT),k1,k2,k3⟩;unfold Ll;rw[ho];show ob (JW G T a) (fun x=>ret (J3 P t x st.h.get) st)=_;rw[hg T q hT,Q0,h1];rfl
   obtain⟨v,st',T',e',h1,h2,h3,h4,h5⟩:=key call cc hc T e st _ hT h;refine⟨v,st',T',e',h1,?_,h3,h4,by simp only[hk,QT];exact h5⟩;show Qs (Ui ops o T) (again P G o T v n (List.rec [] (fun _ t _=>t) sn)) true=true
   cases hw:Ui ops o T with
   |false=>rfl
   |true=>exact h2 hw
  ·exact nope
theorem zH(P:Program)(G:Env)(N:Nat)(ops:List Oper){call:Yv}{cc:X3}(hc:Zp cc call)(K:KB): ∀(l:List (Nat×Oper×Nat)) (T:Tr AV) (q:Q2) (st:St) (sn:List St),Y9 T q→wi (KG (GX P G N ops) l) cc K sn q st=true→
  ∃T' st' q',Ep P G call N ops l T st sn=some (T',st')∧Y9 T' q'∧K q' st'=true:=by
 intro l
 induction l with
 |nil=>intro T q st sn hT h;exact⟨T,st,q,rfl,hT,h⟩
 |cons o l ih=>
  intro T q st sn hT h;obtain⟨v,st',T',q',h1,h2,h3,h4,h5⟩:=qZ P G N ops o call cc hc T q st sn (wi (KG (GX P G N ops) l) cc K) hT h;obtain⟨T2,st2,q2,k1,k2,k3⟩:=ih T' q' st' _ h4 h5;refine⟨T2,st2,q2,?_,k2,k3⟩;show ob (UP P G call ops o.2.1 T st) _=_;rw[h1,Q0];show Jm (Qs (Ui ops o.2.1 T) (again P G o.2.1 T v o.2.2 (List.rec [] (fun _ t _=>t) sn)) true) _=_;rw[h2,Uo,h3];exact k1

def yr(x:Ex)(E:Nat→KB)(R K:KB):KB:=match x with
 |.nor=>K
 |.exit i=>E i
 |.ret=>R
def Ew(f:Tr AV→St→Option (Ex×Tr AV×St))(call:Yv)(b:Vp):Prop:= ∀cc,Zp cc call→ ∀E R K T q st,Y9 T q→b cc E R K q st=true→ ∃x T' st' q',f T st=some (x,T',st')∧Y9 T' q'∧yr x E R K q' st'=true
theorem jD{N L:Nat}{call:Yv}{a b:CC}{fa fb:Tr AV→St→Option (Ex×Tr AV×St)}{g:Operand}{x y:Tmp}{gg:Q2→AV}{p1 p2:HZ}(hg:vL G g gg)(hp1:L6 N (some x) p1)(hp2:L6 N (some y) p2)
  (ha:Ew fa call (runK L a)) (hb:Ew fb call (runK L b)) {cc:X3} (hc:Zp cc call) {E:Nat→KB} {R K:KB} {T:Tr AV} {q:Q2} {st:St} (hT:Y9 T q) (h:runK L (.range (fO P G) gg p1 p2 a b) cc E R K q st=true):
  ∃e T' st' q',EX P G N g [x,y] true fa fb T st=some (e,T',st')∧Y9 T' q'∧yr e E R K q' st'=true:=by
 replace h:fO P G (gg q) st (fun n el=>Nat.rec (motive:=fun _=>St→Bool) (fun st=>K q st) (fun i ih st=>el i st fun v=>p1 q (.int .i64 (Int.ofNat i)) (fun T1 st=>p2 T1 v (fun T2 st=>runK L a cc (fun _ _ _=>false) (fun _ _=>false) (fun T3 st=>runK L b cc (fun id _ st=>E id q st) (fun _ st=>R q st) (fun _ st=>tl (ih st)) T3 st) T2 st) st) st) n st)=true:=h;unfold EX;rw[hg T q hT,Uo,Q0];unfold fO at h
 split at h
 ·rename_i f first cap hv
  rw[hv];replace h:=Y6 h;obtain⟨qq,hq,h⟩:=h;simp only[hq,Q0]
  split at h
  ·split at h
   ·rename_i cap;replace h:=Y6 h;obtain⟨s,hs,h⟩:=h;replace h:=Y6 h;obtain⟨nv,hl,h⟩:=h;simp only[hs,Q0,hl]
    split at h
    ·rename_i k n
     cases n with
     |negSucc n=>cases h
     |ofNat n=>
      simp only[TY,Q0];unfold uW at h;simp only at h
      cases hm:Nat.ble n ZV with
      |false=>rw[hm]at h;cases h
      |true=>
       rw[hm]at h;rw[Uo];simp only at h;clear hl hs hm hv hq;revert st
       induction n with
       |zero=>intro st h;exact⟨.nor,T,st,q,rfl,hT,h⟩
       |succ n ih=>
        intro st h;replace h:fP P qq cap n st (fun v=>p1 q (.int .i64 (Int.ofNat n)) (fun T1 st=>p2 T1 v (fun T2 st=>runK L a cc (fun _ _ _=>false) (fun _ _=>false) (fun T3 st=>runK L b cc (fun id _ st=>E id q st) (fun _ st=>R q st) (fun _ st=>tl (Nat.rec (motive:=fun _=>St→Bool) (fun st=>K q st) (fun i ih st=>fP P qq cap i st fun v=>p1 q (.int .i64 (Int.ofNat i)) (fun T1 st=>p2 T1 v (fun T2 st=>runK L a cc (fun _ _ _=>false) (fun _ _=>false) (fun T3 st=>runK L b cc (fun id _ st=>E id q st) (fun _ st=>R q st) (fun _ st=>tl (ih st)) T3 st) T2 st) st) st) n st)) T3 st) T2 st) st) st)=true:=h;unfold fP at h;replace h:=Y6 h;obtain⟨s,hs,h⟩:=h;replace h:=Y6 h;obtain⟨ad,had,h⟩:=h;replace h:=Y6 h;obtain⟨v,hv,h⟩:=h;obtain⟨T1,q1,k1,r1,h⟩:=hp1 T q _ _ _ hT h;obtain⟨T2,q2,k2,r2,h⟩:=hp2 T1 q1 _ _ _ r1 h;obtain⟨e,T3,st3,q3,c1,r3,h⟩:=ha cc hc _ _ _ T2 q2 _ r2 h
        cases e with
        |exit i=>cases h
        |ret=>cases h
        |nor=>
         obtain⟨e,T4,st4,q4,c2,r4,h⟩:=hb cc hc _ _ _ T3 q3 _ r3 h
         have e0:Ek P N qq.1 qq.2 cap [x,y] fa fb T (n+1) st=Ex.rec (tl (Ek P N qq.1 qq.2 cap [x,y] fa fb T n st4)) (fun id=>some (.exit id,T,st4)) (some (.ret,T,st4)) e:=by
          show(ob (J3 P qq.1 cap st.h.get) fun s=>ob (Yi P qq.1 s (.int .i64 (Int.ofNat n))) fun q=>ob (J3 P qq.2 q st.h.get) fun v=>Lz N [x,y] (.int .i64 (Int.ofNat n)) v T fun T1=>ob (fa T1 st) fun r=>Ex.rec (ob (fb r.2.1 r.2.2) fun q=>Ex.rec (tl (Ek P N qq.1 qq.2 cap [x,y] fa fb T n q.2.2)) (fun id=>some (.exit id,T,q.2.2)) (some (.ret,T,q.2.2)) q.1) (fun _=>none) none r.1)=_;rw[hs,Q0,had,Q0,hv,Q0];show Xm N (some x) _ T _=_;rw[k1,k2,c1,Q0];show(ob (fb T3 st3) _)=_;rw[c2,Q0]
         cases e with
         |nor=>
          obtain⟨e,T5,st5,q5,d1,d2,d3⟩:=ih h;exact⟨e,T5,st5,q5,by rw[e0];exact d1,d2,d3⟩
         |exit id=>exact⟨.exit id,T,st4,q,e0,hT,h⟩
         |ret=>exact⟨.ret,T,st4,q,e0,hT,h⟩
    ·cases h
   ·cases h
  ·cases h
 ·cases h
theorem xN(P:Program)(G:Env)(N L:Nat)(call:Yv): ∀c:Code,Ew (codeF P G call N L c) call (runK L (Fl P G N c)):=by
 have nope: ∀f,Ew f call (runK L .bad):=fun f _ _ _ _ _ _ _ _ _ h=>by cases h
 intro c
 induction c with
 |skip=>intro cc hc E R K T q st hT h;exact⟨.nor,T,st,q,rfl,hT,h⟩
 |region id ops draw=>
  cases draw with
  |false=>
   intro cc hc E R K T q st hT h;obtain⟨T',st',q',h1,h2,h3⟩:=wu P G N ops.toList hc K ops.toList T q st hT h;refine⟨.nor,T',st',q',?_,h2,h3⟩;show(ob (AQ P G call N ops.toList ops.toList T st) fun r=>some (Ex.nor,r))=_;rw[h1];rfl
  |true=>
   have e:Fl P G N (.region id ops true)=Option.rec .bad (fun pl=>.Ep (KG (GX P G N ops.toList) pl)) (Va P ops.toList):=rfl;rw[e]
   cases hpl:Va P ops.toList with
   |none=>exact nope _
   |some pl=>
    intro cc hc E R K T q st hT h;obtain⟨T',st',q',h1,h2,h3⟩:=zH P G N ops.toList hc K pl T q st [st] hT h;refine⟨.nor,T',st',q',?_,h2,h3⟩;show(ob (Va P ops.toList) fun pl=>ob (Ep P G call N ops.toList pl T st [st]) fun r=>some (Ex.nor,r))=_;rw[hpl,Q0,h1];rfl
 |seq a b ha hb=>
  intro cc hc E R K T q st hT h;obtain⟨x,T',st',q',h1,h2,h3⟩:=ha cc hc E R (runK L (Fl P G N b) cc E R K) T q st hT h;have e:codeF P G call N L (.seq a b) T st=Vv (codeF P G call N L a T st) (codeF P G call N L b):=rfl
  cases x with
  |nor=>
   obtain⟨x,T2,st2,q2,k1,k2,k3⟩:=hb cc hc E R K T' q' st' h2 h3;exact⟨x,T2,st2,q2,by rw[e,h1];exact k1,k2,k3⟩
  |exit i=>exact⟨.exit i,T',st',q',by rw[e,h1];rfl,h2,h3⟩
  |ret=>exact⟨.ret,T',st',q',by rw[e,h1];rfl,h2,h3⟩
 |cond c a b ha hb=>
  show Ew _ call (runK L (YP G c .bad fun g=>.cond g (Fl P G N a) (Fl P G N b)));refine Uw (fun d:CC=>Ew (codeF P G call N L (.cond c a b)) call (runK L d)) (nope _) fun g hg=>?_;intro cc hc E R K T q st hT h;replace h:vw (g q) (runK L (Fl P G N a) cc E R K) (runK L (Fl P G N b) cc E R K) q st=true:=h;have e:codeF P G call N L (.cond c a b) T st=O1 (JW G T c) (codeF P G call N L a T st) (codeF P G call N L b T st):=rfl;rw[hg T q hT]at e
  cases hv:g q with
  |bool t=>
   rw[hv]at h e
   cases t with
   |true=>
    obtain⟨x,T',st',q',h1,h2,h3⟩:=ha cc hc E R K T q st hT h;exact⟨x,T',st',q',by rw[e];exact h1,h2,h3⟩
   |false=>
    obtain⟨x,T',st',q',h1,h2,h3⟩:=hb cc hc E R K T q st hT h;exact⟨x,T',st',q',by rw[e];exact h1,h2,h3⟩
  |_=>rw[hv]at h;cases h
 |block id b hb=>
  intro cc hc E R K T q st hT h;obtain⟨x,T',st',q',h1,h2,h3⟩:=hb cc hc (fun i=>Qs (Nat.beq i id) K (E i)) R K T q st hT h;have e:codeF P G call N L (.block id b) T st=KQ id (codeF P G call N L b T st):=rfl
  cases x with
  |nor=>exact⟨.nor,T',st',q',by rw[e,h1];rfl,h2,h3⟩
  |ret=>exact⟨.ret,T',st',q',by rw[e,h1];rfl,h2,h3⟩
  |exit i=>
   replace h3:Qs (Nat.beq i id) K (E i) q' st'=true:=h3
   cases hi:Nat.beq i id with
   |true=>rw[hi]at h3;exact⟨.nor,T',st',q',by rw[e,h1];show Qs (Nat.beq i id) _ _=_;rw[hi];rfl,h2,h3⟩
   |false=>rw[hi]at h3;exact⟨.exit i,T',st',q',by rw[e,h1];show Qs (Nat.beq i id) _ _=_;rw[hi];rfl,h2,h3⟩
 |loop b hb=>
  intro cc hc E R K T q st hT h
  have key: ∀n T q st,Y9 T q→Nat.rec (motive:=fun _=>KB) (fun _ _=>false) (fun _ ih=>runK L (Fl P G N b) cc E R ih) n q st=true→
    ∃x T' st' q',Nat.rec (motive:=fun _=>Tr AV→St→Option (Ex×Tr AV×St)) (fun _ _=>none) (fun _ ih T st=>Vv (codeF P G call N L b T st) ih) n T st=some (x,T',st')∧Y9 T' q'∧yr x E R K q' st'=true:=by
   intro n
   induction n with
   |zero=>intro T q st hT h;cases h
   |succ n ih=>
    intro T q st hT h;obtain⟨x,T',st',q',h1,h2,h3⟩:=hb cc hc E R _ T q st hT h
    cases x with
    |nor=>
     obtain⟨x,T2,st2,q2,k1,k2,k3⟩:=ih T' q' st' h2 h3;refine⟨x,T2,st2,q2,?_,k2,k3⟩;show Vv (codeF P G call N L b T st) _=_;rw[h1];exact k1
    |exit i=>exact⟨.exit i,T',st',q',by show Vv (codeF P G call N L b T st) _=_;rw[h1];rfl,h2,h3⟩
    |ret=>exact⟨.ret,T',st',q',by show Vv (codeF P G call N L b T st) _=_;rw[h1];rfl,h2,h3⟩
  exact key L T q st hT h
 |rangeFunc g ps a b ha hb=>
  show Ew _ call (runK L (yE P G N g ps.toList (Qs (Zc a) (Zc b) false) (Fl P G N a) (Fl P G N b)));have e:codeF P G call N L (.rangeFunc g ps a b)=EX P G N g ps.toList (Qs (Zc a) (Zc b) false) (codeF P G call N L a) (codeF P G call N L b):=rfl;rw[e];unfold yE
  split
  ·rename_i x y hps;rw[hps]
   cases hpl:Qs (Zc a) (Zc b) false with
   |false=>exact nope _
   |true=>
    refine Uw (fun d:CC=>Ew _ call (runK L d)) (nope _) fun gg hg=>?_;refine Gn (fun d:CC=>Ew _ call (runK L d)) (nope _) fun p1 hp1=>?_;refine Gn (fun d:CC=>Ew _ call (runK L d)) (nope _) fun p2 hp2=>?_;intro cc hc E R K T q st hT h;exact jD hg hp1 hp2 ha hb hc hT h
  ·exact nope _
 |exit id=>intro cc hc E R K T q st hT h;exact⟨.exit id,T,st,q,rfl,hT,h⟩
 |ret=>intro cc hc E R K T q st hT h;exact⟨.ret,T,st,q,rfl,hT,h⟩
 |label id=>intro cc hc E R K T q st hT h;exact⟨.nor,T,st,q,rfl,hT,h⟩
 |_=>exact nope _

theorem xT: ∀(l:List AV) (i:Nat) (T:Tr AV) (q:Q2) (K:KB) (st:St),Y9 T q→yZ l i q K st=true→ ∃T' q',(∀(β:Type) (k:Tr AV→β),List.rec (motive:=fun _=>Nat→Tr AV→β) (fun(_:Nat) T=>k T) (fun v _ ih i T=>T.put i v (ih (i+1))) l i T=k T')∧Y9 T' q'∧K q' st=true:=by
 intro l
 induction l with
 |nil=>intro i T q K st hT h;exact⟨T,q,fun _ _=>rfl,hT,h⟩
 |cons v l ih=>
  intro i T q K st hT h;replace h:(putAt i).put q v (fun T st=>yZ l (Nat.succ i) T K st) st=true:=h
  have key: ∀q K st,(putAt i).put q v K st=true→ ∃q',K q' st=true∧ ∀u,Ax u q'=if u=i then v else Ax u q:=by
   refine Wz (k:=fun _ p=>Sr.mk p) (t:=i) (fun b:Sr=> ∀q K st,b.put q v K st=true→ ∃q',K q' st=true∧ ∀u,Ax u q'=if u=i then v else Ax u q) (fun _ _ _ h=>by cases h) fun g p _ hp=>?_;intro q K st h;obtain⟨q',e,hq⟩:=hp q v K st;exact⟨q',by rw[←e];exact h,hq⟩
  obtain⟨q',h1,h2⟩:=key q _ st h;obtain⟨T',q2,k1,k2,k3⟩:=ih (i+1) (T.set i v) q' K st (fun u=>by rw[Z8,h2,hT u]) h1;refine⟨T',q2,fun β k=>?_,k2,k3⟩;show T.put i v _=_;rw[Tr.put_eq];exact k1 β k
theorem qC:Y9 .nil .zero:=by
 intro t;have e:YW .nil t=.tup []:=rfl;rw[e];unfold Ax
 split
 ·rename_i i _
  split
  ·rename_i j _
   cases i<;>cases j<;>rfl
  ·rfl
 ·rfl
theorem wk{q:Q2}(hT:Y9 T q){r:ResultVar}{k:KV}(h:wm P q st r k=true): ∃v,FP P T st r=some v∧k v=true:=by
 cases r with
 |tmp t=>exact⟨Ax t q,congrArg some (hT t),h⟩
 |cell a t=>
  obtain⟨v,h1,h2⟩:=Y6 h;exact⟨v,by show J3 P t (YW T a) st.h.get=_;rw[hT a];exact h1,h2⟩
theorem Dm{q:Q2}(hT:Y9 T q): ∀(l:List ResultVar) (k:List AV→Bool),N8 P l q st k=true→ ∃vs,Ye (FP P T st) l=some vs∧k vs=true:=by
 intro l
 induction l with
 |nil=>intro k h;exact⟨[],rfl,h⟩
 |cons r l ih=>
  intro k h;replace h:wm P q st r (fun v=>N8 P l q st fun l=>k (v::l))=true:=h;obtain⟨v,h1,h⟩:=wk hT h;obtain⟨vs,h2,h⟩:=ih _ h;exact⟨v::vs,by rw[Uf,h1,Q0,h2,Q0],h⟩
theorem yq{res:List ResultVar}{q:Q2}(hT:Y9 T q){k:AV→St→Bool}(h:er P res k q st=true): ∃v,JF P res T st=some v∧k v st=true:=by
 obtain⟨vs,h1,h2⟩:=Dm hT res _ h;refine⟨_,?_,h2⟩;unfold JF;rw[h1,Q0]
 cases vs with
 |nil=>rfl
 |cons v t=>cases t<;>rfl
theorem yJ(P:Program)(G:Env)(L:Nat): ∀fuel,Zp (Px P G L fuel) (U4 P G L fuel):=by
 intro fuel
 induction fuel with
 |zero=>intro f args st k h;cases h
 |succ n ih=>
  intro f args st k h;replace h:(Option.rec (Lm (vy P G f) fun q=>tl (TB P L q (Px P G L n) args st k)) (fun sm=>Lm (sm args st) fun r=>k r.1 r.2) (G.s f):Bool)=true:=h;have e0:U4 P G L (n+1) f args st=(Option.rec (ob (IU P f) fun q=>Jm (Nat.ble (Z9 args) q.2.1) (Fv args fun T=>KM (codeF P G (U4 P G L n) q.2.1 L q.1 T st) fun T st=>ob (JF P q.2.2 T st) fun v=>some (v,st))) (fun sm=>sm args st) (G.s f):Option (AV×St)):=rfl;rw[e0]
  cases hsm:G.s f with
  |some sm=>
   rw[hsm]at h;obtain⟨⟨v,st'⟩,h1,h2⟩:=Y6 h;exact⟨v,st',h1,h2⟩
  |none=>
  rw[hsm]at h;obtain⟨fn,h1,h⟩:=Y6 h;replace h:TB P L fn (Px P G L n) args st k=true:=h;replace h1:=Qy h1;obtain⟨q,hq,h1⟩:=h1;obtain⟨_,h1⟩:=QA h1
  injection h1 with h1
  subst h1;show∃v st',(ob (IU P f) fun q=>Jm (Nat.ble (Z9 args) q.2.1) (Fv args fun T=>KM (codeF P G (U4 P G L n) q.2.1 L q.1 T st) fun T st=>ob (JF P q.2.2 T st) fun v=>some (v,st)))=some (v,st')∧k v st'=true;rw[hq,Q0];unfold TB at h;simp only at h
  cases hb:Nat.ble (Z9 args) q.2.1 with
  |false=>rw[hb]at h;cases h
  |true=>
   rw[hb]at h;rw[Uo];obtain⟨T,q1,k1,k2,k3⟩:=xT args 0 .nil .zero _ st qC h;have e: ∀(β:Type) (k:Tr AV→β),Fv args k=k T:=fun β k=>k1 β k;rw[e];obtain⟨x,T',st',q',c1,c2,c3⟩:=xN P G q.2.1 L (U4 P G L n) q.1 (Px P G L n) ih _ _ _ T q1 st k2 k3;rw[c1]
   cases x with
   |exit i=>cases c3
   |nor=>
    obtain⟨v,r1,r2⟩:=yq c2 c3;refine⟨v,st',?_,r2⟩;show ob (JF P q.2.2 T' st') _=_;rw[r1];rfl
   |ret=>
    obtain⟨v,r1,r2⟩:=yq c2 c3;refine⟨v,st',?_,r2⟩;show ob (JF P q.2.2 T' st') _=_;rw[r1];rfl

theorem Sg{f:FuncId}{args:List AV}{L fuel:Nat}(h:Px P G L fuel f args st vT=true):isTrue (U4 P G L fuel f args st)=true:=by
 obtain⟨v,st',h1,h2⟩:=yJ P _ L fuel f args _ _ h;rw[h1]
 cases v<;>first|exact h2|cases h2

end
end Go.Proofs.YtmgkfceomhagaaaGreatDoor
