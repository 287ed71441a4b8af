/-
  Several texts in one: XEvO, XEvP, XEvR (the swift reckoner).
-/
import Derived.Test.YtildagdnomiahaaGreatDoorQkEv3
set_option linter.unusedSimpArgs false
set_option linter.unusedVariables false
namespace Go.Proofs.YtildagdnomiahaaGreatDoor
section
open Go
set_option maxRecDepth 100000

structure Q1 where
 a0:AV
 a1:AV
 a2:AV
 a3:AV
 a4:AV
 a5:AV
 a6:AV
 a7:AV
 a8:AV
 a9:AV
 a10:AV
 a11:AV
 a12:AV
 a13:AV
 a14:AV
 a15:AV
structure Q2 where
 a0:Q1
 a1:Q1
 a2:Q1
 a3:Q1
 a4:Q1
 a5:Q1
 a6:Q1
 a7:Q1
 a8:Q1
 a9:Q1
 a10:Q1
 a11:Q1
 a12:Q1
 a13:Q1
 a14:Q1
 a15:Q1
inductive Dg where
 |d0
 |d1
 |d2
 |d3
 |d4
 |d5
 |d6
 |d7
 |d8
 |d9
 |d10
 |d11
 |d12
 |d13
 |d14
 |d15

noncomputable section
def Q1.u0:Q1→AV→(Q1→Bool)→Bool:=fun q v k=>(Q1.rec (motive:=fun _=>AV→(Q1→Bool)→Bool) (fun x0 x1 x2 x3 x4 x5 x6 x7 x8 x9 x10 x11 x12 x13 x14 x15 v k=>k (Q1.mk v x1 x2 x3 x4 x5 x6 x7 x8 x9 x10 x11 x12 x13 x14 x15))) q v k
def Q1.u1:Q1→AV→(Q1→Bool)→Bool:=fun q v k=>(Q1.rec (motive:=fun _=>AV→(Q1→Bool)→Bool) (fun x0 x1 x2 x3 x4 x5 x6 x7 x8 x9 x10 x11 x12 x13 x14 x15 v k=>k (Q1.mk x0 v x2 x3 x4 x5 x6 x7 x8 x9 x10 x11 x12 x13 x14 x15))) q v k
def Q1.u2:Q1→AV→(Q1→Bool)→Bool:=fun q v k=>(Q1.rec (motive:=fun _=>AV→(Q1→Bool)→Bool) (fun x0 x1 x2 x3 x4 x5 x6 x7 x8 x9 x10 x11 x12 x13 x14 x15 v k=>k (Q1.mk x0 x1 v x3 x4 x5 x6 x7 x8 x9 x10 x11 x12 x13 x14 x15))) q v k
def Q1.u3:Q1→AV→(Q1→Bool)→Bool:=fun q v k=>(Q1.rec (motive:=fun _=>AV→(Q1→Bool)→Bool) (fun x0 x1 x2 x3 x4 x5 x6 x7 x8 x9 x10 x11 x12 x13 x14 x15 v k=>k (Q1.mk x0 x1 x2 v x4 x5 x6 x7 x8 x9 x10 x11 x12 x13 x14 x15))) q v k
def Q1.u4:Q1→AV→(Q1→Bool)→Bool:=fun q v k=>(Q1.rec (motive:=fun _=>AV→(Q1→Bool)→Bool) (fun x0 x1 x2 x3 x4 x5 x6 x7 x8 x9 x10 x11 x12 x13 x14 x15 v k=>k (Q1.mk x0 x1 x2 x3 v x5 x6 x7 x8 x9 x10 x11 x12 x13 x14 x15))) q v k
def Q1.u5:Q1→AV→(Q1→Bool)→Bool:=fun q v k=>(Q1.rec (motive:=fun _=>AV→(Q1→Bool)→Bool) (fun x0 x1 x2 x3 x4 x5 x6 x7 x8 x9 x10 x11 x12 x13 x14 x15 v k=>k (Q1.mk x0 x1 x2 x3 x4 v x6 x7 x8 x9 x10 x11 x12 x13 x14 x15))) q v k
def Q1.u6:Q1→AV→(Q1→Bool)→Bool:=fun q v k=>(Q1.rec (motive:=fun _=>AV→(Q1→Bool)→Bool) (fun x0 x1 x2 x3 x4 x5 x6 x7 x8 x9 x10 x11 x12 x13 x14 x15 v k=>k (Q1.mk x0 x1 x2 x3 x4 x5 v x7 x8 x9 x10 x11 x12 x13 x14 x15))) q v k
def Q1.u7:Q1→AV→(Q1→Bool)→Bool:=fun q v k=>(Q1.rec (motive:=fun _=>AV→(Q1→Bool)→Bool) (fun x0 x1 x2 x3 x4 x5 x6 x7 x8 x9 x10 x11 x12 x13 x14 x15 v k=>k (Q1.mk x0 x1 x2 x3 x4 x5 x6 v x8 x9 x10 x11 x12 x13 x14 x15))) q v k
def Q1.u8:Q1→AV→(Q1→Bool)→Bool:=fun q v k=>(Q1.rec (motive:=fun _=>AV→(Q1→Bool)→Bool) (fun x0 x1 x2 x3 x4 x5 x6 x7 x8 x9 x10 x11 x12 x13 x14 x15 v k=>k (Q1.mk x0 x1 x2 x3 x4 x5 x6 x7 v x9 x10 x11 x12 x13 x14 x15))) q v k
def Q1.u9:Q1→AV→(Q1→Bool)→Bool:=fun q v k=>(Q1.rec (motive:=fun _=>AV→(Q1→Bool)→Bool) (fun x0 x1 x2 x3 x4 x5 x6 x7 x8 x9 x10 x11 x12 x13 x14 x15 v k=>k (Q1.mk x0 x1 x2 x3 x4 x5 x6 x7 x8 v x10 x11 x12 x13 x14 x15))) q v k
def Q1.fp:Q1→AV→(Q1→Bool)→Bool:=fun q v k=>(Q1.rec (motive:=fun _=>AV→(Q1→Bool)→Bool) (fun x0 x1 x2 x3 x4 x5 x6 x7 x8 x9 x10 x11 x12 x13 x14 x15 v k=>k (Q1.mk x0 x1 x2 x3 x4 x5 x6 x7 x8 x9 v x11 x12 x13 x14 x15))) q v k
def Q1.fm:Q1→AV→(Q1→Bool)→Bool:=fun q v k=>(Q1.rec (motive:=fun _=>AV→(Q1→Bool)→Bool) (fun x0 x1 x2 x3 x4 x5 x6 x7 x8 x9 x10 x11 x12 x13 x14 x15 v k=>k (Q1.mk x0 x1 x2 x3 x4 x5 x6 x7 x8 x9 x10 v x12 x13 x14 x15))) q v k
def Q1.fl:Q1→AV→(Q1→Bool)→Bool:=fun q v k=>(Q1.rec (motive:=fun _=>AV→(Q1→Bool)→Bool) (fun x0 x1 x2 x3 x4 x5 x6 x7 x8 x9 x10 x11 x12 x13 x14 x15 v k=>k (Q1.mk x0 x1 x2 x3 x4 x5 x6 x7 x8 x9 x10 x11 v x13 x14 x15))) q v k
def Q1.fk:Q1→AV→(Q1→Bool)→Bool:=fun q v k=>(Q1.rec (motive:=fun _=>AV→(Q1→Bool)→Bool) (fun x0 x1 x2 x3 x4 x5 x6 x7 x8 x9 x10 x11 x12 x13 x14 x15 v k=>k (Q1.mk x0 x1 x2 x3 x4 x5 x6 x7 x8 x9 x10 x11 x12 v x14 x15))) q v k
def Q1.fj:Q1→AV→(Q1→Bool)→Bool:=fun q v k=>(Q1.rec (motive:=fun _=>AV→(Q1→Bool)→Bool) (fun x0 x1 x2 x3 x4 x5 x6 x7 x8 x9 x10 x11 x12 x13 x14 x15 v k=>k (Q1.mk x0 x1 x2 x3 x4 x5 x6 x7 x8 x9 x10 x11 x12 x13 v x15))) q v k
def Q1.fi:Q1→AV→(Q1→Bool)→Bool:=fun q v k=>(Q1.rec (motive:=fun _=>AV→(Q1→Bool)→Bool) (fun x0 x1 x2 x3 x4 x5 x6 x7 x8 x9 x10 x11 x12 x13 x14 x15 v k=>k (Q1.mk x0 x1 x2 x3 x4 x5 x6 x7 x8 x9 x10 x11 x12 x13 x14 v))) q v k
def Q1.at(d:Dg):Q1→AV:=Dg.rec (motive:=fun _=>Q1→AV) Q1.a0 Q1.a1 Q1.a2 Q1.a3 Q1.a4 Q1.a5 Q1.a6 Q1.a7 Q1.a8 Q1.a9 Q1.a10 Q1.a11 Q1.a12 Q1.a13 Q1.a14 Q1.a15 d
def Q1.up(d:Dg):Q1→AV→(Q1→Bool)→Bool:=Dg.rec (motive:=fun _=>Q1→AV→(Q1→Bool)→Bool) Q1.u0 Q1.u1 Q1.u2 Q1.u3 Q1.u4 Q1.u5 Q1.u6 Q1.u7 Q1.u8 Q1.u9 Q1.fp Q1.fm Q1.fl Q1.fk Q1.fj Q1.fi d
def Q1.Bw{β:Type}(d:Dg)(k:(Q1→AV)→(Q1→AV→(Q1→Bool)→Bool)→β):β:=Dg.rec (motive:=fun _=>β) (k Q1.a0 Q1.u0) (k Q1.a1 Q1.u1) (k Q1.a2 Q1.u2) (k Q1.a3 Q1.u3) (k Q1.a4 Q1.u4) (k Q1.a5 Q1.u5) (k Q1.a6 Q1.u6) (k Q1.a7 Q1.u7) (k Q1.a8 Q1.u8) (k Q1.a9 Q1.u9) (k Q1.a10 Q1.fp) (k Q1.a11 Q1.fm) (k Q1.a12 Q1.fl) (k Q1.a13 Q1.fk) (k Q1.a14 Q1.fj) (k Q1.a15 Q1.fi) d
theorem Q1.Kd{β:Type}(d:Dg)(k:(Q1→AV)→(Q1→AV→(Q1→Bool)→Bool)→β):Q1.Bw d k=k (Q1.at d) (Q1.up d):=by cases d<;>rfl
theorem Q1.OM(d:Dg)(q:Q1)(v:AV)(k:Q1→Bool): ∃q',Q1.up d q v k=k q'∧Q1.at d q'=v∧ ∀e,e≠d→Q1.at e q'=Q1.at e q:=by
 cases d<;>exact⟨_,rfl,rfl,fun e he=>by cases e<;>first|rfl|exact absurd rfl he⟩
def Q2.u0:Q2→Q1→(Q2→Bool)→Bool:=fun q v k=>(Q2.rec (motive:=fun _=>Q1→(Q2→Bool)→Bool) (fun x0 x1 x2 x3 x4 x5 x6 x7 x8 x9 x10 x11 x12 x13 x14 x15 v k=>k (Q2.mk v x1 x2 x3 x4 x5 x6 x7 x8 x9 x10 x11 x12 x13 x14 x15))) q v k
def Q2.u1:Q2→Q1→(Q2→Bool)→Bool:=fun q v k=>(Q2.rec (motive:=fun _=>Q1→(Q2→Bool)→Bool) (fun x0 x1 x2 x3 x4 x5 x6 x7 x8 x9 x10 x11 x12 x13 x14 x15 v k=>k (Q2.mk x0 v x2 x3 x4 x5 x6 x7 x8 x9 x10 x11 x12 x13 x14 x15))) q v k
def Q2.u2:Q2→Q1→(Q2→Bool)→Bool:=fun q v k=>(Q2.rec (motive:=fun _=>Q1→(Q2→Bool)→Bool) (fun x0 x1 x2 x3 x4 x5 x6 x7 x8 x9 x10 x11 x12 x13 x14 x15 v k=>k (Q2.mk x0 x1 v x3 x4 x5 x6 x7 x8 x9 x10 x11 x12 x13 x14 x15))) q v k
def Q2.u3:Q2→Q1→(Q2→Bool)→Bool:=fun q v k=>(Q2.rec (motive:=fun _=>Q1→(Q2→Bool)→Bool) (fun x0 x1 x2 x3 x4 x5 x6 x7 x8 x9 x10 x11 x12 x13 x14 x15 v k=>k (Q2.mk x0 x1 x2 v x4 x5 x6 x7 x8 x9 x10 x11 x12 x13 x14 x15))) q v k
def Q2.u4:Q2→Q1→(Q2→Bool)→Bool:=fun q v k=>(Q2.rec (motive:=fun _=>Q1→(Q2→Bool)→Bool) (fun x0 x1 x2 x3 x4 x5 x6 x7 x8 x9 x10 x11 x12 x13 x14 x15 v k=>k (Q2.mk x0 x1 x2 x3 v x5 x6 x7 x8 x9 x10 x11 x12 x13 x14 x15))) q v k
def Q2.u5:Q2→Q1→(Q2→Bool)→Bool:=fun q v k=>(Q2.rec (motive:=fun _=>Q1→(Q2→Bool)→Bool) (fun x0 x1 x2 x3 x4 x5 x6 x7 x8 x9 x10 x11 x12 x13 x14 x15 v k=>k (Q2.mk x0 x1 x2 x3 x4 v x6 x7 x8 x9 x10 x11 x12 x13 x14 x15))) q v k
def Q2.u6:Q2→Q1→(Q2→Bool)→Bool:=fun q v k=>(Q2.rec (motive:=fun _=>Q1→(Q2→Bool)→Bool) (fun x0 x1 x2 x3 x4 x5 x6 x7 x8 x9 x10 x11 x12 x13 x14 x15 v k=>k (Q2.mk x0 x1 x2 x3 x4 x5 v x7 x8 x9 x10 x11 x12 x13 x14 x15))) q v k
def Q2.u7:Q2→Q1→(Q2→Bool)→Bool:=fun q v k=>(Q2.rec (motive:=fun _=>Q1→(Q2→Bool)→Bool) (fun x0 x1 x2 x3 x4 x5 x6 x7 x8 x9 x10 x11 x12 x13 x14 x15 v k=>k (Q2.mk x0 x1 x2 x3 x4 x5 x6 v x8 x9 x10 x11 x12 x13 x14 x15))) q v k
def Q2.u8:Q2→Q1→(Q2→Bool)→Bool:=fun q v k=>(Q2.rec (motive:=fun _=>Q1→(Q2→Bool)→Bool) (fun x0 x1 x2 x3 x4 x5 x6 x7 x8 x9 x10 x11 x12 x13 x14 x15 v k=>k (Q2.mk x0 x1 x2 x3 x4 x5 x6 x7 v x9 x10 x11 x12 x13 x14 x15))) q v k
def Q2.u9:Q2→Q1→(Q2→Bool)→Bool:=fun q v k=>(Q2.rec (motive:=fun _=>Q1→(Q2→Bool)→Bool) (fun x0 x1 x2 x3 x4 x5 x6 x7 x8 x9 x10 x11 x12 x13 x14 x15 v k=>k (Q2.mk x0 x1 x2 x3 x4 x5 x6 x7 x8 v x10 x11 x12 x13 x14 x15))) q v k
def Q2.fp:Q2→Q1→(Q2→Bool)→Bool:=fun q v k=>(Q2.rec (motive:=fun _=>Q1→(Q2→Bool)→Bool) (fun x0 x1 x2 x3 x4 x5 x6 x7 x8 x9 x10 x11 x12 x13 x14 x15 v k=>k (Q2.mk x0 x1 x2 x3 x4 x5 x6 x7 x8 x9 v x11 x12 x13 x14 x15))) q v k
def Q2.fm:Q2→Q1→(Q2→Bool)→Bool:=fun q v k=>(Q2.rec (motive:=fun _=>Q1→(Q2→Bool)→Bool) (fun x0 x1 x2 x3 x4 x5 x6 x7 x8 x9 x10 x11 x12 x13 x14 x15 v k=>k (Q2.mk x0 x1 x2 x3 x4 x5 x6 x7 x8 x9 x10 v x12 x13 x14 x15))) q v k
def Q2.fl:Q2→Q1→(Q2→Bool)→Bool:=fun q v k=>(Q2.rec (motive:=fun _=>Q1→(Q2→Bool)→Bool) (fun x0 x1 x2 x3 x4 x5 x6 x7 x8 x9 x10 x11 x12 x13 x14 x15 v k=>k (Q2.mk x0 x1 x2 x3 x4 x5 x6 x7 x8 x9 x10 x11 v x13 x14 x15))) q v k
def Q2.fk:Q2→Q1→(Q2→Bool)→Bool:=fun q v k=>(Q2.rec (motive:=fun _=>Q1→(Q2→Bool)→Bool) (fun x0 x1 x2 x3 x4 x5 x6 x7 x8 x9 x10 x11 x12 x13 x14 x15 v k=>k (Q2.mk x0 x1 x2 x3 x4 x5 x6 x7 x8 x9 x10 x11 x12 v x14 x15))) q v k
def Q2.fj:Q2→Q1→(Q2→Bool)→Bool:=fun q v k=>(Q2.rec (motive:=fun _=>Q1→(Q2→Bool)→Bool) (fun x0 x1 x2 x3 x4 x5 x6 x7 x8 x9 x10 x11 x12 x13 x14 x15 v k=>k (Q2.mk x0 x1 x2 x3 x4 x5 x6 x7 x8 x9 x10 x11 x12 x13 v x15))) q v k
def Q2.fi:Q2→Q1→(Q2→Bool)→Bool:=fun q v k=>(Q2.rec (motive:=fun _=>Q1→(Q2→Bool)→Bool) (fun x0 x1 x2 x3 x4 x5 x6 x7 x8 x9 x10 x11 x12 x13 x14 x15 v k=>k (Q2.mk x0 x1 x2 x3 x4 x5 x6 x7 x8 x9 x10 x11 x12 x13 x14 v))) q v k
def Q2.at(d:Dg):Q2→Q1:=Dg.rec (motive:=fun _=>Q2→Q1) Q2.a0 Q2.a1 Q2.a2 Q2.a3 Q2.a4 Q2.a5 Q2.a6 Q2.a7 Q2.a8 Q2.a9 Q2.a10 Q2.a11 Q2.a12 Q2.a13 Q2.a14 Q2.a15 d
def Q2.up(d:Dg):Q2→Q1→(Q2→Bool)→Bool:=Dg.rec (motive:=fun _=>Q2→Q1→(Q2→Bool)→Bool) Q2.u0 Q2.u1 Q2.u2 Q2.u3 Q2.u4 Q2.u5 Q2.u6 Q2.u7 Q2.u8 Q2.u9 Q2.fp Q2.fm Q2.fl Q2.fk Q2.fj Q2.fi d
def Q2.Bw{β:Type}(d:Dg)(k:(Q2→Q1)→(Q2→Q1→(Q2→Bool)→Bool)→β):β:=Dg.rec (motive:=fun _=>β) (k Q2.a0 Q2.u0) (k Q2.a1 Q2.u1) (k Q2.a2 Q2.u2) (k Q2.a3 Q2.u3) (k Q2.a4 Q2.u4) (k Q2.a5 Q2.u5) (k Q2.a6 Q2.u6) (k Q2.a7 Q2.u7) (k Q2.a8 Q2.u8) (k Q2.a9 Q2.u9) (k Q2.a10 Q2.fp) (k Q2.a11 Q2.fm) (k Q2.a12 Q2.fl) (k Q2.a13 Q2.fk) (k Q2.a14 Q2.fj) (k Q2.a15 Q2.fi) d
theorem Q2.Kd{β:Type}(d:Dg)(k:(Q2→Q1)→(Q2→Q1→(Q2→Bool)→Bool)→β):Q2.Bw d k=k (Q2.at d) (Q2.up d):=by cases d<;>rfl
theorem Q2.OM(d:Dg)(q:Q2)(v:Q1)(k:Q2→Bool): ∃q',Q2.up d q v k=k q'∧Q2.at d q'=v∧ ∀e,e≠d→Q2.at e q'=Q2.at e q:=by
 cases d<;>exact⟨_,rfl,rfl,fun e he=>by cases e<;>first|rfl|exact absurd rfl he⟩

def ND(n:Nat):Option Dg:=match n with
 |0=>some .d0
 |1=>some .d1
 |2=>some .d2
 |3=>some .d3
 |4=>some .d4
 |5=>some .d5
 |6=>some .d6
 |7=>some .d7
 |8=>some .d8
 |9=>some .d9
 |10=>some .d10
 |11=>some .d11
 |12=>some .d12
 |13=>some .d13
 |14=>some .d14
 |15=>some .d15
 |_=>none
def Dg.num(d:Dg):Nat:=match d with
 |.d0=>0
 |.d1=>1
 |.d2=>2
 |.d3=>3
 |.d4=>4
 |.d5=>5
 |.d6=>6
 |.d7=>7
 |.d8=>8
 |.d9=>9
 |.d10=>10
 |.d11=>11
 |.d12=>12
 |.d13=>13
 |.d14=>14
 |.d15=>15
theorem IT{n:Nat}{d:Dg}(h:ND n=some d):n=d.num:=by
 unfold ND at h
 split at h<;>first|(injection h with h;subst h;rfl)|cases h
theorem Dg.RI{d e:Dg}(h:d.num=e.num):d=e:=by cases d<;>cases e<;>first|rfl|(simp[Dg.num]at h;done)

abbrev KB:=Q2→St→Bool
abbrev Y8:=FuncId→List AV→St→(AV→St→Bool)→Bool
abbrev OB:=Y8→KB→Q2→St→Bool
abbrev AL:=Q2→AV→KB→St→Bool
abbrev KV:=AV→Bool
structure CI where
 run:OB
def W4(t:Nat)(q:Q2):AV:=match ND (t/16)with
 |some i=>(match ND (t % 16)with
  |some j=>Q1.at j (Q2.at i q)
  |none=>.tup [])
 |none=>.tup []
def kD(g1:Q1→AV)(g2:Q2→Q1):Q2→AV:=fun T=>g1 (g2 T)
def uh:AV→KV→Bool:=AV.rec (motive_1:=fun _=>KV→Bool) (motive_2:=fun _=>Unit) (fun b k=>k (.bool b)) (fun j n k=>k (.int j n)) (fun l k=>k (.str l)) (fun k=>k .nilp) (fun c m o k=>k (.ptr c m o)) (fun k=>k .nils) (fun c m o l z k=>k (.sl c m o l z)) (fun c m o a z k=>k (.slz c m o a z)) (fun b o s k=>k (.sl0 b o s)) (fun f a c _ _ k=>k (.fn f a c)) (fun k=>k .nilf) (fun t v _ k=>k (.ifc t v)) (fun k=>k .nili) (fun c k=>k (.mp c)) (fun k=>k .nilm) (fun l _ k=>k (.agg l)) (fun l _ k=>k (.tup l)) () (fun _ _ _ _=>())
theorem Ma(v:AV)(k:KV):uh v k=k v:=by cases v<;>rfl
def km(u1:Q1→AV→(Q1→Bool)→Bool)(g2:Q2→Q1)(u2:Q2→Q1→(Q2→Bool)→Bool):AL:=fun T v K st=>uh v fun v=>u1 (g2 T) v fun q=>u2 T q fun T=>K T st
def XT{β:Type}(t:Nat)(bad:β)(k:(Q2→AV)→AL→β):β:=match ND (t/16)with
 |some i=>(match ND (t % 16)with
  |some j=>Q1.Bw j fun g1 u1=>Q2.Bw i fun g2 u2=>k (kD g1 g2) (km u1 g2 u2)
  |none=>bad)
 |none=>bad
def aA:OB:=fun _ _ _ _=>false
def Jl:CI:=⟨aA⟩
def Uh{β:Type}(G:Env)(x:Operand)(bad:β)(k:(Q2→AV)→β):β:=match x with
 |.tmp t=>XT t bad fun g _=>k g
 |.const v=>Option.rec bad (fun a=>k (fun _=>a)) (ofConst v)
 |.global g=>Qj (G.g g) (k (fun _=>.ptr g 0 0)) bad
 |.func f=>k (fun _=>.fn f [] [])
def Rt(N:Nat)(d:Option Nat)(k:AL→CI):CI:=match d with
 |none=>k (fun T _ K st=>K T st)
 |some t=>Qj (Nat.ble (t+1) N) (XT t Jl fun _ p=>k p) Jl
def Hb{β:Type}(G:Env)(bad:β)(l:List Operand):(List (Q2→AV)→β)→β:=List.rec (fun k=>k []) (fun x _ ih k=>Uh G x bad fun g=>ih fun gs=>k (g::gs)) l
def BT(gs:List (Q2→AV)):Q2→(List AV→Bool)→Bool:=List.rec (fun _ k=>k []) (fun g _ ih T k=>ih T fun l=>k (g T::l)) gs
def kW(G:Env)(q:Q2)(x:Operand):Option AV:=match x with
 |.tmp t=>some (W4 t q)
 |.const v=>ofConst v
 |.global g=>Q4 (G.g g) (some (.ptr g 0 0))
 |.func f=>some (.fn f [] [])
def HY{α:Type}(x:Option α)(k:α→Bool):Bool:=Option.rec false k x

def kY(g:Q2→AV)(p:AL):OB:=fun _ K T st=>p T (g T) K st
def aT(f:AV→KV→Bool)(g:Q2→AV)(p:AL):OB:=fun _ K T st=>f (g T) fun v=>p T v K st
def kP(f:AV→AV→KV→Bool)(g h:Q2→AV)(p:AL):OB:=fun _ K T st=>f (g T) (h T) fun v=>p T v K st
def l5(f:AV→St→KV→Bool)(g:Q2→AV)(p:AL):OB:=fun _ K T st=>f (g T) st fun v=>p T v K st
def lr(f:AV→AV→St→(AV→St→Bool)→Bool)(g h:Q2→AV)(p:AL):OB:=fun _ K T st=>f (g T) (h T) st fun v st=>p T v K st
def lB(f:St→(AV→St→Bool)→Bool)(p:AL):OB:=fun _ K T st=>f st fun v st=>p T v K st
def vJ:AV→AV→AV→KV→Bool:=(AV.rec (motive_1:=fun _=>AV→AV→KV→Bool) (motive_2:=fun _=>Unit) (fun b x y k=>Bool.rec (k y) (k x) b) ((fun _ _=>fun _ _ _=>false)) ((fun _=>fun _ _ _=>false)) (fun _ _ _=>false) ((fun _ _ _=>fun _ _ _=>false)) (fun _ _ _=>false) ((fun _ _ _ _ _=>fun _ _ _=>false)) ((fun _ _ _ _ _=>fun _ _ _=>false)) ((fun _ _ _=>fun _ _ _=>false)) ((fun _ _ _ _ _=>fun _ _ _=>false)) (fun _ _ _=>false) ((fun _ _ _=>fun _ _ _=>false)) (fun _ _ _=>false) ((fun _=>fun _ _ _=>false)) (fun _ _ _=>false) ((fun _ _=>fun _ _ _=>false)) ((fun _ _=>fun _ _ _=>false)) () (fun _ _ _ _=>()))
def lu(f g h:Q2→AV)(p:AL):OB:=fun _ K T st=>vJ (f T) (g T) (h T) fun v=>p T v K st
def iw(f:FuncId)(gs:List (Q2→AV))(p:AL):OB:=fun cc K T st=>BT gs T fun l=>cc f l st fun v st=>p T v K st
def vY:AV→Y8→List AV→St→(AV→St→Bool)→Bool:=(AV.rec (motive_1:=fun _=>Y8→List AV→St→(AV→St→Bool)→Bool) (motive_2:=fun _=>Unit) ((fun _=>fun _ _ _ _=>false)) ((fun _ _=>fun _ _ _ _=>false)) ((fun _=>fun _ _ _ _=>false)) (fun _ _ _ _=>false) ((fun _ _ _=>fun _ _ _ _=>false)) (fun _ _ _ _=>false) ((fun _ _ _ _ _=>fun _ _ _ _=>false)) ((fun _ _ _ _ _=>fun _ _ _ _=>false)) ((fun _ _ _=>fun _ _ _ _=>false)) (fun f a cap _ _ cc l st k=>cc f (UY a (UY l cap)) st k) (fun _ _ _ _=>false) ((fun _ _ _=>fun _ _ _ _=>false)) (fun _ _ _ _=>false) ((fun _=>fun _ _ _ _=>false)) (fun _ _ _ _=>false) ((fun _ _=>fun _ _ _ _=>false)) ((fun _ _=>fun _ _ _ _=>false)) () (fun _ _ _ _=>()))
def ye(g:Q2→AV)(gs:List (Q2→AV))(p:AL):OB:=fun cc K T st=>BT gs T fun l=>vY (g T) cc l st fun v st=>p T v K st
def ij(P:Program)(name:String)(v:AV)(cc:Y8)(l:List AV)(st:St)(k:AV→St→Bool):Bool:=match v with
 |.ifc t u=>HY (XY P t name) fun fid=>cc fid (u::l) st k
 |_=>false
def kB(P:Program)(name:String)(g:Q2→AV)(gs:List (Q2→AV))(p:AL):OB:=fun cc K T st=>BT gs T fun l=>ij P name (g T) cc l st fun v st=>p T v K st
def MJ:AV→Bool→Bool→Bool→Bool:=(AV.rec (motive_1:=fun _=>Bool→Bool→Bool→Bool) (motive_2:=fun _=>Unit) (fun b pol x y=>Bool.rec (Bool.rec x y pol) (Bool.rec y x pol) b) ((fun _ _=>fun _ _ y=>y)) ((fun _=>fun _ _ y=>y)) (fun _ _ y=>y) ((fun _ _ _=>fun _ _ y=>y)) (fun _ _ y=>y) ((fun _ _ _ _ _=>fun _ _ y=>y)) ((fun _ _ _ _ _=>fun _ _ y=>y)) ((fun _ _ _=>fun _ _ y=>y)) ((fun _ _ _ _ _=>fun _ _ y=>y)) (fun _ _ y=>y) ((fun _ _ _=>fun _ _ y=>y)) (fun _ _ y=>y) ((fun _=>fun _ _ y=>y)) (fun _ _ y=>y) ((fun _ _=>fun _ _ y=>y)) ((fun _ _=>fun _ _ y=>y)) () (fun _ _ _ _=>()))
def ld(g:Q2→AV)(pol:Bool)(r:OB)(p:AL):OB:=fun cc K T st=>MJ (g T) pol (r cc K T st) (p T (.tup []) K st)
def TX(P:Program)(G:Env)(o:Op)(p:AL):OB:=fun _ K T st=>HY (ME P (kW G T) o st) fun r=>p T r.1 K r.2

def Tr.kE{α:Type}(t:Tr α):Nat→Option α:=
 Tr.rec (fun _=>none) (fun v _ _ gl gr n=>Bool.rec (Bool.rec (gr (Nat.div n 2)) (gl (Nat.div n 2)) (Nat.beq (Nat.mod n 2) 0)) v (Nat.beq n 0)) t
abbrev Xi:=List AV→Nat→KV→Bool
def zI(n:Nat):Xi:=fun l off k=>HY (V7 n (VR off l) fun r=>some (.agg r)) k
def zH:Xi:=fun l off k=>HY (nth l off) k
def WA{β:Type}(P:Program)(t:TypeId)(bad:β)(k:Xi→β):β:=match tk P t with
 |.agg n=>k (zI n)
 |.one=>k zH
 |.bad=>bad
def vN(ro:Bool)(ms:List (Nat×Nat×Option (List AV)))(m off:Nat)(pt:Xi)(k:KV):Bool:=HY (nth ms m) fun x=>HY x.2.2 fun l=>pt l off k
def ig:EJ→Nat→Nat→Xi→KV→Bool:=EJ.rec (motive:=fun _=>Nat→Nat→Xi→KV→Bool) vN (fun _ _ _ _ _ _ _=>false) (fun _ _ _ _ _ _=>false)
def vO:Option EJ→Nat→Nat→Xi→KV→Bool:=Option.rec (motive:=fun _=>Nat→Nat→Xi→KV→Bool) (fun _ _ _ _=>false) ig
def Oe(pt:Xi):AV→St→KV→Bool:=fun x st k=>(AV.rec (motive_1:=fun _=>St→Xi→KV→Bool) (motive_2:=fun _=>Unit) ((fun _=>fun _ _ _=>false)) ((fun _ _=>fun _ _ _=>false)) ((fun _=>fun _ _ _=>false)) (fun _ _ _=>false) (fun c m off st pt k=>vO (Tr.kE st.h c) m off pt k) (fun _ _ _=>false) ((fun _ _ _ _ _=>fun _ _ _=>false)) ((fun _ _ _ _ _=>fun _ _ _=>false)) ((fun _ _ _=>fun _ _ _=>false)) ((fun _ _ _ _ _=>fun _ _ _=>false)) (fun _ _ _=>false) ((fun _ _ _=>fun _ _ _=>false)) (fun _ _ _=>false) ((fun _=>fun _ _ _=>false)) (fun _ _ _=>false) ((fun _ _=>fun _ _ _=>false)) ((fun _ _=>fun _ _ _=>false)) () (fun _ _ _ _=>())) x st pt k
def kG(o:Nat):AV→KV→Bool:=fun x k=>(AV.rec (motive_1:=fun _=>Nat→KV→Bool) (motive_2:=fun _=>Unit) ((fun _=>fun _ _=>false)) ((fun _ _=>fun _ _=>false)) ((fun _=>fun _ _=>false)) (fun _ _=>false) (fun c m off o k=>JA (Nat.add off o) fun z=>k (.ptr c m z)) (fun _ _=>false) ((fun _ _ _ _ _=>fun _ _=>false)) ((fun _ _ _ _ _=>fun _ _=>false)) ((fun _ _ _=>fun _ _=>false)) ((fun _ _ _ _ _=>fun _ _=>false)) (fun _ _=>false) ((fun _ _ _=>fun _ _=>false)) (fun _ _=>false) ((fun _=>fun _ _=>false)) (fun _ _=>false) ((fun _ _=>fun _ _=>false)) ((fun _ _=>fun _ _=>false)) () (fun _ _ _ _=>())) x o k
def kX:AV→KV→Bool:=(AV.rec (motive_1:=fun _=>KV→Bool) (motive_2:=fun _=>Unit) ((fun _=>fun _=>false)) ((fun _ _=>fun _=>false)) ((fun _=>fun _=>false)) (fun _=>false) (fun c m off k=>k (.ptr c m off)) (fun _=>false) ((fun _ _ _ _ _=>fun _=>false)) ((fun _ _ _ _ _=>fun _=>false)) ((fun _ _ _=>fun _=>false)) (fun f a c _ _ k=>k (.fn f a c)) (fun _=>false) ((fun _ _ _=>fun _=>false)) (fun _=>false) ((fun _=>fun _=>false)) (fun _=>false) ((fun _ _=>fun _=>false)) ((fun _ _=>fun _=>false)) () (fun _ _ _ _=>()))
def wC(P:Program)(t:TypeId):AV→AV→St→(AV→St→Bool)→Bool:=fun x y st k=>HY (Wd P t x y st) fun r=>k r.1 r.2
def aK(P:Program)(t:TypeId):St→(AV→St→Bool)→Bool:=fun st k=>HY (Wt P t st) fun r=>k r.1 r.2
def l8(P:Program)(t:TypeId):AV→AV→KV→Bool:=fun x y k=>HY (J3 P t x y) k
def l7(P:Program)(t:TypeId):AV→AV→KV→Bool:=fun x y k=>HY (Az P t x y) k
def lj(i:Nat):AV→KV→Bool:=fun x k=>(AV.rec (motive_1:=fun _=>Nat→KV→Bool) (motive_2:=fun _=>Unit) ((fun _=>fun _ _=>false)) ((fun _ _=>fun _ _=>false)) ((fun _=>fun _ _=>false)) (fun _ _=>false) ((fun _ _ _=>fun _ _=>false)) (fun _ _=>false) ((fun _ _ _ _ _=>fun _ _=>false)) ((fun _ _ _ _ _=>fun _ _=>false)) ((fun _ _ _=>fun _ _=>false)) ((fun _ _ _ _ _=>fun _ _=>false)) (fun _ _=>false) ((fun _ _ _=>fun _ _=>false)) (fun _ _=>false) ((fun _=>fun _ _=>false)) (fun _ _=>false) ((fun _ _=>fun _ _=>false)) (fun l _ i k=>HY (nth l i) k) () (fun _ _ _ _=>())) x i k
def ic(P:Program)(ts:List TypeId):AV→KV→Bool:=fun x k=>HY (Iv P ts x) k

def jS{α:Type}(k:IntKind)(x z:α):α:=IntKind.rec (motive:=fun _=>α→α→α) (fun _ z=>z) (fun _ z=>z) (fun _ z=>z) (fun x _=>x) (fun _ z=>z) (fun _ z=>z) (fun _ z=>z) (fun _ z=>z) k x z
def ik(f:Int→Int→KV→Bool→Bool):AV→AV→KV→Bool→Bool:=fun x y k z=>
 (AV.rec (motive_1:=fun _=>AV→(Int→Int→KV→Bool→Bool)→KV→Bool→Bool) (motive_2:=fun _=>Unit) ((fun _=>fun _ _ _ z=>z)) (fun j a y f k z=>(AV.rec (motive_1:=fun _=>IntKind→Int→(Int→Int→KV→Bool→Bool)→KV→Bool→Bool) (motive_2:=fun _=>Unit) ((fun _=>fun _ _ _ _ z=>z)) (fun i b j a f k z=>jS j (jS i (f a b k z) z) z) ((fun _=>fun _ _ _ _ z=>z)) (fun _ _ _ _ z=>z) ((fun _ _ _=>fun _ _ _ _ z=>z)) (fun _ _ _ _ z=>z) ((fun _ _ _ _ _=>fun _ _ _ _ z=>z)) ((fun _ _ _ _ _=>fun _ _ _ _ z=>z)) ((fun _ _ _=>fun _ _ _ _ z=>z)) ((fun _ _ _ _ _=>fun _ _ _ _ z=>z)) (fun _ _ _ _ z=>z) ((fun _ _ _=>fun _ _ _ _ z=>z)) (fun _ _ _ _ z=>z) ((fun _=>fun _ _ _ _ z=>z)) (fun _ _ _ _ z=>z) ((fun _ _=>fun _ _ _ _ z=>z)) ((fun _ _=>fun _ _ _ _ z=>z)) () (fun _ _ _ _=>())) y j a f k z) ((fun _=>fun _ _ _ z=>z)) (fun _ _ _ z=>z) ((fun _ _ _=>fun _ _ _ z=>z)) (fun _ _ _ z=>z) ((fun _ _ _ _ _=>fun _ _ _ z=>z)) ((fun _ _ _ _ _=>fun _ _ _ z=>z)) ((fun _ _ _=>fun _ _ _ z=>z)) ((fun _ _ _ _ _=>fun _ _ _ z=>z)) (fun _ _ _ z=>z) ((fun _ _ _=>fun _ _ _ z=>z)) (fun _ _ _ z=>z) ((fun _=>fun _ _ _ z=>z)) (fun _ _ _ z=>z) ((fun _ _=>fun _ _ _ z=>z)) ((fun _ _=>fun _ _ _ z=>z)) () (fun _ _ _ _=>())) x y f k z
def kH:Int→Int→KV→Bool→Bool:=fun a b k z=>k (.bool (A5 a b))
def ku:Int→Int→KV→Bool→Bool:=fun a b k z=>k (.bool (!A5 a b))
def k9:Int→Int→KV→Bool→Bool:=fun a b k z=>k (.bool (LX a b))
def kA:Int→Int→KV→Bool→Bool:=fun a b k z=>k (.bool (!LX b a))
def kC:Int→Int→KV→Bool→Bool:=fun a b k z=>k (.bool (LX b a))
def kF:Int→Int→KV→Bool→Bool:=fun a b k z=>k (.bool (!LX a b))
def iF:Int→Int→KV→Bool→Bool:=fun a b k z=>Int.rec (motive:=fun _=>Int→KV→Bool→Bool) (fun m b k z=>Int.rec (motive:=fun _=>Nat→KV→Bool→Bool) (fun n m k z=>Bool.rec z (JA (Nat.add m n) fun s=>k (.int .i64 (Int.ofNat s))) (Nat.ble (Nat.add m n) YD)) (fun _ _ _ z=>z) b m k z) (fun _ _ _ z=>z) a b k z
def Bd(P:Program)(op:BinOp)(t:TypeId):AV→AV→KV→Bool:=fun x y k=>HY (b2 P op t x y) k
def Dy(f:Int→Int→KV→Bool→Bool)(g:AV→AV→KV→Bool):AV→AV→KV→Bool:=fun x y k=>ik f x y k (g x y k)
def iD(P:Program)(op:BinOp)(t:TypeId):AV→AV→KV→Bool:=match op with
 |.eql=>Dy kH (Bd P op t)
 |.neq=>Dy ku (Bd P op t)
 |.lss=>Dy k9 (Bd P op t)
 |.leq=>Dy kA (Bd P op t)
 |.gtr=>Dy kC (Bd P op t)
 |.geq=>Dy kF (Bd P op t)
 |.add=>Dy iF (Bd P op t)
 |_=>Bd P op t

def jU(P:Program)(G:Env)(o:Op)(p:AL):CI:=match o with
 |.move x=>Uh G x Jl fun g=>⟨kY g p⟩
 |.assign x=>Uh G x Jl fun g=>⟨kY g p⟩
 |.pick c a b=>Uh G c Jl fun f=>Uh G a Jl fun g=>Uh G b Jl fun h=>⟨lu f g h p⟩
 |.alloc t=>⟨lB (aK P t) p⟩
 |.load t a=>WA P t Jl fun pt=>Uh G a Jl fun g=>⟨l5 (Oe pt) g p⟩
 |.store t a v=>Uh G a Jl fun g=>Uh G v Jl fun h=>⟨lr (wC P t) g h p⟩
 |.nilCheck x=>Uh G x Jl fun g=>⟨aT kX g p⟩
 |.binOp op t x y _=>Uh G x Jl fun g=>Uh G y Jl fun h=>⟨kP (iD P op t) g h p⟩
 |.fieldAddr t x f=>Uh G x Jl fun g=>Option.rec Jl (fun off=>JA off fun off=>⟨aT (kG off) g p⟩) (Q5 P t f)
 |.indexAddr t x i=>Uh G x Jl fun g=>Uh G i Jl fun h=>⟨kP (l8 P t) g h p⟩
 |.index t x i=>Uh G x Jl fun g=>Uh G i Jl fun h=>⟨kP (l7 P t) g h p⟩
 |.extract t i=>Uh G t Jl fun g=>⟨aT (lj i) g p⟩
 |.call c=>(match c.callee with
  |.value f=>(match f with
   |.func f=>Hb G Jl c.args.toList fun gs=>⟨iw f gs p⟩
   |x=>Uh G x Jl fun g=>Hb G Jl c.args.toList fun gs=>⟨ye g gs p⟩)
  |.invoke x name=>Uh G x Jl fun g=>Hb G Jl c.args.toList fun gs=>⟨kB P name g gs p⟩
  |.builtin b=>(match b with
   |.len=>(match c.args.toList with
    |x::[]=>Qj (YK P c.argTypes.toList) ⟨TX P G o p⟩ (Uh G x Jl fun g=>⟨aT (ic P c.argTypes.toList) g p⟩)
    |_=>Jl)
   |_=>⟨TX P G o p⟩))
 |_=>⟨TX P G o p⟩
def Lf(ops:List Oper)(o:Oper)(p:AL)(c:CI):CI:=match o.guard with
 |none=>c
 |some g=>(match Ui ops g.1 with
  |some t=>XT t Jl fun gt _=>⟨ld gt g.2 c.run p⟩
  |none=>⟨fun _ K T st=>p T (.tup []) K st⟩)
def LC(P:Program)(G:Env)(N:Nat)(ops:List Oper)(o:Oper):CI:=Rt N o.dst fun p=>Lf ops o p (jU P G o.op p)
def wK(l:List CI):Y8→KB→KB:=List.rec (motive:=fun _=>Y8→KB→KB) (fun _ K T st=>K T st) (fun i _ ih cc K T st=>i.run cc (ih cc K) T st) l

inductive DI where
 |plain (c:CI)
 |act (c:CI)
 |read (f:List St→OB)
def Bh(pt:Xi)(x v:AV)(n:Nat):List St→Bool:=Nat.rec (fun _=>true) (fun _ ih l=>List.rec false (fun st t _=>Qj (Oe pt x st fun u=>FY u v) (ih t) false) l) n
def kV(pt:Xi)(n:Nat)(g:Q2→AV)(p:AL)(sn:List St):OB:=fun _ K T st=>Oe pt (g T) st fun v=>Bool.rec false (p T v K st) (Bh pt (g T) v n (List.rec [] (fun _ t _=>t) sn))
def O1(P:Program)(G:Env)(N:Nat)(ops:List Oper)(q:Nat×Oper×Nat):DI:=
 Qj (Nat.beq q.2.2 0) (Qj (Nat.beq (Qx P q.2.1.op) 3) (.act (LC P G N ops q.2.1)) (.plain (LC P G N ops q.2.1)))
  (match q.2.1.op with
  |.load t a=>.read fun sn=>CI.run (Rt N q.2.1.dst fun p=>Lf ops q.2.1 p (WA P t Jl fun pt=>Uh G a Jl fun g=>⟨kV pt q.2.2 g p sn⟩))
  |_=>.plain Jl)
def uM(c:CI):(List St→KB)→Y8→List St→KB:=fun kk cc sn T st=>c.run cc (kk sn) T st
def iu(c:CI):(List St→KB)→Y8→List St→KB:=fun kk cc sn T st=>c.run cc (fun T st=>kk (st::sn) T st) T st
def vU(f:List St→OB):(List St→KB)→Y8→List St→KB:=fun kk cc sn T st=>f sn cc (kk sn) T st
def wG(l:List DI):Y8→KB→List St→KB:=List.rec (motive:=fun _=>Y8→KB→List St→KB) (fun _ K _ T st=>K T st) (fun i _ ih cc K sn T st=>DI.rec (motive:=fun _=>(List St→KB)→Y8→List St→KB) uM iu vU i (ih cc K) cc sn T st) l

inductive CC where
 |skip
 |reg (l:List CI)
 |XO (l:List DI)
 |seq (a b:CC)
 |cond (g:Q2→AV) (a b:CC)
 |block (id:Nat) (b:CC)
 |loop (b:CC)
 |range (hd:AV→St→(Nat→(Nat→St→KV→Bool)→Bool)→Bool) (g:Q2→AV) (p1 p2:AL) (a b:CC)
 |exit (id:Nat)
 |ret
 |bad
def OK{β:Type}(N:Nat)(t:Nat)(bad:β)(k:AL→β):β:=Qj (Nat.ble (t+1) N) (XT t bad fun _ p=>k p) bad
def TW(n:Int)(k:Nat→Bool):Bool:=Int.rec (fun n=>Bool.rec false (k n) (Nat.ble n YD)) (fun _=>false) n
def iP(P:Program)(q:TypeId×TypeId)(x:AV):Nat→St→KV→Bool:=fun i st kv=>HY (QD P q.1 x st.h.get) fun s=>HY (J3 P q.1 s (.int .i64 (Int.ofNat i))) fun a=>HY (QD P q.2 a st.h.get) kv
def iO(P:Program)(G:Env):AV→St→(Nat→(Nat→St→KV→Bool)→Bool)→Bool:=fun v st k=>match v with
 |.fn f first cap=>HY (G.b f) fun q=>(match first with
  |[]=>(match cap with
   |x::[]=>HY (QD P q.1 x st.h.get) fun s=>HY (Iv P [q.1] s) fun n=>(match n with
    |.int _ n=>TW n fun n=>k n (iP P q x)
    |_=>false)
   |_=>false)
  |_=>false)
 |_=>false
def ya(P:Program)(G:Env)(N:Nat)(g:Operand)(ps:List Tmp)(pl:Bool)(a b:CC):CC:=match ps with
 |x::y::[]=>Qj pl (Uh G g .bad fun gg=>OK N x .bad fun p1=>OK N y .bad fun p2=>.range (iO P G) gg p1 p2 a b) .bad
 |_=>.bad
def Ej(P:Program)(G:Env)(N:Nat)(c:Code):CC:=Code.rec (motive:=fun _=>CC)
 .skip
 (fun _ ops draw=>Qj draw (Option.rec .bad (fun pl=>.XO (Hq (O1 P G N ops.toList) pl)) (Zh P ops.toList)) (.reg (Hq (LC P G N ops.toList) ops.toList)))
 (fun _ _ a b=>.seq a b)
 (fun c _ _ a b=>Uh G c .bad fun g=>.cond g a b)
 (fun id _ f=>.block id f)
 (fun _ f=>.loop f)
 (fun g ps x y a b=>ya P G N g ps.toList (Qj (Ux x) (Ux y) false) a b)
 (fun id=>.exit id)
 (fun _ _=>.bad)
 (fun _=>.skip)
 (fun _=>.bad)
 .ret
 (fun _=>.bad)
 c
def vW:AV→KB→KB→Q2→St→Bool:=(AV.rec (motive_1:=fun _=>KB→KB→Q2→St→Bool) (motive_2:=fun _=>Unit) (fun b x y T st=>Bool.rec (y T st) (x T st) b) ((fun _ _=>fun _ _ _ _=>false)) ((fun _=>fun _ _ _ _=>false)) (fun _ _ _ _=>false) ((fun _ _ _=>fun _ _ _ _=>false)) (fun _ _ _ _=>false) ((fun _ _ _ _ _=>fun _ _ _ _=>false)) ((fun _ _ _ _ _=>fun _ _ _ _=>false)) ((fun _ _ _=>fun _ _ _ _=>false)) ((fun _ _ _ _ _=>fun _ _ _ _=>false)) (fun _ _ _ _=>false) ((fun _ _ _=>fun _ _ _ _=>false)) (fun _ _ _ _=>false) ((fun _=>fun _ _ _ _=>false)) (fun _ _ _ _=>false) ((fun _ _=>fun _ _ _ _=>false)) ((fun _ _=>fun _ _ _ _=>false)) () (fun _ _ _ _=>()))
abbrev Zq:=Y8→(Nat→KB)→KB→KB→KB
def ix:Zq:=fun _ _ _ K T st=>K T st
def kK(l:List CI):Zq:=fun cc _ _ K T st=>wK l cc K T st
def iy(l:List DI):Zq:=fun cc _ _ K T st=>wG l cc K [st] T st
def kI(_ _:CC)(f g:Zq):Zq:=fun cc E R K T st=>f cc E R (g cc E R K) T st
def iB(g:Q2→AV)(_ _:CC)(a b:Zq):Zq:=fun cc E R K T st=>vW (g T) (a cc E R K) (b cc E R K) T st
def az(id:Nat)(_:CC)(f:Zq):Zq:=fun cc E R K T st=>f cc (fun i=>Qj (Nat.beq i id) K (E i)) R K T st
def iz(L:Nat)(_:CC)(f:Zq):Zq:=fun cc E R K T st=>Nat.rec (motive:=fun _=>KB) (fun _ _=>false) (fun _ ih=>f cc E R ih) L T st
def ay(hd:AV→St→(Nat→(Nat→St→KV→Bool)→Bool)→Bool)(g:Q2→AV)(p1 p2:AL)(_ _:CC)(fa fb:Zq):Zq:=fun cc E R K T st=>hd (g T) st fun n el=>
 Nat.rec (motive:=fun _=>St→Bool) (fun st=>K T st) (fun i ih st=>el i st fun v=>p1 T (.int .i64 (Int.ofNat i)) (fun T1 st=>p2 T1 v (fun T2 st=>fa cc (fun _ _ _=>false) (fun _ _=>false) (fun T3 st=>fb cc (fun id _ st=>E id T st) (fun _ st=>R T st) (fun _ st=>tl (ih st)) T3 st) T2 st) st) st) n st
def iA(id:Nat):Zq:=fun _ E _ _ T st=>E id T st
def kJ:Zq:=fun _ _ R _ T st=>R T st
def kM:Zq:=fun _ _ _ _ _ _=>false
def runK(L:Nat)(c:CC):Zq:=CC.rec (motive:=fun _=>Zq) ix kK iy kI iB az (iz L) ay iA kJ kM c

structure FN where
 code:CC
 n:Nat
 res:List ResultVar
def vX(P:Program)(G:Env)(f:FuncId):Option FN:=ob (FC P f) fun q=>Q4 (Nat.ble q.2.1 256) (some ⟨Ej P G q.2.1 q.1,q.2.1,q.2.2⟩)
def q0:AV:=.tup []
def Q1.zero:Q1:=⟨q0,q0,q0,q0,q0,q0,q0,q0,q0,q0,q0,q0,q0,q0,q0,q0⟩
def Q2.zero:Q2:=⟨.zero,.zero,.zero,.zero,.zero,.zero,.zero,.zero,.zero,.zero,.zero,.zero,.zero,.zero,.zero,.zero⟩
structure Rn where
 put:AL
def putAt(t:Nat):Rn:=XT t ⟨fun _ _ _ _=>false⟩ fun _ p=>⟨p⟩
def yG(l:List AV):Nat→Q2→KB→St→Bool:=List.rec (motive:=fun _=>Nat→Q2→KB→St→Bool) (fun _ T K st=>K T st) (fun v _ ih i T K st=>(putAt i).put T v (fun T st=>ih (Nat.succ i) T K st) st) l
def wI(P:Program)(T:Q2)(st:St)(r:ResultVar)(k:KV):Bool:=match r with
 |.tmp t=>k (W4 t T)
 |.cell a t=>HY (QD P t (W4 a T) st.h.get) k
def KD(P:Program)(l:List ResultVar)(T:Q2)(st:St):(List AV→Bool)→Bool:=List.rec (motive:=fun _=>(List AV→Bool)→Bool) (fun k=>k []) (fun r _ ih k=>wI P T st r fun v=>ih fun l=>k (v::l)) l
def ah(P:Program)(res:List ResultVar)(k:AV→St→Bool):KB:=fun T st=>KD P res T st fun vs=>k (List.rec (.tup []) (fun v t _=>List.rec v (fun _ _ _=>.tup vs) t) vs) st
def Sw(P:Program)(L:Nat)(q:FN)(cc:Y8):List AV→St→(AV→St→Bool)→Bool:=fun args st k=>Bool.rec false (yG args 0 .zero (fun T st=>runK L q.code cc (fun _ _ _=>false) (ah P q.res k) (ah P q.res k) T st) st) (Nat.ble (UM args) q.n)
def Za(P:Program)(G:Env)(L:Nat)(fuel:Nat):Y8:=Nat.rec (motive:=fun _=>Y8) (fun _ _ _ _=>false) (fun _ ih f args st k=>Option.rec (HY (vX P G f) fun q=>tl (Sw P L q ih args st k)) (fun sm=>HY (sm args st) fun r=>k r.1 r.2) (G.s f)) fuel
def Yy:AV→St→Bool:=fun v _=>(AV.rec (motive_1:=fun _=>Bool) (motive_2:=fun _=>Unit) (fun b=>b) ((fun _ _=>false)) ((fun _=>false)) (false) ((fun _ _ _=>false)) (false) ((fun _ _ _ _ _=>false)) ((fun _ _ _ _ _=>false)) ((fun _ _ _=>false)) ((fun _ _ _ _ _=>false)) (false) ((fun _ _ _=>false)) (false) ((fun _=>false)) (false) ((fun _ _=>false)) ((fun _ _=>false)) () (fun _ _ _ _=>())) v

end
end
section
open Go
variable {G:Env} {N:Nat} {P:Program} {t:TypeId} {x:AV}

theorem JN{α:Type}{x:Option α}{k:α→Bool}(h:HY x k=true): ∃a,x=some a∧k a=true:=by
 cases x with
 |none=>cases h
 |some a=>exact⟨a,rfl,h⟩
def JS(T:Tr AV)(q:Q2):Prop:= ∀t,Up T t=W4 t q
theorem GH{t:Nat}{i j:Dg}(hi:ND (t/16)=some i)(hj:ND (t % 16)=some j)(q:Q2):W4 t q=Q1.at j (Q2.at i q):=by
 unfold W4;rw[hi,hj]
theorem X2{β:Type}(Pd:β→Prop){t:Nat}{bad:β}{k:(Q2→AV)→AL→β}(hb:Pd bad)
  (h: ∀g p,(∀q,g q=W4 t q)→(∀q v K st,∃q',p q v K st=K q' st∧ ∀u,W4 u q'=if u=t then v else W4 u q)→Pd (k g p)):Pd (XT t bad k):=by
 unfold XT
 split
 ·rename_i i hi
  split
  ·rename_i j hj;rw[Q1.Kd,Q2.Kd];refine h _ _ (fun q=>(GH hi hj q).symm) fun q v K st=>?_;obtain⟨q1,e1,f1,g1⟩:=Q1.OM j (Q2.at i q) v (fun x=>Q2.up i q x fun T=>K T st);obtain⟨q2,e2,f2,g2⟩:=Q2.OM i q q1 (fun T=>K T st);refine⟨q2,(Ma _ _).trans (e1.trans e2),fun u=>?_⟩
   cases hi':ND (u/16)with
   |none=>
    have:u≠t:=fun e=>by rw[e,hi]at hi';cases hi'
    rw[if_neg this];unfold W4;rw[hi']
   |some i'=>
    cases hj':ND (u % 16)with
    |none=>
     have:u≠t:=fun e=>by rw[e,hj]at hj';cases hj'
     rw[if_neg this];unfold W4;rw[hi',hj']
    |some j'=>
     rw[GH hi' hj',GH hi' hj'];have a1:=IT hi;have a2:=IT hj;have a3:=IT hi';have a4:=IT hj'
     by_cases hii:i'=i
     ·subst hii;rw[f2]
      by_cases hjj:j'=j
      ·subst hjj;rw[f1,if_pos Qe]
      ·have:u≠t:=fun e=>hjj (Dg.RI (by rw[←a4,←a2,e]));rw[if_neg this,g1 _ hjj]
     ·have:u≠t:=fun e=>hii (Dg.RI (by rw[←a3,←a1,e]));rw[if_neg this,g2 _ hii]
  ·exact hb
 ·exact hb
def wj(G:Env)(x:Operand)(g:Q2→AV):Prop:= ∀T q,JS T q→QI G T x=some (g q)
def Im(N:Nat)(d:Option Nat)(p:AL):Prop:= ∀T q v K st,JS T q→p q v K st=true→ ∃T' q',(∀(β:Type) (k:Tr AV→Option β),Yk N d v T k=k T')∧JS T' q'∧K q' st=true
theorem QZ{β:Type}(Pd:β→Prop){x:Operand}{bad:β}{k:(Q2→AV)→β}(hb:Pd bad)(h: ∀g,wj G x g→Pd (k g)):Pd (Uh G x bad k):=by
 cases x with
 |tmp t=>exact X2 (k:=fun g _=>k g) (t:=t) Pd hb fun g p hg _=>h g fun T q hT=>by rw[hg];exact congrArg some (hT t)
 |const v=>
  show Pd (Option.rec bad (fun a=>k (fun _=>a)) (ofConst v))
  cases hv:ofConst v with
  |none=>exact hb
  |some a=>exact h _ fun T q hT=>hv
 |global n=>
  show Pd (Qj (G.g n) (k (fun _=>.ptr n 0 0)) bad)
  cases hg:G.g n with
  |false=>exact hb
  |true=>exact h _ fun T q hT=>by show Q4 (G.g n) _=_;rw[hg];rfl
 |func f=>exact h _ fun T q hT=>rfl
theorem Bv(Pd:CI→Prop){d:Option Nat}{k:AL→CI}(hb:Pd Jl)(h: ∀p,Im N d p→Pd (k p)):Pd (Rt N d k):=by
 cases d with
 |none=>exact h _ fun T q v K st hT hK=>⟨T,q,fun _ _=>rfl,hT,hK⟩
 |some t=>
  show Pd (Qj (Nat.ble (t+1) N) (XT t Jl fun _ p=>k p) Jl)
  cases hn:Nat.ble (t+1) N with
  |false=>exact hb
  |true=>
   refine X2 (k:=fun _ p=>k p) (t:=t) Pd hb fun g p _ hp=>h p fun T q v K st hT hK=>?_;obtain⟨q',e,hq⟩:=hp q v K st;refine⟨T.set t v,q',fun β k=>?_,fun u=>?_,by rw[←e];exact hK⟩
   ·show Q4 (Nat.ble (t+1) N) (T.put t v k)=_;rw[hn,Tr.put_eq];rfl
   ·rw[UI,hq,hT u]
theorem NL{β:Type}(Pd:β→Prop){t:Nat}{bad:β}{k:AL→β}(hb:Pd bad)(h: ∀p,Im N (some t) p→Pd (k p)):Pd (OK N t bad k):=by
 unfold OK
 cases hn:Nat.ble (t+1) N with
 |false=>exact hb
 |true=>
  refine X2 (k:=fun _ p=>k p) (t:=t) Pd hb fun g p _ hp=>h p fun T q v K st hT hK=>?_;obtain⟨q',e,hq⟩:=hp q v K st;refine⟨T.set t v,q',fun β k=>?_,fun u=>?_,by rw[←e];exact hK⟩
  ·show Q4 (Nat.ble (t+1) N) (T.put t v k)=_;rw[hn,Tr.put_eq];rfl
  ·rw[UI,hq,hT u]
theorem Ha{β:Type}(Pd:β→Prop){bad:β}(hb:Pd bad): ∀(l:List Operand) {k:List (Q2→AV)→β},(∀gs,(∀T q,JS T q→J7 (QI G T) l=some (gs.map fun g=>g q))→Pd (k gs))→Pd (Hb G bad l k):=by
 intro l
 induction l with
 |nil=>intro k h;exact h [] fun T q hT=>rfl
 |cons x l ih=>
  intro k h;show Pd (Uh G x bad fun g=>Hb G bad l fun gs=>k (g::gs));refine QZ Pd hb fun g hg=>ih fun gs hgs=>h _ fun T q hT=>?_;rw[Jo,hg T q hT,Qf,hgs T q hT,Qf];rfl
theorem Gp(gs:List (Q2→AV))(q:Q2): ∀k:List AV→Bool,BT gs q k=k (gs.map fun g=>g q):=by
 induction gs with
 |nil=>intro k;rfl
 |cons g gs ih=>intro k;show BT gs q (fun l=>k (g q::l))=_;rw[ih];rfl
theorem eo{T:Tr AV}{q:Q2}(h:JS T q):kW G q=QI G T:=by
 funext x
 cases x with
 |tmp t=>exact congrArg some (h t).symm
 |const v=>rfl
 |global g=>rfl
 |func f=>rfl

def U4(cc:Y8)(call:JI):Prop:= ∀f args st k,cc f args st k=true→ ∃v st',call f args st=some (v,st')∧k v st'=true
def Y7(P:Program)(G:Env)(N:Nat)(o:Oper)(r:OB):Prop:= ∀call cc,U4 cc call→ ∀T q st K,JS T q→r cc K q st=true→
 ∃v st' T' q',HX P (QI G T) call o st=some (v,st')∧(∀(β:Type) (k:Tr AV→Option β),Yk N o.dst v T k=k T')∧JS T' q'∧K q' st'=true
theorem WX(P:Program)(G:Env)(N:Nat)(o:Oper):Y7 P G N o Jl.run:=fun _ _ _ _ _ _ _ _ h=>by cases h
theorem Om{o:Oper}{p:AL}(hp:Im N o.dst p){call:JI}{T:Tr AV}{q:Q2}{st st':St}{K:KB}{v:AV}(hT:JS T q)(ho:HX P (QI G T) call o st=some (v,st'))(h:p q v K st'=true):
  ∃v st' T' q',HX P (QI G T) call o st=some (v,st')∧(∀(β:Type) (k:Tr AV→Option β),Yk N o.dst v T k=k T')∧JS T' q'∧K q' st'=true:=by
 obtain⟨T',q',h1,h2,h3⟩:=hp T q v K st' hT h;exact⟨v,st',T',q',ho,h1,h2,h3⟩
theorem jW{o:Oper}{p:AL}(hp:Im N o.dst p)(hn: ∀R call st,HX P R call o st=ME P R o.op st):Y7 P G N o (TX P G o.op p):=by
 intro call cc hc T q st K hT h;obtain⟨⟨v,st'⟩,h1,h2⟩:=JN h;rw[eo hT]at h1;exact Om hp hT (by rw[hn,h1]) h2

theorem qO{a b:AV}{k:KV}(h:vJ x a b k=true): ∃t,x=.bool t∧k (Qj t a b)=true:=by
 cases x<;>first|(cases h;done)|skip
 rename_i t;refine⟨t,rfl,?_⟩
 cases t<;>exact h
theorem RD{β:Type}(Pd:β→Prop){bad:β}{k:Xi→β}(hb:Pd bad)(h: ∀pt:Xi,(∀l off kv,pt l off kv=true→ ∃v,Y4 P t l off=some v∧kv v=true)→Pd (k pt)):Pd (WA P t bad k):=by
 unfold WA
 split
 ·rename_i n hk
  exact h _ fun l off kv hkv=>by
   obtain⟨v,h1,h2⟩:=JN hkv;exact⟨v,by unfold Y4;rw[hk];exact h1,h2⟩
 ·rename_i hk
  exact h _ fun l off kv hkv=>by
   obtain⟨v,h1,h2⟩:=JN hkv;exact⟨v,by unfold Y4;rw[hk];exact h1,h2⟩
 ·exact hb
theorem KX{pt:Xi}(hpt: ∀l off kv,pt l off kv=true→ ∃v,Y4 P t l off=some v∧kv v=true){st:St}{k:KV}(h:Oe pt x st k=true): ∃v,QD P t x st.h.get=some v∧k v=true:=by
 cases x<;>first|(cases h;done)|skip
 rename_i c m off;replace h:vO (Tr.get st.h c) m off pt k=true:=h
 cases hc:Tr.get st.h c with
 |none=>rw[hc]at h;cases h
 |some C=>
  rw[hc]at h
  cases C with
  |iter=>cases h
  |map=>cases h
  |row ro ms=>
   replace h:vN ro ms m off pt k=true:=h;obtain⟨x,h1,h⟩:=JN h;obtain⟨l,h2,h⟩:=JN h;obtain⟨v,h3,h4⟩:=hpt _ _ _ h;refine⟨v,?_,h4⟩;show ob (rowOf st.h.get c m) _=_;unfold rowOf;rw[hc,Qf];show ob (ob (nth ms m) _) _=_;rw[h1,Qf,h2,Qf,Qf];exact h3
theorem eV{f o:Nat}(ho:Q5 P t f=some o){k:KV}(h:kG o x k=true): ∃v,Z6 P t x f=some v∧k v=true:=by
 cases x<;>first|(cases h;done)|skip
 rename_i c m off;replace h:JA (Nat.add off o) (fun z=>k (.ptr c m z))=true:=h;rw[QC]at h;refine⟨.ptr c m (off+o),?_,h⟩;show ob (Q5 P t f) _=_;rw[ho,Qf,QC]
theorem eL{k:KV}(h:kX x k=true):((∃c m off,x=.ptr c m off)∨ ∃f a c,x=.fn f a c)∧k x=true:=by
 cases x<;>first|(cases h;done)|exact⟨.inl ⟨_,_,_,rfl⟩,h⟩|exact⟨.inr ⟨_,_,_,rfl⟩,h⟩
theorem eW{i:Nat}{k:KV}(h:lj i x k=true): ∃l v,x=.tup l∧nth l i=some v∧k v=true:=by
 cases x<;>first|(cases h;done)|skip
 rename_i l;obtain⟨v,h1,h2⟩:=JN h;exact⟨l,v,rfl,h1,h2⟩
theorem RW{α:Type}{k:IntKind}{x z:α}:jS k x z=if k=.i64 then x else z:=by cases k<;>rfl
theorem xF{f:Int→Int→KV→Bool→Bool}{y:AV}{k:KV}{z:Bool}(h:ik f x y k z=true):z=true∨ ∃a b,x=.int .i64 a∧y=.int .i64 b∧f a b k z=true:=by
 cases x<;>first|exact .inl h|skip
 rename_i j a
 cases y<;>first|exact .inl h|skip
 rename_i i b;replace h:jS j (jS i (f a b k z) z) z=true:=h;rw[RW,RW]at h
 split at h
 ·rename_i e1
  split at h
  ·rename_i e2;subst e1 e2;exact .inr ⟨a,b,rfl,rfl,h⟩
  ·exact .inl h
 ·exact .inl h
theorem S5{op:BinOp}{f:Int→Int→KV→Bool→Bool}(hf: ∀a b k z,f a b k z=true→z=true∨ ∃v,wa op .i64 a b=some v∧k v=true)
  (hop: ∀a b,b2 P op t (.int .i64 a) (.int .i64 b)=wa op .i64 a b) {x y:AV} {k:KV} (h:Dy f (Bd P op t) x y k=true): ∃v,b2 P op t x y=some v∧k v=true:=by
 rcases xF h with h|⟨a,b,rfl,rfl,h⟩
 ·exact JN h
 ·rcases hf _ _ _ _ h with h|⟨v,h1,h2⟩
  ·exact JN h
  ·exact⟨v,by rw[hop];exact h1,h2⟩
theorem vh(a b:Int)(k:KV)(z:Bool)(h:iF a b k z=true):z=true∨ ∃v,wa .add .i64 a b=some v∧k v=true:=by
 cases a with
 |negSucc m=>exact .inl h
 |ofNat m=>cases b with
  |negSucc n=>exact .inl h
  |ofNat n=>
   replace h:Bool.rec (motive:=fun _=>Bool) z (JA (Nat.add m n) fun s=>k (.int .i64 (Int.ofNat s))) (Nat.ble (Nat.add m n) YD)=true:=h
   cases hb:Nat.ble (Nat.add m n) YD with
   |false=>rw[hb]at h;exact .inl h
   |true=>
    rw[hb]at h;replace h:JA (Nat.add m n) (fun s=>k (.int .i64 (Int.ofNat s)))=true:=h;rw[QC]at h;refine .inr ⟨.int .i64 (Int.ofNat (m+n)),?_,h⟩;unfold wa;simp only[UE,JX];have:=XG hb
    have e:IntKind.wrap .i64 (Int.ofNat m+Int.ofNat n)=Int.ofNat m+Int.ofNat n:=IntWalk.i64_in _ (by
     have:m+n≤9223372036854775807:=this;simp only[Int.ofNat_eq_natCast]
     omega)
    rw[e];rfl
theorem xZ{op:BinOp}{y:AV}{k:KV}(h:iD P op t x y k=true): ∃v,b2 P op t x y=some v∧k v=true:=by
 cases op<;>first
  |exact JN h
  |exact S5 (fun a b k z h=>.inr ⟨_,rfl,h⟩) (fun a b=>by show Q4 (I8 .i64 .i64) _=_;rw[I8,decide_eq_true rfl];rfl) h
  |exact S5 vh (fun a b=>by show Q4 (I8 .i64 .i64) _=_;rw[I8,decide_eq_true rfl];rfl) h

end
section
open Go Go.RowKit
variable {G:Env} {P:Program} {T:Tr AV} {o:Oper} {ops:List Oper} {st:St}

theorem jT(P:Program)(G:Env)(N:Nat)(o:Oper)(p:AL)(hp:Im N o.dst p):Y7 P G N o (jU P G o.op p).run:=by
 have hbad:Y7 P G N o Jl.run:=WX P G N o;obtain⟨dst,op,ty,pos,after,guard⟩:=o
 have in_of': ∀{call:JI} {T:Tr AV} {q:Q2} {st st':St} {K:KB} {v:AV},JS T q→HX P (QI G T) call ⟨dst,op,ty,pos,after,guard⟩ st=some (v,st')→p q v K st'=true→
  ∃v st' T' q',HX P (QI G T) call ⟨dst,op,ty,pos,after,guard⟩ st=some (v,st')∧(∀(β:Type) (k:Tr AV→Option β),Yk N dst v T k=k T')∧JS T' q'∧K q' st'=true:=fun hT ho h=>Om hp hT ho h
 cases op with
 |move x=>
  refine QZ (fun c:CI=>Y7 P G N _ c.run) hbad fun g hg=>?_;intro call cc hc T q st K hT h;exact in_of' hT (show ret (QI G T x) st=some (g q,st) by rw[hg T q hT];rfl) h
 |assign x=>
  refine QZ (fun c:CI=>Y7 P G N _ c.run) hbad fun g hg=>?_;intro call cc hc T q st K hT h;exact in_of' hT (show ret (QI G T x) st=some (g q,st) by rw[hg T q hT];rfl) h
 |pick c a b=>
  refine QZ (fun c:CI=>Y7 P G N _ c.run) hbad fun f hf=>QZ (fun c:CI=>Y7 P G N _ c.run) hbad fun g hg=>QZ (fun c:CI=>Y7 P G N _ c.run) hbad fun h' hh=>?_;intro call cc hc T q st K hT h;obtain⟨t,ht,h⟩:=qO h;refine in_of' hT (v:=Qj t (g q) (h' q)) (st':=st) ?_ h;show ob (QI G T c) _=_;rw[hf T q hT,Qf,ht];show ret (Qj t (QI G T a) (QI G T b)) st=_;rw[hg T q hT,hh T q hT]
  cases t<;>rfl
 |alloc t=>
  intro call cc hc T q st K hT h;obtain⟨⟨v,st'⟩,h1,h2⟩:=JN h;exact in_of' hT (show Wt P t st=some (v,st')from h1) h2
 |load t a=>
  refine RD (fun c:CI=>Y7 P G N _ c.run) hbad fun pt hpt=>QZ (fun c:CI=>Y7 P G N _ c.run) hbad fun g hg=>?_;intro call cc hc T q st K hT h;obtain⟨v,h1,h2⟩:=KX hpt h;refine in_of' hT (v:=v) (st':=st) ?_ h2;show ob (QI G T a) _=_;rw[hg T q hT,Qf];show ret (QD P t (g q) st.h.get) st=_;rw[h1];rfl
 |store t a v=>
  refine QZ (fun c:CI=>Y7 P G N _ c.run) hbad fun g hg=>QZ (fun c:CI=>Y7 P G N _ c.run) hbad fun h' hh=>?_;intro call cc hc T q st K hT h;obtain⟨⟨v',st'⟩,h1,h2⟩:=JN h;refine in_of' hT (v:=v') (st':=st') ?_ h2;show ob (QI G T a) _=_;rw[hg T q hT,Qf];show ob (QI G T v) _=_;rw[hh T q hT,Qf];exact h1
 |nilCheck x=>
  refine QZ (fun c:CI=>Y7 P G N _ c.run) hbad fun g hg=>?_;intro call cc hc T q st K hT h;obtain⟨h1,h2⟩:=eL h;refine in_of' hT (v:=g q) (st':=st) ?_ h2;show ret (ob (QI G T x) _) st=_;rw[hg T q hT,Qf]
  rcases h1 with⟨c,m,off,e⟩|⟨f,a,c,e⟩<;>(rw[e];rfl)
 |binOp op t x y yt=>
  refine QZ (fun c:CI=>Y7 P G N _ c.run) hbad fun g hg=>QZ (fun c:CI=>Y7 P G N _ c.run) hbad fun h' hh=>?_;intro call cc hc T q st K hT h;obtain⟨v,h1,h2⟩:=xZ h;refine in_of' hT (v:=v) (st':=st) ?_ h2;show ret (ob (QI G T x) fun x=>ob (QI G T y) fun y=>b2 P op t x y) st=_;rw[hg T q hT,Qf,hh T q hT,Qf,h1];rfl
 |fieldAddr t x f=>
  refine QZ (fun c:CI=>Y7 P G N _ c.run) hbad fun g hg=>?_
  cases hf:Q5 P t f with
  |none=>exact hbad
  |some off=>
   show Y7 P G N _ (CI.run (JA off fun off=>⟨aT (kG off) g p⟩));rw[QC];intro call cc hc T q st K hT h;obtain⟨v,h1,h2⟩:=eV hf h;refine in_of' hT (v:=v) (st':=st) ?_ h2;show ret (ob (QI G T x) fun x=>Z6 P t x f) st=_;rw[hg T q hT,Qf,h1];rfl
 |indexAddr t x i=>
  refine QZ (fun c:CI=>Y7 P G N _ c.run) hbad fun g hg=>QZ (fun c:CI=>Y7 P G N _ c.run) hbad fun h' hh=>?_;intro call cc hc T q st K hT h;obtain⟨v,h1,h2⟩:=JN h;refine in_of' hT (v:=v) (st':=st) ?_ h2;show ret (ob (QI G T x) fun x=>ob (QI G T i) fun i=>J3 P t x i) st=_;rw[hg T q hT,Qf,hh T q hT,Qf,h1];rfl
 |index t x i=>
  refine QZ (fun c:CI=>Y7 P G N _ c.run) hbad fun g hg=>QZ (fun c:CI=>Y7 P G N _ c.run) hbad fun h' hh=>?_;intro call cc hc T q st K hT h;obtain⟨v,h1,h2⟩:=JN h;refine in_of' hT (v:=v) (st':=st) ?_ h2;show ret (ob (QI G T x) fun x=>ob (QI G T i) fun i=>Az P t x i) st=_;rw[hg T q hT,Qf,hh T q hT,Qf,h1];rfl
 |extract t i=>
  refine QZ (fun c:CI=>Y7 P G N _ c.run) hbad fun g hg=>?_;intro call cc hc T q st K hT h;obtain⟨l,v,e,h1,h2⟩:=eW h;refine in_of' hT (v:=v) (st':=st) ?_ h2;show ret (ob (QI G T t) _) st=_;rw[hg T q hT,Qf,e];show ret (nth l i) st=_;rw[h1];rfl
 |call c=>
  obtain⟨callee,args,ats⟩:=c
  cases callee with
  |value f=>
   have key: ∀(x:Operand) (gs:List (Q2→AV)) (call:JI) (T:Tr AV) (q:Q2) (st st':St) (v:AV) (fid:FuncId) (a cap:List AV),
     J7 (QI G T) args.toList=some (gs.map fun g=>g q)→QI G T x=some (.fn fid a cap)→call fid (UY a (UY (gs.map fun g=>g q) cap)) st=some (v,st')→
     HX P (QI G T) call ⟨dst,.call ⟨.value x,args,ats⟩,ty,pos,after,guard⟩ st=some (v,st'):=by
    intro x gs call T q st st' v fid a cap h1 h2 h3;show ob (QI G T x) _=_;rw[h2,Qf];show ob (J7 (QI G T) args.toList) _=_;rw[h1,Qf];exact h3
   have gen: ∀x:Operand,Y7 P G N ⟨dst,.call ⟨.value x,args,ats⟩,ty,pos,after,guard⟩ (CI.run (Uh G x Jl fun g=>Hb G Jl args.toList fun gs=>⟨ye g gs p⟩)):=by
    intro x;refine QZ (fun c:CI=>Y7 P G N _ c.run) (WX P G N _) fun g hg=>Ha (fun c:CI=>Y7 P G N _ c.run) (WX P G N _) _ fun gs hgs=>?_;intro call cc hc T q st K hT h;replace h:BT gs q (fun l=>vY (g q) cc l st fun v st=>p q v K st)=true:=h;rw[Gp]at h
    cases hv:g q with
    |fn fid a cap=>
     rw[hv]at h;replace h:cc fid (UY a (UY (gs.map fun g=>g q) cap)) st (fun v st=>p q v K st)=true:=h;obtain⟨v,st',h1,h2⟩:=hc _ _ _ _ h;exact Om (o:=⟨dst,.call ⟨.value x,args,ats⟩,ty,pos,after,guard⟩) hp hT (key x gs call T q st st' v fid a cap (hgs T q hT) (by rw[hg T q hT,hv]) h1) h2
    |_=>rw[hv]at h;cases h
   cases f with
   |func f=>
    refine Ha (fun c:CI=>Y7 P G N _ c.run) (WX P G N _) _ fun gs hgs=>?_;intro call cc hc T q st K hT h;replace h:BT gs q (fun l=>cc f l st fun v st=>p q v K st)=true:=h;rw[Gp]at h;obtain⟨v,st',h1,h2⟩:=hc _ _ _ _ h;refine Om hp hT (key (.func f) gs call T q st st' v f [] [] (hgs T q hT) rfl ?_) h2;rw[J9,J9,List.append_nil,List.nil_append];exact h1
   |tmp t=>exact gen _
   |const t=>exact gen _
   |global t=>exact gen _
  |invoke x s=>
   refine QZ (fun c:CI=>Y7 P G N _ c.run) (WX P G N _) fun g hg=>Ha (fun c:CI=>Y7 P G N _ c.run) (WX P G N _) _ fun gs hgs=>?_;intro call cc hc T q st K hT h;replace h:BT gs q (fun l=>ij P s (g q) cc l st fun v st=>p q v K st)=true:=h;rw[Gp]at h
   cases hv:g q with
   |ifc t u=>
    rw[hv]at h;obtain⟨fid,hm,h⟩:=JN (show HY (XY P t s) (fun fid=>cc fid (u::gs.map fun g=>g q) st fun v st=>p q v K st)=true from h);obtain⟨v,st',h1,h2⟩:=hc _ _ _ _ h;refine Om (o:=⟨dst,.call ⟨.invoke x s,args,ats⟩,ty,pos,after,guard⟩) hp hT ?_ h2;show ob (QI G T x) _=_;rw[hg T q hT,hv,Qf];show ob (XY P t s) _=_;rw[hm,Qf,hgs T q hT,Qf];exact h1
   |_=>rw[hv]at h;cases h
  |builtin b=>
   have hgen:Y7 P G N ⟨dst,.call ⟨.builtin b,args,ats⟩,ty,pos,after,guard⟩ (TX P G (.call ⟨.builtin b,args,ats⟩) p):=jW hp fun R call st=>rfl
   cases b<;>try exact hgen
   show Y7 P G N _ (CI.run (match args.toList with
    |x::[]=>Qj (YK P ats.toList) ⟨TX P G (.call ⟨.builtin .len,args,ats⟩) p⟩ (Uh G x Jl fun g=>⟨aT (ic P ats.toList) g p⟩)
    |_=>Jl))
   split
   ·rename_i x hx
    cases hmt:YK P ats.toList with
    |true=>exact hgen
    |false=>
    refine QZ (fun c:CI=>Y7 P G N _ c.run) (WX P G N _) fun g hg=>?_;intro call cc hc T q st K hT h;obtain⟨v,h1,h2⟩:=JN h;refine Om hp hT (v:=v) (st':=st) ?_ h2;show iE P (QI G T) .len args.toList ats.toList st=_;rw[hx];show Qj (YK P ats.toList) _ (ret (ob (QI G T x) fun x=>Iv P ats.toList x) st)=_;rw[hmt,Qp];rw[hg T q hT,Qf,h1];rfl
   ·exact WX P G N _
 |_=>exact jW hp fun R call st=>rfl

def wh(P:Program)(G:Env)(N:Nat)(ops:List Oper)(o:Oper)(r:OB):Prop:= ∀call cc,U4 cc call→ ∀T q st K,JS T q→r cc K q st=true→
 ∃v st' T' q',Js P G call ops o T st=some (v,st')∧(∀(β:Type) (k:Tr AV→Option β),Yk N o.dst v T k=k T')∧JS T' q'∧K q' st'=true
noncomputable def Ru(pol:Bool)(x:AV):Bool:=match x with
 |.bool b=>Qj b pol (!pol)
 |_=>false
theorem DN(h:o.guard=none):QQ ops o T=true:=by unfold QQ;rw[h]
theorem DM{g:Nat×Bool}(h:o.guard=some g){t:Nat}(ht:Ui ops g.1=some t):QQ ops o T=Ru g.2 (Up T t):=by
 unfold QQ;rw[h];simp only[ht];rfl
theorem DO{g:Nat×Bool}(h:o.guard=some g)(ht:Ui ops g.1=none):QQ ops o T=false:=by
 unfold QQ;rw[h];simp only[ht]
theorem MI{x:AV}{pol a b:Bool}(h:MJ x pol a b=true):Ru pol x=true∧a=true∨Ru pol x=false∧b=true:=by
 cases x<;>first|exact .inr ⟨rfl,h⟩|skip
 rename_i t
 cases t<;>cases pol<;>first|exact .inl ⟨rfl,h⟩|exact .inr ⟨rfl,h⟩
theorem CH{N:Nat}{p:AL}{c:CI}(hp:Im N o.dst p)(X:(Tr AV→AV→Q2→Prop))(hX: ∀call cc,U4 cc call→ ∀T q st K,JS T q→c.run cc K q st=true→
  ∃v st' T' q',HX P (QI G T) call o st=some (v,st')∧X T v q∧(∀(β:Type) (k:Tr AV→Option β),Yk N o.dst v T k=k T')∧JS T' q'∧K q' st'=true):
  ∀call cc,U4 cc call→ ∀T q st K,JS T q→(Lf ops o p c).run cc K q st=true→
  ∃v st' T' q',Js P G call ops o T st=some (v,st')∧(QQ ops o T=true→X T v q)∧(∀(β:Type) (k:Tr AV→Option β),Yk N o.dst v T k=k T')∧JS T' q'∧K q' st'=true:=by
 have idle: ∀(call:JI) T q st K,JS T q→QQ ops o T=false→p q (.tup []) K st=true→ ∃v st' T' q',Js P G call ops o T st=some (v,st')∧(QQ ops o T=true→X T v q)∧(∀(β:Type) (k:Tr AV→Option β),Yk N o.dst v T k=k T')∧JS T' q'∧K q' st'=true:=by
  intro call T q st K hT hw h;obtain⟨T',q',h1,h2,h3⟩:=hp T q _ K st hT h;exact⟨.tup [],st,T',q',by unfold Js;rw[hw];rfl,fun h=>(by rw[hw]at h;cases h),h1,h2,h3⟩
 have busy: ∀(call:JI) cc,U4 cc call→ ∀T q st K,JS T q→QQ ops o T=true→c.run cc K q st=true→ ∃v st' T' q',Js P G call ops o T st=some (v,st')∧(QQ ops o T=true→X T v q)∧(∀(β:Type) (k:Tr AV→Option β),Yk N o.dst v T k=k T')∧JS T' q'∧K q' st'=true:=by
  intro call cc hc T q st K hT hw h;obtain⟨v,st',T',q',h1,h2,h3⟩:=hX call cc hc T q st K hT h;exact⟨v,st',T',q',by unfold Js;rw[hw];exact h1,fun _=>h2,h3⟩
 unfold Lf
 split
 ·rename_i hg;intro call cc hc T q st K hT h;exact busy call cc hc T q st K hT (DN hg) h
 ·rename_i g hg
  split
  ·rename_i t ht
   refine X2 (k:=fun gt _=>⟨ld gt g.2 c.run p⟩) (t:=t) (fun c:CI=> ∀call cc,U4 cc call→ ∀T q st K,JS T q→c.run cc K q st=true→
    ∃v st' T' q',Js P G call ops o T st=some (v,st')∧(QQ ops o T=true→X T v q)∧(∀(β:Type) (k:Tr AV→Option β),Yk N o.dst v T k=k T')∧JS T' q'∧K q' st'=true) (fun _ _ _ _ _ _ _ _ h=>by cases h) fun gt _ hgt _=>?_
   intro call cc hc T q st K hT h
   have hw:QQ ops o T=Ru g.2 (W4 t q):=by rw[DM hg ht,hT t]
   replace h:MJ (gt q) g.2 (c.run cc K q st) (p q (.tup []) K st)=true:=h;rw[hgt q]at h;rcases MI h with⟨h1,h2⟩|⟨h1,h2⟩
   ·exact busy call cc hc T q st K hT (hw.trans h1) h2
   ·exact idle call T q st K hT (hw.trans h1) h2
  ·rename_i ht;intro call cc hc T q st K hT h;exact idle call T q st K hT (DO hg ht) h
theorem GV(P:Program)(G:Env)(N:Nat)(ops:List Oper)(o:Oper):wh P G N ops o (LC P G N ops o).run:=by
 refine Bv (fun c:CI=>wh P G N ops o c.run) (fun _ _ _ _ _ _ _ _ h=>by cases h) fun p hp=>?_;intro call cc hc T q st K hT h
 obtain⟨v,st',T',q',h1,_,h3⟩:=CH hp (fun _ _ _=>True) (fun call cc hc T q st K hT h=>by
  obtain⟨v,st',T',q',h1,h2⟩:=jT P G N o p hp call cc hc T q st K hT h
  exact⟨v,st',T',q',h1,trivial,h2⟩) call cc hc T q st K hT h
 exact⟨v,st',T',q',h1,h3⟩
theorem wJ(P:Program)(G:Env)(N:Nat)(ops:List Oper){call:JI}{cc:Y8}(hc:U4 cc call)(K:KB): ∀(l:List Oper) (T:Tr AV) (q:Q2) (st:St),JS T q→wK (Hq (LC P G N ops) l) cc K q st=true→
  ∃T' st' q',WK P G call N ops l T st=some (T',st')∧JS T' q'∧K q' st'=true:=by
 intro l
 induction l with
 |nil=>intro T q st hT h;exact⟨T,st,q,rfl,hT,h⟩
 |cons o l ih=>
  intro T q st hT h;replace h:(LC P G N ops o).run cc (wK (Hq (LC P G N ops) l) cc K) q st=true:=h;obtain⟨v,st',T',q',h1,h2,h3,h4⟩:=GV P G N ops o call cc hc T q st _ hT h;obtain⟨T2,st2,q2,k1,k2,k3⟩:=ih T' q' st' h3 h4;refine⟨T2,st2,q2,?_,k2,k3⟩;show ob (Js P G call ops o T st) _=_;rw[h1,Qf,h2];exact k1

theorem jz{t:TypeId}{pt:Xi}(hpt: ∀l off kv,pt l off kv=true→ ∃v,Y4 P t l off=some v∧kv v=true){x v:AV}: ∀(n:Nat) (l:List St),Bh pt x v n l=true→
  ∀(G:Env) (o:Oper) (T:Tr AV) (a:Operand),o.op=.load t a→QI G T a=some x→again P G o T v n l=true:=by
 intro n
 induction n with
 |zero=>intro l h G o T a _ _;rfl
 |succ n ih=>
  intro l h G o T a ho ha
  cases l with
  |nil=>cases h
  |cons st l=>
   replace h:Qj (Oe pt x st fun u=>FY u v) (Bh pt x v n l) false=true:=h
   cases hl:Oe pt x st fun u=>FY u v with
   |false=>rw[hl]at h;cases h
   |true=>
    rw[hl]at h;obtain⟨u,h1,h2⟩:=KX hpt hl
    show Qj (match o.op with
     |.load t a=>Option.rec false (fun x=>Option.rec false (fun u=>FY u v) (QD P t x st.h.get)) (QI G T a)
     |_=>false) (again P G o T v n l) false=true
    rw[ih l h G o T a ho ha,ho];show Qj (Option.rec false (fun x=>Option.rec false (fun u=>FY u v) (QD P t x st.h.get)) (QI G T a)) true false=true;rw[ha];show Qj (Option.rec false (fun u=>FY u v) (QD P t x st.h.get)) true false=true;rw[h1];show Qj (FY u v) true false=true;rw[h2];rfl
def wg(P:Program)(G:Env)(N:Nat)(ops:List Oper)(q:Nat×Oper×Nat)(d:DI):Prop:= ∀call cc,U4 cc call→ ∀T e st sn (kk:List St→KB),JS T e→DI.rec (motive:=fun _=>(List St→KB)→Y8→List St→KB) uM iu vU d kk cc sn e st=true→
 ∃v st' T' e',Js P G call ops q.2.1 T st=some (v,st')∧Qj (QQ ops q.2.1 T) (again P G q.2.1 T v q.2.2 (List.rec [] (fun _ t _=>t) sn)) true=true∧
  (∀(β:Type) (k:Tr AV→Option β),Yk N q.2.1.dst v T k=k T')∧JS T' e'∧kk (Qj (Nat.beq (Qx P q.2.1.op) 3) (st'::sn) sn) e' st'=true
theorem qj(P:Program)(G:Env)(N:Nat)(ops:List Oper)(q:Nat×Oper×Nat):wg P G N ops q (O1 P G N ops q):=by
 obtain⟨i,o,n⟩:=q;unfold O1
 cases hn:Nat.beq n 0 with
 |true=>
  have hn0:n=0:=Nat.eq_of_beq_eq_true hn;subst hn0;rw[Qs]
  have agz: ∀T v l,Qj (QQ ops o T) (again P G o T v 0 l) true=true:=fun T v l=>by cases QQ ops o T<;>rfl
  cases hk:Nat.beq (Qx P o.op) 3 with
  |true=>
   rw[Qs];intro call cc hc T e st sn kk hT h;obtain⟨v,st',T',e',h1,h2,h3,h4⟩:=GV P G N ops o call cc hc T e st _ hT h;exact⟨v,st',T',e',h1,agz _ _ _,h2,h3,by simp only[hk,Qs];exact h4⟩
  |false=>
   rw[Qp];intro call cc hc T e st sn kk hT h;obtain⟨v,st',T',e',h1,h2,h3,h4⟩:=GV P G N ops o call cc hc T e st _ hT h;exact⟨v,st',T',e',h1,agz _ _ _,h2,h3,by simp only[hk,Qp];exact h4⟩
 |false=>
  rw[Qp]
  have nope:wg P G N ops (i,o,n) (.plain Jl):=fun _ _ _ _ _ _ _ _ _ h=>by cases h
  simp only
  split
  ·rename_i t a ho;intro call cc hc T e st sn kk hT h
   have hk:Nat.beq (Qx P o.op) 3=false:=by rw[ho];rfl
   have key: ∀call cc,U4 cc call→ ∀T e st K,JS T e→CI.run (Rt N o.dst fun p=>Lf ops o p (WA P t Jl fun pt=>Uh G a Jl fun g=>⟨kV pt n g p sn⟩)) cc K e st=true→
     ∃v st' T' e',Js P G call ops o T st=some (v,st')∧(QQ ops o T=true→again P G o T v n (List.rec [] (fun _ t _=>t) sn)=true)∧(∀(β:Type) (k:Tr AV→Option β),Yk N o.dst v T k=k T')∧JS T' e'∧K e' st'=true:=by
    refine Bv (fun c:CI=> ∀call cc,U4 cc call→ ∀T e st K,JS T e→c.run cc K e st=true→
     ∃v st' T' e',Js P G call ops o T st=some (v,st')∧(QQ ops o T=true→again P G o T v n (List.rec [] (fun _ t _=>t) sn)=true)∧(∀(β:Type) (k:Tr AV→Option β),Yk N o.dst v T k=k T')∧JS T' e'∧K e' st'=true) (fun _ _ _ _ _ _ _ _ h=>by cases h) fun p hp=>?_
    refine CH hp (fun T v _=>again P G o T v n (List.rec [] (fun _ t _=>t) sn)=true) ?_
    refine RD (fun c:CI=> ∀call cc,U4 cc call→ ∀T q st K,JS T q→c.run cc K q st=true→
     ∃v st' T' q',HX P (QI G T) call o st=some (v,st')∧again P G o T v n (List.rec [] (fun _ t _=>t) sn)=true∧(∀(β:Type) (k:Tr AV→Option β),Yk N o.dst v T k=k T')∧JS T' q'∧K q' st'=true) (fun _ _ _ _ _ _ _ _ h=>by cases h) fun pt hpt=>?_
    refine QZ (fun c:CI=> ∀call cc,U4 cc call→ ∀T q st K,JS T q→c.run cc K q st=true→
     ∃v st' T' q',HX P (QI G T) call o st=some (v,st')∧again P G o T v n (List.rec [] (fun _ t _=>t) sn)=true∧(∀(β:Type) (k:Tr AV→Option β),Yk N o.dst v T k=k T')∧JS T' q'∧K q' st'=true) (fun _ _ _ _ _ _ _ _ h=>by cases h) fun g hg=>?_
    intro call cc hc T q st K hT h;obtain⟨v,h1,h2⟩:=KX hpt h
    cases hag:Bh pt (g q) v n (List.rec [] (fun _ t _=>t) sn)with
    |false=>rw[hag]at h2;cases h2
    |true=>
     rw[hag]at h2;obtain⟨T',q',k1,k2,k3⟩:=hp T q v K st hT h2;refine⟨v,st,T',q',?_,jz hpt n _ hag G o T a ho (hg T q hT),k1,k2,k3⟩;unfold HX;rw[ho];show ob (QI G T a) (fun x=>ret (QD P t x st.h.get) st)=_;rw[hg T q hT,Qf,h1];rfl
   obtain⟨v,st',T',e',h1,h2,h3,h4,h5⟩:=key call cc hc T e st _ hT h;refine⟨v,st',T',e',h1,?_,h3,h4,by simp only[hk,Qp];exact h5⟩;show Qj (QQ ops o T) (again P G o T v n (List.rec [] (fun _ t _=>t) sn)) true=true
   cases hw:QQ ops o T with
   |false=>rfl
   |true=>exact h2 hw
  ·exact nope
theorem z8(P:Program)(G:Env)(N:Nat)(ops:List Oper){call:JI}{cc:Y8}(hc:U4 cc call)(K:KB): ∀(l:List (Nat×Oper×Nat)) (T:Tr AV) (q:Q2) (st:St) (sn:List St),JS T q→wG (Hq (O1 P G N ops) l) cc K sn q st=true→
  ∃T' st' q',XO P G call N ops l T st sn=some (T',st')∧JS T' q'∧K q' st'=true:=by
 intro l
 induction l with
 |nil=>intro T q st sn hT h;exact⟨T,st,q,rfl,hT,h⟩
 |cons o l ih=>
  intro T q st sn hT h;obtain⟨v,st',T',q',h1,h2,h3,h4,h5⟩:=qj P G N ops o call cc hc T q st sn (wG (Hq (O1 P G N ops) l) cc K) hT h;obtain⟨T2,st2,q2,k1,k2,k3⟩:=ih T' q' st' _ h4 h5;refine⟨T2,st2,q2,?_,k2,k3⟩;show ob (Js P G call ops o.2.1 T st) _=_;rw[h1,Qf];show Q4 (Qj (QQ ops o.2.1 T) (again P G o.2.1 T v o.2.2 (List.rec [] (fun _ t _=>t) sn)) true) _=_;rw[h2,Q6,h3];exact k1

def uG(x:Ex)(E:Nat→KB)(R K:KB):KB:=match x with
 |.nor=>K
 |.exit i=>E i
 |.ret=>R
def Vv(f:Tr AV→St→Option (Ex×Tr AV×St))(call:JI)(b:Zq):Prop:= ∀cc,U4 cc call→ ∀E R K T q st,JS T q→b cc E R K q st=true→ ∃x T' st' q',f T st=some (x,T',st')∧JS T' q'∧uG x E R K q' st'=true
theorem q6{N L:Nat}{call:JI}{a b:CC}{fa fb:Tr AV→St→Option (Ex×Tr AV×St)}{g:Operand}{x y:Tmp}{gg:Q2→AV}{p1 p2:AL}(hg:wj G g gg)(hp1:Im N (some x) p1)(hp2:Im N (some y) p2)
  (ha:Vv fa call (runK L a)) (hb:Vv fb call (runK L b)) {cc:Y8} (hc:U4 cc call) {E:Nat→KB} {R K:KB} {T:Tr AV} {q:Q2} {st:St} (hT:JS T q) (h:runK L (.range (iO P G) gg p1 p2 a b) cc E R K q st=true):
  ∃e T' st' q',Wh P G N g [x,y] true fa fb T st=some (e,T',st')∧JS T' q'∧uG e E R K q' st'=true:=by
 replace h:iO P G (gg q) st (fun n el=>Nat.rec (motive:=fun _=>St→Bool) (fun st=>K q st) (fun i ih st=>el i st fun v=>p1 q (.int .i64 (Int.ofNat i)) (fun T1 st=>p2 T1 v (fun T2 st=>runK L a cc (fun _ _ _=>false) (fun _ _=>false) (fun T3 st=>runK L b cc (fun id _ st=>E id q st) (fun _ st=>R q st) (fun _ st=>tl (ih st)) T3 st) T2 st) st) st) n st)=true:=h;unfold Wh;rw[hg T q hT,Q6,Qf];unfold iO at h
 split at h
 ·rename_i f first cap hv
  rw[hv];replace h:=JN h;obtain⟨qq,hq,h⟩:=h;simp only[hq,Qf]
  split at h
  ·split at h
   ·rename_i cap;replace h:=JN h;obtain⟨s,hs,h⟩:=h;replace h:=JN h;obtain⟨nv,hl,h⟩:=h;simp only[hs,Qf,hl]
    split at h
    ·rename_i k n
     cases n with
     |negSucc n=>cases h
     |ofNat n=>
      simp only[SI,Qf];unfold TW at h;simp only at h
      cases hm:Nat.ble n YD with
      |false=>rw[hm]at h;cases h
      |true=>
       rw[hm]at h;rw[Q6];simp only at h;clear hl hs hm hv hq;revert st
       induction n with
       |zero=>intro st h;exact⟨.nor,T,st,q,rfl,hT,h⟩
       |succ n ih=>
        intro st h;replace h:iP P qq cap n st (fun v=>p1 q (.int .i64 (Int.ofNat n)) (fun T1 st=>p2 T1 v (fun T2 st=>runK L a cc (fun _ _ _=>false) (fun _ _=>false) (fun T3 st=>runK L b cc (fun id _ st=>E id q st) (fun _ st=>R q st) (fun _ st=>tl (Nat.rec (motive:=fun _=>St→Bool) (fun st=>K q st) (fun i ih st=>iP P qq cap i st fun v=>p1 q (.int .i64 (Int.ofNat i)) (fun T1 st=>p2 T1 v (fun T2 st=>runK L a cc (fun _ _ _=>false) (fun _ _=>false) (fun T3 st=>runK L b cc (fun id _ st=>E id q st) (fun _ st=>R q st) (fun _ st=>tl (ih st)) T3 st) T2 st) st) st) n st)) T3 st) T2 st) st) st)=true:=h;unfold iP at h;replace h:=JN h;obtain⟨s,hs,h⟩:=h;replace h:=JN h;obtain⟨ad,had,h⟩:=h;replace h:=JN h;obtain⟨v,hv,h⟩:=h;obtain⟨T1,q1,k1,r1,h⟩:=hp1 T q _ _ _ hT h;obtain⟨T2,q2,k2,r2,h⟩:=hp2 T1 q1 _ _ _ r1 h;obtain⟨e,T3,st3,q3,c1,r3,h⟩:=ha cc hc _ _ _ T2 q2 _ r2 h
        cases e with
        |exit i=>cases h
        |ret=>cases h
        |nor=>
         obtain⟨e,T4,st4,q4,c2,r4,h⟩:=hb cc hc _ _ _ T3 q3 _ r3 h
         have e0:Vh P N qq.1 qq.2 cap [x,y] fa fb T (n+1) st=Ex.rec (tl (Vh P N qq.1 qq.2 cap [x,y] fa fb T n st4)) (fun id=>some (.exit id,T,st4)) (some (.ret,T,st4)) e:=by
          show(ob (QD P qq.1 cap st.h.get) fun s=>ob (J3 P qq.1 s (.int .i64 (Int.ofNat n))) fun q=>ob (QD P qq.2 q st.h.get) fun v=>Ij N [x,y] (.int .i64 (Int.ofNat n)) v T fun T1=>ob (fa T1 st) fun r=>Ex.rec (ob (fb r.2.1 r.2.2) fun q=>Ex.rec (tl (Vh P N qq.1 qq.2 cap [x,y] fa fb T n q.2.2)) (fun id=>some (.exit id,T,q.2.2)) (some (.ret,T,q.2.2)) q.1) (fun _=>none) none r.1)=_;rw[hs,Qf,had,Qf,hv,Qf];show Yk N (some x) _ T _=_;rw[k1,k2,c1,Qf];show(ob (fb T3 st3) _)=_;rw[c2,Qf]
         cases e with
         |nor=>
          obtain⟨e,T5,st5,q5,d1,d2,d3⟩:=ih h;exact⟨e,T5,st5,q5,by rw[e0];exact d1,d2,d3⟩
         |exit id=>exact⟨.exit id,T,st4,q,e0,hT,h⟩
         |ret=>exact⟨.ret,T,st4,q,e0,hT,h⟩
    ·cases h
   ·cases h
  ·cases h
 ·cases h
theorem xT(P:Program)(G:Env)(N L:Nat)(call:JI): ∀c:Code,Vv (codeF P G call N L c) call (runK L (Ej P G N c)):=by
 have nope: ∀f,Vv f call (runK L .bad):=fun f _ _ _ _ _ _ _ _ _ h=>by cases h
 intro c
 induction c with
 |skip=>intro cc hc E R K T q st hT h;exact⟨.nor,T,st,q,rfl,hT,h⟩
 |region id ops draw=>
  cases draw with
  |false=>
   intro cc hc E R K T q st hT h;obtain⟨T',st',q',h1,h2,h3⟩:=wJ P G N ops.toList hc K ops.toList T q st hT h;refine⟨.nor,T',st',q',?_,h2,h3⟩;show(ob (WK P G call N ops.toList ops.toList T st) fun r=>some (Ex.nor,r))=_;rw[h1];rfl
  |true=>
   have e:Ej P G N (.region id ops true)=Option.rec .bad (fun pl=>.XO (Hq (O1 P G N ops.toList) pl)) (Zh P ops.toList):=rfl;rw[e]
   cases hpl:Zh P ops.toList with
   |none=>exact nope _
   |some pl=>
    intro cc hc E R K T q st hT h;obtain⟨T',st',q',h1,h2,h3⟩:=z8 P G N ops.toList hc K pl T q st [st] hT h;refine⟨.nor,T',st',q',?_,h2,h3⟩;show(ob (Zh P ops.toList) fun pl=>ob (XO P G call N ops.toList pl T st [st]) fun r=>some (Ex.nor,r))=_;rw[hpl,Qf,h1];rfl
 |seq a b ha hb=>
  intro cc hc E R K T q st hT h;obtain⟨x,T',st',q',h1,h2,h3⟩:=ha cc hc E R (runK L (Ej P G N b) cc E R K) T q st hT h;have e:codeF P G call N L (.seq a b) T st=Zv (codeF P G call N L a T st) (codeF P G call N L b):=rfl
  cases x with
  |nor=>
   obtain⟨x,T2,st2,q2,k1,k2,k3⟩:=hb cc hc E R K T' q' st' h2 h3;exact⟨x,T2,st2,q2,by rw[e,h1];exact k1,k2,k3⟩
  |exit i=>exact⟨.exit i,T',st',q',by rw[e,h1];rfl,h2,h3⟩
  |ret=>exact⟨.ret,T',st',q',by rw[e,h1];rfl,h2,h3⟩
 |cond c a b ha hb=>
  show Vv _ call (runK L (Uh G c .bad fun g=>.cond g (Ej P G N a) (Ej P G N b)));refine QZ (fun d:CC=>Vv (codeF P G call N L (.cond c a b)) call (runK L d)) (nope _) fun g hg=>?_;intro cc hc E R K T q st hT h;replace h:vW (g q) (runK L (Ej P G N a) cc E R K) (runK L (Ej P G N b) cc E R K) q st=true:=h;have e:codeF P G call N L (.cond c a b) T st=L8 (QI G T c) (codeF P G call N L a T st) (codeF P G call N L b T st):=rfl;rw[hg T q hT]at e
  cases hv:g q with
  |bool t=>
   rw[hv]at h e
   cases t with
   |true=>
    obtain⟨x,T',st',q',h1,h2,h3⟩:=ha cc hc E R K T q st hT h;exact⟨x,T',st',q',by rw[e];exact h1,h2,h3⟩
   |false=>
    obtain⟨x,T',st',q',h1,h2,h3⟩:=hb cc hc E R K T q st hT h;exact⟨x,T',st',q',by rw[e];exact h1,h2,h3⟩
  |_=>rw[hv]at h;cases h
 |block id b hb=>
  intro cc hc E R K T q st hT h;obtain⟨x,T',st',q',h1,h2,h3⟩:=hb cc hc (fun i=>Qj (Nat.beq i id) K (E i)) R K T q st hT h;have e:codeF P G call N L (.block id b) T st=H8 id (codeF P G call N L b T st):=rfl
  cases x with
  |nor=>exact⟨.nor,T',st',q',by rw[e,h1];rfl,h2,h3⟩
  |ret=>exact⟨.ret,T',st',q',by rw[e,h1];rfl,h2,h3⟩
  |exit i=>
   replace h3:Qj (Nat.beq i id) K (E i) q' st'=true:=h3
   cases hi:Nat.beq i id with
   |true=>rw[hi]at h3;exact⟨.nor,T',st',q',by rw[e,h1];show Qj (Nat.beq i id) _ _=_;rw[hi];rfl,h2,h3⟩
   |false=>rw[hi]at h3;exact⟨.exit i,T',st',q',by rw[e,h1];show Qj (Nat.beq i id) _ _=_;rw[hi];rfl,h2,h3⟩
 |loop b hb=>
  intro cc hc E R K T q st hT h
  have key: ∀n T q st,JS T q→Nat.rec (motive:=fun _=>KB) (fun _ _=>false) (fun _ ih=>runK L (Ej P G N b) cc E R ih) n q st=true→
    ∃x T' st' q',Nat.rec (motive:=fun _=>Tr AV→St→Option (Ex×Tr AV×St)) (fun _ _=>none) (fun _ ih T st=>Zv (codeF P G call N L b T st) ih) n T st=some (x,T',st')∧JS T' q'∧uG x E R K q' st'=true:=by
   intro n
   induction n with
   |zero=>intro T q st hT h;cases h
   |succ n ih=>
    intro T q st hT h;obtain⟨x,T',st',q',h1,h2,h3⟩:=hb cc hc E R _ T q st hT h
    cases x with
    |nor=>
     obtain⟨x,T2,st2,q2,k1,k2,k3⟩:=ih T' q' st' h2 h3;refine⟨x,T2,st2,q2,?_,k2,k3⟩;show Zv (codeF P G call N L b T st) _=_;rw[h1];exact k1
    |exit i=>exact⟨.exit i,T',st',q',by show Zv (codeF P G call N L b T st) _=_;rw[h1];rfl,h2,h3⟩
    |ret=>exact⟨.ret,T',st',q',by show Zv (codeF P G call N L b T st) _=_;rw[h1];rfl,h2,h3⟩
  exact key L T q st hT h
 |rangeFunc g ps a b ha hb=>
  show Vv _ call (runK L (ya P G N g ps.toList (Qj (Ux a) (Ux b) false) (Ej P G N a) (Ej P G N b)));have e:codeF P G call N L (.rangeFunc g ps a b)=Wh P G N g ps.toList (Qj (Ux a) (Ux b) false) (codeF P G call N L a) (codeF P G call N L b):=rfl;rw[e];unfold ya
  split
  ·rename_i x y hps;rw[hps]
   cases hpl:Qj (Ux a) (Ux b) false with
   |false=>exact nope _
   |true=>
    refine QZ (fun d:CC=>Vv _ call (runK L d)) (nope _) fun gg hg=>?_;refine NL (fun d:CC=>Vv _ call (runK L d)) (nope _) fun p1 hp1=>?_;refine NL (fun d:CC=>Vv _ call (runK L d)) (nope _) fun p2 hp2=>?_;intro cc hc E R K T q st hT h;exact q6 hg hp1 hp2 ha hb hc hT h
  ·exact nope _
 |exit id=>intro cc hc E R K T q st hT h;exact⟨.exit id,T,st,q,rfl,hT,h⟩
 |ret=>intro cc hc E R K T q st hT h;exact⟨.ret,T,st,q,rfl,hT,h⟩
 |label id=>intro cc hc E R K T q st hT h;exact⟨.nor,T,st,q,rfl,hT,h⟩
 |_=>exact nope _

theorem vc: ∀(l:List AV) (i:Nat) (T:Tr AV) (q:Q2) (K:KB) (st:St),JS T q→yG l i q K st=true→ ∃T' q',(∀(β:Type) (k:Tr AV→β),List.rec (motive:=fun _=>Nat→Tr AV→β) (fun(_:Nat) T=>k T) (fun v _ ih i T=>T.put i v (ih (i+1))) l i T=k T')∧JS T' q'∧K q' st=true:=by
 intro l
 induction l with
 |nil=>intro i T q K st hT h;exact⟨T,q,fun _ _=>rfl,hT,h⟩
 |cons v l ih=>
  intro i T q K st hT h;replace h:(putAt i).put q v (fun T st=>yG l (Nat.succ i) T K st) st=true:=h
  have key: ∀q K st,(putAt i).put q v K st=true→ ∃q',K q' st=true∧ ∀u,W4 u q'=if u=i then v else W4 u q:=by
   refine X2 (k:=fun _ p=>Rn.mk p) (t:=i) (fun b:Rn=> ∀q K st,b.put q v K st=true→ ∃q',K q' st=true∧ ∀u,W4 u q'=if u=i then v else W4 u q) (fun _ _ _ h=>by cases h) fun g p _ hp=>?_;intro q K st h;obtain⟨q',e,hq⟩:=hp q v K st;exact⟨q',by rw[←e];exact h,hq⟩
  obtain⟨q',h1,h2⟩:=key q _ st h;obtain⟨T',q2,k1,k2,k3⟩:=ih (i+1) (T.set i v) q' K st (fun u=>by rw[UI,h2,hT u]) h1;refine⟨T',q2,fun β k=>?_,k2,k3⟩;show T.put i v _=_;rw[Tr.put_eq];exact k1 β k
theorem MF:JS .nil .zero:=by
 intro t;have e:Up .nil t=.tup []:=rfl;rw[e];unfold W4
 split
 ·rename_i i _
  split
  ·rename_i j _
   cases i<;>cases j<;>rfl
  ·rfl
 ·rfl
theorem wH{q:Q2}(hT:JS T q){r:ResultVar}{k:KV}(h:wI P q st r k=true): ∃v,It P T st r=some v∧k v=true:=by
 cases r with
 |tmp t=>exact⟨W4 t q,congrArg some (hT t),h⟩
 |cell a t=>
  obtain⟨v,h1,h2⟩:=JN h;exact⟨v,by show QD P t (Up T a) st.h.get=_;rw[hT a];exact h1,h2⟩
theorem BX{q:Q2}(hT:JS T q): ∀(l:List ResultVar) (k:List AV→Bool),KD P l q st k=true→ ∃vs,J7 (It P T st) l=some vs∧k vs=true:=by
 intro l
 induction l with
 |nil=>intro k h;exact⟨[],rfl,h⟩
 |cons r l ih=>
  intro k h;replace h:wI P q st r (fun v=>KD P l q st fun l=>k (v::l))=true:=h;obtain⟨v,h1,h⟩:=wH hT h;obtain⟨vs,h2,h⟩:=ih _ h;exact⟨v::vs,by rw[Jo,h1,Qf,h2,Qf],h⟩
theorem uF{res:List ResultVar}{q:Q2}(hT:JS T q){k:AV→St→Bool}(h:ah P res k q st=true): ∃v,QM P res T st=some v∧k v st=true:=by
 obtain⟨vs,h1,h2⟩:=BX hT res _ h;refine⟨_,?_,h2⟩;unfold QM;rw[h1,Qf]
 cases vs with
 |nil=>rfl
 |cons v t=>cases t<;>rfl
theorem yf(P:Program)(G:Env)(L:Nat): ∀fuel,U4 (Za P G L fuel) (Jf P G L fuel):=by
 intro fuel
 induction fuel with
 |zero=>intro f args st k h;cases h
 |succ n ih=>
  intro f args st k h;replace h:(Option.rec (HY (vX P G f) fun q=>tl (Sw P L q (Za P G L n) args st k)) (fun sm=>HY (sm args st) fun r=>k r.1 r.2) (G.s f):Bool)=true:=h;have e0:Jf P G L (n+1) f args st=(Option.rec (ob (FC P f) fun q=>Q4 (Nat.ble (UM args) q.2.1) (En args fun T=>H4 (codeF P G (Jf P G L n) q.2.1 L q.1 T st) fun T st=>ob (QM P q.2.2 T st) fun v=>some (v,st))) (fun sm=>sm args st) (G.s f):Option (AV×St)):=rfl;rw[e0]
  cases hsm:G.s f with
  |some sm=>
   rw[hsm]at h;obtain⟨⟨v,st'⟩,h1,h2⟩:=JN h;exact⟨v,st',h1,h2⟩
  |none=>
  rw[hsm]at h;obtain⟨fn,h1,h⟩:=JN h;replace h:Sw P L fn (Za P G L n) args st k=true:=h;replace h1:=Qk h1;obtain⟨q,hq,h1⟩:=h1;obtain⟨_,h1⟩:=Qo h1
  injection h1 with h1
  subst h1;show∃v st',(ob (FC P f) fun q=>Q4 (Nat.ble (UM args) q.2.1) (En args fun T=>H4 (codeF P G (Jf P G L n) q.2.1 L q.1 T st) fun T st=>ob (QM P q.2.2 T st) fun v=>some (v,st)))=some (v,st')∧k v st'=true;rw[hq,Qf];unfold Sw at h;simp only at h
  cases hb:Nat.ble (UM args) q.2.1 with
  |false=>rw[hb]at h;cases h
  |true=>
   rw[hb]at h;rw[Q6];obtain⟨T,q1,k1,k2,k3⟩:=vc args 0 .nil .zero _ st MF h;have e: ∀(β:Type) (k:Tr AV→β),En args k=k T:=fun β k=>k1 β k;rw[e];obtain⟨x,T',st',q',c1,c2,c3⟩:=xT P G q.2.1 L (Jf P G L n) q.1 (Za P G L n) ih _ _ _ T q1 st k2 k3;rw[c1]
   cases x with
   |exit i=>cases c3
   |nor=>
    obtain⟨v,r1,r2⟩:=uF c2 c3;refine⟨v,st',?_,r2⟩;show ob (QM P q.2.2 T' st') _=_;rw[r1];rfl
   |ret=>
    obtain⟨v,r1,r2⟩:=uF c2 c3;refine⟨v,st',?_,r2⟩;show ob (QM P q.2.2 T' st') _=_;rw[r1];rfl

theorem DS(hG0: ∀g,G.g g=false)(hE:Eu P G)(hm:P.follows .mixedOrders=true){f:FuncId}{args:List AV}{L fuel n:Nat}(hargs:Yx (Tr.nil:Tr EJ).get args)(h:Za P G L fuel f args ⟨n,.nil⟩ Yy=true)(w:World)(hi:G.i w:=by trivial):
  Calls P f (Qm (fun _ _=>none) args).toArray w fun e w'=>e=.returned (.bool true)∧Below w.heap.size w w':=by
 obtain⟨v,st',h1,h2⟩:=yf P _ L fuel f args _ _ h;refine Ii hG0 hE hm hargs (L:=L) (fuel:=fuel) (n:=n) ?_ w hi;rw[h1]
 cases v<;>first|exact h2|cases h2

end
end Go.Proofs.YtildagdnomiahaaGreatDoor
