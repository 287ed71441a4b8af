/-
  What the reckoner knows of comp; the first of two formulas.
-/
import Derived.Test.YthjgndgnmkiaiaaGreatDoorZpTka
import Derived.Test.YthjgndgnmkiaiaaGreatDoorZpTkb
import Derived.Test.YthjgndgnmkiaiaaGreatDoorZpTkc
set_option maxRecDepth 1000000
set_option linter.unusedVariables false
namespace Go.Proofs.YthjgndgnmkiaiaaGreatDoor
section
open Go Go.RowKit

noncomputable section
def yh:List (FuncId×(List AV→St→Option (AV×St))):=
 (203,KJ Mk)::
 (157,KJ Cx)::
 (199,KJ Cw)::
 (200,KJ Ng)::
 (202,KJ EO)::
 Ba
def eJ:Env:=⟨fun _=>false,LG LQ,WO yh,VC⟩
end
theorem ku(w0:World)(p q:Jy)(h:KF w0 p eJ):KF w0 q Xm:=⟨fun g hg=>(by cases hg),h.2⟩
theorem MU:WT Tryz.prog eJ:=⟨fun f q h=>EF (f,q) (Wb h),fun f sm h=>by
 have h:WO yh f=some sm:=h;unfold yh at h
 by_cases hOf:f=203
 ·subst hOf
  injection h with h
  subst h;exact F6 ⟨_,Tryz.func203,rfl,by decide+kernel⟩ ku FH mixed yd
 by_cases hMin:f=157
 ·subst hMin
  injection h with h
  subst h;exact F6 ⟨_,Tryz.func157,rfl,by decide+kernel⟩ ku FH mixed qL
 by_cases hNot:f=199
 ·subst hNot
  injection h with h
  subst h;exact F6 ⟨_,Tryz.func199,rfl,by decide+kernel⟩ ku FH mixed qK
 by_cases hBoth:f=200
 ·subst hBoth
  injection h with h
  subst h;exact F6 ⟨_,Tryz.func200,rfl,by decide+kernel⟩ ku FH mixed S0
 by_cases hProject:f=202
 ·subst hProject
  injection h with h
  subst h;exact F6 ⟨_,Tryz.func202,rfl,by decide+kernel⟩ ku FH mixed G1
 have hb: ∀{g:FuncId},¬f=g→Nat.beq f g=false:=fun{g} hg=>by
  cases hq:Nat.beq f g with
  |false=>rfl
  |true=>exact absurd (Nat.eq_of_beq_eq_true hq) hg
 have hr:WO Ba f=some sm:=by
  have e:(Ql (Nat.beq f 203) (some (KJ Mk)) (Ql (Nat.beq f 157) (some (KJ Cx)) (Ql (Nat.beq f 199) (some (KJ Cw)) (Ql (Nat.beq f 200) (some (KJ Ng)) (Ql (Nat.beq f 202) (some (KJ EO)) (WO Ba f))))))=some sm:=h;rw[hb hOf,hb hMin,hb hNot,hb hBoth,hb hProject]at e;exact e
 have hs:=FH.sums f sm hr;intro args st v st' h1 h2 h3;obtain⟨k1,k2⟩:=hs args st v st' h1 h2 h3
 exact⟨k1,fun w0 p w H hG=>k2 w0 p w H (ku w0 p p hG)⟩⟩
end
section
open Go Go.RowKit

noncomputable def Ml(n:Int):Option (AV×St)→Bool
 |some (.agg [.int .i64 t,_,_,_,_],_)=>OR t n
 |_=>false
def lR:List Nat:=[97,108,108,49,32,120,58,32,101,120,49,32,121,58,32,120,32,60,32,121,59]
theorem ud:Ml 1 (U9 Tryz.prog eJ 10000 1000 23 [.str lR,.int .i64 1000] ⟨0,.nil⟩)=true:=by decide+kernel
end
end Go.Proofs.YthjgndgnmkiaiaaGreatDoor
