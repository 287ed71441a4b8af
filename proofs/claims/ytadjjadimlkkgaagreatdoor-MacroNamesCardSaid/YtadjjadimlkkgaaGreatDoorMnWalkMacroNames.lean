/-
  MacroNames returns true.
-/
import Derived.Test.YtadjjadimlkkgaaGreatDoorMnMcn
namespace Go.Proofs.YtadjjadimlkkgaaGreatDoor
open Go Go.RowKit
set_option linter.unusedVariables false

theorem Iw{H:Type}{enc:TypeId×Value→H}{W:World}{v0:Value}{d0:DataW H}{p0:List MemPlace}(h0:DataW.Trod enc Tryz.prog W 0 (fun _=>true) true 28 v0 d0 p0)(hT:I2 W):
  Calls Tryz.prog 4 #[v0] W fun e w'=>e=.returned (.bool true)∧Below W.heap.size W w':=by
 obtain⟨ml1,cs,⟨ds,ps,⟨o,s,z,a,l⟩⟩,_,hM1,hk,hw,hc⟩:=Db X6.nil h0
 have:=Rc (G:=QU) (fun _=>rfl) jD mixed (f:=4) (args:=[.agg cs]) hM1 ⟨hw,trivial⟩
  (Lw (LU ml1) (by rw[I7];exact hk)) hT
 rw[show Qk (Lq ml1) [.agg cs]=[v0] by rw[←hc];rfl]at this;exact this
end Go.Proofs.YtadjjadimlkkgaaGreatDoor
