/-
  Small laws on worlds, rows of cells and endings: of no program.
-/
import Derived.WalkKit
import Derived.Outline
import Derived.LoopTactic
import Derived.Deep.DeepCutAuto
import Derived.Lib.Hide
import Derived.WalkSpells
import Derived.Below
import Derived.OwnWalk
import Derived.Lib.OthersKept
import Derived.Deep.LoopGhost
import Derived.WalkSmall
import Derived.Deep.QuietTactic
import Derived.BigQuiet
import Derived.StillTailTactics
namespace Go.Proofs.YtadjjadimlkkgaaGreatDoor
open Go Go.RowKit
set_option linter.unusedVariables false

theorem EO{a b:Bool}(h:a=b):Ending.returned (.bool a)=.returned (.bool b):=by rw[h]
theorem As{k:IntKind}{a b:Int}(h:a=b):Ending.returned (.int k a)=.returned (.int k b):=by rw[h]

theorem Sm{P:Program}{f:FuncId}{args:Array Value}{w:World}{a n:Nat}{v:Value}
  (h:Calls P f args (w.drewN (a+n)) fun e w'=>e=.returned v∧ ∃m,w'=(w.drewN (a+n)).drewN m):
  Calls P f args (w.drewN (a+n)) fun e w''=>e=.returned v∧ ∃m,w''=w.drewN (a+m):=
 h.mono fun _ _ ⟨he,m,hm⟩=>⟨he,n+m,by rw[hm,World.drewN_drewN,Nat.add_assoc]⟩
theorem Au{P:Program}{f:FuncId}{args:Array Value}{w:World}{v:Value}
  (h:Calls P f args w fun e w'=>e=.returned v∧w=w'):Calls P f args w fun e w'=>e=.returned v∧ ∃m,w'=w.drewN m:=
 h.mono fun _ _ ⟨he,hm⟩=>⟨he,0,hm.symm⟩
theorem VS(w:World)(n:Nat)(o:Obj):(w.drewN n).alloc o=(w.alloc o).drewN n:=rfl
theorem X1(w:World)(n:Nat)(a:Addr)(v:Value):(w.drewN n).setCell a v=(w.setCell a v).drewN n:=rfl
theorem LI{P:Program}{id:Nat}{Q:Exit→Act→World→Prop}{a:Act}{w:World}{l:List Oper}(n:Nat)(hm:P.follows .mixedOrders=true)(hB:Region.lexTailB .any l.toArray n=true)
  (h:wpStill P l.toArray w.drew (fun a'=>wpList P l.toArray Q (l.drop n) a' w.drew) (l.take n) a):(Code.region id l.toArray true).wp P Q a w:=
 wp_region_still_tail n hm hB h
theorem Y3(b o j:Nat):(⟨b,o,none⟩:Addr).add j=⟨b,o+j,none⟩:=by
 unfold Addr.add;split<;>simp_all

theorem Yv(w:World)(o:Obj){k:Nat}(h:k<w.heap.size):(w.alloc o).heap[k]? =w.heap[k]? :=Below.heap_alloc w o k h
theorem FX(w:World)(cs:Array Value)(t:TypeId)(l:List Value)(hl:cs.toList=l):
  ∀j u,l[j]? =some u→(w.alloc (.cells cs t)).cell? ((⟨w.heap.size,0,none⟩:Addr).add j)=some u:=by
 intro j u hu;subst hl;rw[Y3,cell_of_row (w.alloc (.cells cs t)) w.heap.size (0+j) cs t (0,0) (heap_alloc_new w _)]
 simpa using hu

theorem Dh{B:Nat}{a w:World}(h:Below B a w):Below B a w.drew:=h.trans ⟨rfl,rfl,rfl,Nat.le_refl _,fun _ _=>rfl⟩

theorem WT{a b c:World}{row:Option Nat}(h:a.grownBy b row)(k:b.grownBy c row):a.grownBy c row:=
 ⟨k.os.trans h.os,k.tape.trans h.tape,k.output.trans h.output,Nat.le_trans h.size k.size,fun i hi hne=>(k.block i (Nat.lt_of_lt_of_le hi h.size) hne).trans (h.block i hi hne)⟩
theorem Ud{a w:World}{row:Option Nat}(h:a.grownBy w row)(n:Nat):a.grownBy (w.drewN n) row:=⟨h.os,h.tape,h.output,h.size,h.block⟩
theorem IM{a b c:World}{row:Option Nat}(h:a.grownBy b row)(k:Below b.heap.size b c):a.grownBy c row:=
 ⟨k.os.trans h.os,k.tape.trans h.tape,k.output.trans h.output,Nat.le_trans h.size k.size,fun i hi hne=>(k.block i (Nat.lt_of_lt_of_le hi h.size)).trans (h.block i hi hne)⟩
theorem Zg{a w:World}{row:Option Nat}(h:a.grownBy w row)(o:Obj):a.grownBy (w.alloc o) row:=
 IM h ((Below.refl _ _).alloc (Nat.le_refl _) _)
theorem Xa{a w:World}{g:Nat}(h:a.grownBy w (some g))(o:Nat)(u:Value):a.grownBy (w.setCell ⟨g,o,none⟩ u) (some g):=
 WT h ⟨rfl,rfl,rfl,by simp[World.setCell],fun i hi hne=>Below.heap_setCell w ⟨g,o,none⟩ u i (by rintro rfl;exact hne rfl)⟩
theorem Yg{a w:World}{row:Option Nat}(h:a.grownBy w row){p:Addr}(hp:a.heap.size≤p.block)(u:Value):a.grownBy (w.setCell p u) row:=
 ⟨h.os,h.tape,h.output,by simpa [World.setCell]using h.size,fun i hi hne=>(Below.heap_setCell w p u i (by rintro rfl;omega)).trans (h.block i hi hne)⟩
theorem IV{B:Nat}{a b c:World}{g:Nat}(h:Below B a b)(k:b.grownBy c (some g))(hg:B≤g)(hs:B≤b.heap.size):Below B a c:=
 h.trans ⟨k.os,k.tape,k.output,k.size,fun i hi=>k.block i (by omega) (by intro e;cases e;omega)⟩
theorem WE{w:World}{b:Nat}{t:TypeId}{c0 c1 c2 c3:Value}(h:w.heap[b]? =some (.cells #[c0,c1,c2,c3] t (0,0)))(x0 x1 x2 x3:Value):
  ((((w.setCell ⟨b,0,none⟩ x0).setCell ⟨b,1,none⟩ x1).setCell ⟨b,2,none⟩ x2).setCell ⟨b,3,none⟩ x3).cell? ⟨b,0,none⟩=some x0∧
  ((((w.setCell ⟨b,0,none⟩ x0).setCell ⟨b,1,none⟩ x1).setCell ⟨b,2,none⟩ x2).setCell ⟨b,3,none⟩ x3).cell? ⟨b,1,none⟩=some x1∧
  ((((w.setCell ⟨b,0,none⟩ x0).setCell ⟨b,1,none⟩ x1).setCell ⟨b,2,none⟩ x2).setCell ⟨b,3,none⟩ x3).cell? ⟨b,2,none⟩=some x2∧
  ((((w.setCell ⟨b,0,none⟩ x0).setCell ⟨b,1,none⟩ x1).setCell ⟨b,2,none⟩ x2).setCell ⟨b,3,none⟩ x3).cell? ⟨b,3,none⟩=some x3:=by
 have hF:((((w.setCell ⟨b,0,none⟩ x0).setCell ⟨b,1,none⟩ x1).setCell ⟨b,2,none⟩ x2).setCell ⟨b,3,none⟩ x3).heap[b]? =some (.cells #[x0,x1,x2,x3] t (0,0)):=by
  simp[World.setCell,Array.getElem?_modify,h]
 exact⟨cell_of_row _ b 0 _ _ _ hF,cell_of_row _ b 1 _ _ _ hF,cell_of_row _ b 2 _ _ _ hF,cell_of_row _ b 3 _ _ _ hF⟩
theorem Bk{a w:World}{row:Option Nat}{b:Nat}(h:a.grownBy w row)(hb:a.heap.size≤b)(x0 x1 x2 x3:Value):
  a.grownBy ((((w.setCell ⟨b,0,none⟩ x0).setCell ⟨b,1,none⟩ x1).setCell ⟨b,2,none⟩ x2).setCell ⟨b,3,none⟩ x3) row:=
 Yg (Yg (Yg (Yg h (p:=⟨b,0,none⟩) hb x0) (p:=⟨b,1,none⟩) hb x1) (p:=⟨b,2,none⟩) hb x2) (p:=⟨b,3,none⟩) hb x3
theorem EV{w:World}{b g:Nat}(h:g≠b)(x0 x1 x2 x3:Value):
  ((((w.setCell ⟨b,0,none⟩ x0).setCell ⟨b,1,none⟩ x1).setCell ⟨b,2,none⟩ x2).setCell ⟨b,3,none⟩ x3).heap[g]? =w.heap[g]? :=by
 rw[Below.heap_setCell _ _ _ _ h,Below.heap_setCell _ _ _ _ h,Below.heap_setCell _ _ _ _ h,Below.heap_setCell _ _ _ _ h]
theorem Zf{w:World}{g:Nat}{t:TypeId}{cs:Array Value}(h:w.heap[g]? =some (.cells cs t (0,0)))(i:Nat)(u:Value):
  (w.setCell ⟨g,i,none⟩ u).heap[g]? =some (.cells (cs.setIfInBounds i u) t (0,0)):=by
 simp[World.setCell,Array.getElem?_modify,h]

section
variable {w w':World} {base base':Nat} {e:TypeId} {size:Nat} {v:Value} {n:Nat} {xs:List Value}
theorem HE(h:w.ownsRow base e size v n xs)(hb:base'≤base):w.ownsRow base' e size v n xs:=by
 refine⟨h.1,?_⟩;rcases h.2 with h|⟨g,cap,cur,a,b,r⟩
 ·exact .inl h
 ·exact .inr ⟨g,cap,cur,a,by omega,r⟩
theorem Nl(h:w.ownsRow base e size v n xs){g:Nat}(hg:v.ownBlock=some g):base≤g∧g<w.heap.size:=by
 rcases h.2 with⟨rfl,_⟩|⟨g',cap,cur,rfl,hb,hh,_⟩
 ·simp[Value.ownBlock]at hg
 ·simp[Value.ownBlock]at hg;subst hg;exact⟨hb,(Array.getElem?_eq_some_iff.1 hh).1⟩
theorem Su{B:Nat}(h:w.ownsRow base e size v n xs)(hb:Below B w w')(hB: ∀g,v.ownBlock=some g→g<B):w'.ownsRow base e size v n xs:=by
 refine⟨h.1,?_⟩;rcases h.2 with h|⟨g,cap,cur,rfl,b,hh,r⟩
 ·exact .inl h
 ·exact .inr ⟨g,cap,cur,rfl,b,(hb.block g (hB g rfl)).trans hh,r⟩
theorem Fl(h:w.ownsRow base e size v n xs)(hb:Below w.heap.size w w'):w'.ownsRow base e size v n xs:=
 Su h hb fun _ hg=>(Nl h hg).2
theorem Gx{B:Nat}{w0:World}(hb:Below B w0 w)(h:w.ownsRow base e size v n xs)(hg:w.grownBy w' v.ownBlock)(hB:B≤base)(hs:B≤w.heap.size):Below B w0 w':=
 hb.trans ⟨hg.os,hg.tape,hg.output,hg.size,fun k hk=>hg.block k (by omega) (by
  intro hk2;have:=(Nl h hk2.symm).1
  omega)⟩
theorem La(h:w.ownsRow base e size v n xs)(hg:w.grownBy w' v.ownBlock){k:Nat}(hk:k<base)(hs:k<w.heap.size):w'.heap[k]? =w.heap[k]? :=
 hg.block k hs (by
  intro hk2;have:=(Nl h hk2.symm).1
  omega)
theorem OV(h:w.ownsRow base e size v n xs):
  ∃A cap,v=.slice A n cap∧n≤cap∧cap≤maxLen∧(0<n→ ∃g,A=some ⟨g,0,none⟩∧base≤g∧g<w.heap.size∧ ∀j,j<n *size→w.cell? ⟨g,j,none⟩=xs[j]?):=by
 have h':=h;rcases h.2 with⟨rfl,rfl⟩|⟨g,cap,cur,rfl,hb,hh,hn,hm,_⟩
 ·exact⟨none,0,rfl,Nat.le_refl _,by unfold maxLen;omega,fun h=>absurd h (by omega)⟩
 ·exact⟨_,cap,rfl,hn,hm,fun _=>⟨g,rfl,hb,(Array.getElem?_eq_some_iff.1 hh).1,fun j hj=>h'.cellAt j hj⟩⟩
end

end Go.Proofs.YtadjjadimlkkgaaGreatDoor
