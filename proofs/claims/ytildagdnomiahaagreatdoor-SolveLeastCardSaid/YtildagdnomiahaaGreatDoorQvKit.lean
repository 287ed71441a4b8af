/-
  Small laws on worlds, rows of cells and endings: of no program.
-/
import Derived.WalkKit
import Derived.Outline
import Derived.LoopTactic
import Derived.Deep.DeepCutAuto
import Derived.Lib.Hide
import Derived.WalkSpells
import Derived.Below
import Derived.OwnWalk
import Derived.Lib.OthersKept
import Derived.Deep.LoopGhost
import Derived.WalkSmall
import Derived.Deep.QuietTactic
import Derived.BigQuiet
import Derived.StillTailTactics

namespace Go.Proofs.YtildagdnomiahaaGreatDoor
open Go Go.RowKit
set_option linter.unusedVariables false

theorem Qd{p:Prop}(h:p:=by omega):p:=h
theorem Q9{p:Prop}(h:p:=by decide):p:=h
theorem Qx{p:Prop}(h:p:=by simp):p:=h
theorem WZ{p:Prop}(h:False:=by first|omega|(simp_all;done)|(simp_all;omega)):p:=h.elim
theorem Za{p:Prop}(h:p:=by first|(simp only[List.append_assoc,List.cons_append,List.nil_append,List.append_nil,List.set_cons_zero,List.set_cons_succ];done)|(simp only[List.append_assoc,List.cons_append,List.nil_append,List.append_nil,List.set_cons_zero,List.set_cons_succ];rfl)):p:=h
theorem W4:(∀{α:Type} (a b c:List α),a++b++c=a++(b++c))∧(∀{α:Type} (a:α) (b c:List α),a::b++c=a::(b++c))∧(∀{α:Type} (a:List α),[]++a=a)∧(∀{α:Type} (a b:α) (l:List α),(a::l).set 0 b=b::l)∧(∀{α:Type} (a b:α) (l:List α) (n:Nat),(a::l).set (n+1) b=a::l.set n b):=⟨fun a b c=>List.append_assoc a b c,fun _ _ _=>rfl,fun _=>rfl,fun _ _ _=>rfl,fun _ _ _ _=>rfl⟩
theorem YL{α:Type}(l:List α)(i:Nat)(h:i<l.length): ∃x,l[i]? =some x:=⟨_,List.getElem?_eq_getElem h⟩
theorem wG(w:World)(n:Nat)(o:Obj):(w.drewN n).alloc o=(w.alloc o).drewN n:=rfl
theorem zE(w:World)(n:Nat)(a:Addr)(v:Value):(w.drewN n).setCell a v=(w.setCell a v).drewN n:=rfl
theorem JW(b o j:Nat):(⟨b,o,none⟩:Addr).add j=⟨b,o+j,none⟩:=by
 unfold Addr.add;split<;>simp_all

theorem Zi(w:World)(o:Obj){k:Nat}(h:k<w.heap.size):(w.alloc o).heap[k]? =w.heap[k]? :=Below.heap_alloc w o k h
theorem MX(w:World)(cs:Array Value)(t:TypeId)(l:List Value)(hl:cs.toList=l):
  ∀j u,l[j]? =some u→(w.alloc (.cells cs t)).cell? ((⟨w.heap.size,0,none⟩:Addr).add j)=some u:=by
 intro j u hu;subst hl;rw[JW,cell_of_row (w.alloc (.cells cs t)) w.heap.size (0+j) cs t (0,0) (heap_alloc_new w _)]
 simpa using hu

section
variable {w w':World} {base base':Nat} {e:TypeId} {size:Nat} {v:Value} {n:Nat} {xs:List Value}
end

end Go.Proofs.YtildagdnomiahaaGreatDoor
