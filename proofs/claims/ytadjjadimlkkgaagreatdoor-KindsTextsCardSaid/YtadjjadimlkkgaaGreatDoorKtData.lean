/-
  Formulas and terms in the reckoner's memory; are two of them one: the program's answer.
-/
import Derived.Test.YtadjjadimlkkgaaGreatDoorProg
import Derived.Test.YtadjjadimlkkgaaGreatDoorKtSy2
set_option linter.unusedVariables false
section
namespace Go.Proofs.YtadjjadimlkkgaaGreatDoor
open Go Go.RowKit
set_option maxRecDepth 100000

inductive Nd where
 |mk (op name:List Nat) (n at_:Int) (kids:List Nd)
def Nd.kids:Nd→List Nd
 |.mk _ _ _ _ l=>l
def jF:AV→Bool
 |.sl _ _ _ _ _=>false
 |_=>true
inductive YW(h:Hp):Nd→List AV→Prop
 |leaf {op name:List Nat} {n at_:Int} {ks:AV} (hs:V5 ks=some 0) (ha:jF ks=true) (hb:Bytes op∧Bytes name):YW h (.mk op name n at_ []) [.str op,.str name,.int .i64 n,.int .i64 at_,ks]
 |node {op name:List Nat} {n at_:Int} {kids:List Nd} {c m off:Nat} {cells:List AV} (hr:X4 h c m cells) (hn:(kids.length:Int)≤9223372036854775807) (hl:off+kids.length *5≤cells.length)
  (hk: ∀(i:Nat) (k:Nd),kids[i]? =some k→YW h k ((cells.drop (off+i *5)).take 5)) (hb:Bytes op∧Bytes name):YW h (.mk op name n at_ kids) [.str op,.str name,.int .i64 n,.int .i64 at_,.sl c m off kids.length 5]
theorem YW.mono{h h':Hp}(hl:AZ h h'){t:Nd}{cs:List AV}(r:YW h t cs):YW h' t cs:=by
 induction r with
 |leaf hs ha hb=>exact .leaf hs ha hb
 |node hr hn hl' hk hb ih=>exact .node (hl _ _ _ hr) hn hl' ih hb
theorem KU{ks:AV}{n:Nat}(h:V5 ks=some n):JD ks=true:=by
 cases ks<;>first|rfl|cases h
theorem Qt.rows{st st':St}(hf:Q3 st)(q:Qt st st'):AZ st.h.get st'.h.get:=by
 rintro c m l ⟨ro,e,vs,ms,h1,h2⟩
 have hc:c<st.n:=Nat.lt_of_not_le fun hle=>by rw[hf c hle]at h1;cases h1
 exact⟨ro,e,vs,ms,by rw[q.old c hc];exact h1,h2⟩
theorem Mem.rows{h0:Hp}{n0:Nat}{st:St}{M:List (Nat×Nat×List AV)}(hM:Mem h0 n0 [] st M):AZ h0 st.h.get:=by
 rintro c m l ⟨ro,e,vs,ms,h1,h2⟩
 have hc:c<n0:=Nat.lt_of_not_le fun hle=>by rw[hM.base c hle]at h1;cases h1
 exact⟨ro,e,vs,ms,by rw[hM.old c hc (by simp)];exact h1,h2⟩
mutual
def Fe:Nd→Nat
 |.mk _ _ _ _ kids=>Dp kids+1
def Dp:List Nd→Nat
 |[]=>0
 |a::l=>Fe a+Dp l
end
theorem Hw{k:Nd}{l:List Nd}(h:k∈l):Fe k≤Dp l:=by
 induction l with
 |nil=>cases h
 |cons a l ih=>
  rw[Dp];rcases List.mem_cons.1 h with e|h
  ·rw[e];omega
  ·have:=ih h;omega
theorem VJ{M:Nd→Prop}(h: ∀op name n at_ kids,(∀k,k∈kids→M k)→M (.mk op name n at_ kids))(k:Nd):M k:=by
 have: ∀n k,Fe k≤n→M k:=by
  intro n
  induction n with
  |zero=>intro k hk;cases k;rw[Fe]at hk;omega
  |succ n ih=>
   intro k hk
   cases k with
   |mk op name z at_ kids=>
    rw[Fe]at hk;exact h _ _ _ _ _ fun k hm=>ih k (by have:=Hw hm;omega)
 exact this _ k (Nat.le_refl _)

end Go.Proofs.YtadjjadimlkkgaaGreatDoor
end
section
namespace Go.Proofs.YtadjjadimlkkgaaGreatDoor
open Go Go.RowKit
set_option maxRecDepth 100000

structure Dc where
 name:List Nat
 order:Int
 at_:Int
def Dc.cells(d:Dc):List AV:=[.str d.name,.int .i64 d.order,.int .i64 d.at_]
structure Pd where
 name:List Nat
 params:List Dc
 body:Nd
 at_:Int
structure Pg where
 decls:List Dc
 preds:List Pd
 main:Nd
end Go.Proofs.YtadjjadimlkkgaaGreatDoor
end
