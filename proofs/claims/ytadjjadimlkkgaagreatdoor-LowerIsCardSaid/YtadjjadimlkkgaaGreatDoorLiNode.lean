/-
  Formulas and terms in the reckoner's memory; are two of them one: the program's answer.
-/
import Derived.Test.YtadjjadimlkkgaaGreatDoorProg
import Derived.Test.YtadjjadimlkkgaaGreatDoorLiSy2
namespace Go.Proofs.YtadjjadimlkkgaaGreatDoor
open Go Go.RowKit
set_option linter.unusedVariables false
set_option maxRecDepth 100000

inductive Nd where
 |mk (op name:List Nat) (n at_:Int) (kids:List Nd)
def Nd.kids:Nd→List Nd
 |.mk _ _ _ _ l=>l
def Sm:AV→Bool
 |.sl _ _ _ _ _=>false
 |_=>true
inductive Yq(h:Hp):Nd→List AV→Prop
 |leaf {op name:List Nat} {n at_:Int} {ks:AV} (hs:Yj ks=some 0) (ha:Sm ks=true) (hb:Bytes op∧Bytes name):Yq h (.mk op name n at_ []) [.str op,.str name,.int .i64 n,.int .i64 at_,ks]
 |node {op name:List Nat} {n at_:Int} {kids:List Nd} {c m off:Nat} {cells:List AV} (hr:Yy h c m cells) (hn:(kids.length:Int)≤9223372036854775807) (hl:off+kids.length *5≤cells.length)
  (hk: ∀(i:Nat) (k:Nd),kids[i]? =some k→Yq h k ((cells.drop (off+i *5)).take 5)) (hb:Bytes op∧Bytes name):Yq h (.mk op name n at_ kids) [.str op,.str name,.int .i64 n,.int .i64 at_,.sl c m off kids.length 5]
theorem Yq.mono{h h':Hp}(hl:VH h h'){t:Nd}{cs:List AV}(r:Yq h t cs):Yq h' t cs:=by
 induction r with
 |leaf hs ha hb=>exact .leaf hs ha hb
 |node hr hn hl' hk hb ih=>exact .node (hl _ _ _ hr) hn hl' ih hb
structure zH(P:Program)(tn:TypeId)(h:Hp)(kids:List Nd)(ks:AV):Prop where
 len:Yj ks=some kids.length
 UK:(kids.length:Int)≤9223372036854775807
 cell:QE ks=true
 at_: ∀(i:Nat) (k:Nd),kids[i]? =some k→ ∃c m off cs,ks=.sl c m off kids.length 5∧Jd P tn (.ptr c m (off+i *5)) h=some (.agg cs)∧Yq h k cs
theorem ZA{ks:AV}{n:Nat}(h:Yj ks=some n):QE ks=true:=by
 cases ks<;>first|rfl|cases h
theorem Yq.open_{P:Program}{tn:TypeId}(ht:tk P tn=.agg 5){h:Hp}{op name:List Nat}{n at_:Int}{kids:List Nd}{cs:List AV}(r:Yq h (.mk op name n at_ kids) cs):
  ∃ks,cs=[.str op,.str name,.int .i64 n,.int .i64 at_,ks]∧zH P tn h kids ks:=by
 cases r with
 |leaf hs ha hb=>exact⟨_,rfl,hs,by simp,ZA hs,fun i k hk=>by simp at hk⟩
 |node hr hn hl hk hb=>
  rename_i c m off cells;refine⟨_,rfl,rfl,hn,rfl,fun i k hki=>⟨c,m,off,_,rfl,?_,hk i k hki⟩⟩;obtain⟨ro,e,vs,ms,h1,h2⟩:=hr;have hlt:=(List.getElem?_eq_some_iff.1 hki).1;show ob (rowOf h c m) _=_;unfold rowOf;rw[h1,Qk];show ob (ob (nth ms m) _) _=_;rw[Ur,h2];show Zc P tn cells (off+i *5)=_;unfold Zc;rw[ht];show X6 5 (XJ (off+i *5) cells) (fun r=>some (AV.agg r))=_
  have htk: ∀(n:Nat) (l:List AV) (k:List AV→Option AV),n≤l.length→X6 n l k=k (l.take n):=by
   intro n
   induction n with
   |zero=>intro l k _;rfl
   |succ n ih=>
    intro l k hl
    cases l with
    |nil=>simp at hl
    |cons a l=>exact ih l _ (by simpa using hl)
  rw[htk,JM];rw[JM,List.length_drop]
  have:i *5+5≤kids.length *5:=by omega
  omega
theorem Qt.rows{st st':St}(hf:Qx st)(q:Qt st st'):VH st.h.get st'.h.get:=by
 rintro c m l ⟨ro,e,vs,ms,h1,h2⟩
 have hc:c<st.n:=Nat.lt_of_not_le fun hle=>by rw[hf c hle]at h1;cases h1
 exact⟨ro,e,vs,ms,by rw[q.old c hc];exact h1,h2⟩
theorem Mem.rows{h0:Hp}{n0:Nat}{st:St}{M:List (Nat×Nat×List AV)}(hM:Mem h0 n0 [] st M):VH h0 st.h.get:=by
 rintro c m l ⟨ro,e,vs,ms,h1,h2⟩
 have hc:c<n0:=Nat.lt_of_not_le fun hle=>by rw[hM.base c hle]at h1;cases h1
 exact⟨ro,e,vs,ms,by rw[hM.old c hc (by simp)];exact h1,h2⟩
mutual
def XN:Nd→Nat
 |.mk _ _ _ _ kids=>As kids+1
def As:List Nd→Nat
 |[]=>0
 |a::l=>XN a+As l
end
theorem Ue{k:Nd}{l:List Nd}(h:k∈l):XN k≤As l:=by
 induction l with
 |nil=>cases h
 |cons a l ih=>
  rw[As];rcases List.mem_cons.1 h with e|h
  ·rw[e];omega
  ·have:=ih h;omega
theorem Xi{M:Nd→Prop}(h: ∀op name n at_ kids,(∀k,k∈kids→M k)→M (.mk op name n at_ kids))(k:Nd):M k:=by
 have: ∀n k,XN k≤n→M k:=by
  intro n
  induction n with
  |zero=>intro k hk;cases k;rw[XN]at hk;omega
  |succ n ih=>
   intro k hk
   cases k with
   |mk op name z at_ kids=>
    rw[XN]at hk;exact h _ _ _ _ _ fun k hm=>ih k (by have:=Ue hm;omega)
 exact this _ k (Nat.le_refl _)

theorem zy:tk Tryz.prog 26=.agg 5:=by kernel_rfl
theorem uQ:Tryz.prog.underlying 24=some (.slice 26):=by kernel_rfl
end Go.Proofs.YtadjjadimlkkgaaGreatDoor
