/-
  Formulas and terms that a call is handed.
-/
import Derived.Test.YtadjjadimlkkgaaGreatDoorLiNode
import Derived.ChangeShapes
import Derived.ChangeOld
import Derived.Below
import Derived.Carry
set_option linter.unusedVariables false
section
namespace Go.Proofs.YtadjjadimlkkgaaGreatDoor
open Go Go.RowKit
set_option maxRecDepth 100000

theorem yI:Tryz.prog.underlying 9=some .string:=by kernel_rfl
theorem yJ:Tryz.prog.underlying 3=some (.int .i64):=by kernel_rfl
theorem jt:Tryz.prog.cellsOf 26=5:=by kernel_rfl
theorem By{H:Type}{h:Hp}{xs:List AV}{d:DataW H}(r:Rd Tryz.prog h 9 xs d): ∃s,xs=[.str s]∧Bytes s:=by
 have u:=yI
 cases r with
 |bool ht=>rw[u]at ht;cases ht
 |int ht hw=>rw[u]at ht;cases ht
 |str ht hs=>exact⟨_,rfl,Xu _⟩
 |nil ht=>rw[u]at ht;cases ht
 |none ht=>rw[u]at ht;cases ht
 |row ht hz hr hl' he hm hd=>rw[u]at ht;cases ht
 |agg ht hl' hp hd=>rw[u]at ht;cases ht
theorem N3{H:Type}{h:Hp}{xs:List AV}{d:DataW H}(r:Rd Tryz.prog h 3 xs d): ∃s,xs=[.int .i64 s]:=by
 have u:=yJ
 cases r with
 |bool ht=>rw[u]at ht;cases ht
 |int ht hw=>rw[u]at ht;injection ht with ht;injection ht with ht;subst ht;exact⟨_,rfl⟩
 |str ht hs=>rw[u]at ht;cases ht
 |nil ht=>rw[u]at ht;cases ht
 |none ht=>rw[u]at ht;cases ht
 |row ht hz hr hl' he hm hd=>rw[u]at ht;cases ht
 |agg ht hl' hp hd=>rw[u]at ht;cases ht
theorem uP: ∃f0 f1 f2 f3 f4:Field,Tryz.prog.underlying 26=some (.struct #[f0,f1,f2,f3,f4])∧(f0.type=9∧f0.offset=0)∧(f1.type=9∧f1.offset=1)∧(f2.type=3∧f2.offset=2)∧(f3.type=3∧f3.offset=3)∧(f4.type=24∧f4.offset=4):=
 ⟨_,_,_,_,_,Tryz.underlying26,⟨rfl,rfl⟩,⟨rfl,rfl⟩,⟨rfl,rfl⟩,⟨rfl,rfl⟩,⟨rfl,rfl⟩⟩
theorem c1:Tryz.prog.cellsOf 9=1∧Tryz.prog.cellsOf 3=1∧Tryz.prog.cellsOf 24=1:=⟨by kernel_rfl,by kernel_rfl,by kernel_rfl⟩
theorem M5{H:Type}{h:Hp}{t:TypeId}{xs:List AV}{d:DataW H}(r:Rd Tryz.prog h t xs d):
  (t=26→ ∃k,Yq h k xs)∧(t=24→ ∃ks,xs=[ks]∧ ∀op name n a,Bytes op→Bytes name→ ∃kids,Yq h (.mk op name n a kids) [.str op,.str name,.int .i64 n,.int .i64 a,ks]):=by
 obtain⟨f0,f1,f2,f3,f4,uN,⟨t0,o0⟩,⟨t1,o1⟩,⟨t2,o2⟩,⟨t3,o3⟩,⟨t4,o4⟩⟩:=uP;have uK:=uQ
 induction r with
 |bool ht=>exact⟨fun e=>(by subst e;rw[uN]at ht;cases ht),fun e=>(by subst e;rw[uK]at ht;cases ht)⟩
 |int ht hw=>exact⟨fun e=>(by subst e;rw[uN]at ht;cases ht),fun e=>(by subst e;rw[uK]at ht;cases ht)⟩
 |str ht hs=>exact⟨fun e=>(by subst e;rw[uN]at ht;cases ht),fun e=>(by subst e;rw[uK]at ht;cases ht)⟩
 |nil ht=>exact⟨fun e=>(by subst e;rw[uN]at ht;cases ht),fun _=>⟨_,rfl,fun op name n a h1 h2=>⟨[],.leaf rfl rfl ⟨h1,h2⟩⟩⟩⟩
 |none ht=>exact⟨fun e=>(by subst e;rw[uN]at ht;cases ht),fun _=>⟨_,rfl,fun op name n a h1 h2=>⟨[],.leaf rfl rfl ⟨h1,h2⟩⟩⟩⟩
 |row ht hz hr hl he hm hd ih=>
  rename_i t e c m len cells elems rest;refine⟨fun e=>(by subst e;rw[uN]at ht;cases ht),fun e2=>⟨_,rfl,fun op name n a h1 h2=>?_⟩⟩;subst e2;rw[uK]at ht
  injection ht with ht
  injection ht with ht
  subst ht;rw[jt]at hl ih ⊢
  have hk: ∀i,∃k,i<len→Yq h k ((cells.drop (i *5)).take 5):=fun i=>by
   by_cases hi:i<len
   ·obtain⟨k,hk⟩:=(ih i elems[i] (List.getElem?_eq_getElem (he▸hi))).1 rfl;exact⟨k,fun _=>hk⟩
   ·exact⟨.mk [] [] 0 0 [],fun h=>absurd h hi⟩
  obtain⟨f,hf⟩:=Classical.axiomOfChoice hk
  have hlen:((List.range len).map f).length=len:=by simp
  have hmx:(len:Int)≤9223372036854775807:=by
   have h1:(maxLen:Int)≤9223372036854775807:=by decide
   omega
  refine⟨(List.range len).map f,?_⟩
  have:=Yq.node (op:=op) (name:=name) (n:=n) (at_:=a) (kids:=(List.range len).map f) (off:=0) hr (by rw[hlen];exact hmx) (by rw[hlen];omega) (fun i k hi=>by
   rw[List.getElem?_map]at hi
   have hlt:i<len:=by
    by_cases hi':i<len
    ·exact hi'
    ·rw[List.getElem?_eq_none (by simp;omega)]at hi;cases hi
   rw[List.getElem?_range hlt]at hi
   injection hi with hi
   rw[←hi,Nat.zero_add]
   exact hf i hlt) ⟨h1,h2⟩
  rw[hlen]at this;exact this
 |agg ht hl hp hd ih=>
  rename_i t fs xs parts;refine⟨fun e=>?_,fun e=>(by subst e;rw[uK]at ht;cases ht)⟩;subst e;rw[uN]at ht
  injection ht with ht
  injection ht with ht
  subst ht;rw[jt]at hl
  obtain⟨a0,a1,a2,a3,a4,rfl⟩: ∃a0 a1 a2 a3 a4,xs=[a0,a1,a2,a3,a4]:=by
   match xs,hl with
   |[a0,a1,a2,a3,a4],_=>exact⟨_,_,_,_,_,rfl⟩
  obtain⟨d0,d1,d2,d3,d4,rfl⟩: ∃a0 a1 a2 a3 a4,parts=[a0,a1,a2,a3,a4]:=by
   match parts,hp with
   |[a0,a1,a2,a3,a4],_=>exact⟨_,_,_,_,_,rfl⟩
  obtain⟨cs,ci,ck⟩:=c1;have r0:=hd 0 f0 d0 rfl rfl;have r1:=hd 1 f1 d1 rfl rfl;have r2:=hd 2 f2 d2 rfl rfl;have r3:=hd 3 f3 d3 rfl rfl;have r4:=(ih 4 f4 d4 rfl rfl).2 t4;rw[t0,o0,cs]at r0;rw[t1,o1,cs]at r1;rw[t2,o2,ci]at r2;rw[t3,o3,ci]at r3;rw[o4,t4,ck]at r4;obtain⟨s0,e0,b0⟩:=By r0;obtain⟨s1,e1,b1⟩:=By r1;obtain⟨s2,e2⟩:=N3 r2;obtain⟨s3,e3⟩:=N3 r3;obtain⟨ks,e4,hk⟩:=r4
  injection e0 with e0;injection e1 with e1;injection e2 with e2;injection e3 with e3;injection e4 with e4
  subst e0 e1 e2 e3 e4;obtain⟨kids,hk⟩:=hk s0 s1 s2 s3 b0 b1;exact⟨_,hk⟩
theorem M3{H:Type}{h:Hp}{xs:List AV}{d:DataW H}(r:Rd Tryz.prog h 26 xs d): ∃k,Yq h k xs:=(M5 r).1 rfl
end Go.Proofs.YtadjjadimlkkgaaGreatDoor
end
section
namespace Go.Proofs.YtadjjadimlkkgaaGreatDoor
open Go Go.RowKit

theorem B9:Ir Tryz.prog [26,24,9,3]=true:=by kernel_rfl
theorem P2{H:Type}{enc:TypeId×Value→H}{W:World}{ml:FD}(hM:Zz W ml){v:Value}{d:DataW H}{p:List MemPlace}(h:DataW.Trod enc Tryz.prog W 0 (fun _=>true) true 26 v d p):
  ∃ml' cs k,ml<+:ml'∧Zz W ml'∧Yq (E5 ml') k cs∧WF (E5 ml') (.agg cs)∧Qd (Iu ml') (.agg cs)=v:=by
 obtain⟨fuel,h⟩:=h;obtain⟨ml',cs,h1,h2,h3,h4,h5,h6⟩:=lift _ B9 fuel 26 _ d p ml (by simp) h hM;obtain⟨k,hk⟩:=M3 h6;refine⟨ml',cs,k,h1,h2,hk,h4,?_⟩;obtain⟨e1,e2⟩:=EC h3 h5
 by_cases hv: ∃cs,v=.agg cs
 ·exact e1 hv
 ·obtain⟨a,rfl,_⟩:=e2 fun cs e=>hv ⟨cs,e⟩;obtain⟨op,name,n,at_,kids⟩:=k;obtain⟨ks,e,_⟩:=hk.open_ zy;cases e
end Go.Proofs.YtadjjadimlkkgaaGreatDoor
end
section
namespace Go.Proofs.YtadjjadimlkkgaaGreatDoor
open Go Go.RowKit
set_option maxRecDepth 100000

structure Dc where
 name:List Nat
 order:Int
 at_:Int
def Dc.cells(d:Dc):List AV:=[.str d.name,.int .i64 d.order,.int .i64 d.at_]
theorem yK:Tryz.prog.underlying 22=some (.slice 102):=by kernel_rfl
structure Pd where
 name:List Nat
 params:List Dc
 body:Nd
 at_:Int
structure Pg where
 decls:List Dc
 preds:List Pd
 main:Nd
end Go.Proofs.YtadjjadimlkkgaaGreatDoor
end
section
namespace Go.Proofs.YtadjjadimlkkgaaGreatDoor
open Go Go.RowKit
set_option maxRecDepth 100000

theorem jS{H:Type}{P:Program}{h:Hp}{t:TypeId}{fs:Array Field}(hu:P.underlying t=some (.struct fs)){xs:List AV}{d:DataW H}(r:Rd P h t xs d):
  xs.length=P.cellsOf t∧ ∀(i:Nat) (f:Field),fs[i]? =some f→ ∃d:DataW H,Rd P h f.type ((xs.drop f.offset).take (P.cellsOf f.type)) d:=by
 cases r with
 |bool ht=>rw[hu]at ht;cases ht
 |int ht hw=>rw[hu]at ht;cases ht
 |str ht hs=>rw[hu]at ht;cases ht
 |nil ht=>rw[hu]at ht;cases ht
 |none ht=>rw[hu]at ht;cases ht
 |row ht hz' hr hl he hm hd=>rw[hu]at ht;cases ht
 |agg ht hl hp hd=>
  rename_i fs' parts;rw[hu]at ht
  injection ht with ht
  injection ht with ht
  subst ht;refine⟨hl,fun i f hf=>?_⟩
  have hi:i<parts.length:=by
   rw[hp];exact(Array.getElem?_eq_some_iff.1 hf).1
  exact⟨parts[i],hd i f _ hf (List.getElem?_eq_getElem hi)⟩
theorem yv:Tryz.prog.cellsOf 102=3∧Tryz.prog.cellsOf 69=8∧Tryz.prog.cellsOf 28=7∧Tryz.prog.cellsOf 22=1∧Tryz.prog.cellsOf 23=1:=⟨by kernel_rfl,by kernel_rfl,by kernel_rfl,by kernel_rfl,by kernel_rfl⟩
theorem uR: ∃f0 f1 f2:Field,Tryz.prog.underlying 102=some (.struct #[f0,f1,f2])∧(f0.type=9∧f0.offset=0)∧(f1.type=3∧f1.offset=1)∧(f2.type=3∧f2.offset=2):=
 ⟨_,_,_,Tryz.underlying102,⟨rfl,rfl⟩,⟨rfl,rfl⟩,⟨rfl,rfl⟩⟩
end Go.Proofs.YtadjjadimlkkgaaGreatDoor
end
