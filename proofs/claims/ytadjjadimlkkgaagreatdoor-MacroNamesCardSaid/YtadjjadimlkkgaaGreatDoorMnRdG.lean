/-
  Declarations, predicates and programs in the reckoner's memory.
-/
import Derived.Test.YtadjjadimlkkgaaGreatDoorMnSeg
import Derived.ChangeShapes
import Derived.ChangeOld
import Derived.Below
import Derived.Carry
set_option linter.unusedSectionVars false
set_option linter.unusedVariables false
section
namespace Go.Proofs.YtadjjadimlkkgaaGreatDoor
open Go Go.RowKit
set_option maxRecDepth 100000

structure Dc where
 name:List Nat
 order:Int
 at_:Int
def Dc.cells(d:Dc):List AV:=[.str d.name,.int .i64 d.order,.int .i64 d.at_]
theorem xy:Tryz.prog.underlying 22=some (.slice 102):=by kernel_rfl
structure Pd where
 name:List Nat
 params:List Dc
 body:Nd
 at_:Int
theorem xw:Tryz.prog.underlying 23=some (.slice 69):=by kernel_rfl
structure Pg where
 decls:List Dc
 preds:List Pd
 main:Nd
end Go.Proofs.YtadjjadimlkkgaaGreatDoor
end
section
namespace Go.Proofs.YtadjjadimlkkgaaGreatDoor
open Go Go.RowKit

structure Tk where
 k:Int
 s:List Nat
 n:Int
 a:Int
structure PS where
 i:Nat
 e:Int
 a:Int
def Kr:Nd:=.mk [] [] 0 0 []
def xi(L:List Tk):Prop:= ∀j t,L[j]? =some t→t.k≠4→j+1<L.length
section
variable {L:List Tk} (hL:xi L)
include hL
end
end Go.Proofs.YtadjjadimlkkgaaGreatDoor
end
section
namespace Go.Proofs.YtadjjadimlkkgaaGreatDoor
open Go Go.RowKit
set_option maxRecDepth 100000

def Tk.cells(t:Tk):List AV:=[.int .i64 t.k,.str t.s,.int .i64 t.n,.int .i64 t.a]
abbrev R0:Y4:=fun _ _ _=>False
section
variable {h0:Hp} {n0:Nat} {X:List Nat} {st st':St} {M L A B:Uf}
theorem Mem.EL(h:Mem h0 n0 X st M){k c m m':Nat}{l l':List AV}(hk:M[k]? =some (c,m,l))(q:Si [c] st st')(r:UC st'.h.get c m' l')(s:za st.n st' A):Mem h0 n0 X st' (M.set k (c,m',l')++(A++[])):=by
 have hm0:=List.mem_of_getElem? hk;have h1:=h.BO hk q r;rw[List.append_nil];refine h.Pp q (fun c' hc=>?_) ?_ fun c1 m1 l1 hm=>?_
 ·rw[List.mem_singleton]at hc;subst hc;exact⟨m,l,hm0⟩
 ·rw[List.map_append];refine List.nodup_append.2 ⟨h1.nodup,s.nodup,fun x hx y hy e=>?_⟩;subst e;obtain⟨⟨c1,m1,l1⟩,h2,rfl⟩:=List.mem_map.1 hx;obtain⟨⟨c2,m2,l2⟩,h3,e⟩:=List.mem_map.1 hy;have e:c2=c1:=e;subst e
  have hlt:c2<st.n:=by
   rcases List.mem_or_eq_of_mem_set h2 with h4|h4
   ·exact h.lt _ _ _ h4
   ·injection h4 with h4 _
    rw[h4];exact h.lt _ _ _ hm0
  have:=s.own _ _ _ h3;omega
 ·rcases List.mem_append.1 hm with hm|hm
  ·by_cases hc:c1=c
   ·subst hc;exact .inr ⟨h1.row _ _ _ hm,.inl ⟨m,l,hm0⟩⟩
   ·refine .inl ⟨?_,by simpa using hc⟩;obtain⟨i,hi⟩:=List.getElem?_of_mem hm;rw[List.getElem?_set]at hi
    by_cases hki:k=i
    ·subst hki;have:=(List.getElem?_eq_some_iff.1 hk).1;simp[this]at hi;exact absurd hi.1.symm hc
    ·rw[if_neg hki]at hi;exact List.mem_of_getElem? hi
  ·exact .inr ⟨s.row _ _ _ hm,.inr (s.own _ _ _ hm)⟩
theorem Mem.SR{st0:St}{c m k:Nat}{l:List AV}(h:Mem st0.h.get st0.n [c] st' M)(hk:M[k]? =some (c,m,l))(hs:A.Sublist (M.eraseIdx k)):za st0.n st' A:=by
 have hsub:(M.eraseIdx k).Sublist M:=List.eraseIdx_sublist ..;refine⟨fun c' m' l' hm=>h.row c' m' l' (hsub.subset (hs.subset hm)),fun c' m' l' hm=>?_,h.nodup.sublist ((hs.trans hsub).map _)⟩;refine(h.own c' m' l' (hsub.subset (hs.subset hm))).resolve_right fun hc=>?_;rw[List.mem_singleton]at hc;subst hc;obtain⟨i,hi⟩:=List.getElem?_of_mem (hs.subset hm);rw[List.getElem?_eraseIdx]at hi
 have key: ∀j,M[j]? =some (c',m',l')→j=k:=fun j hj=>by
  have h1:(M.map Prod.fst)[j]? =some c':=by rw[List.getElem?_map,hj];rfl
  have h2:(M.map Prod.fst)[k]? =some c':=by rw[List.getElem?_map,hk];rfl
  exact(List.getElem?_inj (List.getElem?_eq_some_iff.1 h1).1 h.nodup).1 (h1.trans h2.symm)
 split at hi
 ·have:=key _ hi;omega
 ·have:=key _ hi;omega
end
theorem Bd{R:Y4}{o s:List Nat}{z a:Int}(hb:Bytes o∧Bytes s):Zj R (.mk o s z a []) [.str o,.str s,.int .i64 z,.int .i64 a,.nils]:=.leaf rfl rfl hb
theorem Za:Bytes []:=fun x h=>by cases h
theorem Zj.shape{R:Y4}{k:Nd}{o s:List Nat}{z a:Int}{kk:AV}(r:Zj R k [.str o,.str s,.int .i64 z,.int .i64 a,kk]): ∃l,k=.mk o s z a l:=by
 obtain⟨o1,s1,z1,a1,l⟩:=k;obtain⟨kk',ls,e,K,_⟩:=r.QJ
 injection e with e1 e
 injection e with e2 e
 injection e with e3 e
 injection e with e4 e
 injection e1 with e1
 injection e2 with e2
 injection e3 with _ e3
 injection e4 with _ e4
 subst e1 e2 e3 e4;exact⟨l,rfl⟩
theorem ZZ.of{R:Y4}{st st':St}{A:Uf}{k:Nd}{o s:List Nat}{z a:Int}{kk:AV}(r:Zj (Yx R A) k [.str o,.str s,.int .i64 z,.int .i64 a,kk])(h:za st.n st' A):ZZ R st st' k (.agg [.str o,.str s,.int .i64 z,.int .i64 a,kk]):=by
 obtain⟨l,rfl⟩:=r.shape;exact⟨_,_,_,_,_,_,A,rfl,rfl,h,r⟩
end Go.Proofs.YtadjjadimlkkgaaGreatDoor
end
section
namespace Go.Proofs.YtadjjadimlkkgaaGreatDoor
open Go Go.RowKit
set_option maxRecDepth 100000

theorem xv:Tryz.prog.underlying 9=some .string:=by kernel_rfl
theorem xx:Tryz.prog.underlying 3=some (.int .i64):=by kernel_rfl
theorem Pr:Tryz.prog.cellsOf 26=5:=by kernel_rfl
theorem Ov{H:Type}{h:Hp}{xs:List AV}{d:DataW H}(r:Rd Tryz.prog h 9 xs d): ∃s,xs=[.str s]∧Bytes s:=by
 have u:=xv
 cases r with
 |bool ht=>rw[u]at ht;cases ht
 |int ht hw=>rw[u]at ht;cases ht
 |str ht hs=>exact⟨_,rfl,XP _⟩
 |nil ht=>rw[u]at ht;cases ht
 |none ht=>rw[u]at ht;cases ht
 |row ht hz hr hl' he hm hd=>rw[u]at ht;cases ht
 |agg ht hl' hp hd=>rw[u]at ht;cases ht
theorem Ke{H:Type}{h:Hp}{xs:List AV}{d:DataW H}(r:Rd Tryz.prog h 3 xs d): ∃s,xs=[.int .i64 s]:=by
 have u:=xx
 cases r with
 |bool ht=>rw[u]at ht;cases ht
 |int ht hw=>rw[u]at ht;injection ht with ht;injection ht with ht;subst ht;exact⟨_,rfl⟩
 |str ht hs=>rw[u]at ht;cases ht
 |nil ht=>rw[u]at ht;cases ht
 |none ht=>rw[u]at ht;cases ht
 |row ht hz hr hl' he hm hd=>rw[u]at ht;cases ht
 |agg ht hl' hp hd=>rw[u]at ht;cases ht
theorem zw: ∃f0 f1 f2 f3 f4:Field,Tryz.prog.underlying 26=some (.struct #[f0,f1,f2,f3,f4])∧(f0.type=9∧f0.offset=0)∧(f1.type=9∧f1.offset=1)∧(f2.type=3∧f2.offset=2)∧(f3.type=3∧f3.offset=3)∧(f4.type=24∧f4.offset=4):=
 ⟨_,_,_,_,_,Tryz.underlying26,⟨rfl,rfl⟩,⟨rfl,rfl⟩,⟨rfl,rfl⟩,⟨rfl,rfl⟩,⟨rfl,rfl⟩⟩
theorem c1:Tryz.prog.cellsOf 9=1∧Tryz.prog.cellsOf 3=1∧Tryz.prog.cellsOf 24=1:=⟨by kernel_rfl,by kernel_rfl,by kernel_rfl⟩
theorem ja{H:Type}{h:Hp}{t:TypeId}{xs:List AV}{d:DataW H}(r:Rd Tryz.prog h t xs d):
  (t=26→ ∃k,UN h k xs)∧(t=24→ ∃ks,xs=[ks]∧ ∀op name n a,Bytes op→Bytes name→ ∃kids,UN h (.mk op name n a kids) [.str op,.str name,.int .i64 n,.int .i64 a,ks]):=by
 obtain⟨f0,f1,f2,f3,f4,uN,⟨t0,o0⟩,⟨t1,o1⟩,⟨t2,o2⟩,⟨t3,o3⟩,⟨t4,o4⟩⟩:=zw;have uK:=zx
 induction r with
 |bool ht=>exact⟨fun e=>(by subst e;rw[uN]at ht;cases ht),fun e=>(by subst e;rw[uK]at ht;cases ht)⟩
 |int ht hw=>exact⟨fun e=>(by subst e;rw[uN]at ht;cases ht),fun e=>(by subst e;rw[uK]at ht;cases ht)⟩
 |str ht hs=>exact⟨fun e=>(by subst e;rw[uN]at ht;cases ht),fun e=>(by subst e;rw[uK]at ht;cases ht)⟩
 |nil ht=>exact⟨fun e=>(by subst e;rw[uN]at ht;cases ht),fun _=>⟨_,rfl,fun op name n a h1 h2=>⟨[],.leaf rfl rfl ⟨h1,h2⟩⟩⟩⟩
 |none ht=>exact⟨fun e=>(by subst e;rw[uN]at ht;cases ht),fun _=>⟨_,rfl,fun op name n a h1 h2=>⟨[],.leaf rfl rfl ⟨h1,h2⟩⟩⟩⟩
 |row ht hz hr hl he hm hd ih=>
  rename_i t e c m len cells elems rest;refine⟨fun e=>(by subst e;rw[uN]at ht;cases ht),fun e2=>⟨_,rfl,fun op name n a h1 h2=>?_⟩⟩;subst e2;rw[uK]at ht
  injection ht with ht
  injection ht with ht
  subst ht;rw[Pr]at hl ih ⊢
  have hk: ∀i,∃k,i<len→UN h k ((cells.drop (i *5)).take 5):=fun i=>by
   by_cases hi:i<len
   ·obtain⟨k,hk⟩:=(ih i elems[i] (List.getElem?_eq_getElem (he▸hi))).1 rfl;exact⟨k,fun _=>hk⟩
   ·exact⟨.mk [] [] 0 0 [],fun h=>absurd h hi⟩
  obtain⟨f,hf⟩:=Classical.axiomOfChoice hk
  have hlen:((List.range len).map f).length=len:=by simp
  have hmx:(len:Int)≤9223372036854775807:=by
   have h1:(maxLen:Int)≤9223372036854775807:=by decide
   omega
  refine⟨(List.range len).map f,?_⟩
  have:=UN.node (op:=op) (name:=name) (n:=n) (at_:=a) (kids:=(List.range len).map f) (off:=0) hr (by rw[hlen];exact hmx) (by rw[hlen];omega) (fun i k hi=>by
   rw[List.getElem?_map]at hi
   have hlt:i<len:=by
    by_cases hi':i<len
    ·exact hi'
    ·rw[List.getElem?_eq_none (by simp;omega)]at hi;cases hi
   rw[List.getElem?_range hlt]at hi
   injection hi with hi
   rw[←hi,Nat.zero_add]
   exact hf i hlt) ⟨h1,h2⟩
  rw[hlen]at this;exact this
 |agg ht hl hp hd ih=>
  rename_i t fs xs parts;refine⟨fun e=>?_,fun e=>(by subst e;rw[uK]at ht;cases ht)⟩;subst e;rw[uN]at ht
  injection ht with ht
  injection ht with ht
  subst ht;rw[Pr]at hl
  obtain⟨a0,a1,a2,a3,a4,rfl⟩: ∃a0 a1 a2 a3 a4,xs=[a0,a1,a2,a3,a4]:=by
   match xs,hl with
   |[a0,a1,a2,a3,a4],_=>exact⟨_,_,_,_,_,rfl⟩
  obtain⟨d0,d1,d2,d3,d4,rfl⟩: ∃a0 a1 a2 a3 a4,parts=[a0,a1,a2,a3,a4]:=by
   match parts,hp with
   |[a0,a1,a2,a3,a4],_=>exact⟨_,_,_,_,_,rfl⟩
  obtain⟨cs,ci,ck⟩:=c1;have r0:=hd 0 f0 d0 rfl rfl;have r1:=hd 1 f1 d1 rfl rfl;have r2:=hd 2 f2 d2 rfl rfl;have r3:=hd 3 f3 d3 rfl rfl;have r4:=(ih 4 f4 d4 rfl rfl).2 t4;rw[t0,o0,cs]at r0;rw[t1,o1,cs]at r1;rw[t2,o2,ci]at r2;rw[t3,o3,ci]at r3;rw[o4,t4,ck]at r4;obtain⟨s0,e0,b0⟩:=Ov r0;obtain⟨s1,e1,b1⟩:=Ov r1;obtain⟨s2,e2⟩:=Ke r2;obtain⟨s3,e3⟩:=Ke r3;obtain⟨ks,e4,hk⟩:=r4
  injection e0 with e0;injection e1 with e1;injection e2 with e2;injection e3 with e3;injection e4 with e4
  subst e0 e1 e2 e3 e4;obtain⟨kids,hk⟩:=hk s0 s1 s2 s3 b0 b1;exact⟨_,hk⟩
theorem DN{H:Type}{h:Hp}{xs:List AV}{d:DataW H}(r:Rd Tryz.prog h 26 xs d): ∃k,UN h k xs:=(ja r).1 rfl
end Go.Proofs.YtadjjadimlkkgaaGreatDoor
end
section
namespace Go.Proofs.YtadjjadimlkkgaaGreatDoor
open Go Go.RowKit
set_option maxRecDepth 100000

theorem C7{H:Type}{P:Program}{h:Hp}{t:TypeId}{fs:Array Field}(hu:P.underlying t=some (.struct fs)){xs:List AV}{d:DataW H}(r:Rd P h t xs d):
  xs.length=P.cellsOf t∧ ∀(i:Nat) (f:Field),fs[i]? =some f→ ∃d:DataW H,Rd P h f.type ((xs.drop f.offset).take (P.cellsOf f.type)) d:=by
 cases r with
 |bool ht=>rw[hu]at ht;cases ht
 |int ht hw=>rw[hu]at ht;cases ht
 |str ht hs=>rw[hu]at ht;cases ht
 |nil ht=>rw[hu]at ht;cases ht
 |none ht=>rw[hu]at ht;cases ht
 |row ht hz' hr hl he hm hd=>rw[hu]at ht;cases ht
 |agg ht hl hp hd=>
  rename_i fs' parts;rw[hu]at ht
  injection ht with ht
  injection ht with ht
  subst ht;refine⟨hl,fun i f hf=>?_⟩
  have hi:i<parts.length:=by
   rw[hp];exact(Array.getElem?_eq_some_iff.1 hf).1
  exact⟨parts[i],hd i f _ hf (List.getElem?_eq_getElem hi)⟩
theorem BP:Tryz.prog.cellsOf 102=3∧Tryz.prog.cellsOf 69=8∧Tryz.prog.cellsOf 28=7∧Tryz.prog.cellsOf 22=1∧Tryz.prog.cellsOf 23=1:=⟨by kernel_rfl,by kernel_rfl,by kernel_rfl,by kernel_rfl,by kernel_rfl⟩
theorem zy: ∃f0 f1 f2:Field,Tryz.prog.underlying 102=some (.struct #[f0,f1,f2])∧(f0.type=9∧f0.offset=0)∧(f1.type=3∧f1.offset=1)∧(f2.type=3∧f2.offset=2):=
 ⟨_,_,_,Tryz.underlying102,⟨rfl,rfl⟩,⟨rfl,rfl⟩,⟨rfl,rfl⟩⟩
theorem zu: ∃f0 f1 f2 f3:Field,Tryz.prog.underlying 69=some (.struct #[f0,f1,f2,f3])∧(f0.type=9∧f0.offset=0)∧(f1.type=22∧f1.offset=1)∧(f2.type=26∧f2.offset=2)∧(f3.type=3∧f3.offset=7):=
 ⟨_,_,_,_,Tryz.underlying69,⟨rfl,rfl⟩,⟨rfl,rfl⟩,⟨rfl,rfl⟩,⟨rfl,rfl⟩⟩
theorem zt: ∃f0 f1 f2:Field,Tryz.prog.underlying 28=some (.struct #[f0,f1,f2])∧(f0.type=22∧f0.offset=0)∧(f1.type=23∧f1.offset=1)∧(f2.type=26∧f2.offset=2):=
 ⟨_,_,_,Tryz.underlying28,⟨rfl,rfl⟩,⟨rfl,rfl⟩,⟨rfl,rfl⟩⟩
theorem CE:GK Tryz.prog [28,22,102,23,69,26,24,9,3]=true:=by kernel_rfl
end Go.Proofs.YtadjjadimlkkgaaGreatDoor
end
