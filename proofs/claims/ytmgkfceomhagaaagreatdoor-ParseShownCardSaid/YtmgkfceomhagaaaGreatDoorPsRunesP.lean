/-
  Rows that lie there.
-/
import Derived.Test.YtmgkfceomhagaaaGreatDoorPsSy2
import Derived.Test.YtmgkfceomhagaaaGreatDoorProg
import Derived.ChangeShapes
import Derived.ChangeOld
import Derived.Below
import Derived.Carry
import Derived.Lib.DecodeN
import Derived.Laws.RangeAny
set_option maxRecDepth 100000
set_option linter.unusedVariables false
namespace Go.Proofs.YtmgkfceomhagaaaGreatDoor
section
open Go Go.RowKit

def wT:AV→Bool
 |.sl _ _ _ _ _=>false
 |_=>true
theorem Hl{ks:AV}{n:Nat}(h:Ee ks=some n):Jn ks=true:=by
 cases ks<;>first|rfl|cases h
abbrev Ko:=Nat→Nat→List AV→Prop
abbrev UT:=List (Nat×Nat×List AV)
def vq(R:Ko)(h:Hp):Prop:= ∀c m l,R c m l→Vo h c m l
def UX(R:Ko)(A:UT):Ko:=fun c m l=>R c m l∨(c,m,l)∈A
theorem Qv{R R':Ko}{A A':UT}(h: ∀c m l,R c m l→R' c m l)(hA: ∀x∈A,x∈A'): ∀c m l,UX R A c m l→UX R' A' c m l:=fun c m l h'=>h'.elim (fun x=>.inl (h _ _ _ x)) fun x=>.inr (hA _ x)
end
section
open Go Go.RowKit

inductive Nd where
 |mk (op name:List Nat) (n at_:Int) (kids:List Nd)
def Nd.kids:Nd→List Nd
 |.mk _ _ _ _ l=>l
inductive VD(h:Hp):Nd→List AV→Prop
 |leaf {op name:List Nat} {n at_:Int} {ks:AV} (hs:Ee ks=some 0) (ha:wT ks=true) (hb:Bytes op∧Bytes name):VD h (.mk op name n at_ []) [.str op,.str name,.int .i64 n,.int .i64 at_,ks]
 |node {op name:List Nat} {n at_:Int} {kids:List Nd} {c m off:Nat} {cells:List AV} (hr:Vo h c m cells) (hn:(kids.length:Int)≤9223372036854775807) (hl:off+kids.length *5≤cells.length)
  (hk: ∀(i:Nat) (k:Nd),kids[i]? =some k→VD h k ((cells.drop (off+i *5)).take 5)) (hb:Bytes op∧Bytes name):VD h (.mk op name n at_ kids) [.str op,.str name,.int .i64 n,.int .i64 at_,.sl c m off kids.length 5]
theorem VD.mono{h h':Hp}(hl:TL h h'){t:Nd}{cs:List AV}(r:VD h t cs):VD h' t cs:=by
 induction r with
 |leaf hs ha hb=>exact .leaf hs ha hb
 |node hr hn hl' hk hb ih=>exact .node (hl _ _ _ hr) hn hl' ih hb
structure kI(P:Program)(tn:TypeId)(h:Hp)(kids:List Nd)(ks:AV):Prop where
 len:Ee ks=some kids.length
 Na:(kids.length:Int)≤9223372036854775807
 cell:Jn ks=true
 at_: ∀(i:Nat) (k:Nd),kids[i]? =some k→ ∃c m off cs,ks=.sl c m off kids.length 5∧J3 P tn (.ptr c m (off+i *5)) h=some (.agg cs)∧VD h k cs
theorem VD.open_{P:Program}{tn:TypeId}(ht:tk P tn=.agg 5){h:Hp}{op name:List Nat}{n at_:Int}{kids:List Nd}{cs:List AV}(r:VD h (.mk op name n at_ kids) cs):
  ∃ks,cs=[.str op,.str name,.int .i64 n,.int .i64 at_,ks]∧kI P tn h kids ks:=by
 cases r with
 |leaf hs ha hb=>exact⟨_,rfl,hs,by simp,Hl hs,fun i k hk=>by simp at hk⟩
 |node hr hn hl hk hb=>
  rename_i c m off cells;refine⟨_,rfl,rfl,hn,rfl,fun i k hki=>⟨c,m,off,_,rfl,?_,hk i k hki⟩⟩;obtain⟨ro,e,vs,ms,h1,h2⟩:=hr;have hlt:=(List.getElem?_eq_some_iff.1 hki).1;show ob (rowOf h c m) _=_;unfold rowOf;rw[h1,Q0];show ob (ob (nth ms m) _) _=_;rw[Y7,h2];show Xc P tn cells (off+i *5)=_;unfold Xc;rw[ht];show W7 5 (Ej (off+i *5) cells) (fun r=>some (AV.agg r))=_
  have htk: ∀(n:Nat) (l:List AV) (k:List AV→Option AV),n≤l.length→W7 n l k=k (l.take n):=by
   intro n
   induction n with
   |zero=>intro l k _;rfl
   |succ n ih=>
    intro l k hl
    cases l with
    |nil=>simp at hl
    |cons a l=>exact ih l _ (by simpa using hl)
  rw[htk,UH];rw[UH,List.length_drop]
  have:i *5+5≤kids.length *5:=by omega
  omega
theorem Mem.rows{h0:Hp}{n0:Nat}{st:St}{M:List (Nat×Nat×List AV)}(hM:Mem h0 n0 [] st M):TL h0 st.h.get:=by
 rintro c m l ⟨ro,e,vs,ms,h1,h2⟩
 have hc:c<n0:=Nat.lt_of_not_le fun hle=>by rw[hM.base c hle]at h1;cases h1
 exact⟨ro,e,vs,ms,by rw[hM.old c hc Q3];exact h1,h2⟩
mutual
def Yq:Nd→Nd→Bool
 |.mk op name n _ kids,.mk op' name' n' _ kids'=>decide (op=op')&&(decide (name=name')&&(decide (n=n')&&YQ kids kids'))
def YQ:List Nd→List Nd→Bool
 |[],[]=>true
 |a::l,b::r=>Yq a b&&YQ l r
 |_,_=>false
end
mutual
def Xl:Nd→Nat
 |.mk _ _ _ _ kids=>Eo kids+1
def Eo:List Nd→Nat
 |[]=>0
 |a::l=>Xl a+Eo l
end
theorem Ed{k:Nd}{l:List Nd}(h:k∈l):Xl k≤Eo l:=by
 induction l with
 |nil=>cases h
 |cons a l ih=>
  rw[Eo];rcases List.mem_cons.1 h with e|h
  ·rw[e];omega
  ·have:=ih h;omega
theorem AT{M:Nd→Prop}(h: ∀op name n at_ kids,(∀k,k∈kids→M k)→M (.mk op name n at_ kids))(k:Nd):M k:=by
 have: ∀n k,Xl k≤n→M k:=by
  intro n
  induction n with
  |zero=>intro k hk;cases k;rw[Xl]at hk;omega
  |succ n ih=>
   intro k hk
   cases k with
   |mk op name z at_ kids=>
    rw[Xl]at hk;exact h _ _ _ _ _ fun k hm=>ih k (by have:=Ed hm;omega)
 exact this _ k (Nat.le_refl _)

theorem kn:tk Tryz.prog 24=.agg 5:=by kernel_rfl
theorem eW:Tryz.prog.underlying 22=some (.slice 24):=by kernel_rfl
end
section
open Go Go.RowKit
variable {h:Hp} {xs:List AV}

theorem fU:Tryz.prog.underlying 9=some .string:=by kernel_rfl
theorem fV:Tryz.prog.underlying 3=some (.int .i64):=by kernel_rfl
theorem vB:Tryz.prog.cellsOf 24=5:=by kernel_rfl
theorem jA{H:Type}{d:DataW H}(r:Rd Tryz.prog h 9 xs d): ∃s,xs=[.str s]∧Bytes s:=by
 have u:=fU
 cases r with
 |bool ht=>rw[u]at ht;cases ht
 |int ht hw=>rw[u]at ht;cases ht
 |str ht hs=>exact⟨_,rfl,Xq _⟩
 |nil ht=>rw[u]at ht;cases ht
 |none ht=>rw[u]at ht;cases ht
 |row ht hz hr hl' he hm hd=>rw[u]at ht;cases ht
 |agg ht hl' hp hd=>rw[u]at ht;cases ht
theorem jB{H:Type}{d:DataW H}(r:Rd Tryz.prog h 3 xs d): ∃s,xs=[.int .i64 s]:=by
 have u:=fV
 cases r with
 |bool ht=>rw[u]at ht;cases ht
 |int ht hw=>rw[u]at ht;injection ht with ht;injection ht with ht;subst ht;exact⟨_,rfl⟩
 |str ht hs=>rw[u]at ht;cases ht
 |nil ht=>rw[u]at ht;cases ht
 |none ht=>rw[u]at ht;cases ht
 |row ht hz hr hl' he hm hd=>rw[u]at ht;cases ht
 |agg ht hl' hp hd=>rw[u]at ht;cases ht
theorem eV: ∃f0 f1 f2 f3 f4:Field,Tryz.prog.underlying 24=some (.struct #[f0,f1,f2,f3,f4])∧(f0.type=9∧f0.offset=0)∧(f1.type=9∧f1.offset=1)∧(f2.type=3∧f2.offset=2)∧(f3.type=3∧f3.offset=3)∧(f4.type=22∧f4.offset=4):=
 ⟨_,_,_,_,_,Tryz.underlying24,⟨rfl,rfl⟩,⟨rfl,rfl⟩,⟨rfl,rfl⟩,⟨rfl,rfl⟩,⟨rfl,rfl⟩⟩
theorem c1:Tryz.prog.cellsOf 9=1∧Tryz.prog.cellsOf 3=1∧Tryz.prog.cellsOf 22=1:=⟨by kernel_rfl,by kernel_rfl,by kernel_rfl⟩
theorem zN{H:Type}{t:TypeId}{d:DataW H}(r:Rd Tryz.prog h t xs d):
  (t=24→ ∃k,VD h k xs)∧(t=22→ ∃ks,xs=[ks]∧ ∀op name n a,Bytes op→Bytes name→ ∃kids,VD h (.mk op name n a kids) [.str op,.str name,.int .i64 n,.int .i64 a,ks]):=by
 obtain⟨f0,f1,f2,f3,f4,uN,⟨t0,o0⟩,⟨t1,o1⟩,⟨t2,o2⟩,⟨t3,o3⟩,⟨t4,o4⟩⟩:=eV;have uK:=eW
 induction r with
 |bool ht=>exact⟨fun e=>(by subst e;rw[uN]at ht;cases ht),fun e=>(by subst e;rw[uK]at ht;cases ht)⟩
 |int ht hw=>exact⟨fun e=>(by subst e;rw[uN]at ht;cases ht),fun e=>(by subst e;rw[uK]at ht;cases ht)⟩
 |str ht hs=>exact⟨fun e=>(by subst e;rw[uN]at ht;cases ht),fun e=>(by subst e;rw[uK]at ht;cases ht)⟩
 |nil ht=>exact⟨fun e=>(by subst e;rw[uN]at ht;cases ht),fun _=>⟨_,rfl,fun op name n a h1 h2=>⟨[],.leaf rfl rfl ⟨h1,h2⟩⟩⟩⟩
 |none ht=>exact⟨fun e=>(by subst e;rw[uN]at ht;cases ht),fun _=>⟨_,rfl,fun op name n a h1 h2=>⟨[],.leaf rfl rfl ⟨h1,h2⟩⟩⟩⟩
 |row ht hz hr hl he hm hd ih=>
  rename_i t e c m len cells elems rest;refine⟨fun e=>(by subst e;rw[uN]at ht;cases ht),fun e2=>⟨_,rfl,fun op name n a h1 h2=>?_⟩⟩;subst e2;rw[uK]at ht
  injection ht with ht
  injection ht with ht
  subst ht;rw[vB]at hl ih ⊢
  have hk: ∀i,∃k,i<len→VD h k ((cells.drop (i *5)).take 5):=fun i=>by
   by_cases hi:i<len
   ·obtain⟨k,hk⟩:=(ih i elems[i] (List.getElem?_eq_getElem (he▸hi))).1 rfl;exact⟨k,fun _=>hk⟩
   ·exact⟨.mk [] [] 0 0 [],fun h=>absurd h hi⟩
  obtain⟨f,hf⟩:=Classical.axiomOfChoice hk
  have hlen:((List.range len).map f).length=len:=by simp
  have hmx:(len:Int)≤9223372036854775807:=by
   have h1:(maxLen:Int)≤9223372036854775807:=by decide
   omega
  refine⟨(List.range len).map f,?_⟩
  have:=VD.node (op:=op) (name:=name) (n:=n) (at_:=a) (kids:=(List.range len).map f) (off:=0) hr (by rw[hlen];exact hmx) (by rw[hlen];omega) (fun i k hi=>by
   rw[List.getElem?_map]at hi
   have hlt:i<len:=by
    by_cases hi':i<len
    ·exact hi'
    ·rw[List.getElem?_eq_none (by simp;omega)]at hi;cases hi
   rw[List.getElem?_range hlt]at hi
   injection hi with hi
   rw[←hi,Nat.zero_add]
   exact hf i hlt) ⟨h1,h2⟩
  rw[hlen]at this;exact this
 |agg ht hl hp hd ih=>
  rename_i t fs xs parts;refine⟨fun e=>?_,fun e=>(by subst e;rw[uK]at ht;cases ht)⟩;subst e;rw[uN]at ht
  injection ht with ht
  injection ht with ht
  subst ht;rw[vB]at hl
  obtain⟨a0,a1,a2,a3,a4,rfl⟩: ∃a0 a1 a2 a3 a4,xs=[a0,a1,a2,a3,a4]:=by
   match xs,hl with
   |[a0,a1,a2,a3,a4],_=>exact⟨_,_,_,_,_,rfl⟩
  obtain⟨d0,d1,d2,d3,d4,rfl⟩: ∃a0 a1 a2 a3 a4,parts=[a0,a1,a2,a3,a4]:=by
   match parts,hp with
   |[a0,a1,a2,a3,a4],_=>exact⟨_,_,_,_,_,rfl⟩
  obtain⟨cs,ci,ck⟩:=c1;have r0:=hd 0 f0 d0 rfl rfl;have r1:=hd 1 f1 d1 rfl rfl;have r2:=hd 2 f2 d2 rfl rfl;have r3:=hd 3 f3 d3 rfl rfl;have r4:=(ih 4 f4 d4 rfl rfl).2 t4;rw[t0,o0,cs]at r0;rw[t1,o1,cs]at r1;rw[t2,o2,ci]at r2;rw[t3,o3,ci]at r3;rw[o4,t4,ck]at r4;obtain⟨s0,e0,b0⟩:=jA r0;obtain⟨s1,e1,b1⟩:=jA r1;obtain⟨s2,e2⟩:=jB r2;obtain⟨s3,e3⟩:=jB r3;obtain⟨ks,e4,hk⟩:=r4
  injection e0 with e0;injection e1 with e1;injection e2 with e2;injection e3 with e3;injection e4 with e4
  subst e0 e1 e2 e3 e4;obtain⟨kids,hk⟩:=hk s0 s1 s2 s3 b0 b1;exact⟨_,hk⟩
theorem zM{H:Type}{d:DataW H}(r:Rd Tryz.prog h 24 xs d): ∃k,VD h k xs:=(zN r).1 rfl
end
section
open Go Go.RowKit

theorem R1:Dz Tryz.prog [24,22,9,3]=true:=by kernel_rfl
theorem MM{H:Type}{enc:TypeId×Value→H}{W:World}{ml:L7}(hM:VS W ml){v:Value}{d:DataW H}{p:List MemPlace}(h:DataW.Trod enc Tryz.prog W 0 (fun _=>true) true 24 v d p):
  ∃ml' cs k,ml<+:ml'∧VS W ml'∧VD (Ic ml') k cs∧WF (Ic ml') (.agg cs)∧Qm (OK ml') (.agg cs)=v:=by
 obtain⟨fuel,h⟩:=h;obtain⟨ml',cs,h1,h2,h3,h4,h5,h6⟩:=lift _ R1 fuel 24 _ d p ml Q3 h hM;obtain⟨k,hk⟩:=zM h6;refine⟨ml',cs,k,h1,h2,hk,h4,?_⟩;obtain⟨e1,e2⟩:=Gg h3 h5
 by_cases hv: ∃cs,v=.agg cs
 ·exact e1 hv
 ·obtain⟨a,rfl,_⟩:=e2 fun cs e=>hv ⟨cs,e⟩;obtain⟨op,name,n,at_,kids⟩:=k;obtain⟨ks,e,_⟩:=hk.open_ kn;cases e
end
section
open Go

def Et(s p:ByteArray):Bool:=List.isPrefixOf p.data.toList s.data.toList
def Xo(s:ByteArray)(pos:Nat):Bool:=Et (s.extract pos s.size) ⟨#[239,191,189]⟩

theorem BY(s:ByteArray)(i:Nat):(s.get! i).toNat<256:=(s.get! i).toNat_lt

theorem ZJ(s:ByteArray)(pos:Nat)(h:pos<s.size):1≤(Utf8.decode s pos).2∧pos+(Utf8.decode s pos).2≤s.size:=by
 simp only[Utf8.decode]
 repeat' split
 all_goals simp_all
 all_goals try omega

theorem get_eq(s:ByteArray)(i:Nat)(h:i<s.size):s.get! i=s.data.toList[i]'(by simpa using h):=by
 simp[ByteArray.get!,getElem!_pos,h]

theorem Kt(u:UInt8)(n:Nat)(hn:n<256):u=UInt8.ofNat n↔u.toNat=n:=by
 constructor
 ·rintro rfl
  simp;omega
 ·rintro rfl
  simp

theorem Ge(s:ByteArray)(pos:Nat)(h:pos<s.size):Xo s pos=true↔pos+3≤s.size∧(s.get! pos).toNat=239∧(s.get! (pos+1)).toNat=191∧(s.get! (pos+2)).toNat=189:=by
 unfold Xo Et
 have hl:(s.extract pos s.size).data.toList=s.data.toList.drop pos:=by
  rw[ByteArray.data_extract,Array.toList_extract];simp only[List.extract];exact List.take_of_length_le Q3
 show List.isPrefixOf [239,191,189] _=true↔_;rw[hl,List.isPrefixOf_iff_prefix,List.prefix_iff_eq_take]
 have hs:s.data.toList.length=s.size:=by simp
 by_cases h3:pos+3≤s.size
 ·rw[List.drop_eq_getElem_cons Qq,List.drop_eq_getElem_cons Qq,List.drop_eq_getElem_cons Qq];rw[get_eq s pos Qq,get_eq s (pos+1) Qq,get_eq s (pos+2) Qq];have e0:=Kt (s.data.toList[pos]'Qq) 239 Qq;have e1:=Kt (s.data.toList[pos+1]'Qq) 191 Qq;have e2:=Kt (s.data.toList[pos+2]'Qq) 189 Qq;rw[←e0,←e1,←e2];simp only[List.length_cons,List.length_nil,List.take_succ_cons,List.take_zero,List.cons.injEq,and_true,h3,true_and];constructor
  ·rintro⟨a,b,c⟩;exact⟨a.symm,b.symm,c.symm⟩
  ·rintro⟨a,b,c⟩;exact⟨a.symm,b.symm,c.symm⟩
 ·constructor
  ·intro he;have:=congrArg List.length he;simp at this;omega
  ·intro he;omega

theorem xJ(s:ByteArray)(pos:Nat)(h:pos<s.size)(he:(Utf8.decode s pos).1=65533):
  ((Utf8.decode s pos).2=1∧Xo s pos=false)∨((Utf8.decode s pos).2=3∧Xo s pos=true):=by
 have h0:=BY s pos;have h1:=BY s (pos+1);have h2:=BY s (pos+2);have h3:=BY s (pos+3);have hp:=Ge s pos h;rw[Lib.decode_at]at he ⊢
 generalize (s.get! pos).toNat=b0 at *
 generalize (s.get! (pos+1)).toNat=b1 at *
 generalize (s.get! (pos+2)).toNat=b2 at *
 generalize (s.get! (pos+3)).toNat=b3 at *
 have hf: ¬(pos+3≤s.size∧b0=239∧b1=191∧b2=189)→Xo s pos=false:=by
  intro hn;rw[←hp]at hn
  simpa using hn
 have ht:(pos+3≤s.size∧b0=239∧b1=191∧b2=189)→Xo s pos=true:=hp.2;clear hp;unfold Lib.decodeN at he ⊢
 split at he
 ·simp at he;omega
 ·rename_i c0;rw[if_neg c0]
  split at he
  ·rename_i c1;rw[if_pos c1]
   split at he
   ·simp at he;omega
   ·rename_i c2;rw[if_neg c2];exact .inl ⟨rfl,hf Qq⟩
  ·rename_i c1;rw[if_neg c1]
   split at he
   ·rename_i c2;rw[if_pos c2]
    split at he
    ·rename_i c3;rw[if_pos c3];simp at he;exact .inr ⟨rfl,ht Qq⟩
    ·rename_i c3;rw[if_neg c3];exact .inl ⟨rfl,hf Qq⟩
   ·rename_i c2;rw[if_neg c2]
    split at he
    ·rename_i c3;rw[if_pos c3]
     split at he
     ·simp at he;omega
     ·rename_i c4;rw[if_neg c4];exact .inl ⟨rfl,hf Qq⟩
    ·rename_i c3;rw[if_neg c3];exact .inl ⟨rfl,hf Qq⟩

theorem xf(s:ByteArray)(pos:Nat)(h:pos<s.size):
  (decide ((Utf8.decode s pos).1=65533)&& !(Xo s pos))=decide ((Utf8.decode s pos).1=65533∧(Utf8.decode s pos).2=1):=by
 by_cases he:(Utf8.decode s pos).1=65533
 ·rcases xJ s pos h he with⟨h1,h2⟩|⟨h1,h2⟩
  ·simp[he,h1,h2]
  ·simp[he,h1,h2]
 ·simp[he]

def Ub(s:ByteArray):Nat→Nat→List (Nat×Nat)×Option Nat
 |0,_=>([],none)
 |f+1,p=>
  if p<s.size then
   if(Utf8.decode s p).1=65533∧(Utf8.decode s p).2=1 then([],some p)
   else(((Utf8.decode s p).1,p)::(Ub s f (p+(Utf8.decode s p).2)).1,(Ub s f (p+(Utf8.decode s p).2)).2)
  else([],none)
def each(s:ByteArray):List (Nat×Nat)×Option Nat:=Ub s s.size 0
def JR:Option Nat→Int
 |none=> -1
 |some p=>p
def runeCells(l:List (Nat×Nat)):List Value:=l.flatMap fun x=>[.int .i32 x.1,.int .i64 x.2]

theorem Yk(s:ByteArray)(f p:Nat)(h: ¬p<s.size):Ub s f p=([],none):=by
 cases f<;>simp[Ub,h]
theorem Z4(s:ByteArray)(f p:Nat)(h:p<s.size)(ho:(Utf8.decode s p).1=65533∧(Utf8.decode s p).2=1):Ub s (f+1) p=([],some p):=by
 rw[Ub,if_pos h,if_pos ho]
theorem UR(s:ByteArray)(f p:Nat)(h:p<s.size)(ho: ¬((Utf8.decode s p).1=65533∧(Utf8.decode s p).2=1)):
  Ub s (f+1) p=(((Utf8.decode s p).1,p)::(Ub s f (p+(Utf8.decode s p).2)).1,(Ub s f (p+(Utf8.decode s p).2)).2):=by
 rw[Ub,if_pos h,if_neg ho]
theorem AM(l:List (Nat×Nat))(c p:Nat):runeCells l++[.int .i32 c,.int .i64 p]=runeCells (l++[(c,p)]):=by
 simp[runeCells]
end
end Go.Proofs.YtmgkfceomhagaaaGreatDoor
