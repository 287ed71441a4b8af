/-
  Formulas and terms in the reckoner's memory; are two of them one: the program's answer.
-/
import Derived.Test.YtadjjadimlkkgaaGreatDoorProg
import Derived.Test.YtadjjadimlkkgaaGreatDoorMnSy2
import Derived.Lib.DecodeN
import Derived.Laws.RangeAny
section
namespace Go.Proofs.YtadjjadimlkkgaaGreatDoor
open Go Go.RowKit
set_option linter.unusedVariables false
set_option maxRecDepth 100000

inductive Nd where
 |mk (op name:List Nat) (n at_:Int) (kids:List Nd)
def Nd.kids:Nd→List Nd
 |.mk _ _ _ _ l=>l
def yD:AV→Bool
 |.sl _ _ _ _ _=>false
 |_=>true
inductive UN(h:Hp):Nd→List AV→Prop
 |leaf {op name:List Nat} {n at_:Int} {ks:AV} (hs:ZH ks=some 0) (ha:yD ks=true) (hb:Bytes op∧Bytes name):UN h (.mk op name n at_ []) [.str op,.str name,.int .i64 n,.int .i64 at_,ks]
 |node {op name:List Nat} {n at_:Int} {kids:List Nd} {c m off:Nat} {cells:List AV} (hr:UM h c m cells) (hn:(kids.length:Int)≤9223372036854775807) (hl:off+kids.length *5≤cells.length)
  (hk: ∀(i:Nat) (k:Nd),kids[i]? =some k→UN h k ((cells.drop (off+i *5)).take 5)) (hb:Bytes op∧Bytes name):UN h (.mk op name n at_ kids) [.str op,.str name,.int .i64 n,.int .i64 at_,.sl c m off kids.length 5]
theorem UN.mono{h h':Hp}(hl:Wx h h'){t:Nd}{cs:List AV}(r:UN h t cs):UN h' t cs:=by
 induction r with
 |leaf hs ha hb=>exact .leaf hs ha hb
 |node hr hn hl' hk hb ih=>exact .node (hl _ _ _ hr) hn hl' ih hb
structure vv(P:Program)(tn:TypeId)(h:Hp)(kids:List Nd)(ks:AV):Prop where
 len:ZH ks=some kids.length
 Uj:(kids.length:Int)≤9223372036854775807
 cell:QI ks=true
 at_: ∀(i:Nat) (k:Nd),kids[i]? =some k→ ∃c m off cs,ks=.sl c m off kids.length 5∧QX P tn (.ptr c m (off+i *5)) h=some (.agg cs)∧UN h k cs
theorem Zq{ks:AV}{n:Nat}(h:ZH ks=some n):QI ks=true:=by
 cases ks<;>first|rfl|cases h
theorem UN.open_{P:Program}{tn:TypeId}(ht:tk P tn=.agg 5){h:Hp}{op name:List Nat}{n at_:Int}{kids:List Nd}{cs:List AV}(r:UN h (.mk op name n at_ kids) cs):
  ∃ks,cs=[.str op,.str name,.int .i64 n,.int .i64 at_,ks]∧vv P tn h kids ks:=by
 cases r with
 |leaf hs ha hb=>exact⟨_,rfl,hs,by simp,Zq hs,fun i k hk=>by simp at hk⟩
 |node hr hn hl hk hb=>
  rename_i c m off cells;refine⟨_,rfl,rfl,hn,rfl,fun i k hki=>⟨c,m,off,_,rfl,?_,hk i k hki⟩⟩;obtain⟨ro,e,vs,ms,h1,h2⟩:=hr;have hlt:=(List.getElem?_eq_some_iff.1 hki).1;show ob (rowOf h c m) _=_;unfold rowOf;rw[h1,Qh];show ob (ob (nth ms m) _) _=_;rw[Uh,h2];show Z2 P tn cells (off+i *5)=_;unfold Z2;rw[ht];show Ve 5 (Vt (off+i *5) cells) (fun r=>some (AV.agg r))=_
  have htk: ∀(n:Nat) (l:List AV) (k:List AV→Option AV),n≤l.length→Ve n l k=k (l.take n):=by
   intro n
   induction n with
   |zero=>intro l k _;rfl
   |succ n ih=>
    intro l k hl
    cases l with
    |nil=>simp at hl
    |cons a l=>exact ih l _ (by simpa using hl)
  rw[htk,J3];rw[J3,List.length_drop]
  have:i *5+5≤kids.length *5:=by omega
  omega
theorem Qt.rows{st st':St}(hf:Qu st)(q:Qt st st'):Wx st.h.get st'.h.get:=by
 rintro c m l ⟨ro,e,vs,ms,h1,h2⟩
 have hc:c<st.n:=Nat.lt_of_not_le fun hle=>by rw[hf c hle]at h1;cases h1
 exact⟨ro,e,vs,ms,by rw[q.old c hc];exact h1,h2⟩
theorem Mem.rows{h0:Hp}{n0:Nat}{st:St}{M:List (Nat×Nat×List AV)}(hM:Mem h0 n0 [] st M):Wx h0 st.h.get:=by
 rintro c m l ⟨ro,e,vs,ms,h1,h2⟩
 have hc:c<n0:=Nat.lt_of_not_le fun hle=>by rw[hM.base c hle]at h1;cases h1
 exact⟨ro,e,vs,ms,by rw[hM.old c hc (by simp)];exact h1,h2⟩
mutual
def Jz:Nd→Nat
 |.mk _ _ _ _ kids=>W2 kids+1
def W2:List Nd→Nat
 |[]=>0
 |a::l=>Jz a+W2 l
end
theorem Yb{k:Nd}{l:List Nd}(h:k∈l):Jz k≤W2 l:=by
 induction l with
 |nil=>cases h
 |cons a l ih=>
  rw[W2];rcases List.mem_cons.1 h with e|h
  ·rw[e];omega
  ·have:=ih h;omega
theorem J2{M:Nd→Prop}(h: ∀op name n at_ kids,(∀k,k∈kids→M k)→M (.mk op name n at_ kids))(k:Nd):M k:=by
 have: ∀n k,Jz k≤n→M k:=by
  intro n
  induction n with
  |zero=>intro k hk;cases k;rw[Jz]at hk;omega
  |succ n ih=>
   intro k hk
   cases k with
   |mk op name z at_ kids=>
    rw[Jz]at hk;exact h _ _ _ _ _ fun k hm=>ih k (by have:=Yb hm;omega)
 exact this _ k (Nat.le_refl _)

theorem va:tk Tryz.prog 26=.agg 5:=by kernel_rfl
theorem zx:Tryz.prog.underlying 24=some (.slice 26):=by kernel_rfl
end Go.Proofs.YtadjjadimlkkgaaGreatDoor
end
section
namespace Go.Proofs.YtadjjadimlkkgaaGreatDoor
open Go

def VQ(s p:ByteArray):Bool:=List.isPrefixOf p.data.toList s.data.toList
def YP(s:ByteArray)(pos:Nat):Bool:=VQ (s.extract pos s.size) ⟨#[239,191,189]⟩

theorem OC(s:ByteArray)(i:Nat):(s.get! i).toNat<256:=(s.get! i).toNat_lt

theorem XZ(s:ByteArray)(pos:Nat)(h:pos<s.size):1≤(Utf8.decode s pos).2∧pos+(Utf8.decode s pos).2≤s.size:=by
 simp only[Utf8.decode]
 repeat' split
 all_goals simp_all
 all_goals try omega

theorem get_eq(s:ByteArray)(i:Nat)(h:i<s.size):s.get! i=s.data.toList[i]'(by simpa using h):=by
 simp[ByteArray.get!,getElem!_pos,h]

theorem Hh(u:UInt8)(n:Nat)(hn:n<256):u=UInt8.ofNat n↔u.toNat=n:=by
 constructor
 ·rintro rfl
  simp;omega
 ·rintro rfl
  simp

theorem LA(s:ByteArray)(pos:Nat)(h:pos<s.size):YP s pos=true↔pos+3≤s.size∧(s.get! pos).toNat=239∧(s.get! (pos+1)).toNat=191∧(s.get! (pos+2)).toNat=189:=by
 unfold YP VQ
 have hl:(s.extract pos s.size).data.toList=s.data.toList.drop pos:=by
  rw[ByteArray.data_extract,Array.toList_extract];simp only[List.extract];exact List.take_of_length_le (by simp)
 show List.isPrefixOf [239,191,189] _=true↔_;rw[hl,List.isPrefixOf_iff_prefix,List.prefix_iff_eq_take]
 have hs:s.data.toList.length=s.size:=by simp
 by_cases h3:pos+3≤s.size
 ·rw[List.drop_eq_getElem_cons (by omega),List.drop_eq_getElem_cons (by omega),List.drop_eq_getElem_cons (by omega)];rw[get_eq s pos (by omega),get_eq s (pos+1) (by omega),get_eq s (pos+2) (by omega)];have e0:=Hh (s.data.toList[pos]'(by omega)) 239 (by omega);have e1:=Hh (s.data.toList[pos+1]'(by omega)) 191 (by omega);have e2:=Hh (s.data.toList[pos+2]'(by omega)) 189 (by omega);rw[←e0,←e1,←e2];simp only[List.length_cons,List.length_nil,List.take_succ_cons,List.take_zero,List.cons.injEq,and_true,h3,true_and];constructor
  ·rintro⟨a,b,c⟩;exact⟨a.symm,b.symm,c.symm⟩
  ·rintro⟨a,b,c⟩;exact⟨a.symm,b.symm,c.symm⟩
 ·constructor
  ·intro he;have:=congrArg List.length he;simp at this;omega
  ·intro he;omega

theorem jF(s:ByteArray)(pos:Nat)(h:pos<s.size)(he:(Utf8.decode s pos).1=65533):
  ((Utf8.decode s pos).2=1∧YP s pos=false)∨((Utf8.decode s pos).2=3∧YP s pos=true):=by
 have h0:=OC s pos;have h1:=OC s (pos+1);have h2:=OC s (pos+2);have h3:=OC s (pos+3);have hp:=LA s pos h;rw[Lib.decode_at]at he ⊢
 generalize (s.get! pos).toNat=b0 at *
 generalize (s.get! (pos+1)).toNat=b1 at *
 generalize (s.get! (pos+2)).toNat=b2 at *
 generalize (s.get! (pos+3)).toNat=b3 at *
 have hf: ¬(pos+3≤s.size∧b0=239∧b1=191∧b2=189)→YP s pos=false:=by
  intro hn;rw[←hp]at hn
  simpa using hn
 have ht:(pos+3≤s.size∧b0=239∧b1=191∧b2=189)→YP s pos=true:=hp.2;clear hp;unfold Lib.decodeN at he ⊢
 split at he
 ·simp at he;omega
 ·rename_i c0;rw[if_neg c0]
  split at he
  ·rename_i c1;rw[if_pos c1]
   split at he
   ·simp at he;omega
   ·rename_i c2;rw[if_neg c2];exact .inl ⟨rfl,hf (by omega)⟩
  ·rename_i c1;rw[if_neg c1]
   split at he
   ·rename_i c2;rw[if_pos c2]
    split at he
    ·rename_i c3;rw[if_pos c3];simp at he;exact .inr ⟨rfl,ht (by omega)⟩
    ·rename_i c3;rw[if_neg c3];exact .inl ⟨rfl,hf (by omega)⟩
   ·rename_i c2;rw[if_neg c2]
    split at he
    ·rename_i c3;rw[if_pos c3]
     split at he
     ·simp at he;omega
     ·rename_i c4;rw[if_neg c4];exact .inl ⟨rfl,hf (by omega)⟩
    ·rename_i c3;rw[if_neg c3];exact .inl ⟨rfl,hf (by omega)⟩

theorem jl(s:ByteArray)(pos:Nat)(h:pos<s.size):
  (decide ((Utf8.decode s pos).1=65533)&& !(YP s pos))=decide ((Utf8.decode s pos).1=65533∧(Utf8.decode s pos).2=1):=by
 by_cases he:(Utf8.decode s pos).1=65533
 ·rcases jF s pos h he with⟨h1,h2⟩|⟨h1,h2⟩
  ·simp[he,h1,h2]
  ·simp[he,h1,h2]
 ·simp[he]

def Ui(s:ByteArray):Nat→Nat→List (Nat×Nat)×Option Nat
 |0,_=>([],none)
 |f+1,p=>
  if p<s.size then
   if(Utf8.decode s p).1=65533∧(Utf8.decode s p).2=1 then([],some p)
   else(((Utf8.decode s p).1,p)::(Ui s f (p+(Utf8.decode s p).2)).1,(Ui s f (p+(Utf8.decode s p).2)).2)
  else([],none)
def each(s:ByteArray):List (Nat×Nat)×Option Nat:=Ui s s.size 0
def YG:Option Nat→Int
 |none=> -1
 |some p=>p
def runeCells(l:List (Nat×Nat)):List Value:=l.flatMap fun x=>[.int .i32 x.1,.int .i64 x.2]

theorem Vs(s:ByteArray)(f p:Nat)(h: ¬p<s.size):Ui s f p=([],none):=by
 cases f<;>simp[Ui,h]
theorem WS(s:ByteArray)(f p:Nat)(h:p<s.size)(ho:(Utf8.decode s p).1=65533∧(Utf8.decode s p).2=1):Ui s (f+1) p=([],some p):=by
 rw[Ui,if_pos h,if_pos ho]
theorem Z8(s:ByteArray)(f p:Nat)(h:p<s.size)(ho: ¬((Utf8.decode s p).1=65533∧(Utf8.decode s p).2=1)):
  Ui s (f+1) p=(((Utf8.decode s p).1,p)::(Ui s f (p+(Utf8.decode s p).2)).1,(Ui s f (p+(Utf8.decode s p).2)).2):=by
 rw[Ui,if_pos h,if_neg ho]
theorem Eu(l:List (Nat×Nat))(c p:Nat):runeCells l++[.int .i32 c,.int .i64 p]=runeCells (l++[(c,p)]):=by
 simp[runeCells]
end Go.Proofs.YtadjjadimlkkgaaGreatDoor
end
