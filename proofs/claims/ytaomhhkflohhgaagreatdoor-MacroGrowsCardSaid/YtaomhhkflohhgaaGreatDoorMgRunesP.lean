/-
  Formulas and terms in the reckoner's memory; are two of them one: the program's answer.
-/
import Derived.Test.YtaomhhkflohhgaaGreatDoorProg
import Derived.Test.YtaomhhkflohhgaaGreatDoorMgSy2
import Derived.Lib.DecodeN
import Derived.Laws.RangeAny
namespace Go.Proofs.YtaomhhkflohhgaaGreatDoor
section
open Go Go.RowKit
set_option linter.unusedVariables false
set_option maxRecDepth 100000

inductive Nd where
 |mk (op name:List Nat) (n at_:Int) (kids:List Nd)
def Nd.kids:Nd→List Nd
 |.mk _ _ _ _ l=>l
def ve:AV→Bool
 |.sl _ _ _ _ _=>false
 |_=>true
inductive XE(h:Hp):Nd→List AV→Prop
 |leaf {op name:List Nat} {n at_:Int} {ks:AV} (hs:XI ks=some 0) (ha:ve ks=true) (hb:Bytes op∧Bytes name):XE h (.mk op name n at_ []) [.str op,.str name,.int .i64 n,.int .i64 at_,ks]
 |node {op name:List Nat} {n at_:Int} {kids:List Nd} {c m off:Nat} {cells:List AV} (hr:Z9 h c m cells) (hn:(kids.length:Int)≤9223372036854775807) (hl:off+kids.length *5≤cells.length)
  (hk: ∀(i:Nat) (k:Nd),kids[i]? =some k→XE h k ((cells.drop (off+i *5)).take 5)) (hb:Bytes op∧Bytes name):XE h (.mk op name n at_ kids) [.str op,.str name,.int .i64 n,.int .i64 at_,.sl c m off kids.length 5]
theorem XE.mono{h h':Hp}(hl:FK h h'){t:Nd}{cs:List AV}(r:XE h t cs):XE h' t cs:=by
 induction r with
 |leaf hs ha hb=>exact .leaf hs ha hb
 |node hr hn hl' hk hb ih=>exact .node (hl _ _ _ hr) hn hl' ih hb
theorem Vq{ks:AV}{n:Nat}(h:XI ks=some n):Jl ks=true:=by
 cases ks<;>first|rfl|cases h
theorem Qt.rows{st st':St}(hf:Qw st)(q:Qt st st'):FK st.h.get st'.h.get:=by
 rintro c m l ⟨ro,e,vs,ms,h1,h2⟩
 have hc:c<st.n:=Nat.lt_of_not_le fun hle=>by rw[hf c hle]at h1;cases h1
 exact⟨ro,e,vs,ms,by rw[q.old c hc];exact h1,h2⟩
theorem Mem.rows{h0:Hp}{n0:Nat}{st:St}{M:List (Nat×Nat×List AV)}(hM:Mem h0 n0 [] st M):FK h0 st.h.get:=by
 rintro c m l ⟨ro,e,vs,ms,h1,h2⟩
 have hc:c<n0:=Nat.lt_of_not_le fun hle=>by rw[hM.base c hle]at h1;cases h1
 exact⟨ro,e,vs,ms,by rw[hM.old c hc Q3];exact h1,h2⟩
mutual
def Uj:Nd→Nat
 |.mk _ _ _ _ kids=>FN kids+1
def FN:List Nd→Nat
 |[]=>0
 |a::l=>Uj a+FN l
end
theorem Z4{k:Nd}{l:List Nd}(h:k∈l):Uj k≤FN l:=by
 induction l with
 |nil=>cases h
 |cons a l ih=>
  rw[FN];rcases List.mem_cons.1 h with e|h
  ·rw[e];omega
  ·have:=ih h;omega
theorem Uz{M:Nd→Prop}(h: ∀op name n at_ kids,(∀k,k∈kids→M k)→M (.mk op name n at_ kids))(k:Nd):M k:=by
 have: ∀n k,Uj k≤n→M k:=by
  intro n
  induction n with
  |zero=>intro k hk;cases k;rw[Uj]at hk;omega
  |succ n ih=>
   intro k hk
   cases k with
   |mk op name z at_ kids=>
    rw[Uj]at hk;exact h _ _ _ _ _ fun k hm=>ih k (by have:=Z4 hm;omega)
 exact this _ k (Nat.le_refl _)

end
section
open Go

def E7(s p:ByteArray):Bool:=List.isPrefixOf p.data.toList s.data.toList
def Xc(s:ByteArray)(pos:Nat):Bool:=E7 (s.extract pos s.size) ⟨#[239,191,189]⟩

theorem Cb(s:ByteArray)(i:Nat):(s.get! i).toNat<256:=(s.get! i).toNat_lt

theorem XP(s:ByteArray)(pos:Nat)(h:pos<s.size):1≤(Utf8.decode s pos).2∧pos+(Utf8.decode s pos).2≤s.size:=by
 simp only[Utf8.decode]
 repeat' split
 all_goals simp_all
 all_goals try omega

theorem get_eq(s:ByteArray)(i:Nat)(h:i<s.size):s.get! i=s.data.toList[i]'(by simpa using h):=by
 simp[ByteArray.get!,getElem!_pos,h]

theorem KL(u:UInt8)(n:Nat)(hn:n<256):u=UInt8.ofNat n↔u.toNat=n:=by
 constructor
 ·rintro rfl
  simp;omega
 ·rintro rfl
  simp

theorem Gh(s:ByteArray)(pos:Nat)(h:pos<s.size):Xc s pos=true↔pos+3≤s.size∧(s.get! pos).toNat=239∧(s.get! (pos+1)).toNat=191∧(s.get! (pos+2)).toNat=189:=by
 unfold Xc E7
 have hl:(s.extract pos s.size).data.toList=s.data.toList.drop pos:=by
  rw[ByteArray.data_extract,Array.toList_extract];simp only[List.extract];exact List.take_of_length_le Q3
 show List.isPrefixOf [239,191,189] _=true↔_;rw[hl,List.isPrefixOf_iff_prefix,List.prefix_iff_eq_take]
 have hs:s.data.toList.length=s.size:=by simp
 by_cases h3:pos+3≤s.size
 ·rw[List.drop_eq_getElem_cons Qh,List.drop_eq_getElem_cons Qh,List.drop_eq_getElem_cons Qh];rw[get_eq s pos Qh,get_eq s (pos+1) Qh,get_eq s (pos+2) Qh];have e0:=KL (s.data.toList[pos]'Qh) 239 Qh;have e1:=KL (s.data.toList[pos+1]'Qh) 191 Qh;have e2:=KL (s.data.toList[pos+2]'Qh) 189 Qh;rw[←e0,←e1,←e2];simp only[List.length_cons,List.length_nil,List.take_succ_cons,List.take_zero,List.cons.injEq,and_true,h3,true_and];constructor
  ·rintro⟨a,b,c⟩;exact⟨a.symm,b.symm,c.symm⟩
  ·rintro⟨a,b,c⟩;exact⟨a.symm,b.symm,c.symm⟩
 ·constructor
  ·intro he;have:=congrArg List.length he;simp at this;omega
  ·intro he;omega

theorem zK(s:ByteArray)(pos:Nat)(h:pos<s.size)(he:(Utf8.decode s pos).1=65533):
  ((Utf8.decode s pos).2=1∧Xc s pos=false)∨((Utf8.decode s pos).2=3∧Xc s pos=true):=by
 have h0:=Cb s pos;have h1:=Cb s (pos+1);have h2:=Cb s (pos+2);have h3:=Cb s (pos+3);have hp:=Gh s pos h;rw[Lib.decode_at]at he ⊢
 generalize (s.get! pos).toNat=b0 at *
 generalize (s.get! (pos+1)).toNat=b1 at *
 generalize (s.get! (pos+2)).toNat=b2 at *
 generalize (s.get! (pos+3)).toNat=b3 at *
 have hf: ¬(pos+3≤s.size∧b0=239∧b1=191∧b2=189)→Xc s pos=false:=by
  intro hn;rw[←hp]at hn
  simpa using hn
 have ht:(pos+3≤s.size∧b0=239∧b1=191∧b2=189)→Xc s pos=true:=hp.2;clear hp;unfold Lib.decodeN at he ⊢
 split at he
 ·simp at he;omega
 ·rename_i c0;rw[if_neg c0]
  split at he
  ·rename_i c1;rw[if_pos c1]
   split at he
   ·simp at he;omega
   ·rename_i c2;rw[if_neg c2];exact .inl ⟨rfl,hf Qh⟩
  ·rename_i c1;rw[if_neg c1]
   split at he
   ·rename_i c2;rw[if_pos c2]
    split at he
    ·rename_i c3;rw[if_pos c3];simp at he;exact .inr ⟨rfl,ht Qh⟩
    ·rename_i c3;rw[if_neg c3];exact .inl ⟨rfl,hf Qh⟩
   ·rename_i c2;rw[if_neg c2]
    split at he
    ·rename_i c3;rw[if_pos c3]
     split at he
     ·simp at he;omega
     ·rename_i c4;rw[if_neg c4];exact .inl ⟨rfl,hf Qh⟩
    ·rename_i c3;rw[if_neg c3];exact .inl ⟨rfl,hf Qh⟩

theorem zg(s:ByteArray)(pos:Nat)(h:pos<s.size):
  (decide ((Utf8.decode s pos).1=65533)&& !(Xc s pos))=decide ((Utf8.decode s pos).1=65533∧(Utf8.decode s pos).2=1):=by
 by_cases he:(Utf8.decode s pos).1=65533
 ·rcases zK s pos h he with⟨h1,h2⟩|⟨h1,h2⟩
  ·simp[he,h1,h2]
  ·simp[he,h1,h2]
 ·simp[he]

def Yi(s:ByteArray):Nat→Nat→List (Nat×Nat)×Option Nat
 |0,_=>([],none)
 |f+1,p=>
  if p<s.size then
   if(Utf8.decode s p).1=65533∧(Utf8.decode s p).2=1 then([],some p)
   else(((Utf8.decode s p).1,p)::(Yi s f (p+(Utf8.decode s p).2)).1,(Yi s f (p+(Utf8.decode s p).2)).2)
  else([],none)
def each(s:ByteArray):List (Nat×Nat)×Option Nat:=Yi s s.size 0
def JB:Option Nat→Int
 |none=> -1
 |some p=>p
def runeCells(l:List (Nat×Nat)):List Value:=l.flatMap fun x=>[.int .i32 x.1,.int .i64 x.2]

theorem WQ(s:ByteArray)(f p:Nat)(h: ¬p<s.size):Yi s f p=([],none):=by
 cases f<;>simp[Yi,h]
theorem A4(s:ByteArray)(f p:Nat)(h:p<s.size)(ho:(Utf8.decode s p).1=65533∧(Utf8.decode s p).2=1):Yi s (f+1) p=([],some p):=by
 rw[Yi,if_pos h,if_pos ho]
theorem XO(s:ByteArray)(f p:Nat)(h:p<s.size)(ho: ¬((Utf8.decode s p).1=65533∧(Utf8.decode s p).2=1)):
  Yi s (f+1) p=(((Utf8.decode s p).1,p)::(Yi s f (p+(Utf8.decode s p).2)).1,(Yi s f (p+(Utf8.decode s p).2)).2):=by
 rw[Yi,if_pos h,if_neg ho]
theorem Fm(l:List (Nat×Nat))(c p:Nat):runeCells l++[.int .i32 c,.int .i64 p]=runeCells (l++[(c,p)]):=by
 simp[runeCells]
end
end Go.Proofs.YtaomhhkflohhgaaGreatDoor
