/-
  Plain laws on runes: what a text's runes are, up to the first byte that begins none. No program here.
-/
import Derived.Lib.DecodeN
import Derived.Laws.RangeAny
namespace Go.Proofs.YtadjjadimlkkgaaGreatDoor
open Go

def Vj(s p:ByteArray):Bool:=List.isPrefixOf p.data.toList s.data.toList
def Y2(s:ByteArray)(pos:Nat):Bool:=Vj (s.extract pos s.size) ⟨#[239,191,189]⟩

theorem NP(s:ByteArray)(i:Nat):(s.get! i).toNat<256:=(s.get! i).toNat_lt

theorem VD(s:ByteArray)(pos:Nat)(h:pos<s.size):1≤(Utf8.decode s pos).2∧pos+(Utf8.decode s pos).2≤s.size:=by
 simp only[Utf8.decode]
 repeat' split
 all_goals simp_all
 all_goals try omega

theorem get_eq(s:ByteArray)(i:Nat)(h:i<s.size):s.get! i=s.data.toList[i]'(by simpa using h):=by
 simp[ByteArray.get!,getElem!_pos,h]

theorem Fj(u:UInt8)(n:Nat)(hn:n<256):u=UInt8.ofNat n↔u.toNat=n:=by
 constructor
 ·rintro rfl
  simp;omega
 ·rintro rfl
  simp

theorem KO(s:ByteArray)(pos:Nat)(h:pos<s.size):Y2 s pos=true↔pos+3≤s.size∧(s.get! pos).toNat=239∧(s.get! (pos+1)).toNat=191∧(s.get! (pos+2)).toNat=189:=by
 unfold Y2 Vj
 have hl:(s.extract pos s.size).data.toList=s.data.toList.drop pos:=by
  rw[ByteArray.data_extract,Array.toList_extract];simp only[List.extract];exact List.take_of_length_le (by simp)
 show List.isPrefixOf [239,191,189] _=true↔_;rw[hl,List.isPrefixOf_iff_prefix,List.prefix_iff_eq_take]
 have hs:s.data.toList.length=s.size:=by simp
 by_cases h3:pos+3≤s.size
 ·rw[List.drop_eq_getElem_cons (by omega),List.drop_eq_getElem_cons (by omega),List.drop_eq_getElem_cons (by omega)];rw[get_eq s pos (by omega),get_eq s (pos+1) (by omega),get_eq s (pos+2) (by omega)];have e0:=Fj (s.data.toList[pos]'(by omega)) 239 (by omega);have e1:=Fj (s.data.toList[pos+1]'(by omega)) 191 (by omega);have e2:=Fj (s.data.toList[pos+2]'(by omega)) 189 (by omega);rw[←e0,←e1,←e2];simp only[List.length_cons,List.length_nil,List.take_succ_cons,List.take_zero,List.cons.injEq,and_true,h3,true_and];constructor
  ·rintro⟨a,b,c⟩;exact⟨a.symm,b.symm,c.symm⟩
  ·rintro⟨a,b,c⟩;exact⟨a.symm,b.symm,c.symm⟩
 ·constructor
  ·intro he;have:=congrArg List.length he;simp at this;omega
  ·intro he;omega

theorem qe(s:ByteArray)(pos:Nat)(h:pos<s.size)(he:(Utf8.decode s pos).1=65533):
  ((Utf8.decode s pos).2=1∧Y2 s pos=false)∨((Utf8.decode s pos).2=3∧Y2 s pos=true):=by
 have h0:=NP s pos;have h1:=NP s (pos+1);have h2:=NP s (pos+2);have h3:=NP s (pos+3);have hp:=KO s pos h;rw[Lib.decode_at]at he ⊢
 generalize (s.get! pos).toNat=b0 at *
 generalize (s.get! (pos+1)).toNat=b1 at *
 generalize (s.get! (pos+2)).toNat=b2 at *
 generalize (s.get! (pos+3)).toNat=b3 at *
 have hf: ¬(pos+3≤s.size∧b0=239∧b1=191∧b2=189)→Y2 s pos=false:=by
  intro hn;rw[←hp]at hn
  simpa using hn
 have ht:(pos+3≤s.size∧b0=239∧b1=191∧b2=189)→Y2 s pos=true:=hp.2;clear hp;unfold Lib.decodeN at he ⊢
 split at he
 ·simp at he;omega
 ·rename_i c0;rw[if_neg c0]
  split at he
  ·rename_i c1;rw[if_pos c1]
   split at he
   ·simp at he;omega
   ·rename_i c2;rw[if_neg c2];exact .inl ⟨rfl,hf (by omega)⟩
  ·rename_i c1;rw[if_neg c1]
   split at he
   ·rename_i c2;rw[if_pos c2]
    split at he
    ·rename_i c3;rw[if_pos c3];simp at he;exact .inr ⟨rfl,ht (by omega)⟩
    ·rename_i c3;rw[if_neg c3];exact .inl ⟨rfl,hf (by omega)⟩
   ·rename_i c2;rw[if_neg c2]
    split at he
    ·rename_i c3;rw[if_pos c3]
     split at he
     ·simp at he;omega
     ·rename_i c4;rw[if_neg c4];exact .inl ⟨rfl,hf (by omega)⟩
    ·rename_i c3;rw[if_neg c3];exact .inl ⟨rfl,hf (by omega)⟩

theorem MN(s:ByteArray)(pos:Nat)(h:pos<s.size):
  (decide ((Utf8.decode s pos).1=65533)&& !(Y2 s pos))=decide ((Utf8.decode s pos).1=65533∧(Utf8.decode s pos).2=1):=by
 by_cases he:(Utf8.decode s pos).1=65533
 ·rcases qe s pos h he with⟨h1,h2⟩|⟨h1,h2⟩
  ·simp[he,h1,h2]
  ·simp[he,h1,h2]
 ·simp[he]

def Us(s:ByteArray):Nat→Nat→List (Nat×Nat)×Option Nat
 |0,_=>([],none)
 |f+1,p=>
  if p<s.size then
   if(Utf8.decode s p).1=65533∧(Utf8.decode s p).2=1 then([],some p)
   else(((Utf8.decode s p).1,p)::(Us s f (p+(Utf8.decode s p).2)).1,(Us s f (p+(Utf8.decode s p).2)).2)
  else([],none)
def each(s:ByteArray):List (Nat×Nat)×Option Nat:=Us s s.size 0
def Yx:Option Nat→Int
 |none=> -1
 |some p=>p
def runeCells(l:List (Nat×Nat)):List Value:=l.flatMap fun x=>[.int .i32 x.1,.int .i64 x.2]

theorem XI(s:ByteArray)(f p:Nat)(h: ¬p<s.size):Us s f p=([],none):=by
 cases f<;>simp[Us,h]
theorem Wg(s:ByteArray)(f p:Nat)(h:p<s.size)(ho:(Utf8.decode s p).1=65533∧(Utf8.decode s p).2=1):Us s (f+1) p=([],some p):=by
 rw[Us,if_pos h,if_pos ho]
theorem Zh(s:ByteArray)(f p:Nat)(h:p<s.size)(ho: ¬((Utf8.decode s p).1=65533∧(Utf8.decode s p).2=1)):
  Us s (f+1) p=(((Utf8.decode s p).1,p)::(Us s f (p+(Utf8.decode s p).2)).1,(Us s f (p+(Utf8.decode s p).2)).2):=by
 rw[Us,if_pos h,if_neg ho]
theorem Wz(l:List (Nat×Nat))(c p:Nat):runeCells l++[.int .i32 c,.int .i64 p]=runeCells (l++[(c,p)]):=by
 simp[runeCells]
end Go.Proofs.YtadjjadimlkkgaaGreatDoor
