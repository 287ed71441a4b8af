/-
  'unicode/utf8.DecodeRuneInString' of this program, by the library's contract: the numbers of this program put in.
-/
import Derived.Shelf.Unicode.DecodeAny
import Derived.Lib.LaidU8
import Derived.PinnedBridge
import Derived.Test.YtadjjadimlkkgaaGreatDoorLiLx1
set_option linter.unusedVariables false
section
namespace Go.Proofs.YtadjjadimlkkgaaGreatDoor
open Go Go.RowKit Go.Shelf

def zo:Ren:=⟨
 fun n=>if n=197 then 132 else if n=260 then 190 else 0,
 fun n=>if n=0 then 0 else if n=3 then 3 else if n=4 then 4 else if n=5 then 5 else if n=9 then 9 else if n=21 then 21 else if n=46 then 134
  else if n=105 then 151 else if n=119 then 225 else if n=138 then 227 else if n=139 then 228 else 0,
 fun n=>if n=3 then 0 else if n=4 then 1 else 0⟩

set_option maxRecDepth 100000 in
theorem yg:Lays.n197 Tryz.prog zo:={
 mixed:=by kernel_rfl
 f197:=by kernel_rfl
 f260:=by kernel_rfl
 t0:=by kernel_rfl
 a0:=fun _=>by kernel_rfl
 z0:=fun _=>by kernel_rfl
 v0:=fun _=>by kernel_rfl
 t3:=by kernel_rfl
 a3:=fun _=>by kernel_rfl
 z3:=fun _=>by kernel_rfl
 v3:=fun _=>by kernel_rfl
 t4:=by kernel_rfl
 a4:=fun _=>by kernel_rfl
 z4:=fun _=>by kernel_rfl
 v4:=fun _=>by kernel_rfl
 t5:=by kernel_rfl
 a5:=fun _=>by kernel_rfl
 z5:=fun _=>by kernel_rfl
 v5:=fun _=>by kernel_rfl
 t9:=by kernel_rfl
 a9:=fun _=>by kernel_rfl
 z9:=fun _=>by kernel_rfl
 v9:=fun _=>by kernel_rfl
 t21:=by kernel_rfl
 a21:=fun _=>by kernel_rfl
 z21:=fun _=>by kernel_rfl
 v21:=fun _=>by kernel_rfl
 t46:=by kernel_rfl
 a46:=fun _=>by kernel_rfl
 z46:=fun _=>by kernel_rfl
 v46:=fun _=>by kernel_rfl
 t105:=by kernel_rfl
 a105:=fun _=>by kernel_rfl
 z105:=fun _=>by kernel_rfl
 v105:=fun _=>by kernel_rfl
 t119:=by kernel_rfl
 a119:=fun _=>by kernel_rfl
 z119:=fun _=>by kernel_rfl
 t138:=by kernel_rfl
 a138:=fun _=>by kernel_rfl
 z138:=fun _=>by kernel_rfl
 v138:=fun _=>by kernel_rfl
 t139:=by kernel_rfl
 a139:=fun _=>by kernel_rfl
 z139:=fun _=>by kernel_rfl
 v139:=fun _=>by kernel_rfl
 g3:=by kernel_rfl
 g4:=by kernel_rfl}

theorem extra:U8Extra Tryz.prog zo:=⟨by kernel_rfl,by kernel_rfl,by kernel_rfl,by kernel_rfl,by kernel_rfl,by kernel_rfl,by kernel_rfl⟩

def Hs(w:World):Prop:=Lib.Utf8Tabs 0 1 w

theorem Ch(s:ByteArray)(w:World)(hT:Hs w):
  Calls Tryz.prog 132 #[.string s] w fun e w'=>e=.returned (.tuple #[.int .i32 (Lib.decodeGo s).1,.int .i64 (Lib.decodeGo s).2])∧Below w.heap.size w w':=
 Any.utf8_DecodeRuneInString yg s w hT

theorem Ms{w:World}(h3:Lib.VarReads Tryz.prog w "unicode/utf8.first" Go.Pinned.utf8First)(h4:Lib.VarReads Tryz.prog w "unicode/utf8.acceptRanges" Lib.acceptData):Hs w:=
 utf8Tabs_of_reads {yg with} extra (Pinned.utf8First_eq▸h3) h4
theorem Hs.below{w w':World}(h:Hs w)(hb:Below w.heap.size w w'):Hs w':=Utf8Tabs_below h hb

end Go.Proofs.YtadjjadimlkkgaaGreatDoor
end
section
namespace Go.Proofs.YtadjjadimlkkgaaGreatDoor
open Go Go.RowKit
set_option maxRecDepth 10000

theorem Gu(s:ByteArray)(i k:Nat)(h:i≤s.size):(s.extract i s.size).get! k=s.get! (i+k):=by
 have hz:(s.extract i s.size).size=s.size-i:=by simp
 rcases Nat.lt_or_ge (i+k) s.size with hk|hk
 ·rw[get_eq _ _ (by omega),get_eq _ _ hk];simp[ByteArray.data_extract]
 ·have e1:(s.extract i s.size).get! k=default:=by
   simp only[ByteArray.get!];rw[getElem!_neg];exact(by rw[←ByteArray.size_data]at hz;omega: ¬k<(s.extract i s.size).data.size)
  have e2:s.get! (i+k)=default:=by
   simp only[ByteArray.get!];rw[getElem!_neg];exact(by rw[←ByteArray.size_data]at hk;omega: ¬i+k<s.data.size)
  rw[e1,e2]

theorem NW(s:ByteArray)(i:Nat)(h:i<s.size):Lib.decodeGo (s.extract i s.size)=Utf8.decode s i:=by
 have hz:(s.extract i s.size).size=s.size-i:=by simp
 unfold Lib.decodeGo;rw[if_neg (by omega),Lib.decode_at,Lib.decode_at,hz];simp only[Gu s i _ (Nat.le_of_lt h),Nat.add_zero,Nat.zero_add,Nat.sub_zero]

theorem IY(s:ByteArray)(i:Nat)(w:World)(hT:Hs w)(h:i<s.size):
  Calls Tryz.prog 132 #[.string (s.extract i s.size)] w fun e w'=>e=.returned (.tuple #[.int .i32 (Utf8.decode s i).1,.int .i64 (Utf8.decode s i).2])∧Below w.heap.size w w':=by
 refine(Ch _ w hT).mono fun e w' hp=>?_;rw[NW s i h]at hp;exact hp

theorem NX(s:ByteArray)(pos:Nat)(h:pos<s.size):(Utf8.decode s pos).2≤4:=by
 simp only[Utf8.decode]
 repeat' split
 all_goals simp_all

def Rl(s:ByteArray)(w:World)(e:Ending)(w':World):Prop:=
 ∃v:Value,e=.returned (.tuple #[v,.int .i64 (Yx (each s).2)])∧w'.ownsRow w.heap.size 154 2 v (each s).1.length (runeCells (each s).1)∧Below w.heap.size w w'∧((each s).1=[]→v=.slice none 0 0)
theorem OR(s:ByteArray)(w:World)(hs:s.size≤100000)(hT:Hs w):
  Calls Tryz.prog 76 #[.string s] w (Rl s w):=by
 obtain⟨i0,hi,hz0,hz1,hz2⟩:=info_parts Gm
 go_enter Tryz.func76,Tryz.ntmps76
 go_wp2
 go_loopw [4,5] (fun v iv wr=> ∃(p f:Nat) (acc:List (Nat×Nat)),iv=.int .i64 p∧s.size≤p+f∧acc.length≤p∧p≤s.size∧
   acc++(Us s f p).1=(each s).1∧(Us s f p).2=(each s).2∧
   wr.ownsRow w.heap.size 154 2 v acc.length (runeCells acc)∧Below w.heap.size w wr∧(acc=[]→v=.slice none 0 0))
  (fun _ iv _=>s.size-(intOf iv).toNat)
 case atStart=>
  exact⟨0,s.size,[],rfl,by omega,by simp,by omega,rfl,rfl,World.ownsRow_nil _ _ _ _,Below.refl _ _,fun _=>rfl⟩
 case round=>
  obtain⟨p,f,acc,rfl,hf,hacc,hp,h1,h2,hown,hb,hnil⟩:=hrel;have HN:=Lib.hid hnil;clear hnil;have H1:=Lib.hid h1;have H2:=Lib.hid h2;clear h1 h2
  by_cases hlt:p<s.size
  ·obtain⟨f,rfl⟩: ∃f',f=f'+1:=⟨f-1,by omega⟩;have hw:=VD s p hlt;have hw4:=NX s p hlt;have hsz:=hb.size
   by_cases ho:(Utf8.decode s p).1=65533∧(Utf8.decode s p).2=1
   ·have HO:=Lib.hid ho
    have hb1:(((Utf8.decode s p).1:Int)==65533)=true:=by rw[ho.1];rfl
    have hb2:((Utf8.decode s p).2:Int)<2:=by omega
    clear ho
    go_wp2_with (go_at_call 132;refine(IY s p _ (hT.below hb) hlt).mono ?_;rintro e w1 ⟨rfl,hb1⟩)
    go_ret2
    rw[Wg s f p hlt HO.out]at H1 H2;exact⟨_,by rw[←H2.out];rfl,by rw[←H1.out];simpa using WA hown (by assumption),hb.trans ((by assumption:Below wr.heap.size wr _).mono hsz),fun e=>HN.out (by have:=H1.out;rw[List.append_nil]at this;rw[this];exact e)⟩
   ·have HO:=Lib.hid ho;clear ho
    go_wp2_with fail
    refine(IY s p _ (hT.below hb) hlt).mono ?_
    rintro e w1 ⟨rfl,hb1⟩
    have hown1:=WA hown hb1;have hbw:=hb.trans (hb1.mono hsz);have hszw:=hbw.size;clear hown;have hr:=HO.out
    have hq:(((Utf8.decode s p).1:Int)==65533)=false∨((((Utf8.decode s p).1:Int)==65533)=true∧ ¬((Utf8.decode s p).2:Int)<2):=by
     by_cases e:(Utf8.decode s p).1=65533
     ·right;exact⟨by simp;omega,by omega⟩
     ·left;simp;omega
    clear hr;rcases hq with hq|⟨hq,hq2⟩
    all_goals
     go_wp2_with (at_builtin;go_must (refine wpList_append_own _ rfl _ _ 116 rfl w.heap.size 154 i0 _ 2 16 Tryz.underlying116 hi hz0 hz1 hz2 rfl (by decide) _ _ _ rfl (hown1.alloc _) ⟨w1.heap.size,0,none⟩ 1 1 [.int .i32 (Utf8.decode s p).1,.int .i64 p] rfl rfl (En _ _ _ _ rfl) (by intro u hu;simp at hu;rcases hu with rfl|rfl<;>rfl) (by unfold maxLen;omega) (by omega) (by simp;omega) ?_);intro v' w2 hown2 hgrow2 _)
     have hbA:=LY ((hbw.alloc (by omega) _)) (hown1.alloc _) hgrow2 (Nat.le_refl _) (by simp;omega);clear hgrow2 hown1
     go_wp2
     go_roundw
     case rel=>
      refine⟨p+(Utf8.decode s p).2,f,acc++[((Utf8.decode s p).1,p)],by go_num,by omega,by simp;omega,by omega,?_,?_,?_,hbA,fun e=>absurd e (by simp)⟩
      ·rw[←H1.out,Zh s f p hlt HO.out];simp
      ·rw[←H2.out,Zh s f p hlt HO.out]
      ·rw[←Wz];simpa using hown2
     case measure=>simp[intOf];omega
  ·go_wp2
   go_ret2
   rw[XI s f p hlt]at H1 H2;exact⟨_,by rw[←H2.out];rfl,by rw[←H1.out];simpa using hown,hb,fun e=>HN.out (by have:=H1.out;rw[List.append_nil]at this;rw[this];exact e)⟩
end Go.Proofs.YtadjjadimlkkgaaGreatDoor
end
