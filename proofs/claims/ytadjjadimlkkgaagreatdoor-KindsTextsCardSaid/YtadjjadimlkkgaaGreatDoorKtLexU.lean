/-
  'unicode/utf8.DecodeRuneInString' of this program, by the library's contract: the numbers of this program put in.
-/
import Derived.Shelf.Unicode.DecodeAny
import Derived.Lib.LaidU8
import Derived.PinnedBridge
import Derived.Test.YtadjjadimlkkgaaGreatDoorKtSy2
import Derived.Test.YtadjjadimlkkgaaGreatDoorKtLexT
set_option linter.unusedVariables false
section
namespace Go.Proofs.YtadjjadimlkkgaaGreatDoor
open Go Go.RowKit Go.Shelf

def yi:Ren:=⟨
 fun n=>if n=197 then 132 else if n=260 then 190 else 0,
 fun n=>if n=0 then 0 else if n=3 then 3 else if n=4 then 4 else if n=5 then 5 else if n=9 then 9 else if n=21 then 21 else if n=46 then 134
  else if n=105 then 151 else if n=119 then 225 else if n=138 then 227 else if n=139 then 228 else 0,
 fun n=>if n=3 then 0 else if n=4 then 1 else 0⟩

set_option maxRecDepth 100000 in
theorem uz:Lays.n197 Tryz.prog yi:={
 mixed:=by kernel_rfl
 f197:=by kernel_rfl
 f260:=by kernel_rfl
 t0:=by kernel_rfl
 a0:=fun _=>by kernel_rfl
 z0:=fun _=>by kernel_rfl
 v0:=fun _=>by kernel_rfl
 t3:=by kernel_rfl
 a3:=fun _=>by kernel_rfl
 z3:=fun _=>by kernel_rfl
 v3:=fun _=>by kernel_rfl
 t4:=by kernel_rfl
 a4:=fun _=>by kernel_rfl
 z4:=fun _=>by kernel_rfl
 v4:=fun _=>by kernel_rfl
 t5:=by kernel_rfl
 a5:=fun _=>by kernel_rfl
 z5:=fun _=>by kernel_rfl
 v5:=fun _=>by kernel_rfl
 t9:=by kernel_rfl
 a9:=fun _=>by kernel_rfl
 z9:=fun _=>by kernel_rfl
 v9:=fun _=>by kernel_rfl
 t21:=by kernel_rfl
 a21:=fun _=>by kernel_rfl
 z21:=fun _=>by kernel_rfl
 v21:=fun _=>by kernel_rfl
 t46:=by kernel_rfl
 a46:=fun _=>by kernel_rfl
 z46:=fun _=>by kernel_rfl
 v46:=fun _=>by kernel_rfl
 t105:=by kernel_rfl
 a105:=fun _=>by kernel_rfl
 z105:=fun _=>by kernel_rfl
 v105:=fun _=>by kernel_rfl
 t119:=by kernel_rfl
 a119:=fun _=>by kernel_rfl
 z119:=fun _=>by kernel_rfl
 t138:=by kernel_rfl
 a138:=fun _=>by kernel_rfl
 z138:=fun _=>by kernel_rfl
 v138:=fun _=>by kernel_rfl
 t139:=by kernel_rfl
 a139:=fun _=>by kernel_rfl
 z139:=fun _=>by kernel_rfl
 v139:=fun _=>by kernel_rfl
 g3:=by kernel_rfl
 g4:=by kernel_rfl}

theorem extra:U8Extra Tryz.prog yi:=⟨by kernel_rfl,by kernel_rfl,by kernel_rfl,by kernel_rfl,by kernel_rfl,by kernel_rfl,by kernel_rfl⟩

def Kv(w:World):Prop:=Lib.Utf8Tabs 0 1 w

theorem CL(s:ByteArray)(w:World)(hT:Kv w):
  Calls Tryz.prog 132 #[.string s] w fun e w'=>e=.returned (.tuple #[.int .i32 (Lib.decodeGo s).1,.int .i64 (Lib.decodeGo s).2])∧Below w.heap.size w w':=
 Any.utf8_DecodeRuneInString uz s w hT

theorem Mu{w:World}(h3:Lib.VarReads Tryz.prog w "unicode/utf8.first" Go.Pinned.utf8First)(h4:Lib.VarReads Tryz.prog w "unicode/utf8.acceptRanges" Lib.acceptData):Kv w:=
 utf8Tabs_of_reads {uz with} extra (Pinned.utf8First_eq▸h3) h4
theorem Kv.below{w w':World}(h:Kv w)(hb:Below w.heap.size w w'):Kv w':=Utf8Tabs_below h hb

end Go.Proofs.YtadjjadimlkkgaaGreatDoor
end
section
namespace Go.Proofs.YtadjjadimlkkgaaGreatDoor
open Go Go.RowKit
set_option maxRecDepth 10000

theorem Bf(s:ByteArray)(i k:Nat)(h:i≤s.size):(s.extract i s.size).get! k=s.get! (i+k):=by
 have hz:(s.extract i s.size).size=s.size-i:=by simp
 rcases Nat.lt_or_ge (i+k) s.size with hk|hk
 ·rw[get_eq _ _ (by omega),get_eq _ _ hk];simp[ByteArray.data_extract]
 ·have e1:(s.extract i s.size).get! k=default:=by
   simp only[ByteArray.get!];rw[getElem!_neg];exact(by rw[←ByteArray.size_data]at hz;omega: ¬k<(s.extract i s.size).data.size)
  have e2:s.get! (i+k)=default:=by
   simp only[ByteArray.get!];rw[getElem!_neg];exact(by rw[←ByteArray.size_data]at hk;omega: ¬i+k<s.data.size)
  rw[e1,e2]

theorem OX(s:ByteArray)(i:Nat)(h:i<s.size):Lib.decodeGo (s.extract i s.size)=Utf8.decode s i:=by
 have hz:(s.extract i s.size).size=s.size-i:=by simp
 unfold Lib.decodeGo;rw[if_neg (by omega),Lib.decode_at,Lib.decode_at,hz];simp only[Bf s i _ (Nat.le_of_lt h),Nat.add_zero,Nat.zero_add,Nat.sub_zero]

theorem LP(s:ByteArray)(i:Nat)(w:World)(hT:Kv w)(h:i<s.size):
  Calls Tryz.prog 132 #[.string (s.extract i s.size)] w fun e w'=>e=.returned (.tuple #[.int .i32 (Utf8.decode s i).1,.int .i64 (Utf8.decode s i).2])∧Below w.heap.size w w':=by
 refine(CL _ w hT).mono fun e w' hp=>?_;rw[OX s i h]at hp;exact hp

theorem OY(s:ByteArray)(pos:Nat)(h:pos<s.size):(Utf8.decode s pos).2≤4:=by
 simp only[Utf8.decode]
 repeat' split
 all_goals simp_all

def R7(s:ByteArray)(w:World)(e:Ending)(w':World):Prop:=
 ∃v:Value,e=.returned (.tuple #[v,.int .i64 (JH (each s).2)])∧w'.ownsRow w.heap.size 154 2 v (each s).1.length (runeCells (each s).1)∧Below w.heap.size w w'∧((each s).1=[]→v=.slice none 0 0)
theorem GA(s:ByteArray)(w:World)(hs:s.size≤100000)(hT:Kv w):
  Calls Tryz.prog 76 #[.string s] w (R7 s w):=by
 obtain⟨i0,hi,hz0,hz1,hz2⟩:=info_parts Bb
 go_enter Tryz.func76,Tryz.ntmps76
 go_wp2
 go_loopw [4,5] (fun v iv wr=> ∃(p f:Nat) (acc:List (Nat×Nat)),iv=.int .i64 p∧s.size≤p+f∧acc.length≤p∧p≤s.size∧
   acc++(Yw s f p).1=(each s).1∧(Yw s f p).2=(each s).2∧
   wr.ownsRow w.heap.size 154 2 v acc.length (runeCells acc)∧Below w.heap.size w wr∧(acc=[]→v=.slice none 0 0))
  (fun _ iv _=>s.size-(intOf iv).toNat)
 case atStart=>
  exact⟨0,s.size,[],rfl,by omega,by simp,by omega,rfl,rfl,World.ownsRow_nil _ _ _ _,Below.refl _ _,fun _=>rfl⟩
 case round=>
  obtain⟨p,f,acc,rfl,hf,hacc,hp,h1,h2,hown,hb,hnil⟩:=hrel;have HN:=Lib.hid hnil;clear hnil;have H1:=Lib.hid h1;have H2:=Lib.hid h2;clear h1 h2
  by_cases hlt:p<s.size
  ·obtain⟨f,rfl⟩: ∃f',f=f'+1:=⟨f-1,by omega⟩;have hw:=Vr s p hlt;have hw4:=OY s p hlt;have hsz:=hb.size
   by_cases ho:(Utf8.decode s p).1=65533∧(Utf8.decode s p).2=1
   ·have HO:=Lib.hid ho
    have hb1:(((Utf8.decode s p).1:Int)==65533)=true:=by rw[ho.1];rfl
    have hb2:((Utf8.decode s p).2:Int)<2:=by omega
    clear ho
    go_wp2_with (go_at_call 132;refine(LP s p _ (hT.below hb) hlt).mono ?_;rintro e w1 ⟨rfl,hb1⟩)
    go_ret2
    rw[Af s f p hlt HO.out]at H1 H2;exact⟨_,by rw[←H2.out];rfl,by rw[←H1.out];simpa using AB hown (by assumption),hb.trans ((by assumption:Below wr.heap.size wr _).mono hsz),fun e=>HN.out (by have:=H1.out;rw[List.append_nil]at this;rw[this];exact e)⟩
   ·have HO:=Lib.hid ho;clear ho
    go_wp2_with fail
    refine(LP s p _ (hT.below hb) hlt).mono ?_
    rintro e w1 ⟨rfl,hb1⟩
    have hown1:=AB hown hb1;have hbw:=hb.trans (hb1.mono hsz);have hszw:=hbw.size;clear hown;have hr:=HO.out
    have hq:(((Utf8.decode s p).1:Int)==65533)=false∨((((Utf8.decode s p).1:Int)==65533)=true∧ ¬((Utf8.decode s p).2:Int)<2):=by
     by_cases e:(Utf8.decode s p).1=65533
     ·right;exact⟨by simp;omega,by omega⟩
     ·left;simp;omega
    clear hr;rcases hq with hq|⟨hq,hq2⟩
    all_goals
     go_wp2_with (at_builtin;go_must (refine wpList_append_own _ rfl _ _ 116 rfl w.heap.size 154 i0 _ 2 16 Tryz.underlying116 hi hz0 hz1 hz2 rfl (by decide) _ _ _ rfl (hown1.alloc _) ⟨w1.heap.size,0,none⟩ 1 1 [.int .i32 (Utf8.decode s p).1,.int .i64 p] rfl rfl (Fs _ _ _ _ rfl) (by intro u hu;simp at hu;rcases hu with rfl|rfl<;>rfl) (by unfold maxLen;omega) (by omega) (by simp;omega) ?_);intro v' w2 hown2 hgrow2 _)
     have hbA:=Ot ((hbw.alloc (by omega) _)) (hown1.alloc _) hgrow2 (Nat.le_refl _) (by simp;omega);clear hgrow2 hown1
     go_wp2
     go_roundw
     case rel=>
      refine⟨p+(Utf8.decode s p).2,f,acc++[((Utf8.decode s p).1,p)],by go_num,by omega,by simp;omega,by omega,?_,?_,?_,hbA,fun e=>absurd e (by simp)⟩
      ·rw[←H1.out,XE s f p hlt HO.out];simp
      ·rw[←H2.out,XE s f p hlt HO.out]
      ·rw[←Az];simpa using hown2
     case measure=>simp[intOf];omega
  ·go_wp2
   go_ret2
   rw[WG s f p hlt]at H1 H2;exact⟨_,by rw[←H2.out];rfl,by rw[←H1.out];simpa using hown,hb,fun e=>HN.out (by have:=H1.out;rw[List.append_nil]at this;rw[this];exact e)⟩
end Go.Proofs.YtadjjadimlkkgaaGreatDoor
end
section
namespace Go.Proofs.YtadjjadimlkkgaaGreatDoor
open Go Go.RowKit
set_option maxRecDepth 100000

def Yq.cells(t:Yq):List AV:=[.int .i64 t.kind,.str (Yu t.text),.int .i64 t.num,.int .i64 t.at']
def XP(x:Nat×Nat):List AV:=[.int .i32 x.1,.int .i64 x.2]
theorem RL(p:JM)(l:List Yq):Q4 p (l.flatMap Yq.cells)=XJ l:=by
 rw[U1,XJ,List.map_flatMap]
 congr 1
 funext t
 simp[Yq.cells,Qm,Zl]
theorem Pt(p:JM)(l:List (Nat×Nat)):Q4 p (l.flatMap XP)=runeCells l:=by
 rw[U1,runeCells,List.map_flatMap]
 congr 1
theorem RJ(h:Hp)(l:List Yq):ZG h (l.flatMap Yq.cells)∧ ∀a∈l.flatMap Yq.cells,JD a=true:=by
 refine⟨(Yi _ _).2 fun v hv=>?_,fun a ha=>?_⟩
 ·obtain⟨t,_,ht⟩:=List.mem_flatMap.1 hv;simp[Yq.cells]at ht;rcases ht with rfl|rfl|rfl|rfl
  ·trivial
  ·exact Vc _
  ·trivial
  ·trivial
 ·obtain⟨t,_,ht⟩:=List.mem_flatMap.1 ha;simp[Yq.cells]at ht
  rcases ht with rfl|rfl|rfl|rfl<;>rfl
theorem Dt(h:Hp)(l:List (Nat×Nat)):ZG h (l.flatMap XP)∧ ∀a∈l.flatMap XP,JD a=true:=by
 refine⟨(Yi _ _).2 fun v hv=>?_,fun a ha=>?_⟩
 ·obtain⟨t,_,ht⟩:=List.mem_flatMap.1 hv;simp[XP]at ht
  rcases ht with rfl|rfl<;>trivial
 ·obtain⟨t,_,ht⟩:=List.mem_flatMap.1 ha;simp[XP]at ht
  rcases ht with rfl|rfl<;>rfl

noncomputable section
def Hy:List AV→Option (List AV×Nat×List AV):=fun args=>match args with
 |[.str l]=>some ((tokens (bytesOf l)).1.flatMap Yq.cells,(tokens (bytesOf l)).1.length,[.int .i64 (tokens (bytesOf l)).2.1,.int .i64 (tokens (bytesOf l)).2.2])
 |_=>none
def G5:List AV→Option (List AV×Nat×List AV):=fun args=>match args with
 |[.str l]=>Qo (Nat.ble l.length 100000) (some ((each (bytesOf l)).1.flatMap XP,(each (bytesOf l)).1.length,[.int .i64 (JH (each (bytesOf l)).2)])) none
 |_=>none
def O9:List AV→Option AV:=fun args=>match args with
 |[.int .i32 r]=>some (.int .i64 (QX r))
 |_=>none
end
theorem Ca{G:Env}:FJ Tryz.prog G 72 (EN 4 Hy):=by
 refine NB (I:=fun _=>True) (el:=75) ⟨_,Tryz.func72,rfl,by decide⟩ (by decide) (fun _ _ _ _=>trivial) fun h args ls n rest hF hw=>?_;unfold Hy at hF
 split at hF
 ·rename_i l
  injection hF with hF
  injection hF with e1 hF
  injection hF with e2 e3
  subst e1 e2 e3;refine⟨(RJ h _).1,⟨trivial,trivial,trivial⟩,(RJ h _).2,fun p w _=>(Cb (bytesOf l) w).mono fun e w' he=>?_⟩;obtain⟨v,h1,h2,h3,h4⟩:=he;refine⟨v,h1,?_,h3,fun e=>h4 (List.length_eq_zero_iff.1 e)⟩;rw[RL];exact h2
 ·cases hF
theorem T8{G:Env}(hI:G.i=Kv):FJ Tryz.prog G 76 (EN 2 G5):=by
 refine NB (I:=Kv) (el:=154) ⟨_,Tryz.func76,rfl,by decide⟩ (by decide) (fun w0 w h hb=>by rw[hI]at h;exact h.below hb) fun h args ls n rest hF hw=>?_;unfold G5 at hF
 split at hF
 ·rename_i l
  cases hl:Nat.ble l.length 100000 with
  |false=>rw[hl]at hF;cases hF
  |true=>
   rw[hl]at hF;have hl:=Nat.le_of_ble_eq_true hl
   injection hF with hF
   injection hF with e1 hF
   injection hF with e2 e3
   subst e1 e2 e3;refine⟨(Dt h _).1,⟨trivial,trivial⟩,(Dt h _).2,fun p w hT=>(GA (bytesOf l) w (by rw[JC];exact hl) hT).mono fun e w' he=>?_⟩;obtain⟨v,h1,h2,h3,h4⟩:=he;refine⟨v,h1,?_,h3,fun e=>h4 (List.length_eq_zero_iff.1 e)⟩;rw[Pt];exact h2
 ·cases hF
theorem Rs{G:Env}:FJ Tryz.prog G 191 (My O9):=by
 refine Mx (I:=fun _=>True) ⟨_,Tryz.func191,rfl,by decide⟩ (fun _ _ _ _=>trivial) fun h args v hF hw=>?_;unfold O9 at hF
 split at hF
 ·rename_i r
  injection hF with hF
  subst hF;refine⟨trivial,fun p w _=>(Pv r w).mono fun e w' he=>?_⟩;obtain⟨rfl,rfl⟩:=he;exact⟨rfl,Below.refl _ _⟩
 ·cases hF
end Go.Proofs.YtadjjadimlkkgaaGreatDoor
end
