/-
  'unicode/utf8.DecodeRuneInString' of this program, by the library's contract: the numbers of this program put in.
-/
import Derived.Shelf.Unicode.DecodeAny
import Derived.Lib.LaidU8
import Derived.PinnedBridge
import Derived.Test.YtaomhhkflohhgaaGreatDoorMgLexT
import Derived.Shelf.Sort.Plain
import Derived.Shelf.Slices.CompactS
import Derived.Shelf.Slices.In.SortNone
set_option maxRecDepth 1000000
set_option linter.unusedVariables false
namespace Go.Proofs.YtaomhhkflohhgaaGreatDoor
section
open Go Go.RowKit Go.Shelf

def eU:Ren:=⟨
 fun n=>if n=197 then 63 else if n=260 then 79 else 0,
 fun n=>if n=0 then 0 else if n=3 then 3 else if n=4 then 4 else if n=5 then 5 else if n=9 then 9 else if n=21 then 21 else if n=46 then 34
  else if n=105 then 104 else if n=119 then 125 else if n=138 then 127 else if n=139 then 128 else 0,
 fun n=>if n=3 then 0 else if n=4 then 1 else 0⟩

set_option maxRecDepth 100000 in
theorem wC:Lays.n197 Tryz.prog eU:={
 mixed:=by kernel_rfl
 f197:=by kernel_rfl
 f260:=by kernel_rfl
 t0:=by kernel_rfl
 a0:=fun _=>by kernel_rfl
 z0:=fun _=>by kernel_rfl
 v0:=fun _=>by kernel_rfl
 t3:=by kernel_rfl
 a3:=fun _=>by kernel_rfl
 z3:=fun _=>by kernel_rfl
 v3:=fun _=>by kernel_rfl
 t4:=by kernel_rfl
 a4:=fun _=>by kernel_rfl
 z4:=fun _=>by kernel_rfl
 v4:=fun _=>by kernel_rfl
 t5:=by kernel_rfl
 a5:=fun _=>by kernel_rfl
 z5:=fun _=>by kernel_rfl
 v5:=fun _=>by kernel_rfl
 t9:=by kernel_rfl
 a9:=fun _=>by kernel_rfl
 z9:=fun _=>by kernel_rfl
 v9:=fun _=>by kernel_rfl
 t21:=by kernel_rfl
 a21:=fun _=>by kernel_rfl
 z21:=fun _=>by kernel_rfl
 v21:=fun _=>by kernel_rfl
 t46:=by kernel_rfl
 a46:=fun _=>by kernel_rfl
 z46:=fun _=>by kernel_rfl
 v46:=fun _=>by kernel_rfl
 t105:=by kernel_rfl
 a105:=fun _=>by kernel_rfl
 z105:=fun _=>by kernel_rfl
 v105:=fun _=>by kernel_rfl
 t119:=by kernel_rfl
 a119:=fun _=>by kernel_rfl
 z119:=fun _=>by kernel_rfl
 t138:=by kernel_rfl
 a138:=fun _=>by kernel_rfl
 z138:=fun _=>by kernel_rfl
 v138:=fun _=>by kernel_rfl
 t139:=by kernel_rfl
 a139:=fun _=>by kernel_rfl
 z139:=fun _=>by kernel_rfl
 v139:=fun _=>by kernel_rfl
 g3:=by kernel_rfl
 g4:=by kernel_rfl}

theorem extra:U8Extra Tryz.prog eU:=⟨by kernel_rfl,by kernel_rfl,by kernel_rfl,by kernel_rfl,by kernel_rfl,by kernel_rfl,by kernel_rfl⟩

def LK(w:World):Prop:=Lib.Utf8Tabs 0 1 w

theorem R6(s:ByteArray)(w:World)(hT:LK w):
  Calls Tryz.prog 63 #[.string s] w fun e w'=>e=.returned (.tuple #[.int .i32 (Lib.decodeGo s).1,.int .i64 (Lib.decodeGo s).2])∧Below w.heap.size w w':=
 Any.utf8_DecodeRuneInString wC s w hT

theorem yH{w:World}(h3:Lib.VarReads Tryz.prog w "unicode/utf8.first" Go.Pinned.utf8First)(h4:Lib.VarReads Tryz.prog w "unicode/utf8.acceptRanges" Lib.acceptData):LK w:=
 utf8Tabs_of_reads {wC with} extra (Pinned.utf8First_eq▸h3) h4
theorem LK.below{w w':World}(h:LK w)(hb:Below w.heap.size w w'):LK w':=Utf8Tabs_below h hb

end
section
open Go Go.RowKit

theorem DA(s:ByteArray)(i k:Nat)(h:i≤s.size):(s.extract i s.size).get! k=s.get! (i+k):=by
 have hz:(s.extract i s.size).size=s.size-i:=by simp
 rcases Nat.lt_or_ge (i+k) s.size with hk|hk
 ·rw[get_eq _ _ Qh,get_eq _ _ hk];simp[ByteArray.data_extract]
 ·have e1:(s.extract i s.size).get! k=default:=by
   simp only[ByteArray.get!];rw[getElem!_neg];exact(by rw[←ByteArray.size_data]at hz;omega: ¬k<(s.extract i s.size).data.size)
  have e2:s.get! (i+k)=default:=by
   simp only[ByteArray.get!];rw[getElem!_neg];exact(by rw[←ByteArray.size_data]at hk;omega: ¬i+k<s.data.size)
  rw[e1,e2]

theorem Ch(s:ByteArray)(i:Nat)(h:i<s.size):Lib.decodeGo (s.extract i s.size)=Utf8.decode s i:=by
 have hz:(s.extract i s.size).size=s.size-i:=by simp
 unfold Lib.decodeGo;rw[if_neg Qh,Lib.decode_at,Lib.decode_at,hz];simp only[DA s i _ (Nat.le_of_lt h),Nat.add_zero,Nat.zero_add,Nat.sub_zero]

theorem Oq(s:ByteArray)(i:Nat)(w:World)(hT:LK w)(h:i<s.size):
  Calls Tryz.prog 63 #[.string (s.extract i s.size)] w fun e w'=>e=.returned (.tuple #[.int .i32 (Utf8.decode s i).1,.int .i64 (Utf8.decode s i).2])∧Below w.heap.size w w':=by
 refine(R6 _ w hT).mono fun e w' hp=>?_;rw[Ch s i h]at hp;exact hp

theorem Ci(s:ByteArray)(pos:Nat)(h:pos<s.size):(Utf8.decode s pos).2≤4:=by
 simp only[Utf8.decode]
 repeat' split
 all_goals simp_all

def MZ(s:ByteArray)(w:World)(e:Ending)(w':World):Prop:=
 ∃v:Value,e=.returned (.tuple #[v,.int .i64 (JB (each s).2)])∧w'.ownsRow w.heap.size 107 2 v (each s).1.length (runeCells (each s).1)∧Below w.heap.size w w'∧((each s).1=[]→v=.slice none 0 0)
theorem Da(s:ByteArray)(w:World)(hs:s.size≤100000)(hT:LK w):
  Calls Tryz.prog 39 #[.string s] w (MZ s w):=by
 obtain⟨i0,hi,hz0,hz1,hz2⟩:=info_parts D4
 go_enter Tryz.func39,Tryz.ntmps39
 go_wp2
 go_loopw [4,5] (fun v iv wr=> ∃(p f:Nat) (acc:List (Nat×Nat)),iv=.int .i64 p∧s.size≤p+f∧acc.length≤p∧p≤s.size∧
   acc++(Yi s f p).1=(each s).1∧(Yi s f p).2=(each s).2∧
   wr.ownsRow w.heap.size 107 2 v acc.length (runeCells acc)∧Below w.heap.size w wr∧(acc=[]→v=.slice none 0 0))
  (fun _ iv _=>s.size-(intOf iv).toNat)
 case atStart=>
  exact⟨0,s.size,[],rfl,by omega,by simp,by omega,rfl,rfl,World.ownsRow_nil _ _ _ _,Below.refl _ _,fun _=>rfl⟩
 case round=>
  obtain⟨p,f,acc,rfl,hf,hacc,hp,h1,h2,hown,hb,hnil⟩:=hrel;have HN:=Lib.hid hnil;clear hnil;have H1:=Lib.hid h1;have H2:=Lib.hid h2;clear h1 h2
  by_cases hlt:p<s.size
  ·obtain⟨f,rfl⟩: ∃f',f=f'+1:=⟨f-1,by omega⟩;have hw:=XP s p hlt;have hw4:=Ci s p hlt;have hsz:=hb.size
   by_cases ho:(Utf8.decode s p).1=65533∧(Utf8.decode s p).2=1
   ·have HO:=Lib.hid ho
    have hb1:(((Utf8.decode s p).1:Int)==65533)=true:=by rw[ho.1];rfl
    have hb2:((Utf8.decode s p).2:Int)<2:=by omega
    clear ho
    go_wp2_with (go_at_call 63;refine(Oq s p _ (hT.below hb) hlt).mono ?_;rintro e w1 ⟨rfl,hb1⟩)
    go_ret2
    rw[A4 s f p hlt HO.out]at H1 H2;exact⟨_,by rw[←H2.out];rfl,by rw[←H1.out];simpa using Fw hown (by assumption),hb.trans ((by assumption:Below wr.heap.size wr _).mono hsz),fun e=>HN.out (by have:=H1.out;rw[List.append_nil]at this;rw[this];exact e)⟩
   ·have HO:=Lib.hid ho;clear ho
    go_wp2_with fail
    refine(Oq s p _ (hT.below hb) hlt).mono ?_
    rintro e w1 ⟨rfl,hb1⟩
    have hown1:=Fw hown hb1;have hbw:=hb.trans (hb1.mono hsz);have hszw:=hbw.size;clear hown;have hr:=HO.out
    have hq:(((Utf8.decode s p).1:Int)==65533)=false∨((((Utf8.decode s p).1:Int)==65533)=true∧ ¬((Utf8.decode s p).2:Int)<2):=by
     by_cases e:(Utf8.decode s p).1=65533
     ·right;exact⟨by simp;omega,by omega⟩
     ·left;simp;omega
    clear hr;rcases hq with hq|⟨hq,hq2⟩
    all_goals
     go_wp2_with (at_builtin;go_must (refine wpList_append_own _ rfl _ _ 84 rfl w.heap.size 107 i0 _ 2 16 Tryz.underlying84 hi hz0 hz1 hz2 rfl QT _ _ _ rfl (hown1.alloc _) ⟨w1.heap.size,0,none⟩ 1 1 [.int .i32 (Utf8.decode s p).1,.int .i64 p] rfl rfl (Hc _ _ _ _ rfl) (by intro u hu;simp at hu;rcases hu with rfl|rfl<;>rfl) (by unfold maxLen;omega) Qh (by simp;omega) ?_);intro v' w2 hown2 hgrow2 _)
     have hbA:=Bo ((hbw.alloc Qh _)) (hown1.alloc _) hgrow2 (Nat.le_refl _) (by simp;omega);clear hgrow2 hown1
     go_wp2
     go_roundw
     case rel=>
      refine⟨p+(Utf8.decode s p).2,f,acc++[((Utf8.decode s p).1,p)],by go_num,by omega,by simp;omega,by omega,?_,?_,?_,hbA,fun e=>absurd e Q3⟩
      ·rw[←H1.out,XO s f p hlt HO.out];simp
      ·rw[←H2.out,XO s f p hlt HO.out]
      ·rw[←Fm];simpa using hown2
     case measure=>simp[intOf];omega
  ·go_wp2
   go_ret2
   rw[WQ s f p hlt]at H1 H2;exact⟨_,by rw[←H2.out];rfl,by rw[←H1.out];simpa using hown,hb,fun e=>HN.out (by have:=H1.out;rw[List.append_nil]at this;rw[this];exact e)⟩
end
section
open Go Go.RowKit
variable {G:Env}

def Yk.cells(t:Yk):List AV:=[.int .i64 t.kind,.str (YP t.text),.int .i64 t.num,.int .i64 t.at']
def XZ(x:Nat×Nat):List AV:=[.int .i32 x.1,.int .i64 x.2]
theorem qq(p:JY)(l:List Yk):Qx p (l.flatMap Yk.cells)=XW l:=by
 rw[Ur,XW,List.map_flatMap]
 congr 1
 funext t
 simp[Yk.cells,Qg,Vi]
theorem T7(p:JY)(l:List (Nat×Nat)):Qx p (l.flatMap XZ)=runeCells l:=by
 rw[Ur,runeCells,List.map_flatMap]
 congr 1
theorem qo(h:Hp)(l:List Yk):Z2 h (l.flatMap Yk.cells)∧ ∀a∈l.flatMap Yk.cells,Jl a=true:=by
 refine⟨(UX _ _).2 fun v hv=>?_,fun a ha=>?_⟩
 ·obtain⟨t,_,ht⟩:=List.mem_flatMap.1 hv;simp[Yk.cells]at ht;rcases ht with rfl|rfl|rfl|rfl
  ·trivial
  ·exact AB _
  ·trivial
  ·trivial
 ·obtain⟨t,_,ht⟩:=List.mem_flatMap.1 ha;simp[Yk.cells]at ht
  rcases ht with rfl|rfl|rfl|rfl<;>rfl
theorem Si(h:Hp)(l:List (Nat×Nat)):Z2 h (l.flatMap XZ)∧ ∀a∈l.flatMap XZ,Jl a=true:=by
 refine⟨(UX _ _).2 fun v hv=>?_,fun a ha=>?_⟩
 ·obtain⟨t,_,ht⟩:=List.mem_flatMap.1 hv;simp[XZ]at ht
  rcases ht with rfl|rfl<;>trivial
 ·obtain⟨t,_,ht⟩:=List.mem_flatMap.1 ha;simp[XZ]at ht
  rcases ht with rfl|rfl<;>rfl

noncomputable section
def IJ:List AV→Option (List AV×Nat×List AV):=fun args=>match args with
 |[.str l]=>some ((tokens (bytesOf l)).1.flatMap Yk.cells,(tokens (bytesOf l)).1.length,[.int .i64 (tokens (bytesOf l)).2.1,.int .i64 (tokens (bytesOf l)).2.2])
 |_=>none
def CU:List AV→Option (List AV×Nat×List AV):=fun args=>match args with
 |[.str l]=>Qp (Nat.ble l.length 100000) (some ((each (bytesOf l)).1.flatMap XZ,(each (bytesOf l)).1.length,[.int .i64 (JB (each (bytesOf l)).2)])) none
 |_=>none
def BI:List AV→Option AV:=fun args=>match args with
 |[.int .i32 r]=>some (.int .i64 (QM r))
 |_=>none
end
theorem P9:H7 Tryz.prog G 71 (Aj 4 IJ):=by
 refine Gw (I:=fun _=>True) (el:=71) ⟨_,Tryz.func71,rfl,by decide⟩ QT (fun _ _ _ _=>trivial) fun h args ls n rest hF hw=>?_;unfold IJ at hF
 split at hF
 ·rename_i l
  injection hF with hF
  injection hF with e1 hF
  injection hF with e2 e3
  subst e1 e2 e3;refine⟨(qo h _).1,⟨trivial,trivial,trivial⟩,(qo h _).2,fun p w _=>(PA (bytesOf l) w).mono fun e w' he=>?_⟩;obtain⟨v,h1,h2,h3,h4⟩:=he;refine⟨v,h1,?_,h3,fun e=>h4 (List.length_eq_zero_iff.1 e)⟩;rw[qq];exact h2
 ·cases hF
theorem uJ(hI:G.i=LK):H7 Tryz.prog G 39 (Aj 2 CU):=by
 refine Gw (I:=LK) (el:=107) ⟨_,Tryz.func39,rfl,by decide⟩ QT (fun w0 w h hb=>by rw[hI]at h;exact h.below hb) fun h args ls n rest hF hw=>?_;unfold CU at hF
 split at hF
 ·rename_i l
  cases hl:Nat.ble l.length 100000 with
  |false=>rw[hl]at hF;cases hF
  |true=>
   rw[hl]at hF;have hl:=Nat.le_of_ble_eq_true hl
   injection hF with hF
   injection hF with e1 hF
   injection hF with e2 e3
   subst e1 e2 e3;refine⟨(Si h _).1,⟨trivial,trivial⟩,(Si h _).2,fun p w hT=>(Da (bytesOf l) w (by rw[Jm];exact hl) hT).mono fun e w' he=>?_⟩;obtain⟨v,h1,h2,h3,h4⟩:=he;refine⟨v,h1,?_,h3,fun e=>h4 (List.length_eq_zero_iff.1 e)⟩;rw[T7];exact h2
 ·cases hF
theorem MK:H7 Tryz.prog G 80 (yM BI):=by
 refine yL (I:=fun _=>True) ⟨_,Tryz.func80,rfl,by decide⟩ (fun _ _ _ _=>trivial) fun h args v hF hw=>?_;unfold BI at hF
 split at hF
 ·rename_i r
  injection hF with hF
  subst hF;refine⟨trivial,fun p w _=>(T9 r w).mono fun e w' he=>?_⟩;obtain⟨rfl,rfl⟩:=he;exact⟨rfl,Below.refl _ _⟩
 ·cases hF
end
section
open Go Go.RowKit
variable {L:List (Nat×Nat)} {c:Int} {j n:Nat}

def Il(L:List (Nat×Nat))(n:Nat)(c:Int):Bool:=match L[n]? with
 |some x=>decide ((x.1:Int)=c)
 |none=>false
theorem E6{x:Nat×Nat}(h:L[n]? =some x):Il L n c=decide ((x.1:Int)=c):=by simp[Il,h]
theorem Rs(h:L.length≤n):Il L n c=false:=by simp[Il,List.getElem?_eq_none h]
theorem ZT{x:Nat×Nat}(h:L[n]? =some x):Jb L n=QM x.1:=by simp[Jb,h]
theorem Ov(h:L.length≤n):Jb L n= -1:=by simp[Jb,List.getElem?_eq_none h]
theorem HV{fin:Nat}{x:Nat×Nat}(h:L[n]? =some x):Q7 fin L n=x.2:=by simp[Q7,h]
theorem YG{fin:Nat}(h:L.length≤n):Q7 fin L n=fin:=by simp[Q7,List.getElem?_eq_none h]
theorem Ca(h:Il L n c=true):n<L.length:=by
 refine Nat.lt_of_not_le fun hge=>?_;rw[Rs hge]at h;cases h
theorem FC(h:0≤Jb L n):n<L.length:=by
 refine Nat.lt_of_not_le fun hge=>?_;rw[Ov hge]at h;exact absurd h QT
theorem Z6(h:n<L.length): ∃c a,L[n]? =some (c,a)∧L.drop n=(c,a)::L.drop (n+1):=⟨_,_,List.getElem?_eq_getElem h,Vg L n h⟩
def cG(b:Bool)(r:List (Nat×Nat)):Nat:=if b then Js r else 0
theorem Cq{b:Bool}(h:b=false∨ ¬j<L.length∨Il L j 10=true):cG b (L.drop j)=0:=by
 rcases h with rfl|h|h
 ·rfl
 ·rw[List.drop_eq_nil_of_le Qh];cases b<;>rfl
 ·obtain⟨c,a,h1,h2⟩:=Z6 (Ca h);rw[E6 h1]at h;have h:=of_decide_eq_true h
  have h:c=10:=by simpa using Int.ofNat_inj.1 h
  rw[h2];cases b
  ·rfl
  ·show Js _=0;rw[Js,if_pos h]
theorem wV(h1:j<L.length)(h2:Il L j 10=false):cG true (L.drop j)=cG true (L.drop (j+1))+1:=by
 obtain⟨c,a,h3,h4⟩:=Z6 h1;rw[E6 h3]at h2;have h:=of_decide_eq_false h2;rw[h4];show Js _=_;rw[Js,if_neg (fun e=>h (by subst e;rfl))];rfl
theorem Tt{c:Nat}(h:QM (c:Int)=3):Xk (c:Int)=true:=V3.1 h
theorem I1{k:Nat}(h:Jb L k=3∨Il L k 35=true):QY false (L.drop k)=1+cG (Il L k 35) (L.drop (k+1))+QY false (L.drop (k+1+cG (Il L k 35) (L.drop (k+1)))):=by
 have hk:k<L.length:=by
  rcases h with h|h
  ·exact FC Qh
  ·exact Ca h
 obtain⟨c,a,h3,h4⟩:=Z6 hk;rw[E6 h3];rw[ZT h3,E6 h3]at h;rw[h4,QY]
 by_cases h35:(c:Int)=35
 ·have hc:c=35:=by simpa using Int.ofNat_inj.1 h35
  subst hc;have hd:decide ((((35,a):Nat×Nat).1:Int)=35)=true:=rfl;rw[if_neg (by decide+kernel),if_pos rfl,H6,hd,List.drop_drop];show Js _+_+1=1+Js _+QY false (L.drop (k+1+Js (L.drop (k+1))));omega
 ·have hd:decide ((((c,a):Nat×Nat).1:Int)=35)=false:=decide_eq_false h35;rw[hd];rcases h with h|h
  ·have hs:=Tt h;have e:(if Xk c=true then QY false (L.drop (k+1))+1 else if c=35 then QY true (L.drop (k+1))+1 else 0)=QY false (L.drop (k+1))+1:=if_pos hs;rw[e];show _=1+0+QY false (L.drop (k+1+0));rw[Nat.add_zero,Nat.add_zero,Nat.add_comm]
  ·rw[hd]at h;cases h
theorem ye{k:Nat}(h1:Jb L k≠3)(h2:Il L k 35=false):QY false (L.drop k)=0:=by
 by_cases hk:k<L.length
 ·obtain⟨c,a,h3,h4⟩:=Z6 hk;rw[ZT h3]at h1;rw[E6 h3]at h2;have h2:=of_decide_eq_false h2;rw[h4,QY];have hs: ¬Xk (c:Int)=true:=fun h=>h1 (V3.2 h)
  have e:(if Xk c=true then QY false (L.drop (k+1))+1 else if c=35 then QY true (L.drop (k+1))+1 else 0)=if c=35 then QY true (L.drop (k+1))+1 else 0:=if_neg hs
  rw[e,if_neg fun e=>h2 (by subst e;rfl)]
 ·rw[List.drop_eq_nil_of_le Qh];rfl

theorem KS(h:Jb L j=1∨Jb L j=2∨Il L j 39=true):j<L.length∧Ul (L.drop j)=Ul (L.drop (j+1))+1:=by
 have hj:j<L.length:=by
  rcases h with h|h|h
  ·exact FC Qh
  ·exact FC Qh
  ·exact Ca h
 refine⟨hj,?_⟩;obtain⟨c,a,h3,h4⟩:=Z6 hj;rw[ZT h3,E6 h3]at h;rw[h4,Ul,if_pos];rcases h with h|h|h
 ·simp[WH,FD.1 h]
 ·simp[WH,Zc.1 h]
 ·have:=of_decide_eq_true h;simp[WH,this]
theorem Du(h1:Jb L j≠1)(h2:Jb L j≠2)(h3:Il L j 39=false):Ul (L.drop j)=0:=by
 by_cases hj:j<L.length
 ·obtain⟨c,a,h4,h5⟩:=Z6 hj;rw[ZT h4]at h1 h2;rw[E6 h4]at h3;have h3:=of_decide_eq_false h3;rw[h5,Ul,if_neg];intro hm;unfold WH at hm;simp only[Bool.or_eq_true,decide_eq_true_iff]at hm;rcases hm with(h|h)|h
  ·exact h1 (FD.2 h)
  ·exact h2 (Zc.2 h)
  ·exact h3 h
 ·rw[List.drop_eq_nil_of_le Qh];rfl

structure OD(h:Hp)(g:Nat)(l:List Nat)(ks:AV)(L:List (Nat×Nat))(bad:Option Nat)(n:Nat):Prop where
 row:Jj h g 0 [.str l,ks,.int .i64 (JB bad),.int .i64 (n:Nat)]
 run:QS h [g] 2 (L.map XZ) ks
 few:L.length≤100000
 le:n≤L.length
 size:l.length≤100000
 mono: ∀i j,i≤j→Q7 (Je (bytesOf l) bad) L i≤Q7 (Je (bytesOf l) bad) L j∧Q7 (Je (bytesOf l) bad) L j≤l.length
theorem OD.next{h0 h:Hp}{g:Nat}{l:List Nat}{ks:AV}{bad:Option Nat}{n':Nat}(H:OD h0 g l ks L bad n)(hr:Jj h g 0 [.str l,ks,.int .i64 (JB bad),.int .i64 (n':Nat)])(hk:QS h [g] 2 (L.map XZ) ks)(hn:n'≤L.length):OD h g l ks L bad n':=⟨hr,hk,H.few,hn,H.size,H.mono⟩
theorem Kx{bad:Option Nat}(h:0≤JB bad): ∃q,bad=some q:=by
 cases bad with
 |none=>exact absurd h QT
 |some q=>exact⟨q,rfl⟩
theorem Ky{bad:Option Nat}(h: ¬0≤JB bad):bad=none:=by
 cases bad with
 |none=>rfl
 |some q=>exact absurd (Int.natCast_nonneg q) h
theorem Wj:(L.map XZ).length=L.length:=by simp
theorem BK{c a:Nat}(h:L[n]? =some (c,a)):(L.map XZ)[n]? =some [.int .i32 (c:Int),.int .i64 (a:Int)]:=by rw[List.getElem?_map,h];rfl

def VO:List (List Nat):=[[116,114,117,101],[102,97,108,115,101],[101,120,48],[101,120,49],[101,120,50],[97,108,108,48],[97,108,108,49],[97,108,108,50],[118,97,114,48],[118,97,114,49],[118,97,114,50],[112,114,101,100],[105,110],[110,111,116,105,110],[115,117,98],[117,110,105,111,110],[105,110,116,101,114]]
def Xl:List (List Nat):=[[60,61,62],[61,62],[60,61],[126,61],[61],[126],[60],[38],[124],[40],[41],[123],[125],[44],[59],[58],[43],[92]]
theorem Ti:Ae.map YP=VO:=by decide+kernel
theorem Tw:X5.map YP=Xl:=by decide+kernel
theorem PF{a b:ByteArray}(h:YP a=YP b):a=b:=by rw[←Vi a,h,Vi]
theorem Tg(s:ByteArray):VU Ae s=VO.contains (YP s):=by
 rw[←Ti,Bool.eq_iff_iff,Rv,List.contains_iff_mem,List.mem_map];exact⟨fun h=>⟨s,h,rfl⟩,fun⟨a,h,e⟩=>PF e▸h⟩
def Vo:List (Nat×Nat)→List Nat→Bool
 |_,[]=>true
 |[],_::_=>false
 |(c,_)::r,b::l=>decide (c=b)&&Vo r l
theorem ux(l:List UInt8): ∀r,Vo r (l.map UInt8.toNat)=Et r l:=by
 induction l with
 |nil=>intro r;cases r<;>rfl
 |cons b l ih=>
  intro r
  cases r with
  |nil=>rfl
  |cons x r=>obtain⟨c,a⟩:=x;rw[List.map_cons,Vo,Et,ih]
def G2(r:List (Nat×Nat)):Option (List Nat):=Xl.find? fun w=>Vo r w
theorem qJ(r:List (Nat×Nat)):G2 r=(W8 r).map YP:=by
 unfold G2 W8;rw[←Tw,List.find?_map]
 congr 1
 congr 1
 funext sg
 exact ux _ r
end
section
open Go

noncomputable section

def SD(l:List (FuncId×TypeId×TypeId))(f:FuncId):Option (TypeId×TypeId):=List.rec none (fun q _ ih=>Qp (Nat.beq f q.1) (some q.2) ih) l
theorem GX{l:List (FuncId×TypeId×TypeId)}{f:FuncId}{q:TypeId×TypeId}(h:SD l f=some q):(f,q)∈l:=by
 induction l with
 |nil=>cases h
 |cons x l ih=>
  have h:Qp (Nat.beq f x.1) (some x.2) (SD l f)=some q:=h
  cases hb:Nat.beq f x.1 with
  |true=>
   rw[hb]at h
   injection h with h
   subst h;rw[Nat.eq_of_beq_eq_true hb];exact List.mem_cons_self ..
  |false=>rw[hb]at h;exact List.mem_cons_of_mem _ (ih h)
def SW:List (FuncId×TypeId×TypeId):=
 (76,29,79)::
 []
theorem Pn: ∀x∈SW,RS Tryz.prog x.2 x.1:=by
 intro x hx;unfold SW at hx;rcases List.mem_cons.1 hx with rfl|hx
 ·exact⟨3,4,114,0,_,Tryz.func76,rfl,rfl,rfl,by decide+kernel⟩
 cases hx
def wT:Env:=⟨fun _=>false,SD SW,fun _=>none,fun _=>True⟩
theorem zG:LD Tryz.prog wT:=⟨fun f q h=>Pn (f,q) (GX h),fun f sm h=>(nomatch h)⟩
end
theorem mixed:Tryz.prog.follows .mixedOrders=true:=by decide+kernel

end
section
open Go

theorem D1:isTrue (JT Tryz.prog wT 10000 1000 7 [] ⟨0,.nil⟩)=true:=by decide+kernel
end
section
open Go Go.RowKit Go.Shelf

def vX:Ren:=⟨
 fun n=>if n=125 then 130 else if n=128 then 141 else if n=129 then 142 else if n=190 then 119 else if n=258 then 129 else if n=302 then 132 else if n=303 then 133 else if n=304 then 134 else if n=305 then 135 else if n=306 then 136 else if n=307 then 137 else if n=308 then 138 else if n=309 then 139 else if n=310 then 140 else if n=329 then 144 else if n=330 then 145 else if n=333 then 143 else if n=334 then 146 else if n=335 then 147 else if n=336 then 148 else if n=344 then 149 else if n=194 then 120 else 0,
 fun n=>if n=0 then 0 else if n=3 then 3 else if n=4 then 4 else if n=5 then 5 else if n=9 then 9 else if n=31 then 102 else if n=46 then 34 else if n=51 then 157 else if n=53 then 159 else if n=131 then 154 else if n=182 then 149 else if n=183 then 150 else if n=218 then 160 else if n=222 then 164 else if n=228 then 166 else if n=229 then 167 else 0,
 fun _=>0⟩

set_option maxRecDepth 100000 in
theorem Sz:Lays.n190 Tryz.prog vX:={
 mixed:=by kernel_rfl
 f125:=by kernel_rfl
 f128:=by kernel_rfl
 f129:=by kernel_rfl
 f190:=by kernel_rfl
 f258:=by kernel_rfl
 f302:=by kernel_rfl
 f303:=by kernel_rfl
 f304:=by kernel_rfl
 f305:=by kernel_rfl
 f306:=by kernel_rfl
 f307:=by kernel_rfl
 f308:=by kernel_rfl
 f309:=by kernel_rfl
 f310:=by kernel_rfl
 f329:=by kernel_rfl
 f330:=by kernel_rfl
 f333:=by kernel_rfl
 f334:=by kernel_rfl
 f335:=by kernel_rfl
 f336:=by kernel_rfl
 f344:=by kernel_rfl
 t0:=by kernel_rfl
 a0:=fun _=>by kernel_rfl
 z0:=fun _=>by kernel_rfl
 v0:=fun _=>by kernel_rfl
 t3:=by kernel_rfl
 a3:=fun _=>by kernel_rfl
 z3:=fun _=>by kernel_rfl
 v3:=fun _=>by kernel_rfl
 t4:=by kernel_rfl
 a4:=fun _=>by kernel_rfl
 z4:=fun _=>by kernel_rfl
 v4:=fun _=>by kernel_rfl
 t5:=by kernel_rfl
 a5:=fun _=>by kernel_rfl
 z5:=fun _=>by kernel_rfl
 v5:=fun _=>by kernel_rfl
 t9:=by kernel_rfl
 a9:=fun _=>by kernel_rfl
 z9:=fun _=>by kernel_rfl
 v9:=fun _=>by kernel_rfl
 t31:=by kernel_rfl
 a31:=fun _=>by kernel_rfl
 z31:=fun _=>by kernel_rfl
 v31:=fun _=>by kernel_rfl
 t46:=by kernel_rfl
 a46:=fun _=>by kernel_rfl
 z46:=fun _=>by kernel_rfl
 v46:=fun _=>by kernel_rfl
 t51:=by kernel_rfl
 a51:=fun _=>by kernel_rfl
 z51:=fun _=>by kernel_rfl
 v51:=fun _=>by kernel_rfl
 t53:=by kernel_rfl
 a53:=fun _=>by kernel_rfl
 z53:=fun _=>by kernel_rfl
 v53:=fun _=>by kernel_rfl
 t131:=by kernel_rfl
 a131:=fun _=>by kernel_rfl
 z131:=fun _=>by kernel_rfl
 v131:=fun _=>by kernel_rfl
 t182:=by kernel_rfl
 a182:=fun _=>by kernel_rfl
 z182:=fun _=>by kernel_rfl
 v182:=fun _=>by kernel_rfl
 t183:=by kernel_rfl
 a183:=fun _=>by kernel_rfl
 z183:=fun _=>by kernel_rfl
 v183:=fun _=>by kernel_rfl
 t218:=by kernel_rfl
 a218:=fun _=>by kernel_rfl
 z218:=fun _=>by kernel_rfl
 v218:=fun _=>by kernel_rfl
 t222:=by kernel_rfl
 a222:=fun _=>by kernel_rfl
 z222:=fun _=>by kernel_rfl
 v222:=fun _=>by kernel_rfl
 t228:=by kernel_rfl
 a228:=fun _=>by kernel_rfl
 z228:=fun _=>by kernel_rfl
 v228:=fun _=>by kernel_rfl
 t229:=by kernel_rfl
 a229:=fun _=>by kernel_rfl
 z229:=fun _=>by kernel_rfl
 v229:=fun _=>by kernel_rfl}
set_option maxRecDepth 100000 in
theorem Sy:Lays.n194 Tryz.prog vX:={
 mixed:=by kernel_rfl
 f194:=by kernel_rfl
 t0:=by kernel_rfl
 a0:=fun _=>by kernel_rfl
 z0:=fun _=>by kernel_rfl
 v0:=fun _=>by kernel_rfl
 t3:=by kernel_rfl
 a3:=fun _=>by kernel_rfl
 z3:=fun _=>by kernel_rfl
 v3:=fun _=>by kernel_rfl
 t4:=by kernel_rfl
 a4:=fun _=>by kernel_rfl
 z4:=fun _=>by kernel_rfl
 v4:=fun _=>by kernel_rfl
 t9:=by kernel_rfl
 a9:=fun _=>by kernel_rfl
 z9:=fun _=>by kernel_rfl
 v9:=fun _=>by kernel_rfl
 t31:=by kernel_rfl
 a31:=fun _=>by kernel_rfl
 z31:=fun _=>by kernel_rfl
 v31:=fun _=>by kernel_rfl}
end
end Go.Proofs.YtaomhhkflohhgaaGreatDoor
