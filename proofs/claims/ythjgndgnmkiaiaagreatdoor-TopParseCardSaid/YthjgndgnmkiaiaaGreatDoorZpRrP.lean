/-
  'unicode/utf8.DecodeRuneInString' of this program, by the library's contract: the numbers of this program put in.
-/
import Derived.Shelf.Unicode.DecodeAny
import Derived.Lib.LaidU8
import Derived.PinnedBridge
import Derived.Test.YthjgndgnmkiaiaaGreatDoorZpSy2
import Derived.Test.YthjgndgnmkiaiaaGreatDoorZpLexT
set_option maxRecDepth 100000
set_option linter.unusedVariables false
namespace Go.Proofs.YthjgndgnmkiaiaaGreatDoor
section
open Go Go.RowKit Go.Shelf

def oA:Ren:=⟨
 fun n=>if n=197 then 82 else if n=260 then 121 else 0,
 fun n=>if n=0 then 0 else if n=3 then 3 else if n=4 then 4 else if n=5 then 5 else if n=9 then 9 else if n=21 then 21 else if n=46 then 211
  else if n=105 then 138 else if n=119 then 210 else if n=138 then 213 else if n=139 then 214 else 0,
 fun n=>if n=3 then 1 else if n=4 then 2 else 0⟩

set_option maxRecDepth 100000 in
theorem lQ:Lays.n197 Tryz.prog oA:={
 mixed:=by kernel_rfl
 f197:=by kernel_rfl
 f260:=by kernel_rfl
 t0:=by kernel_rfl
 a0:=fun _=>by kernel_rfl
 z0:=fun _=>by kernel_rfl
 v0:=fun _=>by kernel_rfl
 t3:=by kernel_rfl
 a3:=fun _=>by kernel_rfl
 z3:=fun _=>by kernel_rfl
 v3:=fun _=>by kernel_rfl
 t4:=by kernel_rfl
 a4:=fun _=>by kernel_rfl
 z4:=fun _=>by kernel_rfl
 v4:=fun _=>by kernel_rfl
 t5:=by kernel_rfl
 a5:=fun _=>by kernel_rfl
 z5:=fun _=>by kernel_rfl
 v5:=fun _=>by kernel_rfl
 t9:=by kernel_rfl
 a9:=fun _=>by kernel_rfl
 z9:=fun _=>by kernel_rfl
 v9:=fun _=>by kernel_rfl
 t21:=by kernel_rfl
 a21:=fun _=>by kernel_rfl
 z21:=fun _=>by kernel_rfl
 v21:=fun _=>by kernel_rfl
 t46:=by kernel_rfl
 a46:=fun _=>by kernel_rfl
 z46:=fun _=>by kernel_rfl
 v46:=fun _=>by kernel_rfl
 t105:=by kernel_rfl
 a105:=fun _=>by kernel_rfl
 z105:=fun _=>by kernel_rfl
 v105:=fun _=>by kernel_rfl
 t119:=by kernel_rfl
 a119:=fun _=>by kernel_rfl
 z119:=fun _=>by kernel_rfl
 t138:=by kernel_rfl
 a138:=fun _=>by kernel_rfl
 z138:=fun _=>by kernel_rfl
 v138:=fun _=>by kernel_rfl
 t139:=by kernel_rfl
 a139:=fun _=>by kernel_rfl
 z139:=fun _=>by kernel_rfl
 v139:=fun _=>by kernel_rfl
 g3:=by kernel_rfl
 g4:=by kernel_rfl}

theorem extra:U8Extra Tryz.prog oA:=⟨by kernel_rfl,by kernel_rfl,by kernel_rfl,by kernel_rfl,by kernel_rfl,by kernel_rfl,by kernel_rfl⟩

def Lk(w:World):Prop:=Lib.Utf8Tabs 1 2 w

theorem TE(s:ByteArray)(w:World)(hT:Lk w):
  Calls Tryz.prog 82 #[.string s] w fun e w'=>e=.returned (.tuple #[.int .i32 (Lib.decodeGo s).1,.int .i64 (Lib.decodeGo s).2])∧Below w.heap.size w w':=
 Any.utf8_DecodeRuneInString lQ s w hT

theorem vW{w:World}(h3:Lib.VarReads Tryz.prog w "unicode/utf8.first" Go.Pinned.utf8First)(h4:Lib.VarReads Tryz.prog w "unicode/utf8.acceptRanges" Lib.acceptData):Lk w:=
 utf8Tabs_of_reads {lQ with} extra (Pinned.utf8First_eq▸h3) h4
theorem Lk.below{w w':World}(h:Lk w)(hb:Below w.heap.size w w'):Lk w':=Utf8Tabs_below h hb

end
section
open Go Go.RowKit

theorem Rf(s:ByteArray)(i k:Nat)(h:i≤s.size):(s.extract i s.size).get! k=s.get! (i+k):=by
 have hz:(s.extract i s.size).size=s.size-i:=by simp
 rcases Nat.lt_or_ge (i+k) s.size with hk|hk
 ·rw[get_eq _ _ Qk,get_eq _ _ hk];simp[ByteArray.data_extract]
 ·have e1:(s.extract i s.size).get! k=default:=by
   simp only[ByteArray.get!];rw[getElem!_neg];exact(by rw[←ByteArray.size_data]at hz;omega: ¬k<(s.extract i s.size).data.size)
  have e2:s.get! (i+k)=default:=by
   simp only[ByteArray.get!];rw[getElem!_neg];exact(by rw[←ByteArray.size_data]at hk;omega: ¬i+k<s.data.size)
  rw[e1,e2]

theorem Ds(s:ByteArray)(i:Nat)(h:i<s.size):Lib.decodeGo (s.extract i s.size)=Utf8.decode s i:=by
 have hz:(s.extract i s.size).size=s.size-i:=by simp
 unfold Lib.decodeGo;rw[if_neg Qk,Lib.decode_at,Lib.decode_at,hz];simp only[Rf s i _ (Nat.le_of_lt h),Nat.add_zero,Nat.zero_add,Nat.sub_zero]

theorem Ga(s:ByteArray)(i:Nat)(w:World)(hT:Lk w)(h:i<s.size):
  Calls Tryz.prog 82 #[.string (s.extract i s.size)] w fun e w'=>e=.returned (.tuple #[.int .i32 (Utf8.decode s i).1,.int .i64 (Utf8.decode s i).2])∧Below w.heap.size w w':=by
 refine(TE _ w hT).mono fun e w' hp=>?_;rw[Ds s i h]at hp;exact hp

theorem Dt(s:ByteArray)(pos:Nat)(h:pos<s.size):(Utf8.decode s pos).2≤4:=by
 simp only[Utf8.decode]
 repeat' split
 all_goals simp_all

def u6(s:ByteArray)(w:World)(e:Ending)(w':World):Prop:=
 ∃v:Value,e=.returned (.tuple #[v,.int .i64 (Jx (each s).2)])∧w'.ownsRow w.heap.size 113 2 v (each s).1.length (runeCells (each s).1)∧Below w.heap.size w w'∧((each s).1=[]→v=.slice none 0 0)
theorem Pu(s:ByteArray)(w:World)(hs:s.size≤100000)(hT:Lk w):
  Calls Tryz.prog 49 #[.string s] w (u6 s w):=by
 obtain⟨i0,hi,hz0,hz1,hz2⟩:=info_parts Ra
 go_enter Tryz.func49,Tryz.ntmps49
 go_wp2
 go_loopw [4,5] (fun v iv wr=> ∃(p f:Nat) (acc:List (Nat×Nat)),iv=.int .i64 p∧s.size≤p+f∧acc.length≤p∧p≤s.size∧
   acc++(JA s f p).1=(each s).1∧(JA s f p).2=(each s).2∧
   wr.ownsRow w.heap.size 113 2 v acc.length (runeCells acc)∧Below w.heap.size w wr∧(acc=[]→v=.slice none 0 0))
  (fun _ iv _=>s.size-(intOf iv).toNat)
 case atStart=>
  exact⟨0,s.size,[],rfl,by omega,by simp,by omega,rfl,rfl,World.ownsRow_nil _ _ _ _,Below.refl _ _,fun _=>rfl⟩
 case round=>
  obtain⟨p,f,acc,rfl,hf,hacc,hp,h1,h2,hown,hb,hnil⟩:=hrel;have HN:=Lib.hid hnil;clear hnil;have H1:=Lib.hid h1;have H2:=Lib.hid h2;clear h1 h2
  by_cases hlt:p<s.size
  ·obtain⟨f,rfl⟩: ∃f',f=f'+1:=⟨f-1,by omega⟩;have hw:=Zx s p hlt;have hw4:=Dt s p hlt;have hsz:=hb.size
   by_cases ho:(Utf8.decode s p).1=65533∧(Utf8.decode s p).2=1
   ·have HO:=Lib.hid ho
    have hb1:(((Utf8.decode s p).1:Int)==65533)=true:=by rw[ho.1];rfl
    have hb2:((Utf8.decode s p).2:Int)<2:=by omega
    clear ho
    go_wp2_with (go_at_call 82;refine(Ga s p _ (hT.below hb) hlt).mono ?_;rintro e w1 ⟨rfl,hb1⟩)
    go_ret2
    rw[Zl s f p hlt HO.out]at H1 H2;exact⟨_,by rw[←H2.out];rfl,by rw[←H1.out];simpa using XO hown (by assumption),hb.trans ((by assumption:Below wr.heap.size wr _).mono hsz),fun e=>HN.out (by have:=H1.out;rw[List.append_nil]at this;rw[this];exact e)⟩
   ·have HO:=Lib.hid ho;clear ho
    go_wp2_with fail
    refine(Ga s p _ (hT.below hb) hlt).mono ?_
    rintro e w1 ⟨rfl,hb1⟩
    have hown1:=XO hown hb1;have hbw:=hb.trans (hb1.mono hsz);have hszw:=hbw.size;clear hown;have hr:=HO.out
    have hq:(((Utf8.decode s p).1:Int)==65533)=false∨((((Utf8.decode s p).1:Int)==65533)=true∧ ¬((Utf8.decode s p).2:Int)<2):=by
     by_cases e:(Utf8.decode s p).1=65533
     ·right;exact⟨by simp;omega,by omega⟩
     ·left;simp;omega
    clear hr;rcases hq with hq|⟨hq,hq2⟩
    all_goals
     go_wp2_with (at_builtin;go_must (refine wpList_append_own _ rfl _ _ 76 rfl w.heap.size 113 i0 _ 2 16 Tryz.underlying76 hi hz0 hz1 hz2 rfl Qo _ _ _ rfl (hown1.alloc _) ⟨w1.heap.size,0,none⟩ 1 1 [.int .i32 (Utf8.decode s p).1,.int .i64 p] rfl rfl (We _ _ _ _ rfl) (by intro u hu;simp at hu;rcases hu with rfl|rfl<;>rfl) (by unfold maxLen;omega) Qk (by simp;omega) ?_);intro v' w2 hown2 hgrow2 _)
     have hbA:=Li ((hbw.alloc Qk _)) (hown1.alloc _) hgrow2 (Nat.le_refl _) (by simp;omega);clear hgrow2 hown1
     go_wp2
     go_roundw
     case rel=>
      refine⟨p+(Utf8.decode s p).2,f,acc++[((Utf8.decode s p).1,p)],by go_num,by omega,by simp;omega,by omega,?_,?_,?_,hbA,fun e=>absurd e Q1⟩
      ·rw[←H1.out,Ux s f p hlt HO.out];simp
      ·rw[←H2.out,Ux s f p hlt HO.out]
      ·rw[←AI];simpa using hown2
     case measure=>simp[intOf];omega
  ·go_wp2
   go_ret2
   rw[UK s f p hlt]at H1 H2;exact⟨_,by rw[←H2.out];rfl,by rw[←H1.out];simpa using hown,hb,fun e=>HN.out (by have:=H1.out;rw[List.append_nil]at this;rw[this];exact e)⟩
end
section
open Go Go.RowKit
variable {G:Env}

def Uy.cells(t:Uy):List AV:=[.int .i64 t.kind,.str (Ym t.text),.int .i64 t.num,.int .i64 t.at']
def XK(x:Nat×Nat):List AV:=[.int .i32 x.1,.int .i64 x.2]
theorem uX(p:Jy)(l:List Uy):Qn p (l.flatMap Uy.cells)=XF l:=by
 rw[JH,XF,List.map_flatMap]
 congr 1
 funext t
 simp[Uy.cells,Qe,Za]
theorem qY(p:Jy)(l:List (Nat×Nat)):Qn p (l.flatMap XK)=runeCells l:=by
 rw[JH,runeCells,List.map_flatMap]
 congr 1
theorem uV(h:Hp)(l:List Uy):YN h (l.flatMap Uy.cells)∧ ∀a∈l.flatMap Uy.cells,QI a=true:=by
 refine⟨(JJ _ _).2 fun v hv=>?_,fun a ha=>?_⟩
 ·obtain⟨t,_,ht⟩:=List.mem_flatMap.1 hv;simp[Uy.cells]at ht;rcases ht with rfl|rfl|rfl|rfl
  ·trivial
  ·exact ZW _
  ·trivial
  ·trivial
 ·obtain⟨t,_,ht⟩:=List.mem_flatMap.1 ha;simp[Uy.cells]at ht
  rcases ht with rfl|rfl|rfl|rfl<;>rfl
theorem Mv(h:Hp)(l:List (Nat×Nat)):YN h (l.flatMap XK)∧ ∀a∈l.flatMap XK,QI a=true:=by
 refine⟨(JJ _ _).2 fun v hv=>?_,fun a ha=>?_⟩
 ·obtain⟨t,_,ht⟩:=List.mem_flatMap.1 hv;simp[XK]at ht
  rcases ht with rfl|rfl<;>trivial
 ·obtain⟨t,_,ht⟩:=List.mem_flatMap.1 ha;simp[XK]at ht
  rcases ht with rfl|rfl<;>rfl

noncomputable section
def I7:List AV→Option (List AV×Nat×List AV):=fun args=>match args with
 |[.str l]=>some ((tokens (bytesOf l)).1.flatMap Uy.cells,(tokens (bytesOf l)).1.length,[.int .i64 (tokens (bytesOf l)).2.1,.int .i64 (tokens (bytesOf l)).2.2])
 |_=>none
def Pn:List AV→Option (List AV×Nat×List AV):=fun args=>match args with
 |[.str l]=>Ql (Nat.ble l.length 100000) (some ((each (bytesOf l)).1.flatMap XK,(each (bytesOf l)).1.length,[.int .i64 (Jx (each (bytesOf l)).2)])) none
 |_=>none
def C8:List AV→Option AV:=fun args=>match args with
 |[.int .i32 r]=>some (.int .i64 (Q0 r))
 |_=>none
end
theorem Sr:Vh Tryz.prog G 14 (ET 4 I7):=by
 refine Bb (I:=fun _=>True) (el:=74) ⟨_,Tryz.func14,rfl,by decide⟩ Qo (fun _ _ _ _=>trivial) fun h args ls n rest hF hw=>?_;unfold I7 at hF
 split at hF
 ·rename_i l
  injection hF with hF
  injection hF with e1 hF
  injection hF with e2 e3
  subst e1 e2 e3;refine⟨(uV h _).1,⟨trivial,trivial,trivial⟩,(uV h _).2,fun p w _=>(Ss (bytesOf l) w).mono fun e w' he=>?_⟩;obtain⟨v,h1,h2,h3,h4⟩:=he;refine⟨v,h1,?_,h3,fun e=>h4 (List.length_eq_zero_iff.1 e)⟩;rw[uX];exact h2
 ·cases hF
theorem xR(hI:G.i=Lk):Vh Tryz.prog G 49 (ET 2 Pn):=by
 refine Bb (I:=Lk) (el:=113) ⟨_,Tryz.func49,rfl,by decide⟩ Qo (fun w0 w h hb=>by rw[hI]at h;exact h.below hb) fun h args ls n rest hF hw=>?_;unfold Pn at hF
 split at hF
 ·rename_i l
  cases hl:Nat.ble l.length 100000 with
  |false=>rw[hl]at hF;cases hF
  |true=>
   rw[hl]at hF;have hl:=Nat.le_of_ble_eq_true hl
   injection hF with hF
   injection hF with e1 hF
   injection hF with e2 e3
   subst e1 e2 e3;refine⟨(Mv h _).1,⟨trivial,trivial⟩,(Mv h _).2,fun p w hT=>(Pu (bytesOf l) w (by rw[Jd];exact hl) hT).mono fun e w' he=>?_⟩;obtain⟨v,h1,h2,h3,h4⟩:=he;refine⟨v,h1,?_,h3,fun e=>h4 (List.length_eq_zero_iff.1 e)⟩;rw[qY];exact h2
 ·cases hF
theorem ui:Vh Tryz.prog G 122 (qO C8):=by
 refine Mo (I:=fun _=>True) ⟨_,Tryz.func122,rfl,by decide⟩ (fun _ _ _ _=>trivial) fun h args v hF hw=>?_;unfold C8 at hF
 split at hF
 ·rename_i r
  injection hF with hF
  subst hF;refine⟨trivial,fun p w _=>(je r w).mono fun e w' he=>?_⟩;obtain⟨rfl,rfl⟩:=he;exact⟨rfl,Below.refl _ _⟩
 ·cases hF
end
section
open Go Go.RowKit
variable {L:List (Nat×Nat)} {c:Int} {j n:Nat}

def H9(L:List (Nat×Nat))(n:Nat)(c:Int):Bool:=match L[n]? with
 |some x=>decide ((x.1:Int)=c)
 |none=>false
theorem Eb{x:Nat×Nat}(h:L[n]? =some x):H9 L n c=decide ((x.1:Int)=c):=by simp[H9,h]
theorem Tu(h:L.length≤n):H9 L n c=false:=by simp[H9,List.getElem?_eq_none h]
theorem ZN{x:Nat×Nat}(h:L[n]? =some x):QR L n=Q0 x.1:=by simp[QR,h]
theorem Gg(h:L.length≤n):QR L n= -1:=by simp[QR,List.getElem?_eq_none h]
theorem Hx{fin:Nat}{x:Nat×Nat}(h:L[n]? =some x):Qq fin L n=x.2:=by simp[Qq,h]
theorem YI{fin:Nat}(h:L.length≤n):Qq fin L n=fin:=by simp[Qq,List.getElem?_eq_none h]
theorem CZ(h:H9 L n c=true):n<L.length:=by
 refine Nat.lt_of_not_le fun hge=>?_;rw[Tu hge]at h;cases h
theorem Fo(h:0≤QR L n):n<L.length:=by
 refine Nat.lt_of_not_le fun hge=>?_;rw[Gg hge]at h;exact absurd h Qo
theorem Z4(h:n<L.length): ∃c a,L[n]? =some (c,a)∧L.drop n=(c,a)::L.drop (n+1):=⟨_,_,List.getElem?_eq_getElem h,XS L n h⟩
def cG(b:Bool)(r:List (Nat×Nat)):Nat:=if b then Jb r else 0
theorem D2{b:Bool}(h:b=false∨ ¬j<L.length∨H9 L j 10=true):cG b (L.drop j)=0:=by
 rcases h with rfl|h|h
 ·rfl
 ·rw[List.drop_eq_nil_of_le Qk];cases b<;>rfl
 ·obtain⟨c,a,h1,h2⟩:=Z4 (CZ h);rw[Eb h1]at h;have h:=of_decide_eq_true h
  have h:c=10:=by simpa using Int.ofNat_inj.1 h
  rw[h2];cases b
  ·rfl
  ·show Jb _=0;rw[Jb,if_pos h]
theorem lX(h1:j<L.length)(h2:H9 L j 10=false):cG true (L.drop j)=cG true (L.drop (j+1))+1:=by
 obtain⟨c,a,h3,h4⟩:=Z4 h1;rw[Eb h3]at h2;have h:=of_decide_eq_false h2;rw[h4];show Jb _=_;rw[Jb,if_neg (fun e=>h (by subst e;rfl))];rfl
theorem qQ{c:Nat}(h:Q0 (c:Int)=3):Yy (c:Int)=true:=Vy.1 h
theorem Ih{k:Nat}(h:QR L k=3∨H9 L k 35=true):QC false (L.drop k)=1+cG (H9 L k 35) (L.drop (k+1))+QC false (L.drop (k+1+cG (H9 L k 35) (L.drop (k+1)))):=by
 have hk:k<L.length:=by
  rcases h with h|h
  ·exact Fo Qk
  ·exact CZ h
 obtain⟨c,a,h3,h4⟩:=Z4 hk;rw[Eb h3];rw[ZN h3,Eb h3]at h;rw[h4,QC]
 by_cases h35:(c:Int)=35
 ·have hc:c=35:=by simpa using Int.ofNat_inj.1 h35
  subst hc;have hd:decide ((((35,a):Nat×Nat).1:Int)=35)=true:=rfl;rw[if_neg (by decide+kernel),if_pos rfl,Hj,hd,List.drop_drop];show Jb _+_+1=1+Jb _+QC false (L.drop (k+1+Jb (L.drop (k+1))));omega
 ·have hd:decide ((((c,a):Nat×Nat).1:Int)=35)=false:=decide_eq_false h35;rw[hd];rcases h with h|h
  ·have hs:=qQ h;have e:(if Yy c=true then QC false (L.drop (k+1))+1 else if c=35 then QC true (L.drop (k+1))+1 else 0)=QC false (L.drop (k+1))+1:=if_pos hs;rw[e];show _=1+0+QC false (L.drop (k+1+0));rw[Nat.add_zero,Nat.add_zero,Nat.add_comm]
  ·rw[hd]at h;cases h
theorem vp{k:Nat}(h1:QR L k≠3)(h2:H9 L k 35=false):QC false (L.drop k)=0:=by
 by_cases hk:k<L.length
 ·obtain⟨c,a,h3,h4⟩:=Z4 hk;rw[ZN h3]at h1;rw[Eb h3]at h2;have h2:=of_decide_eq_false h2;rw[h4,QC];have hs: ¬Yy (c:Int)=true:=fun h=>h1 (Vy.2 h)
  have e:(if Yy c=true then QC false (L.drop (k+1))+1 else if c=35 then QC true (L.drop (k+1))+1 else 0)=if c=35 then QC true (L.drop (k+1))+1 else 0:=if_neg hs
  rw[e,if_neg fun e=>h2 (by subst e;rfl)]
 ·rw[List.drop_eq_nil_of_le Qk];rfl

theorem KV(h:QR L j=1∨QR L j=2∨H9 L j 39=true):j<L.length∧Ju (L.drop j)=Ju (L.drop (j+1))+1:=by
 have hj:j<L.length:=by
  rcases h with h|h|h
  ·exact Fo Qk
  ·exact Fo Qk
  ·exact CZ h
 refine⟨hj,?_⟩;obtain⟨c,a,h3,h4⟩:=Z4 hj;rw[ZN h3,Eb h3]at h;rw[h4,Ju,if_pos];rcases h with h|h|h
 ·simp[Zd,Fp.1 h]
 ·simp[Zd,YD.1 h]
 ·have:=of_decide_eq_true h;simp[Zd,this]
theorem PG(h1:QR L j≠1)(h2:QR L j≠2)(h3:H9 L j 39=false):Ju (L.drop j)=0:=by
 by_cases hj:j<L.length
 ·obtain⟨c,a,h4,h5⟩:=Z4 hj;rw[ZN h4]at h1 h2;rw[Eb h4]at h3;have h3:=of_decide_eq_false h3;rw[h5,Ju,if_neg];intro hm;unfold Zd at hm;simp only[Bool.or_eq_true,decide_eq_true_iff]at hm;rcases hm with(h|h)|h
  ·exact h1 (Fp.2 h)
  ·exact h2 (YD.2 h)
  ·exact h3 h
 ·rw[List.drop_eq_nil_of_le Qk];rfl

structure Gw(h:Hp)(g:Nat)(l:List Nat)(ks:AV)(L:List (Nat×Nat))(bad:Option Nat)(n:Nat):Prop where
 row:J5 h g 0 [.str l,ks,.int .i64 (Jx bad),.int .i64 (n:Nat)]
 run:Ja h [g] 2 (L.map XK) ks
 few:L.length≤100000
 le:n≤L.length
 size:l.length≤100000
 mono: ∀i j,i≤j→Qq (QT (bytesOf l) bad) L i≤Qq (QT (bytesOf l) bad) L j∧Qq (QT (bytesOf l) bad) L j≤l.length
theorem Gw.next{h0 h:Hp}{g:Nat}{l:List Nat}{ks:AV}{bad:Option Nat}{n':Nat}(H:Gw h0 g l ks L bad n)(hr:J5 h g 0 [.str l,ks,.int .i64 (Jx bad),.int .i64 (n':Nat)])(hk:Ja h [g] 2 (L.map XK) ks)(hn:n'≤L.length):Gw h g l ks L bad n':=⟨hr,hk,H.few,hn,H.size,H.mono⟩
theorem Kw{bad:Option Nat}(h:0≤Jx bad): ∃q,bad=some q:=by
 cases bad with
 |none=>exact absurd h Qo
 |some q=>exact⟨q,rfl⟩
theorem Kx{bad:Option Nat}(h: ¬0≤Jx bad):bad=none:=by
 cases bad with
 |none=>rfl
 |some q=>exact absurd (Int.natCast_nonneg q) h
theorem VS:(L.map XK).length=L.length:=by simp
theorem C9{c a:Nat}(h:L[n]? =some (c,a)):(L.map XK)[n]? =some [.int .i32 (c:Int),.int .i64 (a:Int)]:=by rw[List.getElem?_map,h];rfl

def VE:List (List Nat):=[[116,114,117,101],[102,97,108,115,101],[101,120,48],[101,120,49],[101,120,50],[97,108,108,48],[97,108,108,49],[97,108,108,50],[118,97,114,48],[118,97,114,49],[118,97,114,50],[112,114,101,100],[105,110],[110,111,116,105,110],[115,117,98],[117,110,105,111,110],[105,110,116,101,114]]
def Xb:List (List Nat):=[[60,61,62],[61,62],[60,61],[126,61],[61],[126],[60],[38],[124],[40],[41],[123],[125],[44],[59],[58],[43],[92]]
theorem qC:Zz.map Ym=VE:=by decide+kernel
theorem qT:ZB.map Ym=Xb:=by decide+kernel
theorem Sy{a b:ByteArray}(h:Ym a=Ym b):a=b:=by rw[←Za a,h,Za]
theorem qy(s:ByteArray):YJ Zz s=VE.contains (Ym s):=by
 rw[←qC,Bool.eq_iff_iff,Tx,List.contains_iff_mem,List.mem_map];exact⟨fun h=>⟨s,h,rfl⟩,fun⟨a,h,e⟩=>Sy e▸h⟩
def Vg:List (Nat×Nat)→List Nat→Bool
 |_,[]=>true
 |[],_::_=>false
 |(c,_)::r,b::l=>decide (c=b)&&Vg r l
theorem xB(l:List UInt8): ∀r,Vg r (l.map UInt8.toNat)=Zq r l:=by
 induction l with
 |nil=>intro r;cases r<;>rfl
 |cons b l ih=>
  intro r
  cases r with
  |nil=>rfl
  |cons x r=>obtain⟨c,a⟩:=x;rw[List.map_cons,Vg,Zq,ih]
def Bf(r:List (Nat×Nat)):Option (List Nat):=Xb.find? fun w=>Vg r w
theorem yy(r:List (Nat×Nat)):Bf r=(VH r).map Ym:=by
 unfold Bf VH;rw[←qT,List.find?_map]
 congr 1
 congr 1
 funext sg
 exact xB _ r
end
end Go.Proofs.YthjgndgnmkiaiaaGreatDoor
