/-
  'unicode/utf8.DecodeRuneInString' of this program, by the library's contract: the numbers of this program put in.
-/
import Derived.Shelf.Unicode.DecodeAny
import Derived.Lib.LaidU8
import Derived.PinnedBridge
import Derived.Test.YtmgkfceomhagaaaGreatDoorPsLexT
set_option maxRecDepth 100000
set_option linter.unusedVariables false
namespace Go.Proofs.YtmgkfceomhagaaaGreatDoor
section
open Go Go.RowKit Go.Shelf

def iS:Ren:=⟨
 fun n=>if n=197 then 73 else if n=260 then 93 else 0,
 fun n=>if n=0 then 0 else if n=3 then 3 else if n=4 then 4 else if n=5 then 5 else if n=9 then 9 else if n=21 then 21 else if n=46 then 110
  else if n=105 then 98 else if n=119 then 109 else if n=138 then 112 else if n=139 then 113 else 0,
 fun n=>if n=3 then 0 else if n=4 then 1 else 0⟩

set_option maxRecDepth 100000 in
theorem fc:Lays.n197 Tryz.prog iS:={
 mixed:=by kernel_rfl
 f197:=by kernel_rfl
 f260:=by kernel_rfl
 t0:=by kernel_rfl
 a0:=fun _=>by kernel_rfl
 z0:=fun _=>by kernel_rfl
 v0:=fun _=>by kernel_rfl
 t3:=by kernel_rfl
 a3:=fun _=>by kernel_rfl
 z3:=fun _=>by kernel_rfl
 v3:=fun _=>by kernel_rfl
 t4:=by kernel_rfl
 a4:=fun _=>by kernel_rfl
 z4:=fun _=>by kernel_rfl
 v4:=fun _=>by kernel_rfl
 t5:=by kernel_rfl
 a5:=fun _=>by kernel_rfl
 z5:=fun _=>by kernel_rfl
 v5:=fun _=>by kernel_rfl
 t9:=by kernel_rfl
 a9:=fun _=>by kernel_rfl
 z9:=fun _=>by kernel_rfl
 v9:=fun _=>by kernel_rfl
 t21:=by kernel_rfl
 a21:=fun _=>by kernel_rfl
 z21:=fun _=>by kernel_rfl
 v21:=fun _=>by kernel_rfl
 t46:=by kernel_rfl
 a46:=fun _=>by kernel_rfl
 z46:=fun _=>by kernel_rfl
 v46:=fun _=>by kernel_rfl
 t105:=by kernel_rfl
 a105:=fun _=>by kernel_rfl
 z105:=fun _=>by kernel_rfl
 v105:=fun _=>by kernel_rfl
 t119:=by kernel_rfl
 a119:=fun _=>by kernel_rfl
 z119:=fun _=>by kernel_rfl
 t138:=by kernel_rfl
 a138:=fun _=>by kernel_rfl
 z138:=fun _=>by kernel_rfl
 v138:=fun _=>by kernel_rfl
 t139:=by kernel_rfl
 a139:=fun _=>by kernel_rfl
 z139:=fun _=>by kernel_rfl
 v139:=fun _=>by kernel_rfl
 g3:=by kernel_rfl
 g4:=by kernel_rfl}

theorem extra:U8Extra Tryz.prog iS:=⟨by kernel_rfl,by kernel_rfl,by kernel_rfl,by kernel_rfl,by kernel_rfl,by kernel_rfl,by kernel_rfl⟩

def LC(w:World):Prop:=Lib.Utf8Tabs 0 1 w

theorem RY(s:ByteArray)(w:World)(hT:LC w):
  Calls Tryz.prog 73 #[.string s] w fun e w'=>e=.returned (.tuple #[.int .i32 (Lib.decodeGo s).1,.int .i64 (Lib.decodeGo s).2])∧Below w.heap.size w w':=
 Any.utf8_DecodeRuneInString fc s w hT

theorem zu{w:World}(h3:Lib.VarReads Tryz.prog w "unicode/utf8.first" Go.Pinned.utf8First)(h4:Lib.VarReads Tryz.prog w "unicode/utf8.acceptRanges" Lib.acceptData):LC w:=
 utf8Tabs_of_reads {fc with} extra (Pinned.utf8First_eq▸h3) h4
theorem LC.below{w w':World}(h:LC w)(hb:Below w.heap.size w w'):LC w':=Utf8Tabs_below h hb

end
section
open Go Go.RowKit

theorem DO(s:ByteArray)(i k:Nat)(h:i≤s.size):(s.extract i s.size).get! k=s.get! (i+k):=by
 have hz:(s.extract i s.size).size=s.size-i:=by simp
 rcases Nat.lt_or_ge (i+k) s.size with hk|hk
 ·rw[get_eq _ _ Qq,get_eq _ _ hk];simp[ByteArray.data_extract]
 ·have e1:(s.extract i s.size).get! k=default:=by
   simp only[ByteArray.get!];rw[getElem!_neg];exact(by rw[←ByteArray.size_data]at hz;omega: ¬k<(s.extract i s.size).data.size)
  have e2:s.get! (i+k)=default:=by
   simp only[ByteArray.get!];rw[getElem!_neg];exact(by rw[←ByteArray.size_data]at hk;omega: ¬i+k<s.data.size)
  rw[e1,e2]

theorem Cn(s:ByteArray)(i:Nat)(h:i<s.size):Lib.decodeGo (s.extract i s.size)=Utf8.decode s i:=by
 have hz:(s.extract i s.size).size=s.size-i:=by simp
 unfold Lib.decodeGo;rw[if_neg Qq,Lib.decode_at,Lib.decode_at,hz];simp only[DO s i _ (Nat.le_of_lt h),Nat.add_zero,Nat.zero_add,Nat.sub_zero]

theorem Oz(s:ByteArray)(i:Nat)(w:World)(hT:LC w)(h:i<s.size):
  Calls Tryz.prog 73 #[.string (s.extract i s.size)] w fun e w'=>e=.returned (.tuple #[.int .i32 (Utf8.decode s i).1,.int .i64 (Utf8.decode s i).2])∧Below w.heap.size w w':=by
 refine(RY _ w hT).mono fun e w' hp=>?_;rw[Cn s i h]at hp;exact hp

theorem Co(s:ByteArray)(pos:Nat)(h:pos<s.size):(Utf8.decode s pos).2≤4:=by
 simp only[Utf8.decode]
 repeat' split
 all_goals simp_all

def qw(s:ByteArray)(w:World)(e:Ending)(w':World):Prop:=
 ∃v:Value,e=.returned (.tuple #[v,.int .i64 (JR (each s).2)])∧w'.ownsRow w.heap.size 92 2 v (each s).1.length (runeCells (each s).1)∧Below w.heap.size w w'∧((each s).1=[]→v=.slice none 0 0)
theorem Dp(s:ByteArray)(w:World)(hs:s.size≤100000)(hT:LC w):
  Calls Tryz.prog 47 #[.string s] w (qw s w):=by
 obtain⟨i0,hi,hz0,hz1,hz2⟩:=info_parts DJ
 go_enter Tryz.func47,Tryz.ntmps47
 go_wp2
 go_loopw [4,5] (fun v iv wr=> ∃(p f:Nat) (acc:List (Nat×Nat)),iv=.int .i64 p∧s.size≤p+f∧acc.length≤p∧p≤s.size∧
   acc++(Ub s f p).1=(each s).1∧(Ub s f p).2=(each s).2∧
   wr.ownsRow w.heap.size 92 2 v acc.length (runeCells acc)∧Below w.heap.size w wr∧(acc=[]→v=.slice none 0 0))
  (fun _ iv _=>s.size-(intOf iv).toNat)
 case atStart=>
  exact⟨0,s.size,[],rfl,by omega,by simp,by omega,rfl,rfl,World.ownsRow_nil _ _ _ _,Below.refl _ _,fun _=>rfl⟩
 case round=>
  obtain⟨p,f,acc,rfl,hf,hacc,hp,h1,h2,hown,hb,hnil⟩:=hrel;have HN:=Lib.hid hnil;clear hnil;have H1:=Lib.hid h1;have H2:=Lib.hid h2;clear h1 h2
  by_cases hlt:p<s.size
  ·obtain⟨f,rfl⟩: ∃f',f=f'+1:=⟨f-1,by omega⟩;have hw:=ZJ s p hlt;have hw4:=Co s p hlt;have hsz:=hb.size
   by_cases ho:(Utf8.decode s p).1=65533∧(Utf8.decode s p).2=1
   ·have HO:=Lib.hid ho
    have hb1:(((Utf8.decode s p).1:Int)==65533)=true:=by rw[ho.1];rfl
    have hb2:((Utf8.decode s p).2:Int)<2:=by omega
    clear ho
    go_wp2_with (go_at_call 73;refine(Oz s p _ (hT.below hb) hlt).mono ?_;rintro e w1 ⟨rfl,hb1⟩)
    go_ret2
    rw[Z4 s f p hlt HO.out]at H1 H2;exact⟨_,by rw[←H2.out];rfl,by rw[←H1.out];simpa using AR hown (by assumption),hb.trans ((by assumption:Below wr.heap.size wr _).mono hsz),fun e=>HN.out (by have:=H1.out;rw[List.append_nil]at this;rw[this];exact e)⟩
   ·have HO:=Lib.hid ho;clear ho
    go_wp2_with fail
    refine(Oz s p _ (hT.below hb) hlt).mono ?_
    rintro e w1 ⟨rfl,hb1⟩
    have hown1:=AR hown hb1;have hbw:=hb.trans (hb1.mono hsz);have hszw:=hbw.size;clear hown;have hr:=HO.out
    have hq:(((Utf8.decode s p).1:Int)==65533)=false∨((((Utf8.decode s p).1:Int)==65533)=true∧ ¬((Utf8.decode s p).2:Int)<2):=by
     by_cases e:(Utf8.decode s p).1=65533
     ·right;exact⟨by simp;omega,by omega⟩
     ·left;simp;omega
    clear hr;rcases hq with hq|⟨hq,hq2⟩
    all_goals
     go_wp2_with (at_builtin;go_must (refine wpList_append_own _ rfl _ _ 73 rfl w.heap.size 92 i0 _ 2 16 Tryz.underlying73 hi hz0 hz1 hz2 rfl Qz _ _ _ rfl (hown1.alloc _) ⟨w1.heap.size,0,none⟩ 1 1 [.int .i32 (Utf8.decode s p).1,.int .i64 p] rfl rfl (FH _ _ _ _ rfl) (by intro u hu;simp at hu;rcases hu with rfl|rfl<;>rfl) (by unfold maxLen;omega) Qq (by simp;omega) ?_);intro v' w2 hown2 hgrow2 _)
     have hbA:=Bd ((hbw.alloc Qq _)) (hown1.alloc _) hgrow2 (Nat.le_refl _) (by simp;omega);clear hgrow2 hown1
     go_wp2
     go_roundw
     case rel=>
      refine⟨p+(Utf8.decode s p).2,f,acc++[((Utf8.decode s p).1,p)],by go_num,by omega,by simp;omega,by omega,?_,?_,?_,hbA,fun e=>absurd e Q3⟩
      ·rw[←H1.out,UR s f p hlt HO.out];simp
      ·rw[←H2.out,UR s f p hlt HO.out]
      ·rw[←AM];simpa using hown2
     case measure=>simp[intOf];omega
  ·go_wp2
   go_ret2
   rw[Yk s f p hlt]at H1 H2;exact⟨_,by rw[←H2.out];rfl,by rw[←H1.out];simpa using hown,hb,fun e=>HN.out (by have:=H1.out;rw[List.append_nil]at this;rw[this];exact e)⟩
end
section
open Go Go.RowKit
variable {G:Env}

def US.cells(t:US):List AV:=[.int .i64 t.kind,.str (Y4 t.text),.int .i64 t.num,.int .i64 t.at']
def XW(x:Nat×Nat):List AV:=[.int .i32 x.1,.int .i64 x.2]
theorem qR(p:Uu)(l:List US):Q4 p (l.flatMap US.cells)=XU l:=by
 rw[U2,XU,List.map_flatMap]
 congr 1
 funext t
 simp[US.cells,Qm,Zv]
theorem Mk(p:Uu)(l:List (Nat×Nat)):Q4 p (l.flatMap XW)=runeCells l:=by
 rw[U2,runeCells,List.map_flatMap]
 congr 1
theorem qP(h:Hp)(l:List US):ZK h (l.flatMap US.cells)∧ ∀a∈l.flatMap US.cells,Jn a=true:=by
 refine⟨(Uz _ _).2 fun v hv=>?_,fun a ha=>?_⟩
 ·obtain⟨t,_,ht⟩:=List.mem_flatMap.1 hv;simp[US.cells]at ht;rcases ht with rfl|rfl|rfl|rfl
  ·trivial
  ·exact Xq _
  ·trivial
  ·trivial
 ·obtain⟨t,_,ht⟩:=List.mem_flatMap.1 ha;simp[US.cells]at ht
  rcases ht with rfl|rfl|rfl|rfl<;>rfl
theorem SK(h:Hp)(l:List (Nat×Nat)):ZK h (l.flatMap XW)∧ ∀a∈l.flatMap XW,Jn a=true:=by
 refine⟨(Uz _ _).2 fun v hv=>?_,fun a ha=>?_⟩
 ·obtain⟨t,_,ht⟩:=List.mem_flatMap.1 hv;simp[XW]at ht
  rcases ht with rfl|rfl<;>trivial
 ·obtain⟨t,_,ht⟩:=List.mem_flatMap.1 ha;simp[XW]at ht
  rcases ht with rfl|rfl<;>rfl

noncomputable section
def Iu:List AV→Option (List AV×Nat×List AV):=fun args=>match args with
 |[.str l]=>some ((tokens (bytesOf l)).1.flatMap US.cells,(tokens (bytesOf l)).1.length,[.int .i64 (tokens (bytesOf l)).2.1,.int .i64 (tokens (bytesOf l)).2.2])
 |_=>none
def Dd:List AV→Option (List AV×Nat×List AV):=fun args=>match args with
 |[.str l]=>Qs (Nat.ble l.length 100000) (some ((each (bytesOf l)).1.flatMap XW,(each (bytesOf l)).1.length,[.int .i64 (JR (each (bytesOf l)).2)])) none
 |_=>none
def B7:List AV→Option AV:=fun args=>match args with
 |[.int .i32 r]=>some (.int .i64 (QJ r))
 |_=>none
end
theorem Rb:OG Tryz.prog G 19 (EP 4 Iu):=by
 refine Gw (I:=fun _=>True) (el:=65) ⟨_,Tryz.func19,rfl,by decide⟩ Qz (fun _ _ _ _=>trivial) fun h args ls n rest hF hw=>?_;unfold Iu at hF
 split at hF
 ·rename_i l
  injection hF with hF
  injection hF with e1 hF
  injection hF with e2 e3
  subst e1 e2 e3;refine⟨(qP h _).1,⟨trivial,trivial,trivial⟩,(qP h _).2,fun p w _=>(Rc (bytesOf l) w).mono fun e w' he=>?_⟩;obtain⟨v,h1,h2,h3,h4⟩:=he;refine⟨v,h1,?_,h3,fun e=>h4 (List.length_eq_zero_iff.1 e)⟩;rw[qR];exact h2
 ·cases hF
theorem ys(hI:G.i=LC):OG Tryz.prog G 47 (EP 2 Dd):=by
 refine Gw (I:=LC) (el:=92) ⟨_,Tryz.func47,rfl,by decide⟩ Qz (fun w0 w h hb=>by rw[hI]at h;exact h.below hb) fun h args ls n rest hF hw=>?_;unfold Dd at hF
 split at hF
 ·rename_i l
  cases hl:Nat.ble l.length 100000 with
  |false=>rw[hl]at hF;cases hF
  |true=>
   rw[hl]at hF;have hl:=Nat.le_of_ble_eq_true hl
   injection hF with hF
   injection hF with e1 hF
   injection hF with e2 e3
   subst e1 e2 e3;refine⟨(SK h _).1,⟨trivial,trivial⟩,(SK h _).2,fun p w hT=>(Dp (bytesOf l) w (by rw[J7];exact hl) hT).mono fun e w' he=>?_⟩;obtain⟨v,h1,h2,h3,h4⟩:=he;refine⟨v,h1,?_,h3,fun e=>h4 (List.length_eq_zero_iff.1 e)⟩;rw[Mk];exact h2
 ·cases hF
theorem qf:OG Tryz.prog G 94 (zA B7):=by
 refine z8 (I:=fun _=>True) ⟨_,Tryz.func94,rfl,by decide⟩ (fun _ _ _ _=>trivial) fun h args v hF hw=>?_;unfold B7 at hF
 split at hF
 ·rename_i r
  injection hF with hF
  subst hF;refine⟨trivial,fun p w _=>(Mo r w).mono fun e w' he=>?_⟩;obtain⟨rfl,rfl⟩:=he;exact⟨rfl,Below.refl _ _⟩
 ·cases hF
end
section
open Go Go.RowKit
variable {L:List (Nat×Nat)} {c:Int} {j n:Nat}

def Hy(L:List (Nat×Nat))(n:Nat)(c:Int):Bool:=match L[n]? with
 |some x=>decide ((x.1:Int)=c)
 |none=>false
theorem Es{x:Nat×Nat}(h:L[n]? =some x):Hy L n c=decide ((x.1:Int)=c):=by simp[Hy,h]
theorem RO(h:L.length≤n):Hy L n c=false:=by simp[Hy,List.getElem?_eq_none h]
theorem Xj{x:Nat×Nat}(h:L[n]? =some x):Jo L n=QJ x.1:=by simp[Jo,h]
theorem O4(h:L.length≤n):Jo L n= -1:=by simp[Jo,List.getElem?_eq_none h]
theorem Hq{fin:Nat}{x:Nat×Nat}(h:L[n]? =some x):Q5 fin L n=x.2:=by simp[Q5,h]
theorem Zd{fin:Nat}(h:L.length≤n):Q5 fin L n=fin:=by simp[Q5,List.getElem?_eq_none h]
theorem BW(h:Hy L n c=true):n<L.length:=by
 refine Nat.lt_of_not_le fun hge=>?_;rw[RO hge]at h;cases h
theorem Fm(h:0≤Jo L n):n<L.length:=by
 refine Nat.lt_of_not_le fun hge=>?_;rw[O4 hge]at h;exact absurd h Qz
theorem ZU(h:n<L.length): ∃c a,L[n]? =some (c,a)∧L.drop n=(c,a)::L.drop (n+1):=⟨_,_,List.getElem?_eq_getElem h,Vi L n h⟩
def cG(b:Bool)(r:List (Nat×Nat)):Nat:=if b then J4 r else 0
theorem Cv{b:Bool}(h:b=false∨ ¬j<L.length∨Hy L j 10=true):cG b (L.drop j)=0:=by
 rcases h with rfl|h|h
 ·rfl
 ·rw[List.drop_eq_nil_of_le Qq];cases b<;>rfl
 ·obtain⟨c,a,h1,h2⟩:=ZU (BW h);rw[Es h1]at h;have h:=of_decide_eq_true h
  have h:c=10:=by simpa using Int.ofNat_inj.1 h
  rw[h2];cases b
  ·rfl
  ·show J4 _=0;rw[J4,if_pos h]
theorem fw(h1:j<L.length)(h2:Hy L j 10=false):cG true (L.drop j)=cG true (L.drop (j+1))+1:=by
 obtain⟨c,a,h3,h4⟩:=ZU h1;rw[Es h3]at h2;have h:=of_decide_eq_false h2;rw[h4];show J4 _=_;rw[J4,if_neg (fun e=>h (by subst e;rfl))];rfl
theorem Mb{c:Nat}(h:QJ (c:Int)=3):YE (c:Int)=true:=VB.1 h
theorem HP{k:Nat}(h:Jo L k=3∨Hy L k 35=true):QW false (L.drop k)=1+cG (Hy L k 35) (L.drop (k+1))+QW false (L.drop (k+1+cG (Hy L k 35) (L.drop (k+1)))):=by
 have hk:k<L.length:=by
  rcases h with h|h
  ·exact Fm Qq
  ·exact BW h
 obtain⟨c,a,h3,h4⟩:=ZU hk;rw[Es h3];rw[Xj h3,Es h3]at h;rw[h4,QW]
 by_cases h35:(c:Int)=35
 ·have hc:c=35:=by simpa using Int.ofNat_inj.1 h35
  subst hc;have hd:decide ((((35,a):Nat×Nat).1:Int)=35)=true:=rfl;rw[if_neg (by decide+kernel),if_pos rfl,Hd,hd,List.drop_drop];show J4 _+_+1=1+J4 _+QW false (L.drop (k+1+J4 (L.drop (k+1))));omega
 ·have hd:decide ((((c,a):Nat×Nat).1:Int)=35)=false:=decide_eq_false h35;rw[hd];rcases h with h|h
  ·have hs:=Mb h;have e:(if YE c=true then QW false (L.drop (k+1))+1 else if c=35 then QW true (L.drop (k+1))+1 else 0)=QW false (L.drop (k+1))+1:=if_pos hs;rw[e];show _=1+0+QW false (L.drop (k+1+0));rw[Nat.add_zero,Nat.add_zero,Nat.add_comm]
  ·rw[hd]at h;cases h
theorem yM{k:Nat}(h1:Jo L k≠3)(h2:Hy L k 35=false):QW false (L.drop k)=0:=by
 by_cases hk:k<L.length
 ·obtain⟨c,a,h3,h4⟩:=ZU hk;rw[Xj h3]at h1;rw[Es h3]at h2;have h2:=of_decide_eq_false h2;rw[h4,QW];have hs: ¬YE (c:Int)=true:=fun h=>h1 (VB.2 h)
  have e:(if YE c=true then QW false (L.drop (k+1))+1 else if c=35 then QW true (L.drop (k+1))+1 else 0)=if c=35 then QW true (L.drop (k+1))+1 else 0:=if_neg hs
  rw[e,if_neg fun e=>h2 (by subst e;rfl)]
 ·rw[List.drop_eq_nil_of_le Qq];rfl

theorem KF(h:Jo L j=1∨Jo L j=2∨Hy L j 39=true):j<L.length∧JM (L.drop j)=JM (L.drop (j+1))+1:=by
 have hj:j<L.length:=by
  rcases h with h|h|h
  ·exact Fm Qq
  ·exact Fm Qq
  ·exact BW h
 refine⟨hj,?_⟩;obtain⟨c,a,h3,h4⟩:=ZU hj;rw[Xj h3,Es h3]at h;rw[h4,JM,if_pos];rcases h with h|h|h
 ·simp[Zx,Fo.1 h]
 ·simp[Zx,YY.1 h]
 ·have:=of_decide_eq_true h;simp[Zx,this]
theorem D8(h1:Jo L j≠1)(h2:Jo L j≠2)(h3:Hy L j 39=false):JM (L.drop j)=0:=by
 by_cases hj:j<L.length
 ·obtain⟨c,a,h4,h5⟩:=ZU hj;rw[Xj h4]at h1 h2;rw[Es h4]at h3;have h3:=of_decide_eq_false h3;rw[h5,JM,if_neg];intro hm;unfold Zx at hm;simp only[Bool.or_eq_true,decide_eq_true_iff]at hm;rcases hm with(h|h)|h
  ·exact h1 (Fo.2 h)
  ·exact h2 (YY.2 h)
  ·exact h3 h
 ·rw[List.drop_eq_nil_of_le Qq];rfl

structure OI(h:Hp)(g:Nat)(l:List Nat)(ks:AV)(L:List (Nat×Nat))(bad:Option Nat)(n:Nat):Prop where
 row:Jh h g 0 [.str l,ks,.int .i64 (JR bad),.int .i64 (n:Nat)]
 run:QQ h [g] 2 (L.map XW) ks
 few:L.length≤100000
 le:n≤L.length
 size:l.length≤100000
 mono: ∀i j,i≤j→Q5 (Jq (bytesOf l) bad) L i≤Q5 (Jq (bytesOf l) bad) L j∧Q5 (Jq (bytesOf l) bad) L j≤l.length
theorem OI.next{h0 h:Hp}{g:Nat}{l:List Nat}{ks:AV}{bad:Option Nat}{n':Nat}(H:OI h0 g l ks L bad n)(hr:Jh h g 0 [.str l,ks,.int .i64 (JR bad),.int .i64 (n':Nat)])(hk:QQ h [g] 2 (L.map XW) ks)(hn:n'≤L.length):OI h g l ks L bad n':=⟨hr,hk,H.few,hn,H.size,H.mono⟩
theorem Kh{bad:Option Nat}(h:0≤JR bad): ∃q,bad=some q:=by
 cases bad with
 |none=>exact absurd h Qz
 |some q=>exact⟨q,rfl⟩
theorem Ki{bad:Option Nat}(h: ¬0≤JR bad):bad=none:=by
 cases bad with
 |none=>rfl
 |some q=>exact absurd (Int.natCast_nonneg q) h
theorem Wl:(L.map XW).length=L.length:=by simp
theorem B8{c a:Nat}(h:L[n]? =some (c,a)):(L.map XW)[n]? =some [.int .i32 (c:Int),.int .i64 (a:Int)]:=by rw[List.getElem?_map,h];rfl

def VT:List (List Nat):=[[116,114,117,101],[102,97,108,115,101],[101,120,48],[101,120,49],[101,120,50],[97,108,108,48],[97,108,108,49],[97,108,108,50],[118,97,114,48],[118,97,114,49],[118,97,114,50],[112,114,101,100],[105,110],[110,111,116,105,110],[115,117,98],[117,110,105,111,110],[105,110,116,101,114]]
def Xt:List (List Nat):=[[60,61,62],[61,62],[60,61],[126,61],[61],[126],[60],[38],[124],[40],[41],[123],[125],[44],[59],[58],[43],[92]]
theorem TS:ZM.map Y4=VT:=by decide+kernel
theorem Mf:ZZ.map Y4=Xt:=by decide+kernel
theorem Ri{a b:ByteArray}(h:Y4 a=Y4 b):a=b:=by rw[←Zv a,h,Zv]
theorem TP(s:ByteArray):Zg ZM s=VT.contains (Y4 s):=by
 rw[←TS,Bool.eq_iff_iff,RP,List.contains_iff_mem,List.mem_map];exact⟨fun h=>⟨s,h,rfl⟩,fun⟨a,h,e⟩=>Ri e▸h⟩
def Vx:List (Nat×Nat)→List Nat→Bool
 |_,[]=>true
 |[],_::_=>false
 |(c,_)::r,b::l=>decide (c=b)&&Vx r l
theorem yd(l:List UInt8): ∀r,Vx r (l.map UInt8.toNat)=ZB r l:=by
 induction l with
 |nil=>intro r;cases r<;>rfl
 |cons b l ih=>
  intro r
  cases r with
  |nil=>rfl
  |cons x r=>obtain⟨c,a⟩:=x;rw[List.map_cons,Vx,ZB,ih]
def G0(r:List (Nat×Nat)):Option (List Nat):=Xt.find? fun w=>Vx r w
theorem jk(r:List (Nat×Nat)):G0 r=(VW r).map Y4:=by
 unfold G0 VW;rw[←Mf,List.find?_map]
 congr 1
 congr 1
 funext sg
 exact yd _ r
end
section
open Go

noncomputable section

def Tn(l:List (FuncId×TypeId×TypeId))(f:FuncId):Option (TypeId×TypeId):=List.rec none (fun q _ ih=>Qs (Nat.beq f q.1) (some q.2) ih) l
theorem GR{l:List (FuncId×TypeId×TypeId)}{f:FuncId}{q:TypeId×TypeId}(h:Tn l f=some q):(f,q)∈l:=by
 induction l with
 |nil=>cases h
 |cons x l ih=>
  have h:Qs (Nat.beq f x.1) (some x.2) (Tn l f)=some q:=h
  cases hb:Nat.beq f x.1 with
  |true=>
   rw[hb]at h
   injection h with h
   subst h;rw[Nat.eq_of_beq_eq_true hb];exact List.mem_cons_self ..
  |false=>rw[hb]at h;exact List.mem_cons_of_mem _ (ih h)
def TF:List (FuncId×TypeId×TypeId):=
 []
theorem P7: ∀x∈TF,Sx Tryz.prog x.2 x.1:=by
 intro x hx;unfold TF at hx;cases hx
def fj:Env:=⟨fun _=>false,Tn TF,fun _=>none,fun _=>True⟩
theorem xF:L8 Tryz.prog fj:=⟨fun f q h=>P7 (f,q) (GR h),fun f sm h=>(nomatch h)⟩
end
theorem mixed:Tryz.prog.follows .mixedOrders=true:=by decide+kernel

end
end Go.Proofs.YtmgkfceomhagaaaGreatDoor
