/-
  'unicode/utf8.DecodeRuneInString' of this program, by the library's contract: the numbers of this program put in.
-/
import Derived.Shelf.Unicode.DecodeAny
import Derived.Lib.LaidU8
import Derived.PinnedBridge
import Derived.Test.YtadjjadimlkkgaaGreatDoorLoLexT
import Derived.Shelf.Sort.Plain
import Derived.Shelf.Slices.CompactS
import Derived.Shelf.Slices.In.SortNone
set_option maxRecDepth 1000000
set_option linter.unusedSimpArgs false
set_option linter.unusedVariables false
section
namespace Go.Proofs.YtadjjadimlkkgaaGreatDoor
open Go Go.RowKit Go.Shelf

def xZ:Ren:=⟨
 fun n=>if n=197 then 132 else if n=260 then 190 else 0,
 fun n=>if n=0 then 0 else if n=3 then 3 else if n=4 then 4 else if n=5 then 5 else if n=9 then 9 else if n=21 then 21 else if n=46 then 134
  else if n=105 then 151 else if n=119 then 225 else if n=138 then 227 else if n=139 then 228 else 0,
 fun n=>if n=3 then 0 else if n=4 then 1 else 0⟩

set_option maxRecDepth 100000 in
theorem xl:Lays.n197 Tryz.prog xZ:={
 mixed:=by kernel_rfl
 f197:=by kernel_rfl
 f260:=by kernel_rfl
 t0:=by kernel_rfl
 a0:=fun _=>by kernel_rfl
 z0:=fun _=>by kernel_rfl
 v0:=fun _=>by kernel_rfl
 t3:=by kernel_rfl
 a3:=fun _=>by kernel_rfl
 z3:=fun _=>by kernel_rfl
 v3:=fun _=>by kernel_rfl
 t4:=by kernel_rfl
 a4:=fun _=>by kernel_rfl
 z4:=fun _=>by kernel_rfl
 v4:=fun _=>by kernel_rfl
 t5:=by kernel_rfl
 a5:=fun _=>by kernel_rfl
 z5:=fun _=>by kernel_rfl
 v5:=fun _=>by kernel_rfl
 t9:=by kernel_rfl
 a9:=fun _=>by kernel_rfl
 z9:=fun _=>by kernel_rfl
 v9:=fun _=>by kernel_rfl
 t21:=by kernel_rfl
 a21:=fun _=>by kernel_rfl
 z21:=fun _=>by kernel_rfl
 v21:=fun _=>by kernel_rfl
 t46:=by kernel_rfl
 a46:=fun _=>by kernel_rfl
 z46:=fun _=>by kernel_rfl
 v46:=fun _=>by kernel_rfl
 t105:=by kernel_rfl
 a105:=fun _=>by kernel_rfl
 z105:=fun _=>by kernel_rfl
 v105:=fun _=>by kernel_rfl
 t119:=by kernel_rfl
 a119:=fun _=>by kernel_rfl
 z119:=fun _=>by kernel_rfl
 t138:=by kernel_rfl
 a138:=fun _=>by kernel_rfl
 z138:=fun _=>by kernel_rfl
 v138:=fun _=>by kernel_rfl
 t139:=by kernel_rfl
 a139:=fun _=>by kernel_rfl
 z139:=fun _=>by kernel_rfl
 v139:=fun _=>by kernel_rfl
 g3:=by kernel_rfl
 g4:=by kernel_rfl}

theorem extra:U8Extra Tryz.prog xZ:=⟨by kernel_rfl,by kernel_rfl,by kernel_rfl,by kernel_rfl,by kernel_rfl,by kernel_rfl,by kernel_rfl⟩

def Lw(w:World):Prop:=Lib.Utf8Tabs 0 1 w

theorem P3(s:ByteArray)(w:World)(hT:Lw w):
  Calls Tryz.prog 132 #[.string s] w fun e w'=>e=.returned (.tuple #[.int .i32 (Lib.decodeGo s).1,.int .i64 (Lib.decodeGo s).2])∧Below w.heap.size w w':=
 Any.utf8_DecodeRuneInString xl s w hT

theorem jL{w:World}(h3:Lib.VarReads Tryz.prog w "unicode/utf8.first" Go.Pinned.utf8First)(h4:Lib.VarReads Tryz.prog w "unicode/utf8.acceptRanges" Lib.acceptData):Lw w:=
 utf8Tabs_of_reads {xl with} extra (Pinned.utf8First_eq▸h3) h4
theorem Lw.below{w w':World}(h:Lw w)(hb:Below w.heap.size w w'):Lw w':=Utf8Tabs_below h hb

end Go.Proofs.YtadjjadimlkkgaaGreatDoor
end
section
namespace Go.Proofs.YtadjjadimlkkgaaGreatDoor
open Go Go.RowKit

theorem C9(s:ByteArray)(i k:Nat)(h:i≤s.size):(s.extract i s.size).get! k=s.get! (i+k):=by
 have hz:(s.extract i s.size).size=s.size-i:=by simp
 rcases Nat.lt_or_ge (i+k) s.size with hk|hk
 ·rw[get_eq _ _ (by omega),get_eq _ _ hk];simp[ByteArray.data_extract]
 ·have e1:(s.extract i s.size).get! k=default:=by
   simp only[ByteArray.get!];rw[getElem!_neg];exact(by rw[←ByteArray.size_data]at hz;omega: ¬k<(s.extract i s.size).data.size)
  have e2:s.get! (i+k)=default:=by
   simp only[ByteArray.get!];rw[getElem!_neg];exact(by rw[←ByteArray.size_data]at hk;omega: ¬i+k<s.data.size)
  rw[e1,e2]

theorem Bn(s:ByteArray)(i:Nat)(h:i<s.size):Lib.decodeGo (s.extract i s.size)=Utf8.decode s i:=by
 have hz:(s.extract i s.size).size=s.size-i:=by simp
 unfold Lib.decodeGo;rw[if_neg (by omega),Lib.decode_at,Lib.decode_at,hz];simp only[C9 s i _ (Nat.le_of_lt h),Nat.add_zero,Nat.zero_add,Nat.sub_zero]

theorem NP(s:ByteArray)(i:Nat)(w:World)(hT:Lw w)(h:i<s.size):
  Calls Tryz.prog 132 #[.string (s.extract i s.size)] w fun e w'=>e=.returned (.tuple #[.int .i32 (Utf8.decode s i).1,.int .i64 (Utf8.decode s i).2])∧Below w.heap.size w w':=by
 refine(P3 _ w hT).mono fun e w' hp=>?_;rw[Bn s i h]at hp;exact hp

theorem Bo(s:ByteArray)(pos:Nat)(h:pos<s.size):(Utf8.decode s pos).2≤4:=by
 simp only[Utf8.decode]
 repeat' split
 all_goals simp_all

def T9(s:ByteArray)(w:World)(e:Ending)(w':World):Prop:=
 ∃v:Value,e=.returned (.tuple #[v,.int .i64 (JE (each s).2)])∧w'.ownsRow w.heap.size 154 2 v (each s).1.length (runeCells (each s).1)∧Below w.heap.size w w'∧((each s).1=[]→v=.slice none 0 0)
theorem BX(s:ByteArray)(w:World)(hs:s.size≤100000)(hT:Lw w):
  Calls Tryz.prog 76 #[.string s] w (T9 s w):=by
 obtain⟨i0,hi,hz0,hz1,hz2⟩:=info_parts C5
 go_enter Tryz.func76,Tryz.ntmps76
 go_wp2
 go_loopw [4,5] (fun v iv wr=> ∃(p f:Nat) (acc:List (Nat×Nat)),iv=.int .i64 p∧s.size≤p+f∧acc.length≤p∧p≤s.size∧
   acc++(Yu s f p).1=(each s).1∧(Yu s f p).2=(each s).2∧
   wr.ownsRow w.heap.size 154 2 v acc.length (runeCells acc)∧Below w.heap.size w wr∧(acc=[]→v=.slice none 0 0))
  (fun _ iv _=>s.size-(intOf iv).toNat)
 case atStart=>
  exact⟨0,s.size,[],rfl,by omega,by simp,by omega,rfl,rfl,World.ownsRow_nil _ _ _ _,Below.refl _ _,fun _=>rfl⟩
 case round=>
  obtain⟨p,f,acc,rfl,hf,hacc,hp,h1,h2,hown,hb,hnil⟩:=hrel;have HN:=Lib.hid hnil;clear hnil;have H1:=Lib.hid h1;have H2:=Lib.hid h2;clear h1 h2
  by_cases hlt:p<s.size
  ·obtain⟨f,rfl⟩: ∃f',f=f'+1:=⟨f-1,by omega⟩;have hw:=V5 s p hlt;have hw4:=Bo s p hlt;have hsz:=hb.size
   by_cases ho:(Utf8.decode s p).1=65533∧(Utf8.decode s p).2=1
   ·have HO:=Lib.hid ho
    have hb1:(((Utf8.decode s p).1:Int)==65533)=true:=by rw[ho.1];rfl
    have hb2:((Utf8.decode s p).2:Int)<2:=by omega
    clear ho
    go_wp2_with (go_at_call 132;refine(NP s p _ (hT.below hb) hlt).mono ?_;rintro e w1 ⟨rfl,hb1⟩)
    go_ret2
    rw[AI s f p hlt HO.out]at H1 H2;exact⟨_,by rw[←H2.out];rfl,by rw[←H1.out];simpa using Fl hown (by assumption),hb.trans ((by assumption:Below wr.heap.size wr _).mono hsz),fun e=>HN.out (by have:=H1.out;rw[List.append_nil]at this;rw[this];exact e)⟩
   ·have HO:=Lib.hid ho;clear ho
    go_wp2_with fail
    refine(NP s p _ (hT.below hb) hlt).mono ?_
    rintro e w1 ⟨rfl,hb1⟩
    have hown1:=Fl hown hb1;have hbw:=hb.trans (hb1.mono hsz);have hszw:=hbw.size;clear hown;have hr:=HO.out
    have hq:(((Utf8.decode s p).1:Int)==65533)=false∨((((Utf8.decode s p).1:Int)==65533)=true∧ ¬((Utf8.decode s p).2:Int)<2):=by
     by_cases e:(Utf8.decode s p).1=65533
     ·right;exact⟨by simp;omega,by omega⟩
     ·left;simp;omega
    clear hr;rcases hq with hq|⟨hq,hq2⟩
    all_goals
     go_wp2_with (at_builtin;go_must (refine wpList_append_own _ rfl _ _ 116 rfl w.heap.size 154 i0 _ 2 16 Tryz.underlying116 hi hz0 hz1 hz2 rfl (by decide) _ _ _ rfl (hown1.alloc _) ⟨w1.heap.size,0,none⟩ 1 1 [.int .i32 (Utf8.decode s p).1,.int .i64 p] rfl rfl (FX _ _ _ _ rfl) (by intro u hu;simp at hu;rcases hu with rfl|rfl<;>rfl) (by unfold maxLen;omega) (by omega) (by simp;omega) ?_);intro v' w2 hown2 hgrow2 _)
     have hbA:=Gx ((hbw.alloc (by omega) _)) (hown1.alloc _) hgrow2 (Nat.le_refl _) (by simp;omega);clear hgrow2 hown1
     go_wp2
     go_roundw
     case rel=>
      refine⟨p+(Utf8.decode s p).2,f,acc++[((Utf8.decode s p).1,p)],by go_num,by omega,by simp;omega,by omega,?_,?_,?_,hbA,fun e=>absurd e (by simp)⟩
      ·rw[←H1.out,XQ s f p hlt HO.out];simp
      ·rw[←H2.out,XQ s f p hlt HO.out]
      ·rw[←Fe];simpa using hown2
     case measure=>simp[intOf];omega
  ·go_wp2
   go_ret2
   rw[WY s f p hlt]at H1 H2;exact⟨_,by rw[←H2.out];rfl,by rw[←H1.out];simpa using hown,hb,fun e=>HN.out (by have:=H1.out;rw[List.append_nil]at this;rw[this];exact e)⟩
end Go.Proofs.YtadjjadimlkkgaaGreatDoor
end
section
namespace Go.Proofs.YtadjjadimlkkgaaGreatDoor
open Go Go.RowKit

def Yw.cells(t:Yw):List AV:=[.int .i64 t.kind,.str (UO t.text),.int .i64 t.num,.int .i64 t.at']
def Vc(x:Nat×Nat):List AV:=[.int .i32 x.1,.int .i64 x.2]
theorem TQ(p:JJ)(l:List Yw):Q7 p (l.flatMap Yw.cells)=XV l:=by
 rw[U3,XV,List.map_flatMap]
 congr 1
 funext t
 simp[Yw.cells,Ql,YB]
theorem Sh(p:JJ)(l:List (Nat×Nat)):Q7 p (l.flatMap Vc)=runeCells l:=by
 rw[U3,runeCells,List.map_flatMap]
 congr 1
theorem TO(h:Hp)(l:List Yw):ZL h (l.flatMap Yw.cells)∧ ∀a∈l.flatMap Yw.cells,Jy a=true:=by
 refine⟨(Yl _ _).2 fun v hv=>?_,fun a ha=>?_⟩
 ·obtain⟨t,_,ht⟩:=List.mem_flatMap.1 hv;simp[Yw.cells]at ht;rcases ht with rfl|rfl|rfl|rfl
  ·trivial
  ·exact Zy _
  ·trivial
  ·trivial
 ·obtain⟨t,_,ht⟩:=List.mem_flatMap.1 ha;simp[Yw.cells]at ht
  rcases ht with rfl|rfl|rfl|rfl<;>rfl
theorem Rm(h:Hp)(l:List (Nat×Nat)):ZL h (l.flatMap Vc)∧ ∀a∈l.flatMap Vc,Jy a=true:=by
 refine⟨(Yl _ _).2 fun v hv=>?_,fun a ha=>?_⟩
 ·obtain⟨t,_,ht⟩:=List.mem_flatMap.1 hv;simp[Vc]at ht
  rcases ht with rfl|rfl<;>trivial
 ·obtain⟨t,_,ht⟩:=List.mem_flatMap.1 ha;simp[Vc]at ht
  rcases ht with rfl|rfl<;>rfl

noncomputable section
def I5:List AV→Option (List AV×Nat×List AV):=fun args=>match args with
 |[.str l]=>some ((tokens (bytesOf l)).1.flatMap Yw.cells,(tokens (bytesOf l)).1.length,[.int .i64 (tokens (bytesOf l)).2.1,.int .i64 (tokens (bytesOf l)).2.2])
 |_=>none
def BS:List AV→Option (List AV×Nat×List AV):=fun args=>match args with
 |[.str l]=>Qu (Nat.ble l.length 100000) (some ((each (bytesOf l)).1.flatMap Vc,(each (bytesOf l)).1.length,[.int .i64 (JE (each (bytesOf l)).2)])) none
 |_=>none
def GI:List AV→Option AV:=fun args=>match args with
 |[.int .i32 r]=>some (.int .i64 (QW r))
 |_=>none
end
theorem D5{G:Env}:Ke Tryz.prog G 72 (Ap 4 I5):=by
 refine OK (I:=fun _=>True) (el:=75) ⟨_,Tryz.func72,rfl,by decide⟩ (by decide) (fun _ _ _ _=>trivial) fun h args ls n rest hF hw=>?_;unfold I5 at hF
 split at hF
 ·rename_i l
  injection hF with hF
  injection hF with e1 hF
  injection hF with e2 e3
  subst e1 e2 e3;refine⟨(TO h _).1,⟨trivial,trivial,trivial⟩,(TO h _).2,fun p w _=>(D6 (bytesOf l) w).mono fun e w' he=>?_⟩;obtain⟨v,h1,h2,h3,h4⟩:=he;refine⟨v,h1,?_,h3,fun e=>h4 (List.length_eq_zero_iff.1 e)⟩;rw[TQ];exact h2
 ·cases hF
theorem qL{G:Env}(hI:G.i=Lw):Ke Tryz.prog G 76 (Ap 2 BS):=by
 refine OK (I:=Lw) (el:=154) ⟨_,Tryz.func76,rfl,by decide⟩ (by decide) (fun w0 w h hb=>by rw[hI]at h;exact h.below hb) fun h args ls n rest hF hw=>?_;unfold BS at hF
 split at hF
 ·rename_i l
  cases hl:Nat.ble l.length 100000 with
  |false=>rw[hl]at hF;cases hF
  |true=>
   rw[hl]at hF;have hl:=Nat.le_of_ble_eq_true hl
   injection hF with hF
   injection hF with e1 hF
   injection hF with e2 e3
   subst e1 e2 e3;refine⟨(Rm h _).1,⟨trivial,trivial⟩,(Rm h _).2,fun p w hT=>(BX (bytesOf l) w (by rw[J9];exact hl) hT).mono fun e w' he=>?_⟩;obtain⟨v,h1,h2,h3,h4⟩:=he;refine⟨v,h1,?_,h3,fun e=>h4 (List.length_eq_zero_iff.1 e)⟩;rw[Sh];exact h2
 ·cases hF
theorem Tn{G:Env}:Ke Tryz.prog G 191 (jS GI):=by
 refine jR (I:=fun _=>True) ⟨_,Tryz.func191,rfl,by decide⟩ (fun _ _ _ _=>trivial) fun h args v hF hw=>?_;unfold GI at hF
 split at hF
 ·rename_i r
  injection hF with hF
  subst hF;refine⟨trivial,fun p w _=>(Sj r w).mono fun e w' he=>?_⟩;obtain⟨rfl,rfl⟩:=he;exact⟨rfl,Below.refl _ _⟩
 ·cases hF
end Go.Proofs.YtadjjadimlkkgaaGreatDoor
end
section
namespace Go.Proofs.YtadjjadimlkkgaaGreatDoor
open Go Go.RowKit

def Ia(L:List (Nat×Nat))(n:Nat)(c:Int):Bool:=match L[n]? with
 |some x=>decide ((x.1:Int)=c)
 |none=>false
theorem E2{L:List (Nat×Nat)}{n:Nat}{x:Nat×Nat}{c:Int}(h:L[n]? =some x):Ia L n c=decide ((x.1:Int)=c):=by simp[Ia,h]
theorem Pm{L:List (Nat×Nat)}{n:Nat}{c:Int}(h:L.length≤n):Ia L n c=false:=by simp[Ia,List.getElem?_eq_none h]
theorem Xd{L:List (Nat×Nat)}{n:Nat}{x:Nat×Nat}(h:L[n]? =some x):Jr L n=QW x.1:=by simp[Jr,h]
theorem NS{L:List (Nat×Nat)}{n:Nat}(h:L.length≤n):Jr L n= -1:=by simp[Jr,List.getElem?_eq_none h]
theorem H9{fin:Nat}{L:List (Nat×Nat)}{n:Nat}{x:Nat×Nat}(h:L[n]? =some x):QK fin L n=x.2:=by simp[QK,h]
theorem Za{fin:Nat}{L:List (Nat×Nat)}{n:Nat}(h:L.length≤n):QK fin L n=fin:=by simp[QK,List.getElem?_eq_none h]
theorem Be{L:List (Nat×Nat)}{n:Nat}{c:Int}(h:Ia L n c=true):n<L.length:=by
 refine Nat.lt_of_not_le fun hge=>?_;rw[Pm hge]at h;cases h
theorem F4{L:List (Nat×Nat)}{n:Nat}(h:0≤Jr L n):n<L.length:=by
 refine Nat.lt_of_not_le fun hge=>?_;rw[NS hge]at h;exact absurd h (by decide)
theorem ZG{L:List (Nat×Nat)}{n:Nat}(h:n<L.length): ∃c a,L[n]? =some (c,a)∧L.drop n=(c,a)::L.drop (n+1):=⟨_,_,List.getElem?_eq_getElem h,Vk L n h⟩
def cG(b:Bool)(r:List (Nat×Nat)):Nat:=if b then JB r else 0
theorem Bv{b:Bool}{L:List (Nat×Nat)}{j:Nat}(h:b=false∨ ¬j<L.length∨Ia L j 10=true):cG b (L.drop j)=0:=by
 rcases h with rfl|h|h
 ·rfl
 ·rw[List.drop_eq_nil_of_le (by omega)];cases b<;>rfl
 ·obtain⟨c,a,h1,h2⟩:=ZG (Be h);rw[E2 h1]at h;have h:=of_decide_eq_true h
  have h:c=10:=by simpa using Int.ofNat_inj.1 h
  rw[h2];cases b
  ·rfl
  ·show JB _=0;rw[JB,if_pos h]
theorem xr{L:List (Nat×Nat)}{j:Nat}(h1:j<L.length)(h2:Ia L j 10=false):cG true (L.drop j)=cG true (L.drop (j+1))+1:=by
 obtain⟨c,a,h3,h4⟩:=ZG h1;rw[E2 h3]at h2;have h:=of_decide_eq_false h2;rw[h4];show JB _=_;rw[JB,if_neg (fun e=>h (by subst e;rfl))];rfl
theorem RX{c:Nat}(h:QW (c:Int)=3):Xp (c:Int)=true:=VG.1 h
theorem Ip{L:List (Nat×Nat)}{k:Nat}(h:Jr L k=3∨Ia L k 35=true):Jl false (L.drop k)=1+cG (Ia L k 35) (L.drop (k+1))+Jl false (L.drop (k+1+cG (Ia L k 35) (L.drop (k+1)))):=by
 have hk:k<L.length:=by
  rcases h with h|h
  ·exact F4 (by omega)
  ·exact Be h
 obtain⟨c,a,h3,h4⟩:=ZG hk;rw[E2 h3];rw[Xd h3,E2 h3]at h;rw[h4,Jl]
 by_cases h35:(c:Int)=35
 ·have hc:c=35:=by simpa using Int.ofNat_inj.1 h35
  subst hc;have hd:decide ((((35,a):Nat×Nat).1:Int)=35)=true:=rfl;rw[if_neg (by decide+kernel),if_pos rfl,Hz,hd,List.drop_drop];show JB _+_+1=1+JB _+Jl false (L.drop (k+1+JB (L.drop (k+1))));omega
 ·have hd:decide ((((c,a):Nat×Nat).1:Int)=35)=false:=decide_eq_false h35;rw[hd];rcases h with h|h
  ·have hs:=RX h;have e:(if Xp c=true then Jl false (L.drop (k+1))+1 else if c=35 then Jl true (L.drop (k+1))+1 else 0)=Jl false (L.drop (k+1))+1:=if_pos hs;rw[e];show _=1+0+Jl false (L.drop (k+1+0));rw[Nat.add_zero,Nat.add_zero,Nat.add_comm]
  ·rw[hd]at h;cases h
theorem jg{L:List (Nat×Nat)}{k:Nat}(h1:Jr L k≠3)(h2:Ia L k 35=false):Jl false (L.drop k)=0:=by
 by_cases hk:k<L.length
 ·obtain⟨c,a,h3,h4⟩:=ZG hk;rw[Xd h3]at h1;rw[E2 h3]at h2;have h2:=of_decide_eq_false h2;rw[h4,Jl];have hs: ¬Xp (c:Int)=true:=fun h=>h1 (VG.2 h)
  have e:(if Xp c=true then Jl false (L.drop (k+1))+1 else if c=35 then Jl true (L.drop (k+1))+1 else 0)=if c=35 then Jl true (L.drop (k+1))+1 else 0:=if_neg hs
  rw[e,if_neg fun e=>h2 (by subst e;rfl)]
 ·rw[List.drop_eq_nil_of_le (by omega)];rfl

theorem Kv{L:List (Nat×Nat)}{j:Nat}(h:Jr L j=1∨Jr L j=2∨Ia L j 39=true):j<L.length∧Uy (L.drop j)=Uy (L.drop (j+1))+1:=by
 have hj:j<L.length:=by
  rcases h with h|h|h
  ·exact F4 (by omega)
  ·exact F4 (by omega)
  ·exact Be h
 refine⟨hj,?_⟩;obtain⟨c,a,h3,h4⟩:=ZG hj;rw[Xd h3,E2 h3]at h;rw[h4,Uy,if_pos];rcases h with h|h|h
 ·simp[WM,F5.1 h]
 ·simp[WM,Zo.1 h]
 ·have:=of_decide_eq_true h;simp[WM,this]
theorem Cm{L:List (Nat×Nat)}{j:Nat}(h1:Jr L j≠1)(h2:Jr L j≠2)(h3:Ia L j 39=false):Uy (L.drop j)=0:=by
 by_cases hj:j<L.length
 ·obtain⟨c,a,h4,h5⟩:=ZG hj;rw[Xd h4]at h1 h2;rw[E2 h4]at h3;have h3:=of_decide_eq_false h3;rw[h5,Uy,if_neg];intro hm;unfold WM at hm;simp only[Bool.or_eq_true,decide_eq_true_iff]at hm;rcases hm with(h|h)|h
  ·exact h1 (F5.2 h)
  ·exact h2 (Zo.2 h)
  ·exact h3 h
 ·rw[List.drop_eq_nil_of_le (by omega)];rfl

structure Oh(h:Hp)(g:Nat)(l:List Nat)(ks:AV)(L:List (Nat×Nat))(bad:Option Nat)(n:Nat):Prop where
 row:JA h g 0 [.str l,ks,.int .i64 (JE bad),.int .i64 ((n:Nat):Int)]
 run:J1 h [g] 2 (L.map Vc) ks
 few:L.length≤100000
 le:n≤L.length
 size:l.length≤100000
 mono: ∀i j,i≤j→QK (Jx (bytesOf l) bad) L i≤QK (Jx (bytesOf l) bad) L j∧QK (Jx (bytesOf l) bad) L j≤l.length
theorem Oh.next{h0 h:Hp}{g:Nat}{l:List Nat}{ks:AV}{L:List (Nat×Nat)}{bad:Option Nat}{n n':Nat}(H:Oh h0 g l ks L bad n)(hr:JA h g 0 [.str l,ks,.int .i64 (JE bad),.int .i64 ((n':Nat):Int)])(hk:J1 h [g] 2 (L.map Vc) ks)(hn:n'≤L.length):Oh h g l ks L bad n':=⟨hr,hk,H.few,hn,H.size,H.mono⟩
theorem IX{bad:Option Nat}(h:0≤JE bad): ∃q,bad=some q:=by
 cases bad with
 |none=>exact absurd h (by decide)
 |some q=>exact⟨q,rfl⟩
theorem IY{bad:Option Nat}(h: ¬0≤JE bad):bad=none:=by
 cases bad with
 |none=>rfl
 |some q=>exact absurd (Int.natCast_nonneg q) h
theorem Wq{L:List (Nat×Nat)}:(L.map Vc).length=L.length:=by simp
theorem GJ{L:List (Nat×Nat)}{n:Nat}{c a:Nat}(h:L[n]? =some (c,a)):(L.map Vc)[n]? =some [.int .i32 (c:Int),.int .i64 (a:Int)]:=by rw[List.getElem?_map,h];rfl

def VX:List (List Nat):=[[116,114,117,101],[102,97,108,115,101],[101,120,48],[101,120,49],[101,120,50],[97,108,108,48],[97,108,108,49],[97,108,108,50],[118,97,114,48],[118,97,114,49],[118,97,114,50],[112,114,101,100],[105,110],[110,111,116,105,110],[115,117,98],[117,110,105,111,110],[105,110,116,101,114]]
def Xq:List (List Nat):=[[60,61,62],[61,62],[60,61],[126,61],[61],[126],[60],[38],[124],[40],[41],[123],[125],[44],[59],[58],[43],[92]]
theorem RN:Ai.map UO=VX:=by decide+kernel
theorem Sb:X7.map UO=Xq:=by decide+kernel
theorem DA{a b:ByteArray}(h:UO a=UO b):a=b:=by rw[←YB a,h,YB]
theorem RL(s:ByteArray):We Ai s=VX.contains (UO s):=by
 rw[←RN,Bool.eq_iff_iff,Pq,List.contains_iff_mem,List.mem_map];exact⟨fun h=>⟨s,h,rfl⟩,fun⟨a,h,e⟩=>DA e▸h⟩
def Vv:List (Nat×Nat)→List Nat→Bool
 |_,[]=>true
 |[],_::_=>false
 |(c,_)::r,b::l=>decide (c=b)&&Vv r l
theorem qB(l:List UInt8): ∀r,Vv r (l.map UInt8.toNat)=Er r l:=by
 induction l with
 |nil=>intro r;cases r<;>rfl
 |cons b l ih=>
  intro r
  cases r with
  |nil=>rfl
  |cons x r=>obtain⟨c,a⟩:=x;rw[List.map_cons,Vv,Er,ih]
def OO(r:List (Nat×Nat)):Option (List Nat):=Xq.find? fun w=>Vv r w
theorem Mo(r:List (Nat×Nat)):OO r=(WC r).map UO:=by
 unfold OO WC;rw[←Sb,List.find?_map]
 congr 1
 congr 1
 funext sg
 exact qB _ r
end Go.Proofs.YtadjjadimlkkgaaGreatDoor
end
section
namespace Go.Proofs.YtadjjadimlkkgaaGreatDoor
open Go

noncomputable section

def R2(l:List (FuncId×TypeId×TypeId))(f:FuncId):Option (TypeId×TypeId):=List.rec none (fun q _ ih=>Qu (Nat.beq f q.1) (some q.2) ih) l
theorem Gm{l:List (FuncId×TypeId×TypeId)}{f:FuncId}{q:TypeId×TypeId}(h:R2 l f=some q):(f,q)∈l:=by
 induction l with
 |nil=>cases h
 |cons x l ih=>
  have h:Qu (Nat.beq f x.1) (some x.2) (R2 l f)=some q:=h
  cases hb:Nat.beq f x.1 with
  |true=>
   rw[hb]at h
   injection h with h
   subst h;rw[Nat.eq_of_beq_eq_true hb];exact List.mem_cons_self ..
  |false=>rw[hb]at h;exact List.mem_cons_of_mem _ (ih h)
def RF:List (FuncId×TypeId×TypeId):=
 (195,22,102)::
 (210,41,9)::
 (218,190,198)::
 []
theorem Di: ∀x∈RF,PO Tryz.prog x.2 x.1:=by
 intro x hx;unfold RF at hx;rcases List.mem_cons.1 hx with rfl|hx
 ·exact⟨3,4,207,0,_,Tryz.func195,rfl,rfl,rfl,by decide+kernel⟩
 rcases List.mem_cons.1 hx with rfl|hx
 ·exact⟨3,4,216,0,_,Tryz.func210,rfl,rfl,rfl,by decide+kernel⟩
 rcases List.mem_cons.1 hx with rfl|hx
 ·exact⟨3,4,220,0,_,Tryz.func218,rfl,rfl,rfl,by decide+kernel⟩
 cases hx
def xp:Env:=⟨fun _=>false,R2 RF,fun _=>none,fun _=>True⟩
theorem uR:Ll Tryz.prog xp:=⟨fun f q h=>Di (f,q) (Gm h),fun f sm h=>(nomatch h)⟩
end
theorem mixed:Tryz.prog.follows .mixedOrders=true:=by decide+kernel

end Go.Proofs.YtadjjadimlkkgaaGreatDoor
end
section
section

namespace Go.Proofs.YtadjjadimlkkgaaGreatDoor
open Go

structure Q1 where
 a0:AV
 a1:AV
 a2:AV
 a3:AV
 a4:AV
 a5:AV
 a6:AV
 a7:AV
 a8:AV
 a9:AV
 a10:AV
 a11:AV
 a12:AV
 a13:AV
 a14:AV
 a15:AV
structure Q2 where
 a0:Q1
 a1:Q1
 a2:Q1
 a3:Q1
 a4:Q1
 a5:Q1
 a6:Q1
 a7:Q1
 a8:Q1
 a9:Q1
 a10:Q1
 a11:Q1
 a12:Q1
 a13:Q1
 a14:Q1
 a15:Q1
inductive Dg where
 |d0
 |d1
 |d2
 |d3
 |d4
 |d5
 |d6
 |d7
 |d8
 |d9
 |d10
 |d11
 |d12
 |d13
 |d14
 |d15

noncomputable section
def Q1.u0:Q1→AV→(Q1→Bool)→Bool:=fun q v k=>(Q1.rec (motive:=fun _=>AV→(Q1→Bool)→Bool) (fun x0 x1 x2 x3 x4 x5 x6 x7 x8 x9 x10 x11 x12 x13 x14 x15 v k=>k (Q1.mk v x1 x2 x3 x4 x5 x6 x7 x8 x9 x10 x11 x12 x13 x14 x15))) q v k
def Q1.u1:Q1→AV→(Q1→Bool)→Bool:=fun q v k=>(Q1.rec (motive:=fun _=>AV→(Q1→Bool)→Bool) (fun x0 x1 x2 x3 x4 x5 x6 x7 x8 x9 x10 x11 x12 x13 x14 x15 v k=>k (Q1.mk x0 v x2 x3 x4 x5 x6 x7 x8 x9 x10 x11 x12 x13 x14 x15))) q v k
def Q1.u2:Q1→AV→(Q1→Bool)→Bool:=fun q v k=>(Q1.rec (motive:=fun _=>AV→(Q1→Bool)→Bool) (fun x0 x1 x2 x3 x4 x5 x6 x7 x8 x9 x10 x11 x12 x13 x14 x15 v k=>k (Q1.mk x0 x1 v x3 x4 x5 x6 x7 x8 x9 x10 x11 x12 x13 x14 x15))) q v k
def Q1.u3:Q1→AV→(Q1→Bool)→Bool:=fun q v k=>(Q1.rec (motive:=fun _=>AV→(Q1→Bool)→Bool) (fun x0 x1 x2 x3 x4 x5 x6 x7 x8 x9 x10 x11 x12 x13 x14 x15 v k=>k (Q1.mk x0 x1 x2 v x4 x5 x6 x7 x8 x9 x10 x11 x12 x13 x14 x15))) q v k
def Q1.u4:Q1→AV→(Q1→Bool)→Bool:=fun q v k=>(Q1.rec (motive:=fun _=>AV→(Q1→Bool)→Bool) (fun x0 x1 x2 x3 x4 x5 x6 x7 x8 x9 x10 x11 x12 x13 x14 x15 v k=>k (Q1.mk x0 x1 x2 x3 v x5 x6 x7 x8 x9 x10 x11 x12 x13 x14 x15))) q v k
def Q1.u5:Q1→AV→(Q1→Bool)→Bool:=fun q v k=>(Q1.rec (motive:=fun _=>AV→(Q1→Bool)→Bool) (fun x0 x1 x2 x3 x4 x5 x6 x7 x8 x9 x10 x11 x12 x13 x14 x15 v k=>k (Q1.mk x0 x1 x2 x3 x4 v x6 x7 x8 x9 x10 x11 x12 x13 x14 x15))) q v k
def Q1.u6:Q1→AV→(Q1→Bool)→Bool:=fun q v k=>(Q1.rec (motive:=fun _=>AV→(Q1→Bool)→Bool) (fun x0 x1 x2 x3 x4 x5 x6 x7 x8 x9 x10 x11 x12 x13 x14 x15 v k=>k (Q1.mk x0 x1 x2 x3 x4 x5 v x7 x8 x9 x10 x11 x12 x13 x14 x15))) q v k
def Q1.u7:Q1→AV→(Q1→Bool)→Bool:=fun q v k=>(Q1.rec (motive:=fun _=>AV→(Q1→Bool)→Bool) (fun x0 x1 x2 x3 x4 x5 x6 x7 x8 x9 x10 x11 x12 x13 x14 x15 v k=>k (Q1.mk x0 x1 x2 x3 x4 x5 x6 v x8 x9 x10 x11 x12 x13 x14 x15))) q v k
def Q1.u8:Q1→AV→(Q1→Bool)→Bool:=fun q v k=>(Q1.rec (motive:=fun _=>AV→(Q1→Bool)→Bool) (fun x0 x1 x2 x3 x4 x5 x6 x7 x8 x9 x10 x11 x12 x13 x14 x15 v k=>k (Q1.mk x0 x1 x2 x3 x4 x5 x6 x7 v x9 x10 x11 x12 x13 x14 x15))) q v k
def Q1.u9:Q1→AV→(Q1→Bool)→Bool:=fun q v k=>(Q1.rec (motive:=fun _=>AV→(Q1→Bool)→Bool) (fun x0 x1 x2 x3 x4 x5 x6 x7 x8 x9 x10 x11 x12 x13 x14 x15 v k=>k (Q1.mk x0 x1 x2 x3 x4 x5 x6 x7 x8 v x10 x11 x12 x13 x14 x15))) q v k
def Q1.xJ:Q1→AV→(Q1→Bool)→Bool:=fun q v k=>(Q1.rec (motive:=fun _=>AV→(Q1→Bool)→Bool) (fun x0 x1 x2 x3 x4 x5 x6 x7 x8 x9 x10 x11 x12 x13 x14 x15 v k=>k (Q1.mk x0 x1 x2 x3 x4 x5 x6 x7 x8 x9 v x11 x12 x13 x14 x15))) q v k
def Q1.xI:Q1→AV→(Q1→Bool)→Bool:=fun q v k=>(Q1.rec (motive:=fun _=>AV→(Q1→Bool)→Bool) (fun x0 x1 x2 x3 x4 x5 x6 x7 x8 x9 x10 x11 x12 x13 x14 x15 v k=>k (Q1.mk x0 x1 x2 x3 x4 x5 x6 x7 x8 x9 x10 v x12 x13 x14 x15))) q v k
def Q1.xH:Q1→AV→(Q1→Bool)→Bool:=fun q v k=>(Q1.rec (motive:=fun _=>AV→(Q1→Bool)→Bool) (fun x0 x1 x2 x3 x4 x5 x6 x7 x8 x9 x10 x11 x12 x13 x14 x15 v k=>k (Q1.mk x0 x1 x2 x3 x4 x5 x6 x7 x8 x9 x10 x11 v x13 x14 x15))) q v k
def Q1.xG:Q1→AV→(Q1→Bool)→Bool:=fun q v k=>(Q1.rec (motive:=fun _=>AV→(Q1→Bool)→Bool) (fun x0 x1 x2 x3 x4 x5 x6 x7 x8 x9 x10 x11 x12 x13 x14 x15 v k=>k (Q1.mk x0 x1 x2 x3 x4 x5 x6 x7 x8 x9 x10 x11 x12 v x14 x15))) q v k
def Q1.xF:Q1→AV→(Q1→Bool)→Bool:=fun q v k=>(Q1.rec (motive:=fun _=>AV→(Q1→Bool)→Bool) (fun x0 x1 x2 x3 x4 x5 x6 x7 x8 x9 x10 x11 x12 x13 x14 x15 v k=>k (Q1.mk x0 x1 x2 x3 x4 x5 x6 x7 x8 x9 x10 x11 x12 x13 v x15))) q v k
def Q1.xE:Q1→AV→(Q1→Bool)→Bool:=fun q v k=>(Q1.rec (motive:=fun _=>AV→(Q1→Bool)→Bool) (fun x0 x1 x2 x3 x4 x5 x6 x7 x8 x9 x10 x11 x12 x13 x14 x15 v k=>k (Q1.mk x0 x1 x2 x3 x4 x5 x6 x7 x8 x9 x10 x11 x12 x13 x14 v))) q v k
def Q1.at(d:Dg):Q1→AV:=Dg.rec (motive:=fun _=>Q1→AV) Q1.a0 Q1.a1 Q1.a2 Q1.a3 Q1.a4 Q1.a5 Q1.a6 Q1.a7 Q1.a8 Q1.a9 Q1.a10 Q1.a11 Q1.a12 Q1.a13 Q1.a14 Q1.a15 d
def Q1.up(d:Dg):Q1→AV→(Q1→Bool)→Bool:=Dg.rec (motive:=fun _=>Q1→AV→(Q1→Bool)→Bool) Q1.u0 Q1.u1 Q1.u2 Q1.u3 Q1.u4 Q1.u5 Q1.u6 Q1.u7 Q1.u8 Q1.u9 Q1.xJ Q1.xI Q1.xH Q1.xG Q1.xF Q1.xE d
def Q2.u0:Q2→Q1→(Q2→Bool)→Bool:=fun q v k=>(Q2.rec (motive:=fun _=>Q1→(Q2→Bool)→Bool) (fun x0 x1 x2 x3 x4 x5 x6 x7 x8 x9 x10 x11 x12 x13 x14 x15 v k=>k (Q2.mk v x1 x2 x3 x4 x5 x6 x7 x8 x9 x10 x11 x12 x13 x14 x15))) q v k
def Q2.u1:Q2→Q1→(Q2→Bool)→Bool:=fun q v k=>(Q2.rec (motive:=fun _=>Q1→(Q2→Bool)→Bool) (fun x0 x1 x2 x3 x4 x5 x6 x7 x8 x9 x10 x11 x12 x13 x14 x15 v k=>k (Q2.mk x0 v x2 x3 x4 x5 x6 x7 x8 x9 x10 x11 x12 x13 x14 x15))) q v k
def Q2.u2:Q2→Q1→(Q2→Bool)→Bool:=fun q v k=>(Q2.rec (motive:=fun _=>Q1→(Q2→Bool)→Bool) (fun x0 x1 x2 x3 x4 x5 x6 x7 x8 x9 x10 x11 x12 x13 x14 x15 v k=>k (Q2.mk x0 x1 v x3 x4 x5 x6 x7 x8 x9 x10 x11 x12 x13 x14 x15))) q v k
def Q2.u3:Q2→Q1→(Q2→Bool)→Bool:=fun q v k=>(Q2.rec (motive:=fun _=>Q1→(Q2→Bool)→Bool) (fun x0 x1 x2 x3 x4 x5 x6 x7 x8 x9 x10 x11 x12 x13 x14 x15 v k=>k (Q2.mk x0 x1 x2 v x4 x5 x6 x7 x8 x9 x10 x11 x12 x13 x14 x15))) q v k
def Q2.u4:Q2→Q1→(Q2→Bool)→Bool:=fun q v k=>(Q2.rec (motive:=fun _=>Q1→(Q2→Bool)→Bool) (fun x0 x1 x2 x3 x4 x5 x6 x7 x8 x9 x10 x11 x12 x13 x14 x15 v k=>k (Q2.mk x0 x1 x2 x3 v x5 x6 x7 x8 x9 x10 x11 x12 x13 x14 x15))) q v k
def Q2.u5:Q2→Q1→(Q2→Bool)→Bool:=fun q v k=>(Q2.rec (motive:=fun _=>Q1→(Q2→Bool)→Bool) (fun x0 x1 x2 x3 x4 x5 x6 x7 x8 x9 x10 x11 x12 x13 x14 x15 v k=>k (Q2.mk x0 x1 x2 x3 x4 v x6 x7 x8 x9 x10 x11 x12 x13 x14 x15))) q v k
def Q2.u6:Q2→Q1→(Q2→Bool)→Bool:=fun q v k=>(Q2.rec (motive:=fun _=>Q1→(Q2→Bool)→Bool) (fun x0 x1 x2 x3 x4 x5 x6 x7 x8 x9 x10 x11 x12 x13 x14 x15 v k=>k (Q2.mk x0 x1 x2 x3 x4 x5 v x7 x8 x9 x10 x11 x12 x13 x14 x15))) q v k
def Q2.u7:Q2→Q1→(Q2→Bool)→Bool:=fun q v k=>(Q2.rec (motive:=fun _=>Q1→(Q2→Bool)→Bool) (fun x0 x1 x2 x3 x4 x5 x6 x7 x8 x9 x10 x11 x12 x13 x14 x15 v k=>k (Q2.mk x0 x1 x2 x3 x4 x5 x6 v x8 x9 x10 x11 x12 x13 x14 x15))) q v k
def Q2.u8:Q2→Q1→(Q2→Bool)→Bool:=fun q v k=>(Q2.rec (motive:=fun _=>Q1→(Q2→Bool)→Bool) (fun x0 x1 x2 x3 x4 x5 x6 x7 x8 x9 x10 x11 x12 x13 x14 x15 v k=>k (Q2.mk x0 x1 x2 x3 x4 x5 x6 x7 v x9 x10 x11 x12 x13 x14 x15))) q v k
def Q2.u9:Q2→Q1→(Q2→Bool)→Bool:=fun q v k=>(Q2.rec (motive:=fun _=>Q1→(Q2→Bool)→Bool) (fun x0 x1 x2 x3 x4 x5 x6 x7 x8 x9 x10 x11 x12 x13 x14 x15 v k=>k (Q2.mk x0 x1 x2 x3 x4 x5 x6 x7 x8 v x10 x11 x12 x13 x14 x15))) q v k
def Q2.xJ:Q2→Q1→(Q2→Bool)→Bool:=fun q v k=>(Q2.rec (motive:=fun _=>Q1→(Q2→Bool)→Bool) (fun x0 x1 x2 x3 x4 x5 x6 x7 x8 x9 x10 x11 x12 x13 x14 x15 v k=>k (Q2.mk x0 x1 x2 x3 x4 x5 x6 x7 x8 x9 v x11 x12 x13 x14 x15))) q v k
def Q2.xI:Q2→Q1→(Q2→Bool)→Bool:=fun q v k=>(Q2.rec (motive:=fun _=>Q1→(Q2→Bool)→Bool) (fun x0 x1 x2 x3 x4 x5 x6 x7 x8 x9 x10 x11 x12 x13 x14 x15 v k=>k (Q2.mk x0 x1 x2 x3 x4 x5 x6 x7 x8 x9 x10 v x12 x13 x14 x15))) q v k
def Q2.xH:Q2→Q1→(Q2→Bool)→Bool:=fun q v k=>(Q2.rec (motive:=fun _=>Q1→(Q2→Bool)→Bool) (fun x0 x1 x2 x3 x4 x5 x6 x7 x8 x9 x10 x11 x12 x13 x14 x15 v k=>k (Q2.mk x0 x1 x2 x3 x4 x5 x6 x7 x8 x9 x10 x11 v x13 x14 x15))) q v k
def Q2.xG:Q2→Q1→(Q2→Bool)→Bool:=fun q v k=>(Q2.rec (motive:=fun _=>Q1→(Q2→Bool)→Bool) (fun x0 x1 x2 x3 x4 x5 x6 x7 x8 x9 x10 x11 x12 x13 x14 x15 v k=>k (Q2.mk x0 x1 x2 x3 x4 x5 x6 x7 x8 x9 x10 x11 x12 v x14 x15))) q v k
def Q2.xF:Q2→Q1→(Q2→Bool)→Bool:=fun q v k=>(Q2.rec (motive:=fun _=>Q1→(Q2→Bool)→Bool) (fun x0 x1 x2 x3 x4 x5 x6 x7 x8 x9 x10 x11 x12 x13 x14 x15 v k=>k (Q2.mk x0 x1 x2 x3 x4 x5 x6 x7 x8 x9 x10 x11 x12 x13 v x15))) q v k
def Q2.xE:Q2→Q1→(Q2→Bool)→Bool:=fun q v k=>(Q2.rec (motive:=fun _=>Q1→(Q2→Bool)→Bool) (fun x0 x1 x2 x3 x4 x5 x6 x7 x8 x9 x10 x11 x12 x13 x14 x15 v k=>k (Q2.mk x0 x1 x2 x3 x4 x5 x6 x7 x8 x9 x10 x11 x12 x13 x14 v))) q v k
def Q2.at(d:Dg):Q2→Q1:=Dg.rec (motive:=fun _=>Q2→Q1) Q2.a0 Q2.a1 Q2.a2 Q2.a3 Q2.a4 Q2.a5 Q2.a6 Q2.a7 Q2.a8 Q2.a9 Q2.a10 Q2.a11 Q2.a12 Q2.a13 Q2.a14 Q2.a15 d
def Q2.up(d:Dg):Q2→Q1→(Q2→Bool)→Bool:=Dg.rec (motive:=fun _=>Q2→Q1→(Q2→Bool)→Bool) Q2.u0 Q2.u1 Q2.u2 Q2.u3 Q2.u4 Q2.u5 Q2.u6 Q2.u7 Q2.u8 Q2.u9 Q2.xJ Q2.xI Q2.xH Q2.xG Q2.xF Q2.xE d
def Dg.num(d:Dg):Nat:=match d with
 |.d0=>0
 |.d1=>1
 |.d2=>2
 |.d3=>3
 |.d4=>4
 |.d5=>5
 |.d6=>6
 |.d7=>7
 |.d8=>8
 |.d9=>9
 |.d10=>10
 |.d11=>11
 |.d12=>12
 |.d13=>13
 |.d14=>14
 |.d15=>15
abbrev KV:=AV→Bool
def vf{α:Type}(x:Option α)(k:α→Bool):Bool:=Option.rec false k x

def qb(P:Program)(ts:List TypeId):AV→KV→Bool:=fun x k=>vf (HQ P ts x) k

def uG(n:Int)(k:Nat→Bool):Bool:=Int.rec (fun n=>Bool.rec false (k n) (Nat.ble n Xi)) (fun _=>false) n
def q0:AV:=.tup []
def Q1.zero:Q1:=⟨q0,q0,q0,q0,q0,q0,q0,q0,q0,q0,q0,q0,q0,q0,q0,q0⟩
def Q2.zero:Q2:=⟨.zero,.zero,.zero,.zero,.zero,.zero,.zero,.zero,.zero,.zero,.zero,.zero,.zero,.zero,.zero,.zero⟩
end
end Go.Proofs.YtadjjadimlkkgaaGreatDoor
end

section

namespace Go.Proofs.YtadjjadimlkkgaaGreatDoor
open Go

end Go.Proofs.YtadjjadimlkkgaaGreatDoor
end

section

namespace Go.Proofs.YtadjjadimlkkgaaGreatDoor
open Go Go.RowKit

end Go.Proofs.YtadjjadimlkkgaaGreatDoor
end
end
section
namespace Go.Proofs.YtadjjadimlkkgaaGreatDoor
open Go

theorem Ba:isTrue (Uj Tryz.prog xp 10000 1000 25 [] ⟨0,.nil⟩)=true:=by decide+kernel
end Go.Proofs.YtadjjadimlkkgaaGreatDoor
end
section
namespace Go.Proofs.YtadjjadimlkkgaaGreatDoor
open Go

noncomputable section
def Me:List (FuncId×(List AV→St→Option (AV×St))):=
 (72,Ap 4 I5)::
 (76,Ap 2 BS)::
 (191,jS GI)::
 (25,GD)::
 []
def Ja:Env:=⟨fun _=>false,R2 RF,R1 Me,Lw⟩
end
theorem uQ:Ll Tryz.prog Ja:=⟨fun f q h=>Di (f,q) (Gm h),fun f sm h=>by
 have h:R1 Me f=some sm:=h;have h:=SY h;unfold Me at h;rcases List.mem_cons.1 h with h|h
 ·injection h with e1 e2;subst e1 e2;exact D5
 rcases List.mem_cons.1 h with h|h
 ·injection h with e1 e2;subst e1 e2;exact qL rfl
 rcases List.mem_cons.1 h with h|h
 ·injection h with e1 e2;subst e1 e2;exact Tn
 rcases List.mem_cons.1 h with h|h
 ·injection h with e1 e2;subst e1 e2;exact DE (fun _=>rfl) uR (fun _=>trivial) mixed Ba
 cases h⟩
end Go.Proofs.YtadjjadimlkkgaaGreatDoor
end
section
namespace Go.Proofs.YtadjjadimlkkgaaGreatDoor
open Go

theorem QI:tk Tryz.prog 3=.one:=by kernel_rfl
theorem DD:Zm Tryz.prog 3=some 1:=by kernel_rfl
theorem D2:zeroOf Tryz.prog 3=some [.int .i64 0]:=by kernel_rfl
theorem G6:Tryz.prog.underlying 3=some (.int .i64):=by kernel_rfl
theorem jJ:tk Tryz.prog 4=.one:=by kernel_rfl
theorem jO:Zm Tryz.prog 4=some 1:=by kernel_rfl
theorem AT:zeroOf Tryz.prog 5=some [.int .u8 0]:=by kernel_rfl
theorem W7:Tryz.prog.underlying 5=some (.int .u8):=by kernel_rfl
theorem JI:tk Tryz.prog 9=.one:=by kernel_rfl
theorem OJ:Zm Tryz.prog 9=some 1:=by kernel_rfl
theorem XK:zeroOf Tryz.prog 9=some [.str []]:=by kernel_rfl
theorem UI:Tryz.prog.underlying 9=some (.string):=by kernel_rfl
theorem I1:tk Tryz.prog 21=.one:=by kernel_rfl
theorem BB:Tryz.prog.underlying 21=some (.int .i32):=by kernel_rfl
theorem Hk:tk Tryz.prog 24=.one:=by kernel_rfl
theorem Ot:Zm Tryz.prog 24=some 1:=by kernel_rfl
theorem J5:Tryz.prog.underlying 24=some (.slice 26):=by kernel_rfl
theorem JH:Uz Tryz.prog 24=some 5:=by kernel_rfl
theorem QO:tk Tryz.prog 26=.agg 5:=by kernel_rfl
theorem QH:Zm Tryz.prog 26=some 5:=by kernel_rfl
theorem QN:zeroOf Tryz.prog 26=some [.str [],.str [],.int .i64 0,.int .i64 0,.nils]:=by kernel_rfl
theorem VE:Jh Tryz.prog 26 0=some 0:=by kernel_rfl
theorem E8:Jh Tryz.prog 26 1=some 1:=by kernel_rfl
theorem E7:Jh Tryz.prog 26 2=some 2:=by kernel_rfl
theorem E6:Jh Tryz.prog 26 3=some 3:=by kernel_rfl
theorem Ht:Jh Tryz.prog 26 4=some 4:=by kernel_rfl
theorem QL:TB Tryz.prog 26 [(0,1),(1,1),(2,1),(3,1),(4,1)] [.str [],.str [],.int .i64 0,.int .i64 0,.nils]:=⟨⟨_,Tryz.underlying26,by kernel_rfl,by kernel_rfl⟩,QN⟩
theorem Y5:tk Tryz.prog 22=.one:=by kernel_rfl
theorem V9:Zm Tryz.prog 22=some 1:=by kernel_rfl
theorem U9:Tryz.prog.underlying 22=some (.slice 102):=by kernel_rfl
theorem Z7:Uz Tryz.prog 22=some 3:=by kernel_rfl
theorem Yi:tk Tryz.prog 23=.one:=by kernel_rfl
theorem V8:Zm Tryz.prog 23=some 1:=by kernel_rfl
theorem Et:Tryz.prog.underlying 23=some (.slice 69):=by kernel_rfl
theorem EB:Uz Tryz.prog 23=some 8:=by kernel_rfl
theorem Y4:tk Tryz.prog 28=.agg 7:=by kernel_rfl
theorem Yn:Zm Tryz.prog 28=some 7:=by kernel_rfl
theorem KK:zeroOf Tryz.prog 28=some [.nils,.nils,.str [],.str [],.int .i64 0,.int .i64 0,.nils]:=by kernel_rfl
theorem X0:Jh Tryz.prog 28 0=some 0:=by kernel_rfl
theorem Xz:Jh Tryz.prog 28 1=some 1:=by kernel_rfl
theorem E4:Jh Tryz.prog 28 2=some 2:=by kernel_rfl
theorem ZU:TB Tryz.prog 28 [(0,1),(1,1),(2,5)] [.nils,.nils,.str [],.str [],.int .i64 0,.int .i64 0,.nils]:=⟨⟨_,Tryz.underlying28,by kernel_rfl,by kernel_rfl⟩,KK⟩
theorem Ei:tk Tryz.prog 69=.agg 8:=by kernel_rfl
theorem Fa:Zm Tryz.prog 69=some 8:=by kernel_rfl
theorem ZQ:zeroOf Tryz.prog 69=some [.str [],.nils,.str [],.str [],.int .i64 0,.int .i64 0,.nils,.int .i64 0]:=by kernel_rfl
theorem O0:Jh Tryz.prog 69 0=some 0:=by kernel_rfl
theorem E5:Jh Tryz.prog 69 1=some 1:=by kernel_rfl
theorem Hs:Jh Tryz.prog 69 2=some 2:=by kernel_rfl
theorem Oz:Jh Tryz.prog 69 3=some 7:=by kernel_rfl
theorem BL:TB Tryz.prog 69 [(0,1),(1,1),(2,5),(7,1)] [.str [],.nils,.str [],.str [],.int .i64 0,.int .i64 0,.nils,.int .i64 0]:=⟨⟨_,Tryz.underlying69,by kernel_rfl,by kernel_rfl⟩,ZQ⟩
theorem VK:tk Tryz.prog 41=.one:=by kernel_rfl
theorem Ej:Zm Tryz.prog 41=some 1:=by kernel_rfl
theorem Ur:Tryz.prog.underlying 41=some (.slice 9):=by kernel_rfl
theorem JK:Uz Tryz.prog 41=some 1:=by kernel_rfl
theorem VJ:tk Tryz.prog 102=.agg 3:=by kernel_rfl
theorem BJ:Zm Tryz.prog 102=some 3:=by kernel_rfl
theorem Ym:zeroOf Tryz.prog 102=some [.str [],.int .i64 0,.int .i64 0]:=by kernel_rfl
theorem E9:Jh Tryz.prog 102 0=some 0:=by kernel_rfl
theorem Hu:Jh Tryz.prog 102 1=some 1:=by kernel_rfl
theorem O1:Jh Tryz.prog 102 2=some 2:=by kernel_rfl
theorem ZV:TB Tryz.prog 102 [(0,1),(1,1),(2,1)] [.str [],.int .i64 0,.int .i64 0]:=⟨⟨_,Tryz.underlying102,by kernel_rfl,by kernel_rfl⟩,Ym⟩
theorem XW:tk Tryz.prog 61=.one:=by kernel_rfl
theorem AW:Tryz.prog.underlying 61=some (.slice 75):=by kernel_rfl
theorem Xc:Uz Tryz.prog 61=some 4:=by kernel_rfl
theorem UF:tk Tryz.prog 75=.agg 4:=by kernel_rfl
theorem An:Zm Tryz.prog 75=some 4:=by kernel_rfl
theorem Zq:zeroOf Tryz.prog 75=some [.int .i64 0,.str [],.int .i64 0,.int .i64 0]:=by kernel_rfl
theorem WV:Jh Tryz.prog 75 0=some 0:=by kernel_rfl
theorem Vj:Jh Tryz.prog 75 1=some 1:=by kernel_rfl
theorem WU:Jh Tryz.prog 75 2=some 2:=by kernel_rfl
theorem JD:Jh Tryz.prog 75 3=some 3:=by kernel_rfl
theorem WX(l:List AV):Fy Tryz.prog 75 (.agg l) 0=Wm Tryz.prog 3 l 0:=by kernel_rfl
theorem Fz(l:List AV):Fy Tryz.prog 75 (.agg l) 1=Wm Tryz.prog 9 l 1:=by kernel_rfl
theorem UD(l:List AV):Fy Tryz.prog 75 (.agg l) 3=Wm Tryz.prog 3 l 3:=by kernel_rfl
theorem Zu:TB Tryz.prog 75 [(0,1),(1,1),(2,1),(3,1)] [.int .i64 0,.str [],.int .i64 0,.int .i64 0]:=⟨⟨_,Tryz.underlying75,by kernel_rfl,by kernel_rfl⟩,Zq⟩
theorem UA:tk Tryz.prog 116=.one:=by kernel_rfl
theorem Hl:Zm Tryz.prog 116=some 1:=by kernel_rfl
theorem Z3:Tryz.prog.underlying 116=some (.slice 154):=by kernel_rfl
theorem VF:Uz Tryz.prog 116=some 2:=by kernel_rfl
theorem Wj:zeroOf Tryz.prog 118=some [.str [],.nils,.int .i64 0,.int .i64 0]:=by kernel_rfl
theorem Vu:Jh Tryz.prog 118 0=some 0:=by kernel_rfl
theorem J6:Jh Tryz.prog 118 1=some 1:=by kernel_rfl
theorem ZB:Jh Tryz.prog 118 2=some 2:=by kernel_rfl
theorem Jq:Jh Tryz.prog 118 3=some 3:=by kernel_rfl
theorem Hf:TB Tryz.prog 118 [(0,1),(1,1),(2,1),(3,1)] [.str [],.nils,.int .i64 0,.int .i64 0]:=⟨⟨_,Tryz.underlying118,by kernel_rfl,by kernel_rfl⟩,Wj⟩
theorem Wi:zeroOf Tryz.prog 66=some [.nils,.int .i64 0,.int .i64 0,.int .i64 0]:=by kernel_rfl
theorem YE:Jh Tryz.prog 66 0=some 0:=by kernel_rfl
theorem YD:Jh Tryz.prog 66 1=some 1:=by kernel_rfl
theorem Yd:Jh Tryz.prog 66 2=some 2:=by kernel_rfl
theorem Yc:Jh Tryz.prog 66 3=some 3:=by kernel_rfl
theorem He:TB Tryz.prog 66 [(0,1),(1,1),(2,1),(3,1)] [.nils,.int .i64 0,.int .i64 0,.int .i64 0]:=⟨⟨_,Tryz.underlying66,by kernel_rfl,by kernel_rfl⟩,Wi⟩
theorem VD:Jh Tryz.prog 154 0=some 0:=by kernel_rfl
theorem Hr:Jh Tryz.prog 154 1=some 1:=by kernel_rfl
theorem Aj:Tryz.prog.underlying 124=some (.slice 5):=by kernel_rfl
theorem Ju:Iw Tryz.prog 24 26 5:=⟨J5,by kernel_rfl,⟨_,QN,rfl⟩,by kernel_rfl,by decide,by decide+kernel⟩
theorem JG:Iw Tryz.prog 22 102 3:=⟨U9,by kernel_rfl,⟨_,Ym,rfl⟩,by kernel_rfl,by decide,by decide+kernel⟩
theorem Z4:Iw Tryz.prog 23 69 8:=⟨Et,by kernel_rfl,⟨_,ZQ,rfl⟩,by kernel_rfl,by decide,by decide+kernel⟩
theorem Zl:Iw Tryz.prog 41 9 1:=⟨Ur,by kernel_rfl,⟨_,XK,rfl⟩,by kernel_rfl,by decide,by decide+kernel⟩
theorem Va:Iw Tryz.prog 61 75 4:=⟨AW,by kernel_rfl,⟨_,Zq,rfl⟩,by kernel_rfl,by decide,by decide+kernel⟩
theorem H4:Iw Tryz.prog 124 5 1:=⟨Aj,by kernel_rfl,⟨_,AT,rfl⟩,by kernel_rfl,by decide,by decide+kernel⟩
end Go.Proofs.YtadjjadimlkkgaaGreatDoor
end
section
namespace Go.Proofs.YtadjjadimlkkgaaGreatDoor
open Go

theorem Ew:tk Tryz.prog 45=.one:=by kernel_rfl
theorem Xu:Tryz.prog.underlying 45=some (.slice 47):=by kernel_rfl
theorem EC:Uz Tryz.prog 45=some 6:=by kernel_rfl
theorem J3:tk Tryz.prog 47=.agg 6:=by kernel_rfl
theorem QP:Zm Tryz.prog 47=some 6:=by kernel_rfl
theorem UW:zeroOf Tryz.prog 47=some [.str [],.int .i64 0,.int .i64 0,.int .i64 0,.int .i64 0,.nils]:=by kernel_rfl
theorem O6:Jh Tryz.prog 47 0=some 0:=by kernel_rfl
theorem O5:Jh Tryz.prog 47 1=some 1:=by kernel_rfl
theorem O4:Jh Tryz.prog 47 2=some 2:=by kernel_rfl
theorem O3:Jh Tryz.prog 47 3=some 3:=by kernel_rfl
theorem O2:Jh Tryz.prog 47 4=some 4:=by kernel_rfl
theorem EA:Jh Tryz.prog 47 5=some 5:=by kernel_rfl
theorem JC:TB Tryz.prog 47 [(0,1),(1,1),(2,1),(3,1),(4,1),(5,1)] [.str [],.int .i64 0,.int .i64 0,.int .i64 0,.int .i64 0,.nils]:=⟨⟨_,Tryz.underlying47,by kernel_rfl,by kernel_rfl⟩,UW⟩
theorem EJ:zeroOf Tryz.prog 81=some [.nils]:=by kernel_rfl
theorem XG:Jh Tryz.prog 81 0=some 0:=by kernel_rfl
theorem Ko:TB Tryz.prog 81 [(0,1)] [.nils]:=⟨⟨_,Tryz.underlying81,by kernel_rfl,by kernel_rfl⟩,EJ⟩
theorem W8:tk Tryz.prog 98=.one:=by kernel_rfl
theorem EI:zeroOf Tryz.prog 100=some [.nils,.bool false]:=by kernel_rfl
theorem XF:Jh Tryz.prog 100 0=some 0:=by kernel_rfl
theorem Ic:Jh Tryz.prog 100 1=some 1:=by kernel_rfl
theorem Kn:TB Tryz.prog 100 [(0,1),(1,1)] [.nils,.bool false]:=⟨⟨_,Tryz.underlying100,by kernel_rfl,by kernel_rfl⟩,EI⟩
theorem Km:tk Tryz.prog 164=.agg 2:=by kernel_rfl
theorem RU:Zm Tryz.prog 164=some 2:=by kernel_rfl
theorem Ww:zeroOf Tryz.prog 164=some [.int .i64 0,.int .i64 0]:=by kernel_rfl
theorem X2:tk Tryz.prog 190=.one:=by kernel_rfl
theorem AO:Zm Tryz.prog 190=some 1:=by kernel_rfl
theorem Lm:zeroOf Tryz.prog 190=some [.nils]:=by kernel_rfl
theorem AM:Tryz.prog.underlying 190=some (.slice 198):=by kernel_rfl
theorem Lu:Uz Tryz.prog 190=some 7:=by kernel_rfl
theorem Hj:tk Tryz.prog 198=.agg 7:=by kernel_rfl
theorem Oq:Zm Tryz.prog 198=some 7:=by kernel_rfl
theorem V6:zeroOf Tryz.prog 198=some [.int .i64 0,.str [],.int .i64 0,.int .i64 0,.int .i64 0,.int .i64 0,.nils]:=by kernel_rfl
theorem Lt:Jh Tryz.prog 198 0=some 0:=by kernel_rfl
theorem Ls:Jh Tryz.prog 198 1=some 1:=by kernel_rfl
theorem Ov:TB Tryz.prog 198 [(0,1),(1,6)] [.int .i64 0,.str [],.int .i64 0,.int .i64 0,.int .i64 0,.int .i64 0,.nils]:=⟨⟨_,Tryz.underlying198,by kernel_rfl,by kernel_rfl⟩,V6⟩
theorem LN:Tryz.prog.underlying 199=some (.slice 3):=by kernel_rfl
theorem F0:Uz Tryz.prog 199=some 1:=by kernel_rfl
theorem VA:Iw Tryz.prog 45 47 6:=⟨Xu,by kernel_rfl,⟨_,UW,rfl⟩,by kernel_rfl,by decide,by decide+kernel⟩
theorem AP:Iw Tryz.prog 190 198 7:=⟨AM,by kernel_rfl,⟨_,V6,rfl⟩,by kernel_rfl,by decide,by decide+kernel⟩
theorem BN:Iw Tryz.prog 199 3 1:=⟨LN,by kernel_rfl,⟨_,D2,rfl⟩,by kernel_rfl,by decide,by decide+kernel⟩
end Go.Proofs.YtadjjadimlkkgaaGreatDoor
end
