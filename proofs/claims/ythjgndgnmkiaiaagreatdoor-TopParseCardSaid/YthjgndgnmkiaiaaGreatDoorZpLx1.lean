/-
  Several texts in one: XRunesC, XRunesA, XRunesB, XLexP, XLexA, XLexB, XLexC, XLexD, XLexE, XLexF.
-/
import GoSem.Core.Utf8
import Derived.Test.YthjgndgnmkiaiaaGreatDoorProg
import Derived.StillTailTactics
import Derived.Deep.RegionHeld3
import Derived.Deep.RegionWith
import Derived.BigRegion
import Derived.Test.YthjgndgnmkiaiaaGreatDoorZpRunesP
set_option linter.unusedVariables false
namespace Go.Proofs.YthjgndgnmkiaiaaGreatDoor
section
open Go

def Ye(r:Int):Bool:=decide ((97≤r∧r≤122)∨(65≤r∧r≤90)∨r=95∨(945≤r∧r≤969))
def U2(r:Int):Bool:=decide (48≤r∧r≤57)
def Yy(r:Int):Bool:=decide (r=32∨r=9∨r=10∨r=13)
def Ph(r:Int):Bool:=decide (r=61∨r=126∨r=60∨r=62∨r=38∨r=124∨r=40∨r=41∨r=123∨r=125∨r=44∨r=59∨r=58∨r=43∨r=92∨r=35∨r=39)
def Q0(r:Int):Int:=if Ye r then 1 else if U2 r then 2 else if Yy r then 3 else if Ph r then 4 else 0

end
section
open Go Go.RowKit

theorem IY(r:Int)(w:World):
  Calls Tryz.prog 126 #[.int .i32 r] w fun e w'=>e=.returned (.bool (Ye r))∧w=w':=by
 go_enter Tryz.func126,Tryz.ntmps126
 go_wp2
 all_goals
  go_ret
  refine⟨Ep ?_,rfl⟩;rw[Bool.eq_iff_iff];simp[Ye]
  try omega

theorem D0(r:Int)(w:World)(h:Ye r=true):
  Calls Tryz.prog 91 #[.int .i32 r] w fun e w'=>e=.returned (.int .i64 (Q0 r))∧w=w':=by
 have hc:Q0 r=1:=by simp[Q0,h]
 rw[hc];clear hc
 go_enter Tryz.func91,Tryz.ntmps91
 go_wp2_with (go_at_call 126;refine(IY _ _).mono ?_;rintro e w' ⟨rfl,rfl⟩)
 go_ret
 exact⟨rfl,rfl⟩
theorem RG(r:Int)(w:World)(h:Ye r=false):
  Calls Tryz.prog 91 #[.int .i32 r] w fun e w'=>e=.returned (.int .i64 (Q0 r))∧w=w':=by
 go_enter Tryz.func91,Tryz.ntmps91
 go_wp2_with (go_at_call 126;refine(IY _ _).mono ?_;rintro e w' ⟨rfl,rfl⟩)
 all_goals
  go_ret
  refine⟨EW ?_,rfl⟩;unfold Q0;rw[if_neg (by rw[h];decide)]
  try simp only[beq_iff_eq,beq_eq_false_iff_ne,ne_eq]at *
  simp only[U2,Yy,Ph,decide_eq_true_eq]
  repeat' split
  all_goals omega
theorem BW(r:Int)(w:World):
  Calls Tryz.prog 91 #[.int .i32 r] w fun e w'=>e=.returned (.int .i64 (Q0 r))∧w=w':=by
 cases h:Ye r
 ·exact RG r w h
 ·exact D0 r w h

def NM:List UInt8:=[61,126,60,62,38,124,40,41,123,125,44,59,58,43,92,35,39]

theorem Be(r:Int):Ph r=true↔ ∃k,k<17∧r=((NM.getD k 0).toNat:Int):=by
 constructor
 ·intro h;simp only[Ph,decide_eq_true_eq]at h;rcases h with rfl|rfl|rfl|rfl|rfl|rfl|rfl|rfl|rfl|rfl|rfl|rfl|rfl|rfl|rfl|rfl|rfl
  ·exact⟨0,by decide,by decide⟩
  ·exact⟨1,by decide,by decide⟩
  ·exact⟨2,by decide,by decide⟩
  ·exact⟨3,by decide,by decide⟩
  ·exact⟨4,by decide,by decide⟩
  ·exact⟨5,by decide,by decide⟩
  ·exact⟨6,by decide,by decide⟩
  ·exact⟨7,by decide,by decide⟩
  ·exact⟨8,by decide,by decide⟩
  ·exact⟨9,by decide,by decide⟩
  ·exact⟨10,by decide,by decide⟩
  ·exact⟨11,by decide,by decide⟩
  ·exact⟨12,by decide,by decide⟩
  ·exact⟨13,by decide,by decide⟩
  ·exact⟨14,by decide,by decide⟩
  ·exact⟨15,by decide,by decide⟩
  ·exact⟨16,by decide,by decide⟩
 ·rintro⟨k,hk,rfl⟩
  revert k;decide

theorem Mr(k:Nat)(h':k<(ByteArray.mk #[61,126,60,62,38,124,40,41,123,125,44,59,58,43,92,35,39]).size):wrap32 ↑(ByteArray.mk #[61,126,60,62,38,124,40,41,123,125,44,59,58,43,92,35,39])[k].toNat=((NM.getD k 0).toNat:Int):=by
 have h:k<17:=h';revert k;decide+kernel
theorem yu{r:Int}{k:Nat}{h2:k<(ByteArray.mk #[61,126,60,62,38,124,40,41,123,125,44,59,58,43,92,35,39]).size}(ht:(r==wrap32 ↑((ByteArray.mk #[61,126,60,62,38,124,40,41,123,125,44,59,58,43,92,35,39])[k]'h2).toNat)=true):r=((NM.getD k 0).toNat:Int):=by
 rw[beq_iff_eq]at ht;exact ht.trans (Mr k h2)
theorem wb{r:Int}{k:Nat}{h2:k<(ByteArray.mk #[61,126,60,62,38,124,40,41,123,125,44,59,58,43,92,35,39]).size}(ht:(r==wrap32 ↑((ByteArray.mk #[61,126,60,62,38,124,40,41,123,125,44,59,58,43,92,35,39])[k]'h2).toNat)=false):r≠((NM.getD k 0).toNat:Int):=by
 rw[beq_eq_false_iff_ne]at ht;exact fun e=>ht (e.trans (Mr k h2).symm)

theorem je(r:Int)(w:World):
  Calls Tryz.prog 122 #[.int .i32 r] w fun e w'=>e=.returned (.int .i64 (Q0 r))∧w=w':=by
 go_enter Tryz.func122,Tryz.ntmps122
 go_upto_region 1 with fail
 go_cut [0,5] (fun r0 c wx=>r0=.int .i32 r∧c=.bool (Ye r)∧w=wx)
 case first=>
  go_wp2
  all_goals
   go_meet
   refine⟨by simp[*],?_,rfl⟩;refine congrArg Value.bool ?_;rw[Bool.eq_iff_iff];simp[Ye]
   try omega
 case rest=>
  obtain⟨rfl,rfl,rfl⟩:=hcut;cases hl:Ye r
  case true=>
   go_wp2
   go_ret
   exact⟨EW (by simp[Q0,hl]),rfl⟩
  case false=>
   go_upto_region 3 with fail
   go_cut [32] (fun c wx=>c=.bool (U2 r)∧w=wx)
   case first=>
    go_wp2
    all_goals
     go_meet
     refine⟨?_,rfl⟩;refine congrArg Value.bool ?_;rw[Bool.eq_iff_iff];simp[U2]
     try omega
   case rest=>
    obtain⟨rfl,rfl⟩:=hcut;cases hd:U2 r
    case true=>
     go_wp2
     go_ret
     exact⟨EW (by simp[Q0,hl,hd]),rfl⟩
    case false=>
     go_upto_region 5 with fail
     go_cut [0,39] (fun r0 c wx=>r0=.int .i32 r∧c=.bool (Yy r)∧w=wx)
     case first=>
      go_wp2
      all_goals
       go_meet
       refine⟨by simp[*],?_,rfl⟩;refine congrArg Value.bool ?_;rw[Bool.eq_iff_iff]
       simp_all [Yy]
     case rest=>
      obtain⟨rfl,rfl,rfl⟩:=hcut;cases hs:Yy r
      case true=>
       go_wp2
       go_ret
       exact⟨EW (by simp[Q0,hl,hd,hs]),rfl⟩
      case false=>
       go_wp2
       go_loop [4] (fun i=> ∃k:Nat,k≤17∧i=.int .i64 k∧ ∀j,j<k→r≠((NM.getD j 0).toNat:Int)) (fun i=>17-(intOf i).toNat)
       case atStart=>exact⟨0,by omega,rfl,by omega⟩
       case round=>
        obtain⟨k,hk,rfl,hj⟩:=hrel;have H:=Lib.hid hj;clear hj
        go_wp2
        ·have ht:=yu (r:=r) (k:=k) (by assumption)
         have hlt:(k:Int)<17:=by assumption
         go_ret
         exact⟨EW (by rw[Q0,hl,hd,hs,if_neg Qo,if_neg Qo,if_neg Qo,if_pos ((Be r).2 ⟨k,by omega,ht⟩)]),rfl⟩
        ·have ht:=wb (r:=r) (k:=k) (by assumption)
         have hlt:(k:Int)<17:=by assumption
         go_round
         case rel=>
          refine⟨k+1,by omega,by go_num,fun j hj=>?_⟩;rcases Nat.lt_or_ge j k with h1|h1
          ·exact H.out j h1
          ·obtain rfl:j=k:=by omega
           exact ht
         case measure=>simp[intOf];omega
        ·have hge:17≤(k:Int):=by assumption
         go_ret
         refine⟨EW ?_,rfl⟩;rw[Q0,hl,hd,hs,if_neg Qo,if_neg Qo,if_neg Qo,if_neg];intro h;obtain⟨j,hj,h⟩:=(Be r).1 h;exact H.out j Qk h

end
section
open Go Go.RowKit

theorem G4(s p:ByteArray)(w:World)(hs:s.size≤100000)(hp:p.size≤100000):
  Calls Tryz.prog 125 #[.string s,.string p] w fun e w'=>e=.returned (.bool (Ec s p))∧w=w':=by
 go_enter Tryz.func125,Tryz.ntmps125
 by_cases h:p.size≤s.size
 ·go_wp2
  go_ret
  refine⟨Ep ?_,rfl⟩;unfold Ec;rw[ByteArray.toList_eq,ByteArray.toList_eq,ByteArray.data_extract,Array.toList_extract,Bool.eq_iff_iff,beq_iff_eq,List.isPrefixOf_iff_prefix,List.prefix_iff_eq_take];simp[List.extract];exact eq_comm
 ·go_wp2
  go_ret
  refine⟨Ep ?_,rfl⟩
  symm
  unfold Ec;rw[Bool.eq_false_iff];intro hh;have:=(List.isPrefixOf_iff_prefix.1 hh).length_le;simp at this;omega
theorem Hf(s p:ByteArray)(w:World)(hs:s.size≤100000)(hp:p.size≤100000):
  Calls Tryz.prog 90 #[.string s,.string p] w fun e w'=>e=.returned (.bool (Ec s p))∧w=w':=by
 go_enter Tryz.func90,Tryz.ntmps90
 go_wp2_with (go_at_call 125;refine(G4 _ _ _ hs hp).mono ?_;rintro e w' ⟨rfl,rfl⟩)
 go_ret
 exact⟨rfl,rfl⟩

theorem jM(s:ByteArray)(pos:Nat)(r:Int)(w:World)(hs:s.size≤100000)(hp:pos<s.size):
  Calls Tryz.prog 57 #[.string s,.int .i64 pos,.int .i32 r] w fun e w'=>e=.returned (.bool (decide (r=65533)&& !(ZU s pos)))∧w=w':=by
 by_cases h:r=65533
 ·rw[decide_eq_true h,Bool.true_and];subst h
  go_enter Tryz.func57,Tryz.ntmps57
  go_wp2_with (go_at_call 90;refine(Hf _ _ _ (by simp;omega) Qo).mono ?_;rintro e w' ⟨rfl,rfl⟩)
  all_goals
   go_ret
   refine⟨Ep ?_,rfl⟩
   simp_all [ZU]
 ·rw[decide_eq_false h,Bool.false_and]
  have hb:((r==65533)=false):=by simp[h]
  clear h
  go_enter Tryz.func57,Tryz.ntmps57
  go_wp2
  go_ret
  exact⟨rfl,rfl⟩

theorem Ra:(Tryz.prog.info? 113).map (fun i=>(i.zero,i.size,i.bytes))=some (some (.agg #[.int .i32 0,.int .i64 0]),2,16):=by kernel_rfl

def vM(s:ByteArray)(w:World)(e:Ending)(w':World):Prop:=
 ∃v:Value,e=.returned (.tuple #[v,.int .i64 (Jx (each s).2)])∧w'.ownsRow w.heap.size 113 2 v (each s).1.length (runeCells (each s).1)∧Below w.heap.size w w'

theorem BI(s:ByteArray)(pos:Nat)(w:World)(hs:s.size≤100000)(hp:pos<s.size)(b:Bool)(h:decide ((Utf8.decode s pos).1=65533∧(Utf8.decode s pos).2=1)=b):
  Calls Tryz.prog 57 #[.string s,.int .i64 pos,.int .i32 (Utf8.decode s pos).1] w fun e w'=>e=.returned (.bool b)∧w=w':=by
 refine(jM s pos _ w hs hp).mono fun e w'=>?_
 rintro⟨rfl,rfl⟩
 refine⟨Ep ?_,rfl⟩;rw[←h,←wR s pos hp]
 congr 1
 rw[decide_eq_decide];omega

theorem xU(s:ByteArray)(w:World)(hs:s.size≤100000):
  Calls Tryz.prog 27 #[.string s] w (vM s w):=by
 obtain⟨i0,hi,hz0,hz1,hz2⟩:=info_parts Ra
 go_enter Tryz.func27,Tryz.ntmps27
 go_wp2
 go_loopw [2] (fun v wr=> ∃(p f:Nat) (acc:List (Nat×Nat)),wr.heap[w.heap.size]? =some (.stringIter s p)∧s.size≤p+f∧acc.length≤p∧p≤s.size∧
   acc++(JA s f p).1=(each s).1∧(JA s f p).2=(each s).2∧
   wr.ownsRow (w.heap.size+1) 113 2 v acc.length (runeCells acc)∧Below w.heap.size w wr∧w.heap.size+1≤wr.heap.size)
  (fun _ wr=>s.size-wr.iterPos w.heap.size)
 case atStart=>
  exact⟨0,s.size,[],World.iter_heap w s 0,by omega,by simp,by omega,rfl,rfl,World.ownsRow_nil _ _ _ _,(Below.refl _ _).alloc (Nat.le_refl _) _,by simp[World.iter]⟩
 case round=>
  obtain⟨p,f,acc,hit,hf,hacc,hp,h1,h2,hown,hb,hsz⟩:=hrel;have H1:=Lib.hid h1;have H2:=Lib.hid h2;clear h1 h2
  by_cases hlt:p<s.size
  ·have hn:=fun ty=>Lib.run_next_any_at (P:=Tryz.prog) _ _ s p ty hit hlt;obtain⟨f,rfl⟩: ∃f',f=f'+1:=⟨f-1,by omega⟩
   by_cases ho:(Utf8.decode s p).1=65533∧(Utf8.decode s p).2=1
   ·have HO:=Lib.hid ho;clear ho
    go_wp2_with (go_at_call 57;refine(BI _ _ _ hs hlt true (decide_eq_true HO.out)).mono ?_;rintro e w' ⟨rfl,rfl⟩)
    go_ret2
    rw[Zl s f p hlt HO.out]at H1 H2;exact⟨u2,by rw[←H2.out];rfl,by rw[←H1.out];simpa using H3 (ownsRow_iterAt hown Qk _ _) (Nat.le_succ _),Lib.below_iterAt hb (Nat.le_refl _) _ _⟩
   ·have HO:=Lib.hid ho;clear ho;have hw:=Zx s p hlt
    have hsz':w.heap.size+1≤(wr.iterAt w.heap.size s (p+(Utf8.decode s p).2)).heap.size:=by rw[Lib.iterAt_size];exact hsz
    have hb':=Lib.below_iterAt hb (Nat.le_refl _) s (p+(Utf8.decode s p).2);have hit':=Lib.iterAt_heap wr _ s p (p+(Utf8.decode s p).2) hit;have hown':=ownsRow_iterAt hown (Nat.lt_succ_self _) s (p+(Utf8.decode s p).2);have HI:=Lib.hid hit';clear hit'
    go_wp2_with (first
     |(go_at_call 57;refine(BI _ _ _ hs hlt false (decide_eq_false HO.out)).mono ?_;rintro e w' ⟨rfl,rfl⟩)
     |(at_builtin;refine wpList_append_own _ rfl _ _ 76 rfl (w.heap.size+1) 113 i0 _ 2 16 Tryz.underlying76 hi hz0 hz1 hz2 rfl Qo _ _ _ rfl (hown'.alloc _) ⟨(wr.iterAt w.heap.size s (p+(Utf8.decode s p).2)).heap.size,0,none⟩ 1 1 [.int .i32 (Utf8.decode s p).1,.int .i64 p] rfl rfl ?c1 ?c2 ?c3 ?c4 ?c5 ?_))
    case c1=>exact We _ _ _ _ rfl
    case c2=>intro u hu;simp at hu;rcases hu with rfl|rfl<;>rfl
    case c3=>unfold maxLen;omega
    case c4=>omega
    case c5=>simp;omega
    intro v' w1 hown1 hgrow1 _;have hbA:=Li ((hb'.alloc Qk _)) (hown'.alloc _) hgrow1 (Nat.le_succ _) (by simp;omega);have hitA:=(LB (hown'.alloc _) hgrow1 (Nat.lt_succ_self _) (by simp;omega)).trans ((Yf _ _ (Nat.lt_of_succ_le hsz')).trans HI.out);have hszA:=hgrow1.size
    go_wp2
    go_roundw
    case rel=>
     refine⟨p+(Utf8.decode s p).2,f,acc++[((Utf8.decode s p).1,p)],hitA,by omega,by simp;omega,by omega,?_,?_,?_,hbA,?_⟩
     ·rw[←H1.out,Ux s f p hlt HO.out];simp
     ·rw[←H2.out,Ux s f p hlt HO.out]
     ·rw[←AI];simpa using hown1
     ·simp at hszA;omega
    case measure=>rw[iterPos_of hitA,iterPos_of hit];omega
  ·have hn:=fun ty=>Lib.run_next_end_at (P:=Tryz.prog) _ _ s p ty hit hlt
   go_wp2
   go_ret2
   rw[UK s f p hlt]at H1 H2;exact⟨u2,by rw[←H2.out];rfl,by rw[←H1.out];simpa using H3 hown (Nat.le_succ _),hb⟩

end
section
open Go

def QR(L:List (Nat×Nat))(n:Nat):Int:=match L[n]? with
 |some x=>Q0 x.1
 |none=> -1
def QT(s:ByteArray)(bad:Option Nat):Nat:=match bad with
 |some q=>q
 |none=>s.size
def Qq(fin:Nat)(L:List (Nat×Nat))(n:Nat):Nat:=match L[n]? with
 |some x=>x.2
 |none=>fin
def Jo(s:ByteArray)(bad:Option Nat)(L:List (Nat×Nat))(n:Nat):Nat:=Qq (QT s bad) L n

theorem I8(l:List (Nat×Nat))(k:Nat)(h:k<l.length):
  (runeCells l)[k *2]? =some (.int .i32 (l[k]).1)∧(runeCells l)[k *2+1]? =some (.int .i64 (l[k]).2):=by
 induction l generalizing k with
 |nil=>simp at h
 |cons x l ih=>
  cases k with
  |zero=>simp[runeCells]
  |succ k=>
   have:=ih k (by simpa using h);simp only[runeCells,List.flatMap_cons,List.getElem_cons_succ]at this ⊢;rw[List.getElem?_append_right (by simp;omega),List.getElem?_append_right (by simp;omega)];simp only[List.length_cons,List.length_nil]
   have e1:(k+1) *2-(0+1+1)=k *2:=by omega
   have e2:(k+1) *2+1-(0+1+1)=k *2+1:=by omega
   rw[e1,e2];exact this

def Ho(s:ByteArray)(fin:Nat):Nat→List (Nat×Nat)→Prop
 |p,[]=>p=fin
 |p,(c,a)::l=>a=p∧p<s.size∧(Utf8.decode s p).1=c∧ ¬((Utf8.decode s p).1=65533∧(Utf8.decode s p).2=1)∧Ho s fin (p+(Utf8.decode s p).2) l

theorem Dp(s:ByteArray): ∀f p,s.size≤p+f→p≤s.size→Ho s (QT s (JA s f p).2) p (JA s f p).1∧QT s (JA s f p).2≤s.size:=by
 intro f
 induction f with
 |zero=>
  intro p hf hp
  have:p=s.size:=by omega
  rw[UK s 0 p Qk];exact⟨this,Nat.le_refl _⟩
 |succ f ih=>
  intro p hf hp
  by_cases hlt:p<s.size
  ·by_cases ho:(Utf8.decode s p).1=65533∧(Utf8.decode s p).2=1
   ·rw[Zl s f p hlt ho];exact⟨rfl,hp⟩
   ·rw[Ux s f p hlt ho];have hw:=Zx s p hlt;have:=ih (p+(Utf8.decode s p).2) Qk hw.2;exact⟨⟨rfl,hlt,rfl,ho,this.1⟩,this.2⟩
  ·rw[UK s (f+1) p hlt];exact⟨(by omega:p=s.size),Nat.le_refl _⟩
theorem Ia(s:ByteArray):Ho s (QT s (each s).2) 0 (each s).1∧QT s (each s).2≤s.size:=Dp s s.size 0 Qk Qk

theorem vl(s:ByteArray)(fin:Nat): ∀l p,Ho s fin p l→p≤fin:=by
 intro l
 induction l with
 |nil=>intro p h;exact Nat.le_of_eq h
 |cons x l ih=>
  intro p h;obtain⟨c,a⟩:=x;have:=ih _ h.2.2.2.2;omega
theorem VT(s:ByteArray)(fin p:Nat)(l:List (Nat×Nat))(h:Ho s fin p l):Qq fin l 0=p:=by
 cases l with
 |nil=>exact h.symm
 |cons x l=>obtain⟨c,a⟩:=x;exact h.1
theorem Zi(fin:Nat)(l:List (Nat×Nat))(n m:Nat):Qq fin (l.drop n) m=Qq fin l (n+m):=by
 simp[Qq]
theorem W2(s:ByteArray)(fin:Nat): ∀(n:Nat) (l:List (Nat×Nat)) (p:Nat),Ho s fin p l→Ho s fin (Qq fin l n) (l.drop n):=by
 intro n
 induction n with
 |zero=>intro l p h;rw[VT s fin p l h];exact h
 |succ n ih=>
  intro l p h
  cases l with
  |nil=>exact(rfl:Qq fin [] (n+1)=fin)
  |cons x l=>
   obtain⟨c,a⟩:=x;exact ih l _ h.2.2.2.2
theorem Ob(s:ByteArray)(fin p:Nat)(l:List (Nat×Nat))(h:Ho s fin p l)(n m:Nat)(hnm:n≤m):Qq fin l n≤Qq fin l m∧Qq fin l m≤fin:=by
 have hm:=vl s fin _ _ (W2 s fin m l p h);refine⟨?_,hm⟩;obtain⟨d,rfl⟩: ∃d,m=n+d:=⟨m-n,by omega⟩;rw[←Zi];have hc:=W2 s fin n l p h
 generalize l.drop n=r at *
 generalize Qq fin l n=q at *
 clear hm h hnm
 induction d generalizing r q with
 |zero=>rw[VT s fin q r hc];exact Nat.le_refl _
 |succ d ih=>
  cases r with
  |nil=>exact Nat.le_of_eq hc
  |cons x r=>
   obtain⟨c,a⟩:=x;have:=ih r _ hc.2.2.2.2;simp only[Qq,List.getElem?_cons_succ]at this ⊢;omega
theorem Zj(s:ByteArray)(n m:Nat)(hnm:n≤m):Jo s (each s).2 (each s).1 n≤Jo s (each s).2 (each s).1 m∧Jo s (each s).2 (each s).1 m≤s.size:=by
 have h:=Ia s;have:=Ob s _ 0 _ h.1 n m hnm;exact⟨this.1,Nat.le_trans this.2 h.2⟩

theorem T8(s:ByteArray): ∀f p,s.size≤p+f→p≤s.size→
  QT s (JA s f p).2=s.size∨(QT s (JA s f p).2<s.size∧(Utf8.decode s (QT s (JA s f p).2)).1=65533∧(Utf8.decode s (QT s (JA s f p).2)).2=1):=by
 intro f
 induction f with
 |zero=>intro p hf hp;exact .inl rfl
 |succ f ih=>
  intro p hf hp
  by_cases hlt:p<s.size
  ·by_cases ho:(Utf8.decode s p).1=65533∧(Utf8.decode s p).2=1
   ·rw[Zl s f p hlt ho];exact .inr ⟨hlt,ho⟩
   ·rw[Ux s f p hlt ho];have hw:=Zx s p hlt;exact ih (p+(Utf8.decode s p).2) Qk hw.2
  ·rw[UK s (f+1) p hlt];exact .inl rfl
theorem xS(s:ByteArray):QT s (each s).2=s.size∨(QT s (each s).2<s.size∧(Utf8.decode s (QT s (each s).2)).1=65533∧(Utf8.decode s (QT s (each s).2)).2=1):=
 T8 s s.size 0 Qk Qk

def Zq:List (Nat×Nat)→List UInt8→Bool
 |_,[]=>true
 |[],_::_=>false
 |(c,_)::r,b::l=>decide (c=b.toNat)&&Zq r l
theorem x9: ∀(l:List UInt8) (r:List (Nat×Nat)),Zq r l=true→l.length≤r.length:=by
 intro l
 induction l with
 |nil=>intro r h;simp
 |cons b l ih=>
  intro r h
  cases r with
  |nil=>simp[Zq]at h
  |cons x r=>
   obtain⟨c,a⟩:=x;simp only[Zq,Bool.and_eq_true]at h;have:=ih r h.2;simp;omega

theorem Fl(s:ByteArray)(p:Nat)(h:p<s.size)(hb:(s.get! p).toNat<128):Utf8.decode s p=((s.get! p).toNat,1):=by
 rw[Lib.decode_at]
 generalize (s.get! p).toNat=b0 at *
 simp[Lib.decodeN,hb]
theorem TD(s:ByteArray)(p:Nat)(h:p<s.size)(hc:(Utf8.decode s p).1<128):(s.get! p).toNat<128:=by
 rcases Nat.lt_or_ge (s.get! p).toNat 128 with hb|hb
 ·exact hb
 ·have:=(decode_high s p h (by
   have e:s[p]'h=s.get! p:=by
    have:=get_at s p h
    simpa using this.symm
   rw[e];exact hb)).1
  omega

theorem xW(s:ByteArray)(p:Nat)(h:p<s.size):s.data.toList.drop p=s.get! p::s.data.toList.drop (p+1):=by
 rw[get_eq s p h,List.drop_eq_getElem_cons (by simpa using h)]
theorem jS(s q:ByteArray)(p:Nat)(h:p≤s.size):Ec (s.extract p s.size) q=List.isPrefixOf q.data.toList (s.data.toList.drop p):=by
 unfold Ec
 congr 1
 rw[ByteArray.data_extract,Array.toList_extract];simp only[List.extract];exact List.take_of_length_le Q1

theorem zg(s:ByteArray)(fin:Nat)(hfin:fin=s.size∨(fin<s.size∧(Utf8.decode s fin).1=65533∧(Utf8.decode s fin).2=1)):
  ∀(l:List UInt8),(∀b∈l,b.toNat<128)→ ∀(r:List (Nat×Nat)) (p:Nat),Ho s fin p r→p≤s.size→List.isPrefixOf l (s.data.toList.drop p)=Zq r l:=by
 intro l
 induction l with
 |nil=>intro hl r p hc hp;cases r<;>simp[Zq]
 |cons b l ih=>
  intro hl r p hc hp;have hb:=hl b Q1;have hl': ∀c∈l,c.toNat<128:=fun c hcm=>hl c (by simp[hcm])
  by_cases hlt:p<s.size
  ·rw[xW s p hlt];simp only[List.isPrefixOf]
   cases r with
   |nil=>
    have hpf:p=fin:=hc;rcases hfin with h|⟨h1,h2,h3⟩
    ·omega
    ·subst hpf
     have:(b==s.get! p)=false:=by
      rw[beq_eq_false_iff_ne]
      rintro rfl
      have:=Fl s p hlt hb;rw[this]at h2;simp at h2;omega
     rw[this];rfl
   |cons x r=>
    obtain⟨c,a⟩:=x;obtain⟨_,_,hcc,hno,hch⟩:=hc;simp only[Zq]
    by_cases he:b=s.get! p
    ·subst he;have hd:=Fl s p hlt hb;rw[hd]at hcc hch;have:c=(s.get! p).toNat:=hcc.symm;rw[decide_eq_true this,ih hl' r (p+1) hch Qk];simp
    ·have hne: ¬c=b.toNat:=by
      intro e;apply he;have hlow:=TD s p hlt Qk;have hd:=Fl s p hlt hlow;rw[hd]at hcc
      have:b.toNat=(s.get! p).toNat:=by omega
      exact UInt8.toNat_inj.1 this
     rw[decide_eq_false hne,show(b==s.get! p)=false by rw[beq_eq_false_iff_ne];exact he];rfl
  ·have hnil:s.data.toList.drop p=[]:=List.drop_eq_nil_of_le (by simp;omega);rw[hnil]
   cases r with
   |nil=>rfl
   |cons x r=>obtain⟨c,a⟩:=x;exact absurd hc.2.1 hlt

end
section
open Go Go.RowKit

structure QY(w:World)(g:Nat)(s:ByteArray)(A:Option Addr)(cap:Nat)(L:List (Nat×Nat))(bad:Option Nat)(n:Nat):Prop where
 blk:w.heap[g]? =some (.cells #[.string s,.slice A L.length cap,.int .i64 (Jx bad),.int .i64 n] 78 (0,0))
 cap_le:L.length≤cap
 cap_max:cap≤maxLen
 few:L.length≤100000
 le:n≤L.length
 size:s.size≤100000
 run:L=(each s).1∧bad=(each s).2
 row:0<L.length→ ∃h,A=some ⟨h,0,none⟩∧h≠g∧h<w.heap.size∧ ∀j,j<L.length *2→w.cell? ⟨h,j,none⟩=(runeCells L)[j]?

section
variable {w w':World} {g:Nat} {s:ByteArray} {A:Option Addr} {cap:Nat} {L:List (Nat×Nat)} {bad:Option Nat} {n:Nat}
theorem QY.lt(h:QY w g s A cap L bad n):g<w.heap.size:=(Array.getElem?_eq_some_iff.1 h.blk).1
theorem QY.c0(h:QY w g s A cap L bad n):w.cell? ⟨g,0,none⟩=some (.string s):=cell_of_row w g 0 _ _ _ h.blk
theorem QY.c1(h:QY w g s A cap L bad n):w.cell? ⟨g,1,none⟩=some (.slice A L.length cap):=cell_of_row w g 1 _ _ _ h.blk
theorem QY.c2(h:QY w g s A cap L bad n):w.cell? ⟨g,2,none⟩=some (.int .i64 (Jx bad)):=cell_of_row w g 2 _ _ _ h.blk
theorem QY.c3(h:QY w g s A cap L bad n):w.cell? ⟨g,3,none⟩=some (.int .i64 n):=cell_of_row w g 3 _ _ _ h.blk
theorem QY.fz(h:QY w g s A cap L bad n)(o:Nat):w.frozen? ⟨g,o,none⟩=false:=by simp[World.frozen?,h.blk]
theorem QY.drewN(h:QY w g s A cap L bad n)(q:Nat):QY (w.drewN q) g s A cap L bad n:=⟨h.blk,h.cap_le,h.cap_max,h.few,h.le,h.size,h.run,h.row⟩
theorem QY.drew(h:QY w g s A cap L bad n):QY w.drew g s A cap L bad n:=h.drewN 1
theorem QY.next(h:QY w g s A cap L bad n)(hg:w.grownBy w' (some g)){n':Nat}(hn:n'≤L.length)
  (hb:w'.heap[g]? =some (.cells #[.string s,.slice A L.length cap,.int .i64 (Jx bad),.int .i64 n'] 78 (0,0))):QY w' g s A cap L bad n':=
 ⟨hb,h.cap_le,h.cap_max,h.few,hn,h.size,h.run,fun hl=>by
  obtain⟨k,e,hk,hlt,hc⟩:=h.row hl
  exact⟨k,e,hk,Nat.lt_of_lt_of_le hlt hg.size,fun j hj=>(World.cell?_of_block (a:=⟨k,j,none⟩) (hg.block k hlt (by simpa using hk))).trans (hc j hj)⟩⟩
theorem QY.kept(h:QY w g s A cap L bad n)(hb:Below w.heap.size w w'):QY w' g s A cap L bad n:=
 ⟨(hb.block g h.lt).trans h.blk,h.cap_le,h.cap_max,h.few,h.le,h.size,h.run,fun hl=>by
  obtain⟨k,e,hk,hlt,hc⟩:=h.row hl
  exact⟨k,e,hk,Nat.lt_of_lt_of_le hlt hb.size,fun j hj=>(hb.cell (p:=⟨k,j,none⟩) hlt).trans (hc j hj)⟩⟩
theorem QY.alloc(h:QY w g s A cap L bad n)(o:Obj):QY (w.alloc o) g s A cap L bad n:=h.kept ((Below.refl _ _).alloc (Nat.le_refl _) _)
theorem QY.put(h:QY w g s A cap L bad n){n':Nat}(hn:n'≤L.length):QY (w.setCell ⟨g,3,none⟩ (.int .i64 n')) g s A cap L bad n':=
 h.next (ZI (World.grownBy.refl _ _) _ _) hn (YV h.blk 3 _)
theorem QY.oX(h:QY w g s A cap L bad n)(hgb:w.grownBy w' (some g)){k:Nat}(hk:k+1≤L.length)
  (hb:w'.heap[g]? =some (.cells #[.string s,.slice A L.length cap,.int .i64 (Jx bad),.int .i64 k] 78 (0,0))):
  QY (w'.setCell ⟨g,3,none⟩ (.int .i64 ((k:Int)+1))) g s A cap L bad (k+1):=by
 have h1:QY w' g s A cap L bad k:=h.next hgb Qk hb;have:=h1.put hk
 simpa using this
theorem QY.rune(h:QY w g s A cap L bad n)(hn:n<L.length):
  ∃k,A=some ⟨k,0,none⟩∧k<w.heap.size∧w.cell? ⟨k,n *2,none⟩=some (.int .i32 (L[n]).1)∧w.cell? ⟨k,n *2+1,none⟩=some (.int .i64 (L[n]).2):=by
 obtain⟨k,e,hk,hlt,hc⟩:=h.row Qk;exact⟨k,e,hlt,(hc _ Qk).trans (I8 L n hn).1,(hc _ Qk).trans (I8 L n hn).2⟩
end

def Quiet(v:Value)(w:World)(e:Ending)(w':World):Prop:=e=.returned v∧ ∃m,w'=w.drewN m

theorem VA(w:World)(g:Nat)(s:ByteArray)(A:Option Addr)(cap:Nat)(L:List (Nat×Nat))(bad:Option Nat)(n:Nat)(h:QY w g s A cap L bad n):
  Calls Tryz.prog 58 #[.pointer (some ⟨g,0,none⟩)] w (Quiet (.int .i64 (QR L n)) w):=by
 have c1:=h.c1;have c3:=h.c3;have hcl:=h.cap_le;have hfew:=h.few;have hle:=h.le
 by_cases hn:n<L.length
 ·obtain⟨k,rfl,hk,e1,e2⟩:=h.rune hn
  have hcls:QR L n=Q0 (L[n]).1:=by simp[QR,hn]
  rw[hcls];clear hcls e2 hle
  generalize ((L[n]'hn).1:Int)=r at *
  generalize L.length=N at *
  go_enter Tryz.func58,Tryz.ntmps58
  go_wp2_with fail
  go_quiet (fail)
  go_wp2_with fail
  go_quiet ((go_at_call 91;first|exact ji (EX (BW _ _))|exact quiet_add2 (EX (BW _ _))))
  go_wp2
  go_ret
  exact⟨rfl,_,by first|rfl|exact World.drewN_drewN _ _ _⟩
 ·have hcls:QR L n= -1:=by simp[QR,hn]
  rw[hcls]
  have hnn:L.length≤n:=by omega
  clear hcls hle
  generalize L.length=N at *
  go_enter Tryz.func58,Tryz.ntmps58
  go_wp2_with fail
  go_quiet (fail)
  go_wp2
  go_ret
  exact⟨rfl,_,by first|rfl|exact World.drewN_drewN _ _ _⟩

theorem RV(w:World)(g:Nat)(s:ByteArray)(A:Option Addr)(cap:Nat)(L:List (Nat×Nat))(bad:Option Nat)(n:Nat)(h:QY w g s A cap L bad n):
  Calls Tryz.prog 29 #[.pointer (some ⟨g,0,none⟩)] w (Quiet (.int .i64 (Jo s bad L n)) w):=by
 have c0:=h.c0;have c1:=h.c1;have c2:=h.c2;have c3:=h.c3;have hcl:=h.cap_le;have hfew:=h.few;have hle:=h.le;have hss:=h.size
 by_cases hn:n<L.length
 ·obtain⟨k,rfl,hk,e1,e2⟩:=h.rune hn
  have hcls:Jo s bad L n=(L[n]).2:=by simp[Jo,Qq,hn]
  rw[hcls];clear hcls e1 hle
  generalize ((L[n]'hn).2:Int)=r at *
  generalize L.length=N at *
  go_enter Tryz.func29,Tryz.ntmps29
  go_wp2_with fail
  go_quiet (fail)
  go_wp2_with fail
  go_quiet (fail)
  go_wp2
  go_ret
  exact⟨rfl,_,by first|rfl|exact World.drewN_drewN _ _ _⟩
 ·have hcls:Jo s bad L n=QT s bad:=by simp[Jo,Qq,hn]
  rw[hcls]
  have hnn:L.length≤n:=by omega
  clear hcls hle
  generalize L.length=N at *
  cases bad with
  |none=>
   have hb:Jx none<0:=by decide
   go_enter Tryz.func29,Tryz.ntmps29
   go_wp2_with fail
   go_quiet (fail)
   go_wp2
   go_ret
   exact⟨rfl,_,by first|rfl|exact World.drewN_drewN _ _ _⟩
  |some q=>
   have hb:0≤Jx (some q):=by simp[Jx]
   go_enter Tryz.func29,Tryz.ntmps29
   go_wp2_with fail
   go_quiet (fail)
   go_wp2
   go_ret
   exact⟨rfl,_,by first|rfl|exact World.drewN_drewN _ _ _⟩

end
section
open Go Go.RowKit
variable {r:Int}

def Zd(r:Int):Bool:=Ye r||U2 r||decide (r=39)
def Ah(L:List (Nat×Nat))(n:Nat):Bool:=match L[n]? with
 |some x=>Zd x.1
 |none=>false

theorem Fq(h:Ye r=true):Q0 r=1:=by simp[Q0,h]
theorem Hi(h1:Ye r=false)(h:U2 r=true):Q0 r=2:=by simp[Q0,h1,h]
theorem TH:Q0 39=4:=by decide+kernel
theorem D1:(Q0 r=1∨Q0 r=2∨(Q0 r=4∧r=39))↔Zd r=true:=by
 unfold Zd
 by_cases h1:Ye r=true
 ·simp[Fq h1,h1]
 ·have h1:Ye r=false:=by simpa using h1
  by_cases h2:U2 r=true
  ·simp[Hi h1 h2,h2]
  ·have h2:U2 r=false:=by simpa using h2
   have hc:Q0 r≠1∧Q0 r≠2:=by
    unfold Q0;rw[h1,h2];simp only[Bool.false_eq_true,if_false]
    repeat' split
    all_goals decide
   simp only[h1,h2,Bool.or_false,Bool.false_or,decide_eq_true_eq];constructor
   ·rintro(h|h|h)
    ·exact absurd h hc.1
    ·exact absurd h hc.2
    ·exact h.2
   ·rintro rfl
    exact .inr (.inr ⟨TH,rfl⟩)

theorem BJ(w:World)(g:Nat)(s:ByteArray)(A:Option Addr)(cap:Nat)(L:List (Nat×Nat))(bad:Option Nat)(n:Nat)(h:QY w g s A cap L bad n):
  Calls Tryz.prog 92 #[.pointer (some ⟨g,0,none⟩)] w (Quiet (.bool (Ah L n)) w):=by
 have c1:=h.c1;have c3:=h.c3;have hcl:=h.cap_le;have hfew:=h.few;have hle:=h.le
 by_cases hn:n<L.length
 ·obtain⟨k,rfl,hk,e1,e2⟩:=h.rune hn
  have hcls:QR L n=Q0 (L[n]).1:=by simp[QR,hn]
  have hm:Ah L n=Zd (L[n]).1:=by simp[Ah,hn]
  rw[hm];have hcc:=D1 (r:=((L[n]).1:Int));have hC:=VA w g s _ cap L bad n h;rw[hcls]at hC;clear hcls hm e2 hle
  generalize ((L[n]'hn).1:Int)=r at *
  have HC:=Lib.hid hC;have HCC:=Lib.hid hcc;clear hC hcc
  generalize hc:Q0 r=c at *
  have HH:=Lib.hid hc;clear hc
  generalize hL:L.length=N at *
  clear hL
  by_cases q1:c=1
  ·have t1:(c==1)=true:=by simp[q1]
   have hb:Zd r=true:=HCC.out.1 (.inl q1);rw[hb];clear q1 hb
   go_enter Tryz.func92,Tryz.ntmps92
   go_wp2_with fail
   refine HC.out.mono ?_
   rintro e w1 ⟨rfl,m,rfl⟩
   go_wp2_with fail
   go_quiet (fail)
   go_wp2
   go_ret
   exact⟨rfl,_,by first|rfl|exact World.drewN_drewN _ _ _⟩
  ·have t1:(c==1)=false:=by simp[q1]
   by_cases q2:c=2
   ·have t2:(c==2)=true:=by simp[q2]
    have hb:Zd r=true:=HCC.out.1 (.inr (.inl q2));rw[hb];clear q1 q2 hb
    go_enter Tryz.func92,Tryz.ntmps92
    go_wp2_with fail
    refine HC.out.mono ?_
    rintro e w1 ⟨rfl,m,rfl⟩
    go_wp2_with fail
    go_quiet (fail)
    go_wp2
    go_ret
    exact⟨rfl,_,by first|rfl|exact World.drewN_drewN _ _ _⟩
   ·have t2:(c==2)=false:=by simp[q2]
    by_cases q4:c=4
    ·have t4:(c==4)=true:=by simp[q4]
     have hb:Zd r=(r==39):=by
      rw[Bool.eq_iff_iff,←HCC.out];simp[q4]
     rw[hb];clear q1 q2 q4 hb
     go_enter Tryz.func92,Tryz.ntmps92
     go_wp2_with fail
     refine HC.out.mono ?_
     rintro e w1 ⟨rfl,m,rfl⟩
     go_wp2_with fail
     go_quiet (fail)
     go_wp2
     go_ret
     exact⟨rfl,_,by first|rfl|exact World.drewN_drewN _ _ _⟩
    ·have t4:(c==4)=false:=by simp[q4]
     have hb:Zd r=false:=by
      rw[Bool.eq_false_iff];intro hb;rcases HCC.out.2 hb with h|h|h
      ·exact q1 h
      ·exact q2 h
      ·exact q4 h.1
     rw[hb];clear q1 q2 q4 hb
     go_enter Tryz.func92,Tryz.ntmps92
     go_wp2_with fail
     refine HC.out.mono ?_
     rintro e w1 ⟨rfl,m,rfl⟩
     go_wp2_with fail
     go_quiet (fail)
     go_wp2
     go_ret
     exact⟨rfl,_,by first|rfl|exact World.drewN_drewN _ _ _⟩
 ·have hcls:QR L n= -1:=by simp[QR,hn]
  have hm:Ah L n=false:=by simp[Ah,hn]
  rw[hm];have hC:=VA w g s _ cap L bad n h;rw[hcls]at hC;have HC:=Lib.hid hC;clear hC hcls hm
  go_enter Tryz.func92,Tryz.ntmps92
  go_wp2_with fail
  refine HC.out.mono ?_
  rintro e w1 ⟨rfl,m,rfl⟩
  go_wp2_with fail
  go_quiet (fail)
  go_wp2
  go_ret
  exact⟨rfl,_,by first|rfl|exact World.drewN_drewN _ _ _⟩

def QC:Bool→List (Nat×Nat)→Nat
 |_,[]=>0
 |true,(c,_)::r=>if c=10 then QC false r+1 else QC true r+1
 |false,(c,_)::r=>if Yy c then QC false r+1 else if c=35 then QC true r+1 else 0
def Jb:List (Nat×Nat)→Nat
 |[]=>0
 |(c,_)::r=>if c=10 then 0 else Jb r+1
theorem Hj: ∀r:List (Nat×Nat),QC true r=Jb r+QC false (r.drop (Jb r)):=by
 intro r
 induction r with
 |nil=>rfl
 |cons x r ih=>
  obtain⟨c,a⟩:=x
  by_cases h:c=10
  ·subst h;rw[QC,Jb,if_pos rfl,if_pos rfl,List.drop_zero,QC];rw[if_pos (by decide+kernel)];omega
  ·rw[QC,Jb,if_neg h,if_neg h,List.drop_succ_cons,ih];omega
theorem XS(L:List (Nat×Nat))(n:Nat)(h:n<L.length):L.drop n=(L[n].1,L[n].2)::L.drop (n+1):=by
 rw[List.drop_eq_getElem_cons h]

def aX(w:World)(g:Nat)(s:ByteArray)(A:Option Addr)(cap:Nat)(L:List (Nat×Nat))(bad:Option Nat)(n':Nat)(e:Ending)(w':World):Prop:=
 e=.returned (.tuple #[])∧w.grownBy w' (some g)∧QY w' g s A cap L bad n'

theorem yo(w:World)(g:Nat)(s:ByteArray)(A:Option Addr)(cap:Nat)(L:List (Nat×Nat))(bad:Option Nat)(n:Nat)(h:QY w g s A cap L bad n):
  Calls Tryz.prog 59 #[.pointer (some ⟨g,0,none⟩)] w (aX w g s A cap L bad (n+Jb (L.drop n))):=by
 go_enter Tryz.func59,Tryz.ntmps59
 go_wp2_with fail
 go_loopg [] (L.length-n) (fun m wr=> ∃k:Nat,m=L.length-k∧k≤L.length∧QY wr g s A cap L bad k∧w.grownBy wr (some g)∧k+Jb (L.drop k)=n+Jb (L.drop n))
 case atStart=>exact⟨n,rfl,h.le,h,World.grownBy.refl _ _,rfl⟩
 case round=>
  obtain⟨k,rfl,hk,hx,hgb,hcount⟩:=hrel;have c1:=hx.c1;have c3:=hx.c3;have hcl:=hx.cap_le;have hfew:=hx.few;have HX:=Lib.hid hx;have HCO:=Lib.hid hcount;have hf:=hx.fz 3;clear hx hcount h
  by_cases hn:k<L.length
  ·obtain⟨j,rfl,hj,e1,e2⟩:=HX.out.rune hn;have hd:=Lib.hid (XS L k hn);clear e2
   by_cases h10:(L[k]'hn).1=10
   ·have hb:(((L[k]'hn).1:Int) !=10)=false:=by rw[h10];rfl
    have H10:=Lib.hid h10;clear h10
    generalize (((L[k]'hn).1:Nat):Int)=r at *
    go_wp2_with fail
    go_quiet (fail)
    go_wp2
    go_end0
    refine⟨rfl,JC hgb _,?_⟩
    have e:n+Jb (L.drop n)=k:=by
     rw[←HCO.out,hd.out,Jb,if_pos H10.out];rfl
    rw[e];exact HX.out.drewN _
   ·have hb:(((L[k]'hn).1:Int) !=10)=true:=by rw[bne_iff_ne];omega
    have H10:=Lib.hid h10;clear h10
    generalize (((L[k]'hn).1:Nat):Int)=r at *
    go_wp2_with fail
    go_quiet (fail)
    go_wp2
    go_roundg (L.length-(k+1))
    case measure=>omega
    case rel=>
     refine⟨k+1,rfl,hn,?_,?_,?_⟩
     ·have:=(HX.out.drewN nq).put (n':=k+1) hn
      simpa using this
     ·have:=ZI (JC hgb nq) 3 (.int .i64 ((k:Int)+1))
      simpa using this
     ·rw[←HCO.out,hd.out,Jb,if_neg H10.out];omega
  ·go_wp2_with fail
   go_quiet (fail)
   go_wp2
   go_end0
   refine⟨rfl,JC hgb _,?_⟩
   have e:n+Jb (L.drop n)=k:=by
    rw[←HCO.out,List.drop_eq_nil_of_le Qk];rfl
   rw[e];exact HX.out.drewN _

theorem Vy:Q0 r=3↔Yy r=true:=by
 unfold Q0;constructor
 ·intro h
  by_cases h1:Ye r=true
  ·simp[h1]at h
  ·by_cases h2:U2 r=true
   ·simp[h1,h2]at h
   ·by_cases h3:Yy r=true
    ·exact h3
    ·by_cases h4:Ph r=true<;>simp[h1,h2,h3,h4]at h
 ·intro h
  have hr:r=32∨r=9∨r=10∨r=13:=by simpa [Yy]using h
  rcases hr with rfl|rfl|rfl|rfl<;>decide+kernel

theorem RR(w:World)(g:Nat)(s:ByteArray)(A:Option Addr)(cap:Nat)(L:List (Nat×Nat))(bad:Option Nat)(n:Nat)(h:QY w g s A cap L bad n):
  Calls Tryz.prog 28 #[.pointer (some ⟨g,0,none⟩)] w (aX w g s A cap L bad (n+QC false (L.drop n))):=by
 go_enter Tryz.func28,Tryz.ntmps28
 go_wp2_with fail
 go_loopg [] (L.length-n) (fun m wr=> ∃k:Nat,m=L.length-k∧k≤L.length∧QY wr g s A cap L bad k∧w.grownBy wr (some g)∧k+QC false (L.drop k)=n+QC false (L.drop n))
 case atStart=>exact⟨n,rfl,h.le,h,World.grownBy.refl _ _,rfl⟩
 case round=>
  obtain⟨k,rfl,hk,hx,hgb,hcount⟩:=hrel;have c1:=hx.c1;have c3:=hx.c3;have hcl:=hx.cap_le;have hfew:=hx.few;have HX:=Lib.hid hx;have HCO:=Lib.hid hcount;have hf:=hx.fz 3;clear hx hcount h
  by_cases hn:k<L.length
  ·obtain⟨j,rfl,hj,e1,e2⟩:=HX.out.rune hn;have hd:=Lib.hid (XS L k hn)
   have hcls:QR L k=Q0 (L[k]).1:=by simp[QR,hn]
   have HCL:=Lib.hid hcls;clear e2 hcls
   by_cases hsp:Yy ((L[k]'hn).1:Int)=true
   ·have h3:Q0 (L[k]).1=3:=Vy.2 hsp
    have hb:(QR L k==3)=true:=by rw[HCL.out,h3];rfl
    have HS:=Lib.hid hsp;clear hsp h3
    go_wp2_with fail
    go_quiet (fail)
    go_wp2_with fail
    refine(VA _ g s _ cap L bad k (HX.out.drewN _)).mono ?_
    rintro e w1 ⟨rfl,m,rfl⟩
    go_wp2
    go_roundg (L.length-(k+1))
    case measure=>omega
    case rel=>
     refine⟨k+1,rfl,hn,?_,?_,?_⟩
     ·have:=(HX.out.drewN (nq+m)).put (n':=k+1) hn
      simpa using this
     ·have:=ZI (JC hgb (nq+m)) 3 (.int .i64 ((k:Int)+1))
      simpa using this
     ·rw[←HCO.out,hd.out,QC,if_pos HS.out];omega
   ·have hb:(QR L k==3)=false:=by
     rw[HCL.out,beq_eq_false_iff_ne];exact fun h=>hsp (Vy.1 h)
    have HS:=Lib.hid hsp;clear hsp
    by_cases h35:(L[k]'hn).1=35
    ·have hb2:(((L[k]'hn).1:Int)==35)=true:=by rw[h35];rfl
     have H35:=Lib.hid h35;clear h35;have HS2:Hid (Yy ((L[k]'hn).1:Int)=false):=Lib.hid (by simpa using HS.out);clear HS
     generalize hr:(((L[k]'hn).1:Nat):Int)=r at *
     have HR:=Lib.hid hr;clear hr
     go_wp2_with fail
     go_quiet (fail)
     go_wp2_with fail
     refine(VA _ g s _ cap L bad k (HX.out.drewN _)).mono ?_
     rintro e w1 ⟨rfl,m,rfl⟩
     go_wp2_with fail
     go_quiet (fail)
     go_wp2_with fail
     refine(yo _ g s _ cap L bad k (by simpa using HX.out.drewN _)).mono ?_
     rintro e w1 ⟨rfl,hg1,hx1⟩
     have hc1:Jb (L.drop k)=Jb (L.drop (k+1))+1:=by rw[hd.out,Jb,if_neg (by rw[H35.out];decide)]
     have hc2:QC false (L.drop k)=QC true (L.drop (k+1))+1:=by
      rw[hd.out,QC,if_neg (by rw[HR.out,HS2.out];decide),if_pos H35.out]
     have hc3:=Hj (L.drop (k+1));rw[List.drop_drop]at hc3;have hc4:k+Jb (L.drop k)≤L.length:=hx1.le
     have HC:=Lib.hid (show(k+Jb (L.drop k))+QC false (L.drop (k+Jb (L.drop k)))=n+QC false (L.drop n) by
      rw[←HCO.out,hc2,hc3,hc1,show k+(Jb (L.drop (k+1))+1)=k+1+Jb (L.drop (k+1)) by omega]
      omega)
     have hc5:k<k+Jb (L.drop k):=by omega
     clear hc1 hc2 hc3
     generalize k+Jb (L.drop k)=k2 at *
     go_wp2
     go_roundg (L.length-k2)
     case measure=>omega
     case rel=>exact⟨k2,rfl,hc4,hx1,Ws (JC hgb _) hg1,HC.out⟩
    ·have hb2:(((L[k]'hn).1:Int)==35)=false:=by simp;omega
     have H35:=Lib.hid h35;clear h35;have HS2:Hid (Yy ((L[k]'hn).1:Int)=false):=Lib.hid (by simpa using HS.out);clear HS
     generalize hr:(((L[k]'hn).1:Nat):Int)=r at *
     have HR:=Lib.hid hr;clear hr
     go_wp2_with fail
     go_quiet (fail)
     go_wp2_with fail
     refine(VA _ g s _ cap L bad k (HX.out.drewN _)).mono ?_
     rintro e w1 ⟨rfl,m,rfl⟩
     go_wp2_with fail
     go_quiet (fail)
     go_wp2
     refine bodyPost_ret (results_none rfl _ _ _) rfl ?_;refine⟨rfl,JC (JC hgb _) _,?_⟩
     have e:n+QC false (L.drop n)=k:=by
      rw[←HCO.out,hd.out,QC,if_neg (by rw[HR.out,HS2.out];decide),if_neg H35.out];rfl
     rw[e];exact(HX.out.drewN _).drewN _
  ·go_wp2_with fail
   go_quiet (fail)
   go_wp2
   go_end0
   refine⟨rfl,JC hgb _,?_⟩
   have e:n+QC false (L.drop n)=k:=by
    rw[←HCO.out,List.drop_eq_nil_of_le Qk];rfl
   rw[e];exact HX.out.drewN _

def Xp(s:ByteArray):Nat→Nat→Nat
 |0,_=>0
 |f+1,p=>if p<s.size then Xp s f (p+(Utf8.decode s p).2)+1 else 0
def count(s:ByteArray):Nat:=Xp s s.size 0
theorem Fm(s:ByteArray)(f p:Nat)(h: ¬p<s.size):Xp s f p=0:=by cases f<;>simp[Xp,h]
theorem Kp(s:ByteArray)(f p:Nat)(h:p<s.size):Xp s (f+1) p=Xp s f (p+(Utf8.decode s p).2)+1:=by rw[Xp,if_pos h]

theorem TG(s:ByteArray): ∀f p,Xp s f p≤f:=by
 intro f
 induction f with
 |zero=>intro p;simp[Xp]
 |succ f ih=>
  intro p;rw[Xp]
  split
  ·have:=ih (p+(Utf8.decode s p).2);omega
  ·omega

theorem Tl(s:ByteArray)(w:World)(hs:s.size≤100000):
  Calls Tryz.prog 95 #[.string s] w fun e w'=>e=.returned (.int .i64 (count s))∧Below w.heap.size w w':=by
 go_enter Tryz.func95,Tryz.ntmps95
 go_wp2
 go_loopw [3] (fun nv wr=> ∃(p f c:Nat),wr.heap[w.heap.size]? =some (.stringIter s p)∧s.size≤p+f∧p≤s.size∧c≤p∧nv=.int .i64 c∧
   c+Xp s f p=count s∧Below w.heap.size w wr)
  (fun _ wr=>s.size-wr.iterPos w.heap.size)
 case atStart=>
  exact⟨0,s.size,0,World.iter_heap w s 0,by omega,by omega,by omega,rfl,by simp[count],(Below.refl _ _).alloc (Nat.le_refl _) _⟩
 case round=>
  obtain⟨p,f,c,hit,hf,hp,hc,rfl,h1,hb⟩:=hrel;have H1:=Lib.hid h1;clear h1
  by_cases hlt:p<s.size
  ·have hn:=fun ty=>Lib.run_next_any_at (P:=Tryz.prog) _ _ s p ty hit hlt;have hw:=Zx s p hlt;obtain⟨f,rfl⟩: ∃f',f=f'+1:=⟨f-1,by omega⟩;have hit':=Lib.hid (Lib.iterAt_heap wr _ s p (p+(Utf8.decode s p).2) hit);have hb':=Lib.below_iterAt hb (Nat.le_refl _) s (p+(Utf8.decode s p).2)
   go_wp2
   go_roundw
   case rel=>exact⟨_,f,c+1,hit'.out,by omega,hw.2,by omega,by go_num,by rw[←H1.out,Kp s f p hlt];omega,hb'⟩
   case measure=>rw[iterPos_of hit'.out,iterPos_of hit];omega
  ·have hn:=fun ty=>Lib.run_next_end_at (P:=Tryz.prog) _ _ s p ty hit hlt
   go_wp2
   go_ret
   rw[Fm s f p hlt]at H1;exact⟨EW (by have:=H1.out;omega),hb⟩

end
section
open Go Go.RowKit

def Zz:List ByteArray:=[⟨#[116,114,117,101]⟩,⟨#[102,97,108,115,101]⟩,⟨#[101,120,48]⟩,⟨#[101,120,49]⟩,⟨#[101,120,50]⟩,⟨#[97,108,108,48]⟩,⟨#[97,108,108,49]⟩,⟨#[97,108,108,50]⟩,⟨#[118,97,114,48]⟩,⟨#[118,97,114,49]⟩,⟨#[118,97,114,50]⟩,⟨#[112,114,101,100]⟩,⟨#[105,110]⟩,⟨#[110,111,116,105,110]⟩,⟨#[115,117,98]⟩,⟨#[117,110,105,111,110]⟩,⟨#[105,110,116,101,114]⟩]
def ZB:List ByteArray:=[⟨#[60,61,62]⟩,⟨#[61,62]⟩,⟨#[60,61]⟩,⟨#[126,61]⟩,⟨#[61]⟩,⟨#[126]⟩,⟨#[60]⟩,⟨#[38]⟩,⟨#[124]⟩,⟨#[40]⟩,⟨#[41]⟩,⟨#[123]⟩,⟨#[125]⟩,⟨#[44]⟩,⟨#[59]⟩,⟨#[58]⟩,⟨#[43]⟩,⟨#[92]⟩]

def Gv(w:World)(h:Nat)(l:List ByteArray):Prop:= ∀k,k<l.length→w.cell? ⟨h,k,none⟩=some (.string (l.getD k ByteArray.empty))
def I4(a b:ByteArray):Bool:=a.toList==b.toList
def YJ(l:List ByteArray)(v:ByteArray):Bool:=l.any fun x=>I4 v x
theorem Lw(a b:ByteArray):I4 a b=true↔a=b:=by
 unfold I4;rw[beq_iff_eq,ByteArray.toList_eq,ByteArray.toList_eq];constructor
 ·intro h;cases a;cases b;simp at h;simp[h]
 ·rintro rfl;rfl
theorem Tx(l:List ByteArray)(v:ByteArray):YJ l v=true↔v∈l:=by
 unfold YJ;rw[List.any_eq_true];constructor
 ·rintro⟨x,hx,h⟩
  rw[(Lw v x).1 h];exact hx
 ·intro h;exact⟨v,h,(Lw v v).2 rfl⟩

def Sb(l:List ByteArray)(w:World)(e:Ending)(w':World):Prop:=
 e=.returned (.slice (some ⟨w.heap.size,0,none⟩) l.length l.length)∧Gv w' w.heap.size l∧Below w.heap.size w w'∧w.heap.size<w'.heap.size

theorem NJ(w:World)(l:List ByteArray)(t:TypeId)(cs:Array Value)(h:cs.toList=l.map Value.string):Gv (w.alloc (.cells cs t)) w.heap.size l:=by
 intro k hk;rw[cell_of_row (w.alloc (.cells cs t)) w.heap.size k cs t (0,0) (heap_alloc_new w _),←Array.getElem?_toList,h];simp[hk]

theorem qB(w:World):Calls Tryz.prog 94 #[] w (Sb Zz w):=by
 go_enter Tryz.func94,Tryz.ntmps94
 go_wp2
 go_ret
 exact⟨rfl,NJ _ _ _ _ rfl,(Below.refl _ _).alloc (Nat.le_refl _) _,by simp⟩
theorem qS(w:World):Calls Tryz.prog 96 #[] w (Sb ZB w):=by
 go_enter Tryz.func96,Tryz.ntmps96
 go_wp2
 go_ret
 exact⟨rfl,NJ _ _ _ _ rfl,(Below.refl _ _).alloc (Nat.le_refl _) _,by simp⟩

theorem jO(w:World)(h cap:Nat)(l:List ByteArray)(v:ByteArray)(hl:Gv w h l)(hlen:l.length≤100000)(hcap:l.length≤cap):
  Calls Tryz.prog 97 #[.slice (some ⟨h,0,none⟩) l.length cap,.string v] w fun e w'=>(∃i:Int,e=.returned (.int .i64 i)∧decide (0≤i)=YJ l v)∧w=w':=by
 go_enter Tryz.func97,Tryz.ntmps97
 go_wp2
 go_loop [8] (fun i=> ∃k:Nat,k≤l.length∧i=.int .i64 k∧ ∀j,j<k→I4 v (l.getD j ByteArray.empty)=false) (fun i=>l.length-(intOf i).toNat)
 case atStart=>exact⟨0,by omega,rfl,by omega⟩
 case round=>
  obtain⟨k,hk,rfl,hj⟩:=hrel;have HJ:=Lib.hid hj;have HL:=Lib.hid hl;clear hj hl
  by_cases hlt:k<l.length
  ·have hc:=HL.out k hlt
   cases hs:I4 v (l.getD k ByteArray.empty)with
   |true=>
    have hs':(v.toList==(l.getD k ByteArray.empty).toList)=true:=hs;have HS:=Lib.hid hs;clear hs
    generalize hx:l.getD k ByteArray.empty=x at *
    have HX:=Lib.hid hx;clear hx
    go_wp2
    go_ret
    refine⟨⟨k,rfl,?_⟩,rfl⟩;rw[decide_eq_true Qk]
    symm
    rw[YJ,List.any_eq_true];exact⟨x,by rw[←HX.out];simp[hlt],HS.out⟩
   |false=>
    have hs':(v.toList==(l.getD k ByteArray.empty).toList)=false:=hs;have HS:=Lib.hid hs;clear hs
    generalize hx:l.getD k ByteArray.empty=x at *
    have HX:=Lib.hid hx;clear hx
    go_wp2
    go_round
    case rel=>
     refine⟨k+1,by omega,by go_num,fun j h=>?_⟩;rcases Nat.lt_or_ge j k with h1|h1
     ·exact HJ.out j h1
     ·obtain rfl:j=k:=by omega
      rw[HX.out];exact HS.out
    case measure=>simp[intOf];omega
  ·go_wp2
   go_ret
   refine⟨⟨-1,rfl,?_⟩,rfl⟩;rw[decide_eq_false Qk]
   symm
   rw[YJ,List.any_eq_false];intro x hx;obtain⟨j,hj,rfl⟩:=List.getElem_of_mem hx;have:=HJ.out j Qk;simp only[List.getD_eq_getElem?_getD,List.getElem?_eq_getElem hj,Option.getD_some]at this;rw[this];decide

theorem Dw(w:World)(h cap:Nat)(l:List ByteArray)(v:ByteArray)(hl:Gv w h l)(hlen:l.length≤100000)(hcap:l.length≤cap):
  Calls Tryz.prog 93 #[.slice (some ⟨h,0,none⟩) l.length cap,.string v] w fun e w'=>e=.returned (.bool (YJ l v))∧w=w':=by
 go_enter Tryz.func93,Tryz.ntmps93
 go_wp2_with fail
 refine(jO w h cap l v hl hlen hcap).mono ?_
 rintro e w' ⟨⟨i,rfl,hi⟩,rfl⟩
 have HI:=Lib.hid hi;clear hi hl
 go_wp2
 go_ret
 exact⟨Ep HI.out,rfl⟩

end
section
open Go Go.RowKit
attribute [local go_sem] ZM YL

def Ju:List (Nat×Nat)→Nat
 |[]=>0
 |(c,_)::r=>if Zd c then Ju r+1 else 0
theorem IN: ∀r:List (Nat×Nat),Ju r≤r.length:=by
 intro r
 induction r with
 |nil=>simp[Ju]
 |cons x r ih=>
  obtain⟨c,a⟩:=x;rw[Ju]
  split
  ·simp;omega
  ·omega

def vL(w:World)(g:Nat)(s:ByteArray)(A:Option Addr)(cap:Nat)(L:List (Nat×Nat))(bad:Option Nat)(n m:Nat)(e:Ending)(w':World):Prop:=
 e=.returned (.tuple #[.agg #[.int .i64 (if YJ Zz (s.extract (Jo s bad L n) (Jo s bad L m))then 3 else 1),.string (s.extract (Jo s bad L n) (Jo s bad L m)),.int .i64 0,.int .i64 (Jo s bad L n)],
  .bool (decide (count (s.extract (Jo s bad L n) (Jo s bad L m))≤12))])∧w.grownBy w' (some g)∧QY w' g s A cap L bad m

set_option maxHeartbeats 1000000 in
theorem wX(w:World)(g:Nat)(s:ByteArray)(A:Option Addr)(cap:Nat)(L:List (Nat×Nat))(bad:Option Nat)(n:Nat)(h:QY w g s A cap L bad n):
  Calls Tryz.prog 60 #[.pointer (some ⟨g,0,none⟩)] w (vL w g s A cap L bad n (n+Ju (L.drop n))):=by
 go_enter Tryz.func60,Tryz.ntmps60
 go_wp2_with fail
 refine(RV _ g s _ cap L bad n (h.kept ((Below.refl _ _).alloc (Nat.le_refl _) _))).mono ?_
 rintro e w1 ⟨rfl,m,rfl⟩
 go_wp2_with fail
 go_loopg [] (L.length-n) (fun q wr=> ∃k:Nat,q=L.length-k∧k≤L.length∧n≤k∧QY wr g s A cap L bad k∧w.grownBy wr (some g)∧k+Ju (L.drop k)=n+Ju (L.drop n)∧
  wr.heap[w.heap.size]? =some (.cells #[.int .i64 0,.string ⟨#[]⟩,.int .i64 0,.int .i64 0] 74 (0,0))∧w.heap.size<wr.heap.size)
 case atStart=>
  exact⟨n,rfl,h.le,Nat.le_refl _,(h.kept ((Below.refl _ _).alloc (Nat.le_refl _) _)).drewN _,JC (YW (World.grownBy.refl _ _) _) _,rfl,heap_alloc_new w _,by simp⟩
 case round=>
  obtain⟨k,rfl,hk,hnk,hx,hgb,hcount,hB,hsz⟩:=hrel;have c3:=hx.c3;have hfew:=hx.few;have HX:=Lib.hid hx;have HCO:=Lib.hid hcount;have HBL:=Lib.hid hB;have hf:=hx.fz 3;have hglt:=h.lt;have H:=Lib.hid h;clear hx hcount h hB
  cases hmore:Ah L k with
  |true=>
   have hn:k<L.length:=by
    rcases Nat.lt_or_ge k L.length with h|h
    ·exact h
    ·simp[Ah,List.getElem?_eq_none h]at hmore
   have hd:=Lib.hid (XS L k hn)
   have hm:Zd ((L[k]'hn).1:Int)=true:=by simpa [Ah,hn]using hmore
   have HM:=Lib.hid hm;have HMA:=Lib.hid hmore;clear hm hmore
   go_wp2_with fail
   refine(BJ _ g s _ cap L bad k HX.out).mono ?_;rw[HMA.out]
   rintro e w1 ⟨rfl,m1,rfl⟩
   go_wp2
   go_roundg (L.length-(k+1))
   case measure=>omega
   case rel=>
    refine⟨k+1,rfl,hn,by omega,?_,?_,?_,?_,?_⟩
    ·have:=(HX.out.put (n':=k+1) hn).drewN m1
     simpa using this
    ·exact JC (ZI hgb 3 (.int .i64 ((k:Int)+1))) m1
    ·rw[←HCO.out,hd.out,Ju,if_pos HM.out];omega
    ·exact(Below.heap_setCell wr ⟨g,3,none⟩ _ w.heap.size (by simp;omega)).trans HBL.out
    ·simpa [World.setCell]using hsz
  |false=>
   have HMA:=Lib.hid hmore
   have hk2:n+Ju (L.drop n)=k:=by
    rw[←HCO.out];rcases Nat.lt_or_ge k L.length with h|h
    ·rw[XS L k h,Ju,if_neg]
     ·rfl
     ·simpa [Ah,h]using hmore
    ·rw[List.drop_eq_nil_of_le h];rfl
   have HK:=Lib.hid hk2;clear hmore hk2
   go_wp2_with fail
   refine(BJ _ g s _ cap L bad k HX.out).mono ?_;rw[HMA.out]
   rintro e w1 ⟨rfl,m1,rfl⟩
   go_wp2_with fail
   have hpl:=Zj s n k hnk;have hrun:=HX.out.run;rw[←hrun.1,←hrun.2]at hpl;have hss:=HX.out.size;have H1:QY (wr.drewN m1) g s A cap L bad k:=HX.out.drewN m1;have HX1:=Lib.hid H1;have c0:=H1.c0;have hgb1:=JC hgb m1;have hB1:(wr.drewN m1).heap[w.heap.size]? =_:=HBL.out;have HB1:=Lib.hid hB1;have hsz1:w.heap.size<(wr.drewN m1).heap.size:=hsz;clear hrun H1 hgb hB1 hsz HBL c3 hf HX HMA HCO
   generalize wr.drewN m1=w1 at *
   obtain⟨P0,hP0⟩: ∃P0,Jo s bad L n=P0:=⟨_,rfl⟩;obtain⟨P1,hP1⟩: ∃P1,Jo s bad L k=P1:=⟨_,rfl⟩;rw[hP0,hP1]at hpl;have hAt:=fun(W:World) (h:QY W g s A cap L bad k)=>RV W g s A cap L bad k h;rw[hP1]at hAt;have HAT:=Lib.hid hAt;have HP0:=Lib.hid hP0;have HP1:=Lib.hid hP1;rw[hP0];clear hAt hP0 hP1;obtain⟨hpl1,hpl2⟩:=hpl
   go_cut [5] (fun t5 wx=> ∃t:Nat,t5=.pointer (some ⟨t,0,none⟩)∧wx.heap[t]? =some (.cells #[.int .i64 1,.string (s.extract P0 P1),.int .i64 0,.int .i64 P0] 74 (0,0))∧
    QY wx g s A cap L bad k∧w.grownBy wx (some g)∧wx.heap[w.heap.size]? =some (.cells #[.int .i64 0,.string ⟨#[]⟩,.int .i64 0,.int .i64 0] 74 (0,0))∧w.heap.size<t∧w.heap.size<wx.heap.size)
   case first=>
    have hne:=World.new_ne w1 _ c0
    go_region_held3 (fun w'=>w'.cell? ⟨g,0,none⟩=some (.string s)) (go_keep)
     (first|(go_at_call 29;refine(HAT.out _ (by first|exact HX1.out.drew|exact(HX1.out.drew).alloc _)).mono ?_;rintro e w' ⟨rfl,m,rfl⟩))
    all_goals
     go_wp2_with fail
     go_meet
     exact⟨w1.heap.size,rfl,heap_alloc_new w1 _,(HX1.out.alloc _).drewN _,JC (YW hgb1 _) _,(Yf w1 _ hsz1).trans HB1.out,hsz1,by simp;omega⟩
   case rest=>
    obtain⟨t,rfl,htb,hx2,hgb2,hB2,ht,hsz2⟩:=hcut;clear hgb1 HB1 hsz1 HX1 c0 HAT;have ct:wc.cell? ⟨t,1,none⟩=some (.string (s.extract P0 P1)):=cell_of_row wc t 1 _ _ _ htb;have htl:t<wc.heap.size:=(Array.getElem?_eq_some_iff.1 htb).1;have HTB:=Lib.hid htb;have HX2:=Lib.hid hx2;have HB2:=Lib.hid hB2;clear htb hx2 hB2
    generalize htx:s.extract P0 P1=text at *
    have HTX:=Lib.hid htx;clear htx
    go_wp2_with fail
    go_cut [30] (fun c30 wx=>c30=.bool (YJ Zz text)∧Below wc.heap.size wc wx)
    case first=>
     go_region_held3 (fun w'=>w'.cell? ⟨t,1,none⟩=some (.string text)) (first|go_keep|exact(hbw.cell htl).trans ct)
      (first
       |(go_at_call 94;refine(qB _).mono ?_;rintro e w2 ⟨rfl,hs,hbw,hsz⟩)
       |(go_at_call 93;refine(Dw _ _ _ Zz _ hs Qo Qo).mono ?_;rintro e w3 ⟨rfl,rfl⟩))
     all_goals
      go_wp2_with fail
      go_meet
      exact⟨rfl,(RT (Below.refl _ _)).trans hbw⟩
    case rest=>
     obtain⟨rfl,hbw⟩:=hcut;have hgb3:=Kc hgb2 hbw;have hT3:=(hbw.block t htl).trans HTB.out;have hB3:=(hbw.block _ hsz2).trans HB2.out;have hG3:=(hbw.block g HX2.out.lt).trans HX2.out.blk;have hsz3:=Nat.lt_of_lt_of_le hsz2 hbw.size;have htl3:=Nat.lt_of_lt_of_le htl hbw.size;clear hgb2 HTB HB2 HX2 hsz2 htl ct hbw
     have hcz:text.size≤100000:=by rw[←HTX.out];simp;omega
     have hcn:(count text:Int)≤100000:=by
      have:=TG text text.size 0;unfold count;omega
     have t0:=cell_of_row _ t 0 _ _ _ hT3;have t1:=cell_of_row _ t 1 _ _ _ hT3;have t2:=cell_of_row _ t 2 _ _ _ hT3;have t3:=cell_of_row _ t 3 _ _ _ hT3
     have tf: ∀o,wc.frozen? ⟨t,o,none⟩=false:=fun o=>by simp[World.frozen?,hT3]
     simp at t0 t1 t2 t3;have HB3:=Lib.hid hB3;have HG3:=Lib.hid hG3;have HT3:=Lib.hid hT3;clear hB3 hG3 hT3;obtain⟨kd,hkd⟩: ∃kd:Int,(if YJ Zz text then 3 else 1)=kd:=⟨_,rfl⟩;have HKD:=Lib.hid hkd;clear hkd;obtain⟨W3,rfl⟩: ∃W3:World,wc=W3:=⟨_,rfl⟩
     go_upto_if 30 with(fail)
     go_cut [30] (fun _ wx=>wx.heap[t]? =some (.cells #[.int .i64 kd,.string text,.int .i64 0,.int .i64 P0] 74 (0,0))∧
      wx.heap[w.heap.size]? =some (.cells #[.int .i64 0,.string ⟨#[]⟩,.int .i64 0,.int .i64 0] 74 (0,0))∧
      wx.heap[g]? =some (.cells #[.string s,.slice A L.length cap,.int .i64 (Jx bad),.int .i64 k] 78 (0,0))∧w.grownBy wx (some g))
     case first=>
      have tf0:=tf 0
      cases hk:YJ Zz text with
      |true=>
       rw[hk]at HKD;obtain rfl:3=kd:=HKD.out
       go_wp2
       go_meet
       refine⟨YV HT3.out 0 _,?_,?_,UI hgb3 (by simp;omega) _⟩
       ·exact(Below.heap_setCell _ _ _ _ (by simp;omega)).trans HB3.out
       ·exact(Below.heap_setCell _ _ _ _ (by simp;omega)).trans HG3.out
      |false=>
       rw[hk]at HKD;obtain rfl:1=kd:=HKD.out
       go_wp2
       go_meet
       exact⟨HT3.out,HB3.out,HG3.out,hgb3⟩
     case rest=>
      obtain⟨hT4,hB4,hG4,hgb4⟩:=hcut;clear t0 t1 t2 t3 tf HT3 HB3 HG3 hgb3;have hgl:g<wc.heap.size:=(Array.getElem?_eq_some_iff.1 hG4).1;have htl:t<wc.heap.size:=(Array.getElem?_eq_some_iff.1 hT4).1;have hbl:w.heap.size<wc.heap.size:=(Array.getElem?_eq_some_iff.1 hB4).1;have t0:=cell_of_row _ t 0 _ _ _ hT4;have t1:=cell_of_row _ t 1 _ _ _ hT4;have t2:=cell_of_row _ t 2 _ _ _ hT4;have t3:=cell_of_row _ t 3 _ _ _ hT4;simp at t0 t1 t2 t3;have HB4:=Lib.hid hB4;have HG4:=Lib.hid hG4
      have htne:t≠w.heap.size:=by omega
      clear hT4 hB4 hG4
      go_wp2_with fail
      go_region_with (first
       |(go_at_call 95;refine(Tl text _ hcz).mono ?_;rintro e w4 ⟨rfl,hb4⟩;have B4:=(hb4.block _ hbl).trans HB4.out;have b0:=cell_of_row w4 _ 0 _ _ _ B4;have b1:=cell_of_row w4 _ 1 _ _ _ B4;have b2:=cell_of_row w4 _ 2 _ _ _ B4;have b3:=cell_of_row w4 _ 3 _ _ _ B4;have bf: ∀o,w4.frozen? ⟨w.heap.size,o,none⟩=false:=(fun o=>by simp[World.frozen?,B4]);simp at b0 b1 b2 b3;have HB5:=Lib.hid B4;clear B4;have s0:=(hb4.cell (p:=⟨t,0,none⟩) htl).trans t0;have s1:=(hb4.cell (p:=⟨t,1,none⟩) htl).trans t1;have s2:=(hb4.cell (p:=⟨t,2,none⟩) htl).trans t2;have s3:=(hb4.cell (p:=⟨t,3,none⟩) htl).trans t3))
      all_goals
       go_wp2
       have hF:=YV (YV (YV (YV HB5.out 0 (.int .i64 kd)) 1 (.string text)) 2 (.int .i64 0)) 3 (.int .i64 P0);have r0:=cell_of_row _ w.heap.size 0 _ _ _ hF;have r1:=cell_of_row _ w.heap.size 1 _ _ _ hF;have r2:=cell_of_row _ w.heap.size 2 _ _ _ hF;have r3:=cell_of_row _ w.heap.size 3 _ _ _ hF;have r0:_=some (Value.int .i64 kd):=r0;have r1:_=some (Value.string text):=r1;have r2:_=some (Value.int .i64 0):=r2;have r3:_=some (Value.int .i64 P0):=r3;refine bodyPost_ret (v:=.tuple #[.agg #[.int .i64 kd,.string text,.int .i64 0,.int .i64 P0],.bool (decide ((count text:Int)≤12))]) (by simp[results,Tryz.results60,go_sem,r0,r1,r2,r3]) rfl ?_;have hb5:Below wc.heap.size wc w4:=(RT (Below.refl _ _)).trans hb4;have G:w.grownBy _ (some g):=UI (UI (UI (UI (Kc hgb4 hb5) (p:=⟨w.heap.size,0,none⟩) (Nat.le_refl _) (.int .i64 kd)) (p:=⟨w.heap.size,1,none⟩) (Nat.le_refl _) (.string text)) (p:=⟨w.heap.size,2,none⟩) (Nat.le_refl _) (.int .i64 0)) (p:=⟨w.heap.size,3,none⟩) (Nat.le_refl _) (.int .i64 P0);refine⟨?_,G,H.out.next G (by rw[HK.out];exact hk) ?_⟩
       ·rw[HK.out,HP0.out,HP1.out,HTX.out,HKD.out,show decide ((count text:Int)≤12)=decide (count text≤12) by rw[decide_eq_decide];omega]
       ·rw[HK.out,E2 Qk];exact(hb5.block g hgl).trans HG4.out

end
section
open Go Go.RowKit
set_option maxRecDepth 10000
attribute [local go_sem] ZM YL

def J9(cap:Nat):Nat→List (Nat×Nat)→Nat
 |acc,[]=>acc
 |acc,(c,_)::r=>if U2 c then J9 cap (min (acc *10+(c-48)) cap) r else acc
def YM:List (Nat×Nat)→Nat
 |[]=>0
 |(c,_)::r=>if U2 c then YM r+1 else 0

theorem YD{r:Int}:Q0 r=2↔U2 r=true:=by
 constructor
 ·intro h;unfold Q0 at h
  by_cases h1:Ye r=true
  ·simp[h1]at h
  ·by_cases h2:U2 r=true
   ·exact h2
   ·rw[if_neg h1,if_neg h2]at h
    split at h
    ·simp at h
    ·split at h<;>simp at h
 ·intro h
  have h1:Ye r=false:=by
   simp only[U2,decide_eq_true_eq]at h;simp only[Ye,decide_eq_false_iff_not];omega
  exact Hi h1 h

def qq(w:World)(g:Nat)(s:ByteArray)(A:Option Addr)(cap:Nat)(L:List (Nat×Nat))(bad:Option Nat)(n:Nat)(first:Nat)(e:Ending)(w':World):Prop:=
 e=.returned (.tuple #[.agg #[.int .i64 2,.string ⟨#[]⟩,.int .i64 (J9 100 0 (L.drop n)),.int .i64 (Jo s bad L n)],
  .bool (decide (J9 100 0 (L.drop n)≤99)&&(decide (first≠48)||decide (YM (L.drop n)=1)))])∧w.grownBy w' (some g)∧QY w' g s A cap L bad (n+YM (L.drop n))

set_option maxHeartbeats 1000000 in
theorem jz(w:World)(g:Nat)(s:ByteArray)(A:Option Addr)(cap:Nat)(L:List (Nat×Nat))(bad:Option Nat)(n:Nat)(h:QY w g s A cap L bad n)(hn0:n<L.length):
  Calls Tryz.prog 61 #[.pointer (some ⟨g,0,none⟩)] w (qq w g s A cap L bad n (L[n]).1):=by
 have hrun:=h.run;have hpl:=(Zj s n n (Nat.le_refl _)).2;rw[←hrun.1,←hrun.2]at hpl;have hss:=h.size;clear hrun
 go_enter Tryz.func61,Tryz.ntmps61
 go_wp2_with fail
 refine(RV _ g s _ cap L bad n (h.alloc _)).mono ?_
 rintro e w1 ⟨rfl,m,rfl⟩
 obtain⟨P0,hP0⟩: ∃P0,Jo s bad L n=P0:=⟨_,rfl⟩;rw[hP0]at hpl ⊢;have HP0:=Lib.hid hP0;clear hP0;obtain⟨j,rfl,hj,e1,e2⟩:=h.rune hn0;have c1:=h.c1;have c3:=h.c3;have hcl:=h.cap_le;have hfew:=h.few;have hglt:=h.lt;have hgl2:=h.lt;clear e2;obtain⟨R0,hR0⟩: ∃R0,(L[n]'hn0).1=R0:=⟨_,rfl⟩;rw[hR0]at e1;have HR0:=Lib.hid hR0;clear hR0;have k1:=(World.cell?_alloc_lt w (.cells #[.int .i64 0,.string ⟨#[]⟩,.int .i64 0,.int .i64 0] 74) ⟨g,1,none⟩ hglt).trans c1;have k3:=(World.cell?_alloc_lt w (.cells #[.int .i64 0,.string ⟨#[]⟩,.int .i64 0,.int .i64 0] 74) ⟨g,3,none⟩ hglt).trans c3;have ke:=(World.cell?_alloc_lt w (.cells #[.int .i64 0,.string ⟨#[]⟩,.int .i64 0,.int .i64 0] 74) ⟨j,n *2,none⟩ hj).trans e1
 go_wp2_with fail
 go_quiet (fail)
 go_wp2_with fail
 have H:=Lib.hid h;have hdn:=Lib.hid (XS L n hn0);clear c1 c3 k1 k3 ke e1 h hj
 go_loopg [] (L.length-n) (fun q wr=> ∃(k acc:Nat),q=L.length-k∧k≤L.length∧QY wr g s (some ⟨j,0,none⟩) cap L bad k∧w.grownBy wr (some g)∧acc≤100∧
  k+YM (L.drop k)=n+YM (L.drop n)∧J9 100 acc (L.drop k)=J9 100 0 (L.drop n)∧
  wr.heap[w.heap.size]? =some (.cells #[.int .i64 0,.string ⟨#[]⟩,.int .i64 0,.int .i64 0] 74 (0,0))∧
  wr.heap[w.heap.size+1]? =some (.cells #[.int .i64 2,.string ⟨#[]⟩,.int .i64 acc,.int .i64 P0] 74 (0,0)))
 case atStart=>
  refine⟨n,0,rfl,by omega,(((H.out.alloc _).alloc _).drewN _).drewN _,JC (JC (YW (YW (World.grownBy.refl _ _) _) _) _) _,by omega,rfl,rfl,?_,?_⟩
  ·exact(Yf (w.alloc _) _ Q1).trans (heap_alloc_new w _)
  ·have:=heap_alloc_new (w.alloc (.cells #[.int .i64 0,.string ⟨#[]⟩,.int .i64 0,.int .i64 0] 74)) (.cells #[.int .i64 2,.string ⟨#[]⟩,.int .i64 0,.int .i64 P0] 74)
   simpa using this
 case round=>
  obtain⟨k,acc,rfl,hk,hx,hgb,hacc,hcount,hnum,hB,hT⟩:=hrel;have c1:=hx.c1;have c3:=hx.c3;have HX:=Lib.hid hx;have HCO:=Lib.hid hcount;have HNU:=Lib.hid hnum;have HBL:=Lib.hid hB;have HTL:=Lib.hid hT;have hf:=hx.fz 3;have hbl:w.heap.size<wr.heap.size:=(Array.getElem?_eq_some_iff.1 hB).1;have htl:w.heap.size+1<wr.heap.size:=(Array.getElem?_eq_some_iff.1 hT).1;have t2:wr.cell? ⟨w.heap.size+1,2,none⟩=some (.int .i64 acc):=cell_of_row _ _ 2 _ _ _ hT
  have tf:wr.frozen? ⟨w.heap.size+1,2,none⟩=false:=by simp[World.frozen?,hT]
  clear hx hcount hnum hB hT
  by_cases hd: ∃h:k<L.length,U2 ((L[k]).1:Int)=true
  ·obtain⟨hn,hdg⟩:=hd;obtain⟨j',hj',hj,e1,e2⟩:=HX.out.rune hn
   obtain rfl:j=j':=by injection hj' with e;injection e
   have hdr:=Lib.hid (XS L k hn)
   have hcls:(QR L k==2)=true:=by
    rw[beq_iff_eq,show QR L k=Q0 (L[k]).1 by simp[QR,hn]];exact YD.2 hdg
   have HD:=Lib.hid hdg
   have hr:48≤(L[k]'hn).1∧(L[k]'hn).1≤57:=by
    simp only[U2,decide_eq_true_eq]at hdg;omega
   clear e2 hdg hj';obtain⟨R,hR⟩: ∃R,(L[k]'hn).1=R:=⟨_,rfl⟩;rw[hR]at e1 hr;have HR:=Lib.hid hR;clear hR
   go_wp2_with fail
   refine(VA _ g s _ cap L bad k HX.out).mono ?_
   rintro e w1 ⟨rfl,m1,rfl⟩
   go_wp2_with fail
   refine N3 19 (by kernel_rfl) (by kernel_rfl) ?_;simp only[List.take_succ_cons,List.take_zero,List.drop_succ_cons,List.drop_zero];have hA1:IntKind.i64.wrap ((acc:Int) *10)=(acc:Int) *10:=IntWalk.i64_in _ Qk
   have hA2:IntKind.i32.wrap ((R:Int)-48)=(R:Int)-48:=by rw[IntKind.wrap_i32];omega
   have hA3:IntKind.i64.wrap ((R:Int)-48)=(R:Int)-48:=IntWalk.i64_in _ Qk;have hA4:IntKind.i64.wrap ((acc:Int) *10+((R:Int)-48))=(acc:Int) *10+((R:Int)-48):=IntWalk.i64_in _ Qk
   repeat still_step
   clear hA1 hA2 hA3 hA4;refine wpStill_nil ?_
   have hn2:J9 100 (min (acc *10+(R-48)) 100) (L.drop (k+1))=J9 100 0 (L.drop n):=by
    rw[←HNU.out,hdr.out,J9,if_pos HD.out,HR.out]
   have hc2:k+1+YM (L.drop (k+1))=n+YM (L.drop n):=by
    rw[←HCO.out,hdr.out,YM,if_pos HD.out];omega
   have HN2:=Lib.hid hn2;have HC2:=Lib.hid hc2;clear hn2 hc2
   go_wp2
   all_goals
    go_roundg (L.length-(k+1))
    case measure=>omega
    case rel=>
     refine⟨k+1,min (acc *10+(R-48)) 100,rfl,hn,?_,?_,by omega,HC2.out,HN2.out,?_,?_⟩
     ·exact(H.out.oX (UI hgb Q1 _) hn ((Below.heap_setCell _ _ _ _ (by simp;omega)).trans HX.out.blk)).drewN _
     ·exact JC (ZI (UI hgb Q1 _) 3 _) _
     ·exact(Below.heap_setCell _ ⟨g,3,none⟩ _ w.heap.size (by simp;omega)).trans ((Below.heap_setCell wr ⟨w.heap.size+1,2,none⟩ _ w.heap.size Q1).trans HBL.out)
     ·refine(Below.heap_setCell _ ⟨g,3,none⟩ _ (w.heap.size+1) (by simp;omega)).trans ((YV HTL.out 2 _).trans ?_);simp;omega
  ·have hne:(QR L k==2)=false:=by
    rw[beq_eq_false_iff_ne];intro h2;apply hd;rcases Nat.lt_or_ge k L.length with h|h
    ·exact⟨h,YD.1 (by rw[show QR L k=Q0 (L[k]).1 by simp[QR,h]]at h2;exact h2)⟩
    ·simp[QR,List.getElem?_eq_none h]at h2
   have hz1:YM (L.drop k)=0:=by
    rcases Nat.lt_or_ge k L.length with h|h
    ·rw[XS L k h,YM,if_neg (fun e=>hd ⟨h,e⟩)]
    ·rw[List.drop_eq_nil_of_le h];rfl
   have hz2:J9 100 acc (L.drop k)=acc:=by
    rcases Nat.lt_or_ge k L.length with h|h
    ·rw[XS L k h,J9,if_neg (fun e=>hd ⟨h,e⟩)]
    ·rw[List.drop_eq_nil_of_le h];rfl
   have hk2:k=n+YM (L.drop n):=by rw[←HCO.out,hz1];rfl
   have hac:J9 100 0 (L.drop n)=acc:=by rw[←HNU.out,hz2]
   have HK2:=Lib.hid hk2;have HAC:=Lib.hid hac
   have hnk:n≤k:=by omega
   clear hz1 hz2 hk2 hac hd;have t0:wr.cell? ⟨w.heap.size+1,0,none⟩=some (.int .i64 2):=cell_of_row _ _ 0 _ _ _ HTL.out;have t1:wr.cell? ⟨w.heap.size+1,1,none⟩=some (.string ⟨#[]⟩):=cell_of_row _ _ 1 _ _ _ HTL.out;have t3:wr.cell? ⟨w.heap.size+1,3,none⟩=some (.int .i64 P0):=cell_of_row _ _ 3 _ _ _ HTL.out;have b0:wr.cell? ⟨w.heap.size,0,none⟩=some (.int .i64 0):=cell_of_row _ _ 0 _ _ _ HBL.out;have b1:wr.cell? ⟨w.heap.size,1,none⟩=some (.string ⟨#[]⟩):=cell_of_row _ _ 1 _ _ _ HBL.out;have b2:wr.cell? ⟨w.heap.size,2,none⟩=some (.int .i64 0):=cell_of_row _ _ 2 _ _ _ HBL.out;have b3:wr.cell? ⟨w.heap.size,3,none⟩=some (.int .i64 0):=cell_of_row _ _ 3 _ _ _ HBL.out
   have bf: ∀o,wr.frozen? ⟨w.heap.size,o,none⟩=false:=fun o=>by simp[World.frozen?,HBL.out]
   go_wp2_with fail
   refine(VA _ g s _ cap L bad k HX.out).mono ?_
   rintro e w1 ⟨rfl,m1,rfl⟩
   have hA1:IntKind.i64.wrap ((k:Int)-(n:Int))=(k:Int)-(n:Int):=IntWalk.i64_in _ Qk;have HA1:=Lib.hid hA1;clear hA1;have hF:=YV (YV (YV (YV HBL.out 0 (.int .i64 2)) 1 (.string ⟨#[]⟩)) 2 (.int .i64 acc)) 3 (.int .i64 P0);have r0:_=some (Value.int .i64 2):=cell_of_row _ w.heap.size 0 _ _ _ hF;have r1:_=some (Value.string ⟨#[]⟩):=cell_of_row _ w.heap.size 1 _ _ _ hF;have r2:_=some (Value.int .i64 acc):=cell_of_row _ w.heap.size 2 _ _ _ hF;have r3:_=some (Value.int .i64 P0):=cell_of_row _ w.heap.size 3 _ _ _ hF;have G:w.grownBy _ (some g):=UI (UI (UI (UI hgb (p:=⟨w.heap.size,0,none⟩) (Nat.le_refl _) (.int .i64 2)) (p:=⟨w.heap.size,1,none⟩) (Nat.le_refl _) (.string ⟨#[]⟩)) (p:=⟨w.heap.size,2,none⟩) (Nat.le_refl _) (.int .i64 acc)) (p:=⟨w.heap.size,3,none⟩) (Nat.le_refl _) (.int .i64 P0);have GB:=(E2 (w:=wr) (b:=w.heap.size) (g:=g) Qk (.int .i64 2) (.string ⟨#[]⟩) (.int .i64 acc) (.int .i64 P0)).trans HX.out.blk;have HR0':=Lib.hid r0;have HR1':=Lib.hid r1;have HR2':=Lib.hid r2;have HR3':=Lib.hid r3;have HG':=Lib.hid G;have HGB':=Lib.hid GB;clear r0 r1 r2 r3 G GB hF
   have fin: ∀(b:Bool) (q:Nat),(b=(decide (acc≤99)&&(decide (R0≠48)||decide (YM (L.drop n)=1))))→
     qq w g s (some ⟨j,0,none⟩) cap L bad n R0 (.returned (.tuple #[.agg #[.int .i64 2,.string ⟨#[]⟩,.int .i64 acc,.int .i64 P0],.bool b]))
      (((((wr.setCell ⟨w.heap.size,0,none⟩ (.int .i64 2)).setCell ⟨w.heap.size,1,none⟩ (.string ⟨#[]⟩)).setCell ⟨w.heap.size,2,none⟩ (.int .i64 acc)).setCell ⟨w.heap.size,3,none⟩ (.int .i64 P0)).drewN q):=by
    intro b q hb;refine⟨?_,JC HG'.out _,?_⟩
    ·rw[HAC.out,HP0.out,hb]
    ·have:=(H.out.next HG'.out (n':=k) hk HGB'.out).drewN q;rw[←HK2.out];exact this
   have FIN:=Lib.hid fin;clear fin;rcases Nat.lt_or_ge 99 acc with h99|h99
   ·have q1:decide ((acc:Int)≤99)=false:=decide_eq_false Qk
    go_wp2_with fail
    go_region
    go_wp2
    have r0:=HR0'.out;have r1:=HR1'.out;have r2:=HR2'.out;have r3:=HR3'.out;refine bodyPost_ret (v:=.tuple #[.agg #[.int .i64 2,.string ⟨#[]⟩,.int .i64 acc,.int .i64 P0],.bool false]) (by simp[results,Tryz.results61,go_sem,r0,r1,r2,r3]) rfl ?_;rw[HR0.out];exact FIN.out _ _ (by rw[decide_eq_false (by omega: ¬acc≤99)];rfl)
   ·have q1:decide ((acc:Int)≤99)=true:=decide_eq_true Qk
    by_cases h48:R0=48
    ·have q2:((R0:Int) !=48)=false:=by rw[h48];rfl
     have H48:=Lib.hid h48;clear h48;have hA1:=HA1.out
     by_cases h1:YM (L.drop n)=1
     ·have q3:((k:Int)-(n:Int)==1)=true:=by rw[beq_iff_eq];have:=HK2.out;omega
      have H1:=Lib.hid h1;clear h1
      go_wp2_with fail
      go_region
      go_wp2
      have r0:=HR0'.out;have r1:=HR1'.out;have r2:=HR2'.out;have r3:=HR3'.out;refine bodyPost_ret (v:=.tuple #[.agg #[.int .i64 2,.string ⟨#[]⟩,.int .i64 acc,.int .i64 P0],.bool true]) (by simp[results,Tryz.results61,go_sem,r0,r1,r2,r3]) rfl ?_;rw[HR0.out];exact FIN.out _ _ (by rw[decide_eq_true (by omega:acc≤99),decide_eq_true H1.out];simp)
     ·have q3:((k:Int)-(n:Int)==1)=false:=by rw[beq_eq_false_iff_ne];have:=HK2.out;omega
      have H1:=Lib.hid h1;clear h1
      go_wp2_with fail
      go_region
      go_wp2
      have r0:=HR0'.out;have r1:=HR1'.out;have r2:=HR2'.out;have r3:=HR3'.out;refine bodyPost_ret (v:=.tuple #[.agg #[.int .i64 2,.string ⟨#[]⟩,.int .i64 acc,.int .i64 P0],.bool false]) (by simp[results,Tryz.results61,go_sem,r0,r1,r2,r3]) rfl ?_;rw[HR0.out];exact FIN.out _ _ (by rw[decide_eq_false H1.out,H48.out];simp)
    ·have q2:((R0:Int) !=48)=true:=by rw[bne_iff_ne];omega
     have H48:=Lib.hid h48;clear h48
     go_wp2_with fail
     go_region
     go_wp2
     have r0:=HR0'.out;have r1:=HR1'.out;have r2:=HR2'.out;have r3:=HR3'.out;refine bodyPost_ret (v:=.tuple #[.agg #[.int .i64 2,.string ⟨#[]⟩,.int .i64 acc,.int .i64 P0],.bool true]) (by simp[results,Tryz.results61,go_sem,r0,r1,r2,r3]) rfl ?_;rw[HR0.out];exact FIN.out _ _ (by rw[decide_eq_true (by omega:acc≤99),decide_eq_true H48.out];simp)

end
section
open Go Go.RowKit
attribute [local go_sem] ZM YL

theorem IZ(s p:ByteArray)(w:World)(b:Bool)(hs:s.size≤100000)(hp:p.size≤100000)(h:Ec s p=b):
 Calls Tryz.prog 90 #[.string s,.string p] w fun e w'=>e=.returned (.bool b)∧w=w':=h▸Hf s p w hs hp

def VH(r:List (Nat×Nat)):Option ByteArray:=ZB.find? fun sg=>Zq r sg.data.toList

theorem Pf: ∀sg∈ZB,∀b∈sg.data.toList,b.toNat<128:=by decide+kernel
theorem Ht: ∀sg∈ZB,1≤sg.size∧sg.size≤3:=by decide+kernel

theorem Rc(s sg:ByteArray)(n:Nat)(hsg:sg∈ZB):
  Ec (s.extract (Jo s (each s).2 (each s).1 n) s.size) sg=Zq ((each s).1.drop n) sg.data.toList:=by
 have hc:=Ia s;have hp:=(Zj s n n (Nat.le_refl _)).2;rw[jS s sg _ hp];exact zg s _ (xS s) _ (Pf sg hsg) _ _ (W2 s _ n _ 0 hc.1) hp

def KB(w:World)(g:Nat)(s:ByteArray)(A:Option Addr)(cap:Nat)(L:List (Nat×Nat))(bad:Option Nat)(n:Nat)(e:Ending)(w':World):Prop:=
 match VH (L.drop n)with
 |some sg=>e=.returned (.tuple #[.agg #[.int .i64 3,.string sg,.int .i64 0,.int .i64 (Jo s bad L n)],.bool true])∧w.grownBy w' (some g)∧QY w' g s A cap L bad (n+sg.size)
 |none=>e=.returned (.tuple #[.agg #[.int .i64 0,.string ⟨#[]⟩,.int .i64 0,.int .i64 0],.bool false])∧w.grownBy w' (some g)∧QY w' g s A cap L bad n

set_option maxHeartbeats 1000000 in
theorem yw(w:World)(g:Nat)(s:ByteArray)(A:Option Addr)(cap:Nat)(L:List (Nat×Nat))(bad:Option Nat)(n:Nat)(h:QY w g s A cap L bad n):
  Calls Tryz.prog 62 #[.pointer (some ⟨g,0,none⟩)] w (KB w g s A cap L bad n):=by
 have hrun:=h.run;have hpl:=(Zj s n n (Nat.le_refl _)).2;rw[←hrun.1,←hrun.2]at hpl;have hpre:=fun sg hsg=>Rc s sg n hsg;rw[←hrun.1,←hrun.2]at hpre;have hss:=h.size;clear hrun;obtain⟨P0,hP0⟩: ∃P0,Jo s bad L n=P0:=⟨_,rfl⟩;have hat:=fun(W:World) (h:QY W g s A cap L bad n)=>RV W g s A cap L bad n h;rw[hP0]at hpl hpre hat;have HP0:=Lib.hid hP0;have HPRE:=Lib.hid hpre;have HAT:=Lib.hid hat;clear hP0 hpre hat;have H:=Lib.hid h;have hglt:=h.lt;clear h
 go_enter Tryz.func62,Tryz.ntmps62
 go_wp2_with fail
 refine(qS _).mono ?_
 rintro e w1 ⟨rfl,hst,hb1,hsz1⟩
 have hW0:(w.alloc (.cells #[.int .i64 0,.string ⟨#[]⟩,.int .i64 0,.int .i64 0] 74)).heap.size=w.heap.size+1:=by simp
 have hx1:QY w1 g s A cap L bad n:=(H.out.alloc _).kept hb1;have hgb1:w.grownBy w1 (some g):=Kc (YW (World.grownBy.refl _ _) _) hb1;have hB1:w1.heap[w.heap.size]? =some (.cells #[.int .i64 0,.string ⟨#[]⟩,.int .i64 0,.int .i64 0] 74 (0,0)):=(hb1.block _ Q1).trans (heap_alloc_new w _);rw[hW0]at hst hsz1;clear hW0 hb1;have HX1:=Lib.hid hx1;have HB1:=Lib.hid hB1;have HST:=Lib.hid hst;clear hx1 hB1 hst;have hl18:ZB.length=18:=rfl
 go_wp2_with fail
 go_loopg [9] 18 (fun q iv wr=> ∃k:Nat,q=18-k∧k≤18∧iv=.int .i64 k∧QY wr g s A cap L bad n∧w.grownBy wr (some g)∧
  wr.heap[w.heap.size]? =some (.cells #[.int .i64 0,.string ⟨#[]⟩,.int .i64 0,.int .i64 0] 74 (0,0))∧Gv wr (w.heap.size+1) ZB∧w.heap.size+1<wr.heap.size∧
  ∀j,j<k→Zq (L.drop n) (ZB.getD j ByteArray.empty).data.toList=false)
 case atStart=>exact⟨0,rfl,by omega,rfl,HX1.out,hgb1,HB1.out,HST.out,hsz1,by omega⟩
 case round=>
  obtain⟨k,rfl,hk,rfl,hx,hgb,hB,hst,hsz,hj⟩:=hrel;clear HX1 HB1 HST hsz1 hgb1;have HX:=Lib.hid hx;have HB:=Lib.hid hB;have HS:=Lib.hid hst;have HJ:=Lib.hid hj;have c0:=hx.c0;have c3:=hx.c3;have hf3:=hx.fz 3;clear hx hB hst hj
  by_cases hlt:k<18
  ·obtain⟨sg,hsg⟩: ∃sg,ZB.getD k ByteArray.empty=sg:=⟨_,rfl⟩;have hc:=HS.out k hlt;rw[hsg]at hc
   have hmem:sg∈ZB:=by
    rw[←hsg,List.getD_eq_getElem?_getD,List.getElem?_eq_getElem hlt];exact List.getElem_mem _
   have hsgz:=Ht sg hmem;have HSG:=Lib.hid hsg;have hp:=HPRE.out sg hmem;have HM:=Lib.hid hmem;clear hsg hmem
   have hzx:(s.extract P0 s.size).size≤100000:=by simp;omega
   cases hfit:Zq (L.drop n) sg.data.toList with
   |false=>
    have HF:=Lib.hid hfit;rw[hfit]at hp;have HPP:=Lib.hid hp;clear hfit hp
    go_wp2_with fail
    go_quiet ((first
     |(go_at_call 29;exact Calls.quiet_of (HAT.out _ (HX.out.drewN _)))
     |(go_at_call 90;exact Calls.quiet_of (EX (IZ _ _ _ _ hzx Qk HPP.out)))))
    go_wp2_with fail
    go_roundg (18-(k+1))
    case measure=>omega
    case rel=>
     refine⟨k+1,rfl,by omega,by go_num,HX.out.drewN _,JC hgb _,HB.out,fun j hj=>HS.out j hj,hsz,fun j hj=>?_⟩;rcases Nat.lt_or_ge j k with h1|h1
     ·exact HJ.out j h1
     ·obtain rfl:j=k:=by omega
      rw[HSG.out];exact HF.out
   |true=>
    have HF:=Lib.hid hfit;have hle:=x9 _ _ hfit
    have hle2:n+sg.size≤L.length:=by
     simp at hle;have:=HX.out.le;omega
    rw[hfit]at hp;have HPP:=Lib.hid hp;clear hfit hle hp
    have hso:VH (L.drop n)=some sg:=by
     unfold VH;rw[List.find?_eq_some_iff_getElem];refine⟨HF.out,k,hlt,?_,fun j hjk=>?_⟩
     ·have:=HSG.out
      simpa [List.getD_eq_getElem?_getD,List.getElem?_eq_getElem (l:=ZB) hlt]using this
     ·have hjl:j<ZB.length:=Nat.lt_trans hjk hlt;have:=HJ.out j hjk;simp only[List.getD_eq_getElem?_getD,List.getElem?_eq_getElem hjl,Option.getD_some]at this;simp[this]
    have HSO:=Lib.hid hso;clear hso;have hfew:=HX.out.few
    go_wp2_with fail
    go_quiet ((first
     |(go_at_call 29;exact Calls.quiet_of (HAT.out _ (HX.out.drewN _)))
     |(go_at_call 90;exact Calls.quiet_of (EX (IZ _ _ _ _ hzx Qk HPP.out)))))
    go_wp2_with fail
    refine(HAT.out _ (HX.out.drewN _)).mono ?_
    rintro e w2 ⟨rfl,m2,rfl⟩
    have hbl:w.heap.size<wr.heap.size:=by omega
    have hgl:g<wr.heap.size:=HX.out.lt;have hxa:=HX.out.alloc (.cells #[.int .i64 3,.string sg,.int .i64 0,.int .i64 P0] 74);have k3:=hxa.c3;have kf:=hxa.fz 3;have hBa:=(Yf wr (.cells #[.int .i64 3,.string sg,.int .i64 0,.int .i64 P0] 74) hbl).trans HB.out;have hTa:=heap_alloc_new wr (.cells #[.int .i64 3,.string sg,.int .i64 0,.int .i64 P0] 74);have gba:=YW hgb (.cells #[.int .i64 3,.string sg,.int .i64 0,.int .i64 P0] 74);have HXA:=Lib.hid hxa;have HBA:=Lib.hid hBa;have HTA:=Lib.hid hTa;have HGA:=Lib.hid gba;clear hxa hBa hTa gba
    go_upto_region 7 with fail
    have hx5:QY (wr.setCell ⟨g,3,none⟩ (.int .i64 ((n:Int)+(sg.size:Int)))) g s A cap L bad (n+sg.size):=by
     have:=HX.out.put (n':=n+sg.size) hle2
     simpa using this
    have gb5:=ZI hgb 3 (.int .i64 ((n:Int)+(sg.size:Int)));have hB5:(wr.setCell ⟨g,3,none⟩ (.int .i64 ((n:Int)+(sg.size:Int)))).heap[w.heap.size]? =_:=(Below.heap_setCell _ _ _ _ (by simp;omega)).trans HB.out
    have hsz5:w.heap.size<(wr.setCell ⟨g,3,none⟩ (.int .i64 ((n:Int)+(sg.size:Int)))).heap.size:=by simpa [World.setCell]using hbl
    have he5:wr.heap.size=(wr.setCell ⟨g,3,none⟩ (.int .i64 ((n:Int)+(sg.size:Int)))).heap.size:=by simp[World.setCell]
    rw[he5];clear HXA HBA HTA HGA k3 kf c0 c3 hf3 hc HX hgb HB HS
    generalize wr.setCell ⟨g,3,none⟩ (.int .i64 ((n:Int)+(sg.size:Int)))=W5 at *
    have b0:W5.cell? ⟨w.heap.size,0,none⟩=some (.int .i64 0):=cell_of_row _ w.heap.size 0 _ _ _ hB5;have b1:W5.cell? ⟨w.heap.size,1,none⟩=some (.string ⟨#[]⟩):=cell_of_row _ w.heap.size 1 _ _ _ hB5;have b2:W5.cell? ⟨w.heap.size,2,none⟩=some (.int .i64 0):=cell_of_row _ w.heap.size 2 _ _ _ hB5;have b3:W5.cell? ⟨w.heap.size,3,none⟩=some (.int .i64 0):=cell_of_row _ w.heap.size 3 _ _ _ hB5
    have bf: ∀o,W5.frozen? ⟨w.heap.size,o,none⟩=false:=fun o=>by simp[World.frozen?,hB5]
    have hne5:w.heap.size≠W5.heap.size:=by omega
    have HB5:=Lib.hid hB5;have HX5:=Lib.hid hx5;clear hB5 hx5
    go_wp2
    obtain⟨r0,r1,r2,r3⟩:=Wi HB5.out (.int .i64 3) (.string sg) (.int .i64 0) (.int .i64 P0);have G:=YW (Dg (b:=w.heap.size) gb5 (Nat.le_refl _) (.int .i64 3) (.string sg) (.int .i64 0) (.int .i64 P0)) (.cells #[.int .i64 3,.string sg,.int .i64 0,.int .i64 P0] 74)
    have hzz:w.heap.size<((((W5.setCell ⟨w.heap.size,0,none⟩ (.int .i64 3)).setCell ⟨w.heap.size,1,none⟩ (.string sg)).setCell ⟨w.heap.size,2,none⟩ (.int .i64 0)).setCell ⟨w.heap.size,3,none⟩ (.int .i64 P0)).heap.size:=by simpa [World.setCell]using hsz5
    have GB:=((Yf _ (.cells #[.int .i64 3,.string sg,.int .i64 0,.int .i64 P0] 74) (k:=g) Qk).trans (E2 (w:=W5) (b:=w.heap.size) (g:=g) Qk (.int .i64 3) (.string sg) (.int .i64 0) (.int .i64 P0))).trans HX5.out.blk
    generalize (((W5.setCell ⟨w.heap.size,0,none⟩ (.int .i64 3)).setCell ⟨w.heap.size,1,none⟩ (.string sg)).setCell ⟨w.heap.size,2,none⟩ (.int .i64 0)).setCell ⟨w.heap.size,3,none⟩ (.int .i64 P0)=W6 at *
    have s0:=(World.cell?_alloc_lt W6 (.cells #[.int .i64 3,.string sg,.int .i64 0,.int .i64 P0] 74) ⟨w.heap.size,0,none⟩ hzz).trans r0;have s1:=(World.cell?_alloc_lt W6 (.cells #[.int .i64 3,.string sg,.int .i64 0,.int .i64 P0] 74) ⟨w.heap.size,1,none⟩ hzz).trans r1;have s2:=(World.cell?_alloc_lt W6 (.cells #[.int .i64 3,.string sg,.int .i64 0,.int .i64 P0] 74) ⟨w.heap.size,2,none⟩ hzz).trans r2;have s3:=(World.cell?_alloc_lt W6 (.cells #[.int .i64 3,.string sg,.int .i64 0,.int .i64 P0] 74) ⟨w.heap.size,3,none⟩ hzz).trans r3;refine bodyPost_ret (v:=.tuple #[.agg #[.int .i64 3,.string sg,.int .i64 0,.int .i64 P0],.bool true]) (by simp[results,Tryz.results62,go_sem,s0,s1,s2,s3]) rfl ?_;rw[KB,HSO.out];exact⟨by rw[HP0.out],JC G _,(H.out.next G hle2 GB).drewN _⟩
  ·have hk18:k=18:=by omega
   have hso:VH (L.drop n)=none:=by
    unfold VH;rw[List.find?_eq_none];intro sg hsg;obtain⟨j,hj,rfl⟩:=List.getElem_of_mem hsg;have:=HJ.out j (by rw[hl18]at hj;omega);simp only[List.getD_eq_getElem?_getD,List.getElem?_eq_getElem hj,Option.getD_some]at this;simp[this]
   have HSO:=Lib.hid hso;clear hso hk18;have b0:wr.cell? ⟨w.heap.size,0,none⟩=some (.int .i64 0):=cell_of_row _ _ 0 _ _ _ HB.out;have b1:wr.cell? ⟨w.heap.size,1,none⟩=some (.string ⟨#[]⟩):=cell_of_row _ _ 1 _ _ _ HB.out;have b2:wr.cell? ⟨w.heap.size,2,none⟩=some (.int .i64 0):=cell_of_row _ _ 2 _ _ _ HB.out;have b3:wr.cell? ⟨w.heap.size,3,none⟩=some (.int .i64 0):=cell_of_row _ _ 3 _ _ _ HB.out
   have bf: ∀o,wr.frozen? ⟨w.heap.size,o,none⟩=false:=fun o=>by simp[World.frozen?,HB.out]
   go_wp2
   obtain⟨r0,r1,r2,r3⟩:=Wi HB.out (.int .i64 0) (.string ⟨#[]⟩) (.int .i64 0) (.int .i64 0);refine bodyPost_ret (v:=.tuple #[.agg #[.int .i64 0,.string ⟨#[]⟩,.int .i64 0,.int .i64 0],.bool false]) (by simp[results,Tryz.results62,go_sem,r0,r1,r2,r3]) rfl ?_;have G:=Dg (b:=w.heap.size) hgb (Nat.le_refl _) (.int .i64 0) (.string ⟨#[]⟩) (.int .i64 0) (.int .i64 0);rw[KB,HSO.out];exact⟨rfl,G,H.out.next G HX.out.le ((E2 Qk _ _ _ _).trans HX.out.blk)⟩

end
end Go.Proofs.YthjgndgnmkiaiaaGreatDoor
