/-
  Several texts in one: XRunesC, XRunesA, XRunesB, XLexP, XLexA, XLexB, XLexC, XLexD, XLexE, XLexF.
-/
import GoSem.Core.Utf8
import Derived.StillTailTactics
import Derived.Deep.RegionHeld3
import Derived.Deep.RegionWith
import Derived.BigRegion
import Derived.Test.YtmgkfceomhagaaaGreatDoorPsRunesP
set_option linter.unusedVariables false
namespace Go.Proofs.YtmgkfceomhagaaaGreatDoor
section
open Go

def Yx(r:Int):Bool:=decide ((97≤r∧r≤122)∨(65≤r∧r≤90)∨r=95∨(945≤r∧r≤969))
def UW(r:Int):Bool:=decide (48≤r∧r≤57)
def YE(r:Int):Bool:=decide (r=32∨r=9∨r=10∨r=13)
def CY(r:Int):Bool:=decide (r=61∨r=126∨r=60∨r=62∨r=38∨r=124∨r=40∨r=41∨r=123∨r=125∨r=44∨r=59∨r=58∨r=43∨r=92∨r=35∨r=39)
def QJ(r:Int):Int:=if Yx r then 1 else if UW r then 2 else if YE r then 3 else if CY r then 4 else 0

end
section
open Go Go.RowKit

theorem IG(r:Int)(w:World):
  Calls Tryz.prog 98 #[.int .i32 r] w fun e w'=>e=.returned (.bool (Yx r))∧w=w':=by
 go_enter Tryz.func98,Tryz.ntmps98
 go_wp2
 all_goals
  go_ret
  refine⟨E4 ?_,rfl⟩;rw[Bool.eq_iff_iff];simp[Yx]
  try omega

theorem Cs(r:Int)(w:World)(h:Yx r=true):
  Calls Tryz.prog 82 #[.int .i32 r] w fun e w'=>e=.returned (.int .i64 (QJ r))∧w=w':=by
 have hc:QJ r=1:=by simp[QJ,h]
 rw[hc];clear hc
 go_enter Tryz.func82,Tryz.ntmps82
 go_wp2_with (go_at_call 98;refine(IG _ _).mono ?_;rintro e w' ⟨rfl,rfl⟩)
 go_ret
 exact⟨rfl,rfl⟩
theorem Pt(r:Int)(w:World)(h:Yx r=false):
  Calls Tryz.prog 82 #[.int .i32 r] w fun e w'=>e=.returned (.int .i64 (QJ r))∧w=w':=by
 go_enter Tryz.func82,Tryz.ntmps82
 go_wp2_with (go_at_call 98;refine(IG _ _).mono ?_;rintro e w' ⟨rfl,rfl⟩)
 all_goals
  go_ret
  refine⟨EW ?_,rfl⟩;unfold QJ;rw[if_neg (by rw[h];decide)]
  try simp only[beq_iff_eq,beq_eq_false_iff_ne,ne_eq]at *
  simp only[UW,YE,CY,decide_eq_true_eq]
  repeat' split
  all_goals omega
theorem GZ(r:Int)(w:World):
  Calls Tryz.prog 82 #[.int .i32 r] w fun e w'=>e=.returned (.int .i64 (QJ r))∧w=w':=by
 cases h:Yx r
 ·exact Pt r w h
 ·exact Cs r w h

def Ny:List UInt8:=[61,126,60,62,38,124,40,41,123,125,44,59,58,43,92,35,39]

theorem Gz(r:Int):CY r=true↔ ∃k,k<17∧r=((Ny.getD k 0).toNat:Int):=by
 constructor
 ·intro h;simp only[CY,decide_eq_true_eq]at h;rcases h with rfl|rfl|rfl|rfl|rfl|rfl|rfl|rfl|rfl|rfl|rfl|rfl|rfl|rfl|rfl|rfl|rfl
  ·exact⟨0,by decide,by decide⟩
  ·exact⟨1,by decide,by decide⟩
  ·exact⟨2,by decide,by decide⟩
  ·exact⟨3,by decide,by decide⟩
  ·exact⟨4,by decide,by decide⟩
  ·exact⟨5,by decide,by decide⟩
  ·exact⟨6,by decide,by decide⟩
  ·exact⟨7,by decide,by decide⟩
  ·exact⟨8,by decide,by decide⟩
  ·exact⟨9,by decide,by decide⟩
  ·exact⟨10,by decide,by decide⟩
  ·exact⟨11,by decide,by decide⟩
  ·exact⟨12,by decide,by decide⟩
  ·exact⟨13,by decide,by decide⟩
  ·exact⟨14,by decide,by decide⟩
  ·exact⟨15,by decide,by decide⟩
  ·exact⟨16,by decide,by decide⟩
 ·rintro⟨k,hk,rfl⟩
  revert k;decide

theorem SH(k:Nat)(h':k<(ByteArray.mk #[61,126,60,62,38,124,40,41,123,125,44,59,58,43,92,35,39]).size):wrap32 ↑(ByteArray.mk #[61,126,60,62,38,124,40,41,123,125,44,59,58,43,92,35,39])[k].toNat=((Ny.getD k 0).toNat:Int):=by
 have h:k<17:=h';revert k;decide+kernel
theorem jg{r:Int}{k:Nat}{h2:k<(ByteArray.mk #[61,126,60,62,38,124,40,41,123,125,44,59,58,43,92,35,39]).size}(ht:(r==wrap32 ↑((ByteArray.mk #[61,126,60,62,38,124,40,41,123,125,44,59,58,43,92,35,39])[k]'h2).toNat)=true):r=((Ny.getD k 0).toNat:Int):=by
 rw[beq_iff_eq]at ht;exact ht.trans (SH k h2)
theorem zB{r:Int}{k:Nat}{h2:k<(ByteArray.mk #[61,126,60,62,38,124,40,41,123,125,44,59,58,43,92,35,39]).size}(ht:(r==wrap32 ↑((ByteArray.mk #[61,126,60,62,38,124,40,41,123,125,44,59,58,43,92,35,39])[k]'h2).toNat)=false):r≠((Ny.getD k 0).toNat:Int):=by
 rw[beq_eq_false_iff_ne]at ht;exact fun e=>ht (e.trans (SH k h2).symm)

theorem Mo(r:Int)(w:World):
  Calls Tryz.prog 94 #[.int .i32 r] w fun e w'=>e=.returned (.int .i64 (QJ r))∧w=w':=by
 go_enter Tryz.func94,Tryz.ntmps94
 go_upto_region 1 with fail
 go_cut [0,5] (fun r0 c wx=>r0=.int .i32 r∧c=.bool (Yx r)∧w=wx)
 case first=>
  go_wp2
  all_goals
   go_meet
   refine⟨by simp[*],?_,rfl⟩;refine congrArg Value.bool ?_;rw[Bool.eq_iff_iff];simp[Yx]
   try omega
 case rest=>
  obtain⟨rfl,rfl,rfl⟩:=hcut;cases hl:Yx r
  case true=>
   go_wp2
   go_ret
   exact⟨EW (by simp[QJ,hl]),rfl⟩
  case false=>
   go_upto_region 3 with fail
   go_cut [32] (fun c wx=>c=.bool (UW r)∧w=wx)
   case first=>
    go_wp2
    all_goals
     go_meet
     refine⟨?_,rfl⟩;refine congrArg Value.bool ?_;rw[Bool.eq_iff_iff];simp[UW]
     try omega
   case rest=>
    obtain⟨rfl,rfl⟩:=hcut;cases hd:UW r
    case true=>
     go_wp2
     go_ret
     exact⟨EW (by simp[QJ,hl,hd]),rfl⟩
    case false=>
     go_upto_region 5 with fail
     go_cut [0,39] (fun r0 c wx=>r0=.int .i32 r∧c=.bool (YE r)∧w=wx)
     case first=>
      go_wp2
      all_goals
       go_meet
       refine⟨by simp[*],?_,rfl⟩;refine congrArg Value.bool ?_;rw[Bool.eq_iff_iff]
       simp_all [YE]
     case rest=>
      obtain⟨rfl,rfl,rfl⟩:=hcut;cases hs:YE r
      case true=>
       go_wp2
       go_ret
       exact⟨EW (by simp[QJ,hl,hd,hs]),rfl⟩
      case false=>
       go_wp2
       go_loop [4] (fun i=> ∃k:Nat,k≤17∧i=.int .i64 k∧ ∀j,j<k→r≠((Ny.getD j 0).toNat:Int)) (fun i=>17-(intOf i).toNat)
       case atStart=>exact⟨0,by omega,rfl,by omega⟩
       case round=>
        obtain⟨k,hk,rfl,hj⟩:=hrel;have H:=Lib.hid hj;clear hj
        go_wp2
        ·have ht:=jg (r:=r) (k:=k) (by assumption)
         have hlt:(k:Int)<17:=by assumption
         go_ret
         exact⟨EW (by rw[QJ,hl,hd,hs,if_neg Qz,if_neg Qz,if_neg Qz,if_pos ((Gz r).2 ⟨k,by omega,ht⟩)]),rfl⟩
        ·have ht:=zB (r:=r) (k:=k) (by assumption)
         have hlt:(k:Int)<17:=by assumption
         go_round
         case rel=>
          refine⟨k+1,by omega,by go_num,fun j hj=>?_⟩;rcases Nat.lt_or_ge j k with h1|h1
          ·exact H.out j h1
          ·obtain rfl:j=k:=by omega
           exact ht
         case measure=>simp[intOf];omega
        ·have hge:17≤(k:Int):=by assumption
         go_ret
         refine⟨EW ?_,rfl⟩;rw[QJ,hl,hd,hs,if_neg Qz,if_neg Qz,if_neg Qz,if_neg];intro h;obtain⟨j,hj,h⟩:=(Gz r).1 h;exact H.out j Qq h

end
section
open Go Go.RowKit

theorem OQ(s p:ByteArray)(w:World)(hs:s.size≤100000)(hp:p.size≤100000):
  Calls Tryz.prog 97 #[.string s,.string p] w fun e w'=>e=.returned (.bool (Et s p))∧w=w':=by
 go_enter Tryz.func97,Tryz.ntmps97
 by_cases h:p.size≤s.size
 ·go_wp2
  go_ret
  refine⟨E4 ?_,rfl⟩;unfold Et;rw[ByteArray.toList_eq,ByteArray.toList_eq,ByteArray.data_extract,Array.toList_extract,Bool.eq_iff_iff,beq_iff_eq,List.isPrefixOf_iff_prefix,List.prefix_iff_eq_take];simp[List.extract];exact eq_comm
 ·go_wp2
  go_ret
  refine⟨E4 ?_,rfl⟩
  symm
  unfold Et;rw[Bool.eq_false_iff];intro hh;have:=(List.isPrefixOf_iff_prefix.1 hh).length_le;simp at this;omega
theorem FZ(s p:ByteArray)(w:World)(hs:s.size≤100000)(hp:p.size≤100000):
  Calls Tryz.prog 81 #[.string s,.string p] w fun e w'=>e=.returned (.bool (Et s p))∧w=w':=by
 go_enter Tryz.func81,Tryz.ntmps81
 go_wp2_with (go_at_call 97;refine(OQ _ _ _ hs hp).mono ?_;rintro e w' ⟨rfl,rfl⟩)
 go_ret
 exact⟨rfl,rfl⟩

theorem MF(s:ByteArray)(pos:Nat)(r:Int)(w:World)(hs:s.size≤100000)(hp:pos<s.size):
  Calls Tryz.prog 60 #[.string s,.int .i64 pos,.int .i32 r] w fun e w'=>e=.returned (.bool (decide (r=65533)&& !(Xo s pos)))∧w=w':=by
 by_cases h:r=65533
 ·rw[decide_eq_true h,Bool.true_and];subst h
  go_enter Tryz.func60,Tryz.ntmps60
  go_wp2_with (go_at_call 81;refine(FZ _ _ _ (by simp;omega) Qz).mono ?_;rintro e w' ⟨rfl,rfl⟩)
  all_goals
   go_ret
   refine⟨E4 ?_,rfl⟩
   simp_all [Xo]
 ·rw[decide_eq_false h,Bool.false_and]
  have hb:((r==65533)=false):=by simp[h]
  clear h
  go_enter Tryz.func60,Tryz.ntmps60
  go_wp2
  go_ret
  exact⟨rfl,rfl⟩

theorem DJ:(Tryz.prog.info? 92).map (fun i=>(i.zero,i.size,i.bytes))=some (some (.agg #[.int .i32 0,.int .i64 0]),2,16):=by kernel_rfl

def zk(s:ByteArray)(w:World)(e:Ending)(w':World):Prop:=
 ∃v:Value,e=.returned (.tuple #[v,.int .i64 (JR (each s).2)])∧w'.ownsRow w.heap.size 92 2 v (each s).1.length (runeCells (each s).1)∧Below w.heap.size w w'

theorem GN(s:ByteArray)(pos:Nat)(w:World)(hs:s.size≤100000)(hp:pos<s.size)(b:Bool)(h:decide ((Utf8.decode s pos).1=65533∧(Utf8.decode s pos).2=1)=b):
  Calls Tryz.prog 60 #[.string s,.int .i64 pos,.int .i32 (Utf8.decode s pos).1] w fun e w'=>e=.returned (.bool b)∧w=w':=by
 refine(MF s pos _ w hs hp).mono fun e w'=>?_
 rintro⟨rfl,rfl⟩
 refine⟨E4 ?_,rfl⟩;rw[←h,←xf s pos hp]
 congr 1
 rw[decide_eq_decide];omega

theorem yw(s:ByteArray)(w:World)(hs:s.size≤100000):
  Calls Tryz.prog 36 #[.string s] w (zk s w):=by
 obtain⟨i0,hi,hz0,hz1,hz2⟩:=info_parts DJ
 go_enter Tryz.func36,Tryz.ntmps36
 go_wp2
 go_loopw [2] (fun v wr=> ∃(p f:Nat) (acc:List (Nat×Nat)),wr.heap[w.heap.size]? =some (.stringIter s p)∧s.size≤p+f∧acc.length≤p∧p≤s.size∧
   acc++(Ub s f p).1=(each s).1∧(Ub s f p).2=(each s).2∧
   wr.ownsRow (w.heap.size+1) 92 2 v acc.length (runeCells acc)∧Below w.heap.size w wr∧w.heap.size+1≤wr.heap.size)
  (fun _ wr=>s.size-wr.iterPos w.heap.size)
 case atStart=>
  exact⟨0,s.size,[],World.iter_heap w s 0,by omega,by simp,by omega,rfl,rfl,World.ownsRow_nil _ _ _ _,(Below.refl _ _).alloc (Nat.le_refl _) _,by simp[World.iter]⟩
 case round=>
  obtain⟨p,f,acc,hit,hf,hacc,hp,h1,h2,hown,hb,hsz⟩:=hrel;have H1:=Lib.hid h1;have H2:=Lib.hid h2;clear h1 h2
  by_cases hlt:p<s.size
  ·have hn:=fun ty=>Lib.run_next_any_at (P:=Tryz.prog) _ _ s p ty hit hlt;obtain⟨f,rfl⟩: ∃f',f=f'+1:=⟨f-1,by omega⟩
   by_cases ho:(Utf8.decode s p).1=65533∧(Utf8.decode s p).2=1
   ·have HO:=Lib.hid ho;clear ho
    go_wp2_with (go_at_call 60;refine(GN _ _ _ hs hlt true (decide_eq_true HO.out)).mono ?_;rintro e w' ⟨rfl,rfl⟩)
    go_ret2
    rw[Z4 s f p hlt HO.out]at H1 H2;exact⟨u2,by rw[←H2.out];rfl,by rw[←H1.out];simpa using Ht (ownsRow_iterAt hown Qq _ _) (Nat.le_succ _),Lib.below_iterAt hb (Nat.le_refl _) _ _⟩
   ·have HO:=Lib.hid ho;clear ho;have hw:=ZJ s p hlt
    have hsz':w.heap.size+1≤(wr.iterAt w.heap.size s (p+(Utf8.decode s p).2)).heap.size:=by rw[Lib.iterAt_size];exact hsz
    have hb':=Lib.below_iterAt hb (Nat.le_refl _) s (p+(Utf8.decode s p).2);have hit':=Lib.iterAt_heap wr _ s p (p+(Utf8.decode s p).2) hit;have hown':=ownsRow_iterAt hown (Nat.lt_succ_self _) s (p+(Utf8.decode s p).2);have HI:=Lib.hid hit';clear hit'
    go_wp2_with (first
     |(go_at_call 60;refine(GN _ _ _ hs hlt false (decide_eq_false HO.out)).mono ?_;rintro e w' ⟨rfl,rfl⟩)
     |(at_builtin;refine wpList_append_own _ rfl _ _ 73 rfl (w.heap.size+1) 92 i0 _ 2 16 Tryz.underlying73 hi hz0 hz1 hz2 rfl Qz _ _ _ rfl (hown'.alloc _) ⟨(wr.iterAt w.heap.size s (p+(Utf8.decode s p).2)).heap.size,0,none⟩ 1 1 [.int .i32 (Utf8.decode s p).1,.int .i64 p] rfl rfl ?c1 ?c2 ?c3 ?c4 ?c5 ?_))
    case c1=>exact FH _ _ _ _ rfl
    case c2=>intro u hu;simp at hu;rcases hu with rfl|rfl<;>rfl
    case c3=>unfold maxLen;omega
    case c4=>omega
    case c5=>simp;omega
    intro v' w1 hown1 hgrow1 _;have hbA:=Bd ((hb'.alloc Qq _)) (hown'.alloc _) hgrow1 (Nat.le_succ _) (by simp;omega);have hitA:=(Lp (hown'.alloc _) hgrow1 (Nat.lt_succ_self _) (by simp;omega)).trans ((Yy _ _ (Nat.lt_of_succ_le hsz')).trans HI.out);have hszA:=hgrow1.size
    go_wp2
    go_roundw
    case rel=>
     refine⟨p+(Utf8.decode s p).2,f,acc++[((Utf8.decode s p).1,p)],hitA,by omega,by simp;omega,by omega,?_,?_,?_,hbA,?_⟩
     ·rw[←H1.out,UR s f p hlt HO.out];simp
     ·rw[←H2.out,UR s f p hlt HO.out]
     ·rw[←AM];simpa using hown1
     ·simp at hszA;omega
    case measure=>rw[iterPos_of hitA,iterPos_of hit];omega
  ·have hn:=fun ty=>Lib.run_next_end_at (P:=Tryz.prog) _ _ s p ty hit hlt
   go_wp2
   go_ret2
   rw[Yk s f p hlt]at H1 H2;exact⟨u2,by rw[←H2.out];rfl,by rw[←H1.out];simpa using Ht hown (Nat.le_succ _),hb⟩

end
section
open Go

def Jo(L:List (Nat×Nat))(n:Nat):Int:=match L[n]? with
 |some x=>QJ x.1
 |none=> -1
def Jq(s:ByteArray)(bad:Option Nat):Nat:=match bad with
 |some q=>q
 |none=>s.size
def Q5(fin:Nat)(L:List (Nat×Nat))(n:Nat):Nat:=match L[n]? with
 |some x=>x.2
 |none=>fin
def JI(s:ByteArray)(bad:Option Nat)(L:List (Nat×Nat))(n:Nat):Nat:=Q5 (Jq s bad) L n

theorem Iv(l:List (Nat×Nat))(k:Nat)(h:k<l.length):
  (runeCells l)[k *2]? =some (.int .i32 (l[k]).1)∧(runeCells l)[k *2+1]? =some (.int .i64 (l[k]).2):=by
 induction l generalizing k with
 |nil=>simp at h
 |cons x l ih=>
  cases k with
  |zero=>simp[runeCells]
  |succ k=>
   have:=ih k (by simpa using h);simp only[runeCells,List.flatMap_cons,List.getElem_cons_succ]at this ⊢;rw[List.getElem?_append_right (by simp;omega),List.getElem?_append_right (by simp;omega)];simp only[List.length_cons,List.length_nil]
   have e1:(k+1) *2-(0+1+1)=k *2:=by omega
   have e2:(k+1) *2+1-(0+1+1)=k *2+1:=by omega
   rw[e1,e2];exact this

def Hi(s:ByteArray)(fin:Nat):Nat→List (Nat×Nat)→Prop
 |p,[]=>p=fin
 |p,(c,a)::l=>a=p∧p<s.size∧(Utf8.decode s p).1=c∧ ¬((Utf8.decode s p).1=65533∧(Utf8.decode s p).2=1)∧Hi s fin (p+(Utf8.decode s p).2) l

theorem Ck(s:ByteArray): ∀f p,s.size≤p+f→p≤s.size→Hi s (Jq s (Ub s f p).2) p (Ub s f p).1∧Jq s (Ub s f p).2≤s.size:=by
 intro f
 induction f with
 |zero=>
  intro p hf hp
  have:p=s.size:=by omega
  rw[Yk s 0 p Qq];exact⟨this,Nat.le_refl _⟩
 |succ f ih=>
  intro p hf hp
  by_cases hlt:p<s.size
  ·by_cases ho:(Utf8.decode s p).1=65533∧(Utf8.decode s p).2=1
   ·rw[Z4 s f p hlt ho];exact⟨rfl,hp⟩
   ·rw[UR s f p hlt ho];have hw:=ZJ s p hlt;have:=ih (p+(Utf8.decode s p).2) Qq hw.2;exact⟨⟨rfl,hlt,rfl,ho,this.1⟩,this.2⟩
  ·rw[Yk s (f+1) p hlt];exact⟨(by omega:p=s.size),Nat.le_refl _⟩
theorem H9(s:ByteArray):Hi s (Jq s (each s).2) 0 (each s).1∧Jq s (each s).2≤s.size:=Ck s s.size 0 Qq Qq

theorem yH(s:ByteArray)(fin:Nat): ∀l p,Hi s fin p l→p≤fin:=by
 intro l
 induction l with
 |nil=>intro p h;exact Nat.le_of_eq h
 |cons x l ih=>
  intro p h;obtain⟨c,a⟩:=x;have:=ih _ h.2.2.2.2;omega
theorem Wm(s:ByteArray)(fin p:Nat)(l:List (Nat×Nat))(h:Hi s fin p l):Q5 fin l 0=p:=by
 cases l with
 |nil=>exact h.symm
 |cons x l=>obtain⟨c,a⟩:=x;exact h.1
theorem Z1(fin:Nat)(l:List (Nat×Nat))(n m:Nat):Q5 fin (l.drop n) m=Q5 fin l (n+m):=by
 simp[Q5]
theorem WO(s:ByteArray)(fin:Nat): ∀(n:Nat) (l:List (Nat×Nat)) (p:Nat),Hi s fin p l→Hi s fin (Q5 fin l n) (l.drop n):=by
 intro n
 induction n with
 |zero=>intro l p h;rw[Wm s fin p l h];exact h
 |succ n ih=>
  intro l p h
  cases l with
  |nil=>exact(rfl:Q5 fin [] (n+1)=fin)
  |cons x l=>
   obtain⟨c,a⟩:=x;exact ih l _ h.2.2.2.2
theorem NC(s:ByteArray)(fin p:Nat)(l:List (Nat×Nat))(h:Hi s fin p l)(n m:Nat)(hnm:n≤m):Q5 fin l n≤Q5 fin l m∧Q5 fin l m≤fin:=by
 have hm:=yH s fin _ _ (WO s fin m l p h);refine⟨?_,hm⟩;obtain⟨d,rfl⟩: ∃d,m=n+d:=⟨m-n,by omega⟩;rw[←Z1];have hc:=WO s fin n l p h
 generalize l.drop n=r at *
 generalize Q5 fin l n=q at *
 clear hm h hnm
 induction d generalizing r q with
 |zero=>rw[Wm s fin q r hc];exact Nat.le_refl _
 |succ d ih=>
  cases r with
  |nil=>exact Nat.le_of_eq hc
  |cons x r=>
   obtain⟨c,a⟩:=x;have:=ih r _ hc.2.2.2.2;simp only[Q5,List.getElem?_cons_succ]at this ⊢;omega
theorem Z2(s:ByteArray)(n m:Nat)(hnm:n≤m):JI s (each s).2 (each s).1 n≤JI s (each s).2 (each s).1 m∧JI s (each s).2 (each s).1 m≤s.size:=by
 have h:=H9 s;have:=NC s _ 0 _ h.1 n m hnm;exact⟨this.1,Nat.le_trans this.2 h.2⟩

theorem RV(s:ByteArray): ∀f p,s.size≤p+f→p≤s.size→
  Jq s (Ub s f p).2=s.size∨(Jq s (Ub s f p).2<s.size∧(Utf8.decode s (Jq s (Ub s f p).2)).1=65533∧(Utf8.decode s (Jq s (Ub s f p).2)).2=1):=by
 intro f
 induction f with
 |zero=>intro p hf hp;exact .inl rfl
 |succ f ih=>
  intro p hf hp
  by_cases hlt:p<s.size
  ·by_cases ho:(Utf8.decode s p).1=65533∧(Utf8.decode s p).2=1
   ·rw[Z4 s f p hlt ho];exact .inr ⟨hlt,ho⟩
   ·rw[UR s f p hlt ho];have hw:=ZJ s p hlt;exact ih (p+(Utf8.decode s p).2) Qq hw.2
  ·rw[Yk s (f+1) p hlt];exact .inl rfl
theorem yu(s:ByteArray):Jq s (each s).2=s.size∨(Jq s (each s).2<s.size∧(Utf8.decode s (Jq s (each s).2)).1=65533∧(Utf8.decode s (Jq s (each s).2)).2=1):=
 RV s s.size 0 Qq Qq

def ZB:List (Nat×Nat)→List UInt8→Bool
 |_,[]=>true
 |[],_::_=>false
 |(c,_)::r,b::l=>decide (c=b.toNat)&&ZB r l
theorem yb: ∀(l:List UInt8) (r:List (Nat×Nat)),ZB r l=true→l.length≤r.length:=by
 intro l
 induction l with
 |nil=>intro r h;simp
 |cons b l ih=>
  intro r h
  cases r with
  |nil=>simp[ZB]at h
  |cons x r=>
   obtain⟨c,a⟩:=x;simp only[ZB,Bool.and_eq_true]at h;have:=ih r h.2;simp;omega

theorem Fi(s:ByteArray)(p:Nat)(h:p<s.size)(hb:(s.get! p).toNat<128):Utf8.decode s p=((s.get! p).toNat,1):=by
 rw[Lib.decode_at]
 generalize (s.get! p).toNat=b0 at *
 simp[Lib.decodeN,hb]
theorem RX(s:ByteArray)(p:Nat)(h:p<s.size)(hc:(Utf8.decode s p).1<128):(s.get! p).toNat<128:=by
 rcases Nat.lt_or_ge (s.get! p).toNat 128 with hb|hb
 ·exact hb
 ·have:=(decode_high s p h (by
   have e:s[p]'h=s.get! p:=by
    have:=get_at s p h
    simpa using this.symm
   rw[e];exact hb)).1
  omega

theorem yy(s:ByteArray)(p:Nat)(h:p<s.size):s.data.toList.drop p=s.get! p::s.data.toList.drop (p+1):=by
 rw[get_eq s p h,List.drop_eq_getElem_cons (by simpa using h)]
theorem ML(s q:ByteArray)(p:Nat)(h:p≤s.size):Et (s.extract p s.size) q=List.isPrefixOf q.data.toList (s.data.toList.drop p):=by
 unfold Et
 congr 1
 rw[ByteArray.data_extract,Array.toList_extract];simp only[List.extract];exact List.take_of_length_le Q3

theorem jM(s:ByteArray)(fin:Nat)(hfin:fin=s.size∨(fin<s.size∧(Utf8.decode s fin).1=65533∧(Utf8.decode s fin).2=1)):
  ∀(l:List UInt8),(∀b∈l,b.toNat<128)→ ∀(r:List (Nat×Nat)) (p:Nat),Hi s fin p r→p≤s.size→List.isPrefixOf l (s.data.toList.drop p)=ZB r l:=by
 intro l
 induction l with
 |nil=>intro hl r p hc hp;cases r<;>simp[ZB]
 |cons b l ih=>
  intro hl r p hc hp;have hb:=hl b Q3;have hl': ∀c∈l,c.toNat<128:=fun c hcm=>hl c (by simp[hcm])
  by_cases hlt:p<s.size
  ·rw[yy s p hlt];simp only[List.isPrefixOf]
   cases r with
   |nil=>
    have hpf:p=fin:=hc;rcases hfin with h|⟨h1,h2,h3⟩
    ·omega
    ·subst hpf
     have:(b==s.get! p)=false:=by
      rw[beq_eq_false_iff_ne]
      rintro rfl
      have:=Fi s p hlt hb;rw[this]at h2;simp at h2;omega
     rw[this];rfl
   |cons x r=>
    obtain⟨c,a⟩:=x;obtain⟨_,_,hcc,hno,hch⟩:=hc;simp only[ZB]
    by_cases he:b=s.get! p
    ·subst he;have hd:=Fi s p hlt hb;rw[hd]at hcc hch;have:c=(s.get! p).toNat:=hcc.symm;rw[decide_eq_true this,ih hl' r (p+1) hch Qq];simp
    ·have hne: ¬c=b.toNat:=by
      intro e;apply he;have hlow:=RX s p hlt Qq;have hd:=Fi s p hlt hlow;rw[hd]at hcc
      have:b.toNat=(s.get! p).toNat:=by omega
      exact UInt8.toNat_inj.1 this
     rw[decide_eq_false hne,show(b==s.get! p)=false by rw[beq_eq_false_iff_ne];exact he];rfl
  ·have hnil:s.data.toList.drop p=[]:=List.drop_eq_nil_of_le (by simp;omega);rw[hnil]
   cases r with
   |nil=>rfl
   |cons x r=>obtain⟨c,a⟩:=x;exact absurd hc.2.1 hlt

end
section
open Go Go.RowKit

structure J2(w:World)(g:Nat)(s:ByteArray)(A:Option Addr)(cap:Nat)(L:List (Nat×Nat))(bad:Option Nat)(n:Nat):Prop where
 blk:w.heap[g]? =some (.cells #[.string s,.slice A L.length cap,.int .i64 (JR bad),.int .i64 n] 75 (0,0))
 cap_le:L.length≤cap
 cap_max:cap≤maxLen
 few:L.length≤100000
 le:n≤L.length
 size:s.size≤100000
 run:L=(each s).1∧bad=(each s).2
 row:0<L.length→ ∃h,A=some ⟨h,0,none⟩∧h≠g∧h<w.heap.size∧ ∀j,j<L.length *2→w.cell? ⟨h,j,none⟩=(runeCells L)[j]?

section
variable {w w':World} {g:Nat} {s:ByteArray} {A:Option Addr} {cap:Nat} {L:List (Nat×Nat)} {bad:Option Nat} {n:Nat}
theorem J2.lt(h:J2 w g s A cap L bad n):g<w.heap.size:=(Array.getElem?_eq_some_iff.1 h.blk).1
theorem J2.c0(h:J2 w g s A cap L bad n):w.cell? ⟨g,0,none⟩=some (.string s):=cell_of_row w g 0 _ _ _ h.blk
theorem J2.c1(h:J2 w g s A cap L bad n):w.cell? ⟨g,1,none⟩=some (.slice A L.length cap):=cell_of_row w g 1 _ _ _ h.blk
theorem J2.c2(h:J2 w g s A cap L bad n):w.cell? ⟨g,2,none⟩=some (.int .i64 (JR bad)):=cell_of_row w g 2 _ _ _ h.blk
theorem J2.c3(h:J2 w g s A cap L bad n):w.cell? ⟨g,3,none⟩=some (.int .i64 n):=cell_of_row w g 3 _ _ _ h.blk
theorem J2.fz(h:J2 w g s A cap L bad n)(o:Nat):w.frozen? ⟨g,o,none⟩=false:=by simp[World.frozen?,h.blk]
theorem J2.drewN(h:J2 w g s A cap L bad n)(q:Nat):J2 (w.drewN q) g s A cap L bad n:=⟨h.blk,h.cap_le,h.cap_max,h.few,h.le,h.size,h.run,h.row⟩
theorem J2.drew(h:J2 w g s A cap L bad n):J2 w.drew g s A cap L bad n:=h.drewN 1
theorem J2.next(h:J2 w g s A cap L bad n)(hg:w.grownBy w' (some g)){n':Nat}(hn:n'≤L.length)
  (hb:w'.heap[g]? =some (.cells #[.string s,.slice A L.length cap,.int .i64 (JR bad),.int .i64 n'] 75 (0,0))):J2 w' g s A cap L bad n':=
 ⟨hb,h.cap_le,h.cap_max,h.few,hn,h.size,h.run,fun hl=>by
  obtain⟨k,e,hk,hlt,hc⟩:=h.row hl
  exact⟨k,e,hk,Nat.lt_of_lt_of_le hlt hg.size,fun j hj=>(World.cell?_of_block (a:=⟨k,j,none⟩) (hg.block k hlt (by simpa using hk))).trans (hc j hj)⟩⟩
theorem J2.kept(h:J2 w g s A cap L bad n)(hb:Below w.heap.size w w'):J2 w' g s A cap L bad n:=
 ⟨(hb.block g h.lt).trans h.blk,h.cap_le,h.cap_max,h.few,h.le,h.size,h.run,fun hl=>by
  obtain⟨k,e,hk,hlt,hc⟩:=h.row hl
  exact⟨k,e,hk,Nat.lt_of_lt_of_le hlt hb.size,fun j hj=>(hb.cell (p:=⟨k,j,none⟩) hlt).trans (hc j hj)⟩⟩
theorem J2.alloc(h:J2 w g s A cap L bad n)(o:Obj):J2 (w.alloc o) g s A cap L bad n:=h.kept ((Below.refl _ _).alloc (Nat.le_refl _) _)
theorem J2.put(h:J2 w g s A cap L bad n){n':Nat}(hn:n'≤L.length):J2 (w.setCell ⟨g,3,none⟩ (.int .i64 n')) g s A cap L bad n':=
 h.next (Xg (World.grownBy.refl _ _) _ _) hn (Zt h.blk 3 _)
theorem J2.kH(h:J2 w g s A cap L bad n)(hgb:w.grownBy w' (some g)){k:Nat}(hk:k+1≤L.length)
  (hb:w'.heap[g]? =some (.cells #[.string s,.slice A L.length cap,.int .i64 (JR bad),.int .i64 k] 75 (0,0))):
  J2 (w'.setCell ⟨g,3,none⟩ (.int .i64 ((k:Int)+1))) g s A cap L bad (k+1):=by
 have h1:J2 w' g s A cap L bad k:=h.next hgb Qq hb;have:=h1.put hk
 simpa using this
theorem J2.rune(h:J2 w g s A cap L bad n)(hn:n<L.length):
  ∃k,A=some ⟨k,0,none⟩∧k<w.heap.size∧w.cell? ⟨k,n *2,none⟩=some (.int .i32 (L[n]).1)∧w.cell? ⟨k,n *2+1,none⟩=some (.int .i64 (L[n]).2):=by
 obtain⟨k,e,hk,hlt,hc⟩:=h.row Qq;exact⟨k,e,hlt,(hc _ Qq).trans (Iv L n hn).1,(hc _ Qq).trans (Iv L n hn).2⟩
end

def Quiet(v:Value)(w:World)(e:Ending)(w':World):Prop:=e=.returned v∧ ∃m,w'=w.drewN m

theorem VP(w:World)(g:Nat)(s:ByteArray)(A:Option Addr)(cap:Nat)(L:List (Nat×Nat))(bad:Option Nat)(n:Nat)(h:J2 w g s A cap L bad n):
  Calls Tryz.prog 61 #[.pointer (some ⟨g,0,none⟩)] w (Quiet (.int .i64 (Jo L n)) w):=by
 have c1:=h.c1;have c3:=h.c3;have hcl:=h.cap_le;have hfew:=h.few;have hle:=h.le
 by_cases hn:n<L.length
 ·obtain⟨k,rfl,hk,e1,e2⟩:=h.rune hn
  have hcls:Jo L n=QJ (L[n]).1:=by simp[Jo,hn]
  rw[hcls];clear hcls e2 hle
  generalize ((L[n]'hn).1:Int)=r at *
  generalize L.length=N at *
  go_enter Tryz.func61,Tryz.ntmps61
  go_wp2_with fail
  go_quiet (fail)
  go_wp2_with fail
  go_quiet ((go_at_call 82;first|exact Mt (EY (GZ _ _))|exact quiet_add2 (EY (GZ _ _))))
  go_wp2
  go_ret
  exact⟨rfl,_,by first|rfl|exact World.drewN_drewN _ _ _⟩
 ·have hcls:Jo L n= -1:=by simp[Jo,hn]
  rw[hcls]
  have hnn:L.length≤n:=by omega
  clear hcls hle
  generalize L.length=N at *
  go_enter Tryz.func61,Tryz.ntmps61
  go_wp2_with fail
  go_quiet (fail)
  go_wp2
  go_ret
  exact⟨rfl,_,by first|rfl|exact World.drewN_drewN _ _ _⟩

theorem P9(w:World)(g:Nat)(s:ByteArray)(A:Option Addr)(cap:Nat)(L:List (Nat×Nat))(bad:Option Nat)(n:Nat)(h:J2 w g s A cap L bad n):
  Calls Tryz.prog 38 #[.pointer (some ⟨g,0,none⟩)] w (Quiet (.int .i64 (JI s bad L n)) w):=by
 have c0:=h.c0;have c1:=h.c1;have c2:=h.c2;have c3:=h.c3;have hcl:=h.cap_le;have hfew:=h.few;have hle:=h.le;have hss:=h.size
 by_cases hn:n<L.length
 ·obtain⟨k,rfl,hk,e1,e2⟩:=h.rune hn
  have hcls:JI s bad L n=(L[n]).2:=by simp[JI,Q5,hn]
  rw[hcls];clear hcls e1 hle
  generalize ((L[n]'hn).2:Int)=r at *
  generalize L.length=N at *
  go_enter Tryz.func38,Tryz.ntmps38
  go_wp2_with fail
  go_quiet (fail)
  go_wp2_with fail
  go_quiet (fail)
  go_wp2
  go_ret
  exact⟨rfl,_,by first|rfl|exact World.drewN_drewN _ _ _⟩
 ·have hcls:JI s bad L n=Jq s bad:=by simp[JI,Q5,hn]
  rw[hcls]
  have hnn:L.length≤n:=by omega
  clear hcls hle
  generalize L.length=N at *
  cases bad with
  |none=>
   have hb:JR none<0:=by decide
   go_enter Tryz.func38,Tryz.ntmps38
   go_wp2_with fail
   go_quiet (fail)
   go_wp2
   go_ret
   exact⟨rfl,_,by first|rfl|exact World.drewN_drewN _ _ _⟩
  |some q=>
   have hb:0≤JR (some q):=by simp[JR]
   go_enter Tryz.func38,Tryz.ntmps38
   go_wp2_with fail
   go_quiet (fail)
   go_wp2
   go_ret
   exact⟨rfl,_,by first|rfl|exact World.drewN_drewN _ _ _⟩

end
section
open Go Go.RowKit
variable {r:Int}

def Zx(r:Int):Bool:=Yx r||UW r||decide (r=39)
def Ai(L:List (Nat×Nat))(n:Nat):Bool:=match L[n]? with
 |some x=>Zx x.1
 |none=>false

theorem Fp(h:Yx r=true):QJ r=1:=by simp[QJ,h]
theorem Hc(h1:Yx r=false)(h:UW r=true):QJ r=2:=by simp[QJ,h1,h]
theorem Sd:QJ 39=4:=by decide+kernel
theorem Ct:(QJ r=1∨QJ r=2∨(QJ r=4∧r=39))↔Zx r=true:=by
 unfold Zx
 by_cases h1:Yx r=true
 ·simp[Fp h1,h1]
 ·have h1:Yx r=false:=by simpa using h1
  by_cases h2:UW r=true
  ·simp[Hc h1 h2,h2]
  ·have h2:UW r=false:=by simpa using h2
   have hc:QJ r≠1∧QJ r≠2:=by
    unfold QJ;rw[h1,h2];simp only[Bool.false_eq_true,if_false]
    repeat' split
    all_goals decide
   simp only[h1,h2,Bool.or_false,Bool.false_or,decide_eq_true_eq];constructor
   ·rintro(h|h|h)
    ·exact absurd h hc.1
    ·exact absurd h hc.2
    ·exact h.2
   ·rintro rfl
    exact .inr (.inr ⟨Sd,rfl⟩)

theorem GO(w:World)(g:Nat)(s:ByteArray)(A:Option Addr)(cap:Nat)(L:List (Nat×Nat))(bad:Option Nat)(n:Nat)(h:J2 w g s A cap L bad n):
  Calls Tryz.prog 83 #[.pointer (some ⟨g,0,none⟩)] w (Quiet (.bool (Ai L n)) w):=by
 have c1:=h.c1;have c3:=h.c3;have hcl:=h.cap_le;have hfew:=h.few;have hle:=h.le
 by_cases hn:n<L.length
 ·obtain⟨k,rfl,hk,e1,e2⟩:=h.rune hn
  have hcls:Jo L n=QJ (L[n]).1:=by simp[Jo,hn]
  have hm:Ai L n=Zx (L[n]).1:=by simp[Ai,hn]
  rw[hm];have hcc:=Ct (r:=((L[n]).1:Int));have hC:=VP w g s _ cap L bad n h;rw[hcls]at hC;clear hcls hm e2 hle
  generalize ((L[n]'hn).1:Int)=r at *
  have HC:=Lib.hid hC;have HCC:=Lib.hid hcc;clear hC hcc
  generalize hc:QJ r=c at *
  have HH:=Lib.hid hc;clear hc
  generalize hL:L.length=N at *
  clear hL
  by_cases q1:c=1
  ·have t1:(c==1)=true:=by simp[q1]
   have hb:Zx r=true:=HCC.out.1 (.inl q1);rw[hb];clear q1 hb
   go_enter Tryz.func83,Tryz.ntmps83
   go_wp2_with fail
   refine HC.out.mono ?_
   rintro e w1 ⟨rfl,m,rfl⟩
   go_wp2_with fail
   go_quiet (fail)
   go_wp2
   go_ret
   exact⟨rfl,_,by first|rfl|exact World.drewN_drewN _ _ _⟩
  ·have t1:(c==1)=false:=by simp[q1]
   by_cases q2:c=2
   ·have t2:(c==2)=true:=by simp[q2]
    have hb:Zx r=true:=HCC.out.1 (.inr (.inl q2));rw[hb];clear q1 q2 hb
    go_enter Tryz.func83,Tryz.ntmps83
    go_wp2_with fail
    refine HC.out.mono ?_
    rintro e w1 ⟨rfl,m,rfl⟩
    go_wp2_with fail
    go_quiet (fail)
    go_wp2
    go_ret
    exact⟨rfl,_,by first|rfl|exact World.drewN_drewN _ _ _⟩
   ·have t2:(c==2)=false:=by simp[q2]
    by_cases q4:c=4
    ·have t4:(c==4)=true:=by simp[q4]
     have hb:Zx r=(r==39):=by
      rw[Bool.eq_iff_iff,←HCC.out];simp[q4]
     rw[hb];clear q1 q2 q4 hb
     go_enter Tryz.func83,Tryz.ntmps83
     go_wp2_with fail
     refine HC.out.mono ?_
     rintro e w1 ⟨rfl,m,rfl⟩
     go_wp2_with fail
     go_quiet (fail)
     go_wp2
     go_ret
     exact⟨rfl,_,by first|rfl|exact World.drewN_drewN _ _ _⟩
    ·have t4:(c==4)=false:=by simp[q4]
     have hb:Zx r=false:=by
      rw[Bool.eq_false_iff];intro hb;rcases HCC.out.2 hb with h|h|h
      ·exact q1 h
      ·exact q2 h
      ·exact q4 h.1
     rw[hb];clear q1 q2 q4 hb
     go_enter Tryz.func83,Tryz.ntmps83
     go_wp2_with fail
     refine HC.out.mono ?_
     rintro e w1 ⟨rfl,m,rfl⟩
     go_wp2_with fail
     go_quiet (fail)
     go_wp2
     go_ret
     exact⟨rfl,_,by first|rfl|exact World.drewN_drewN _ _ _⟩
 ·have hcls:Jo L n= -1:=by simp[Jo,hn]
  have hm:Ai L n=false:=by simp[Ai,hn]
  rw[hm];have hC:=VP w g s _ cap L bad n h;rw[hcls]at hC;have HC:=Lib.hid hC;clear hC hcls hm
  go_enter Tryz.func83,Tryz.ntmps83
  go_wp2_with fail
  refine HC.out.mono ?_
  rintro e w1 ⟨rfl,m,rfl⟩
  go_wp2_with fail
  go_quiet (fail)
  go_wp2
  go_ret
  exact⟨rfl,_,by first|rfl|exact World.drewN_drewN _ _ _⟩

def QW:Bool→List (Nat×Nat)→Nat
 |_,[]=>0
 |true,(c,_)::r=>if c=10 then QW false r+1 else QW true r+1
 |false,(c,_)::r=>if YE c then QW false r+1 else if c=35 then QW true r+1 else 0
def J4:List (Nat×Nat)→Nat
 |[]=>0
 |(c,_)::r=>if c=10 then 0 else J4 r+1
theorem Hd: ∀r:List (Nat×Nat),QW true r=J4 r+QW false (r.drop (J4 r)):=by
 intro r
 induction r with
 |nil=>rfl
 |cons x r ih=>
  obtain⟨c,a⟩:=x
  by_cases h:c=10
  ·subst h;rw[QW,J4,if_pos rfl,if_pos rfl,List.drop_zero,QW];rw[if_pos (by decide+kernel)];omega
  ·rw[QW,J4,if_neg h,if_neg h,List.drop_succ_cons,ih];omega
theorem Vi(L:List (Nat×Nat))(n:Nat)(h:n<L.length):L.drop n=(L[n].1,L[n].2)::L.drop (n+1):=by
 rw[List.drop_eq_getElem_cons h]

def vJ(w:World)(g:Nat)(s:ByteArray)(A:Option Addr)(cap:Nat)(L:List (Nat×Nat))(bad:Option Nat)(n':Nat)(e:Ending)(w':World):Prop:=
 e=.returned (.tuple #[])∧w.grownBy w' (some g)∧J2 w' g s A cap L bad n'

theorem jb(w:World)(g:Nat)(s:ByteArray)(A:Option Addr)(cap:Nat)(L:List (Nat×Nat))(bad:Option Nat)(n:Nat)(h:J2 w g s A cap L bad n):
  Calls Tryz.prog 62 #[.pointer (some ⟨g,0,none⟩)] w (vJ w g s A cap L bad (n+J4 (L.drop n))):=by
 go_enter Tryz.func62,Tryz.ntmps62
 go_wp2_with fail
 go_loopg [] (L.length-n) (fun m wr=> ∃k:Nat,m=L.length-k∧k≤L.length∧J2 wr g s A cap L bad k∧w.grownBy wr (some g)∧k+J4 (L.drop k)=n+J4 (L.drop n))
 case atStart=>exact⟨n,rfl,h.le,h,World.grownBy.refl _ _,rfl⟩
 case round=>
  obtain⟨k,rfl,hk,hx,hgb,hcount⟩:=hrel;have c1:=hx.c1;have c3:=hx.c3;have hcl:=hx.cap_le;have hfew:=hx.few;have HX:=Lib.hid hx;have HCO:=Lib.hid hcount;have hf:=hx.fz 3;clear hx hcount h
  by_cases hn:k<L.length
  ·obtain⟨j,rfl,hj,e1,e2⟩:=HX.out.rune hn;have hd:=Lib.hid (Vi L k hn);clear e2
   by_cases h10:(L[k]'hn).1=10
   ·have hb:(((L[k]'hn).1:Int) !=10)=false:=by rw[h10];rfl
    have H10:=Lib.hid h10;clear h10
    generalize (((L[k]'hn).1:Nat):Int)=r at *
    go_wp2_with fail
    go_quiet (fail)
    go_wp2
    go_end0
    refine⟨rfl,Ug hgb _,?_⟩
    have e:n+J4 (L.drop n)=k:=by
     rw[←HCO.out,hd.out,J4,if_pos H10.out];rfl
    rw[e];exact HX.out.drewN _
   ·have hb:(((L[k]'hn).1:Int) !=10)=true:=by rw[bne_iff_ne];omega
    have H10:=Lib.hid h10;clear h10
    generalize (((L[k]'hn).1:Nat):Int)=r at *
    go_wp2_with fail
    go_quiet (fail)
    go_wp2
    go_roundg (L.length-(k+1))
    case measure=>omega
    case rel=>
     refine⟨k+1,rfl,hn,?_,?_,?_⟩
     ·have:=(HX.out.drewN nq).put (n':=k+1) hn
      simpa using this
     ·have:=Xg (Ug hgb nq) 3 (.int .i64 ((k:Int)+1))
      simpa using this
     ·rw[←HCO.out,hd.out,J4,if_neg H10.out];omega
  ·go_wp2_with fail
   go_quiet (fail)
   go_wp2
   go_end0
   refine⟨rfl,Ug hgb _,?_⟩
   have e:n+J4 (L.drop n)=k:=by
    rw[←HCO.out,List.drop_eq_nil_of_le Qq];rfl
   rw[e];exact HX.out.drewN _

theorem VB:QJ r=3↔YE r=true:=by
 unfold QJ;constructor
 ·intro h
  by_cases h1:Yx r=true
  ·simp[h1]at h
  ·by_cases h2:UW r=true
   ·simp[h1,h2]at h
   ·by_cases h3:YE r=true
    ·exact h3
    ·by_cases h4:CY r=true<;>simp[h1,h2,h3,h4]at h
 ·intro h
  have hr:r=32∨r=9∨r=10∨r=13:=by simpa [YE]using h
  rcases hr with rfl|rfl|rfl|rfl<;>decide+kernel

theorem P3(w:World)(g:Nat)(s:ByteArray)(A:Option Addr)(cap:Nat)(L:List (Nat×Nat))(bad:Option Nat)(n:Nat)(h:J2 w g s A cap L bad n):
  Calls Tryz.prog 37 #[.pointer (some ⟨g,0,none⟩)] w (vJ w g s A cap L bad (n+QW false (L.drop n))):=by
 go_enter Tryz.func37,Tryz.ntmps37
 go_wp2_with fail
 go_loopg [] (L.length-n) (fun m wr=> ∃k:Nat,m=L.length-k∧k≤L.length∧J2 wr g s A cap L bad k∧w.grownBy wr (some g)∧k+QW false (L.drop k)=n+QW false (L.drop n))
 case atStart=>exact⟨n,rfl,h.le,h,World.grownBy.refl _ _,rfl⟩
 case round=>
  obtain⟨k,rfl,hk,hx,hgb,hcount⟩:=hrel;have c1:=hx.c1;have c3:=hx.c3;have hcl:=hx.cap_le;have hfew:=hx.few;have HX:=Lib.hid hx;have HCO:=Lib.hid hcount;have hf:=hx.fz 3;clear hx hcount h
  by_cases hn:k<L.length
  ·obtain⟨j,rfl,hj,e1,e2⟩:=HX.out.rune hn;have hd:=Lib.hid (Vi L k hn)
   have hcls:Jo L k=QJ (L[k]).1:=by simp[Jo,hn]
   have HCL:=Lib.hid hcls;clear e2 hcls
   by_cases hsp:YE ((L[k]'hn).1:Int)=true
   ·have h3:QJ (L[k]).1=3:=VB.2 hsp
    have hb:(Jo L k==3)=true:=by rw[HCL.out,h3];rfl
    have HS:=Lib.hid hsp;clear hsp h3
    go_wp2_with fail
    go_quiet (fail)
    go_wp2_with fail
    refine(VP _ g s _ cap L bad k (HX.out.drewN _)).mono ?_
    rintro e w1 ⟨rfl,m,rfl⟩
    go_wp2
    go_roundg (L.length-(k+1))
    case measure=>omega
    case rel=>
     refine⟨k+1,rfl,hn,?_,?_,?_⟩
     ·have:=(HX.out.drewN (nq+m)).put (n':=k+1) hn
      simpa using this
     ·have:=Xg (Ug hgb (nq+m)) 3 (.int .i64 ((k:Int)+1))
      simpa using this
     ·rw[←HCO.out,hd.out,QW,if_pos HS.out];omega
   ·have hb:(Jo L k==3)=false:=by
     rw[HCL.out,beq_eq_false_iff_ne];exact fun h=>hsp (VB.1 h)
    have HS:=Lib.hid hsp;clear hsp
    by_cases h35:(L[k]'hn).1=35
    ·have hb2:(((L[k]'hn).1:Int)==35)=true:=by rw[h35];rfl
     have H35:=Lib.hid h35;clear h35;have HS2:Hid (YE ((L[k]'hn).1:Int)=false):=Lib.hid (by simpa using HS.out);clear HS
     generalize hr:(((L[k]'hn).1:Nat):Int)=r at *
     have HR:=Lib.hid hr;clear hr
     go_wp2_with fail
     go_quiet (fail)
     go_wp2_with fail
     refine(VP _ g s _ cap L bad k (HX.out.drewN _)).mono ?_
     rintro e w1 ⟨rfl,m,rfl⟩
     go_wp2_with fail
     go_quiet (fail)
     go_wp2_with fail
     refine(jb _ g s _ cap L bad k (by simpa using HX.out.drewN _)).mono ?_
     rintro e w1 ⟨rfl,hg1,hx1⟩
     have hc1:J4 (L.drop k)=J4 (L.drop (k+1))+1:=by rw[hd.out,J4,if_neg (by rw[H35.out];decide)]
     have hc2:QW false (L.drop k)=QW true (L.drop (k+1))+1:=by
      rw[hd.out,QW,if_neg (by rw[HR.out,HS2.out];decide),if_pos H35.out]
     have hc3:=Hd (L.drop (k+1));rw[List.drop_drop]at hc3;have hc4:k+J4 (L.drop k)≤L.length:=hx1.le
     have HC:=Lib.hid (show(k+J4 (L.drop k))+QW false (L.drop (k+J4 (L.drop k)))=n+QW false (L.drop n) by
      rw[←HCO.out,hc2,hc3,hc1,show k+(J4 (L.drop (k+1))+1)=k+1+J4 (L.drop (k+1)) by omega]
      omega)
     have hc5:k<k+J4 (L.drop k):=by omega
     clear hc1 hc2 hc3
     generalize k+J4 (L.drop k)=k2 at *
     go_wp2
     go_roundg (L.length-k2)
     case measure=>omega
     case rel=>exact⟨k2,rfl,hc4,hx1,WJ (Ug hgb _) hg1,HC.out⟩
    ·have hb2:(((L[k]'hn).1:Int)==35)=false:=by simp;omega
     have H35:=Lib.hid h35;clear h35;have HS2:Hid (YE ((L[k]'hn).1:Int)=false):=Lib.hid (by simpa using HS.out);clear HS
     generalize hr:(((L[k]'hn).1:Nat):Int)=r at *
     have HR:=Lib.hid hr;clear hr
     go_wp2_with fail
     go_quiet (fail)
     go_wp2_with fail
     refine(VP _ g s _ cap L bad k (HX.out.drewN _)).mono ?_
     rintro e w1 ⟨rfl,m,rfl⟩
     go_wp2_with fail
     go_quiet (fail)
     go_wp2
     refine bodyPost_ret (results_none rfl _ _ _) rfl ?_;refine⟨rfl,Ug (Ug hgb _) _,?_⟩
     have e:n+QW false (L.drop n)=k:=by
      rw[←HCO.out,hd.out,QW,if_neg (by rw[HR.out,HS2.out];decide),if_neg H35.out];rfl
     rw[e];exact(HX.out.drewN _).drewN _
  ·go_wp2_with fail
   go_quiet (fail)
   go_wp2
   go_end0
   refine⟨rfl,Ug hgb _,?_⟩
   have e:n+QW false (L.drop n)=k:=by
    rw[←HCO.out,List.drop_eq_nil_of_le Qq];rfl
   rw[e];exact HX.out.drewN _

def X6(s:ByteArray):Nat→Nat→Nat
 |0,_=>0
 |f+1,p=>if p<s.size then X6 s f (p+(Utf8.decode s p).2)+1 else 0
def count(s:ByteArray):Nat:=X6 s s.size 0
theorem Fk(s:ByteArray)(f p:Nat)(h: ¬p<s.size):X6 s f p=0:=by cases f<;>simp[X6,h]
theorem Kb(s:ByteArray)(f p:Nat)(h:p<s.size):X6 s (f+1) p=X6 s f (p+(Utf8.decode s p).2)+1:=by rw[X6,if_pos h]

theorem Sb(s:ByteArray): ∀f p,X6 s f p≤f:=by
 intro f
 induction f with
 |zero=>intro p;simp[X6]
 |succ f ih=>
  intro p;rw[X6]
  split
  ·have:=ih (p+(Utf8.decode s p).2);omega
  ·omega

theorem RI(s:ByteArray)(w:World)(hs:s.size≤100000):
  Calls Tryz.prog 86 #[.string s] w fun e w'=>e=.returned (.int .i64 (count s))∧Below w.heap.size w w':=by
 go_enter Tryz.func86,Tryz.ntmps86
 go_wp2
 go_loopw [3] (fun nv wr=> ∃(p f c:Nat),wr.heap[w.heap.size]? =some (.stringIter s p)∧s.size≤p+f∧p≤s.size∧c≤p∧nv=.int .i64 c∧
   c+X6 s f p=count s∧Below w.heap.size w wr)
  (fun _ wr=>s.size-wr.iterPos w.heap.size)
 case atStart=>
  exact⟨0,s.size,0,World.iter_heap w s 0,by omega,by omega,by omega,rfl,by simp[count],(Below.refl _ _).alloc (Nat.le_refl _) _⟩
 case round=>
  obtain⟨p,f,c,hit,hf,hp,hc,rfl,h1,hb⟩:=hrel;have H1:=Lib.hid h1;clear h1
  by_cases hlt:p<s.size
  ·have hn:=fun ty=>Lib.run_next_any_at (P:=Tryz.prog) _ _ s p ty hit hlt;have hw:=ZJ s p hlt;obtain⟨f,rfl⟩: ∃f',f=f'+1:=⟨f-1,by omega⟩;have hit':=Lib.hid (Lib.iterAt_heap wr _ s p (p+(Utf8.decode s p).2) hit);have hb':=Lib.below_iterAt hb (Nat.le_refl _) s (p+(Utf8.decode s p).2)
   go_wp2
   go_roundw
   case rel=>exact⟨_,f,c+1,hit'.out,by omega,hw.2,by omega,by go_num,by rw[←H1.out,Kb s f p hlt];omega,hb'⟩
   case measure=>rw[iterPos_of hit'.out,iterPos_of hit];omega
  ·have hn:=fun ty=>Lib.run_next_end_at (P:=Tryz.prog) _ _ s p ty hit hlt
   go_wp2
   go_ret
   rw[Fk s f p hlt]at H1;exact⟨EW (by have:=H1.out;omega),hb⟩

end
section
open Go Go.RowKit

def ZM:List ByteArray:=[⟨#[116,114,117,101]⟩,⟨#[102,97,108,115,101]⟩,⟨#[101,120,48]⟩,⟨#[101,120,49]⟩,⟨#[101,120,50]⟩,⟨#[97,108,108,48]⟩,⟨#[97,108,108,49]⟩,⟨#[97,108,108,50]⟩,⟨#[118,97,114,48]⟩,⟨#[118,97,114,49]⟩,⟨#[118,97,114,50]⟩,⟨#[112,114,101,100]⟩,⟨#[105,110]⟩,⟨#[110,111,116,105,110]⟩,⟨#[115,117,98]⟩,⟨#[117,110,105,111,110]⟩,⟨#[105,110,116,101,114]⟩]
def ZZ:List ByteArray:=[⟨#[60,61,62]⟩,⟨#[61,62]⟩,⟨#[60,61]⟩,⟨#[126,61]⟩,⟨#[61]⟩,⟨#[126]⟩,⟨#[60]⟩,⟨#[38]⟩,⟨#[124]⟩,⟨#[40]⟩,⟨#[41]⟩,⟨#[123]⟩,⟨#[125]⟩,⟨#[44]⟩,⟨#[59]⟩,⟨#[58]⟩,⟨#[43]⟩,⟨#[92]⟩]

def OH(w:World)(h:Nat)(l:List ByteArray):Prop:= ∀k,k<l.length→w.cell? ⟨h,k,none⟩=some (.string (l.getD k ByteArray.empty))
def Ir(a b:ByteArray):Bool:=a.toList==b.toList
def Zg(l:List ByteArray)(v:ByteArray):Bool:=l.any fun x=>Ir v x
theorem Lb(a b:ByteArray):Ir a b=true↔a=b:=by
 unfold Ir;rw[beq_iff_eq,ByteArray.toList_eq,ByteArray.toList_eq];constructor
 ·intro h;cases a;cases b;simp at h;simp[h]
 ·rintro rfl;rfl
theorem RP(l:List ByteArray)(v:ByteArray):Zg l v=true↔v∈l:=by
 unfold Zg;rw[List.any_eq_true];constructor
 ·rintro⟨x,hx,h⟩
  rw[(Lb v x).1 h];exact hx
 ·intro h;exact⟨v,h,(Lb v v).2 rfl⟩

def PH(l:List ByteArray)(w:World)(e:Ending)(w':World):Prop:=
 e=.returned (.slice (some ⟨w.heap.size,0,none⟩) l.length l.length)∧OH w' w.heap.size l∧Below w.heap.size w w'∧w.heap.size<w'.heap.size

theorem Nu(w:World)(l:List ByteArray)(t:TypeId)(cs:Array Value)(h:cs.toList=l.map Value.string):OH (w.alloc (.cells cs t)) w.heap.size l:=by
 intro k hk;rw[cell_of_row (w.alloc (.cells cs t)) w.heap.size k cs t (0,0) (heap_alloc_new w _),←Array.getElem?_toList,h];simp[hk]

theorem TQ(w:World):Calls Tryz.prog 85 #[] w (PH ZM w):=by
 go_enter Tryz.func85,Tryz.ntmps85
 go_wp2
 go_ret
 exact⟨rfl,Nu _ _ _ _ rfl,(Below.refl _ _).alloc (Nat.le_refl _) _,by simp⟩
theorem Me(w:World):Calls Tryz.prog 87 #[] w (PH ZZ w):=by
 go_enter Tryz.func87,Tryz.ntmps87
 go_wp2
 go_ret
 exact⟨rfl,Nu _ _ _ _ rfl,(Below.refl _ _).alloc (Nat.le_refl _) _,by simp⟩

theorem MH(w:World)(h cap:Nat)(l:List ByteArray)(v:ByteArray)(hl:OH w h l)(hlen:l.length≤100000)(hcap:l.length≤cap):
  Calls Tryz.prog 88 #[.slice (some ⟨h,0,none⟩) l.length cap,.string v] w fun e w'=>(∃i:Int,e=.returned (.int .i64 i)∧decide (0≤i)=Zg l v)∧w=w':=by
 go_enter Tryz.func88,Tryz.ntmps88
 go_wp2
 go_loop [8] (fun i=> ∃k:Nat,k≤l.length∧i=.int .i64 k∧ ∀j,j<k→Ir v (l.getD j ByteArray.empty)=false) (fun i=>l.length-(intOf i).toNat)
 case atStart=>exact⟨0,by omega,rfl,by omega⟩
 case round=>
  obtain⟨k,hk,rfl,hj⟩:=hrel;have HJ:=Lib.hid hj;have HL:=Lib.hid hl;clear hj hl
  by_cases hlt:k<l.length
  ·have hc:=HL.out k hlt
   cases hs:Ir v (l.getD k ByteArray.empty)with
   |true=>
    have hs':(v.toList==(l.getD k ByteArray.empty).toList)=true:=hs;have HS:=Lib.hid hs;clear hs
    generalize hx:l.getD k ByteArray.empty=x at *
    have HX:=Lib.hid hx;clear hx
    go_wp2
    go_ret
    refine⟨⟨k,rfl,?_⟩,rfl⟩;rw[decide_eq_true Qq]
    symm
    rw[Zg,List.any_eq_true];exact⟨x,by rw[←HX.out];simp[hlt],HS.out⟩
   |false=>
    have hs':(v.toList==(l.getD k ByteArray.empty).toList)=false:=hs;have HS:=Lib.hid hs;clear hs
    generalize hx:l.getD k ByteArray.empty=x at *
    have HX:=Lib.hid hx;clear hx
    go_wp2
    go_round
    case rel=>
     refine⟨k+1,by omega,by go_num,fun j h=>?_⟩;rcases Nat.lt_or_ge j k with h1|h1
     ·exact HJ.out j h1
     ·obtain rfl:j=k:=by omega
      rw[HX.out];exact HS.out
    case measure=>simp[intOf];omega
  ·go_wp2
   go_ret
   refine⟨⟨-1,rfl,?_⟩,rfl⟩;rw[decide_eq_false Qq]
   symm
   rw[Zg,List.any_eq_false];intro x hx;obtain⟨j,hj,rfl⟩:=List.getElem_of_mem hx;have:=HJ.out j Qq;simp only[List.getD_eq_getElem?_getD,List.getElem?_eq_getElem hj,Option.getD_some]at this;rw[this];decide

theorem Cp(w:World)(h cap:Nat)(l:List ByteArray)(v:ByteArray)(hl:OH w h l)(hlen:l.length≤100000)(hcap:l.length≤cap):
  Calls Tryz.prog 84 #[.slice (some ⟨h,0,none⟩) l.length cap,.string v] w fun e w'=>e=.returned (.bool (Zg l v))∧w=w':=by
 go_enter Tryz.func84,Tryz.ntmps84
 go_wp2_with fail
 refine(MH w h cap l v hl hlen hcap).mono ?_
 rintro e w' ⟨⟨i,rfl,hi⟩,rfl⟩
 have HI:=Lib.hid hi;clear hi hl
 go_wp2
 go_ret
 exact⟨E4 HI.out,rfl⟩

end
section
open Go Go.RowKit
attribute [local go_sem] VO X1

def JM:List (Nat×Nat)→Nat
 |[]=>0
 |(c,_)::r=>if Zx c then JM r+1 else 0
theorem IA: ∀r:List (Nat×Nat),JM r≤r.length:=by
 intro r
 induction r with
 |nil=>simp[JM]
 |cons x r ih=>
  obtain⟨c,a⟩:=x;rw[JM]
  split
  ·simp;omega
  ·omega

def zj(w:World)(g:Nat)(s:ByteArray)(A:Option Addr)(cap:Nat)(L:List (Nat×Nat))(bad:Option Nat)(n m:Nat)(e:Ending)(w':World):Prop:=
 e=.returned (.tuple #[.agg #[.int .i64 (if Zg ZM (s.extract (JI s bad L n) (JI s bad L m))then 3 else 1),.string (s.extract (JI s bad L n) (JI s bad L m)),.int .i64 0,.int .i64 (JI s bad L n)],
  .bool (decide (count (s.extract (JI s bad L n) (JI s bad L m))≤12))])∧w.grownBy w' (some g)∧J2 w' g s A cap L bad m

set_option maxHeartbeats 1000000 in
theorem xi(w:World)(g:Nat)(s:ByteArray)(A:Option Addr)(cap:Nat)(L:List (Nat×Nat))(bad:Option Nat)(n:Nat)(h:J2 w g s A cap L bad n):
  Calls Tryz.prog 63 #[.pointer (some ⟨g,0,none⟩)] w (zj w g s A cap L bad n (n+JM (L.drop n))):=by
 go_enter Tryz.func63,Tryz.ntmps63
 go_wp2_with fail
 refine(P9 _ g s _ cap L bad n (h.kept ((Below.refl _ _).alloc (Nat.le_refl _) _))).mono ?_
 rintro e w1 ⟨rfl,m,rfl⟩
 go_wp2_with fail
 go_loopg [] (L.length-n) (fun q wr=> ∃k:Nat,q=L.length-k∧k≤L.length∧n≤k∧J2 wr g s A cap L bad k∧w.grownBy wr (some g)∧k+JM (L.drop k)=n+JM (L.drop n)∧
  wr.heap[w.heap.size]? =some (.cells #[.int .i64 0,.string ⟨#[]⟩,.int .i64 0,.int .i64 0] 65 (0,0))∧w.heap.size<wr.heap.size)
 case atStart=>
  exact⟨n,rfl,h.le,Nat.le_refl _,(h.kept ((Below.refl _ _).alloc (Nat.le_refl _) _)).drewN _,Ug (Zu (World.grownBy.refl _ _) _) _,rfl,heap_alloc_new w _,by simp⟩
 case round=>
  obtain⟨k,rfl,hk,hnk,hx,hgb,hcount,hB,hsz⟩:=hrel;have c3:=hx.c3;have hfew:=hx.few;have HX:=Lib.hid hx;have HCO:=Lib.hid hcount;have HBL:=Lib.hid hB;have hf:=hx.fz 3;have hglt:=h.lt;have H:=Lib.hid h;clear hx hcount h hB
  cases hmore:Ai L k with
  |true=>
   have hn:k<L.length:=by
    rcases Nat.lt_or_ge k L.length with h|h
    ·exact h
    ·simp[Ai,List.getElem?_eq_none h]at hmore
   have hd:=Lib.hid (Vi L k hn)
   have hm:Zx ((L[k]'hn).1:Int)=true:=by simpa [Ai,hn]using hmore
   have HM:=Lib.hid hm;have HMA:=Lib.hid hmore;clear hm hmore
   go_wp2_with fail
   refine(GO _ g s _ cap L bad k HX.out).mono ?_;rw[HMA.out]
   rintro e w1 ⟨rfl,m1,rfl⟩
   go_wp2
   go_roundg (L.length-(k+1))
   case measure=>omega
   case rel=>
    refine⟨k+1,rfl,hn,by omega,?_,?_,?_,?_,?_⟩
    ·have:=(HX.out.put (n':=k+1) hn).drewN m1
     simpa using this
    ·exact Ug (Xg hgb 3 (.int .i64 ((k:Int)+1))) m1
    ·rw[←HCO.out,hd.out,JM,if_pos HM.out];omega
    ·exact(Below.heap_setCell wr ⟨g,3,none⟩ _ w.heap.size (by simp;omega)).trans HBL.out
    ·simpa [World.setCell]using hsz
  |false=>
   have HMA:=Lib.hid hmore
   have hk2:n+JM (L.drop n)=k:=by
    rw[←HCO.out];rcases Nat.lt_or_ge k L.length with h|h
    ·rw[Vi L k h,JM,if_neg]
     ·rfl
     ·simpa [Ai,h]using hmore
    ·rw[List.drop_eq_nil_of_le h];rfl
   have HK:=Lib.hid hk2;clear hmore hk2
   go_wp2_with fail
   refine(GO _ g s _ cap L bad k HX.out).mono ?_;rw[HMA.out]
   rintro e w1 ⟨rfl,m1,rfl⟩
   go_wp2_with fail
   have hpl:=Z2 s n k hnk;have hrun:=HX.out.run;rw[←hrun.1,←hrun.2]at hpl;have hss:=HX.out.size;have H1:J2 (wr.drewN m1) g s A cap L bad k:=HX.out.drewN m1;have HX1:=Lib.hid H1;have c0:=H1.c0;have hgb1:=Ug hgb m1;have hB1:(wr.drewN m1).heap[w.heap.size]? =_:=HBL.out;have HB1:=Lib.hid hB1;have hsz1:w.heap.size<(wr.drewN m1).heap.size:=hsz;clear hrun H1 hgb hB1 hsz HBL c3 hf HX HMA HCO
   generalize wr.drewN m1=w1 at *
   obtain⟨P0,hP0⟩: ∃P0,JI s bad L n=P0:=⟨_,rfl⟩;obtain⟨P1,hP1⟩: ∃P1,JI s bad L k=P1:=⟨_,rfl⟩;rw[hP0,hP1]at hpl;have hAt:=fun(W:World) (h:J2 W g s A cap L bad k)=>P9 W g s A cap L bad k h;rw[hP1]at hAt;have HAT:=Lib.hid hAt;have HP0:=Lib.hid hP0;have HP1:=Lib.hid hP1;rw[hP0];clear hAt hP0 hP1;obtain⟨hpl1,hpl2⟩:=hpl
   go_cut [5] (fun t5 wx=> ∃t:Nat,t5=.pointer (some ⟨t,0,none⟩)∧wx.heap[t]? =some (.cells #[.int .i64 1,.string (s.extract P0 P1),.int .i64 0,.int .i64 P0] 65 (0,0))∧
    J2 wx g s A cap L bad k∧w.grownBy wx (some g)∧wx.heap[w.heap.size]? =some (.cells #[.int .i64 0,.string ⟨#[]⟩,.int .i64 0,.int .i64 0] 65 (0,0))∧w.heap.size<t∧w.heap.size<wx.heap.size)
   case first=>
    have hne:=World.new_ne w1 _ c0
    go_region_held3 (fun w'=>w'.cell? ⟨g,0,none⟩=some (.string s)) (go_keep)
     (first|(go_at_call 38;refine(HAT.out _ (by first|exact HX1.out.drew|exact(HX1.out.drew).alloc _)).mono ?_;rintro e w' ⟨rfl,m,rfl⟩))
    all_goals
     go_wp2_with fail
     go_meet
     exact⟨w1.heap.size,rfl,heap_alloc_new w1 _,(HX1.out.alloc _).drewN _,Ug (Zu hgb1 _) _,(Yy w1 _ hsz1).trans HB1.out,hsz1,by simp;omega⟩
   case rest=>
    obtain⟨t,rfl,htb,hx2,hgb2,hB2,ht,hsz2⟩:=hcut;clear hgb1 HB1 hsz1 HX1 c0 HAT;have ct:wc.cell? ⟨t,1,none⟩=some (.string (s.extract P0 P1)):=cell_of_row wc t 1 _ _ _ htb;have htl:t<wc.heap.size:=(Array.getElem?_eq_some_iff.1 htb).1;have HTB:=Lib.hid htb;have HX2:=Lib.hid hx2;have HB2:=Lib.hid hB2;clear htb hx2 hB2
    generalize htx:s.extract P0 P1=text at *
    have HTX:=Lib.hid htx;clear htx
    go_wp2_with fail
    go_cut [30] (fun c30 wx=>c30=.bool (Zg ZM text)∧Below wc.heap.size wc wx)
    case first=>
     go_region_held3 (fun w'=>w'.cell? ⟨t,1,none⟩=some (.string text)) (first|go_keep|exact(hbw.cell htl).trans ct)
      (first
       |(go_at_call 85;refine(TQ _).mono ?_;rintro e w2 ⟨rfl,hs,hbw,hsz⟩)
       |(go_at_call 84;refine(Cp _ _ _ ZM _ hs Qz Qz).mono ?_;rintro e w3 ⟨rfl,rfl⟩))
     all_goals
      go_wp2_with fail
      go_meet
      exact⟨rfl,(P6 (Below.refl _ _)).trans hbw⟩
    case rest=>
     obtain⟨rfl,hbw⟩:=hcut;have hgb3:=IK hgb2 hbw;have hT3:=(hbw.block t htl).trans HTB.out;have hB3:=(hbw.block _ hsz2).trans HB2.out;have hG3:=(hbw.block g HX2.out.lt).trans HX2.out.blk;have hsz3:=Nat.lt_of_lt_of_le hsz2 hbw.size;have htl3:=Nat.lt_of_lt_of_le htl hbw.size;clear hgb2 HTB HB2 HX2 hsz2 htl ct hbw
     have hcz:text.size≤100000:=by rw[←HTX.out];simp;omega
     have hcn:(count text:Int)≤100000:=by
      have:=Sb text text.size 0;unfold count;omega
     have t0:=cell_of_row _ t 0 _ _ _ hT3;have t1:=cell_of_row _ t 1 _ _ _ hT3;have t2:=cell_of_row _ t 2 _ _ _ hT3;have t3:=cell_of_row _ t 3 _ _ _ hT3
     have tf: ∀o,wc.frozen? ⟨t,o,none⟩=false:=fun o=>by simp[World.frozen?,hT3]
     simp at t0 t1 t2 t3;have HB3:=Lib.hid hB3;have HG3:=Lib.hid hG3;have HT3:=Lib.hid hT3;clear hB3 hG3 hT3;obtain⟨kd,hkd⟩: ∃kd:Int,(if Zg ZM text then 3 else 1)=kd:=⟨_,rfl⟩;have HKD:=Lib.hid hkd;clear hkd;obtain⟨W3,rfl⟩: ∃W3:World,wc=W3:=⟨_,rfl⟩
     go_upto_if 30 with(fail)
     go_cut [30] (fun _ wx=>wx.heap[t]? =some (.cells #[.int .i64 kd,.string text,.int .i64 0,.int .i64 P0] 65 (0,0))∧
      wx.heap[w.heap.size]? =some (.cells #[.int .i64 0,.string ⟨#[]⟩,.int .i64 0,.int .i64 0] 65 (0,0))∧
      wx.heap[g]? =some (.cells #[.string s,.slice A L.length cap,.int .i64 (JR bad),.int .i64 k] 75 (0,0))∧w.grownBy wx (some g))
     case first=>
      have tf0:=tf 0
      cases hk:Zg ZM text with
      |true=>
       rw[hk]at HKD;obtain rfl:3=kd:=HKD.out
       go_wp2
       go_meet
       refine⟨Zt HT3.out 0 _,?_,?_,Yj hgb3 (by simp;omega) _⟩
       ·exact(Below.heap_setCell _ _ _ _ (by simp;omega)).trans HB3.out
       ·exact(Below.heap_setCell _ _ _ _ (by simp;omega)).trans HG3.out
      |false=>
       rw[hk]at HKD;obtain rfl:1=kd:=HKD.out
       go_wp2
       go_meet
       exact⟨HT3.out,HB3.out,HG3.out,hgb3⟩
     case rest=>
      obtain⟨hT4,hB4,hG4,hgb4⟩:=hcut;clear t0 t1 t2 t3 tf HT3 HB3 HG3 hgb3;have hgl:g<wc.heap.size:=(Array.getElem?_eq_some_iff.1 hG4).1;have htl:t<wc.heap.size:=(Array.getElem?_eq_some_iff.1 hT4).1;have hbl:w.heap.size<wc.heap.size:=(Array.getElem?_eq_some_iff.1 hB4).1;have t0:=cell_of_row _ t 0 _ _ _ hT4;have t1:=cell_of_row _ t 1 _ _ _ hT4;have t2:=cell_of_row _ t 2 _ _ _ hT4;have t3:=cell_of_row _ t 3 _ _ _ hT4;simp at t0 t1 t2 t3;have HB4:=Lib.hid hB4;have HG4:=Lib.hid hG4
      have htne:t≠w.heap.size:=by omega
      clear hT4 hB4 hG4
      go_wp2_with fail
      go_region_with (first
       |(go_at_call 86;refine(RI text _ hcz).mono ?_;rintro e w4 ⟨rfl,hb4⟩;have B4:=(hb4.block _ hbl).trans HB4.out;have b0:=cell_of_row w4 _ 0 _ _ _ B4;have b1:=cell_of_row w4 _ 1 _ _ _ B4;have b2:=cell_of_row w4 _ 2 _ _ _ B4;have b3:=cell_of_row w4 _ 3 _ _ _ B4;have bf: ∀o,w4.frozen? ⟨w.heap.size,o,none⟩=false:=(fun o=>by simp[World.frozen?,B4]);simp at b0 b1 b2 b3;have HB5:=Lib.hid B4;clear B4;have s0:=(hb4.cell (p:=⟨t,0,none⟩) htl).trans t0;have s1:=(hb4.cell (p:=⟨t,1,none⟩) htl).trans t1;have s2:=(hb4.cell (p:=⟨t,2,none⟩) htl).trans t2;have s3:=(hb4.cell (p:=⟨t,3,none⟩) htl).trans t3))
      all_goals
       go_wp2
       have hF:=Zt (Zt (Zt (Zt HB5.out 0 (.int .i64 kd)) 1 (.string text)) 2 (.int .i64 0)) 3 (.int .i64 P0);have r0:=cell_of_row _ w.heap.size 0 _ _ _ hF;have r1:=cell_of_row _ w.heap.size 1 _ _ _ hF;have r2:=cell_of_row _ w.heap.size 2 _ _ _ hF;have r3:=cell_of_row _ w.heap.size 3 _ _ _ hF;have r0:_=some (Value.int .i64 kd):=r0;have r1:_=some (Value.string text):=r1;have r2:_=some (Value.int .i64 0):=r2;have r3:_=some (Value.int .i64 P0):=r3;refine bodyPost_ret (v:=.tuple #[.agg #[.int .i64 kd,.string text,.int .i64 0,.int .i64 P0],.bool (decide ((count text:Int)≤12))]) (by simp[results,Tryz.results63,go_sem,r0,r1,r2,r3]) rfl ?_;have hb5:Below wc.heap.size wc w4:=(P6 (Below.refl _ _)).trans hb4;have G:w.grownBy _ (some g):=Yj (Yj (Yj (Yj (IK hgb4 hb5) (p:=⟨w.heap.size,0,none⟩) (Nat.le_refl _) (.int .i64 kd)) (p:=⟨w.heap.size,1,none⟩) (Nat.le_refl _) (.string text)) (p:=⟨w.heap.size,2,none⟩) (Nat.le_refl _) (.int .i64 0)) (p:=⟨w.heap.size,3,none⟩) (Nat.le_refl _) (.int .i64 P0);refine⟨?_,G,H.out.next G (by rw[HK.out];exact hk) ?_⟩
       ·rw[HK.out,HP0.out,HP1.out,HTX.out,HKD.out,show decide ((count text:Int)≤12)=decide (count text≤12) by rw[decide_eq_decide];omega]
       ·rw[HK.out,E9 Qq];exact(hb5.block g hgl).trans HG4.out

end
section
open Go Go.RowKit
set_option maxRecDepth 10000
attribute [local go_sem] VO X1

def Ua(cap:Nat):Nat→List (Nat×Nat)→Nat
 |acc,[]=>acc
 |acc,(c,_)::r=>if UW c then Ua cap (min (acc *10+(c-48)) cap) r else acc
def Zh:List (Nat×Nat)→Nat
 |[]=>0
 |(c,_)::r=>if UW c then Zh r+1 else 0

theorem YY{r:Int}:QJ r=2↔UW r=true:=by
 constructor
 ·intro h;unfold QJ at h
  by_cases h1:Yx r=true
  ·simp[h1]at h
  ·by_cases h2:UW r=true
   ·exact h2
   ·rw[if_neg h1,if_neg h2]at h
    split at h
    ·simp at h
    ·split at h<;>simp at h
 ·intro h
  have h1:Yx r=false:=by
   simp only[UW,decide_eq_true_eq]at h;simp only[Yx,decide_eq_false_iff_not];omega
  exact Hc h1 h

def TM(w:World)(g:Nat)(s:ByteArray)(A:Option Addr)(cap:Nat)(L:List (Nat×Nat))(bad:Option Nat)(n:Nat)(first:Nat)(e:Ending)(w':World):Prop:=
 e=.returned (.tuple #[.agg #[.int .i64 2,.string ⟨#[]⟩,.int .i64 (Ua 100 0 (L.drop n)),.int .i64 (JI s bad L n)],
  .bool (decide (Ua 100 0 (L.drop n)≤99)&&(decide (first≠48)||decide (Zh (L.drop n)=1)))])∧w.grownBy w' (some g)∧J2 w' g s A cap L bad (n+Zh (L.drop n))

set_option maxHeartbeats 1000000 in
theorem M8(w:World)(g:Nat)(s:ByteArray)(A:Option Addr)(cap:Nat)(L:List (Nat×Nat))(bad:Option Nat)(n:Nat)(h:J2 w g s A cap L bad n)(hn0:n<L.length):
  Calls Tryz.prog 64 #[.pointer (some ⟨g,0,none⟩)] w (TM w g s A cap L bad n (L[n]).1):=by
 have hrun:=h.run;have hpl:=(Z2 s n n (Nat.le_refl _)).2;rw[←hrun.1,←hrun.2]at hpl;have hss:=h.size;clear hrun
 go_enter Tryz.func64,Tryz.ntmps64
 go_wp2_with fail
 refine(P9 _ g s _ cap L bad n (h.alloc _)).mono ?_
 rintro e w1 ⟨rfl,m,rfl⟩
 obtain⟨P0,hP0⟩: ∃P0,JI s bad L n=P0:=⟨_,rfl⟩;rw[hP0]at hpl ⊢;have HP0:=Lib.hid hP0;clear hP0;obtain⟨j,rfl,hj,e1,e2⟩:=h.rune hn0;have c1:=h.c1;have c3:=h.c3;have hcl:=h.cap_le;have hfew:=h.few;have hglt:=h.lt;have hgl2:=h.lt;clear e2;obtain⟨R0,hR0⟩: ∃R0,(L[n]'hn0).1=R0:=⟨_,rfl⟩;rw[hR0]at e1;have HR0:=Lib.hid hR0;clear hR0;have k1:=(World.cell?_alloc_lt w (.cells #[.int .i64 0,.string ⟨#[]⟩,.int .i64 0,.int .i64 0] 65) ⟨g,1,none⟩ hglt).trans c1;have k3:=(World.cell?_alloc_lt w (.cells #[.int .i64 0,.string ⟨#[]⟩,.int .i64 0,.int .i64 0] 65) ⟨g,3,none⟩ hglt).trans c3;have ke:=(World.cell?_alloc_lt w (.cells #[.int .i64 0,.string ⟨#[]⟩,.int .i64 0,.int .i64 0] 65) ⟨j,n *2,none⟩ hj).trans e1
 go_wp2_with fail
 go_quiet (fail)
 go_wp2_with fail
 have H:=Lib.hid h;have hdn:=Lib.hid (Vi L n hn0);clear c1 c3 k1 k3 ke e1 h hj
 go_loopg [] (L.length-n) (fun q wr=> ∃(k acc:Nat),q=L.length-k∧k≤L.length∧J2 wr g s (some ⟨j,0,none⟩) cap L bad k∧w.grownBy wr (some g)∧acc≤100∧
  k+Zh (L.drop k)=n+Zh (L.drop n)∧Ua 100 acc (L.drop k)=Ua 100 0 (L.drop n)∧
  wr.heap[w.heap.size]? =some (.cells #[.int .i64 0,.string ⟨#[]⟩,.int .i64 0,.int .i64 0] 65 (0,0))∧
  wr.heap[w.heap.size+1]? =some (.cells #[.int .i64 2,.string ⟨#[]⟩,.int .i64 acc,.int .i64 P0] 65 (0,0)))
 case atStart=>
  refine⟨n,0,rfl,by omega,(((H.out.alloc _).alloc _).drewN _).drewN _,Ug (Ug (Zu (Zu (World.grownBy.refl _ _) _) _) _) _,by omega,rfl,rfl,?_,?_⟩
  ·exact(Yy (w.alloc _) _ Q3).trans (heap_alloc_new w _)
  ·have:=heap_alloc_new (w.alloc (.cells #[.int .i64 0,.string ⟨#[]⟩,.int .i64 0,.int .i64 0] 65)) (.cells #[.int .i64 2,.string ⟨#[]⟩,.int .i64 0,.int .i64 P0] 65)
   simpa using this
 case round=>
  obtain⟨k,acc,rfl,hk,hx,hgb,hacc,hcount,hnum,hB,hT⟩:=hrel;have c1:=hx.c1;have c3:=hx.c3;have HX:=Lib.hid hx;have HCO:=Lib.hid hcount;have HNU:=Lib.hid hnum;have HBL:=Lib.hid hB;have HTL:=Lib.hid hT;have hf:=hx.fz 3;have hbl:w.heap.size<wr.heap.size:=(Array.getElem?_eq_some_iff.1 hB).1;have htl:w.heap.size+1<wr.heap.size:=(Array.getElem?_eq_some_iff.1 hT).1;have t2:wr.cell? ⟨w.heap.size+1,2,none⟩=some (.int .i64 acc):=cell_of_row _ _ 2 _ _ _ hT
  have tf:wr.frozen? ⟨w.heap.size+1,2,none⟩=false:=by simp[World.frozen?,hT]
  clear hx hcount hnum hB hT
  by_cases hd: ∃h:k<L.length,UW ((L[k]).1:Int)=true
  ·obtain⟨hn,hdg⟩:=hd;obtain⟨j',hj',hj,e1,e2⟩:=HX.out.rune hn
   obtain rfl:j=j':=by injection hj' with e;injection e
   have hdr:=Lib.hid (Vi L k hn)
   have hcls:(Jo L k==2)=true:=by
    rw[beq_iff_eq,show Jo L k=QJ (L[k]).1 by simp[Jo,hn]];exact YY.2 hdg
   have HD:=Lib.hid hdg
   have hr:48≤(L[k]'hn).1∧(L[k]'hn).1≤57:=by
    simp only[UW,decide_eq_true_eq]at hdg;omega
   clear e2 hdg hj';obtain⟨R,hR⟩: ∃R,(L[k]'hn).1=R:=⟨_,rfl⟩;rw[hR]at e1 hr;have HR:=Lib.hid hR;clear hR
   go_wp2_with fail
   refine(VP _ g s _ cap L bad k HX.out).mono ?_
   rintro e w1 ⟨rfl,m1,rfl⟩
   go_wp2_with fail
   refine Ng 19 (by kernel_rfl) (by kernel_rfl) ?_;simp only[List.take_succ_cons,List.take_zero,List.drop_succ_cons,List.drop_zero];have hA1:IntKind.i64.wrap ((acc:Int) *10)=(acc:Int) *10:=IntWalk.i64_in _ Qq
   have hA2:IntKind.i32.wrap ((R:Int)-48)=(R:Int)-48:=by rw[IntKind.wrap_i32];omega
   have hA3:IntKind.i64.wrap ((R:Int)-48)=(R:Int)-48:=IntWalk.i64_in _ Qq;have hA4:IntKind.i64.wrap ((acc:Int) *10+((R:Int)-48))=(acc:Int) *10+((R:Int)-48):=IntWalk.i64_in _ Qq
   repeat still_step
   clear hA1 hA2 hA3 hA4;refine wpStill_nil ?_
   have hn2:Ua 100 (min (acc *10+(R-48)) 100) (L.drop (k+1))=Ua 100 0 (L.drop n):=by
    rw[←HNU.out,hdr.out,Ua,if_pos HD.out,HR.out]
   have hc2:k+1+Zh (L.drop (k+1))=n+Zh (L.drop n):=by
    rw[←HCO.out,hdr.out,Zh,if_pos HD.out];omega
   have HN2:=Lib.hid hn2;have HC2:=Lib.hid hc2;clear hn2 hc2
   go_wp2
   all_goals
    go_roundg (L.length-(k+1))
    case measure=>omega
    case rel=>
     refine⟨k+1,min (acc *10+(R-48)) 100,rfl,hn,?_,?_,by omega,HC2.out,HN2.out,?_,?_⟩
     ·exact(H.out.kH (Yj hgb Q3 _) hn ((Below.heap_setCell _ _ _ _ (by simp;omega)).trans HX.out.blk)).drewN _
     ·exact Ug (Xg (Yj hgb Q3 _) 3 _) _
     ·exact(Below.heap_setCell _ ⟨g,3,none⟩ _ w.heap.size (by simp;omega)).trans ((Below.heap_setCell wr ⟨w.heap.size+1,2,none⟩ _ w.heap.size Q3).trans HBL.out)
     ·refine(Below.heap_setCell _ ⟨g,3,none⟩ _ (w.heap.size+1) (by simp;omega)).trans ((Zt HTL.out 2 _).trans ?_);simp;omega
  ·have hne:(Jo L k==2)=false:=by
    rw[beq_eq_false_iff_ne];intro h2;apply hd;rcases Nat.lt_or_ge k L.length with h|h
    ·exact⟨h,YY.1 (by rw[show Jo L k=QJ (L[k]).1 by simp[Jo,h]]at h2;exact h2)⟩
    ·simp[Jo,List.getElem?_eq_none h]at h2
   have hz1:Zh (L.drop k)=0:=by
    rcases Nat.lt_or_ge k L.length with h|h
    ·rw[Vi L k h,Zh,if_neg (fun e=>hd ⟨h,e⟩)]
    ·rw[List.drop_eq_nil_of_le h];rfl
   have hz2:Ua 100 acc (L.drop k)=acc:=by
    rcases Nat.lt_or_ge k L.length with h|h
    ·rw[Vi L k h,Ua,if_neg (fun e=>hd ⟨h,e⟩)]
    ·rw[List.drop_eq_nil_of_le h];rfl
   have hk2:k=n+Zh (L.drop n):=by rw[←HCO.out,hz1];rfl
   have hac:Ua 100 0 (L.drop n)=acc:=by rw[←HNU.out,hz2]
   have HK2:=Lib.hid hk2;have HAC:=Lib.hid hac
   have hnk:n≤k:=by omega
   clear hz1 hz2 hk2 hac hd;have t0:wr.cell? ⟨w.heap.size+1,0,none⟩=some (.int .i64 2):=cell_of_row _ _ 0 _ _ _ HTL.out;have t1:wr.cell? ⟨w.heap.size+1,1,none⟩=some (.string ⟨#[]⟩):=cell_of_row _ _ 1 _ _ _ HTL.out;have t3:wr.cell? ⟨w.heap.size+1,3,none⟩=some (.int .i64 P0):=cell_of_row _ _ 3 _ _ _ HTL.out;have b0:wr.cell? ⟨w.heap.size,0,none⟩=some (.int .i64 0):=cell_of_row _ _ 0 _ _ _ HBL.out;have b1:wr.cell? ⟨w.heap.size,1,none⟩=some (.string ⟨#[]⟩):=cell_of_row _ _ 1 _ _ _ HBL.out;have b2:wr.cell? ⟨w.heap.size,2,none⟩=some (.int .i64 0):=cell_of_row _ _ 2 _ _ _ HBL.out;have b3:wr.cell? ⟨w.heap.size,3,none⟩=some (.int .i64 0):=cell_of_row _ _ 3 _ _ _ HBL.out
   have bf: ∀o,wr.frozen? ⟨w.heap.size,o,none⟩=false:=fun o=>by simp[World.frozen?,HBL.out]
   go_wp2_with fail
   refine(VP _ g s _ cap L bad k HX.out).mono ?_
   rintro e w1 ⟨rfl,m1,rfl⟩
   have hA1:IntKind.i64.wrap ((k:Int)-(n:Int))=(k:Int)-(n:Int):=IntWalk.i64_in _ Qq;have HA1:=Lib.hid hA1;clear hA1;have hF:=Zt (Zt (Zt (Zt HBL.out 0 (.int .i64 2)) 1 (.string ⟨#[]⟩)) 2 (.int .i64 acc)) 3 (.int .i64 P0);have r0:_=some (Value.int .i64 2):=cell_of_row _ w.heap.size 0 _ _ _ hF;have r1:_=some (Value.string ⟨#[]⟩):=cell_of_row _ w.heap.size 1 _ _ _ hF;have r2:_=some (Value.int .i64 acc):=cell_of_row _ w.heap.size 2 _ _ _ hF;have r3:_=some (Value.int .i64 P0):=cell_of_row _ w.heap.size 3 _ _ _ hF;have G:w.grownBy _ (some g):=Yj (Yj (Yj (Yj hgb (p:=⟨w.heap.size,0,none⟩) (Nat.le_refl _) (.int .i64 2)) (p:=⟨w.heap.size,1,none⟩) (Nat.le_refl _) (.string ⟨#[]⟩)) (p:=⟨w.heap.size,2,none⟩) (Nat.le_refl _) (.int .i64 acc)) (p:=⟨w.heap.size,3,none⟩) (Nat.le_refl _) (.int .i64 P0);have GB:=(E9 (w:=wr) (b:=w.heap.size) (g:=g) Qq (.int .i64 2) (.string ⟨#[]⟩) (.int .i64 acc) (.int .i64 P0)).trans HX.out.blk;have HR0':=Lib.hid r0;have HR1':=Lib.hid r1;have HR2':=Lib.hid r2;have HR3':=Lib.hid r3;have HG':=Lib.hid G;have HGB':=Lib.hid GB;clear r0 r1 r2 r3 G GB hF
   have fin: ∀(b:Bool) (q:Nat),(b=(decide (acc≤99)&&(decide (R0≠48)||decide (Zh (L.drop n)=1))))→
     TM w g s (some ⟨j,0,none⟩) cap L bad n R0 (.returned (.tuple #[.agg #[.int .i64 2,.string ⟨#[]⟩,.int .i64 acc,.int .i64 P0],.bool b]))
      (((((wr.setCell ⟨w.heap.size,0,none⟩ (.int .i64 2)).setCell ⟨w.heap.size,1,none⟩ (.string ⟨#[]⟩)).setCell ⟨w.heap.size,2,none⟩ (.int .i64 acc)).setCell ⟨w.heap.size,3,none⟩ (.int .i64 P0)).drewN q):=by
    intro b q hb;refine⟨?_,Ug HG'.out _,?_⟩
    ·rw[HAC.out,HP0.out,hb]
    ·have:=(H.out.next HG'.out (n':=k) hk HGB'.out).drewN q;rw[←HK2.out];exact this
   have FIN:=Lib.hid fin;clear fin;rcases Nat.lt_or_ge 99 acc with h99|h99
   ·have q1:decide ((acc:Int)≤99)=false:=decide_eq_false Qq
    go_wp2_with fail
    go_region
    go_wp2
    have r0:=HR0'.out;have r1:=HR1'.out;have r2:=HR2'.out;have r3:=HR3'.out;refine bodyPost_ret (v:=.tuple #[.agg #[.int .i64 2,.string ⟨#[]⟩,.int .i64 acc,.int .i64 P0],.bool false]) (by simp[results,Tryz.results64,go_sem,r0,r1,r2,r3]) rfl ?_;rw[HR0.out];exact FIN.out _ _ (by rw[decide_eq_false (by omega: ¬acc≤99)];rfl)
   ·have q1:decide ((acc:Int)≤99)=true:=decide_eq_true Qq
    by_cases h48:R0=48
    ·have q2:((R0:Int) !=48)=false:=by rw[h48];rfl
     have H48:=Lib.hid h48;clear h48;have hA1:=HA1.out
     by_cases h1:Zh (L.drop n)=1
     ·have q3:((k:Int)-(n:Int)==1)=true:=by rw[beq_iff_eq];have:=HK2.out;omega
      have H1:=Lib.hid h1;clear h1
      go_wp2_with fail
      go_region
      go_wp2
      have r0:=HR0'.out;have r1:=HR1'.out;have r2:=HR2'.out;have r3:=HR3'.out;refine bodyPost_ret (v:=.tuple #[.agg #[.int .i64 2,.string ⟨#[]⟩,.int .i64 acc,.int .i64 P0],.bool true]) (by simp[results,Tryz.results64,go_sem,r0,r1,r2,r3]) rfl ?_;rw[HR0.out];exact FIN.out _ _ (by rw[decide_eq_true (by omega:acc≤99),decide_eq_true H1.out];simp)
     ·have q3:((k:Int)-(n:Int)==1)=false:=by rw[beq_eq_false_iff_ne];have:=HK2.out;omega
      have H1:=Lib.hid h1;clear h1
      go_wp2_with fail
      go_region
      go_wp2
      have r0:=HR0'.out;have r1:=HR1'.out;have r2:=HR2'.out;have r3:=HR3'.out;refine bodyPost_ret (v:=.tuple #[.agg #[.int .i64 2,.string ⟨#[]⟩,.int .i64 acc,.int .i64 P0],.bool false]) (by simp[results,Tryz.results64,go_sem,r0,r1,r2,r3]) rfl ?_;rw[HR0.out];exact FIN.out _ _ (by rw[decide_eq_false H1.out,H48.out];simp)
    ·have q2:((R0:Int) !=48)=true:=by rw[bne_iff_ne];omega
     have H48:=Lib.hid h48;clear h48
     go_wp2_with fail
     go_region
     go_wp2
     have r0:=HR0'.out;have r1:=HR1'.out;have r2:=HR2'.out;have r3:=HR3'.out;refine bodyPost_ret (v:=.tuple #[.agg #[.int .i64 2,.string ⟨#[]⟩,.int .i64 acc,.int .i64 P0],.bool true]) (by simp[results,Tryz.results64,go_sem,r0,r1,r2,r3]) rfl ?_;rw[HR0.out];exact FIN.out _ _ (by rw[decide_eq_true (by omega:acc≤99),decide_eq_true H48.out];simp)

end
section
open Go Go.RowKit
attribute [local go_sem] VO X1

theorem IH(s p:ByteArray)(w:World)(b:Bool)(hs:s.size≤100000)(hp:p.size≤100000)(h:Et s p=b):
 Calls Tryz.prog 81 #[.string s,.string p] w fun e w'=>e=.returned (.bool b)∧w=w':=h▸FZ s p w hs hp

def VW(r:List (Nat×Nat)):Option ByteArray:=ZZ.find? fun sg=>ZB r sg.data.toList

theorem CX: ∀sg∈ZZ,∀b∈sg.data.toList,b.toNat<128:=by decide+kernel
theorem Hm: ∀sg∈ZZ,1≤sg.size∧sg.size≤3:=by decide+kernel

theorem DL(s sg:ByteArray)(n:Nat)(hsg:sg∈ZZ):
  Et (s.extract (JI s (each s).2 (each s).1 n) s.size) sg=ZB ((each s).1.drop n) sg.data.toList:=by
 have hc:=H9 s;have hp:=(Z2 s n n (Nat.le_refl _)).2;rw[ML s sg _ hp];exact jM s _ (yu s) _ (CX sg hsg) _ _ (WO s _ n _ 0 hc.1) hp

def Kl(w:World)(g:Nat)(s:ByteArray)(A:Option Addr)(cap:Nat)(L:List (Nat×Nat))(bad:Option Nat)(n:Nat)(e:Ending)(w':World):Prop:=
 match VW (L.drop n)with
 |some sg=>e=.returned (.tuple #[.agg #[.int .i64 3,.string sg,.int .i64 0,.int .i64 (JI s bad L n)],.bool true])∧w.grownBy w' (some g)∧J2 w' g s A cap L bad (n+sg.size)
 |none=>e=.returned (.tuple #[.agg #[.int .i64 0,.string ⟨#[]⟩,.int .i64 0,.int .i64 0],.bool false])∧w.grownBy w' (some g)∧J2 w' g s A cap L bad n

set_option maxHeartbeats 1000000 in
theorem ji(w:World)(g:Nat)(s:ByteArray)(A:Option Addr)(cap:Nat)(L:List (Nat×Nat))(bad:Option Nat)(n:Nat)(h:J2 w g s A cap L bad n):
  Calls Tryz.prog 65 #[.pointer (some ⟨g,0,none⟩)] w (Kl w g s A cap L bad n):=by
 have hrun:=h.run;have hpl:=(Z2 s n n (Nat.le_refl _)).2;rw[←hrun.1,←hrun.2]at hpl;have hpre:=fun sg hsg=>DL s sg n hsg;rw[←hrun.1,←hrun.2]at hpre;have hss:=h.size;clear hrun;obtain⟨P0,hP0⟩: ∃P0,JI s bad L n=P0:=⟨_,rfl⟩;have hat:=fun(W:World) (h:J2 W g s A cap L bad n)=>P9 W g s A cap L bad n h;rw[hP0]at hpl hpre hat;have HP0:=Lib.hid hP0;have HPRE:=Lib.hid hpre;have HAT:=Lib.hid hat;clear hP0 hpre hat;have H:=Lib.hid h;have hglt:=h.lt;clear h
 go_enter Tryz.func65,Tryz.ntmps65
 go_wp2_with fail
 refine(Me _).mono ?_
 rintro e w1 ⟨rfl,hst,hb1,hsz1⟩
 have hW0:(w.alloc (.cells #[.int .i64 0,.string ⟨#[]⟩,.int .i64 0,.int .i64 0] 65)).heap.size=w.heap.size+1:=by simp
 have hx1:J2 w1 g s A cap L bad n:=(H.out.alloc _).kept hb1;have hgb1:w.grownBy w1 (some g):=IK (Zu (World.grownBy.refl _ _) _) hb1;have hB1:w1.heap[w.heap.size]? =some (.cells #[.int .i64 0,.string ⟨#[]⟩,.int .i64 0,.int .i64 0] 65 (0,0)):=(hb1.block _ Q3).trans (heap_alloc_new w _);rw[hW0]at hst hsz1;clear hW0 hb1;have HX1:=Lib.hid hx1;have HB1:=Lib.hid hB1;have HST:=Lib.hid hst;clear hx1 hB1 hst;have hl18:ZZ.length=18:=rfl
 go_wp2_with fail
 go_loopg [9] 18 (fun q iv wr=> ∃k:Nat,q=18-k∧k≤18∧iv=.int .i64 k∧J2 wr g s A cap L bad n∧w.grownBy wr (some g)∧
  wr.heap[w.heap.size]? =some (.cells #[.int .i64 0,.string ⟨#[]⟩,.int .i64 0,.int .i64 0] 65 (0,0))∧OH wr (w.heap.size+1) ZZ∧w.heap.size+1<wr.heap.size∧
  ∀j,j<k→ZB (L.drop n) (ZZ.getD j ByteArray.empty).data.toList=false)
 case atStart=>exact⟨0,rfl,by omega,rfl,HX1.out,hgb1,HB1.out,HST.out,hsz1,by omega⟩
 case round=>
  obtain⟨k,rfl,hk,rfl,hx,hgb,hB,hst,hsz,hj⟩:=hrel;clear HX1 HB1 HST hsz1 hgb1;have HX:=Lib.hid hx;have HB:=Lib.hid hB;have HS:=Lib.hid hst;have HJ:=Lib.hid hj;have c0:=hx.c0;have c3:=hx.c3;have hf3:=hx.fz 3;clear hx hB hst hj
  by_cases hlt:k<18
  ·obtain⟨sg,hsg⟩: ∃sg,ZZ.getD k ByteArray.empty=sg:=⟨_,rfl⟩;have hc:=HS.out k hlt;rw[hsg]at hc
   have hmem:sg∈ZZ:=by
    rw[←hsg,List.getD_eq_getElem?_getD,List.getElem?_eq_getElem hlt];exact List.getElem_mem _
   have hsgz:=Hm sg hmem;have HSG:=Lib.hid hsg;have hp:=HPRE.out sg hmem;have HM:=Lib.hid hmem;clear hsg hmem
   have hzx:(s.extract P0 s.size).size≤100000:=by simp;omega
   cases hfit:ZB (L.drop n) sg.data.toList with
   |false=>
    have HF:=Lib.hid hfit;rw[hfit]at hp;have HPP:=Lib.hid hp;clear hfit hp
    go_wp2_with fail
    go_quiet ((first
     |(go_at_call 38;exact Calls.quiet_of (HAT.out _ (HX.out.drewN _)))
     |(go_at_call 81;exact Calls.quiet_of (EY (IH _ _ _ _ hzx Qq HPP.out)))))
    go_wp2_with fail
    go_roundg (18-(k+1))
    case measure=>omega
    case rel=>
     refine⟨k+1,rfl,by omega,by go_num,HX.out.drewN _,Ug hgb _,HB.out,fun j hj=>HS.out j hj,hsz,fun j hj=>?_⟩;rcases Nat.lt_or_ge j k with h1|h1
     ·exact HJ.out j h1
     ·obtain rfl:j=k:=by omega
      rw[HSG.out];exact HF.out
   |true=>
    have HF:=Lib.hid hfit;have hle:=yb _ _ hfit
    have hle2:n+sg.size≤L.length:=by
     simp at hle;have:=HX.out.le;omega
    rw[hfit]at hp;have HPP:=Lib.hid hp;clear hfit hle hp
    have hso:VW (L.drop n)=some sg:=by
     unfold VW;rw[List.find?_eq_some_iff_getElem];refine⟨HF.out,k,hlt,?_,fun j hjk=>?_⟩
     ·have:=HSG.out
      simpa [List.getD_eq_getElem?_getD,List.getElem?_eq_getElem (l:=ZZ) hlt]using this
     ·have hjl:j<ZZ.length:=Nat.lt_trans hjk hlt;have:=HJ.out j hjk;simp only[List.getD_eq_getElem?_getD,List.getElem?_eq_getElem hjl,Option.getD_some]at this;simp[this]
    have HSO:=Lib.hid hso;clear hso;have hfew:=HX.out.few
    go_wp2_with fail
    go_quiet ((first
     |(go_at_call 38;exact Calls.quiet_of (HAT.out _ (HX.out.drewN _)))
     |(go_at_call 81;exact Calls.quiet_of (EY (IH _ _ _ _ hzx Qq HPP.out)))))
    go_wp2_with fail
    refine(HAT.out _ (HX.out.drewN _)).mono ?_
    rintro e w2 ⟨rfl,m2,rfl⟩
    have hbl:w.heap.size<wr.heap.size:=by omega
    have hgl:g<wr.heap.size:=HX.out.lt;have hxa:=HX.out.alloc (.cells #[.int .i64 3,.string sg,.int .i64 0,.int .i64 P0] 65);have k3:=hxa.c3;have kf:=hxa.fz 3;have hBa:=(Yy wr (.cells #[.int .i64 3,.string sg,.int .i64 0,.int .i64 P0] 65) hbl).trans HB.out;have hTa:=heap_alloc_new wr (.cells #[.int .i64 3,.string sg,.int .i64 0,.int .i64 P0] 65);have gba:=Zu hgb (.cells #[.int .i64 3,.string sg,.int .i64 0,.int .i64 P0] 65);have HXA:=Lib.hid hxa;have HBA:=Lib.hid hBa;have HTA:=Lib.hid hTa;have HGA:=Lib.hid gba;clear hxa hBa hTa gba
    go_upto_region 7 with fail
    have hx5:J2 (wr.setCell ⟨g,3,none⟩ (.int .i64 ((n:Int)+(sg.size:Int)))) g s A cap L bad (n+sg.size):=by
     have:=HX.out.put (n':=n+sg.size) hle2
     simpa using this
    have gb5:=Xg hgb 3 (.int .i64 ((n:Int)+(sg.size:Int)));have hB5:(wr.setCell ⟨g,3,none⟩ (.int .i64 ((n:Int)+(sg.size:Int)))).heap[w.heap.size]? =_:=(Below.heap_setCell _ _ _ _ (by simp;omega)).trans HB.out
    have hsz5:w.heap.size<(wr.setCell ⟨g,3,none⟩ (.int .i64 ((n:Int)+(sg.size:Int)))).heap.size:=by simpa [World.setCell]using hbl
    have he5:wr.heap.size=(wr.setCell ⟨g,3,none⟩ (.int .i64 ((n:Int)+(sg.size:Int)))).heap.size:=by simp[World.setCell]
    rw[he5];clear HXA HBA HTA HGA k3 kf c0 c3 hf3 hc HX hgb HB HS
    generalize wr.setCell ⟨g,3,none⟩ (.int .i64 ((n:Int)+(sg.size:Int)))=W5 at *
    have b0:W5.cell? ⟨w.heap.size,0,none⟩=some (.int .i64 0):=cell_of_row _ w.heap.size 0 _ _ _ hB5;have b1:W5.cell? ⟨w.heap.size,1,none⟩=some (.string ⟨#[]⟩):=cell_of_row _ w.heap.size 1 _ _ _ hB5;have b2:W5.cell? ⟨w.heap.size,2,none⟩=some (.int .i64 0):=cell_of_row _ w.heap.size 2 _ _ _ hB5;have b3:W5.cell? ⟨w.heap.size,3,none⟩=some (.int .i64 0):=cell_of_row _ w.heap.size 3 _ _ _ hB5
    have bf: ∀o,W5.frozen? ⟨w.heap.size,o,none⟩=false:=fun o=>by simp[World.frozen?,hB5]
    have hne5:w.heap.size≠W5.heap.size:=by omega
    have HB5:=Lib.hid hB5;have HX5:=Lib.hid hx5;clear hB5 hx5
    go_wp2
    obtain⟨r0,r1,r2,r3⟩:=W9 HB5.out (.int .i64 3) (.string sg) (.int .i64 0) (.int .i64 P0);have G:=Zu (Cb (b:=w.heap.size) gb5 (Nat.le_refl _) (.int .i64 3) (.string sg) (.int .i64 0) (.int .i64 P0)) (.cells #[.int .i64 3,.string sg,.int .i64 0,.int .i64 P0] 65)
    have hzz:w.heap.size<((((W5.setCell ⟨w.heap.size,0,none⟩ (.int .i64 3)).setCell ⟨w.heap.size,1,none⟩ (.string sg)).setCell ⟨w.heap.size,2,none⟩ (.int .i64 0)).setCell ⟨w.heap.size,3,none⟩ (.int .i64 P0)).heap.size:=by simpa [World.setCell]using hsz5
    have GB:=((Yy _ (.cells #[.int .i64 3,.string sg,.int .i64 0,.int .i64 P0] 65) (k:=g) Qq).trans (E9 (w:=W5) (b:=w.heap.size) (g:=g) Qq (.int .i64 3) (.string sg) (.int .i64 0) (.int .i64 P0))).trans HX5.out.blk
    generalize (((W5.setCell ⟨w.heap.size,0,none⟩ (.int .i64 3)).setCell ⟨w.heap.size,1,none⟩ (.string sg)).setCell ⟨w.heap.size,2,none⟩ (.int .i64 0)).setCell ⟨w.heap.size,3,none⟩ (.int .i64 P0)=W6 at *
    have s0:=(World.cell?_alloc_lt W6 (.cells #[.int .i64 3,.string sg,.int .i64 0,.int .i64 P0] 65) ⟨w.heap.size,0,none⟩ hzz).trans r0;have s1:=(World.cell?_alloc_lt W6 (.cells #[.int .i64 3,.string sg,.int .i64 0,.int .i64 P0] 65) ⟨w.heap.size,1,none⟩ hzz).trans r1;have s2:=(World.cell?_alloc_lt W6 (.cells #[.int .i64 3,.string sg,.int .i64 0,.int .i64 P0] 65) ⟨w.heap.size,2,none⟩ hzz).trans r2;have s3:=(World.cell?_alloc_lt W6 (.cells #[.int .i64 3,.string sg,.int .i64 0,.int .i64 P0] 65) ⟨w.heap.size,3,none⟩ hzz).trans r3;refine bodyPost_ret (v:=.tuple #[.agg #[.int .i64 3,.string sg,.int .i64 0,.int .i64 P0],.bool true]) (by simp[results,Tryz.results65,go_sem,s0,s1,s2,s3]) rfl ?_;rw[Kl,HSO.out];exact⟨by rw[HP0.out],Ug G _,(H.out.next G hle2 GB).drewN _⟩
  ·have hk18:k=18:=by omega
   have hso:VW (L.drop n)=none:=by
    unfold VW;rw[List.find?_eq_none];intro sg hsg;obtain⟨j,hj,rfl⟩:=List.getElem_of_mem hsg;have:=HJ.out j (by rw[hl18]at hj;omega);simp only[List.getD_eq_getElem?_getD,List.getElem?_eq_getElem hj,Option.getD_some]at this;simp[this]
   have HSO:=Lib.hid hso;clear hso hk18;have b0:wr.cell? ⟨w.heap.size,0,none⟩=some (.int .i64 0):=cell_of_row _ _ 0 _ _ _ HB.out;have b1:wr.cell? ⟨w.heap.size,1,none⟩=some (.string ⟨#[]⟩):=cell_of_row _ _ 1 _ _ _ HB.out;have b2:wr.cell? ⟨w.heap.size,2,none⟩=some (.int .i64 0):=cell_of_row _ _ 2 _ _ _ HB.out;have b3:wr.cell? ⟨w.heap.size,3,none⟩=some (.int .i64 0):=cell_of_row _ _ 3 _ _ _ HB.out
   have bf: ∀o,wr.frozen? ⟨w.heap.size,o,none⟩=false:=fun o=>by simp[World.frozen?,HB.out]
   go_wp2
   obtain⟨r0,r1,r2,r3⟩:=W9 HB.out (.int .i64 0) (.string ⟨#[]⟩) (.int .i64 0) (.int .i64 0);refine bodyPost_ret (v:=.tuple #[.agg #[.int .i64 0,.string ⟨#[]⟩,.int .i64 0,.int .i64 0],.bool false]) (by simp[results,Tryz.results65,go_sem,r0,r1,r2,r3]) rfl ?_;have G:=Cb (b:=w.heap.size) hgb (Nat.le_refl _) (.int .i64 0) (.string ⟨#[]⟩) (.int .i64 0) (.int .i64 0);rw[Kl,HSO.out];exact⟨rfl,G,H.out.next G HX.out.le ((E9 Qq _ _ _ _).trans HX.out.blk)⟩

end
end Go.Proofs.YtmgkfceomhagaaaGreatDoor
