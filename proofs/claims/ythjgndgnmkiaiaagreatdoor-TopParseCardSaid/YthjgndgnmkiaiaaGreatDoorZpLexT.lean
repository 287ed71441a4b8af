/-
  'lex.Tokens': a text's tokens, or its first error: what it computes.
-/
import Derived.Test.YthjgndgnmkiaiaaGreatDoorZpLexG
namespace Go.Proofs.YthjgndgnmkiaiaaGreatDoor
open Go Go.RowKit
set_option linter.unusedVariables false
set_option maxRecDepth 10000
variable {g:Nat} {w:World}
attribute [local go_sem] ZM YL

theorem ej:(Tryz.prog.info? 74).map (fun i=>(i.zero,i.size,i.bytes))=some (some (.agg #[.int .i64 0,.string ⟨#[]⟩,.int .i64 0,.int .i64 0]),4,40):=by kernel_rfl

def VB(s:ByteArray)(w:World)(e:Ending)(w':World):Prop:=
 ∃v:Value,e=.returned (.tuple #[v,.int .i64 (tokens s).2.1,.int .i64 (tokens s).2.2])∧w'.ownsRow w.heap.size 74 4 v (tokens s).1.length (XF (tokens s).1)∧Below w.heap.size w w'∧((tokens s).1=[]→v=.slice none 0 0)

theorem E9(s:ByteArray): ∀(f p:Nat),(JA s f p).1.length≤f:=by
 intro f
 induction f with
 |zero=>intro p;simp[JA]
 |succ f ih=>
  intro p;rw[JA]
  split
  ·split
   ·simp
   ·simp only[List.length_cons];have:=ih (p+(Utf8.decode s p).2);omega
  ·simp

theorem zX{W:World}{s:ByteArray}{A:Option Addr}{cap:Nat}{B:Nat}(hs:s.size≤100000)(hown:w.ownsRow B 113 2 (.slice A (each s).1.length cap) (each s).1.length (runeCells (each s).1))(hgb:w.grownBy W (some g))(hB:g<B)
  (hb:W.heap[g]? =some (.cells #[.string s,.slice A (each s).1.length cap,.int .i64 (Jx (each s).2),.int .i64 0] 78 (0,0))):
  QY W g s A cap (each s).1 (each s).2 0:=by
 obtain⟨A',cap',e,hc,hm,hr⟩:=KQ hown
 injection e with e1 e2 e3
 subst e1 e3;refine⟨hb,hc,hm,?_,Nat.zero_le _,hs,⟨rfl,rfl⟩,fun h0=>?_⟩
 ·have:=E9 s s.size 0;exact Nat.le_trans this hs
 ·obtain⟨h,e,h1,h2,h3⟩:=hr h0;exact⟨h,e,by omega,Nat.lt_of_lt_of_le h2 hgb.size,fun j hj=>(World.cell?_of_block (a:=⟨h,j,none⟩) (hgb.block h h2 (by intro e;cases e;omega))).trans (h3 j hj)⟩

theorem SW{w':World}{base:Nat}{e:TypeId}{size:Nat}{v:Value}{n:Nat}{xs:List Value}(h:w.ownsRow base e size v n xs)(hg:w.grownBy w' (some g))(hB:g<base):w'.ownsRow base e size v n xs:=by
 refine⟨h.1,?_⟩;rcases h.2 with h|⟨k,cap,cur,rfl,b,hh,r⟩
 ·exact .inl h
 ·exact .inr ⟨k,cap,cur,rfl,b,(hg.block k (Array.getElem?_eq_some_iff.1 hh).1 (by intro e;cases e;omega)).trans hh,r⟩
theorem TI(w:World)(cs0:Array Value)(t0:TypeId)(cs:Array Value)(t:TypeId)(l:List Value)(hl:cs.toList=l):
  ∀j u,l[j]? =some u→((w.alloc (.cells cs0 t0)).alloc (.cells cs t)).cell? ((⟨w.heap.size+1,0,none⟩:Addr).add j)=some u:=by
 intro j u hu;have h:=We (w.alloc (.cells cs0 t0)) cs t l hl j u hu
 have e:(w.alloc (.cells cs0 t0)).heap.size=w.heap.size+1:=by simp
 rw[e]at h;exact h
theorem TN{B C:Nat}{a b c:World}(h:Below B a b)(k:Below C b c)(hBC:B≤C):Below B a c:=
 h.trans ⟨k.os,k.tape,k.output,k.size,fun i hi=>k.block i Qk⟩

theorem xz{a w':World}{row:Option Nat}(h:a.grownBy w (some g))(k:w.grownBy w' row)(hr: ∀j,row=some j→a.heap.size≤j):a.grownBy w' (some g):=
 ⟨k.os.trans h.os,k.tape.trans h.tape,k.output.trans h.output,Nat.le_trans h.size k.size,fun i hi hne=>(k.block i (Nat.lt_of_lt_of_le hi h.size) (fun e=>by have:=hr i e.symm;omega)).trans (h.block i hi hne)⟩

set_option maxHeartbeats 1000000 in
theorem Ss(s:ByteArray)(w:World):
  Calls Tryz.prog 14 #[.string s] w (VB s w):=by
 by_cases hlong:2000<s.size
 ·have ht:tokens s=([],0,3):=by rw[tokens,if_pos hlong]
  have HT:=Lib.hid ht;clear ht
  go_enter Tryz.func14,Tryz.ntmps14
  go_wp2
  go_ret3
  rw[VB,HT.out];exact⟨.slice none 0 0,rfl,World.ownsRow_nil _ _ _ _,Below.refl _ _,fun _=>rfl⟩
 ·have ht:tokens s=(match XZ s (QT s (each s).2) ((each s).1.length+1) ((each s).1.drop (QC false (each s).1))with
   |(none,p)=>([],p,2)
   |(some l,_)=>match(each s).2 with
    |some q=>([],q,2)
    |none=>(l++[Wy s],s.size,0)):=by rw[tokens,if_neg hlong];rfl
  have HT:=Lib.hid ht;clear ht;obtain⟨i0,hi,hz0,hz1,hz2⟩:=info_parts ej
  go_enter Tryz.func14,Tryz.ntmps14
  go_wp2_with fail
  refine(xU _ _ Qk).mono ?_
  rintro e w1 ⟨v1,rfl,hown1,hb1⟩
  obtain⟨A,cap,rfl,-⟩:=KQ hown1
  have hW0:(w.alloc (.cells #[.string s,.slice none 0 0,.int .i64 0,.int .i64 0] 78)).heap.size=w.heap.size+1:=by simp
  have hB1:w1.heap[w.heap.size]? =_:=(hb1.block w.heap.size Q1).trans (heap_alloc_new w _);have c1:w1.cell? ⟨w.heap.size,1,none⟩=some (.slice none 0 0):=cell_of_row _ w.heap.size 1 _ _ _ hB1;have c2:w1.cell? ⟨w.heap.size,2,none⟩=some (.int .i64 0):=cell_of_row _ w.heap.size 2 _ _ _ hB1
  have cf: ∀o,w1.frozen? ⟨w.heap.size,o,none⟩=false:=fun o=>by simp[World.frozen?,hB1]
  have hx0:=zX Qk (by rw[hW0]at hown1;exact hown1) (ZI (ZI (World.grownBy.refl w1 (some w.heap.size)) 1 (.slice A (each s).1.length cap)) 2 (.int .i64 (Jx (each s).2))) (Nat.lt_succ_self _) (YV (YV hB1 1 _) 2 _)
  have hbel1:Below w.heap.size w ((w1.setCell ⟨w.heap.size,1,none⟩ (.slice A (each s).1.length cap)).setCell ⟨w.heap.size,2,none⟩ (.int .i64 (Jx (each s).2))):=
   ((TN ((Below.refl w.heap.size w).alloc (Nat.le_refl _) (.cells #[.string s,.slice none 0 0,.int .i64 0,.int .i64 0] 78)) hb1 Q1).setCell (Nat.le_refl _) _).setCell (Nat.le_refl _) _
  have HB1:=Lib.hid hB1;clear hB1
  have hg0:w.heap.size<w1.heap.size:=by have:=hb1.size;simp at this;omega
  generalize hL:(each s).1=L at *
  generalize hbd:(each s).2=bad at *
  have HL:=Lib.hid hL;have HBD:=Lib.hid hbd;have HX0:=Lib.hid hx0;have HBE:=Lib.hid hbel1;clear hL hbd hx0 hbel1
  go_wp2_with fail
  refine(RR _ _ s A cap _ _ 0 HX0.out).mono ?_
  rintro e w2 ⟨rfl,hg2,hx2⟩
  have hbel2:=Ku HBE.out hg2 (Nat.le_refl _) (by simp;omega)
  have hsz2:w.heap.size<w2.heap.size:=by have:=hg2.size;simp at this;omega
  rw[Nat.zero_add,List.drop_zero]at hx2;have HX2:=Lib.hid hx2;have HB2:=Lib.hid hbel2;clear hx2 hbel2 hg2 HBE HX0 HB1 c1 c2 cf hg0 hb1 hown1 hW0;generalize hXX:XZ s (QT s bad) (L.length+1) (L.drop (QC false L))=XX at HT;have HXX:=Lib.hid hXX;clear hXX
  go_wp2_with fail
  go_loopg [2] (L.length-QC false L) (fun q v wr=> ∃(k f:Nat) (acc:List Uy),q=L.length-k∧QY wr w.heap.size s A cap L bad k∧w2.grownBy wr (some w.heap.size)∧
   wr.ownsRow w2.heap.size 74 4 v acc.length (XF acc)∧acc.length≤k∧comb acc (XZ s (QT s bad) f (L.drop k))=XX∧L.length<k+f)
  case atStart=>exact⟨QC false L,L.length+1,[],rfl,HX2.out,World.grownBy.refl _ _,World.ownsRow_nil _ _ _ _,Nat.zero_le _,by rw[HXX.out];obtain⟨y1,y2⟩:=XX;cases y1<;>simp[comb],by omega⟩
  case round=>
   obtain⟨k,f,acc,rfl,hx,hgb,hown,hacc,hcomb,hf⟩:=hrel;have c1:=hx.c1;have c3:=hx.c3;have c2:=hx.c2;have hcl:=hx.cap_le;have hfew:=hx.few;have hle:=hx.le;have HX:=Lib.hid hx;have HC:=Lib.hid hcomb;clear hx hcomb
   by_cases hn:k<L.length
   ·obtain⟨f,rfl⟩: ∃f',f=f'+1:=⟨f-1,by omega⟩
    go_wp2_with fail
    go_quiet (fail)
    go_wp2_with fail
    refine(RV _ _ s A cap L bad k (HX.out.drewN _)).mono ?_
    rintro e w3 ⟨rfl,m,rfl⟩
    go_wp2_with fail
    refine(uU _ _ s A cap L bad k (by simpa using HX.out.drewN _) hn).mono ?_
    rintro e w4 ⟨rfl,hg4,hx4⟩
    have hok:=NA s (QT s bad) (L.drop k);have hcok:=Dz s (QT s bad) f (L.drop k) acc (by simp;omega);have hcbad:=RF s (QT s bad) f (L.drop k) acc (by simp;omega)
    generalize Zn s (QT s bad) (L.drop k)=t at *
    have hg4':=Ws hgb (Ws (JC (World.grownBy.refl _ _) _) hg4)
    have hw4:wr.heap.size≤w4.heap.size:=by have:=hg4.size;simpa using this
    have hwr:w2.heap.size≤wr.heap.size:=hgb.size;have hown4:=SW hown (Ws (JC (World.grownBy.refl _ _) _) hg4) hsz2;have HG4:=Lib.hid hg4';have HX4:=Lib.hid hx4;have HOK:=Lib.hid hok;have HCOK:=Lib.hid hcok;have HCBAD:=Lib.hid hcbad;clear hg4 hg4' hx4 hok hcok hcbad c1 c2 c3
    cases hto:t.ok with
    |false=>
     go_wp2
     go_ret3
     have hl:=(HCBAD.out hto).symm.trans HC.out;rw[VB,HT.out,←hl];refine⟨.slice none 0 0,?_,World.ownsRow_nil _ _ _ _,Ku HB2.out (YW HG4.out _) (Nat.le_refl _) (Nat.le_of_lt hsz2),fun _=>rfl⟩;have hp0:=Wl s bad L k 0;rw[Nat.add_zero]at hp0;rw[hp0];rfl
    |true=>
     have hownT:=(hown4.alloc (.cells #[.int .i64 t.kind,.string t.text,.int .i64 t.num,.int .i64 t.at'] 74)).alloc (.cells #[.int .i64 t.kind,.string t.text,.int .i64 t.num,.int .i64 t.at'] 74)
     go_wp2_with (at_builtin;refine wpList_append_own _ rfl _ _ 43 rfl w2.heap.size 74 i0 _ 4 40 Tryz.underlying43 hi hz0 hz1 hz2 rfl Qo _ _ _ rfl hownT ⟨w4.heap.size+1,0,none⟩ 1 1 [.int .i64 t.kind,.string t.text,.int .i64 t.num,.int .i64 t.at'] rfl rfl ?c1 ?c2 ?c3 ?c4 ?c5 ?_)
     case c1=>exact TI _ _ _ _ _ _ rfl
     case c2=>intro u hu;simp at hu;rcases hu with rfl|rfl|rfl|rfl<;>rfl
     case c3=>unfold maxLen;omega
     case c4=>omega
     case c5=>simp;omega
     intro v' w5 hown5 hgrow5 _;have hgb5:=xz (YW (YW HG4.out _) _) hgrow5 fun j hj=>(Oi hownT hj).1;have hx5:=HX2.out.next hgb5 HX4.out.le ((LB hownT hgrow5 hsz2 (by simp;omega)).trans ((HX4.out.alloc _).alloc _).blk)
     have hown5':w5.ownsRow w2.heap.size 74 4 v' (acc++[t]).length (XF (acc++[t])):=by
      rw[←FW,List.length_append];exact hown5
     clear hown5 hownT hgrow5 hown4 hown;have HG5:=Lib.hid hgb5;have HX5:=Lib.hid hx5;have HO5:=Lib.hid hown5';clear hgb5 hx5 hown5'
     go_wp2_with fail
     refine(RR _ _ s A cap L bad _ HX5.out).mono ?_
     rintro e w6 ⟨rfl,hg6,hx6⟩
     have hlast:=hx6.le
     go_wp2
     go_roundg (L.length-(k+t.len+QC false (L.drop (k+t.len))))
     case measure=>have:=HOK.out hto;omega
     case rel=>
      refine⟨_,f,acc++[t],rfl,hx6,Ws HG5.out hg6,SW HO5.out hg6 hsz2,?_,?_,?_⟩
      ·have:=HOK.out hto;simp;omega
      ·have hc:=(HCOK.out hto).symm.trans HC.out;simp only[List.drop_drop]at hc
       simpa only[Nat.add_comm,Nat.add_left_comm,Nat.add_assoc]using hc
      ·have:=HOK.out hto;omega
   ·have hke:L.drop k=[]:=List.drop_eq_nil_of_le Qk;have hxx:=HC.out;rw[hke,Ge]at hxx;have HXE:=Lib.hid hxx;clear hke hxx
    cases bad with
    |some q=>
     have hb:0≤Jx (some q):=by simp[Jx]
     go_wp2_with fail
     go_quiet (fail)
     go_wp2_with fail
     go_quiet (fail)
     go_wp2
     go_ret3
     rw[VB,HT.out,←HXE.out];refine⟨.slice none 0 0,rfl,World.ownsRow_nil _ _ _ _,Ku HB2.out ?_ (Nat.le_refl _) (Nat.le_of_lt hsz2),fun _=>rfl⟩
     first|exact JC hgb _|exact JC (JC hgb _) _
    |none=>
     have hb:Jx none<0:=by decide
     go_wp2_with fail
     go_quiet (fail)
     have hownQ:=(SW hown (JC (World.grownBy.refl _ _) nq) hsz2).alloc (.cells #[.int .i64 4,.string ⟨#[]⟩,.int .i64 0,.int .i64 s.size] 74)
     go_wp2_with (at_builtin;refine wpList_append_own _ rfl _ _ 43 rfl w2.heap.size 74 i0 _ 4 40 Tryz.underlying43 hi hz0 hz1 hz2 rfl Qo _ _ _ rfl hownQ ⟨wr.heap.size,0,none⟩ 1 1 [.int .i64 4,.string ⟨#[]⟩,.int .i64 0,.int .i64 s.size] rfl rfl ?c1 ?c2 ?c3 ?c4 ?c5 ?_)
     case c1=>exact We _ _ _ _ rfl
     case c2=>intro u hu;simp at hu;rcases hu with rfl|rfl|rfl|rfl<;>rfl
     case c3=>unfold maxLen;omega
     case c4=>omega
     case c5=>have:=hgb.size;simp;omega
     intro v' w5 hown5 hgrow5 _;have hgb5:=xz (YW (JC hgb _) _) hgrow5 fun j hj=>(Oi hownQ hj).1
     go_wp2
     go_ret3
     rw[VB,HT.out,←HXE.out];refine⟨v',rfl,?_,Ku HB2.out hgb5 (Nat.le_refl _) (Nat.le_of_lt hsz2),fun e=>absurd e Q1⟩;have:=H3 hown5 (Nat.le_of_lt hsz2);show w5.ownsRow w.heap.size 74 4 v' (acc++[Wy s]).length (XF (acc++[Wy s]));rw[←FW,List.length_append];exact this
end Go.Proofs.YthjgndgnmkiaiaaGreatDoor
