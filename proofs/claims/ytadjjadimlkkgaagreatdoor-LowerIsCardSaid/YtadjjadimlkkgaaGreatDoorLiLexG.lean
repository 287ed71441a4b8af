/-
  The lexer of 'lex': 'token'.
-/
import Derived.Test.YtadjjadimlkkgaaGreatDoorLiLx1
namespace Go.Proofs.YtadjjadimlkkgaaGreatDoor
open Go Go.RowKit
set_option linter.unusedVariables false
set_option maxRecDepth 10000
attribute [local go_sem] ZX YF

structure Y7 where
 kind:Int
 text:ByteArray
 num:Nat
 at':Nat
 ok:Bool
 len:Nat
def I6:Y7:=⟨0,⟨#[]⟩,0,0,false,0⟩
def Gc(s:ByteArray)(fin:Nat)(r:List (Nat×Nat)):Y7:=
 ⟨if We EH (s.extract (JH fin r 0) (JH fin r (V7 r)))then 3 else 1,s.extract (JH fin r 0) (JH fin r (V7 r)),0,JH fin r 0,
  decide (count (s.extract (JH fin r 0) (JH fin r (V7 r)))≤12),V7 r⟩
def Sk(fin:Nat)(c:Nat)(r:List (Nat×Nat)):Y7:=
 ⟨2,⟨#[]⟩,ZB 100 0 r,JH fin r 0,decide (ZB 100 0 r≤99)&&(decide (c≠48)||decide (Et r=1)),Et r⟩
def Lm(fin:Nat)(r:List (Nat×Nat)):Y7:=match Fp r with
 |some sg=>⟨3,sg,0,JH fin r 0,true,sg.size⟩
 |none=>I6
def Vc(s:ByteArray)(fin:Nat)(r:List (Nat×Nat)):Y7:=match r with
 |[]=>I6
 |(c,_)::_=>if QK c=1 then Gc s fin r else if QK c=2 then Sk fin c r else if QK c=4 then Lm fin r else I6

def HE(w:World)(g:Nat)(s:ByteArray)(A:Option Addr)(cap:Nat)(L:List (Nat×Nat))(bad:Option Nat)(n:Nat)(t:Y7)(e:Ending)(w':World):Prop:=
 e=.returned (.tuple #[.agg #[.int .i64 t.kind,.string t.text,.int .i64 t.num,.int .i64 t.at'],.bool t.ok])∧w.grownBy w' (some g)∧QS w' g s A cap L bad (n+t.len)

theorem Nr{w W:World}{g:Nat}{s:ByteArray}{A:Option Addr}{cap:Nat}{L:List (Nat×Nat)}{bad:Option Nat}{n0 n:Nat}(H:QS w g s A cap L bad n0)
  (hgb:w.grownBy W (some g)) (hx:QS W g s A cap L bad n) (x0 x1 x2 x3:Value):
  w.grownBy ((((W.setCell ⟨w.heap.size,0,none⟩ x0).setCell ⟨w.heap.size,1,none⟩ x1).setCell ⟨w.heap.size,2,none⟩ x2).setCell ⟨w.heap.size,3,none⟩ x3) (some g)∧
  QS ((((W.setCell ⟨w.heap.size,0,none⟩ x0).setCell ⟨w.heap.size,1,none⟩ x1).setCell ⟨w.heap.size,2,none⟩ x2).setCell ⟨w.heap.size,3,none⟩ x3) g s A cap L bad n:=by
 have G:=NR (b:=w.heap.size) hgb (Nat.le_refl _) x0 x1 x2 x3;exact⟨G,H.next G hx.le ((V8 (by have:=H.lt;omega) _ _ _ _).trans hx.blk)⟩

theorem Ml(s:ByteArray)(fin n:Nat)(L:List (Nat×Nat))(h:n<L.length):
  Vc s fin (L.drop n)=if QK (L[n]).1=1 then Gc s fin (L.drop n)else if QK (L[n]).1=2 then Sk fin (L[n]).1 (L.drop n)else if QK (L[n]).1=4 then Lm fin (L.drop n)else I6:=by
 rw[Xt L n h];rfl

theorem XB(s:ByteArray)(bad:Option Nat)(L:List (Nat×Nat))(n m:Nat):JZ s bad L (n+m)=JH (U7 s bad) (L.drop n) m:=(A4 _ _ _ _).symm

theorem Sr(w:World)(g:Nat)(s:ByteArray)(A:Option Addr)(cap:Nat)(L:List (Nat×Nat))(bad:Option Nat)(n:Nat)(h:QS w g s A cap L bad n):
  Calls Tryz.prog 180 #[.pointer (some ⟨g,0,none⟩)] w (HE w g s A cap L bad n (Gc s (U7 s bad) (L.drop n))):=by
 refine(MR w g s A cap L bad n h).mono fun e w' hp=>?_;obtain⟨he,hg,hx⟩:=hp;refine⟨?_,hg,hx⟩;rw[he,XB s bad L n (V7 (L.drop n)),←Nat.add_zero n,XB s bad L n 0];rfl
theorem BJ(w:World)(g:Nat)(s:ByteArray)(A:Option Addr)(cap:Nat)(L:List (Nat×Nat))(bad:Option Nat)(n:Nat)(h:QS w g s A cap L bad n)(hn:n<L.length):
  Calls Tryz.prog 181 #[.pointer (some ⟨g,0,none⟩)] w (HE w g s A cap L bad n (Sk (U7 s bad) (L[n]).1 (L.drop n))):=by
 refine(DZ w g s A cap L bad n h hn).mono fun e w' hp=>?_;obtain⟨he,hg,hx⟩:=hp;refine⟨?_,hg,hx⟩;have hp0:=XB s bad L n 0;rw[Nat.add_zero]at hp0;rw[he,hp0];rfl
theorem RJ(w:World)(g:Nat)(s:ByteArray)(A:Option Addr)(cap:Nat)(L:List (Nat×Nat))(bad:Option Nat)(n:Nat)(h:QS w g s A cap L bad n):
  Calls Tryz.prog 182 #[.pointer (some ⟨g,0,none⟩)] w (HE w g s A cap L bad n (Lm (U7 s bad) (L.drop n))):=by
 refine(RK w g s A cap L bad n h).mono fun e w' hp=>?_;have hp0:=XB s bad L n 0;rw[Nat.add_zero]at hp0;unfold AY at hp;unfold Lm
 split at hp
 ·obtain⟨he,hg,hx⟩:=hp;rename_i sg hs;rw[hs];refine⟨?_,hg,hx⟩;rw[he,hp0];rfl
 ·obtain⟨he,hg,hx⟩:=hp;rename_i hs;rw[hs];exact⟨he,hg,hx⟩

set_option maxHeartbeats 1000000 in
theorem Rz(w:World)(g:Nat)(s:ByteArray)(A:Option Addr)(cap:Nat)(L:List (Nat×Nat))(bad:Option Nat)(n:Nat)(h:QS w g s A cap L bad n)(hn:n<L.length):
  Calls Tryz.prog 124 #[.pointer (some ⟨g,0,none⟩)] w (HE w g s A cap L bad n (Vc s (U7 s bad) (L.drop n))):=by
 have htr:=Ml s (U7 s bad) n L hn
 have hcl:Uf L n=QK (L[n]).1:=by simp[Uf,hn]
 have hC:=fun(W:World) (h:QS W g s A cap L bad n)=>Xa W g s A cap L bad n h;have hN:=fun(W:World) (h:QS W g s A cap L bad n)=>Sr W g s A cap L bad n h;have hD:=fun(W:World) (h:QS W g s A cap L bad n)=>BJ W g s A cap L bad n h hn;have hS:=fun(W:World) (h:QS W g s A cap L bad n)=>RJ W g s A cap L bad n h;rw[hcl]at hC;rw[htr]
 generalize Gc s (U7 s bad) (L.drop n)=tN at *
 generalize Sk (U7 s bad) (L[n]).1 (L.drop n)=tD at *
 generalize Lm (U7 s bad) (L.drop n)=tS at *
 generalize hcc:QK (L[n]).1=cc at *
 have HC:=Lib.hid hC;have HN:=Lib.hid hN;have HD:=Lib.hid hD;have HS:=Lib.hid hS;have H:=Lib.hid h;have hglt:=h.lt
 have hgne: ¬w.heap.size=g:=by omega
 clear hC hN hD hS htr hcl hcc h
 have key: ∀(w2:World) (q:Nat),((w.alloc (.cells #[.int .i64 0,.string ⟨#[]⟩,.int .i64 0,.int .i64 0] 75)).drewN q).grownBy w2 (some g)→
   w.grownBy w2 (some g)∧w2.heap[w.heap.size]? =some (.cells #[.int .i64 0,.string ⟨#[]⟩,.int .i64 0,.int .i64 0] 75 (0,0)):=fun w2 q hg2=>
  ⟨XG (Jx (UO (World.grownBy.refl _ _) _) _) hg2,(hg2.block w.heap.size (by simp) (by simpa using hgne)).trans (heap_alloc_new w _)⟩
 have KEY:=Lib.hid key;clear key
 by_cases h1:cc=1
 ·rw[if_pos h1]
  have t1:(cc==1)=true:=by rw[h1];rfl
  clear h1
  go_enter Tryz.func124,Tryz.ntmps124
  go_wp2_with fail
  refine(HC.out _ (H.out.alloc _)).mono ?_
  rintro e w1 ⟨rfl,m,rfl⟩
  go_wp2_with fail
  refine(HN.out _ ((H.out.alloc _).drewN _)).mono ?_
  rintro e w2 ⟨rfl,hg2,hx2⟩
  obtain⟨hgb,hB2⟩:=KEY.out w2 _ hg2;have b0:w2.cell? ⟨w.heap.size,0,none⟩=some (.int .i64 0):=cell_of_row _ w.heap.size 0 _ _ _ hB2;have b1:w2.cell? ⟨w.heap.size,1,none⟩=some (.string ⟨#[]⟩):=cell_of_row _ w.heap.size 1 _ _ _ hB2;have b2:w2.cell? ⟨w.heap.size,2,none⟩=some (.int .i64 0):=cell_of_row _ w.heap.size 2 _ _ _ hB2;have b3:w2.cell? ⟨w.heap.size,3,none⟩=some (.int .i64 0):=cell_of_row _ w.heap.size 3 _ _ _ hB2
  have bf: ∀o,w2.frozen? ⟨w.heap.size,o,none⟩=false:=fun o=>by simp[World.frozen?,hB2]
  have HB2:=Lib.hid hB2;have HX2:=Lib.hid hx2;clear hB2 hx2 hg2
  go_wp2
  obtain⟨r0,r1,r2,r3⟩:=X7 HB2.out (.int .i64 tN.kind) (.string tN.text) (.int .i64 tN.num) (.int .i64 tN.at');refine bodyPost_ret (v:=.tuple #[.agg #[.int .i64 tN.kind,.string tN.text,.int .i64 tN.num,.int .i64 tN.at'],.bool tN.ok]) (by simp[results,Tryz.results124,go_sem,r0,r1,r2,r3]) rfl ?_;exact⟨rfl,Nr H.out hgb HX2.out _ _ _ _⟩
 ·have t1:(cc==1)=false:=by simp[h1]
  rw[if_neg h1]
  by_cases h2:cc=2
  ·rw[if_pos h2]
   have t2:(cc==2)=true:=by rw[h2];rfl
   clear h1 h2
   go_enter Tryz.func124,Tryz.ntmps124
   go_wp2_with fail
   refine(HC.out _ (H.out.alloc _)).mono ?_
   rintro e w1 ⟨rfl,m,rfl⟩
   go_wp2_with fail
   refine(HD.out _ ((H.out.alloc _).drewN _)).mono ?_
   rintro e w2 ⟨rfl,hg2,hx2⟩
   obtain⟨hgb,hB2⟩:=KEY.out w2 _ hg2;have b0:w2.cell? ⟨w.heap.size,0,none⟩=some (.int .i64 0):=cell_of_row _ w.heap.size 0 _ _ _ hB2;have b1:w2.cell? ⟨w.heap.size,1,none⟩=some (.string ⟨#[]⟩):=cell_of_row _ w.heap.size 1 _ _ _ hB2;have b2:w2.cell? ⟨w.heap.size,2,none⟩=some (.int .i64 0):=cell_of_row _ w.heap.size 2 _ _ _ hB2;have b3:w2.cell? ⟨w.heap.size,3,none⟩=some (.int .i64 0):=cell_of_row _ w.heap.size 3 _ _ _ hB2
   have bf: ∀o,w2.frozen? ⟨w.heap.size,o,none⟩=false:=fun o=>by simp[World.frozen?,hB2]
   have HB2:=Lib.hid hB2;have HX2:=Lib.hid hx2;clear hB2 hx2 hg2
   go_wp2
   obtain⟨r0,r1,r2,r3⟩:=X7 HB2.out (.int .i64 tD.kind) (.string tD.text) (.int .i64 tD.num) (.int .i64 tD.at');refine bodyPost_ret (v:=.tuple #[.agg #[.int .i64 tD.kind,.string tD.text,.int .i64 tD.num,.int .i64 tD.at'],.bool tD.ok]) (by simp[results,Tryz.results124,go_sem,r0,r1,r2,r3]) rfl ?_;exact⟨rfl,Nr H.out hgb HX2.out _ _ _ _⟩
  ·have t2:(cc==2)=false:=by simp[h2]
   rw[if_neg h2]
   by_cases h4:cc=4
   ·rw[if_pos h4]
    have t4:(cc==4)=true:=by rw[h4];rfl
    clear h1 h2 h4
    go_enter Tryz.func124,Tryz.ntmps124
    go_wp2_with fail
    refine(HC.out _ (H.out.alloc _)).mono ?_
    rintro e w1 ⟨rfl,m,rfl⟩
    go_wp2_with fail
    refine(HS.out _ ((H.out.alloc _).drewN _)).mono ?_
    rintro e w2 ⟨rfl,hg2,hx2⟩
    obtain⟨hgb,hB2⟩:=KEY.out w2 _ hg2;have b0:w2.cell? ⟨w.heap.size,0,none⟩=some (.int .i64 0):=cell_of_row _ w.heap.size 0 _ _ _ hB2;have b1:w2.cell? ⟨w.heap.size,1,none⟩=some (.string ⟨#[]⟩):=cell_of_row _ w.heap.size 1 _ _ _ hB2;have b2:w2.cell? ⟨w.heap.size,2,none⟩=some (.int .i64 0):=cell_of_row _ w.heap.size 2 _ _ _ hB2;have b3:w2.cell? ⟨w.heap.size,3,none⟩=some (.int .i64 0):=cell_of_row _ w.heap.size 3 _ _ _ hB2
    have bf: ∀o,w2.frozen? ⟨w.heap.size,o,none⟩=false:=fun o=>by simp[World.frozen?,hB2]
    have HB2:=Lib.hid hB2;have HX2:=Lib.hid hx2;clear hB2 hx2 hg2
    go_wp2
    obtain⟨r0,r1,r2,r3⟩:=X7 HB2.out (.int .i64 tS.kind) (.string tS.text) (.int .i64 tS.num) (.int .i64 tS.at');refine bodyPost_ret (v:=.tuple #[.agg #[.int .i64 tS.kind,.string tS.text,.int .i64 tS.num,.int .i64 tS.at'],.bool tS.ok]) (by simp[results,Tryz.results124,go_sem,r0,r1,r2,r3]) rfl ?_;exact⟨rfl,Nr H.out hgb HX2.out _ _ _ _⟩
   ·have t4:(cc==4)=false:=by simp[h4]
    rw[if_neg h4];clear h1 h2 h4
    go_enter Tryz.func124,Tryz.ntmps124
    go_wp2_with fail
    refine(HC.out _ (H.out.alloc _)).mono ?_
    rintro e w1 ⟨rfl,m,rfl⟩
    go_wp2
    refine bodyPost_ret (v:=.tuple #[.agg #[.int .i64 0,.string ⟨#[]⟩,.int .i64 0,.int .i64 0],.bool false]) (by simp[results,Tryz.results124,go_sem]) rfl ?_;exact⟨rfl,Jx (UO (World.grownBy.refl _ _) _) _,(H.out.alloc _).drewN _⟩

theorem GH{r:Int}:QK r=1↔Up r=true:=by
 constructor
 ·intro h
  by_cases h1:Up r=true
  ·exact h1
  ·unfold QK at h;rw[if_neg h1]at h
   split at h
   ·simp at h
   ·split at h
    ·simp at h
    ·split at h<;>simp at h
 ·exact WY

theorem O7(s:ByteArray)(fin:Nat)(r:List (Nat×Nat))(h:(Vc s fin r).ok=true):1≤(Vc s fin r).len:=by
 cases r with
 |nil=>simp[Vc,I6]at h
 |cons x r=>
  obtain⟨c,a⟩:=x;simp only[Vc]at h ⊢
  by_cases h1:QK (c:Int)=1
  ·rw[if_pos h1];simp only[Gc,V7];rw[if_pos (by simp[WG,GH.1 h1])];omega
  ·rw[if_neg h1]at h ⊢
   by_cases h2:QK (c:Int)=2
   ·rw[if_pos h2];simp only[Sk,Et];rw[if_pos (WX.1 h2)];omega
   ·rw[if_neg h2]at h ⊢
    by_cases h4:QK (c:Int)=4
    ·rw[if_pos h4]at h ⊢;unfold Lm at h ⊢
     split at h
     ·rename_i sg hs;exact(Ik sg (List.mem_of_find?_eq_some hs)).1
     ·simp[I6]at h
    ·rw[if_neg h4]at h;simp[I6]at h

def WL(s:ByteArray)(fin:Nat):Nat→List (Nat×Nat)→Option (List Y7)×Nat
 |0,_=>(some [],0)
 |_+1,[]=>(some [],0)
 |f+1,x::r=>
  if(Vc s fin (x::r)).ok then
   ((WL s fin f (((x::r).drop (Vc s fin (x::r)).len).drop (J2 false ((x::r).drop (Vc s fin (x::r)).len)))).1.map (Vc s fin (x::r):: ·),
    (WL s fin f (((x::r).drop (Vc s fin (x::r)).len).drop (J2 false ((x::r).drop (Vc s fin (x::r)).len)))).2)
  else(none,JH fin (x::r) 0)
def NT(s:ByteArray):Y7:=⟨4,⟨#[]⟩,0,s.size,true,0⟩
def tokens(s:ByteArray):List Y7×Nat×Int:=
 if 2000<s.size then([],0,3)
 else match WL s (U7 s (each s).2) ((each s).1.length+1) ((each s).1.drop (J2 false (each s).1))with
  |(none,p)=>([],p,2)
  |(some l,_)=>match(each s).2 with
   |some q=>([],q,2)
   |none=>(l++[NT s],s.size,0)
def Zl(l:List Y7):List Value:=l.flatMap fun t=>[.int .i64 t.kind,.string t.text,.int .i64 t.num,.int .i64 t.at']
theorem Ey(l:List Y7)(t:Y7):Zl l++[.int .i64 t.kind,.string t.text,.int .i64 t.num,.int .i64 t.at']=Zl (l++[t]):=by
 simp[Zl]

def comb(acc:List Y7)(x:Option (List Y7)×Nat):Option (List Y7)×Nat:=(x.1.map (acc++ ·),x.2)
theorem qj(s:ByteArray)(fin:Nat)(f:Nat)(r:List (Nat×Nat))(acc:List Y7)(hr:0<r.length)(h:(Vc s fin r).ok=true):
  comb acc (WL s fin (f+1) r)=comb (acc++[Vc s fin r]) (WL s fin f ((r.drop (Vc s fin r).len).drop (J2 false (r.drop (Vc s fin r).len)))):=by
 cases r with
 |nil=>simp at hr
 |cons x r=>
  rw[WL,if_pos h];generalize Vc s fin (x::r)=t;generalize WL s fin f _=y;obtain⟨y1,y2⟩:=y
  cases y1<;>simp[comb]
theorem T9(s:ByteArray)(fin:Nat)(f:Nat)(r:List (Nat×Nat))(acc:List Y7)(hr:0<r.length)(h:(Vc s fin r).ok=false):
  comb acc (WL s fin (f+1) r)=(none,JH fin r 0):=by
 cases r with
 |nil=>simp at hr
 |cons x r=>
  rw[WL,if_neg (by rw[h];decide)];rfl
theorem T8(s:ByteArray)(fin:Nat)(f:Nat)(acc:List Y7):comb acc (WL s fin f [])=(some acc,0):=by
 cases f<;>simp[WL,comb]

end Go.Proofs.YtadjjadimlkkgaaGreatDoor
