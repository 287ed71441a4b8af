/-
  The lexer of 'lex': 'token'.
-/
import Derived.Test.YtaomhhkflohhgaaGreatDoorMgLx1
namespace Go.Proofs.YtaomhhkflohhgaaGreatDoor
open Go Go.RowKit
set_option linter.unusedVariables false
set_option maxRecDepth 10000
attribute [local go_sem] VK Xz

structure Yk where
 kind:Int
 text:ByteArray
 num:Nat
 at':Nat
 ok:Bool
 len:Nat
def ND:Yk:=⟨0,⟨#[]⟩,0,0,false,0⟩
def GJ(s:ByteArray)(fin:Nat)(r:List (Nat×Nat)):Yk:=
 ⟨if VU Ae (s.extract (Q7 fin r 0) (Q7 fin r (Ul r)))then 3 else 1,s.extract (Q7 fin r 0) (Q7 fin r (Ul r)),0,Q7 fin r 0,
  decide (count (s.extract (Q7 fin r 0) (Q7 fin r (Ul r)))≤12),Ul r⟩
def TV(fin:Nat)(c:Nat)(r:List (Nat×Nat)):Yk:=
 ⟨2,⟨#[]⟩,Uk 100 0 r,Q7 fin r 0,decide (Uk 100 0 r≤99)&&(decide (c≠48)||decide (Z8 r=1)),Z8 r⟩
def Nr(fin:Nat)(r:List (Nat×Nat)):Yk:=match W8 r with
 |some sg=>⟨3,sg,0,Q7 fin r 0,true,sg.size⟩
 |none=>ND
def V8(s:ByteArray)(fin:Nat)(r:List (Nat×Nat)):Yk:=match r with
 |[]=>ND
 |(c,_)::_=>if QM c=1 then GJ s fin r else if QM c=2 then TV fin c r else if QM c=4 then Nr fin r else ND

def LX(w:World)(g:Nat)(s:ByteArray)(A:Option Addr)(cap:Nat)(L:List (Nat×Nat))(bad:Option Nat)(n:Nat)(t:Yk)(e:Ending)(w':World):Prop:=
 e=.returned (.tuple #[.agg #[.int .i64 t.kind,.string t.text,.int .i64 t.num,.int .i64 t.at'],.bool t.ok])∧w.grownBy w' (some g)∧Jo w' g s A cap L bad (n+t.len)

theorem B7{w W:World}{g:Nat}{s:ByteArray}{A:Option Addr}{cap:Nat}{L:List (Nat×Nat)}{bad:Option Nat}{n0 n:Nat}(H:Jo w g s A cap L bad n0)
  (hgb:w.grownBy W (some g)) (hx:Jo W g s A cap L bad n) (x0 x1 x2 x3:Value):
  w.grownBy ((((W.setCell ⟨w.heap.size,0,none⟩ x0).setCell ⟨w.heap.size,1,none⟩ x1).setCell ⟨w.heap.size,2,none⟩ x2).setCell ⟨w.heap.size,3,none⟩ x3) (some g)∧
  Jo ((((W.setCell ⟨w.heap.size,0,none⟩ x0).setCell ⟨w.heap.size,1,none⟩ x1).setCell ⟨w.heap.size,2,none⟩ x2).setCell ⟨w.heap.size,3,none⟩ x3) g s A cap L bad n:=by
 have G:=Cc (b:=w.heap.size) hgb (Nat.le_refl _) x0 x1 x2 x3;exact⟨G,H.next G hx.le ((EP (by have:=H.lt;omega) _ _ _ _).trans hx.blk)⟩

theorem Sa(s:ByteArray)(fin n:Nat)(L:List (Nat×Nat))(h:n<L.length):
  V8 s fin (L.drop n)=if QM (L[n]).1=1 then GJ s fin (L.drop n)else if QM (L[n]).1=2 then TV fin (L[n]).1 (L.drop n)else if QM (L[n]).1=4 then Nr fin (L.drop n)else ND:=by
 rw[Vg L n h];rfl

theorem WA(s:ByteArray)(bad:Option Nat)(L:List (Nat×Nat))(n m:Nat):J1 s bad L (n+m)=Q7 (Je s bad) (L.drop n) m:=(Zi _ _ _ _).symm

theorem jK(w:World)(g:Nat)(s:ByteArray)(A:Option Addr)(cap:Nat)(L:List (Nat×Nat))(bad:Option Nat)(n:Nat)(h:Jo w g s A cap L bad n):
  Calls Tryz.prog 102 #[.pointer (some ⟨g,0,none⟩)] w (LX w g s A cap L bad n (GJ s (Je s bad) (L.drop n))):=by
 refine(zo w g s A cap L bad n h).mono fun e w' hp=>?_;obtain⟨he,hg,hx⟩:=hp;refine⟨?_,hg,hx⟩;rw[he,WA s bad L n (Ul (L.drop n)),←Nat.add_zero n,WA s bad L n 0];rfl
theorem Rl(w:World)(g:Nat)(s:ByteArray)(A:Option Addr)(cap:Nat)(L:List (Nat×Nat))(bad:Option Nat)(n:Nat)(h:Jo w g s A cap L bad n)(hn:n<L.length):
  Calls Tryz.prog 103 #[.pointer (some ⟨g,0,none⟩)] w (LX w g s A cap L bad n (TV (Je s bad) (L[n]).1 (L.drop n))):=by
 refine(TU w g s A cap L bad n h hn).mono fun e w' hp=>?_;obtain⟨he,hg,hx⟩:=hp;refine⟨?_,hg,hx⟩;have hp0:=WA s bad L n 0;rw[Nat.add_zero]at hp0;rw[he,hp0];rfl
theorem qH(w:World)(g:Nat)(s:ByteArray)(A:Option Addr)(cap:Nat)(L:List (Nat×Nat))(bad:Option Nat)(n:Nat)(h:Jo w g s A cap L bad n):
  Calls Tryz.prog 104 #[.pointer (some ⟨g,0,none⟩)] w (LX w g s A cap L bad n (Nr (Je s bad) (L.drop n))):=by
 refine(qI w g s A cap L bad n h).mono fun e w' hp=>?_;have hp0:=WA s bad L n 0;rw[Nat.add_zero]at hp0;unfold KE at hp;unfold Nr
 split at hp
 ·obtain⟨he,hg,hx⟩:=hp;rename_i sg hs;rw[hs];refine⟨?_,hg,hx⟩;rw[he,hp0];rfl
 ·obtain⟨he,hg,hx⟩:=hp;rename_i hs;rw[hs];exact⟨he,hg,hx⟩

set_option maxHeartbeats 1000000 in
theorem qn(w:World)(g:Nat)(s:ByteArray)(A:Option Addr)(cap:Nat)(L:List (Nat×Nat))(bad:Option Nat)(n:Nat)(h:Jo w g s A cap L bad n)(hn:n<L.length):
  Calls Tryz.prog 86 #[.pointer (some ⟨g,0,none⟩)] w (LX w g s A cap L bad n (V8 s (Je s bad) (L.drop n))):=by
 have htr:=Sa s (Je s bad) n L hn
 have hcl:Jb L n=QM (L[n]).1:=by simp[Jb,hn]
 have hC:=fun(W:World) (h:Jo W g s A cap L bad n)=>VL W g s A cap L bad n h;have hN:=fun(W:World) (h:Jo W g s A cap L bad n)=>jK W g s A cap L bad n h;have hD:=fun(W:World) (h:Jo W g s A cap L bad n)=>Rl W g s A cap L bad n h hn;have hS:=fun(W:World) (h:Jo W g s A cap L bad n)=>qH W g s A cap L bad n h;rw[hcl]at hC;rw[htr]
 generalize GJ s (Je s bad) (L.drop n)=tN at *
 generalize TV (Je s bad) (L[n]).1 (L.drop n)=tD at *
 generalize Nr (Je s bad) (L.drop n)=tS at *
 generalize hcc:QM (L[n]).1=cc at *
 have HC:=Lib.hid hC;have HN:=Lib.hid hN;have HD:=Lib.hid hD;have HS:=Lib.hid hS;have H:=Lib.hid h;have hglt:=h.lt
 have hgne: ¬w.heap.size=g:=by omega
 clear hC hN hD hS htr hcl hcc h
 have key: ∀(w2:World) (q:Nat),((w.alloc (.cells #[.int .i64 0,.string ⟨#[]⟩,.int .i64 0,.int .i64 0] 71)).drewN q).grownBy w2 (some g)→
   w.grownBy w2 (some g)∧w2.heap[w.heap.size]? =some (.cells #[.int .i64 0,.string ⟨#[]⟩,.int .i64 0,.int .i64 0] 71 (0,0)):=fun w2 q hg2=>
  ⟨WN (JN (YW (World.grownBy.refl _ _) _) _) hg2,(hg2.block w.heap.size Q3 (by simpa using hgne)).trans (heap_alloc_new w _)⟩
 have KEY:=Lib.hid key;clear key
 by_cases h1:cc=1
 ·rw[if_pos h1]
  have t1:(cc==1)=true:=by rw[h1];rfl
  clear h1
  go_enter Tryz.func86,Tryz.ntmps86
  go_wp2_with fail
  refine(HC.out _ (H.out.alloc _)).mono ?_
  rintro e w1 ⟨rfl,m,rfl⟩
  go_wp2_with fail
  refine(HN.out _ ((H.out.alloc _).drewN _)).mono ?_
  rintro e w2 ⟨rfl,hg2,hx2⟩
  obtain⟨hgb,hB2⟩:=KEY.out w2 _ hg2;have b0:w2.cell? ⟨w.heap.size,0,none⟩=some (.int .i64 0):=cell_of_row _ w.heap.size 0 _ _ _ hB2;have b1:w2.cell? ⟨w.heap.size,1,none⟩=some (.string ⟨#[]⟩):=cell_of_row _ w.heap.size 1 _ _ _ hB2;have b2:w2.cell? ⟨w.heap.size,2,none⟩=some (.int .i64 0):=cell_of_row _ w.heap.size 2 _ _ _ hB2;have b3:w2.cell? ⟨w.heap.size,3,none⟩=some (.int .i64 0):=cell_of_row _ w.heap.size 3 _ _ _ hB2
  have bf: ∀o,w2.frozen? ⟨w.heap.size,o,none⟩=false:=fun o=>by simp[World.frozen?,hB2]
  have HB2:=Lib.hid hB2;have HX2:=Lib.hid hx2;clear hB2 hx2 hg2
  go_wp2
  obtain⟨r0,r1,r2,r3⟩:=W9 HB2.out (.int .i64 tN.kind) (.string tN.text) (.int .i64 tN.num) (.int .i64 tN.at');refine bodyPost_ret (v:=.tuple #[.agg #[.int .i64 tN.kind,.string tN.text,.int .i64 tN.num,.int .i64 tN.at'],.bool tN.ok]) (by simp[results,Tryz.results86,go_sem,r0,r1,r2,r3]) rfl ?_;exact⟨rfl,B7 H.out hgb HX2.out _ _ _ _⟩
 ·have t1:(cc==1)=false:=by simp[h1]
  rw[if_neg h1]
  by_cases h2:cc=2
  ·rw[if_pos h2]
   have t2:(cc==2)=true:=by rw[h2];rfl
   clear h1 h2
   go_enter Tryz.func86,Tryz.ntmps86
   go_wp2_with fail
   refine(HC.out _ (H.out.alloc _)).mono ?_
   rintro e w1 ⟨rfl,m,rfl⟩
   go_wp2_with fail
   refine(HD.out _ ((H.out.alloc _).drewN _)).mono ?_
   rintro e w2 ⟨rfl,hg2,hx2⟩
   obtain⟨hgb,hB2⟩:=KEY.out w2 _ hg2;have b0:w2.cell? ⟨w.heap.size,0,none⟩=some (.int .i64 0):=cell_of_row _ w.heap.size 0 _ _ _ hB2;have b1:w2.cell? ⟨w.heap.size,1,none⟩=some (.string ⟨#[]⟩):=cell_of_row _ w.heap.size 1 _ _ _ hB2;have b2:w2.cell? ⟨w.heap.size,2,none⟩=some (.int .i64 0):=cell_of_row _ w.heap.size 2 _ _ _ hB2;have b3:w2.cell? ⟨w.heap.size,3,none⟩=some (.int .i64 0):=cell_of_row _ w.heap.size 3 _ _ _ hB2
   have bf: ∀o,w2.frozen? ⟨w.heap.size,o,none⟩=false:=fun o=>by simp[World.frozen?,hB2]
   have HB2:=Lib.hid hB2;have HX2:=Lib.hid hx2;clear hB2 hx2 hg2
   go_wp2
   obtain⟨r0,r1,r2,r3⟩:=W9 HB2.out (.int .i64 tD.kind) (.string tD.text) (.int .i64 tD.num) (.int .i64 tD.at');refine bodyPost_ret (v:=.tuple #[.agg #[.int .i64 tD.kind,.string tD.text,.int .i64 tD.num,.int .i64 tD.at'],.bool tD.ok]) (by simp[results,Tryz.results86,go_sem,r0,r1,r2,r3]) rfl ?_;exact⟨rfl,B7 H.out hgb HX2.out _ _ _ _⟩
  ·have t2:(cc==2)=false:=by simp[h2]
   rw[if_neg h2]
   by_cases h4:cc=4
   ·rw[if_pos h4]
    have t4:(cc==4)=true:=by rw[h4];rfl
    clear h1 h2 h4
    go_enter Tryz.func86,Tryz.ntmps86
    go_wp2_with fail
    refine(HC.out _ (H.out.alloc _)).mono ?_
    rintro e w1 ⟨rfl,m,rfl⟩
    go_wp2_with fail
    refine(HS.out _ ((H.out.alloc _).drewN _)).mono ?_
    rintro e w2 ⟨rfl,hg2,hx2⟩
    obtain⟨hgb,hB2⟩:=KEY.out w2 _ hg2;have b0:w2.cell? ⟨w.heap.size,0,none⟩=some (.int .i64 0):=cell_of_row _ w.heap.size 0 _ _ _ hB2;have b1:w2.cell? ⟨w.heap.size,1,none⟩=some (.string ⟨#[]⟩):=cell_of_row _ w.heap.size 1 _ _ _ hB2;have b2:w2.cell? ⟨w.heap.size,2,none⟩=some (.int .i64 0):=cell_of_row _ w.heap.size 2 _ _ _ hB2;have b3:w2.cell? ⟨w.heap.size,3,none⟩=some (.int .i64 0):=cell_of_row _ w.heap.size 3 _ _ _ hB2
    have bf: ∀o,w2.frozen? ⟨w.heap.size,o,none⟩=false:=fun o=>by simp[World.frozen?,hB2]
    have HB2:=Lib.hid hB2;have HX2:=Lib.hid hx2;clear hB2 hx2 hg2
    go_wp2
    obtain⟨r0,r1,r2,r3⟩:=W9 HB2.out (.int .i64 tS.kind) (.string tS.text) (.int .i64 tS.num) (.int .i64 tS.at');refine bodyPost_ret (v:=.tuple #[.agg #[.int .i64 tS.kind,.string tS.text,.int .i64 tS.num,.int .i64 tS.at'],.bool tS.ok]) (by simp[results,Tryz.results86,go_sem,r0,r1,r2,r3]) rfl ?_;exact⟨rfl,B7 H.out hgb HX2.out _ _ _ _⟩
   ·have t4:(cc==4)=false:=by simp[h4]
    rw[if_neg h4];clear h1 h2 h4
    go_enter Tryz.func86,Tryz.ntmps86
    go_wp2_with fail
    refine(HC.out _ (H.out.alloc _)).mono ?_
    rintro e w1 ⟨rfl,m,rfl⟩
    go_wp2
    refine bodyPost_ret (v:=.tuple #[.agg #[.int .i64 0,.string ⟨#[]⟩,.int .i64 0,.int .i64 0],.bool false]) (by simp[results,Tryz.results86,go_sem]) rfl ?_;exact⟨rfl,JN (YW (World.grownBy.refl _ _) _) _,(H.out.alloc _).drewN _⟩

theorem FD{r:Int}:QM r=1↔Yf r=true:=by
 constructor
 ·intro h
  by_cases h1:Yf r=true
  ·exact h1
  ·unfold QM at h;rw[if_neg h1]at h
   split at h
   ·simp at h
   ·split at h
    ·simp at h
    ·split at h<;>simp at h
 ·exact FE

theorem Ni(s:ByteArray)(fin:Nat)(r:List (Nat×Nat))(h:(V8 s fin r).ok=true):1≤(V8 s fin r).len:=by
 cases r with
 |nil=>simp[V8,ND]at h
 |cons x r=>
  obtain⟨c,a⟩:=x;simp only[V8]at h ⊢
  by_cases h1:QM (c:Int)=1
  ·rw[if_pos h1];simp only[GJ,Ul];rw[if_pos (by simp[WH,FD.1 h1])];omega
  ·rw[if_neg h1]at h ⊢
   by_cases h2:QM (c:Int)=2
   ·rw[if_pos h2];simp only[TV,Z8];rw[if_pos (Zc.1 h2)];omega
   ·rw[if_neg h2]at h ⊢
    by_cases h4:QM (c:Int)=4
    ·rw[if_pos h4]at h ⊢;unfold Nr at h ⊢
     split at h
     ·rename_i sg hs;exact(HQ sg (List.mem_of_find?_eq_some hs)).1
     ·simp[ND]at h
    ·rw[if_neg h4]at h;simp[ND]at h

def WL(s:ByteArray)(fin:Nat):Nat→List (Nat×Nat)→Option (List Yk)×Nat
 |0,_=>(some [],0)
 |_+1,[]=>(some [],0)
 |f+1,x::r=>
  if(V8 s fin (x::r)).ok then
   ((WL s fin f (((x::r).drop (V8 s fin (x::r)).len).drop (QY false ((x::r).drop (V8 s fin (x::r)).len)))).1.map (V8 s fin (x::r):: ·),
    (WL s fin f (((x::r).drop (V8 s fin (x::r)).len).drop (QY false ((x::r).drop (V8 s fin (x::r)).len)))).2)
  else(none,Q7 fin (x::r) 0)
def A3(s:ByteArray):Yk:=⟨4,⟨#[]⟩,0,s.size,true,0⟩
def tokens(s:ByteArray):List Yk×Nat×Int:=
 if 2000<s.size then([],0,3)
 else match WL s (Je s (each s).2) ((each s).1.length+1) ((each s).1.drop (QY false (each s).1))with
  |(none,p)=>([],p,2)
  |(some l,_)=>match(each s).2 with
   |some q=>([],q,2)
   |none=>(l++[A3 s],s.size,0)
def XW(l:List Yk):List Value:=l.flatMap fun t=>[.int .i64 t.kind,.string t.text,.int .i64 t.num,.int .i64 t.at']
theorem Ho(l:List Yk)(t:Yk):XW l++[.int .i64 t.kind,.string t.text,.int .i64 t.num,.int .i64 t.at']=XW (l++[t]):=by
 simp[XW]

def comb(acc:List Yk)(x:Option (List Yk)×Nat):Option (List Yk)×Nat:=(x.1.map (acc++ ·),x.2)
theorem SQ(s:ByteArray)(fin:Nat)(f:Nat)(r:List (Nat×Nat))(acc:List Yk)(hr:0<r.length)(h:(V8 s fin r).ok=true):
  comb acc (WL s fin (f+1) r)=comb (acc++[V8 s fin r]) (WL s fin f ((r.drop (V8 s fin r).len).drop (QY false (r.drop (V8 s fin r).len)))):=by
 cases r with
 |nil=>simp at hr
 |cons x r=>
  rw[WL,if_pos h];generalize V8 s fin (x::r)=t;generalize WL s fin f _=y;obtain⟨y1,y2⟩:=y
  cases y1<;>simp[comb]
theorem DV(s:ByteArray)(fin:Nat)(f:Nat)(r:List (Nat×Nat))(acc:List Yk)(hr:0<r.length)(h:(V8 s fin r).ok=false):
  comb acc (WL s fin (f+1) r)=(none,Q7 fin r 0):=by
 cases r with
 |nil=>simp at hr
 |cons x r=>
  rw[WL,if_neg (by rw[h];decide)];rfl
theorem Ou(s:ByteArray)(fin:Nat)(f:Nat)(acc:List Yk):comb acc (WL s fin f [])=(some acc,0):=by
 cases f<;>simp[WL,comb]

end Go.Proofs.YtaomhhkflohhgaaGreatDoor
