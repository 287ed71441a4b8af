/-
  The lexer of 'lex': 'token'.
-/
import Derived.Test.YtadjjadimlkkgaaGreatDoorLoLx1
namespace Go.Proofs.YtadjjadimlkkgaaGreatDoor
open Go Go.RowKit
set_option linter.unusedVariables false
set_option maxRecDepth 10000
attribute [local go_sem] VS X1

structure Yw where
 kind:Int
 text:ByteArray
 num:Nat
 at':Nat
 ok:Bool
 len:Nat
def N1:Yw:=⟨0,⟨#[]⟩,0,0,false,0⟩
def Gb(s:ByteArray)(fin:Nat)(r:List (Nat×Nat)):Yw:=
 ⟨if We Ai (s.extract (QK fin r 0) (QK fin r (Uy r)))then 3 else 1,s.extract (QK fin r 0) (QK fin r (Uy r)),0,QK fin r 0,
  decide (count (s.extract (QK fin r 0) (QK fin r (Uy r)))≤12),Uy r⟩
def S8(fin:Nat)(c:Nat)(r:List (Nat×Nat)):Yw:=
 ⟨2,⟨#[]⟩,Ux 100 0 r,QK fin r 0,decide (Ux 100 0 r≤99)&&(decide (c≠48)||decide (ZN r=1)),ZN r⟩
def LY(fin:Nat)(r:List (Nat×Nat)):Yw:=match WC r with
 |some sg=>⟨3,sg,0,QK fin r 0,true,sg.size⟩
 |none=>N1
def VI(s:ByteArray)(fin:Nat)(r:List (Nat×Nat)):Yw:=match r with
 |[]=>N1
 |(c,_)::_=>if QW c=1 then Gb s fin r else if QW c=2 then S8 fin c r else if QW c=4 then LY fin r else N1

def LC(w:World)(g:Nat)(s:ByteArray)(A:Option Addr)(cap:Nat)(L:List (Nat×Nat))(bad:Option Nat)(n:Nat)(t:Yw)(e:Ending)(w':World):Prop:=
 e=.returned (.tuple #[.agg #[.int .i64 t.kind,.string t.text,.int .i64 t.num,.int .i64 t.at'],.bool t.ok])∧w.grownBy w' (some g)∧J8 w' g s A cap L bad (n+t.len)

theorem G9{w W:World}{g:Nat}{s:ByteArray}{A:Option Addr}{cap:Nat}{L:List (Nat×Nat)}{bad:Option Nat}{n0 n:Nat}(H:J8 w g s A cap L bad n0)
  (hgb:w.grownBy W (some g)) (hx:J8 W g s A cap L bad n) (x0 x1 x2 x3:Value):
  w.grownBy ((((W.setCell ⟨w.heap.size,0,none⟩ x0).setCell ⟨w.heap.size,1,none⟩ x1).setCell ⟨w.heap.size,2,none⟩ x2).setCell ⟨w.heap.size,3,none⟩ x3) (some g)∧
  J8 ((((W.setCell ⟨w.heap.size,0,none⟩ x0).setCell ⟨w.heap.size,1,none⟩ x1).setCell ⟨w.heap.size,2,none⟩ x2).setCell ⟨w.heap.size,3,none⟩ x3) g s A cap L bad n:=by
 have G:=Bk (b:=w.heap.size) hgb (Nat.le_refl _) x0 x1 x2 x3;exact⟨G,H.next G hx.le ((EV (by have:=H.lt;omega) _ _ _ _).trans hx.blk)⟩

theorem Rc(s:ByteArray)(fin n:Nat)(L:List (Nat×Nat))(h:n<L.length):
  VI s fin (L.drop n)=if QW (L[n]).1=1 then Gb s fin (L.drop n)else if QW (L[n]).1=2 then S8 fin (L[n]).1 (L.drop n)else if QW (L[n]).1=4 then LY fin (L.drop n)else N1:=by
 rw[Vk L n h];rfl

theorem WI(s:ByteArray)(bad:Option Nat)(L:List (Nat×Nat))(n m:Nat):JM s bad L (n+m)=QK (Jx s bad) (L.drop n) m:=(Zv _ _ _ _).symm

theorem MQ(w:World)(g:Nat)(s:ByteArray)(A:Option Addr)(cap:Nat)(L:List (Nat×Nat))(bad:Option Nat)(n:Nat)(h:J8 w g s A cap L bad n):
  Calls Tryz.prog 180 #[.pointer (some ⟨g,0,none⟩)] w (LC w g s A cap L bad n (Gb s (Jx s bad) (L.drop n))):=by
 refine(uA w g s A cap L bad n h).mono fun e w' hp=>?_;obtain⟨he,hg,hx⟩:=hp;refine⟨?_,hg,hx⟩;rw[he,WI s bad L n (Uy (L.drop n)),←Nat.add_zero n,WI s bad L n 0];rfl
theorem DY(w:World)(g:Nat)(s:ByteArray)(A:Option Addr)(cap:Nat)(L:List (Nat×Nat))(bad:Option Nat)(n:Nat)(h:J8 w g s A cap L bad n)(hn:n<L.length):
  Calls Tryz.prog 181 #[.pointer (some ⟨g,0,none⟩)] w (LC w g s A cap L bad n (S8 (Jx s bad) (L[n]).1 (L.drop n))):=by
 refine(S7 w g s A cap L bad n h hn).mono fun e w' hp=>?_;obtain⟨he,hg,hx⟩:=hp;refine⟨?_,hg,hx⟩;have hp0:=WI s bad L n 0;rw[Nat.add_zero]at hp0;rw[he,hp0];rfl
theorem Mm(w:World)(g:Nat)(s:ByteArray)(A:Option Addr)(cap:Nat)(L:List (Nat×Nat))(bad:Option Nat)(n:Nat)(h:J8 w g s A cap L bad n):
  Calls Tryz.prog 182 #[.pointer (some ⟨g,0,none⟩)] w (LC w g s A cap L bad n (LY (Jx s bad) (L.drop n))):=by
 refine(Mn w g s A cap L bad n h).mono fun e w' hp=>?_;have hp0:=WI s bad L n 0;rw[Nat.add_zero]at hp0;unfold Kf at hp;unfold LY
 split at hp
 ·obtain⟨he,hg,hx⟩:=hp;rename_i sg hs;rw[hs];refine⟨?_,hg,hx⟩;rw[he,hp0];rfl
 ·obtain⟨he,hg,hx⟩:=hp;rename_i hs;rw[hs];exact⟨he,hg,hx⟩

set_option maxHeartbeats 1000000 in
theorem TN(w:World)(g:Nat)(s:ByteArray)(A:Option Addr)(cap:Nat)(L:List (Nat×Nat))(bad:Option Nat)(n:Nat)(h:J8 w g s A cap L bad n)(hn:n<L.length):
  Calls Tryz.prog 124 #[.pointer (some ⟨g,0,none⟩)] w (LC w g s A cap L bad n (VI s (Jx s bad) (L.drop n))):=by
 have htr:=Rc s (Jx s bad) n L hn
 have hcl:Jr L n=QW (L[n]).1:=by simp[Jr,hn]
 have hC:=fun(W:World) (h:J8 W g s A cap L bad n)=>VT W g s A cap L bad n h;have hN:=fun(W:World) (h:J8 W g s A cap L bad n)=>MQ W g s A cap L bad n h;have hD:=fun(W:World) (h:J8 W g s A cap L bad n)=>DY W g s A cap L bad n h hn;have hS:=fun(W:World) (h:J8 W g s A cap L bad n)=>Mm W g s A cap L bad n h;rw[hcl]at hC;rw[htr]
 generalize Gb s (Jx s bad) (L.drop n)=tN at *
 generalize S8 (Jx s bad) (L[n]).1 (L.drop n)=tD at *
 generalize LY (Jx s bad) (L.drop n)=tS at *
 generalize hcc:QW (L[n]).1=cc at *
 have HC:=Lib.hid hC;have HN:=Lib.hid hN;have HD:=Lib.hid hD;have HS:=Lib.hid hS;have H:=Lib.hid h;have hglt:=h.lt
 have hgne: ¬w.heap.size=g:=by omega
 clear hC hN hD hS htr hcl hcc h
 have key: ∀(w2:World) (q:Nat),((w.alloc (.cells #[.int .i64 0,.string ⟨#[]⟩,.int .i64 0,.int .i64 0] 75)).drewN q).grownBy w2 (some g)→
   w.grownBy w2 (some g)∧w2.heap[w.heap.size]? =some (.cells #[.int .i64 0,.string ⟨#[]⟩,.int .i64 0,.int .i64 0] 75 (0,0)):=fun w2 q hg2=>
  ⟨WT (Ud (Zg (World.grownBy.refl _ _) _) _) hg2,(hg2.block w.heap.size (by simp) (by simpa using hgne)).trans (heap_alloc_new w _)⟩
 have KEY:=Lib.hid key;clear key
 by_cases h1:cc=1
 ·rw[if_pos h1]
  have t1:(cc==1)=true:=by rw[h1];rfl
  clear h1
  go_enter Tryz.func124,Tryz.ntmps124
  go_wp2_with fail
  refine(HC.out _ (H.out.alloc _)).mono ?_
  rintro e w1 ⟨rfl,m,rfl⟩
  go_wp2_with fail
  refine(HN.out _ ((H.out.alloc _).drewN _)).mono ?_
  rintro e w2 ⟨rfl,hg2,hx2⟩
  obtain⟨hgb,hB2⟩:=KEY.out w2 _ hg2;have b0:w2.cell? ⟨w.heap.size,0,none⟩=some (.int .i64 0):=cell_of_row _ w.heap.size 0 _ _ _ hB2;have b1:w2.cell? ⟨w.heap.size,1,none⟩=some (.string ⟨#[]⟩):=cell_of_row _ w.heap.size 1 _ _ _ hB2;have b2:w2.cell? ⟨w.heap.size,2,none⟩=some (.int .i64 0):=cell_of_row _ w.heap.size 2 _ _ _ hB2;have b3:w2.cell? ⟨w.heap.size,3,none⟩=some (.int .i64 0):=cell_of_row _ w.heap.size 3 _ _ _ hB2
  have bf: ∀o,w2.frozen? ⟨w.heap.size,o,none⟩=false:=fun o=>by simp[World.frozen?,hB2]
  have HB2:=Lib.hid hB2;have HX2:=Lib.hid hx2;clear hB2 hx2 hg2
  go_wp2
  obtain⟨r0,r1,r2,r3⟩:=WE HB2.out (.int .i64 tN.kind) (.string tN.text) (.int .i64 tN.num) (.int .i64 tN.at');refine bodyPost_ret (v:=.tuple #[.agg #[.int .i64 tN.kind,.string tN.text,.int .i64 tN.num,.int .i64 tN.at'],.bool tN.ok]) (by simp[results,Tryz.results124,go_sem,r0,r1,r2,r3]) rfl ?_;exact⟨rfl,G9 H.out hgb HX2.out _ _ _ _⟩
 ·have t1:(cc==1)=false:=by simp[h1]
  rw[if_neg h1]
  by_cases h2:cc=2
  ·rw[if_pos h2]
   have t2:(cc==2)=true:=by rw[h2];rfl
   clear h1 h2
   go_enter Tryz.func124,Tryz.ntmps124
   go_wp2_with fail
   refine(HC.out _ (H.out.alloc _)).mono ?_
   rintro e w1 ⟨rfl,m,rfl⟩
   go_wp2_with fail
   refine(HD.out _ ((H.out.alloc _).drewN _)).mono ?_
   rintro e w2 ⟨rfl,hg2,hx2⟩
   obtain⟨hgb,hB2⟩:=KEY.out w2 _ hg2;have b0:w2.cell? ⟨w.heap.size,0,none⟩=some (.int .i64 0):=cell_of_row _ w.heap.size 0 _ _ _ hB2;have b1:w2.cell? ⟨w.heap.size,1,none⟩=some (.string ⟨#[]⟩):=cell_of_row _ w.heap.size 1 _ _ _ hB2;have b2:w2.cell? ⟨w.heap.size,2,none⟩=some (.int .i64 0):=cell_of_row _ w.heap.size 2 _ _ _ hB2;have b3:w2.cell? ⟨w.heap.size,3,none⟩=some (.int .i64 0):=cell_of_row _ w.heap.size 3 _ _ _ hB2
   have bf: ∀o,w2.frozen? ⟨w.heap.size,o,none⟩=false:=fun o=>by simp[World.frozen?,hB2]
   have HB2:=Lib.hid hB2;have HX2:=Lib.hid hx2;clear hB2 hx2 hg2
   go_wp2
   obtain⟨r0,r1,r2,r3⟩:=WE HB2.out (.int .i64 tD.kind) (.string tD.text) (.int .i64 tD.num) (.int .i64 tD.at');refine bodyPost_ret (v:=.tuple #[.agg #[.int .i64 tD.kind,.string tD.text,.int .i64 tD.num,.int .i64 tD.at'],.bool tD.ok]) (by simp[results,Tryz.results124,go_sem,r0,r1,r2,r3]) rfl ?_;exact⟨rfl,G9 H.out hgb HX2.out _ _ _ _⟩
  ·have t2:(cc==2)=false:=by simp[h2]
   rw[if_neg h2]
   by_cases h4:cc=4
   ·rw[if_pos h4]
    have t4:(cc==4)=true:=by rw[h4];rfl
    clear h1 h2 h4
    go_enter Tryz.func124,Tryz.ntmps124
    go_wp2_with fail
    refine(HC.out _ (H.out.alloc _)).mono ?_
    rintro e w1 ⟨rfl,m,rfl⟩
    go_wp2_with fail
    refine(HS.out _ ((H.out.alloc _).drewN _)).mono ?_
    rintro e w2 ⟨rfl,hg2,hx2⟩
    obtain⟨hgb,hB2⟩:=KEY.out w2 _ hg2;have b0:w2.cell? ⟨w.heap.size,0,none⟩=some (.int .i64 0):=cell_of_row _ w.heap.size 0 _ _ _ hB2;have b1:w2.cell? ⟨w.heap.size,1,none⟩=some (.string ⟨#[]⟩):=cell_of_row _ w.heap.size 1 _ _ _ hB2;have b2:w2.cell? ⟨w.heap.size,2,none⟩=some (.int .i64 0):=cell_of_row _ w.heap.size 2 _ _ _ hB2;have b3:w2.cell? ⟨w.heap.size,3,none⟩=some (.int .i64 0):=cell_of_row _ w.heap.size 3 _ _ _ hB2
    have bf: ∀o,w2.frozen? ⟨w.heap.size,o,none⟩=false:=fun o=>by simp[World.frozen?,hB2]
    have HB2:=Lib.hid hB2;have HX2:=Lib.hid hx2;clear hB2 hx2 hg2
    go_wp2
    obtain⟨r0,r1,r2,r3⟩:=WE HB2.out (.int .i64 tS.kind) (.string tS.text) (.int .i64 tS.num) (.int .i64 tS.at');refine bodyPost_ret (v:=.tuple #[.agg #[.int .i64 tS.kind,.string tS.text,.int .i64 tS.num,.int .i64 tS.at'],.bool tS.ok]) (by simp[results,Tryz.results124,go_sem,r0,r1,r2,r3]) rfl ?_;exact⟨rfl,G9 H.out hgb HX2.out _ _ _ _⟩
   ·have t4:(cc==4)=false:=by simp[h4]
    rw[if_neg h4];clear h1 h2 h4
    go_enter Tryz.func124,Tryz.ntmps124
    go_wp2_with fail
    refine(HC.out _ (H.out.alloc _)).mono ?_
    rintro e w1 ⟨rfl,m,rfl⟩
    go_wp2
    refine bodyPost_ret (v:=.tuple #[.agg #[.int .i64 0,.string ⟨#[]⟩,.int .i64 0,.int .i64 0],.bool false]) (by simp[results,Tryz.results124,go_sem]) rfl ?_;exact⟨rfl,Ud (Zg (World.grownBy.refl _ _) _) _,(H.out.alloc _).drewN _⟩

theorem F5{r:Int}:QW r=1↔Yr r=true:=by
 constructor
 ·intro h
  by_cases h1:Yr r=true
  ·exact h1
  ·unfold QW at h;rw[if_neg h1]at h
   split at h
   ·simp at h
   ·split at h
    ·simp at h
    ·split at h<;>simp at h
 ·exact F6

theorem LP(s:ByteArray)(fin:Nat)(r:List (Nat×Nat))(h:(VI s fin r).ok=true):1≤(VI s fin r).len:=by
 cases r with
 |nil=>simp[VI,N1]at h
 |cons x r=>
  obtain⟨c,a⟩:=x;simp only[VI]at h ⊢
  by_cases h1:QW (c:Int)=1
  ·rw[if_pos h1];simp only[Gb,Uy];rw[if_pos (by simp[WM,F5.1 h1])];omega
  ·rw[if_neg h1]at h ⊢
   by_cases h2:QW (c:Int)=2
   ·rw[if_pos h2];simp only[S8,ZN];rw[if_pos (Zo.1 h2)];omega
   ·rw[if_neg h2]at h ⊢
    by_cases h4:QW (c:Int)=4
    ·rw[if_pos h4]at h ⊢;unfold LY at h ⊢
     split at h
     ·rename_i sg hs;exact(H5 sg (List.mem_of_find?_eq_some hs)).1
     ·simp[N1]at h
    ·rw[if_neg h4]at h;simp[N1]at h

def WO(s:ByteArray)(fin:Nat):Nat→List (Nat×Nat)→Option (List Yw)×Nat
 |0,_=>(some [],0)
 |_+1,[]=>(some [],0)
 |f+1,x::r=>
  if(VI s fin (x::r)).ok then
   ((WO s fin f (((x::r).drop (VI s fin (x::r)).len).drop (Jl false ((x::r).drop (VI s fin (x::r)).len)))).1.map (VI s fin (x::r):: ·),
    (WO s fin f (((x::r).drop (VI s fin (x::r)).len).drop (Jl false ((x::r).drop (VI s fin (x::r)).len)))).2)
  else(none,QK fin (x::r) 0)
def AH(s:ByteArray):Yw:=⟨4,⟨#[]⟩,0,s.size,true,0⟩
def tokens(s:ByteArray):List Yw×Nat×Int:=
 if 2000<s.size then([],0,3)
 else match WO s (Jx s (each s).2) ((each s).1.length+1) ((each s).1.drop (Jl false (each s).1))with
  |(none,p)=>([],p,2)
  |(some l,_)=>match(each s).2 with
   |some q=>([],q,2)
   |none=>(l++[AH s],s.size,0)
def XV(l:List Yw):List Value:=l.flatMap fun t=>[.int .i64 t.kind,.string t.text,.int .i64 t.num,.int .i64 t.at']
theorem Hi(l:List Yw)(t:Yw):XV l++[.int .i64 t.kind,.string t.text,.int .i64 t.num,.int .i64 t.at']=XV (l++[t]):=by
 simp[XV]

def comb(acc:List Yw)(x:Option (List Yw)×Nat):Option (List Yw)×Nat:=(x.1.map (acc++ ·),x.2)
theorem RB(s:ByteArray)(fin:Nat)(f:Nat)(r:List (Nat×Nat))(acc:List Yw)(hr:0<r.length)(h:(VI s fin r).ok=true):
  comb acc (WO s fin (f+1) r)=comb (acc++[VI s fin r]) (WO s fin f ((r.drop (VI s fin r).len).drop (Jl false (r.drop (VI s fin r).len)))):=by
 cases r with
 |nil=>simp at hr
 |cons x r=>
  rw[WO,if_pos h];generalize VI s fin (x::r)=t;generalize WO s fin f _=y;obtain⟨y1,y2⟩:=y
  cases y1<;>simp[comb]
theorem CT(s:ByteArray)(fin:Nat)(f:Nat)(r:List (Nat×Nat))(acc:List Yw)(hr:0<r.length)(h:(VI s fin r).ok=false):
  comb acc (WO s fin (f+1) r)=(none,QK fin r 0):=by
 cases r with
 |nil=>simp at hr
 |cons x r=>
  rw[WO,if_neg (by rw[h];decide)];rfl
theorem NR(s:ByteArray)(fin:Nat)(f:Nat)(acc:List Yw):comb acc (WO s fin f [])=(some acc,0):=by
 cases f<;>simp[WO,comb]

end Go.Proofs.YtadjjadimlkkgaaGreatDoor
