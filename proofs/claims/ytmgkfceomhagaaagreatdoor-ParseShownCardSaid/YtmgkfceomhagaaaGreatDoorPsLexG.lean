/-
  The lexer of 'lex': 'token'.
-/
import Derived.Test.YtmgkfceomhagaaaGreatDoorPsLx1
namespace Go.Proofs.YtmgkfceomhagaaaGreatDoor
open Go Go.RowKit
set_option linter.unusedVariables false
set_option maxRecDepth 10000
attribute [local go_sem] VO X1

structure US where
 kind:Int
 text:ByteArray
 num:Nat
 at':Nat
 ok:Bool
 len:Nat
def I7:US:=⟨0,⟨#[]⟩,0,0,false,0⟩
def I9(s:ByteArray)(fin:Nat)(r:List (Nat×Nat)):US:=
 ⟨if Zg ZM (s.extract (Q5 fin r 0) (Q5 fin r (JM r)))then 3 else 1,s.extract (Q5 fin r 0) (Q5 fin r (JM r)),0,Q5 fin r 0,
  decide (count (s.extract (Q5 fin r 0) (Q5 fin r (JM r)))≤12),JM r⟩
def BN(fin:Nat)(c:Nat)(r:List (Nat×Nat)):US:=
 ⟨2,⟨#[]⟩,Ua 100 0 r,Q5 fin r 0,decide (Ua 100 0 r≤99)&&(decide (c≠48)||decide (Zh r=1)),Zh r⟩
def FV(fin:Nat)(r:List (Nat×Nat)):US:=match VW r with
 |some sg=>⟨3,sg,0,Q5 fin r 0,true,sg.size⟩
 |none=>I7
def Z7(s:ByteArray)(fin:Nat)(r:List (Nat×Nat)):US:=match r with
 |[]=>I7
 |(c,_)::_=>if QJ c=1 then I9 s fin r else if QJ c=2 then BN fin c r else if QJ c=4 then FV fin r else I7

def Nc(w:World)(g:Nat)(s:ByteArray)(A:Option Addr)(cap:Nat)(L:List (Nat×Nat))(bad:Option Nat)(n:Nat)(t:US)(e:Ending)(w':World):Prop:=
 e=.returned (.tuple #[.agg #[.int .i64 t.kind,.string t.text,.int .i64 t.num,.int .i64 t.at'],.bool t.ok])∧w.grownBy w' (some g)∧J2 w' g s A cap L bad (n+t.len)

theorem Bt{w W:World}{g:Nat}{s:ByteArray}{A:Option Addr}{cap:Nat}{L:List (Nat×Nat)}{bad:Option Nat}{n0 n:Nat}(H:J2 w g s A cap L bad n0)
  (hgb:w.grownBy W (some g)) (hx:J2 W g s A cap L bad n) (x0 x1 x2 x3:Value):
  w.grownBy ((((W.setCell ⟨w.heap.size,0,none⟩ x0).setCell ⟨w.heap.size,1,none⟩ x1).setCell ⟨w.heap.size,2,none⟩ x2).setCell ⟨w.heap.size,3,none⟩ x3) (some g)∧
  J2 ((((W.setCell ⟨w.heap.size,0,none⟩ x0).setCell ⟨w.heap.size,1,none⟩ x1).setCell ⟨w.heap.size,2,none⟩ x2).setCell ⟨w.heap.size,3,none⟩ x3) g s A cap L bad n:=by
 have G:=Cb (b:=w.heap.size) hgb (Nat.le_refl _) x0 x1 x2 x3;exact⟨G,H.next G hx.le ((E9 (by have:=H.lt;omega) _ _ _ _).trans hx.blk)⟩

theorem SA(s:ByteArray)(fin n:Nat)(L:List (Nat×Nat))(h:n<L.length):
  Z7 s fin (L.drop n)=if QJ (L[n]).1=1 then I9 s fin (L.drop n)else if QJ (L[n]).1=2 then BN fin (L[n]).1 (L.drop n)else if QJ (L[n]).1=4 then FV fin (L.drop n)else I7:=by
 rw[Vi L n h];rfl

theorem WB(s:ByteArray)(bad:Option Nat)(L:List (Nat×Nat))(n m:Nat):JI s bad L (n+m)=Q5 (Jq s bad) (L.drop n) m:=(Z1 _ _ _ _).symm

theorem um(w:World)(g:Nat)(s:ByteArray)(A:Option Addr)(cap:Nat)(L:List (Nat×Nat))(bad:Option Nat)(n:Nat)(h:J2 w g s A cap L bad n):
  Calls Tryz.prog 63 #[.pointer (some ⟨g,0,none⟩)] w (Nc w g s A cap L bad n (I9 s (Jq s bad) (L.drop n))):=by
 refine(xi w g s A cap L bad n h).mono fun e w' hp=>?_;obtain⟨he,hg,hx⟩:=hp;refine⟨?_,hg,hx⟩;rw[he,WB s bad L n (JM (L.drop n)),←Nat.add_zero n,WB s bad L n 0];rfl
theorem RD(w:World)(g:Nat)(s:ByteArray)(A:Option Addr)(cap:Nat)(L:List (Nat×Nat))(bad:Option Nat)(n:Nat)(h:J2 w g s A cap L bad n)(hn:n<L.length):
  Calls Tryz.prog 64 #[.pointer (some ⟨g,0,none⟩)] w (Nc w g s A cap L bad n (BN (Jq s bad) (L[n]).1 (L.drop n))):=by
 refine(M8 w g s A cap L bad n h hn).mono fun e w' hp=>?_;obtain⟨he,hg,hx⟩:=hp;refine⟨?_,hg,hx⟩;have hp0:=WB s bad L n 0;rw[Nat.add_zero]at hp0;rw[he,hp0];rfl
theorem jh(w:World)(g:Nat)(s:ByteArray)(A:Option Addr)(cap:Nat)(L:List (Nat×Nat))(bad:Option Nat)(n:Nat)(h:J2 w g s A cap L bad n):
  Calls Tryz.prog 65 #[.pointer (some ⟨g,0,none⟩)] w (Nc w g s A cap L bad n (FV (Jq s bad) (L.drop n))):=by
 refine(ji w g s A cap L bad n h).mono fun e w' hp=>?_;have hp0:=WB s bad L n 0;rw[Nat.add_zero]at hp0;unfold Kl at hp;unfold FV
 split at hp
 ·obtain⟨he,hg,hx⟩:=hp;rename_i sg hs;rw[hs];refine⟨?_,hg,hx⟩;rw[he,hp0];rfl
 ·obtain⟨he,hg,hx⟩:=hp;rename_i hs;rw[hs];exact⟨he,hg,hx⟩

set_option maxHeartbeats 1000000 in
theorem qO(w:World)(g:Nat)(s:ByteArray)(A:Option Addr)(cap:Nat)(L:List (Nat×Nat))(bad:Option Nat)(n:Nat)(h:J2 w g s A cap L bad n)(hn:n<L.length):
  Calls Tryz.prog 39 #[.pointer (some ⟨g,0,none⟩)] w (Nc w g s A cap L bad n (Z7 s (Jq s bad) (L.drop n))):=by
 have htr:=SA s (Jq s bad) n L hn
 have hcl:Jo L n=QJ (L[n]).1:=by simp[Jo,hn]
 have hC:=fun(W:World) (h:J2 W g s A cap L bad n)=>VP W g s A cap L bad n h;have hN:=fun(W:World) (h:J2 W g s A cap L bad n)=>um W g s A cap L bad n h;have hD:=fun(W:World) (h:J2 W g s A cap L bad n)=>RD W g s A cap L bad n h hn;have hS:=fun(W:World) (h:J2 W g s A cap L bad n)=>jh W g s A cap L bad n h;rw[hcl]at hC;rw[htr]
 generalize I9 s (Jq s bad) (L.drop n)=tN at *
 generalize BN (Jq s bad) (L[n]).1 (L.drop n)=tD at *
 generalize FV (Jq s bad) (L.drop n)=tS at *
 generalize hcc:QJ (L[n]).1=cc at *
 have HC:=Lib.hid hC;have HN:=Lib.hid hN;have HD:=Lib.hid hD;have HS:=Lib.hid hS;have H:=Lib.hid h;have hglt:=h.lt
 have hgne: ¬w.heap.size=g:=by omega
 clear hC hN hD hS htr hcl hcc h
 have key: ∀(w2:World) (q:Nat),((w.alloc (.cells #[.int .i64 0,.string ⟨#[]⟩,.int .i64 0,.int .i64 0] 65)).drewN q).grownBy w2 (some g)→
   w.grownBy w2 (some g)∧w2.heap[w.heap.size]? =some (.cells #[.int .i64 0,.string ⟨#[]⟩,.int .i64 0,.int .i64 0] 65 (0,0)):=fun w2 q hg2=>
  ⟨WJ (Ug (Zu (World.grownBy.refl _ _) _) _) hg2,(hg2.block w.heap.size Q3 (by simpa using hgne)).trans (heap_alloc_new w _)⟩
 have KEY:=Lib.hid key;clear key
 by_cases h1:cc=1
 ·rw[if_pos h1]
  have t1:(cc==1)=true:=by rw[h1];rfl
  clear h1
  go_enter Tryz.func39,Tryz.ntmps39
  go_wp2_with fail
  refine(HC.out _ (H.out.alloc _)).mono ?_
  rintro e w1 ⟨rfl,m,rfl⟩
  go_wp2_with fail
  refine(HN.out _ ((H.out.alloc _).drewN _)).mono ?_
  rintro e w2 ⟨rfl,hg2,hx2⟩
  obtain⟨hgb,hB2⟩:=KEY.out w2 _ hg2;have b0:w2.cell? ⟨w.heap.size,0,none⟩=some (.int .i64 0):=cell_of_row _ w.heap.size 0 _ _ _ hB2;have b1:w2.cell? ⟨w.heap.size,1,none⟩=some (.string ⟨#[]⟩):=cell_of_row _ w.heap.size 1 _ _ _ hB2;have b2:w2.cell? ⟨w.heap.size,2,none⟩=some (.int .i64 0):=cell_of_row _ w.heap.size 2 _ _ _ hB2;have b3:w2.cell? ⟨w.heap.size,3,none⟩=some (.int .i64 0):=cell_of_row _ w.heap.size 3 _ _ _ hB2
  have bf: ∀o,w2.frozen? ⟨w.heap.size,o,none⟩=false:=fun o=>by simp[World.frozen?,hB2]
  have HB2:=Lib.hid hB2;have HX2:=Lib.hid hx2;clear hB2 hx2 hg2
  go_wp2
  obtain⟨r0,r1,r2,r3⟩:=W9 HB2.out (.int .i64 tN.kind) (.string tN.text) (.int .i64 tN.num) (.int .i64 tN.at');refine bodyPost_ret (v:=.tuple #[.agg #[.int .i64 tN.kind,.string tN.text,.int .i64 tN.num,.int .i64 tN.at'],.bool tN.ok]) (by simp[results,Tryz.results39,go_sem,r0,r1,r2,r3]) rfl ?_;exact⟨rfl,Bt H.out hgb HX2.out _ _ _ _⟩
 ·have t1:(cc==1)=false:=by simp[h1]
  rw[if_neg h1]
  by_cases h2:cc=2
  ·rw[if_pos h2]
   have t2:(cc==2)=true:=by rw[h2];rfl
   clear h1 h2
   go_enter Tryz.func39,Tryz.ntmps39
   go_wp2_with fail
   refine(HC.out _ (H.out.alloc _)).mono ?_
   rintro e w1 ⟨rfl,m,rfl⟩
   go_wp2_with fail
   refine(HD.out _ ((H.out.alloc _).drewN _)).mono ?_
   rintro e w2 ⟨rfl,hg2,hx2⟩
   obtain⟨hgb,hB2⟩:=KEY.out w2 _ hg2;have b0:w2.cell? ⟨w.heap.size,0,none⟩=some (.int .i64 0):=cell_of_row _ w.heap.size 0 _ _ _ hB2;have b1:w2.cell? ⟨w.heap.size,1,none⟩=some (.string ⟨#[]⟩):=cell_of_row _ w.heap.size 1 _ _ _ hB2;have b2:w2.cell? ⟨w.heap.size,2,none⟩=some (.int .i64 0):=cell_of_row _ w.heap.size 2 _ _ _ hB2;have b3:w2.cell? ⟨w.heap.size,3,none⟩=some (.int .i64 0):=cell_of_row _ w.heap.size 3 _ _ _ hB2
   have bf: ∀o,w2.frozen? ⟨w.heap.size,o,none⟩=false:=fun o=>by simp[World.frozen?,hB2]
   have HB2:=Lib.hid hB2;have HX2:=Lib.hid hx2;clear hB2 hx2 hg2
   go_wp2
   obtain⟨r0,r1,r2,r3⟩:=W9 HB2.out (.int .i64 tD.kind) (.string tD.text) (.int .i64 tD.num) (.int .i64 tD.at');refine bodyPost_ret (v:=.tuple #[.agg #[.int .i64 tD.kind,.string tD.text,.int .i64 tD.num,.int .i64 tD.at'],.bool tD.ok]) (by simp[results,Tryz.results39,go_sem,r0,r1,r2,r3]) rfl ?_;exact⟨rfl,Bt H.out hgb HX2.out _ _ _ _⟩
  ·have t2:(cc==2)=false:=by simp[h2]
   rw[if_neg h2]
   by_cases h4:cc=4
   ·rw[if_pos h4]
    have t4:(cc==4)=true:=by rw[h4];rfl
    clear h1 h2 h4
    go_enter Tryz.func39,Tryz.ntmps39
    go_wp2_with fail
    refine(HC.out _ (H.out.alloc _)).mono ?_
    rintro e w1 ⟨rfl,m,rfl⟩
    go_wp2_with fail
    refine(HS.out _ ((H.out.alloc _).drewN _)).mono ?_
    rintro e w2 ⟨rfl,hg2,hx2⟩
    obtain⟨hgb,hB2⟩:=KEY.out w2 _ hg2;have b0:w2.cell? ⟨w.heap.size,0,none⟩=some (.int .i64 0):=cell_of_row _ w.heap.size 0 _ _ _ hB2;have b1:w2.cell? ⟨w.heap.size,1,none⟩=some (.string ⟨#[]⟩):=cell_of_row _ w.heap.size 1 _ _ _ hB2;have b2:w2.cell? ⟨w.heap.size,2,none⟩=some (.int .i64 0):=cell_of_row _ w.heap.size 2 _ _ _ hB2;have b3:w2.cell? ⟨w.heap.size,3,none⟩=some (.int .i64 0):=cell_of_row _ w.heap.size 3 _ _ _ hB2
    have bf: ∀o,w2.frozen? ⟨w.heap.size,o,none⟩=false:=fun o=>by simp[World.frozen?,hB2]
    have HB2:=Lib.hid hB2;have HX2:=Lib.hid hx2;clear hB2 hx2 hg2
    go_wp2
    obtain⟨r0,r1,r2,r3⟩:=W9 HB2.out (.int .i64 tS.kind) (.string tS.text) (.int .i64 tS.num) (.int .i64 tS.at');refine bodyPost_ret (v:=.tuple #[.agg #[.int .i64 tS.kind,.string tS.text,.int .i64 tS.num,.int .i64 tS.at'],.bool tS.ok]) (by simp[results,Tryz.results39,go_sem,r0,r1,r2,r3]) rfl ?_;exact⟨rfl,Bt H.out hgb HX2.out _ _ _ _⟩
   ·have t4:(cc==4)=false:=by simp[h4]
    rw[if_neg h4];clear h1 h2 h4
    go_enter Tryz.func39,Tryz.ntmps39
    go_wp2_with fail
    refine(HC.out _ (H.out.alloc _)).mono ?_
    rintro e w1 ⟨rfl,m,rfl⟩
    go_wp2
    refine bodyPost_ret (v:=.tuple #[.agg #[.int .i64 0,.string ⟨#[]⟩,.int .i64 0,.int .i64 0],.bool false]) (by simp[results,Tryz.results39,go_sem]) rfl ?_;exact⟨rfl,Ug (Zu (World.grownBy.refl _ _) _) _,(H.out.alloc _).drewN _⟩

theorem Fo{r:Int}:QJ r=1↔Yx r=true:=by
 constructor
 ·intro h
  by_cases h1:Yx r=true
  ·exact h1
  ·unfold QJ at h;rw[if_neg h1]at h
   split at h
   ·simp at h
   ·split at h
    ·simp at h
    ·split at h<;>simp at h
 ·exact Fp

theorem No(s:ByteArray)(fin:Nat)(r:List (Nat×Nat))(h:(Z7 s fin r).ok=true):1≤(Z7 s fin r).len:=by
 cases r with
 |nil=>simp[Z7,I7]at h
 |cons x r=>
  obtain⟨c,a⟩:=x;simp only[Z7]at h ⊢
  by_cases h1:QJ (c:Int)=1
  ·rw[if_pos h1];simp only[I9,JM];rw[if_pos (by simp[Zx,Fo.1 h1])];omega
  ·rw[if_neg h1]at h ⊢
   by_cases h2:QJ (c:Int)=2
   ·rw[if_pos h2];simp only[BN,Zh];rw[if_pos (YY.1 h2)];omega
   ·rw[if_neg h2]at h ⊢
    by_cases h4:QJ (c:Int)=4
    ·rw[if_pos h4]at h ⊢;unfold FV at h ⊢
     split at h
     ·rename_i sg hs;exact(Hm sg (List.mem_of_find?_eq_some hs)).1
     ·simp[I7]at h
    ·rw[if_neg h4]at h;simp[I7]at h

def Vs(s:ByteArray)(fin:Nat):Nat→List (Nat×Nat)→Option (List US)×Nat
 |0,_=>(some [],0)
 |_+1,[]=>(some [],0)
 |f+1,x::r=>
  if(Z7 s fin (x::r)).ok then
   ((Vs s fin f (((x::r).drop (Z7 s fin (x::r)).len).drop (QW false ((x::r).drop (Z7 s fin (x::r)).len)))).1.map (Z7 s fin (x::r):: ·),
    (Vs s fin f (((x::r).drop (Z7 s fin (x::r)).len).drop (QW false ((x::r).drop (Z7 s fin (x::r)).len)))).2)
  else(none,Q5 fin (x::r) 0)
def WM(s:ByteArray):US:=⟨4,⟨#[]⟩,0,s.size,true,0⟩
def tokens(s:ByteArray):List US×Nat×Int:=
 if 2000<s.size then([],0,3)
 else match Vs s (Jq s (each s).2) ((each s).1.length+1) ((each s).1.drop (QW false (each s).1))with
  |(none,p)=>([],p,2)
  |(some l,_)=>match(each s).2 with
   |some q=>([],q,2)
   |none=>(l++[WM s],s.size,0)
def XU(l:List US):List Value:=l.flatMap fun t=>[.int .i64 t.kind,.string t.text,.int .i64 t.num,.int .i64 t.at']
theorem FQ(l:List US)(t:US):XU l++[.int .i64 t.kind,.string t.text,.int .i64 t.num,.int .i64 t.at']=XU (l++[t]):=by
 simp[XU]

def comb(acc:List US)(x:Option (List US)×Nat):Option (List US)×Nat:=(x.1.map (acc++ ·),x.2)
theorem Cr(s:ByteArray)(fin:Nat)(f:Nat)(r:List (Nat×Nat))(acc:List US)(hr:0<r.length)(h:(Z7 s fin r).ok=true):
  comb acc (Vs s fin (f+1) r)=comb (acc++[Z7 s fin r]) (Vs s fin f ((r.drop (Z7 s fin r).len).drop (QW false (r.drop (Z7 s fin r).len)))):=by
 cases r with
 |nil=>simp at hr
 |cons x r=>
  rw[Vs,if_pos h];generalize Z7 s fin (x::r)=t;generalize Vs s fin f _=y;obtain⟨y1,y2⟩:=y
  cases y1<;>simp[comb]
theorem Pr(s:ByteArray)(fin:Nat)(f:Nat)(r:List (Nat×Nat))(acc:List US)(hr:0<r.length)(h:(Z7 s fin r).ok=false):
  comb acc (Vs s fin (f+1) r)=(none,Q5 fin r 0):=by
 cases r with
 |nil=>simp at hr
 |cons x r=>
  rw[Vs,if_neg (by rw[h];decide)];rfl
theorem O3(s:ByteArray)(fin:Nat)(f:Nat)(acc:List US):comb acc (Vs s fin f [])=(some acc,0):=by
 cases f<;>simp[Vs,comb]

end Go.Proofs.YtmgkfceomhagaaaGreatDoor
