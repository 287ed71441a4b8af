/-
  The lexer of 'lex': 'token'.
-/
import Derived.Test.YthjgndgnmkiaiaaGreatDoorZpLx1
namespace Go.Proofs.YthjgndgnmkiaiaaGreatDoor
open Go Go.RowKit
set_option linter.unusedVariables false
set_option maxRecDepth 10000
attribute [local go_sem] ZM YL

structure Uy where
 kind:Int
 text:ByteArray
 num:Nat
 at':Nat
 ok:Bool
 len:Nat
def Hd:Uy:=⟨0,⟨#[]⟩,0,0,false,0⟩
def IM(s:ByteArray)(fin:Nat)(r:List (Nat×Nat)):Uy:=
 ⟨if YJ Zz (s.extract (Qq fin r 0) (Qq fin r (Ju r)))then 3 else 1,s.extract (Qq fin r 0) (Qq fin r (Ju r)),0,Qq fin r 0,
  decide (count (s.extract (Qq fin r 0) (Qq fin r (Ju r)))≤12),Ju r⟩
def CP(fin:Nat)(c:Nat)(r:List (Nat×Nat)):Uy:=
 ⟨2,⟨#[]⟩,J9 100 0 r,Qq fin r 0,decide (J9 100 0 r≤99)&&(decide (c≠48)||decide (YM r=1)),YM r⟩
def Ha(fin:Nat)(r:List (Nat×Nat)):Uy:=match VH r with
 |some sg=>⟨3,sg,0,Qq fin r 0,true,sg.size⟩
 |none=>Hd
def Zn(s:ByteArray)(fin:Nat)(r:List (Nat×Nat)):Uy:=match r with
 |[]=>Hd
 |(c,_)::_=>if Q0 c=1 then IM s fin r else if Q0 c=2 then CP fin c r else if Q0 c=4 then Ha fin r else Hd

def N1(w:World)(g:Nat)(s:ByteArray)(A:Option Addr)(cap:Nat)(L:List (Nat×Nat))(bad:Option Nat)(n:Nat)(t:Uy)(e:Ending)(w':World):Prop:=
 e=.returned (.tuple #[.agg #[.int .i64 t.kind,.string t.text,.int .i64 t.num,.int .i64 t.at'],.bool t.ok])∧w.grownBy w' (some g)∧QY w' g s A cap L bad (n+t.len)

theorem Cq{w W:World}{g:Nat}{s:ByteArray}{A:Option Addr}{cap:Nat}{L:List (Nat×Nat)}{bad:Option Nat}{n0 n:Nat}(H:QY w g s A cap L bad n0)
  (hgb:w.grownBy W (some g)) (hx:QY W g s A cap L bad n) (x0 x1 x2 x3:Value):
  w.grownBy ((((W.setCell ⟨w.heap.size,0,none⟩ x0).setCell ⟨w.heap.size,1,none⟩ x1).setCell ⟨w.heap.size,2,none⟩ x2).setCell ⟨w.heap.size,3,none⟩ x3) (some g)∧
  QY ((((W.setCell ⟨w.heap.size,0,none⟩ x0).setCell ⟨w.heap.size,1,none⟩ x1).setCell ⟨w.heap.size,2,none⟩ x2).setCell ⟨w.heap.size,3,none⟩ x3) g s A cap L bad n:=by
 have G:=Dg (b:=w.heap.size) hgb (Nat.le_refl _) x0 x1 x2 x3;exact⟨G,H.next G hx.le ((E2 (by have:=H.lt;omega) _ _ _ _).trans hx.blk)⟩

theorem Mf(s:ByteArray)(fin n:Nat)(L:List (Nat×Nat))(h:n<L.length):
  Zn s fin (L.drop n)=if Q0 (L[n]).1=1 then IM s fin (L.drop n)else if Q0 (L[n]).1=2 then CP fin (L[n]).1 (L.drop n)else if Q0 (L[n]).1=4 then Ha fin (L.drop n)else Hd:=by
 rw[XS L n h];rfl

theorem Wl(s:ByteArray)(bad:Option Nat)(L:List (Nat×Nat))(n m:Nat):Jo s bad L (n+m)=Qq (QT s bad) (L.drop n) m:=(Zi _ _ _ _).symm

theorem zN(w:World)(g:Nat)(s:ByteArray)(A:Option Addr)(cap:Nat)(L:List (Nat×Nat))(bad:Option Nat)(n:Nat)(h:QY w g s A cap L bad n):
  Calls Tryz.prog 60 #[.pointer (some ⟨g,0,none⟩)] w (N1 w g s A cap L bad n (IM s (QT s bad) (L.drop n))):=by
 refine(wX w g s A cap L bad n h).mono fun e w' hp=>?_;obtain⟨he,hg,hx⟩:=hp;refine⟨?_,hg,hx⟩;rw[he,Wl s bad L n (Ju (L.drop n)),←Nat.add_zero n,Wl s bad L n 0];rfl
theorem Th(w:World)(g:Nat)(s:ByteArray)(A:Option Addr)(cap:Nat)(L:List (Nat×Nat))(bad:Option Nat)(n:Nat)(h:QY w g s A cap L bad n)(hn:n<L.length):
  Calls Tryz.prog 61 #[.pointer (some ⟨g,0,none⟩)] w (N1 w g s A cap L bad n (CP (QT s bad) (L[n]).1 (L.drop n))):=by
 refine(jz w g s A cap L bad n h hn).mono fun e w' hp=>?_;obtain⟨he,hg,hx⟩:=hp;refine⟨?_,hg,hx⟩;have hp0:=Wl s bad L n 0;rw[Nat.add_zero]at hp0;rw[he,hp0];rfl
theorem yv(w:World)(g:Nat)(s:ByteArray)(A:Option Addr)(cap:Nat)(L:List (Nat×Nat))(bad:Option Nat)(n:Nat)(h:QY w g s A cap L bad n):
  Calls Tryz.prog 62 #[.pointer (some ⟨g,0,none⟩)] w (N1 w g s A cap L bad n (Ha (QT s bad) (L.drop n))):=by
 refine(yw w g s A cap L bad n h).mono fun e w' hp=>?_;have hp0:=Wl s bad L n 0;rw[Nat.add_zero]at hp0;unfold KB at hp;unfold Ha
 split at hp
 ·obtain⟨he,hg,hx⟩:=hp;rename_i sg hs;rw[hs];refine⟨?_,hg,hx⟩;rw[he,hp0];rfl
 ·obtain⟨he,hg,hx⟩:=hp;rename_i hs;rw[hs];exact⟨he,hg,hx⟩

set_option maxHeartbeats 1000000 in
theorem uU(w:World)(g:Nat)(s:ByteArray)(A:Option Addr)(cap:Nat)(L:List (Nat×Nat))(bad:Option Nat)(n:Nat)(h:QY w g s A cap L bad n)(hn:n<L.length):
  Calls Tryz.prog 30 #[.pointer (some ⟨g,0,none⟩)] w (N1 w g s A cap L bad n (Zn s (QT s bad) (L.drop n))):=by
 have htr:=Mf s (QT s bad) n L hn
 have hcl:QR L n=Q0 (L[n]).1:=by simp[QR,hn]
 have hC:=fun(W:World) (h:QY W g s A cap L bad n)=>VA W g s A cap L bad n h;have hN:=fun(W:World) (h:QY W g s A cap L bad n)=>zN W g s A cap L bad n h;have hD:=fun(W:World) (h:QY W g s A cap L bad n)=>Th W g s A cap L bad n h hn;have hS:=fun(W:World) (h:QY W g s A cap L bad n)=>yv W g s A cap L bad n h;rw[hcl]at hC;rw[htr]
 generalize IM s (QT s bad) (L.drop n)=tN at *
 generalize CP (QT s bad) (L[n]).1 (L.drop n)=tD at *
 generalize Ha (QT s bad) (L.drop n)=tS at *
 generalize hcc:Q0 (L[n]).1=cc at *
 have HC:=Lib.hid hC;have HN:=Lib.hid hN;have HD:=Lib.hid hD;have HS:=Lib.hid hS;have H:=Lib.hid h;have hglt:=h.lt
 have hgne: ¬w.heap.size=g:=by omega
 clear hC hN hD hS htr hcl hcc h
 have key: ∀(w2:World) (q:Nat),((w.alloc (.cells #[.int .i64 0,.string ⟨#[]⟩,.int .i64 0,.int .i64 0] 74)).drewN q).grownBy w2 (some g)→
   w.grownBy w2 (some g)∧w2.heap[w.heap.size]? =some (.cells #[.int .i64 0,.string ⟨#[]⟩,.int .i64 0,.int .i64 0] 74 (0,0)):=fun w2 q hg2=>
  ⟨Ws (JC (YW (World.grownBy.refl _ _) _) _) hg2,(hg2.block w.heap.size Q1 (by simpa using hgne)).trans (heap_alloc_new w _)⟩
 have KEY:=Lib.hid key;clear key
 by_cases h1:cc=1
 ·rw[if_pos h1]
  have t1:(cc==1)=true:=by rw[h1];rfl
  clear h1
  go_enter Tryz.func30,Tryz.ntmps30
  go_wp2_with fail
  refine(HC.out _ (H.out.alloc _)).mono ?_
  rintro e w1 ⟨rfl,m,rfl⟩
  go_wp2_with fail
  refine(HN.out _ ((H.out.alloc _).drewN _)).mono ?_
  rintro e w2 ⟨rfl,hg2,hx2⟩
  obtain⟨hgb,hB2⟩:=KEY.out w2 _ hg2;have b0:w2.cell? ⟨w.heap.size,0,none⟩=some (.int .i64 0):=cell_of_row _ w.heap.size 0 _ _ _ hB2;have b1:w2.cell? ⟨w.heap.size,1,none⟩=some (.string ⟨#[]⟩):=cell_of_row _ w.heap.size 1 _ _ _ hB2;have b2:w2.cell? ⟨w.heap.size,2,none⟩=some (.int .i64 0):=cell_of_row _ w.heap.size 2 _ _ _ hB2;have b3:w2.cell? ⟨w.heap.size,3,none⟩=some (.int .i64 0):=cell_of_row _ w.heap.size 3 _ _ _ hB2
  have bf: ∀o,w2.frozen? ⟨w.heap.size,o,none⟩=false:=fun o=>by simp[World.frozen?,hB2]
  have HB2:=Lib.hid hB2;have HX2:=Lib.hid hx2;clear hB2 hx2 hg2
  go_wp2
  obtain⟨r0,r1,r2,r3⟩:=Wi HB2.out (.int .i64 tN.kind) (.string tN.text) (.int .i64 tN.num) (.int .i64 tN.at');refine bodyPost_ret (v:=.tuple #[.agg #[.int .i64 tN.kind,.string tN.text,.int .i64 tN.num,.int .i64 tN.at'],.bool tN.ok]) (by simp[results,Tryz.results30,go_sem,r0,r1,r2,r3]) rfl ?_;exact⟨rfl,Cq H.out hgb HX2.out _ _ _ _⟩
 ·have t1:(cc==1)=false:=by simp[h1]
  rw[if_neg h1]
  by_cases h2:cc=2
  ·rw[if_pos h2]
   have t2:(cc==2)=true:=by rw[h2];rfl
   clear h1 h2
   go_enter Tryz.func30,Tryz.ntmps30
   go_wp2_with fail
   refine(HC.out _ (H.out.alloc _)).mono ?_
   rintro e w1 ⟨rfl,m,rfl⟩
   go_wp2_with fail
   refine(HD.out _ ((H.out.alloc _).drewN _)).mono ?_
   rintro e w2 ⟨rfl,hg2,hx2⟩
   obtain⟨hgb,hB2⟩:=KEY.out w2 _ hg2;have b0:w2.cell? ⟨w.heap.size,0,none⟩=some (.int .i64 0):=cell_of_row _ w.heap.size 0 _ _ _ hB2;have b1:w2.cell? ⟨w.heap.size,1,none⟩=some (.string ⟨#[]⟩):=cell_of_row _ w.heap.size 1 _ _ _ hB2;have b2:w2.cell? ⟨w.heap.size,2,none⟩=some (.int .i64 0):=cell_of_row _ w.heap.size 2 _ _ _ hB2;have b3:w2.cell? ⟨w.heap.size,3,none⟩=some (.int .i64 0):=cell_of_row _ w.heap.size 3 _ _ _ hB2
   have bf: ∀o,w2.frozen? ⟨w.heap.size,o,none⟩=false:=fun o=>by simp[World.frozen?,hB2]
   have HB2:=Lib.hid hB2;have HX2:=Lib.hid hx2;clear hB2 hx2 hg2
   go_wp2
   obtain⟨r0,r1,r2,r3⟩:=Wi HB2.out (.int .i64 tD.kind) (.string tD.text) (.int .i64 tD.num) (.int .i64 tD.at');refine bodyPost_ret (v:=.tuple #[.agg #[.int .i64 tD.kind,.string tD.text,.int .i64 tD.num,.int .i64 tD.at'],.bool tD.ok]) (by simp[results,Tryz.results30,go_sem,r0,r1,r2,r3]) rfl ?_;exact⟨rfl,Cq H.out hgb HX2.out _ _ _ _⟩
  ·have t2:(cc==2)=false:=by simp[h2]
   rw[if_neg h2]
   by_cases h4:cc=4
   ·rw[if_pos h4]
    have t4:(cc==4)=true:=by rw[h4];rfl
    clear h1 h2 h4
    go_enter Tryz.func30,Tryz.ntmps30
    go_wp2_with fail
    refine(HC.out _ (H.out.alloc _)).mono ?_
    rintro e w1 ⟨rfl,m,rfl⟩
    go_wp2_with fail
    refine(HS.out _ ((H.out.alloc _).drewN _)).mono ?_
    rintro e w2 ⟨rfl,hg2,hx2⟩
    obtain⟨hgb,hB2⟩:=KEY.out w2 _ hg2;have b0:w2.cell? ⟨w.heap.size,0,none⟩=some (.int .i64 0):=cell_of_row _ w.heap.size 0 _ _ _ hB2;have b1:w2.cell? ⟨w.heap.size,1,none⟩=some (.string ⟨#[]⟩):=cell_of_row _ w.heap.size 1 _ _ _ hB2;have b2:w2.cell? ⟨w.heap.size,2,none⟩=some (.int .i64 0):=cell_of_row _ w.heap.size 2 _ _ _ hB2;have b3:w2.cell? ⟨w.heap.size,3,none⟩=some (.int .i64 0):=cell_of_row _ w.heap.size 3 _ _ _ hB2
    have bf: ∀o,w2.frozen? ⟨w.heap.size,o,none⟩=false:=fun o=>by simp[World.frozen?,hB2]
    have HB2:=Lib.hid hB2;have HX2:=Lib.hid hx2;clear hB2 hx2 hg2
    go_wp2
    obtain⟨r0,r1,r2,r3⟩:=Wi HB2.out (.int .i64 tS.kind) (.string tS.text) (.int .i64 tS.num) (.int .i64 tS.at');refine bodyPost_ret (v:=.tuple #[.agg #[.int .i64 tS.kind,.string tS.text,.int .i64 tS.num,.int .i64 tS.at'],.bool tS.ok]) (by simp[results,Tryz.results30,go_sem,r0,r1,r2,r3]) rfl ?_;exact⟨rfl,Cq H.out hgb HX2.out _ _ _ _⟩
   ·have t4:(cc==4)=false:=by simp[h4]
    rw[if_neg h4];clear h1 h2 h4
    go_enter Tryz.func30,Tryz.ntmps30
    go_wp2_with fail
    refine(HC.out _ (H.out.alloc _)).mono ?_
    rintro e w1 ⟨rfl,m,rfl⟩
    go_wp2
    refine bodyPost_ret (v:=.tuple #[.agg #[.int .i64 0,.string ⟨#[]⟩,.int .i64 0,.int .i64 0],.bool false]) (by simp[results,Tryz.results30,go_sem]) rfl ?_;exact⟨rfl,JC (YW (World.grownBy.refl _ _) _) _,(H.out.alloc _).drewN _⟩

theorem Fp{r:Int}:Q0 r=1↔Ye r=true:=by
 constructor
 ·intro h
  by_cases h1:Ye r=true
  ·exact h1
  ·unfold Q0 at h;rw[if_neg h1]at h
   split at h
   ·simp at h
   ·split at h
    ·simp at h
    ·split at h<;>simp at h
 ·exact Fq

theorem NA(s:ByteArray)(fin:Nat)(r:List (Nat×Nat))(h:(Zn s fin r).ok=true):1≤(Zn s fin r).len:=by
 cases r with
 |nil=>simp[Zn,Hd]at h
 |cons x r=>
  obtain⟨c,a⟩:=x;simp only[Zn]at h ⊢
  by_cases h1:Q0 (c:Int)=1
  ·rw[if_pos h1];simp only[IM,Ju];rw[if_pos (by simp[Zd,Fp.1 h1])];omega
  ·rw[if_neg h1]at h ⊢
   by_cases h2:Q0 (c:Int)=2
   ·rw[if_pos h2];simp only[CP,YM];rw[if_pos (YD.1 h2)];omega
   ·rw[if_neg h2]at h ⊢
    by_cases h4:Q0 (c:Int)=4
    ·rw[if_pos h4]at h ⊢;unfold Ha at h ⊢
     split at h
     ·rename_i sg hs;exact(Ht sg (List.mem_of_find?_eq_some hs)).1
     ·simp[Hd]at h
    ·rw[if_neg h4]at h;simp[Hd]at h

def XZ(s:ByteArray)(fin:Nat):Nat→List (Nat×Nat)→Option (List Uy)×Nat
 |0,_=>(some [],0)
 |_+1,[]=>(some [],0)
 |f+1,x::r=>
  if(Zn s fin (x::r)).ok then
   ((XZ s fin f (((x::r).drop (Zn s fin (x::r)).len).drop (QC false ((x::r).drop (Zn s fin (x::r)).len)))).1.map (Zn s fin (x::r):: ·),
    (XZ s fin f (((x::r).drop (Zn s fin (x::r)).len).drop (QC false ((x::r).drop (Zn s fin (x::r)).len)))).2)
  else(none,Qq fin (x::r) 0)
def Wy(s:ByteArray):Uy:=⟨4,⟨#[]⟩,0,s.size,true,0⟩
def tokens(s:ByteArray):List Uy×Nat×Int:=
 if 2000<s.size then([],0,3)
 else match XZ s (QT s (each s).2) ((each s).1.length+1) ((each s).1.drop (QC false (each s).1))with
  |(none,p)=>([],p,2)
  |(some l,_)=>match(each s).2 with
   |some q=>([],q,2)
   |none=>(l++[Wy s],s.size,0)
def XF(l:List Uy):List Value:=l.flatMap fun t=>[.int .i64 t.kind,.string t.text,.int .i64 t.num,.int .i64 t.at']
theorem FW(l:List Uy)(t:Uy):XF l++[.int .i64 t.kind,.string t.text,.int .i64 t.num,.int .i64 t.at']=XF (l++[t]):=by
 simp[XF]

def comb(acc:List Uy)(x:Option (List Uy)×Nat):Option (List Uy)×Nat:=(x.1.map (acc++ ·),x.2)
theorem Dz(s:ByteArray)(fin:Nat)(f:Nat)(r:List (Nat×Nat))(acc:List Uy)(hr:0<r.length)(h:(Zn s fin r).ok=true):
  comb acc (XZ s fin (f+1) r)=comb (acc++[Zn s fin r]) (XZ s fin f ((r.drop (Zn s fin r).len).drop (QC false (r.drop (Zn s fin r).len)))):=by
 cases r with
 |nil=>simp at hr
 |cons x r=>
  rw[XZ,if_pos h];generalize Zn s fin (x::r)=t;generalize XZ s fin f _=y;obtain⟨y1,y2⟩:=y
  cases y1<;>simp[comb]
theorem RF(s:ByteArray)(fin:Nat)(f:Nat)(r:List (Nat×Nat))(acc:List Uy)(hr:0<r.length)(h:(Zn s fin r).ok=false):
  comb acc (XZ s fin (f+1) r)=(none,Qq fin r 0):=by
 cases r with
 |nil=>simp at hr
 |cons x r=>
  rw[XZ,if_neg (by rw[h];decide)];rfl
theorem Ge(s:ByteArray)(fin:Nat)(f:Nat)(acc:List Uy):comb acc (XZ s fin f [])=(some acc,0):=by
 cases f<;>simp[XZ,comb]

end Go.Proofs.YthjgndgnmkiaiaaGreatDoor
