/-
  The lexer of 'lex': 'token'.
-/
import Derived.Test.YtadjjadimlkkgaaGreatDoorKtLx1
namespace Go.Proofs.YtadjjadimlkkgaaGreatDoor
open Go Go.RowKit
set_option linter.unusedVariables false
set_option maxRecDepth 10000
attribute [local go_sem] VB Xp

structure Yq where
 kind:Int
 text:ByteArray
 num:Nat
 at':Nat
 ok:Bool
 len:Nat
def Lx:Yq:=⟨0,⟨#[]⟩,0,0,false,0⟩
def NV(s:ByteArray)(fin:Nat)(r:List (Nat×Nat)):Yq:=
 ⟨if VN EG (s.extract (QJ fin r 0) (QJ fin r (Us r)))then 3 else 1,s.extract (QJ fin r 0) (QJ fin r (Us r)),0,QJ fin r 0,
  decide (count (s.extract (QJ fin r 0) (QJ fin r (Us r)))≤12),Us r⟩
def PH(fin:Nat)(c:Nat)(r:List (Nat×Nat)):Yq:=
 ⟨2,⟨#[]⟩,Ur 100 0 r,QJ fin r 0,decide (Ur 100 0 r≤99)&&(decide (c≠48)||decide (ZI r=1)),ZI r⟩
def KW(fin:Nat)(r:List (Nat×Nat)):Yq:=match Wt r with
 |some sg=>⟨3,sg,0,QJ fin r 0,true,sg.size⟩
 |none=>Lx
def V3(s:ByteArray)(fin:Nat)(r:List (Nat×Nat)):Yq:=match r with
 |[]=>Lx
 |(c,_)::_=>if QX c=1 then NV s fin r else if QX c=2 then PH fin c r else if QX c=4 then KW fin r else Lx

def KI(w:World)(g:Nat)(s:ByteArray)(A:Option Addr)(cap:Nat)(L:List (Nat×Nat))(bad:Option Nat)(n:Nat)(t:Yq)(e:Ending)(w':World):Prop:=
 e=.returned (.tuple #[.agg #[.int .i64 t.kind,.string t.text,.int .i64 t.num,.int .i64 t.at'],.bool t.ok])∧w.grownBy w' (some g)∧JB w' g s A cap L bad (n+t.len)

theorem O3{w W:World}{g:Nat}{s:ByteArray}{A:Option Addr}{cap:Nat}{L:List (Nat×Nat)}{bad:Option Nat}{n0 n:Nat}(H:JB w g s A cap L bad n0)
  (hgb:w.grownBy W (some g)) (hx:JB W g s A cap L bad n) (x0 x1 x2 x3:Value):
  w.grownBy ((((W.setCell ⟨w.heap.size,0,none⟩ x0).setCell ⟨w.heap.size,1,none⟩ x1).setCell ⟨w.heap.size,2,none⟩ x2).setCell ⟨w.heap.size,3,none⟩ x3) (some g)∧
  JB ((((W.setCell ⟨w.heap.size,0,none⟩ x0).setCell ⟨w.heap.size,1,none⟩ x1).setCell ⟨w.heap.size,2,none⟩ x2).setCell ⟨w.heap.size,3,none⟩ x3) g s A cap L bad n:=by
 have G:=OU (b:=w.heap.size) hgb (Nat.le_refl _) x0 x1 x2 x3;exact⟨G,H.next G hx.le ((E5 (by have:=H.lt;omega) _ _ _ _).trans hx.blk)⟩

theorem Dk(s:ByteArray)(fin n:Nat)(L:List (Nat×Nat))(h:n<L.length):
  V3 s fin (L.drop n)=if QX (L[n]).1=1 then NV s fin (L.drop n)else if QX (L[n]).1=2 then PH fin (L[n]).1 (L.drop n)else if QX (L[n]).1=4 then KW fin (L.drop n)else Lx:=by
 rw[Vb L n h];rfl

theorem Ww(s:ByteArray)(bad:Option Nat)(L:List (Nat×Nat))(n m:Nat):JO s bad L (n+m)=QJ (J1 s bad) (L.drop n) m:=(Zv _ _ _ _).symm

theorem SK(w:World)(g:Nat)(s:ByteArray)(A:Option Addr)(cap:Nat)(L:List (Nat×Nat))(bad:Option Nat)(n:Nat)(h:JB w g s A cap L bad n):
  Calls Tryz.prog 180 #[.pointer (some ⟨g,0,none⟩)] w (KI w g s A cap L bad n (NV s (J1 s bad) (L.drop n))):=by
 refine(ML w g s A cap L bad n h).mono fun e w' hp=>?_;obtain⟨he,hg,hx⟩:=hp;refine⟨?_,hg,hx⟩;rw[he,Ww s bad L n (Us (L.drop n)),←Nat.add_zero n,Ww s bad L n 0];rfl
theorem C3(w:World)(g:Nat)(s:ByteArray)(A:Option Addr)(cap:Nat)(L:List (Nat×Nat))(bad:Option Nat)(n:Nat)(h:JB w g s A cap L bad n)(hn:n<L.length):
  Calls Tryz.prog 181 #[.pointer (some ⟨g,0,none⟩)] w (KI w g s A cap L bad n (PH (J1 s bad) (L[n]).1 (L.drop n))):=by
 refine(PG w g s A cap L bad n h hn).mono fun e w' hp=>?_;obtain⟨he,hg,hx⟩:=hp;refine⟨?_,hg,hx⟩;have hp0:=Ww s bad L n 0;rw[Nat.add_zero]at hp0;rw[he,hp0];rfl
theorem Sa(w:World)(g:Nat)(s:ByteArray)(A:Option Addr)(cap:Nat)(L:List (Nat×Nat))(bad:Option Nat)(n:Nat)(h:JB w g s A cap L bad n):
  Calls Tryz.prog 182 #[.pointer (some ⟨g,0,none⟩)] w (KI w g s A cap L bad n (KW (J1 s bad) (L.drop n))):=by
 refine(Sb w g s A cap L bad n h).mono fun e w' hp=>?_;have hp0:=Ww s bad L n 0;rw[Nat.add_zero]at hp0;unfold Iu at hp;unfold KW
 split at hp
 ·obtain⟨he,hg,hx⟩:=hp;rename_i sg hs;rw[hs];refine⟨?_,hg,hx⟩;rw[he,hp0];rfl
 ·obtain⟨he,hg,hx⟩:=hp;rename_i hs;rw[hs];exact⟨he,hg,hx⟩

set_option maxHeartbeats 1000000 in
theorem RI(w:World)(g:Nat)(s:ByteArray)(A:Option Addr)(cap:Nat)(L:List (Nat×Nat))(bad:Option Nat)(n:Nat)(h:JB w g s A cap L bad n)(hn:n<L.length):
  Calls Tryz.prog 124 #[.pointer (some ⟨g,0,none⟩)] w (KI w g s A cap L bad n (V3 s (J1 s bad) (L.drop n))):=by
 have htr:=Dk s (J1 s bad) n L hn
 have hcl:Js L n=QX (L[n]).1:=by simp[Js,hn]
 have hC:=fun(W:World) (h:JB W g s A cap L bad n)=>VC W g s A cap L bad n h;have hN:=fun(W:World) (h:JB W g s A cap L bad n)=>SK W g s A cap L bad n h;have hD:=fun(W:World) (h:JB W g s A cap L bad n)=>C3 W g s A cap L bad n h hn;have hS:=fun(W:World) (h:JB W g s A cap L bad n)=>Sa W g s A cap L bad n h;rw[hcl]at hC;rw[htr]
 generalize NV s (J1 s bad) (L.drop n)=tN at *
 generalize PH (J1 s bad) (L[n]).1 (L.drop n)=tD at *
 generalize KW (J1 s bad) (L.drop n)=tS at *
 generalize hcc:QX (L[n]).1=cc at *
 have HC:=Lib.hid hC;have HN:=Lib.hid hN;have HD:=Lib.hid hD;have HS:=Lib.hid hS;have H:=Lib.hid h;have hglt:=h.lt
 have hgne: ¬w.heap.size=g:=by omega
 clear hC hN hD hS htr hcl hcc h
 have key: ∀(w2:World) (q:Nat),((w.alloc (.cells #[.int .i64 0,.string ⟨#[]⟩,.int .i64 0,.int .i64 0] 75)).drewN q).grownBy w2 (some g)→
   w.grownBy w2 (some g)∧w2.heap[w.heap.size]? =some (.cells #[.int .i64 0,.string ⟨#[]⟩,.int .i64 0,.int .i64 0] 75 (0,0)):=fun w2 q hg2=>
  ⟨W8 (Uc (Zi (World.grownBy.refl _ _) _) _) hg2,(hg2.block w.heap.size (by simp) (by simpa using hgne)).trans (heap_alloc_new w _)⟩
 have KEY:=Lib.hid key;clear key
 by_cases h1:cc=1
 ·rw[if_pos h1]
  have t1:(cc==1)=true:=by rw[h1];rfl
  clear h1
  go_enter Tryz.func124,Tryz.ntmps124
  go_wp2_with fail
  refine(HC.out _ (H.out.alloc _)).mono ?_
  rintro e w1 ⟨rfl,m,rfl⟩
  go_wp2_with fail
  refine(HN.out _ ((H.out.alloc _).drewN _)).mono ?_
  rintro e w2 ⟨rfl,hg2,hx2⟩
  obtain⟨hgb,hB2⟩:=KEY.out w2 _ hg2;have b0:w2.cell? ⟨w.heap.size,0,none⟩=some (.int .i64 0):=cell_of_row _ w.heap.size 0 _ _ _ hB2;have b1:w2.cell? ⟨w.heap.size,1,none⟩=some (.string ⟨#[]⟩):=cell_of_row _ w.heap.size 1 _ _ _ hB2;have b2:w2.cell? ⟨w.heap.size,2,none⟩=some (.int .i64 0):=cell_of_row _ w.heap.size 2 _ _ _ hB2;have b3:w2.cell? ⟨w.heap.size,3,none⟩=some (.int .i64 0):=cell_of_row _ w.heap.size 3 _ _ _ hB2
  have bf: ∀o,w2.frozen? ⟨w.heap.size,o,none⟩=false:=fun o=>by simp[World.frozen?,hB2]
  have HB2:=Lib.hid hB2;have HX2:=Lib.hid hx2;clear hB2 hx2 hg2
  go_wp2
  obtain⟨r0,r1,r2,r3⟩:=Wu HB2.out (.int .i64 tN.kind) (.string tN.text) (.int .i64 tN.num) (.int .i64 tN.at');refine bodyPost_ret (v:=.tuple #[.agg #[.int .i64 tN.kind,.string tN.text,.int .i64 tN.num,.int .i64 tN.at'],.bool tN.ok]) (by simp[results,Tryz.results124,go_sem,r0,r1,r2,r3]) rfl ?_;exact⟨rfl,O3 H.out hgb HX2.out _ _ _ _⟩
 ·have t1:(cc==1)=false:=by simp[h1]
  rw[if_neg h1]
  by_cases h2:cc=2
  ·rw[if_pos h2]
   have t2:(cc==2)=true:=by rw[h2];rfl
   clear h1 h2
   go_enter Tryz.func124,Tryz.ntmps124
   go_wp2_with fail
   refine(HC.out _ (H.out.alloc _)).mono ?_
   rintro e w1 ⟨rfl,m,rfl⟩
   go_wp2_with fail
   refine(HD.out _ ((H.out.alloc _).drewN _)).mono ?_
   rintro e w2 ⟨rfl,hg2,hx2⟩
   obtain⟨hgb,hB2⟩:=KEY.out w2 _ hg2;have b0:w2.cell? ⟨w.heap.size,0,none⟩=some (.int .i64 0):=cell_of_row _ w.heap.size 0 _ _ _ hB2;have b1:w2.cell? ⟨w.heap.size,1,none⟩=some (.string ⟨#[]⟩):=cell_of_row _ w.heap.size 1 _ _ _ hB2;have b2:w2.cell? ⟨w.heap.size,2,none⟩=some (.int .i64 0):=cell_of_row _ w.heap.size 2 _ _ _ hB2;have b3:w2.cell? ⟨w.heap.size,3,none⟩=some (.int .i64 0):=cell_of_row _ w.heap.size 3 _ _ _ hB2
   have bf: ∀o,w2.frozen? ⟨w.heap.size,o,none⟩=false:=fun o=>by simp[World.frozen?,hB2]
   have HB2:=Lib.hid hB2;have HX2:=Lib.hid hx2;clear hB2 hx2 hg2
   go_wp2
   obtain⟨r0,r1,r2,r3⟩:=Wu HB2.out (.int .i64 tD.kind) (.string tD.text) (.int .i64 tD.num) (.int .i64 tD.at');refine bodyPost_ret (v:=.tuple #[.agg #[.int .i64 tD.kind,.string tD.text,.int .i64 tD.num,.int .i64 tD.at'],.bool tD.ok]) (by simp[results,Tryz.results124,go_sem,r0,r1,r2,r3]) rfl ?_;exact⟨rfl,O3 H.out hgb HX2.out _ _ _ _⟩
  ·have t2:(cc==2)=false:=by simp[h2]
   rw[if_neg h2]
   by_cases h4:cc=4
   ·rw[if_pos h4]
    have t4:(cc==4)=true:=by rw[h4];rfl
    clear h1 h2 h4
    go_enter Tryz.func124,Tryz.ntmps124
    go_wp2_with fail
    refine(HC.out _ (H.out.alloc _)).mono ?_
    rintro e w1 ⟨rfl,m,rfl⟩
    go_wp2_with fail
    refine(HS.out _ ((H.out.alloc _).drewN _)).mono ?_
    rintro e w2 ⟨rfl,hg2,hx2⟩
    obtain⟨hgb,hB2⟩:=KEY.out w2 _ hg2;have b0:w2.cell? ⟨w.heap.size,0,none⟩=some (.int .i64 0):=cell_of_row _ w.heap.size 0 _ _ _ hB2;have b1:w2.cell? ⟨w.heap.size,1,none⟩=some (.string ⟨#[]⟩):=cell_of_row _ w.heap.size 1 _ _ _ hB2;have b2:w2.cell? ⟨w.heap.size,2,none⟩=some (.int .i64 0):=cell_of_row _ w.heap.size 2 _ _ _ hB2;have b3:w2.cell? ⟨w.heap.size,3,none⟩=some (.int .i64 0):=cell_of_row _ w.heap.size 3 _ _ _ hB2
    have bf: ∀o,w2.frozen? ⟨w.heap.size,o,none⟩=false:=fun o=>by simp[World.frozen?,hB2]
    have HB2:=Lib.hid hB2;have HX2:=Lib.hid hx2;clear hB2 hx2 hg2
    go_wp2
    obtain⟨r0,r1,r2,r3⟩:=Wu HB2.out (.int .i64 tS.kind) (.string tS.text) (.int .i64 tS.num) (.int .i64 tS.at');refine bodyPost_ret (v:=.tuple #[.agg #[.int .i64 tS.kind,.string tS.text,.int .i64 tS.num,.int .i64 tS.at'],.bool tS.ok]) (by simp[results,Tryz.results124,go_sem,r0,r1,r2,r3]) rfl ?_;exact⟨rfl,O3 H.out hgb HX2.out _ _ _ _⟩
   ·have t4:(cc==4)=false:=by simp[h4]
    rw[if_neg h4];clear h1 h2 h4
    go_enter Tryz.func124,Tryz.ntmps124
    go_wp2_with fail
    refine(HC.out _ (H.out.alloc _)).mono ?_
    rintro e w1 ⟨rfl,m,rfl⟩
    go_wp2
    refine bodyPost_ret (v:=.tuple #[.agg #[.int .i64 0,.string ⟨#[]⟩,.int .i64 0,.int .i64 0],.bool false]) (by simp[results,Tryz.results124,go_sem]) rfl ?_;exact⟨rfl,Uc (Zi (World.grownBy.refl _ _) _) _,(H.out.alloc _).drewN _⟩

theorem AS{r:Int}:QX r=1↔Ys r=true:=by
 constructor
 ·intro h
  by_cases h1:Ys r=true
  ·exact h1
  ·unfold QX at h;rw[if_neg h1]at h
   split at h
   ·simp at h
   ·split at h
    ·simp at h
    ·split at h<;>simp at h
 ·exact AT

theorem KP(s:ByteArray)(fin:Nat)(r:List (Nat×Nat))(h:(V3 s fin r).ok=true):1≤(V3 s fin r).len:=by
 cases r with
 |nil=>simp[V3,Lx]at h
 |cons x r=>
  obtain⟨c,a⟩:=x;simp only[V3]at h ⊢
  by_cases h1:QX (c:Int)=1
  ·rw[if_pos h1];simp only[NV,Us];rw[if_pos (by simp[W0,AS.1 h1])];omega
  ·rw[if_neg h1]at h ⊢
   by_cases h2:QX (c:Int)=2
   ·rw[if_pos h2];simp only[PH,ZI];rw[if_pos (Zo.1 h2)];omega
   ·rw[if_neg h2]at h ⊢
    by_cases h4:QX (c:Int)=4
    ·rw[if_pos h4]at h ⊢;unfold KW at h ⊢
     split at h
     ·rename_i sg hs;exact(FP sg (List.mem_of_find?_eq_some hs)).1
     ·simp[Lx]at h
    ·rw[if_neg h4]at h;simp[Lx]at h

def W4(s:ByteArray)(fin:Nat):Nat→List (Nat×Nat)→Option (List Yq)×Nat
 |0,_=>(some [],0)
 |_+1,[]=>(some [],0)
 |f+1,x::r=>
  if(V3 s fin (x::r)).ok then
   ((W4 s fin f (((x::r).drop (V3 s fin (x::r)).len).drop (Jn false ((x::r).drop (V3 s fin (x::r)).len)))).1.map (V3 s fin (x::r):: ·),
    (W4 s fin f (((x::r).drop (V3 s fin (x::r)).len).drop (Jn false ((x::r).drop (V3 s fin (x::r)).len)))).2)
  else(none,QJ fin (x::r) 0)
def Ae(s:ByteArray):Yq:=⟨4,⟨#[]⟩,0,s.size,true,0⟩
def tokens(s:ByteArray):List Yq×Nat×Int:=
 if 2000<s.size then([],0,3)
 else match W4 s (J1 s (each s).2) ((each s).1.length+1) ((each s).1.drop (Jn false (each s).1))with
  |(none,p)=>([],p,2)
  |(some l,_)=>match(each s).2 with
   |some q=>([],q,2)
   |none=>(l++[Ae s],s.size,0)
def XJ(l:List Yq):List Value:=l.flatMap fun t=>[.int .i64 t.kind,.string t.text,.int .i64 t.num,.int .i64 t.at']
theorem F3(l:List Yq)(t:Yq):XJ l++[.int .i64 t.kind,.string t.text,.int .i64 t.num,.int .i64 t.at']=XJ (l++[t]):=by
 simp[XJ]

def comb(acc:List Yq)(x:Option (List Yq)×Nat):Option (List Yq)×Nat:=(x.1.map (acc++ ·),x.2)
theorem DL(s:ByteArray)(fin:Nat)(f:Nat)(r:List (Nat×Nat))(acc:List Yq)(hr:0<r.length)(h:(V3 s fin r).ok=true):
  comb acc (W4 s fin (f+1) r)=comb (acc++[V3 s fin r]) (W4 s fin f ((r.drop (V3 s fin r).len).drop (Jn false (r.drop (V3 s fin r).len)))):=by
 cases r with
 |nil=>simp at hr
 |cons x r=>
  rw[W4,if_pos h];generalize V3 s fin (x::r)=t;generalize W4 s fin f _=y;obtain⟨y1,y2⟩:=y
  cases y1<;>simp[comb]
theorem B6(s:ByteArray)(fin:Nat)(f:Nat)(r:List (Nat×Nat))(acc:List Yq)(hr:0<r.length)(h:(V3 s fin r).ok=false):
  comb acc (W4 s fin (f+1) r)=(none,QJ fin r 0):=by
 cases r with
 |nil=>simp at hr
 |cons x r=>
  rw[W4,if_neg (by rw[h];decide)];rfl
theorem LS(s:ByteArray)(fin:Nat)(f:Nat)(acc:List Yq):comb acc (W4 s fin f [])=(some acc,0):=by
 cases f<;>simp[W4,comb]

end Go.Proofs.YtadjjadimlkkgaaGreatDoor
