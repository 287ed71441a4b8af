/-
  The lexer of 'lex': 'token'.
-/
import Derived.Test.YtadjjadimlkkgaaGreatDoorMnLx1
namespace Go.Proofs.YtadjjadimlkkgaaGreatDoor
open Go Go.RowKit
set_option linter.unusedVariables false
set_option maxRecDepth 10000
attribute [local go_sem] X2 Zi

structure Y3 where
 kind:Int
 text:ByteArray
 num:Nat
 at':Nat
 ok:Bool
 len:Nat
def Kq:Y3:=⟨0,⟨#[]⟩,0,0,false,0⟩
def GW(s:ByteArray)(fin:Nat)(r:List (Nat×Nat)):Y3:=
 ⟨if WQ AD (s.extract (JA fin r 0) (JA fin r (Wk r)))then 3 else 1,s.extract (JA fin r 0) (JA fin r (Wk r)),0,JA fin r 0,
  decide (count (s.extract (JA fin r 0) (JA fin r (Wk r)))≤12),Wk r⟩
def TD(fin:Nat)(c:Nat)(r:List (Nat×Nat)):Y3:=
 ⟨2,⟨#[]⟩,Xi 100 0 r,JA fin r 0,decide (Xi 100 0 r≤99)&&(decide (c≠48)||decide (An r=1)),An r⟩
def LZ(fin:Nat)(r:List (Nat×Nat)):Y3:=match Hl r with
 |some sg=>⟨3,sg,0,JA fin r 0,true,sg.size⟩
 |none=>Kq
def VG(s:ByteArray)(fin:Nat)(r:List (Nat×Nat)):Y3:=match r with
 |[]=>Kq
 |(c,_)::_=>if QK c=1 then GW s fin r else if QK c=2 then TD fin c r else if QK c=4 then LZ fin r else Kq

def IH(w:World)(g:Nat)(s:ByteArray)(A:Option Addr)(cap:Nat)(L:List (Nat×Nat))(bad:Option Nat)(n:Nat)(t:Y3)(e:Ending)(w':World):Prop:=
 e=.returned (.tuple #[.agg #[.int .i64 t.kind,.string t.text,.int .i64 t.num,.int .i64 t.at'],.bool t.ok])∧w.grownBy w' (some g)∧QP w' g s A cap L bad (n+t.len)

theorem Oe{w W:World}{g:Nat}{s:ByteArray}{A:Option Addr}{cap:Nat}{L:List (Nat×Nat)}{bad:Option Nat}{n0 n:Nat}(H:QP w g s A cap L bad n0)
  (hgb:w.grownBy W (some g)) (hx:QP W g s A cap L bad n) (x0 x1 x2 x3:Value):
  w.grownBy ((((W.setCell ⟨w.heap.size,0,none⟩ x0).setCell ⟨w.heap.size,1,none⟩ x1).setCell ⟨w.heap.size,2,none⟩ x2).setCell ⟨w.heap.size,3,none⟩ x3) (some g)∧
  QP ((((W.setCell ⟨w.heap.size,0,none⟩ x0).setCell ⟨w.heap.size,1,none⟩ x1).setCell ⟨w.heap.size,2,none⟩ x2).setCell ⟨w.heap.size,3,none⟩ x3) g s A cap L bad n:=by
 have G:=OE (b:=w.heap.size) hgb (Nat.le_refl _) x0 x1 x2 x3;exact⟨G,H.next G hx.le ((Wm (by have:=H.lt;omega) _ _ _ _).trans hx.blk)⟩

theorem qN(s:ByteArray)(fin n:Nat)(L:List (Nat×Nat))(h:n<L.length):
  VG s fin (L.drop n)=if QK (L[n]).1=1 then GW s fin (L.drop n)else if QK (L[n]).1=2 then TD fin (L[n]).1 (L.drop n)else if QK (L[n]).1=4 then LZ fin (L.drop n)else Kq:=by
 rw[XO L n h];rfl

theorem Vj(s:ByteArray)(bad:Option Nat)(L:List (Nat×Nat))(n m:Nat):JQ s bad L (n+m)=JA (U5 s bad) (L.drop n) m:=(F2 _ _ _ _).symm

theorem TJ(w:World)(g:Nat)(s:ByteArray)(A:Option Addr)(cap:Nat)(L:List (Nat×Nat))(bad:Option Nat)(n:Nat)(h:QP w g s A cap L bad n):
  Calls Tryz.prog 180 #[.pointer (some ⟨g,0,none⟩)] w (IH w g s A cap L bad n (GW s (U5 s bad) (L.drop n))):=by
 refine(jq w g s A cap L bad n h).mono fun e w' hp=>?_;obtain⟨he,hg,hx⟩:=hp;refine⟨?_,hg,hx⟩;rw[he,Vj s bad L n (Wk (L.drop n)),←Nat.add_zero n,Vj s bad L n 0];rfl
theorem CQ(w:World)(g:Nat)(s:ByteArray)(A:Option Addr)(cap:Nat)(L:List (Nat×Nat))(bad:Option Nat)(n:Nat)(h:QP w g s A cap L bad n)(hn:n<L.length):
  Calls Tryz.prog 181 #[.pointer (some ⟨g,0,none⟩)] w (IH w g s A cap L bad n (TD (U5 s bad) (L[n]).1 (L.drop n))):=by
 refine(Rf w g s A cap L bad n h hn).mono fun e w' hp=>?_;obtain⟨he,hg,hx⟩:=hp;refine⟨?_,hg,hx⟩;have hp0:=Vj s bad L n 0;rw[Nat.add_zero]at hp0;rw[he,hp0];rfl
theorem SN(w:World)(g:Nat)(s:ByteArray)(A:Option Addr)(cap:Nat)(L:List (Nat×Nat))(bad:Option Nat)(n:Nat)(h:QP w g s A cap L bad n):
  Calls Tryz.prog 182 #[.pointer (some ⟨g,0,none⟩)] w (IH w g s A cap L bad n (LZ (U5 s bad) (L.drop n))):=by
 refine(SO w g s A cap L bad n h).mono fun e w' hp=>?_;have hp0:=Vj s bad L n 0;rw[Nat.add_zero]at hp0;unfold FY at hp;unfold LZ
 split at hp
 ·obtain⟨he,hg,hx⟩:=hp;rename_i sg hs;rw[hs];refine⟨?_,hg,hx⟩;rw[he,hp0];rfl
 ·obtain⟨he,hg,hx⟩:=hp;rename_i hs;rw[hs];exact⟨he,hg,hx⟩

set_option maxHeartbeats 1000000 in
theorem S0(w:World)(g:Nat)(s:ByteArray)(A:Option Addr)(cap:Nat)(L:List (Nat×Nat))(bad:Option Nat)(n:Nat)(h:QP w g s A cap L bad n)(hn:n<L.length):
  Calls Tryz.prog 124 #[.pointer (some ⟨g,0,none⟩)] w (IH w g s A cap L bad n (VG s (U5 s bad) (L.drop n))):=by
 have htr:=qN s (U5 s bad) n L hn
 have hcl:JU L n=QK (L[n]).1:=by simp[JU,hn]
 have hC:=fun(W:World) (h:QP W g s A cap L bad n)=>X3 W g s A cap L bad n h;have hN:=fun(W:World) (h:QP W g s A cap L bad n)=>TJ W g s A cap L bad n h;have hD:=fun(W:World) (h:QP W g s A cap L bad n)=>CQ W g s A cap L bad n h hn;have hS:=fun(W:World) (h:QP W g s A cap L bad n)=>SN W g s A cap L bad n h;rw[hcl]at hC;rw[htr]
 generalize GW s (U5 s bad) (L.drop n)=tN at *
 generalize TD (U5 s bad) (L[n]).1 (L.drop n)=tD at *
 generalize LZ (U5 s bad) (L.drop n)=tS at *
 generalize hcc:QK (L[n]).1=cc at *
 have HC:=Lib.hid hC;have HN:=Lib.hid hN;have HD:=Lib.hid hD;have HS:=Lib.hid hS;have H:=Lib.hid h;have hglt:=h.lt
 have hgne: ¬w.heap.size=g:=by omega
 clear hC hN hD hS htr hcl hcc h
 have key: ∀(w2:World) (q:Nat),((w.alloc (.cells #[.int .i64 0,.string ⟨#[]⟩,.int .i64 0,.int .i64 0] 75)).drewN q).grownBy w2 (some g)→
   w.grownBy w2 (some g)∧w2.heap[w.heap.size]? =some (.cells #[.int .i64 0,.string ⟨#[]⟩,.int .i64 0,.int .i64 0] 75 (0,0)):=fun w2 q hg2=>
  ⟨Vr (Jn (UW (World.grownBy.refl _ _) _) _) hg2,(hg2.block w.heap.size (by simp) (by simpa using hgne)).trans (heap_alloc_new w _)⟩
 have KEY:=Lib.hid key;clear key
 by_cases h1:cc=1
 ·rw[if_pos h1]
  have t1:(cc==1)=true:=by rw[h1];rfl
  clear h1
  go_enter Tryz.func124,Tryz.ntmps124
  go_wp2_with fail
  refine(HC.out _ (H.out.alloc _)).mono ?_
  rintro e w1 ⟨rfl,m,rfl⟩
  go_wp2_with fail
  refine(HN.out _ ((H.out.alloc _).drewN _)).mono ?_
  rintro e w2 ⟨rfl,hg2,hx2⟩
  obtain⟨hgb,hB2⟩:=KEY.out w2 _ hg2;have b0:w2.cell? ⟨w.heap.size,0,none⟩=some (.int .i64 0):=cell_of_row _ w.heap.size 0 _ _ _ hB2;have b1:w2.cell? ⟨w.heap.size,1,none⟩=some (.string ⟨#[]⟩):=cell_of_row _ w.heap.size 1 _ _ _ hB2;have b2:w2.cell? ⟨w.heap.size,2,none⟩=some (.int .i64 0):=cell_of_row _ w.heap.size 2 _ _ _ hB2;have b3:w2.cell? ⟨w.heap.size,3,none⟩=some (.int .i64 0):=cell_of_row _ w.heap.size 3 _ _ _ hB2
  have bf: ∀o,w2.frozen? ⟨w.heap.size,o,none⟩=false:=fun o=>by simp[World.frozen?,hB2]
  have HB2:=Lib.hid hB2;have HX2:=Lib.hid hx2;clear hB2 hx2 hg2
  go_wp2
  obtain⟨r0,r1,r2,r3⟩:=Vg HB2.out (.int .i64 tN.kind) (.string tN.text) (.int .i64 tN.num) (.int .i64 tN.at');refine bodyPost_ret (v:=.tuple #[.agg #[.int .i64 tN.kind,.string tN.text,.int .i64 tN.num,.int .i64 tN.at'],.bool tN.ok]) (by simp[results,Tryz.results124,go_sem,r0,r1,r2,r3]) rfl ?_;exact⟨rfl,Oe H.out hgb HX2.out _ _ _ _⟩
 ·have t1:(cc==1)=false:=by simp[h1]
  rw[if_neg h1]
  by_cases h2:cc=2
  ·rw[if_pos h2]
   have t2:(cc==2)=true:=by rw[h2];rfl
   clear h1 h2
   go_enter Tryz.func124,Tryz.ntmps124
   go_wp2_with fail
   refine(HC.out _ (H.out.alloc _)).mono ?_
   rintro e w1 ⟨rfl,m,rfl⟩
   go_wp2_with fail
   refine(HD.out _ ((H.out.alloc _).drewN _)).mono ?_
   rintro e w2 ⟨rfl,hg2,hx2⟩
   obtain⟨hgb,hB2⟩:=KEY.out w2 _ hg2;have b0:w2.cell? ⟨w.heap.size,0,none⟩=some (.int .i64 0):=cell_of_row _ w.heap.size 0 _ _ _ hB2;have b1:w2.cell? ⟨w.heap.size,1,none⟩=some (.string ⟨#[]⟩):=cell_of_row _ w.heap.size 1 _ _ _ hB2;have b2:w2.cell? ⟨w.heap.size,2,none⟩=some (.int .i64 0):=cell_of_row _ w.heap.size 2 _ _ _ hB2;have b3:w2.cell? ⟨w.heap.size,3,none⟩=some (.int .i64 0):=cell_of_row _ w.heap.size 3 _ _ _ hB2
   have bf: ∀o,w2.frozen? ⟨w.heap.size,o,none⟩=false:=fun o=>by simp[World.frozen?,hB2]
   have HB2:=Lib.hid hB2;have HX2:=Lib.hid hx2;clear hB2 hx2 hg2
   go_wp2
   obtain⟨r0,r1,r2,r3⟩:=Vg HB2.out (.int .i64 tD.kind) (.string tD.text) (.int .i64 tD.num) (.int .i64 tD.at');refine bodyPost_ret (v:=.tuple #[.agg #[.int .i64 tD.kind,.string tD.text,.int .i64 tD.num,.int .i64 tD.at'],.bool tD.ok]) (by simp[results,Tryz.results124,go_sem,r0,r1,r2,r3]) rfl ?_;exact⟨rfl,Oe H.out hgb HX2.out _ _ _ _⟩
  ·have t2:(cc==2)=false:=by simp[h2]
   rw[if_neg h2]
   by_cases h4:cc=4
   ·rw[if_pos h4]
    have t4:(cc==4)=true:=by rw[h4];rfl
    clear h1 h2 h4
    go_enter Tryz.func124,Tryz.ntmps124
    go_wp2_with fail
    refine(HC.out _ (H.out.alloc _)).mono ?_
    rintro e w1 ⟨rfl,m,rfl⟩
    go_wp2_with fail
    refine(HS.out _ ((H.out.alloc _).drewN _)).mono ?_
    rintro e w2 ⟨rfl,hg2,hx2⟩
    obtain⟨hgb,hB2⟩:=KEY.out w2 _ hg2;have b0:w2.cell? ⟨w.heap.size,0,none⟩=some (.int .i64 0):=cell_of_row _ w.heap.size 0 _ _ _ hB2;have b1:w2.cell? ⟨w.heap.size,1,none⟩=some (.string ⟨#[]⟩):=cell_of_row _ w.heap.size 1 _ _ _ hB2;have b2:w2.cell? ⟨w.heap.size,2,none⟩=some (.int .i64 0):=cell_of_row _ w.heap.size 2 _ _ _ hB2;have b3:w2.cell? ⟨w.heap.size,3,none⟩=some (.int .i64 0):=cell_of_row _ w.heap.size 3 _ _ _ hB2
    have bf: ∀o,w2.frozen? ⟨w.heap.size,o,none⟩=false:=fun o=>by simp[World.frozen?,hB2]
    have HB2:=Lib.hid hB2;have HX2:=Lib.hid hx2;clear hB2 hx2 hg2
    go_wp2
    obtain⟨r0,r1,r2,r3⟩:=Vg HB2.out (.int .i64 tS.kind) (.string tS.text) (.int .i64 tS.num) (.int .i64 tS.at');refine bodyPost_ret (v:=.tuple #[.agg #[.int .i64 tS.kind,.string tS.text,.int .i64 tS.num,.int .i64 tS.at'],.bool tS.ok]) (by simp[results,Tryz.results124,go_sem,r0,r1,r2,r3]) rfl ?_;exact⟨rfl,Oe H.out hgb HX2.out _ _ _ _⟩
   ·have t4:(cc==4)=false:=by simp[h4]
    rw[if_neg h4];clear h1 h2 h4
    go_enter Tryz.func124,Tryz.ntmps124
    go_wp2_with fail
    refine(HC.out _ (H.out.alloc _)).mono ?_
    rintro e w1 ⟨rfl,m,rfl⟩
    go_wp2
    refine bodyPost_ret (v:=.tuple #[.agg #[.int .i64 0,.string ⟨#[]⟩,.int .i64 0,.int .i64 0],.bool false]) (by simp[results,Tryz.results124,go_sem]) rfl ?_;exact⟨rfl,Jn (UW (World.grownBy.refl _ _) _) _,(H.out.alloc _).drewN _⟩

theorem BH{r:Int}:QK r=1↔Ue r=true:=by
 constructor
 ·intro h
  by_cases h1:Ue r=true
  ·exact h1
  ·unfold QK at h;rw[if_neg h1]at h
   split at h
   ·simp at h
   ·split at h
    ·simp at h
    ·split at h<;>simp at h
 ·exact EJ

theorem Gn(s:ByteArray)(fin:Nat)(r:List (Nat×Nat))(h:(VG s fin r).ok=true):1≤(VG s fin r).len:=by
 cases r with
 |nil=>simp[VG,Kq]at h
 |cons x r=>
  obtain⟨c,a⟩:=x;simp only[VG]at h ⊢
  by_cases h1:QK (c:Int)=1
  ·rw[if_pos h1];simp only[GW,Wk];rw[if_pos (by simp[E4,BH.1 h1])];omega
  ·rw[if_neg h1]at h ⊢
   by_cases h2:QK (c:Int)=2
   ·rw[if_pos h2];simp only[TD,An];rw[if_pos (EI.1 h2)];omega
   ·rw[if_neg h2]at h ⊢
    by_cases h4:QK (c:Int)=4
    ·rw[if_pos h4]at h ⊢;unfold LZ at h ⊢
     split at h
     ·rename_i sg hs;exact(IY sg (List.mem_of_find?_eq_some hs)).1
     ·simp[Kq]at h
    ·rw[if_neg h4]at h;simp[Kq]at h

def E9(s:ByteArray)(fin:Nat):Nat→List (Nat×Nat)→Option (List Y3)×Nat
 |0,_=>(some [],0)
 |_+1,[]=>(some [],0)
 |f+1,x::r=>
  if(VG s fin (x::r)).ok then
   ((E9 s fin f (((x::r).drop (VG s fin (x::r)).len).drop (Jv false ((x::r).drop (VG s fin (x::r)).len)))).1.map (VG s fin (x::r):: ·),
    (E9 s fin f (((x::r).drop (VG s fin (x::r)).len).drop (Jv false ((x::r).drop (VG s fin (x::r)).len)))).2)
  else(none,JA fin (x::r) 0)
def OI(s:ByteArray):Y3:=⟨4,⟨#[]⟩,0,s.size,true,0⟩
def tokens(s:ByteArray):List Y3×Nat×Int:=
 if 2000<s.size then([],0,3)
 else match E9 s (U5 s (each s).2) ((each s).1.length+1) ((each s).1.drop (Jv false (each s).1))with
  |(none,p)=>([],p,2)
  |(some l,_)=>match(each s).2 with
   |some q=>([],q,2)
   |none=>(l++[OI s],s.size,0)
def ZD(l:List Y3):List Value:=l.flatMap fun t=>[.int .i64 t.kind,.string t.text,.int .i64 t.num,.int .i64 t.at']
theorem Ap(l:List Y3)(t:Y3):ZD l++[.int .i64 t.kind,.string t.text,.int .i64 t.num,.int .i64 t.at']=ZD (l++[t]):=by
 simp[ZD]

def comb(acc:List Y3)(x:Option (List Y3)×Nat):Option (List Y3)×Nat:=(x.1.map (acc++ ·),x.2)
theorem jH(s:ByteArray)(fin:Nat)(f:Nat)(r:List (Nat×Nat))(acc:List Y3)(hr:0<r.length)(h:(VG s fin r).ok=true):
  comb acc (E9 s fin (f+1) r)=comb (acc++[VG s fin r]) (E9 s fin f ((r.drop (VG s fin r).len).drop (Jv false (r.drop (VG s fin r).len)))):=by
 cases r with
 |nil=>simp at hr
 |cons x r=>
  rw[E9,if_pos h];generalize VG s fin (x::r)=t;generalize E9 s fin f _=y;obtain⟨y1,y2⟩:=y
  cases y1<;>simp[comb]
theorem qa(s:ByteArray)(fin:Nat)(f:Nat)(r:List (Nat×Nat))(acc:List Y3)(hr:0<r.length)(h:(VG s fin r).ok=false):
  comb acc (E9 s fin (f+1) r)=(none,JA fin r 0):=by
 cases r with
 |nil=>simp at hr
 |cons x r=>
  rw[E9,if_neg (by rw[h];decide)];rfl
theorem MZ(s:ByteArray)(fin:Nat)(f:Nat)(acc:List Y3):comb acc (E9 s fin f [])=(some acc,0):=by
 cases f<;>simp[E9,comb]

end Go.Proofs.YtadjjadimlkkgaaGreatDoor
