/-
  Parsing, plainly: as the reference does it.
-/
import Derived.Test.YtadjjadimlkkgaaGreatDoorKtData
namespace Go.Proofs.YtadjjadimlkkgaaGreatDoor
open Go Go.RowKit
set_option linter.unusedVariables false

structure Tk where
 k:Int
 s:List Nat
 n:Int
 a:Int
def Bt:Tk:=⟨4,[],0,0⟩
def jE:Tk:=⟨0,[],0,0⟩
structure PS where
 i:Nat
 e:Int
 a:Int
def XH:Nd:=.mk [] [] 0 0 []
def Qh(L:List Tk)(S:PS):Tk:=if S.e≠0 then Bt else(L[S.i]?).getD Bt
def UM(L:List Tk)(S:PS)(w:List Nat):Bool:=decide ((Qh L S).k=3)&&decide ((Qh L S).s=w)
def Qe(L:List Tk)(S:PS):PS:=if S.e=0∧(Qh L S).k≠4 then⟨S.i+1,S.e,S.a⟩else S
def Qz(S:PS)(a e:Int):PS:=if S.e=0 then⟨S.i,e,a⟩else S
def Q6(L:List Tk)(S:PS)(w:List Nat):PS:=if UM L S w=true then Qe L S else S
def QT(L:List Tk)(S:PS)(w:List Nat):PS:=if UM L S w=true then Qe L S else Qz S (Qh L S).a 2
def Jf(L:List Tk)(S:PS):PS:=if(Qh L S).k≠1 then Qz S (Qh L S).a 2 else Qe L S
def Je(L:List Tk)(S:PS):Tk:=if(Qh L S).k≠1 then jE else Qh L S
def QS(L:List Tk)(S:PS)(s:List Nat):Int:=if UM L S (s++[48])=true then 0 else if UM L S (s++[49])=true then 1 else if UM L S (s++[50])=true then 2 else-1
abbrev PR:=PS×Nd
def VT (el : PS → PR) (L : List Tk) (w : List Nat) : Nat → PS → List Nd → PS × List Nd
  | 0, S, l => (S, l)
  | k + 1, S, l => if S.e ≠ 0 then (S, l) else if l.length = 6 then (Qz S (Qh L S).a 2, l)
    else if UM L (el S).1 [44] = true then VT el L w k (Qe L (el S).1) (l ++ [(el S).2]) else (QT L (el S).1 w, l ++ [(el S).2])
def Ve(el:PS→PR)(L:List Tk)(w:List Nat)(S:PS):PS×List Nd:=if UM L S w=true then(Qe L S,[])else VT el L w 7 S []
def Am(L:List Tk)(S:PS):PR:=
 if UM L (Qe L S) [43]=true then
  (if(Qh L (Qe L (Qe L S))).k≠2∨(Qh L (Qe L (Qe L S))).n=0 then(Qz (Qe L (Qe L S)) (Qh L (Qe L (Qe L S))).a 2,.mk [118,97,114] (Qh L S).s 0 (Qh L S).a [])
  else(Qe L (Qe L (Qe L S)),.mk [112,108,117,115] [] (Qh L (Qe L (Qe L S))).n (Qh L S).a [.mk [118,97,114] (Qh L S).s 0 (Qh L S).a []]))
 else(Qe L S,.mk [118,97,114] (Qh L S).s 0 (Qh L S).a [])
def JT(L:List Tk)(S:PS):PR:=
 if(Qh L S).k=1 then Am L S
 else if(Qh L S).k=2 then(Qe L S,.mk [110,117,109] [] (Qh L S).n (Qh L S).a [])
 else(Qz S (Qh L S).a 2,XH)
def JK(L:List Tk)(S:PS):PR:=
 if(Qh L S).k=1 then Am L S
 else if(Qh L S).k=2 then(Qe L S,.mk [110,117,109] [] (Qh L S).n (Qh L S).a [])
 else if UM L S [123]=true then((Ve (JT L) L [125] (Qe L S)).1,.mk [115,101,116] [] 0 (Qh L S).a (Ve (JT L) L [125] (Qe L S)).2)
 else(Qz S (Qh L S).a 2,XH)
def PE(L:List Tk)(S:PS):Option (List Nat):=
 if UM L S [117,110,105,111,110]=true then some (Qh L S).s else if UM L S [105,110,116,101,114]=true then some (Qh L S).s
 else if UM L S [92]=true then some [109,105,110,117,115]else none
def VH(L:List Tk):Nat→PS→Nd→PR
 |0,S,n=>(S,n)
 |k+1,S,n=>if S.e≠0 then(S,n)else match PE L S with
  |none=>(S,n)
  |some op=>VH L k (JK L (Qe L S)).1 (.mk op [] 0 (Qh L S).a [n,(JK L (Qe L S)).2])
def Jw(L:List Tk)(S:PS):PR:=VH L L.length (JK L S).1 (JK L S).2
def WN(L:List Tk)(S:PS):List Nat:=
 if UM L S [61]=true then [101,113]else if UM L S [126,61]=true then [110,101]else if UM L S [60]=true then [108,116]else if UM L S [60,61]=true then [108,101]
 else if UM L S [105,110]=true then [105,110]else if UM L S [110,111,116,105,110]=true then [110,111,116,105,110]else if UM L S [115,117,98]=true then [115,117,98]else []
def ZU(L:List Tk)(S:PS):Bool:=decide ((Qh L S).k=1)&&(decide (((L[S.i+1]?).getD Bt).k=3)&&decide (((L[S.i+1]?).getD Bt).s=[40]))
def AG:Nd→List Nat
 |.mk o _ _ _ _=>o
def ZP:Nd→List Nat
 |.mk _ s _ _ _=>s
def UW(L:List Tk)(S:PS):PR:=
 if ZU L S=true then((Ve (Jw L) L [41] (Qe L (Qe L S))).1,.mk [99,97,108,108] (Qh L S).s 0 (Qh L S).a (Ve (Jw L) L [41] (Qe L (Qe L S))).2)
 else if(Jw L S).1.e=0∧WN L (Jw L S).1≠[]then((Jw L (Qe L (Jw L S).1)).1,.mk (WN L (Jw L S).1) [] 0 (Qh L (Jw L S).1).a [(Jw L S).2,(Jw L (Qe L (Jw L S).1)).2])
 else(if AG (Jw L S).2≠[118,97,114]then Qz (Jw L S).1 (Qh L S).a 2 else(Jw L S).1,.mk [105,115] (ZP (Jw L S).2) 0 (Qh L S).a [])
def QB(L:List Tk)(S:PS)(d:Nat):PS:=if 30≤d then Qz S (Qh L S).a 4 else S
def Vp(part:PS→PR)(op w:List Nat)(L:List Tk):Nat→PS→Nd→PR
 |0,S,n=>(S,n)
 |k+1,S,n=>if UM L S w=true then Vp part op w L k (part (Qe L S)).1 (.mk op [] 0 (Qh L S).a [n,(part (Qe L S)).2])else(S,n)
def Ak(part:PS→PR)(op w:List Nat)(L:List Tk)(S:PS):PR:=Vp part op w L L.length (part S).1 (part S).2
def VP(u:PS→PR)(L:List Tk):PS→PR:=Ak u [97,110,100] [38] L
def Nn(u:PS→PR)(L:List Tk):PS→PR:=Ak (VP u L) [111,114] [124] L
def Z9(u:PS→PR)(L:List Tk):Nat→PS→PR
 |0,S=>Nn u L S
 |k+1,S=>if UM L (Nn u L S).1 [61,62]=true then((Z9 u L k (Qe L (Nn u L S).1)).1,.mk [105,109,112] [] 0 (Qh L (Nn u L S).1).a [(Nn u L S).2,(Z9 u L k (Qe L (Nn u L S).1)).2])else Nn u L S
def Zj(u:PS→PR)(L:List Tk)(S:PS)(d:Nat):PR:=
 if(QB L S d).e≠0 then(QB L S d,XH)else Ak (Z9 u L L.length) [105,102,102] [60,61,62] L (QB L S d)
def YG(L:List Tk):Nat→PS→Nat→PR
 |0,S,_=>(S,XH)
 |f+1,S,d=>
  if(QB L S d).e≠0 then(QB L S d,XH)
  else if UM L (QB L S d) [126]=true then((YG L f (Qe L (QB L S d)) (d+1)).1,.mk [110,111,116] [] 0 (Qh L (QB L S d)).a [(YG L f (Qe L (QB L S d)) (d+1)).2])
  else if 0≤QS L (QB L S d) [101,120]∨0≤QS L (QB L S d) [97,108,108]then
   ((Zj (fun S=>YG L f S (d+1)) L (QT L (Jf L (Qe L (QB L S d))) [58]) (d+1)).1,
    .mk (if QS L (QB L S d) [101,120]<0 then [97,108,108]else [101,120]) (Je L (Qe L (QB L S d))).s (if QS L (QB L S d) [101,120]<0 then QS L (QB L S d) [97,108,108]else QS L (QB L S d) [101,120]) (Qh L (QB L S d)).a
     [(Zj (fun S=>YG L f S (d+1)) L (QT L (Jf L (Qe L (QB L S d))) [58]) (d+1)).2])
  else if UM L (QB L S d) [116,114,117,101]=true∨UM L (QB L S d) [102,97,108,115,101]=true then(Qe L (QB L S d),.mk (Qh L (QB L S d)).s [] 0 (Qh L (QB L S d)).a [])
  else if UM L (QB L S d) [40]=true then(QT L (Zj (fun S=>YG L f S (d+1)) L (Qe L (QB L S d)) (d+1)).1 [41],(Zj (fun S=>YG L f S (d+1)) L (Qe L (QB L S d)) (d+1)).2)
  else UW L (QB L S d)
def Qy(L:List Tk)(f:Nat)(S:PS)(d:Nat):PR:=Zj (fun S=>YG L f S d) L S d
def Zb(L:List Tk)(k:Int):Nat→PS→List Dc→PS×List Dc
 |0,S,l=>(S,l)
 |f+1,S,l=>if S.e≠0 then(S,l)else if UM L (Jf L S) [44]=true then Zb L k f (Qe L (Jf L S)) (l++[⟨(Je L S).s,k,(Je L S).a⟩])else(QT L (Jf L S) [59],l++[⟨(Je L S).s,k,(Je L S).a⟩])
def Uh(L:List Tk)(S:PS):PS×List Dc:=Zb L (QS L S [118,97,114]) (L.length+1) (Qe L S) []
def WO(L:List Tk)(S:PS)(n:Nat):PS:=
 let S1:=Qe L (if QS L S [118,97,114]<0 then Qz S (Qh L S).a 2 else S)
 if n=6 then Qz S1 (Qh L S1).a 2 else S1
def Ze (L : List Tk) : Nat → PS → List Dc → PS × List Dc
  | 0, S, l => (S, l)
  | f + 1, S, l => if S.e ≠ 0 then (S, l)
    else if UM L (Jf L (WO L S l.length)) [44] = true then Ze L f (Qe L (Jf L (WO L S l.length))) (l ++ [⟨(Je L (WO L S l.length)).s, QS L S [118, 97, 114], (Je L (WO L S l.length)).a⟩])
    else (QT L (Jf L (WO L S l.length)) [41], l ++ [⟨(Je L (WO L S l.length)).s, QS L S [118, 97, 114], (Je L (WO L S l.length)).a⟩])
def Yh(L:List Tk)(S:PS):PS×List Dc:=if UM L S [41]=true then(Qe L S,[])else Ze L (L.length+1) S []
def Jz(L:List Tk)(S:PS):PS×Pd:=
 let S1:=Qe L S
 let P:=Yh L (QT L (Jf L S1) [40])
 let B:=Qy L L.length (QT L P.1 [61]) 0
 (QT L B.1 [59],⟨(Je L S1).s,P.2,B.2,(Je L S1).a⟩)
def Z8 (L : List Tk) : Nat → PS → List Dc → List Pd → PS × List Dc × List Pd
  | 0, S, ds, ps => (S, ds, ps)
  | f + 1, S, ds, ps => if S.e ≠ 0 then (S, ds, ps) else if UM L S [112, 114, 101, 100] = true then Z8 L f (Jz L S).1 ds (ps ++ [(Jz L S).2])
    else if 0 ≤ QS L S [118, 97, 114] then Z8 L f (Uh L S).1 (ds ++ (Uh L S).2) ps else (S, ds, ps)
def Xw(L:List Tk):PS×Pg:=
 let G:=Z8 L (L.length+1) ⟨0,0,0⟩ [] []
 let B:=Qy L L.length G.1 0
 let S:=QT L B.1 [59]
 (if(Qh L S).k≠4 then Qz S (Qh L S).a 2 else S,⟨G.2.1,G.2.2,B.2⟩)

def jg(L:List Tk):Prop:= ∀j t,L[j]? =some t→t.k≠4→j+1<L.length
def Xg(L:List Tk)(S S':PS):Prop:=S.i≤S'.i∧(S.i<L.length→S'.i<L.length)
theorem Xg.refl(L:List Tk)(S:PS):Xg L S S:=⟨Nat.le_refl _,id⟩
theorem Xg.trans{L:List Tk}{a b c:PS}(x:Xg L a b)(y:Xg L b c):Xg L a c:=⟨Nat.le_trans x.1 y.1,fun h=>y.2 (x.2 h)⟩
section
variable {L:List Tk} (hL:jg L)
theorem Dz{S:PS}(he:S.e=0)(hi:S.i<L.length):L[S.i]? =some (Qh L S):=by
 rw[Qh,if_neg (by simp[he]),List.getElem?_eq_getElem hi];rfl
theorem JZ(S:PS)(a e:Int):Xg L S (Qz S a e):=by unfold Qz;split<;>exact Xg.refl _ _
include hL
theorem Qx(S:PS):Xg L S (Qe L S):=by
 unfold Qe
 split
 ·rename_i h;refine⟨Nat.le_succ _,fun hi=>hL S.i _ (Dz h.1 hi) h.2⟩
 ·exact Xg.refl _ _
omit hL in
theorem D0{S:PS}(h:(Qh L S).k≠4)(he:S.e=0):S.i<(Qe L S).i:=by
 rw[Qe,if_pos ⟨he,h⟩];exact Nat.lt_succ_self _
theorem Jd(S:PS)(w:List Nat):Xg L S (Q6 L S w):=by unfold Q6;split;exact Qx hL S;exact Xg.refl _ _
theorem Ue(S:PS)(w:List Nat):Xg L S (QT L S w):=by unfold QT;split;exact Qx hL S;exact JZ _ _ _
theorem J6(S:PS):Xg L S (Jf L S):=by unfold Jf;split;exact JZ _ _ _;exact Qx hL S
theorem Ow{el:PS→PR}(h: ∀S,Xg L S (el S).1)(w:List Nat): ∀k S l,Xg L S (VT el L w k S l).1
 |0,S,l=>Xg.refl _ _
 |k+1,S,l=>by
  rw[VT]
  split
  ·exact Xg.refl _ _
  split
  ·exact JZ _ _ _
  split
  ·exact((h S).trans (Qx hL _)).trans (Ow h w k _ _)
  ·exact(h S).trans (Ue hL _ _)
theorem DR{el:PS→PR}(h: ∀S,Xg L S (el S).1)(w:List Nat)(S:PS):Xg L S (Ve el L w S).1:=by
 unfold Ve;split
 ·exact Qx hL S
 ·exact Ow hL h w _ _ _
theorem DQ(S:PS):Xg L S (Am L S).1:=by
 have h1:=Qx hL S;have h2:=h1.trans (Qx hL (Qe L S));unfold Am
 split
 ·split
  ·exact h2.trans (JZ _ _ _)
  ·exact h2.trans (Qx hL _)
 ·exact h1
theorem Fv(S:PS):Xg L S (JT L S).1:=by
 unfold JT
 split
 ·exact DQ hL S
 split
 ·exact Qx hL S
 ·exact JZ _ _ _
theorem WL(S:PS):Xg L S (JK L S).1:=by
 unfold JK
 split
 ·exact DQ hL S
 split
 ·exact Qx hL S
 split
 ·exact(Qx hL S).trans (DR hL (Fv hL) _ _)
 ·exact JZ _ _ _
theorem Nh: ∀k S n,Xg L S (VH L k S n).1
 |0,S,n=>Xg.refl _ _
 |k+1,S,n=>by
  rw[VH]
  split
  ·exact Xg.refl _ _
  split
  ·exact Xg.refl _ _
  ·exact((Qx hL S).trans (WL hL _)).trans (Nh k _ _)
theorem Yn(S:PS):Xg L S (Jw L S).1:=(WL hL S).trans (Nh hL _ _ _)
theorem Mf(S:PS):Xg L S (UW L S).1:=by
 unfold UW
 split
 ·exact((Qx hL S).trans (Qx hL _)).trans (DR hL (Yn hL) _ _)
 split
 ·exact((Yn hL S).trans (Qx hL _)).trans (Yn hL _)
 ·show Xg L S (if _ then _ else _)
  split
  ·exact(Yn hL S).trans (JZ _ _ _)
  ·exact Yn hL S
omit hL in
theorem Jl(S:PS)(d:Nat):Xg L S (QB L S d):=by unfold QB;split;exact JZ _ _ _;exact Xg.refl _ _
theorem Ni{p:PS→PR}(h: ∀S,Xg L S (p S).1)(op w:List Nat): ∀k S n,Xg L S (Vp p op w L k S n).1
 |0,S,n=>Xg.refl _ _
 |k+1,S,n=>by
  rw[Vp]
  split
  ·exact((Qx hL S).trans (h _)).trans (Ni h op w k _ _)
  ·exact Xg.refl _ _
theorem Nj{p:PS→PR}(h: ∀S,Xg L S (p S).1)(op w:List Nat)(S:PS):Xg L S (Ak p op w L S).1:=(h S).trans (Ni hL h op w _ _ _)
theorem It{u:PS→PR}(h: ∀S,Xg L S (u S).1)(S:PS):Xg L S (VP u L S).1:=Nj hL h _ _ _
theorem AY{u:PS→PR}(h: ∀S,Xg L S (u S).1)(S:PS):Xg L S (Nn u L S).1:=Nj hL (It hL h) _ _ _
theorem Fx{u:PS→PR}(h: ∀S,Xg L S (u S).1): ∀k S,Xg L S (Z9 u L k S).1
 |0,S=>AY hL h S
 |k+1,S=>by
  rw[Z9]
  split
  ·exact((AY hL h S).trans (Qx hL _)).trans (Fx h k _)
  ·exact AY hL h S
theorem Iq{u:PS→PR}(h: ∀S,Xg L S (u S).1)(S:PS)(d:Nat):Xg L S (Zj u L S d).1:=by
 unfold Zj
 split
 ·exact Jl _ _
 ·exact(Jl S d).trans (Nj hL (Fx hL h _) _ _ _)
theorem Ng: ∀f S d,Xg L S (YG L f S d).1
 |0,S,d=>Xg.refl _ _
 |f+1,S,d=>by
  have hE:=Jl (L:=L) S d;have hN:=hE.trans (Qx hL _);have hf:=fun S=>Ng f S (d+1);rw[YG]
  split
  ·exact hE
  split
  ·exact hN.trans (hf _)
  split
  ·exact((hN.trans (J6 hL _)).trans (Ue hL _ _)).trans (Iq hL hf _ _)
  split
  ·exact hN
  split
  ·exact(hN.trans (Iq hL hf _ _)).trans (Ue hL _ _)
  ·exact hE.trans (Mf hL _)
theorem YV(f:Nat)(S:PS)(d:Nat):Xg L S (Qy L f S d).1:=Iq hL (fun S=>Ng hL f S d) S d
theorem Ho(k:Int): ∀f S l,Xg L S (Zb L k f S l).1
 |0,S,l=>Xg.refl _ _
 |f+1,S,l=>by
  rw[Zb]
  split
  ·exact Xg.refl _ _
  split
  ·exact((J6 hL S).trans (Qx hL _)).trans (Ho k f _ _)
  ·exact(J6 hL S).trans (Ue hL _ _)
theorem Ir(S:PS):Xg L S (Uh L S).1:=(Qx hL S).trans (Ho hL _ _ _ _)
theorem Fw(S:PS)(n:Nat):Xg L S (WO L S n):=by
 have h:Xg L S (Qe L (if QS L S [118,97,114]<0 then Qz S (Qh L S).a 2 else S)):=by
  split
  ·exact(JZ _ _ _).trans (Qx hL _)
  ·exact Qx hL _
 unfold WO;simp only
 split
 ·exact h.trans (JZ _ _ _)
 ·exact h
theorem Ko: ∀f S l,Xg L S (Ze L f S l).1
 |0,S,l=>Xg.refl _ _
 |f+1,S,l=>by
  rw[Ze]
  split
  ·exact Xg.refl _ _
  split
  ·exact(((Fw hL S _).trans (J6 hL _)).trans (Qx hL _)).trans (Ko f _ _)
  ·exact((Fw hL S _).trans (J6 hL _)).trans (Ue hL _ _)
theorem WM(S:PS):Xg L S (Yh L S).1:=by
 unfold Yh;split
 ·exact Qx hL S
 ·exact Ko hL _ _ _
theorem BN(S:PS):Xg L S (Jz L S).1:=by
 unfold Jz;exact((((((Qx hL S).trans (J6 hL _)).trans (Ue hL _ _)).trans (WM hL _)).trans (Ue hL _ _)).trans (YV hL _ _ _)).trans (Ue hL _ _)
end
end Go.Proofs.YtadjjadimlkkgaaGreatDoor
