/-
  Parsing, plainly: as the reference does it.
-/
import Derived.Test.YtmgkfceomhagaaaGreatDoorPsData
namespace Go.Proofs.YtmgkfceomhagaaaGreatDoor
open Go Go.RowKit
set_option linter.unusedVariables false

structure Tk where
 k:Int
 s:List Nat
 n:Int
 a:Int
def Lv:Tk:=⟨4,[],0,0⟩
def RE:Tk:=⟨0,[],0,0⟩
structure PS where
 i:Nat
 e:Int
 a:Int
def XO:Nd:=.mk [] [] 0 0 []
def Qc(L:List Tk)(S:PS):Tk:=if S.e≠0 then Lv else(L[S.i]?).getD Lv
def JD(L:List Tk)(S:PS)(w:List Nat):Bool:=decide ((Qc L S).k=3)&&decide ((Qc L S).s=w)
def Qb(L:List Tk)(S:PS):PS:=if S.e=0∧(Qc L S).k≠4 then⟨S.i+1,S.e,S.a⟩else S
def Qw(S:PS)(a e:Int):PS:=if S.e=0 then⟨S.i,e,a⟩else S
def Qi(L:List Tk)(S:PS)(w:List Nat):PS:=if JD L S w=true then Qb L S else S
def Q9(L:List Tk)(S:PS)(w:List Nat):PS:=if JD L S w=true then Qb L S else Qw S (Qc L S).a 2
def Jk(L:List Tk)(S:PS):PS:=if(Qc L S).k≠1 then Qw S (Qc L S).a 2 else Qb L S
def Jc(L:List Tk)(S:PS):Tk:=if(Qc L S).k≠1 then RE else Qc L S
def QI(L:List Tk)(S:PS)(s:List Nat):Int:=if JD L S (s++[48])=true then 0 else if JD L S (s++[49])=true then 1 else if JD L S (s++[50])=true then 2 else-1
abbrev PR:=PS×Nd
def Xa (el : PS → PR) (L : List Tk) (w : List Nat) : Nat → PS → List Nd → PS × List Nd
  | 0, S, l => (S, l)
  | k + 1, S, l => if S.e ≠ 0 then (S, l) else if l.length = 6 then (Qw S (Qc L S).a 2, l)
    else if JD L (el S).1 [44] = true then Xa el L w k (Qb L (el S).1) (l ++ [(el S).2]) else (Q9 L (el S).1 w, l ++ [(el S).2])
def Y5(el:PS→PR)(L:List Tk)(w:List Nat)(S:PS):PS×List Nd:=if JD L S w=true then(Qb L S,[])else Xa el L w 7 S []
def VU(L:List Tk)(S:PS):PR:=
 if JD L (Qb L S) [43]=true then
  (if(Qc L (Qb L (Qb L S))).k≠2∨(Qc L (Qb L (Qb L S))).n=0 then(Qw (Qb L (Qb L S)) (Qc L (Qb L (Qb L S))).a 2,.mk [118,97,114] (Qc L S).s 0 (Qc L S).a [])
  else(Qb L (Qb L (Qb L S)),.mk [112,108,117,115] [] (Qc L (Qb L (Qb L S))).n (Qc L S).a [.mk [118,97,114] (Qc L S).s 0 (Qc L S).a []]))
 else(Qb L S,.mk [118,97,114] (Qc L S).s 0 (Qc L S).a [])
def Jl(L:List Tk)(S:PS):PR:=
 if(Qc L S).k=1 then VU L S
 else if(Qc L S).k=2 then(Qb L S,.mk [110,117,109] [] (Qc L S).n (Qc L S).a [])
 else(Qw S (Qc L S).a 2,XO)
def QE(L:List Tk)(S:PS):PR:=
 if(Qc L S).k=1 then VU L S
 else if(Qc L S).k=2 then(Qb L S,.mk [110,117,109] [] (Qc L S).n (Qc L S).a [])
 else if JD L S [123]=true then((Y5 (Jl L) L [125] (Qb L S)).1,.mk [115,101,116] [] 0 (Qc L S).a (Y5 (Jl L) L [125] (Qb L S)).2)
 else(Qw S (Qc L S).a 2,XO)
def Lk(L:List Tk)(S:PS):Option (List Nat):=
 if JD L S [117,110,105,111,110]=true then some (Qc L S).s else if JD L S [105,110,116,101,114]=true then some (Qc L S).s
 else if JD L S [92]=true then some [109,105,110,117,115]else none
def ZY(L:List Tk):Nat→PS→Nd→PR
 |0,S,n=>(S,n)
 |k+1,S,n=>if S.e≠0 then(S,n)else match Lk L S with
  |none=>(S,n)
  |some op=>ZY L k (QE L (Qb L S)).1 (.mk op [] 0 (Qc L S).a [n,(QE L (Qb L S)).2])
def Qn(L:List Tk)(S:PS):PR:=ZY L L.length (QE L S).1 (QE L S).2
def YG(L:List Tk)(S:PS):List Nat:=
 if JD L S [61]=true then [101,113]else if JD L S [126,61]=true then [110,101]else if JD L S [60]=true then [108,116]else if JD L S [60,61]=true then [108,101]
 else if JD L S [105,110]=true then [105,110]else if JD L S [110,111,116,105,110]=true then [110,111,116,105,110]else if JD L S [115,117,98]=true then [115,117,98]else []
def Up(L:List Tk)(S:PS):Bool:=decide ((Qc L S).k=1)&&(decide (((L[S.i+1]?).getD Lv).k=3)&&decide (((L[S.i+1]?).getD Lv).s=[40]))
def WZ:Nd→List Nat
 |.mk o _ _ _ _=>o
def Zf:Nd→List Nat
 |.mk _ s _ _ _=>s
def Jt(L:List Tk)(S:PS):PR:=
 if Up L S=true then((Y5 (Qn L) L [41] (Qb L (Qb L S))).1,.mk [99,97,108,108] (Qc L S).s 0 (Qc L S).a (Y5 (Qn L) L [41] (Qb L (Qb L S))).2)
 else if(Qn L S).1.e=0∧YG L (Qn L S).1≠[]then((Qn L (Qb L (Qn L S).1)).1,.mk (YG L (Qn L S).1) [] 0 (Qc L (Qn L S).1).a [(Qn L S).2,(Qn L (Qb L (Qn L S).1)).2])
 else(if WZ (Qn L S).2≠[118,97,114]then Qw (Qn L S).1 (Qc L S).a 2 else(Qn L S).1,.mk [105,115] (Zf (Qn L S).2) 0 (Qc L S).a [])
def Qd(L:List Tk)(S:PS)(d:Nat):PS:=if 30≤d then Qw S (Qc L S).a 4 else S
def ZO(part:PS→PR)(op w:List Nat)(L:List Tk):Nat→PS→Nd→PR
 |0,S,n=>(S,n)
 |k+1,S,n=>if JD L S w=true then ZO part op w L k (part (Qb L S)).1 (.mk op [] 0 (Qc L S).a [n,(part (Qb L S)).2])else(S,n)
def YR(part:PS→PR)(op w:List Nat)(L:List Tk)(S:PS):PR:=ZO part op w L L.length (part S).1 (part S).2
def ZR(u:PS→PR)(L:List Tk):PS→PR:=YR u [97,110,100] [38] L
def V3(u:PS→PR)(L:List Tk):PS→PR:=YR (ZR u L) [111,114] [124] L
def JO(u:PS→PR)(L:List Tk):Nat→PS→PR
 |0,S=>V3 u L S
 |k+1,S=>if JD L (V3 u L S).1 [61,62]=true then((JO u L k (Qb L (V3 u L S).1)).1,.mk [105,109,112] [] 0 (Qc L (V3 u L S).1).a [(V3 u L S).2,(JO u L k (Qb L (V3 u L S).1)).2])else V3 u L S
def JY(u:PS→PR)(L:List Tk)(S:PS)(d:Nat):PR:=
 if(Qd L S d).e≠0 then(Qd L S d,XO)else YR (JO u L L.length) [105,102,102] [60,61,62] L (Qd L S d)
def J9(L:List Tk):Nat→PS→Nat→PR
 |0,S,_=>(S,XO)
 |f+1,S,d=>
  if(Qd L S d).e≠0 then(Qd L S d,XO)
  else if JD L (Qd L S d) [126]=true then((J9 L f (Qb L (Qd L S d)) (d+1)).1,.mk [110,111,116] [] 0 (Qc L (Qd L S d)).a [(J9 L f (Qb L (Qd L S d)) (d+1)).2])
  else if 0≤QI L (Qd L S d) [101,120]∨0≤QI L (Qd L S d) [97,108,108]then
   ((JY (fun S=>J9 L f S (d+1)) L (Q9 L (Jk L (Qb L (Qd L S d))) [58]) (d+1)).1,
    .mk (if QI L (Qd L S d) [101,120]<0 then [97,108,108]else [101,120]) (Jc L (Qb L (Qd L S d))).s (if QI L (Qd L S d) [101,120]<0 then QI L (Qd L S d) [97,108,108]else QI L (Qd L S d) [101,120]) (Qc L (Qd L S d)).a
     [(JY (fun S=>J9 L f S (d+1)) L (Q9 L (Jk L (Qb L (Qd L S d))) [58]) (d+1)).2])
  else if JD L (Qd L S d) [116,114,117,101]=true∨JD L (Qd L S d) [102,97,108,115,101]=true then(Qb L (Qd L S d),.mk (Qc L (Qd L S d)).s [] 0 (Qc L (Qd L S d)).a [])
  else if JD L (Qd L S d) [40]=true then(Q9 L (JY (fun S=>J9 L f S (d+1)) L (Qb L (Qd L S d)) (d+1)).1 [41],(JY (fun S=>J9 L f S (d+1)) L (Qb L (Qd L S d)) (d+1)).2)
  else Jt L (Qd L S d)
def Qu(L:List Tk)(f:Nat)(S:PS)(d:Nat):PR:=JY (fun S=>J9 L f S d) L S d
def Zi(L:List Tk)(k:Int):Nat→PS→List Dc→PS×List Dc
 |0,S,l=>(S,l)
 |f+1,S,l=>if S.e≠0 then(S,l)else if JD L (Jk L S) [44]=true then Zi L k f (Qb L (Jk L S)) (l++[⟨(Jc L S).s,k,(Jc L S).a⟩])else(Q9 L (Jk L S) [59],l++[⟨(Jc L S).s,k,(Jc L S).a⟩])
def Yl(L:List Tk)(S:PS):PS×List Dc:=Zi L (QI L S [118,97,114]) (L.length+1) (Qb L S) []
def WY(L:List Tk)(S:PS)(n:Nat):PS:=
 let S1:=Qb L (if QI L S [118,97,114]<0 then Qw S (Qc L S).a 2 else S)
 if n=6 then Qw S1 (Qc L S1).a 2 else S1
def Zm (L : List Tk) : Nat → PS → List Dc → PS × List Dc
  | 0, S, l => (S, l)
  | f + 1, S, l => if S.e ≠ 0 then (S, l)
    else if JD L (Jk L (WY L S l.length)) [44] = true then Zm L f (Qb L (Jk L (WY L S l.length))) (l ++ [⟨(Jc L (WY L S l.length)).s, QI L S [118, 97, 114], (Jc L (WY L S l.length)).a⟩])
    else (Q9 L (Jk L (WY L S l.length)) [41], l ++ [⟨(Jc L (WY L S l.length)).s, QI L S [118, 97, 114], (Jc L (WY L S l.length)).a⟩])
def Yn(L:List Tk)(S:PS):PS×List Dc:=if JD L S [41]=true then(Qb L S,[])else Zm L (L.length+1) S []
def Uq(L:List Tk)(S:PS):PS×Pd:=
 let S1:=Qb L S
 let P:=Yn L (Q9 L (Jk L S1) [40])
 let B:=Qu L L.length (Q9 L P.1 [61]) 0
 (Q9 L B.1 [59],⟨(Jc L S1).s,P.2,B.2,(Jc L S1).a⟩)
def ZN (L : List Tk) : Nat → PS → List Dc → List Pd → PS × List Dc × List Pd
  | 0, S, ds, ps => (S, ds, ps)
  | f + 1, S, ds, ps => if S.e ≠ 0 then (S, ds, ps) else if JD L S [112, 114, 101, 100] = true then ZN L f (Uq L S).1 ds (ps ++ [(Uq L S).2])
    else if 0 ≤ QI L S [118, 97, 114] then ZN L f (Yl L S).1 (ds ++ (Yl L S).2) ps else (S, ds, ps)
def Ze(L:List Tk):PS×Pg:=
 let G:=ZN L (L.length+1) ⟨0,0,0⟩ [] []
 let B:=Qu L L.length G.1 0
 let S:=Q9 L B.1 [59]
 (if(Qc L S).k≠4 then Qw S (Qc L S).a 2 else S,⟨G.2.1,G.2.2,B.2⟩)

def zg(L:List Tk):Prop:= ∀j t,L[j]? =some t→t.k≠4→j+1<L.length
def ZC(L:List Tk)(S S':PS):Prop:=S.i≤S'.i∧(S.i<L.length→S'.i<L.length)
theorem ZC.refl(L:List Tk)(S:PS):ZC L S S:=⟨Nat.le_refl _,id⟩
theorem ZC.trans{L:List Tk}{a b c:PS}(x:ZC L a b)(y:ZC L b c):ZC L a c:=⟨Nat.le_trans x.1 y.1,fun h=>y.2 (x.2 h)⟩
section
variable {L:List Tk} (hL:zg L)
theorem BO{S:PS}(he:S.e=0)(hi:S.i<L.length):L[S.i]? =some (Qc L S):=by
 rw[Qc,if_neg (by simp[he]),List.getElem?_eq_getElem hi];rfl
theorem JB(S:PS)(a e:Int):ZC L S (Qw S a e):=by unfold Qw;split<;>exact ZC.refl _ _
include hL
theorem Qr(S:PS):ZC L S (Qb L S):=by
 unfold Qb
 split
 ·rename_i h;refine⟨Nat.le_succ _,fun hi=>hL S.i _ (BO h.1 hi) h.2⟩
 ·exact ZC.refl _ _
omit hL in
theorem Td{S:PS}(h:(Qc L S).k≠4)(he:S.e=0):S.i<(Qb L S).i:=by
 rw[Qb,if_pos ⟨he,h⟩];exact Nat.lt_succ_self _
theorem QP(S:PS)(w:List Nat):ZC L S (Qi L S w):=by unfold Qi;split;exact Qr hL S;exact ZC.refl _ _
theorem JP(S:PS)(w:List Nat):ZC L S (Q9 L S w):=by unfold Q9;split;exact Qr hL S;exact JB _ _ _
theorem Jx(S:PS):ZC L S (Jk L S):=by unfold Jk;split;exact JB _ _ _;exact Qr hL S
theorem Bh{el:PS→PR}(h: ∀S,ZC L S (el S).1)(w:List Nat): ∀k S l,ZC L S (Xa el L w k S l).1
 |0,S,l=>ZC.refl _ _
 |k+1,S,l=>by
  rw[Xa]
  split
  ·exact ZC.refl _ _
  split
  ·exact JB _ _ _
  split
  ·exact((h S).trans (Qr hL _)).trans (Bh h w k _ _)
  ·exact(h S).trans (JP hL _ _)
theorem TJ{el:PS→PR}(h: ∀S,ZC L S (el S).1)(w:List Nat)(S:PS):ZC L S (Y5 el L w S).1:=by
 unfold Y5;split
 ·exact Qr hL S
 ·exact Bh hL h w _ _ _
theorem TI(S:PS):ZC L S (VU L S).1:=by
 have h1:=Qr hL S;have h2:=h1.trans (Qr hL (Qb L S));unfold VU
 split
 ·split
  ·exact h2.trans (JB _ _ _)
  ·exact h2.trans (Qr hL _)
 ·exact h1
theorem EH(S:PS):ZC L S (Jl L S).1:=by
 unfold Jl
 split
 ·exact TI hL S
 split
 ·exact Qr hL S
 ·exact JB _ _ _
theorem Vl(S:PS):ZC L S (QE L S).1:=by
 unfold QE
 split
 ·exact TI hL S
 split
 ·exact Qr hL S
 split
 ·exact(Qr hL S).trans (TJ hL (EH hL) _ _)
 ·exact JB _ _ _
theorem OC: ∀k S n,ZC L S (ZY L k S n).1
 |0,S,n=>ZC.refl _ _
 |k+1,S,n=>by
  rw[ZY]
  split
  ·exact ZC.refl _ _
  split
  ·exact ZC.refl _ _
  ·exact((Qr hL S).trans (Vl hL _)).trans (OC k _ _)
theorem Uy(S:PS):ZC L S (Qn L S).1:=(Vl hL S).trans (OC hL _ _ _)
theorem ze(S:PS):ZC L S (Jt L S).1:=by
 unfold Jt
 split
 ·exact((Qr hL S).trans (Qr hL _)).trans (TJ hL (Uy hL) _ _)
 split
 ·exact((Uy hL S).trans (Qr hL _)).trans (Uy hL _)
 ·show ZC L S (if _ then _ else _)
  split
  ·exact(Uy hL S).trans (JB _ _ _)
  ·exact Uy hL S
omit hL in
theorem QD(S:PS)(d:Nat):ZC L S (Qd L S d):=by unfold Qd;split;exact JB _ _ _;exact ZC.refl _ _
theorem OD{p:PS→PR}(h: ∀S,ZC L S (p S).1)(op w:List Nat): ∀k S n,ZC L S (ZO p op w L k S n).1
 |0,S,n=>ZC.refl _ _
 |k+1,S,n=>by
  rw[ZO]
  split
  ·exact((Qr hL S).trans (h _)).trans (OD h op w k _ _)
  ·exact ZC.refl _ _
theorem OE{p:PS→PR}(h: ∀S,ZC L S (p S).1)(op w:List Nat)(S:PS):ZC L S (YR p op w L S).1:=(h S).trans (OD hL h op w _ _ _)
theorem FK{u:PS→PR}(h: ∀S,ZC L S (u S).1)(S:PS):ZC L S (ZR u L S).1:=OE hL h _ _ _
theorem Vm{u:PS→PR}(h: ∀S,ZC L S (u S).1)(S:PS):ZC L S (V3 u L S).1:=OE hL (FK hL h) _ _ _
theorem VC{u:PS→PR}(h: ∀S,ZC L S (u S).1): ∀k S,ZC L S (JO u L k S).1
 |0,S=>Vm hL h S
 |k+1,S=>by
  rw[JO]
  split
  ·exact((Vm hL h S).trans (Qr hL _)).trans (VC h k _)
  ·exact Vm hL h S
theorem Fy{u:PS→PR}(h: ∀S,ZC L S (u S).1)(S:PS)(d:Nat):ZC L S (JY u L S d).1:=by
 unfold JY
 split
 ·exact QD _ _
 ·exact(QD S d).trans (OE hL (VC hL h _) _ _ _)
theorem Fw: ∀f S d,ZC L S (J9 L f S d).1
 |0,S,d=>ZC.refl _ _
 |f+1,S,d=>by
  have hE:=QD (L:=L) S d;have hN:=hE.trans (Qr hL _);have hf:=fun S=>Fw f S (d+1);rw[J9]
  split
  ·exact hE
  split
  ·exact hN.trans (hf _)
  split
  ·exact((hN.trans (Jx hL _)).trans (JP hL _ _)).trans (Fy hL hf _ _)
  split
  ·exact hN
  split
  ·exact(hN.trans (Fy hL hf _ _)).trans (JP hL _ _)
  ·exact hE.trans (ze hL _)
theorem Yu(f:Nat)(S:PS)(d:Nat):ZC L S (Qu L f S d).1:=Fy hL (fun S=>Fw hL f S d) S d
theorem HW(k:Int): ∀f S l,ZC L S (Zi L k f S l).1
 |0,S,l=>ZC.refl _ _
 |f+1,S,l=>by
  rw[Zi]
  split
  ·exact ZC.refl _ _
  split
  ·exact((Jx hL S).trans (Qr hL _)).trans (HW k f _ _)
  ·exact(Jx hL S).trans (JP hL _ _)
theorem Kk(S:PS):ZC L S (Yl L S).1:=(Qr hL S).trans (HW hL _ _ _ _)
theorem FJ(S:PS)(n:Nat):ZC L S (WY L S n):=by
 have h:ZC L S (Qb L (if QI L S [118,97,114]<0 then Qw S (Qc L S).a 2 else S)):=by
  split
  ·exact(JB _ _ _).trans (Qr hL _)
  ·exact Qr hL _
 unfold WY;simp only
 split
 ·exact h.trans (JB _ _ _)
 ·exact h
theorem L4: ∀f S l,ZC L S (Zm L f S l).1
 |0,S,l=>ZC.refl _ _
 |f+1,S,l=>by
  rw[Zm]
  split
  ·exact ZC.refl _ _
  split
  ·exact(((FJ hL S _).trans (Jx hL _)).trans (Qr hL _)).trans (L4 f _ _)
  ·exact((FJ hL S _).trans (Jx hL _)).trans (JP hL _ _)
theorem WU(S:PS):ZC L S (Yn L S).1:=by
 unfold Yn;split
 ·exact Qr hL S
 ·exact L4 hL _ _ _
theorem PE(S:PS):ZC L S (Uq L S).1:=by
 unfold Uq;exact((((((Qr hL S).trans (Jx hL _)).trans (JP hL _ _)).trans (WU hL _)).trans (JP hL _ _)).trans (Yu hL _ _ _)).trans (JP hL _ _)
end
end Go.Proofs.YtmgkfceomhagaaaGreatDoor
