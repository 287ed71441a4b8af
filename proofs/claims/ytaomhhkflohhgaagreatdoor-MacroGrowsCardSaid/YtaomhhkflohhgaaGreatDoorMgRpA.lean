/-
  Declarations, predicates and programs in the reckoner's memory.
-/
import Derived.Test.YtaomhhkflohhgaaGreatDoorMgRun
set_option maxRecDepth 100000
set_option linter.unnecessarySimpa false
set_option linter.unusedSectionVars false
set_option linter.unusedSimpArgs false
set_option linter.unusedVariables false
namespace Go.Proofs.YtaomhhkflohhgaaGreatDoor
open Go Go.RowKit
section

structure Dc where
 name:List Nat
 order:Int
 at_:Int
def Dc.cells(d:Dc):List AV:=[.str d.name,.int .i64 d.order,.int .i64 d.at_]
structure Pd where
 name:List Nat
 params:List Dc
 body:Nd
 at_:Int
structure Pg where
 decls:List Dc
 preds:List Pd
 main:Nd
end
section

structure Tk where
 k:Int
 s:List Nat
 n:Int
 a:Int
def DN:Tk:=⟨4,[],0,0⟩
def vd:Tk:=⟨0,[],0,0⟩
structure PS where
 i:Nat
 e:Int
 a:Int
def YT:Nd:=.mk [] [] 0 0 []
def Qd(L:List Tk)(S:PS):Tk:=if S.e≠0 then DN else(L[S.i]?).getD DN
def Yv(L:List Tk)(S:PS)(w:List Nat):Bool:=decide ((Qd L S).k=3)&&decide ((Qd L S).s=w)
def Qb(L:List Tk)(S:PS):PS:=if S.e=0∧(Qd L S).k≠4 then⟨S.i+1,S.e,S.a⟩else S
def Qy(S:PS)(a e:Int):PS:=if S.e=0 then⟨S.i,e,a⟩else S
def Qr(L:List Tk)(S:PS)(w:List Nat):PS:=if Yv L S w=true then Qb L S else S
def Q6(L:List Tk)(S:PS)(w:List Nat):PS:=if Yv L S w=true then Qb L S else Qy S (Qd L S).a 2
def QK(L:List Tk)(S:PS):PS:=if(Qd L S).k≠1 then Qy S (Qd L S).a 2 else Qb L S
def QG(L:List Tk)(S:PS):Tk:=if(Qd L S).k≠1 then vd else Qd L S
def QD(L:List Tk)(S:PS)(s:List Nat):Int:=if Yv L S (s++[48])=true then 0 else if Yv L S (s++[49])=true then 1 else if Yv L S (s++[50])=true then 2 else-1
abbrev PR:=PS×Nd
def Wa (el : PS → PR) (L : List Tk) (w : List Nat) : Nat → PS → List Nd → PS × List Nd
  | 0, S, l => (S, l)
  | k + 1, S, l => if S.e ≠ 0 then (S, l) else if l.length = 6 then (Qy S (Qd L S).a 2, l)
    else if Yv L (el S).1 [44] = true then Wa el L w k (Qb L (el S).1) (l ++ [(el S).2]) else (Q6 L (el S).1 w, l ++ [(el S).2])
def ZY(el:PS→PR)(L:List Tk)(w:List Nat)(S:PS):PS×List Nd:=if Yv L S w=true then(Qb L S,[])else Wa el L w 7 S []
def AO(L:List Tk)(S:PS):PR:=
 if Yv L (Qb L S) [43]=true then
  (if(Qd L (Qb L (Qb L S))).k≠2∨(Qd L (Qb L (Qb L S))).n=0 then(Qy (Qb L (Qb L S)) (Qd L (Qb L (Qb L S))).a 2,.mk [118,97,114] (Qd L S).s 0 (Qd L S).a [])
  else(Qb L (Qb L (Qb L S)),.mk [112,108,117,115] [] (Qd L (Qb L (Qb L S))).n (Qd L S).a [.mk [118,97,114] (Qd L S).s 0 (Qd L S).a []]))
 else(Qb L S,.mk [118,97,114] (Qd L S).s 0 (Qd L S).a [])
def J9(L:List Tk)(S:PS):PR:=
 if(Qd L S).k=1 then AO L S
 else if(Qd L S).k=2 then(Qb L S,.mk [110,117,109] [] (Qd L S).n (Qd L S).a [])
 else(Qy S (Qd L S).a 2,YT)
def Jp(L:List Tk)(S:PS):PR:=
 if(Qd L S).k=1 then AO L S
 else if(Qd L S).k=2 then(Qb L S,.mk [110,117,109] [] (Qd L S).n (Qd L S).a [])
 else if Yv L S [123]=true then((ZY (J9 L) L [125] (Qb L S)).1,.mk [115,101,116] [] 0 (Qd L S).a (ZY (J9 L) L [125] (Qb L S)).2)
 else(Qy S (Qd L S).a 2,YT)
def TS(L:List Tk)(S:PS):Option (List Nat):=
 if Yv L S [117,110,105,111,110]=true then some (Qd L S).s else if Yv L S [105,110,116,101,114]=true then some (Qd L S).s
 else if Yv L S [92]=true then some [109,105,110,117,115]else none
def VQ(L:List Tk):Nat→PS→Nd→PR
 |0,S,n=>(S,n)
 |k+1,S,n=>if S.e≠0 then(S,n)else match TS L S with
  |none=>(S,n)
  |some op=>VQ L k (Jp L (Qb L S)).1 (.mk op [] 0 (Qd L S).a [n,(Jp L (Qb L S)).2])
def Q8(L:List Tk)(S:PS):PR:=VQ L L.length (Jp L S).1 (Jp L S).2
def Ef(L:List Tk)(S:PS):List Nat:=
 if Yv L S [61]=true then [101,113]else if Yv L S [126,61]=true then [110,101]else if Yv L S [60]=true then [108,116]else if Yv L S [60,61]=true then [108,101]
 else if Yv L S [105,110]=true then [105,110]else if Yv L S [110,111,116,105,110]=true then [110,111,116,105,110]else if Yv L S [115,117,98]=true then [115,117,98]else []
def ZV(L:List Tk)(S:PS):Bool:=decide ((Qd L S).k=1)&&(decide (((L[S.i+1]?).getD DN).k=3)&&decide (((L[S.i+1]?).getD DN).s=[40]))
def Fy:Nd→List Nat
 |.mk o _ _ _ _=>o
def ZL:Nd→List Nat
 |.mk _ s _ _ _=>s
def U6(L:List Tk)(S:PS):PR:=
 if ZV L S=true then((ZY (Q8 L) L [41] (Qb L (Qb L S))).1,.mk [99,97,108,108] (Qd L S).s 0 (Qd L S).a (ZY (Q8 L) L [41] (Qb L (Qb L S))).2)
 else if(Q8 L S).1.e=0∧Ef L (Q8 L S).1≠[]then((Q8 L (Qb L (Q8 L S).1)).1,.mk (Ef L (Q8 L S).1) [] 0 (Qd L (Q8 L S).1).a [(Q8 L S).2,(Q8 L (Qb L (Q8 L S).1)).2])
 else(if Fy (Q8 L S).2≠[118,97,114]then Qy (Q8 L S).1 (Qd L S).a 2 else(Q8 L S).1,.mk [105,115] (ZL (Q8 L S).2) 0 (Qd L S).a [])
def Qm(L:List Tk)(S:PS)(d:Nat):PS:=if 30≤d then Qy S (Qd L S).a 4 else S
def Vt(part:PS→PR)(op w:List Nat)(L:List Tk):Nat→PS→Nd→PR
 |0,S,n=>(S,n)
 |k+1,S,n=>if Yv L S w=true then Vt part op w L k (part (Qb L S)).1 (.mk op [] 0 (Qd L S).a [n,(part (Qb L S)).2])else(S,n)
def AJ(part:PS→PR)(op w:List Nat)(L:List Tk)(S:PS):PR:=Vt part op w L L.length (part S).1 (part S).2
def Vl(u:PS→PR)(L:List Tk):PS→PR:=AJ u [97,110,100] [38] L
def I8(u:PS→PR)(L:List Tk):PS→PR:=AJ (Vl u L) [111,114] [124] L
def YH(u:PS→PR)(L:List Tk):Nat→PS→PR
 |0,S=>I8 u L S
 |k+1,S=>if Yv L (I8 u L S).1 [61,62]=true then((YH u L k (Qb L (I8 u L S).1)).1,.mk [105,109,112] [] 0 (Qd L (I8 u L S).1).a [(I8 u L S).2,(YH u L k (Qb L (I8 u L S).1)).2])else I8 u L S
def U5(u:PS→PR)(L:List Tk)(S:PS)(d:Nat):PR:=
 if(Qm L S d).e≠0 then(Qm L S d,YT)else AJ (YH u L L.length) [105,102,102] [60,61,62] L (Qm L S d)
def U1(L:List Tk):Nat→PS→Nat→PR
 |0,S,_=>(S,YT)
 |f+1,S,d=>
  if(Qm L S d).e≠0 then(Qm L S d,YT)
  else if Yv L (Qm L S d) [126]=true then((U1 L f (Qb L (Qm L S d)) (d+1)).1,.mk [110,111,116] [] 0 (Qd L (Qm L S d)).a [(U1 L f (Qb L (Qm L S d)) (d+1)).2])
  else if 0≤QD L (Qm L S d) [101,120]∨0≤QD L (Qm L S d) [97,108,108]then
   ((U5 (fun S=>U1 L f S (d+1)) L (Q6 L (QK L (Qb L (Qm L S d))) [58]) (d+1)).1,
    .mk (if QD L (Qm L S d) [101,120]<0 then [97,108,108]else [101,120]) (QG L (Qb L (Qm L S d))).s (if QD L (Qm L S d) [101,120]<0 then QD L (Qm L S d) [97,108,108]else QD L (Qm L S d) [101,120]) (Qd L (Qm L S d)).a
     [(U5 (fun S=>U1 L f S (d+1)) L (Q6 L (QK L (Qb L (Qm L S d))) [58]) (d+1)).2])
  else if Yv L (Qm L S d) [116,114,117,101]=true∨Yv L (Qm L S d) [102,97,108,115,101]=true then(Qb L (Qm L S d),.mk (Qd L (Qm L S d)).s [] 0 (Qd L (Qm L S d)).a [])
  else if Yv L (Qm L S d) [40]=true then(Q6 L (U5 (fun S=>U1 L f S (d+1)) L (Qb L (Qm L S d)) (d+1)).1 [41],(U5 (fun S=>U1 L f S (d+1)) L (Qb L (Qm L S d)) (d+1)).2)
  else U6 L (Qm L S d)
def Qs(L:List Tk)(f:Nat)(S:PS)(d:Nat):PR:=U5 (fun S=>U1 L f S d) L S d
def YI(L:List Tk)(k:Int):Nat→PS→List Dc→PS×List Dc
 |0,S,l=>(S,l)
 |f+1,S,l=>if S.e≠0 then(S,l)else if Yv L (QK L S) [44]=true then YI L k f (Qb L (QK L S)) (l++[⟨(QG L S).s,k,(QG L S).a⟩])else(Q6 L (QK L S) [59],l++[⟨(QG L S).s,k,(QG L S).a⟩])
def UT(L:List Tk)(S:PS):PS×List Dc:=YI L (QD L S [118,97,114]) (L.length+1) (Qb L S) []
def Eg(L:List Tk)(S:PS)(n:Nat):PS:=
 let S1:=Qb L (if QD L S [118,97,114]<0 then Qy S (Qd L S).a 2 else S)
 if n=6 then Qy S1 (Qd L S1).a 2 else S1
def YL (L : List Tk) : Nat → PS → List Dc → PS × List Dc
  | 0, S, l => (S, l)
  | f + 1, S, l => if S.e ≠ 0 then (S, l)
    else if Yv L (QK L (Eg L S l.length)) [44] = true then YL L f (Qb L (QK L (Eg L S l.length))) (l ++ [⟨(QG L (Eg L S l.length)).s, QD L S [118, 97, 114], (QG L (Eg L S l.length)).a⟩])
    else (Q6 L (QK L (Eg L S l.length)) [41], l ++ [⟨(QG L (Eg L S l.length)).s, QD L S [118, 97, 114], (QG L (Eg L S l.length)).a⟩])
def Uq(L:List Tk)(S:PS):PS×List Dc:=if Yv L S [41]=true then(Qb L S,[])else YL L (L.length+1) S []
def JW(L:List Tk)(S:PS):PS×Pd:=
 let S1:=Qb L S
 let P:=Uq L (Q6 L (QK L S1) [40])
 let B:=Qs L L.length (Q6 L P.1 [61]) 0
 (Q6 L B.1 [59],⟨(QG L S1).s,P.2,B.2,(QG L S1).a⟩)
def Z0 (L : List Tk) : Nat → PS → List Dc → List Pd → PS × List Dc × List Pd
  | 0, S, ds, ps => (S, ds, ps)
  | f + 1, S, ds, ps => if S.e ≠ 0 then (S, ds, ps) else if Yv L S [112, 114, 101, 100] = true then Z0 L f (JW L S).1 ds (ps ++ [(JW L S).2])
    else if 0 ≤ QD L S [118, 97, 114] then Z0 L f (UT L S).1 (ds ++ (UT L S).2) ps else (S, ds, ps)
def X6(L:List Tk):PS×Pg:=
 let G:=Z0 L (L.length+1) ⟨0,0,0⟩ [] []
 let B:=Qs L L.length G.1 0
 let S:=Q6 L B.1 [59]
 (if(Qd L S).k≠4 then Qy S (Qd L S).a 2 else S,⟨G.2.1,G.2.2,B.2⟩)

def xr(L:List Tk):Prop:= ∀j t,L[j]? =some t→t.k≠4→j+1<L.length
def Xr(L:List Tk)(S S':PS):Prop:=S.i≤S'.i∧(S.i<L.length→S'.i<L.length)
theorem Xr.refl(L:List Tk)(S:PS):Xr L S S:=⟨Nat.le_refl _,id⟩
theorem Xr.trans{L:List Tk}{a b c:PS}(x:Xr L a b)(y:Xr L b c):Xr L a c:=⟨Nat.le_trans x.1 y.1,fun h=>y.2 (x.2 h)⟩
section
variable {L:List Tk} (hL:xr L)
theorem Su{S:PS}(he:S.e=0)(hi:S.i<L.length):L[S.i]? =some (Qd L S):=by
 rw[Qd,if_neg (by simp[he]),List.getElem?_eq_getElem hi];rfl
theorem JI(S:PS)(a e:Int):Xr L S (Qy S a e):=by unfold Qy;split<;>exact Xr.refl _ _
include hL
theorem Qu(S:PS):Xr L S (Qb L S):=by
 unfold Qb
 split
 ·rename_i h;refine⟨Nat.le_succ _,fun hi=>hL S.i _ (Su h.1 hi) h.2⟩
 ·exact Xr.refl _ _
omit hL in
theorem Sv{S:PS}(h:(Qd L S).k≠4)(he:S.e=0):S.i<(Qb L S).i:=by
 rw[Qb,if_pos ⟨he,h⟩];exact Nat.lt_succ_self _
theorem QQ(S:PS)(w:List Nat):Xr L S (Qr L S w):=by unfold Qr;split;exact Qu hL S;exact Xr.refl _ _
theorem JO(S:PS)(w:List Nat):Xr L S (Q6 L S w):=by unfold Q6;split;exact Qu hL S;exact JI _ _ _
theorem Jk(S:PS):Xr L S (QK L S):=by unfold QK;split;exact JI _ _ _;exact Qu hL S
theorem Br{el:PS→PR}(h: ∀S,Xr L S (el S).1)(w:List Nat): ∀k S l,Xr L S (Wa el L w k S l).1
 |0,S,l=>Xr.refl _ _
 |k+1,S,l=>by
  rw[Wa]
  split
  ·exact Xr.refl _ _
  split
  ·exact JI _ _ _
  split
  ·exact((h S).trans (Qu hL _)).trans (Br h w k _ _)
  ·exact(h S).trans (JO hL _ _)
theorem Ta{el:PS→PR}(h: ∀S,Xr L S (el S).1)(w:List Nat)(S:PS):Xr L S (ZY el L w S).1:=by
 unfold ZY;split
 ·exact Qu hL S
 ·exact Br hL h w _ _ _
theorem SY(S:PS):Xr L S (AO L S).1:=by
 have h1:=Qu hL S;have h2:=h1.trans (Qu hL (Qb L S));unfold AO
 split
 ·split
  ·exact h2.trans (JI _ _ _)
  ·exact h2.trans (Qu hL _)
 ·exact h1
theorem Hf(S:PS):Xr L S (J9 L S).1:=by
 unfold J9
 split
 ·exact SY hL S
 split
 ·exact Qu hL S
 ·exact JI _ _ _
theorem Eb(S:PS):Xr L S (Jp L S).1:=by
 unfold Jp
 split
 ·exact SY hL S
 split
 ·exact Qu hL S
 split
 ·exact(Qu hL S).trans (Ta hL (Hf hL) _ _)
 ·exact JI _ _ _
theorem O9: ∀k S n,Xr L S (VQ L k S n).1
 |0,S,n=>Xr.refl _ _
 |k+1,S,n=>by
  rw[VQ]
  split
  ·exact Xr.refl _ _
  split
  ·exact Xr.refl _ _
  ·exact((Qu hL S).trans (Eb hL _)).trans (O9 k _ _)
theorem Yd(S:PS):Xr L S (Q8 L S).1:=(Eb hL S).trans (O9 hL _ _ _)
theorem yu(S:PS):Xr L S (U6 L S).1:=by
 unfold U6
 split
 ·exact((Qu hL S).trans (Qu hL _)).trans (Ta hL (Yd hL) _ _)
 split
 ·exact((Yd hL S).trans (Qu hL _)).trans (Yd hL _)
 ·show Xr L S (if _ then _ else _)
  split
  ·exact(Yd hL S).trans (JI _ _ _)
  ·exact Yd hL S
omit hL in
theorem QX(S:PS)(d:Nat):Xr L S (Qm L S d):=by unfold Qm;split;exact JI _ _ _;exact Xr.refl _ _
theorem OA{p:PS→PR}(h: ∀S,Xr L S (p S).1)(op w:List Nat): ∀k S n,Xr L S (Vt p op w L k S n).1
 |0,S,n=>Xr.refl _ _
 |k+1,S,n=>by
  rw[Vt]
  split
  ·exact((Qu hL S).trans (h _)).trans (OA h op w k _ _)
  ·exact Xr.refl _ _
theorem OB{p:PS→PR}(h: ∀S,Xr L S (p S).1)(op w:List Nat)(S:PS):Xr L S (AJ p op w L S).1:=(h S).trans (OA hL h op w _ _ _)
theorem KD{u:PS→PR}(h: ∀S,Xr L S (u S).1)(S:PS):Xr L S (Vl u L S).1:=OB hL h _ _ _
theorem FJ{u:PS→PR}(h: ∀S,Xr L S (u S).1)(S:PS):Xr L S (I8 u L S).1:=OB hL (KD hL h) _ _ _
theorem Hh{u:PS→PR}(h: ∀S,Xr L S (u S).1): ∀k S,Xr L S (YH u L k S).1
 |0,S=>FJ hL h S
 |k+1,S=>by
  rw[YH]
  split
  ·exact((FJ hL h S).trans (Qu hL _)).trans (Hh h k _)
  ·exact FJ hL h S
theorem KB{u:PS→PR}(h: ∀S,Xr L S (u S).1)(S:PS)(d:Nat):Xr L S (U5 u L S d).1:=by
 unfold U5
 split
 ·exact QX _ _
 ·exact(QX S d).trans (OB hL (Hh hL h _) _ _ _)
theorem O8: ∀f S d,Xr L S (U1 L f S d).1
 |0,S,d=>Xr.refl _ _
 |f+1,S,d=>by
  have hE:=QX (L:=L) S d;have hN:=hE.trans (Qu hL _);have hf:=fun S=>O8 f S (d+1);rw[U1]
  split
  ·exact hE
  split
  ·exact hN.trans (hf _)
  split
  ·exact((hN.trans (Jk hL _)).trans (JO hL _ _)).trans (KB hL hf _ _)
  split
  ·exact hN
  split
  ·exact(hN.trans (KB hL hf _ _)).trans (JO hL _ _)
  ·exact hE.trans (yu hL _)
theorem YC(f:Nat)(S:PS)(d:Nat):Xr L S (Qs L f S d).1:=KB hL (fun S=>O8 hL f S d) S d
theorem I6(k:Int): ∀f S l,Xr L S (YI L k f S l).1
 |0,S,l=>Xr.refl _ _
 |f+1,S,l=>by
  rw[YI]
  split
  ·exact Xr.refl _ _
  split
  ·exact((Jk hL S).trans (Qu hL _)).trans (I6 k f _ _)
  ·exact(Jk hL S).trans (JO hL _ _)
theorem KC(S:PS):Xr L S (UT L S).1:=(Qu hL S).trans (I6 hL _ _ _ _)
theorem Hg(S:PS)(n:Nat):Xr L S (Eg L S n):=by
 have h:Xr L S (Qb L (if QD L S [118,97,114]<0 then Qy S (Qd L S).a 2 else S)):=by
  split
  ·exact(JI _ _ _).trans (Qu hL _)
  ·exact Qu hL _
 unfold Eg;simp only
 split
 ·exact h.trans (JI _ _ _)
 ·exact h
theorem LB: ∀f S l,Xr L S (YL L f S l).1
 |0,S,l=>Xr.refl _ _
 |f+1,S,l=>by
  rw[YL]
  split
  ·exact Xr.refl _ _
  split
  ·exact(((Hg hL S _).trans (Jk hL _)).trans (Qu hL _)).trans (LB f _ _)
  ·exact((Hg hL S _).trans (Jk hL _)).trans (JO hL _ _)
theorem Ec(S:PS):Xr L S (Uq L S).1:=by
 unfold Uq;split
 ·exact Qu hL S
 ·exact LB hL _ _ _
theorem Pv(S:PS):Xr L S (JW L S).1:=by
 unfold JW;exact((((((Qu hL S).trans (Jk hL _)).trans (JO hL _ _)).trans (Ec hL _)).trans (JO hL _ _)).trans (YC hL _ _ _)).trans (JO hL _ _)
end
end
section
variable {R:Xh} {a z:Int} {c:Nat} {k:Nd} {kk:AV} {o s:List Nat}

def Tk.cells(t:Tk):List AV:=[.int .i64 t.k,.str t.s,.int .i64 t.n,.int .i64 t.a]
abbrev Wt(kl:AV)(S:PS):List AV:=[kl,.int .i64 (S.i:Nat),.int .i64 S.e,.int .i64 S.a]
structure Y2(L:List Tk):Prop where
 t:xr L
 b: ∀t∈L,Bytes t.s
 n:L.length≤100000
theorem PD{L:List Tk}{i:Nat}{t:Tk}(h:L[i]? =some t):(L.map Tk.cells)[i]? =some t.cells:=by rw[List.getElem?_map,h];rfl
theorem vc{L:List Tk}{S:PS}{t:Tk}(he:S.e=0)(h:L[S.i]? =some t):Qd L S=t:=by rw[Qd,if_neg (by simp[he]),h];rfl
theorem LR{L:List Tk}{S:PS}(he: ¬S.e=0):Qd L S=DN:=by rw[Qd,if_pos he]
theorem Qk{L:List Tk}(h:Y2 L)(S:PS):Bytes (Qd L S).s:=by
 unfold Qd
 split
 ·intro x hx;cases hx
 ·cases hq:L[S.i]? with
  |none=>intro x hx;cases hx
  |some t=>exact h.b t (List.mem_of_getElem? hq)
theorem Qf{L:List Tk}(h:Y2 L)(S:PS):Bytes (QG L S).s:=by
 unfold QG
 split
 ·intro x hx;cases hx
 ·exact Qk h S
abbrev R0:Xh:=fun _ _ _=>False
section
variable {h0:Hp} {n0:Nat} {X:List Nat} {st st':St} {M L A B:JJ}
theorem Mem.Jd(h:Mem h0 n0 X st M){k m m':Nat}{l l':List AV}(hk:M[k]? =some (c,m,l))(q:Ad [c] st st')(r:Jj st'.h.get c m' l')(s:P3 st.n st' A):Mem h0 n0 X st' (M.set k (c,m',l')++(A++[])):=by
 have hm0:=List.mem_of_getElem? hk;have h1:=h.J8 hk q r;rw[List.append_nil];refine h.SR q (fun c' hc=>?_) ?_ fun c1 m1 l1 hm=>?_
 ·rw[List.mem_singleton]at hc;subst hc;exact⟨m,l,hm0⟩
 ·rw[List.map_append];refine List.nodup_append.2 ⟨h1.nodup,s.nodup,fun x hx y hy e=>?_⟩;subst e;obtain⟨⟨c1,m1,l1⟩,h2,rfl⟩:=List.mem_map.1 hx;obtain⟨⟨c2,m2,l2⟩,h3,e⟩:=List.mem_map.1 hy;have e:c2=c1:=e;subst e
  have hlt:c2<st.n:=by
   rcases List.mem_or_eq_of_mem_set h2 with h4|h4
   ·exact h.lt _ _ _ h4
   ·injection h4 with h4 _
    rw[h4];exact h.lt _ _ _ hm0
  have:=s.own _ _ _ h3;omega
 ·rcases List.mem_append.1 hm with hm|hm
  ·by_cases hc:c1=c
   ·subst hc;exact .inr ⟨h1.row _ _ _ hm,.inl ⟨m,l,hm0⟩⟩
   ·refine .inl ⟨?_,by simpa using hc⟩;obtain⟨i,hi⟩:=List.getElem?_of_mem hm;rw[List.getElem?_set]at hi
    by_cases hki:k=i
    ·subst hki;have:=(List.getElem?_eq_some_iff.1 hk).1;simp[this]at hi;exact absurd hi.1.symm hc
    ·rw[if_neg hki]at hi;exact List.mem_of_getElem? hi
  ·exact .inr ⟨s.row _ _ _ hm,.inr (s.own _ _ _ hm)⟩
theorem Mem.Un{st0:St}{m k:Nat}{l:List AV}(h:Mem st0.h.get st0.n [c] st' M)(hk:M[k]? =some (c,m,l))(hs:A.Sublist (M.eraseIdx k)):P3 st0.n st' A:=by
 have hsub:(M.eraseIdx k).Sublist M:=List.eraseIdx_sublist ..;refine⟨fun c' m' l' hm=>h.row c' m' l' (hsub.subset (hs.subset hm)),fun c' m' l' hm=>?_,h.nodup.sublist ((hs.trans hsub).map _)⟩;refine(h.own c' m' l' (hsub.subset (hs.subset hm))).resolve_right fun hc=>?_;rw[List.mem_singleton]at hc;subst hc;obtain⟨i,hi⟩:=List.getElem?_of_mem (hs.subset hm);rw[List.getElem?_eraseIdx]at hi
 have key: ∀j,M[j]? =some (c',m',l')→j=k:=fun j hj=>by
  have h1:(M.map Prod.fst)[j]? =some c':=by rw[List.getElem?_map,hj];rfl
  have h2:(M.map Prod.fst)[k]? =some c':=by rw[List.getElem?_map,hk];rfl
  exact(List.getElem?_inj (List.getElem?_eq_some_iff.1 h1).1 h.nodup).1 (h1.trans h2.symm)
 split at hi
 ·have:=key _ hi;omega
 ·have:=key _ hi;omega
end
theorem GO{A:JJ}{ks:List Nd}{ls:List (List AV)}(hr:(c,0,ls.flatten)∈A)(hl:ls.length=ks.length)(hn:ks.length≤1000000)(hz: ∀cs∈ls,cs.length=5)(hk: ∀(i:Nat) (k:Nd) (cs:List AV),ks[i]? =some k→ls[i]? =some cs→Uo (JX R0 A) k cs)(hb:Bytes o∧Bytes s):
  Uo (JX R0 A) (.mk o s z a ks) [.str o,.str s,.int .i64 z,.int .i64 a,.sl c 0 0 ks.length 5]:=by
 refine .node (.inr hr) Qh (by rw[Zs hz,hl];omega) (fun i k hi=>?_) hb
 have hlt:i<ls.length:=by rw[hl];exact(List.getElem?_eq_some_iff.1 hi).1
 have h1:=ER i _ hz (List.getElem?_eq_getElem hlt);rw[Nat.zero_add,h1];exact hk i k _ hi (List.getElem?_eq_getElem hlt)
theorem node1{A:JJ}{kc:List AV}(hr:(c,0,kc)∈A)(hk:Uo (JX R0 A) k kc)(hb:Bytes o∧Bytes s):Uo (JX R0 A) (.mk o s z a [k]) [.str o,.str s,.int .i64 z,.int .i64 a,.sl c 0 0 1 5]:=by
 refine GO (ks:=[k]) (ls:=[kc]) (by simpa using hr) rfl Q3 (by intro cs h;rw[List.mem_singleton]at h;rw[h];exact hk.jV) (fun i k' cs h1 h2=>?_) hb
 match i,h1,h2 with
 |0,h1,h2=>injection h1 with h1;injection h2 with h2;subst h1 h2;exact hk
theorem node2{A:JJ}{j:Nd}{kc jc:List AV}(hr:(c,0,kc++jc)∈A)(hk:Uo (JX R0 A) k kc)(hj:Uo (JX R0 A) j jc)(hb:Bytes o∧Bytes s):Uo (JX R0 A) (.mk o s z a [k,j]) [.str o,.str s,.int .i64 z,.int .i64 a,.sl c 0 0 2 5]:=by
 refine GO (ks:=[k,j]) (ls:=[kc,jc]) (by simpa using hr) rfl Q3 (by intro cs h;rcases List.mem_cons.1 h with h|h;rw[h];exact hk.jV;rw[List.mem_singleton]at h;rw[h];exact hj.jV) (fun i k' cs h1 h2=>?_) hb
 match i,h1,h2 with
 |0,h1,h2=>injection h1 with h1;injection h2 with h2;subst h1 h2;exact hk
 |1,h1,h2=>injection h1 with h1;injection h2 with h2;subst h1 h2;exact hj
theorem Ya(hb:Bytes o∧Bytes s):Uo R (.mk o s z a []) [.str o,.str s,.int .i64 z,.int .i64 a,.nils]:=.leaf rfl rfl hb
theorem Ql:Bytes []:=fun x h=>by cases h
theorem Uo.JK{a b c d:AV}(r:Uo R k [a,b,c,d,kk]):Jl kk=true:=by cases k;exact r.cell
def w8:Nd→Nat
 |.mk _ _ _ _ l=>l.length
theorem Uo.OM{a b c d:AV}(r:Uo R k [a,b,c,d,kk]):XI kk=some (w8 k):=by
 obtain⟨o,s,z,at_,l⟩:=k;obtain⟨kk',ls,e,K,_⟩:=r.Jn
 injection e with _ e
 injection e with _ e
 injection e with _ e
 injection e with _ e
 injection e with e _
 subst e;exact K.len
theorem Uo.shape(r:Uo R k [.str o,.str s,.int .i64 z,.int .i64 a,kk]): ∃l,k=.mk o s z a l:=by
 obtain⟨o1,s1,z1,a1,l⟩:=k;obtain⟨kk',ls,e,K,_⟩:=r.Jn
 injection e with e1 e
 injection e with e2 e
 injection e with e3 e
 injection e with e4 e
 injection e1 with e1
 injection e2 with e2
 injection e3 with _ e3
 injection e4 with _ e4
 subst e1 e2 e3 e4;exact⟨l,rfl⟩
theorem JG.of{st st':St}{A:JJ}(r:Uo (JX R A) k [.str o,.str s,.int .i64 z,.int .i64 a,kk])(h:P3 st.n st' A):JG R st st' k (.agg [.str o,.str s,.int .i64 z,.int .i64 a,kk]):=by
 obtain⟨l,rfl⟩:=r.shape;exact⟨_,_,_,_,_,_,A,rfl,rfl,h,r⟩
def Gn(st st':St)(l:List Nd)(v:AV):Prop:= ∃lsn A B,Acc st.n 5 A v lsn∧lsn.length=l.length∧Xp (JX R0 B) (fun k=>k) l lsn∧P3 st.n st' (A++B)
theorem Gn.kids{st st':St}{l:List Nd}{v:AV}(h:Gn st st' l v): ∃ls A,UO (JX R0 A) l v ls∧P3 st.n st' A:=by
 obtain⟨lsn,A,B,h1,h2,h3,h4⟩:=h;refine⟨lsn,A++B,?_,h4⟩;have:=h3.kids h2 h1;rw[List.map_id']at this
 exact this.mono fun c m l h=>by
  rcases h with(h|h)|h
  ·exact h.elim
  ·exact .inr (List.mem_append_right _ h)
  ·exact .inr (List.mem_append_left _ h)
end
section
set_option maxHeartbeats 8000000
variable {cp:Nat} {kl:AV} {st:St}

theorem Y6(hf:Qw st){L:List Tk}(hL:QS st.h.get [cp] 4 (L.map Tk.cells) kl)(hO:Y2 L){S:PS}(hr:Jj st.h.get cp 0 (Wt kl S))(hi:S.i<L.length): ∃v st',Ev Tryz.prog QR 25 [.ptr cp 0 0] st v st'∧v=.agg (Qd L S).cells∧Qt st st':=by
 have hLn:=hO.n;refine Yu Tryz.func25 Tryz.ntmps25 fun T K=>?_;have M:=Mem.start hf;refine au 4 K M ?_;intro c2 _ _ K _ M;refine p1 K (QW rfl (Yh (M.AQ Q3 hr.YQ) (Qj QH rfl))) fun _ K=>?_;refine Qc 1 K M fun _ K=>?_;refine C5 K rfl (fun h7=>?_) fun h7=>?_
 ·refine au 2 K M ?_;intro _ _ K _ M;refine Qc 0 K M ?_;refine⟨?_,M.qt⟩;rw[LR h7];rfl
 refine Qc 0 K M fun _ K=>?_;refine Ja (l:=[(0,0),(1,0),(2,0),(3,0),(4,0),(5,0),(6,0),(7,0),(8,0),(9,0),(10,0)]) (by kernel_rfl) ?_;refine Ui 3 K M fun _ K=>?_;refine q1 rfl K (QW rfl (Yh (M.AQ Q3 hr.YQ) (Qj Ff rfl))) fun _ K=>?_;refine Ui 3 K M fun _ K=>?_;refine q1 rfl K (QW rfl (Yh (M.AQ Q3 hr.YQ) (Qj QH rfl))) fun _ K=>?_;obtain⟨t17,hi17⟩: ∃x,L[S.i]? =some x:=⟨_,List.getElem?_eq_getElem (by first|omega|exact hi|exact hat (by simp_all))⟩;refine aq rfl rfl (QS.mem M hL Q3) (PD hi17) K ZS U2 rfl rfl fun _ _ _ _ K=>?_;refine JL (k:=0) rfl K M rfl rfl rfl Ai rfl rfl rfl fun _ M=>?_;refine Ji ?_;show W _ _ _ _ _ _ _;refine Qc 0 K M ?_;refine⟨?_,M.qt⟩;rw[vc h7 hi17];rfl

theorem Zr(hf:Qw st){L:List Tk}(hL:QS st.h.get [cp] 4 (L.map Tk.cells) kl)(hO:Y2 L){S:PS}(hr:Jj st.h.get cp 0 (Wt kl S))(hi:S.i<L.length)(w:List Nat): ∃v st',Ev Tryz.prog QR 19 [.ptr cp 0 0,.str w] st v st'∧v=.bool (Yv L S w)∧Qt st st':=by
 have hLn:=hO.n;refine Yu Tryz.func19 Tryz.ntmps19 fun T K=>?_;have M:=Mem.start hf;refine Qc 2 K M fun _ K=>?_;refine oQ K M (Y6 M.fresh (QS.mem M hL Q3) hO (Jj.Us hf (M.qt.Us []) hr Q3) hi) rfl rfl fun _ _ K M=>?_;refine au 5 K M ?_;intro c5 _ _ K _ M;refine Eh K rfl (fun _ e11 K=>?_) fun _ e11 K=>?_
 ·refine Qc 6 K M ?_;refine⟨?_,M.qt⟩;unfold Yv
  first|rfl|(simp_all [Qp];done)
 refine Qc 6 K M ?_;refine⟨?_,M.qt⟩;unfold Yv
 first|rfl|(simp_all [Qp];done)

theorem UG(hf:Qw st){S:PS}(hr:Jj st.h.get cp 0 (Wt kl S))(at_ e:Int): ∃v st',Ev Tryz.prog QR 26 [.ptr cp 0 0,iZ at_,iZ e] st v st'∧v=.tup []∧Ad [cp] st st'∧Jj st'.h.get cp 0 (Wt kl (Qy S at_ e)):=by
 refine Yu Tryz.func26 Tryz.ntmps26 fun T K=>?_;have M:=Mem.UP hf hr;refine Qc 5 K M fun _ K=>?_;refine Xj K rfl (fun h10=>?_) fun h10=>?_
 ·refine au 10 K M ?_;intro _ _ K _ M;refine⟨.inl rfl,_,Fq,?_⟩;refine⟨rfl,M.Us,?_⟩;rw[show Qy S at_ e=⟨S.i,e,at_⟩from if_pos h10];exact M.Qn (k:=0) rfl
 refine JM ?_;refine⟨.inl rfl,_,Fq,?_⟩;refine⟨rfl,M.Us,?_⟩;rw[show Qy S at_ e=S from if_neg h10];exact M.Qn (k:=0) rfl

theorem Uh(hf:Qw st){L:List Tk}(hL:QS st.h.get [cp] 4 (L.map Tk.cells) kl)(hO:Y2 L){S:PS}(hr:Jj st.h.get cp 0 (Wt kl S))(hi:S.i<L.length): ∃v st',Ev Tryz.prog QR 43 [.ptr cp 0 0] st v st'∧v=.agg (Qd L S).cells∧Ad [cp] st st'∧Jj st'.h.get cp 0 (Wt kl (Qb L S)):=by
 have hLn:=hO.n;refine Yu Tryz.func43 Tryz.ntmps43 fun T K=>?_;have M:=Mem.UP hf hr;refine au 2 K M ?_;intro c2 _ _ K _ M;refine oQ K M (Y6 M.fresh (QS.mem M hL Q3) hO (M.Qn (k:=1) rfl) hi) rfl rfl fun _ _ K M=>?_;refine au 7 K M ?_;intro c3 _ _ K _ M;refine Eh K rfl (fun _ e11 K=>?_) fun _ e11 K=>?_
 ·refine au 7 K M ?_;intro _ _ K _ M;refine Qc 0 K M ?_;refine⟨rfl,M.Us,?_⟩;rw[show Qb L S=S from if_neg (fun h=>e11 h.1)];exact M.Qn (k:=2) rfl
 refine Qc 4 K M fun _ K=>?_;refine C5 K rfl (fun h15=>?_) fun h15=>?_
 ·refine au 10 K M ?_;intro _ _ K _ M;refine Qc 0 K M ?_;refine⟨rfl,M.Us,?_⟩;rw[show Qb L S=⟨S.i+1,S.e,S.a⟩from if_pos ⟨e11,h15⟩];exact M.Qn (k:=2) rfl
 refine au 2 K M ?_;intro _ _ K _ M;refine Qc 0 K M ?_;refine⟨rfl,M.Us,?_⟩;rw[show Qb L S=S from if_neg (fun h=>h.2 h15)];exact M.Qn (k:=2) rfl

theorem Zg(hf:Qw st){L:List Tk}(hL:QS st.h.get [cp] 4 (L.map Tk.cells) kl)(hO:Y2 L){S:PS}(hr:Jj st.h.get cp 0 (Wt kl S))(hi:S.i<L.length)(w:List Nat): ∃v st',Ev Tryz.prog QR 46 [.ptr cp 0 0,.str w] st v st'∧v=.bool (Yv L S w)∧Ad [cp] st st'∧Jj st'.h.get cp 0 (Wt kl (Qr L S w)):=by
 have hLn:=hO.n;refine Yu Tryz.func46 Tryz.ntmps46 fun T K=>?_;have M:=Mem.UP hf hr;refine Qc 3 K M fun _ K=>?_;refine oQ K M (Zr M.fresh (QS.mem M hL Q3) hO (M.Qn (k:=0) rfl) hi w) rfl rfl fun _ _ K M=>?_;refine Qc 1 K M fun _ K=>?_;refine JU K rfl (fun h8=>?_) fun h8=>?_
 ·have hb8:=h8
  replace h8:(Yv L S w)=false:=by simpa using h8
  refine Qc 1 K M ?_;refine⟨(by simp_all),M.Us,?_⟩;rw[show Qr L S w=S from(by unfold Qr;simp_all)];exact M.Qn (k:=0) rfl
 have hb8:=h8
 replace h8:(Yv L S w)=true:=by simpa using h8
 refine Qc 1 K M fun _ K=>?_;refine oR 0 K M (Uh M.fresh (QS.mem M hL Q3) hO (M.Qn (k:=0) rfl) hi) rfl rfl rfl fun _ _ K M=>?_;refine Qc 1 K M ?_;refine⟨(by simp_all),M.Us,?_⟩;rw[show Qr L S w=(Qb L S)from(by unfold Qr;simp_all)];exact M.Qn (k:=0) rfl

theorem Y9(hf:Qw st){L:List Tk}(hL:QS st.h.get [cp] 4 (L.map Tk.cells) kl)(hO:Y2 L){S:PS}(hr:Jj st.h.get cp 0 (Wt kl S))(hi:S.i<L.length)(w:List Nat): ∃v st',Ev Tryz.prog QR 24 [.ptr cp 0 0,.str w] st v st'∧v=.tup []∧Ad [cp] st st'∧Jj st'.h.get cp 0 (Wt kl (Q6 L S w)):=by
 have hLn:=hO.n;refine Yu Tryz.func24 Tryz.ntmps24 fun T K=>?_;have M:=Mem.UP hf hr;refine Qc 2 K M fun _ K=>?_;refine oR 0 K M (Zg M.fresh (QS.mem M hL Q3) hO (M.Qn (k:=0) rfl) hi w) rfl rfl rfl fun _ _ K M=>?_;refine Qc 1 K M fun _ K=>?_;refine JU K rfl (fun h7=>?_) fun h7=>?_
 ·have hb7:=h7
  replace h7:(Yv L S w)=false:=by simpa using h7
  refine Qc 2 K M fun _ K=>?_;refine oQ K M (Y6 M.fresh (QS.mem M hL Q3) hO (M.Qn (k:=0) rfl) ((QQ hO.t _ _).2 hi)) rfl rfl fun _ _ K M=>?_;refine p1 K (Yy rfl ((U0 _).trans (Qj QH rfl))) fun _ K=>?_;refine oR 0 K M (UG M.fresh (M.Qn (k:=0) rfl) ((Qd L (Qr L S w)).a) 2) rfl rfl rfl fun _ _ K M=>?_;refine Y5 ?_;refine⟨.inl rfl,_,Fq,?_⟩;refine⟨rfl,M.Us,?_⟩;rw[show Q6 L S w=(Qy (Qr L S w) ((Qd L (Qr L S w)).a) 2)from(by unfold Q6;simp_all [Qr])];exact M.Qn (k:=0) rfl
 have hb7:=h7
 replace h7:(Yv L S w)=true:=by simpa using h7
 refine JM ?_;refine⟨.inl rfl,_,Fq,?_⟩;refine⟨rfl,M.Us,?_⟩;rw[show Q6 L S w=(Qr L S w)from(by unfold Q6;simp_all [Qr])];exact M.Qn (k:=0) rfl

theorem Ep(hf:Qw st){L:List Tk}(hL:QS st.h.get [cp] 4 (L.map Tk.cells) kl)(hO:Y2 L){S:PS}(hr:Jj st.h.get cp 0 (Wt kl S))(hi:S.i<L.length): ∃v st',Ev Tryz.prog QR 44 [.ptr cp 0 0] st v st'∧v=.agg (QG L S).cells∧Ad [cp] st st'∧Jj st'.h.get cp 0 (Wt kl (QK L S)):=by
 have hLn:=hO.n;refine Yu Tryz.func44 Tryz.ntmps44 fun T K=>?_;have M:=Mem.UP hf hr;refine au 2 K M ?_;intro c2 _ _ K _ M;refine oQ K M (Y6 M.fresh (QS.mem M hL Q3) hO (M.Qn (k:=1) rfl) hi) rfl rfl fun _ _ K M=>?_;refine p1 K (Yy rfl ((WO _).trans (Qj QH rfl))) fun _ K=>?_;refine Qc 1 K M fun _ K=>?_;refine C5 K rfl (fun h6=>?_) fun h6=>?_
 ·refine Qc 2 K M fun _ K=>?_;refine oQ K M (Y6 M.fresh (QS.mem M hL Q3) hO (M.Qn (k:=1) rfl) hi) rfl rfl fun _ _ K M=>?_;refine p1 K (Yy rfl ((U0 _).trans (Qj QH rfl))) fun _ K=>?_;refine oR 1 K M (UG M.fresh (M.Qn (k:=1) rfl) ((Qd L S).a) 2) rfl rfl rfl fun _ _ K M=>?_;refine au 2 K M ?_;intro _ _ K _ M;refine Qc 0 K M ?_;refine⟨(by unfold QG;simp_all [Tk.cells,vd]),M.Us,?_⟩;rw[show QK L S=(Qy S ((Qd L S).a) 2)from(by unfold QK;simp_all)];exact M.Qn (k:=1) rfl
 refine Qc 1 K M fun _ K=>?_;refine oR 1 K M (Uh M.fresh (QS.mem M hL Q3) hO (M.Qn (k:=1) rfl) hi) rfl rfl rfl fun _ _ K M=>?_;refine au 1 K M ?_;intro _ _ K _ M;refine Qc 0 K M ?_;refine⟨(by unfold QG;simp_all [Tk.cells,vd]),M.Us,?_⟩;rw[show QK L S=(Qb L S)from(by unfold QK;simp_all)];exact M.Qn (k:=1) rfl

theorem IQ(hf:Qw st){L:List Tk}(hL:QS st.h.get [cp] 4 (L.map Tk.cells) kl)(hO:Y2 L){S:PS}(hr:Jj st.h.get cp 0 (Wt kl S))(hi:S.i<L.length)(s:List Nat)(hs:s.length≤1000): ∃v st',Ev Tryz.prog QR 20 [.ptr cp 0 0,.str s] st v st'∧v=iZ (QD L S s)∧Qt st st':=by
 have hLn:=hO.n;refine Yu Tryz.func20 Tryz.ntmps20 fun T K=>?_;have M:=Mem.start hf;refine Qc 2 K M fun _ K=>?_;refine Uc ?_;refine Qc 2 K M fun _ K=>?_;refine JU K rfl (fun h7=>?_) fun h7=>?_
 ·have hb7:=h7;replace h7:=of_decide_eq_true h7;refine Qc 4 K M fun _ K=>?_;refine p1 K (IV YO Ey rfl) fun _ K=>?_;refine au 1 K M ?_;intro c15 _ _ K _ M;refine p1 K (Wv ZB YO Up rfl (Jj.YQ (M.Qn (k:=0) rfl)) (by first|decide|omega)) fun _ K=>p1 K (UW rfl rfl (by first|omega|(simp only[List.length_append,List.length_cons,List.length_nil];omega))) fun _ K=>?_;obtain⟨v18,st18,ev18,rfl,q18⟩:=Zr M.fresh (QS.mem M hL Q3) hO (Jj.Us hf (M.qt.Us []) hr Q3) hi (s++[48]);refine p1 K (Qe rfl ev18) fun _ K=>?_;replace M:=M.quiet q18;refine Qc 0 K M fun _ K=>?_;refine JU K rfl (fun h18=>?_) fun h18=>?_
  ·have hb18:=h18;refine Qc 2 K M ?_;refine⟨?_,M.qt⟩;unfold QD
   simp_all
  have hb18:=h18;refine Qc 3 K M fun _ K=>?_;refine Uc ?_;refine Qc 2 K M fun _ K=>?_;refine JU K rfl (fun h7=>?_) fun h7=>?_
  ·have hb7:=h7;replace h7:=of_decide_eq_true h7;refine Qc 4 K M fun _ K=>?_;refine p1 K (IV YO Ey rfl) fun _ K=>?_;refine au 1 K M ?_;intro c15 _ _ K _ M;refine p1 K (Wv ZB YO Up rfl (Jj.YQ (M.Qn (k:=0) rfl)) (by first|decide|omega)) fun _ K=>p1 K (UW rfl rfl (by first|omega|(simp only[List.length_append,List.length_cons,List.length_nil];omega))) fun _ K=>?_;obtain⟨v18,st18,ev18,rfl,q18⟩:=Zr M.fresh (QS.mem M hL Q3) hO (Jj.Us hf (M.qt.Us []) hr Q3) hi (s++[49]);refine p1 K (Qe rfl ev18) fun _ K=>?_;replace M:=M.quiet q18;refine Qc 0 K M fun _ K=>?_;refine JU K rfl (fun h18=>?_) fun h18=>?_
   ·have hb18:=h18;refine Qc 2 K M ?_;refine⟨?_,M.qt⟩;unfold QD
    simp_all
   have hb18:=h18;refine Qc 3 K M fun _ K=>?_;refine Uc ?_;refine Qc 2 K M fun _ K=>?_;refine JU K rfl (fun h7=>?_) fun h7=>?_
   ·have hb7:=h7;replace h7:=of_decide_eq_true h7;refine Qc 4 K M fun _ K=>?_;refine p1 K (IV YO Ey rfl) fun _ K=>?_;refine au 1 K M ?_;intro c15 _ _ K _ M;refine p1 K (Wv ZB YO Up rfl (Jj.YQ (M.Qn (k:=0) rfl)) (by first|decide|omega)) fun _ K=>p1 K (UW rfl rfl (by first|omega|(simp only[List.length_append,List.length_cons,List.length_nil];omega))) fun _ K=>?_;obtain⟨v18,st18,ev18,rfl,q18⟩:=Zr M.fresh (QS.mem M hL Q3) hO (Jj.Us hf (M.qt.Us []) hr Q3) hi (s++[50]);refine p1 K (Qe rfl ev18) fun _ K=>?_;replace M:=M.quiet q18;refine Qc 0 K M fun _ K=>?_;refine JU K rfl (fun h18=>?_) fun h18=>?_
    ·have hb18:=h18;refine Qc 2 K M ?_;refine⟨?_,M.qt⟩;unfold QD
     simp_all
    have hb18:=h18;refine Qc 3 K M fun _ K=>?_;refine Uc ?_;refine Qc 2 K M fun _ K=>?_;refine JU K rfl (fun h7=>?_) fun h7=>?_
    ·have hb7:=h7;replace h7:=of_decide_eq_true h7
     exfalso;omega
    have hb7:=h7;replace h7:=of_decide_eq_false h7;refine Jx ?_;show W _ _ _ _ _ _ _;refine Qc 1 K M ?_;refine⟨?_,M.qt⟩;unfold QD
    simp_all
   have hb7:=h7;replace h7:=of_decide_eq_false h7
   exfalso;omega
  have hb7:=h7;replace h7:=of_decide_eq_false h7
  exfalso;omega
 have hb7:=h7;replace h7:=of_decide_eq_false h7
 exfalso;omega
end
end Go.Proofs.YtaomhhkflohhgaaGreatDoor
