/-
  A call on what was handed in, at the world's level: it changes no block that was there.
-/
import Derived.Test.YthjgndgnmkiaiaaGreatDoorZpSy2
import Derived.Test.YthjgndgnmkiaiaaGreatDoorProg
set_option maxRecDepth 100000
set_option linter.unusedVariables false
namespace Go.Proofs.YthjgndgnmkiaiaaGreatDoor
open Go Go.RowKit
section

def Gc(p:Jy):Jy:=fun c m=>if c=0 then p 0 m else none
section
variable {W w0 w:World} {p:Jy} {h:Hp} {ml:A9}
theorem eu(hM:Xn W ml){m e vs:Nat}{l:List AV}(hm:(ml.map fun x=>(x.2.length,x.1.d,some x.2))[m]? =some (e,vs,some l)){j:Nat}{v:AV}(hj:l[j]? =some v):WF (Vq ml) v:=by
 have A:VD W.heap.size (Oe ml) (Vq ml) W 0 true (ml.map fun x=>(x.2.length,x.1.d,some x.2)):=hM.hr.cls 0 (Lg ml) rfl;obtain⟨q,arr,el,_,_,_,_,_,d6⟩:=A.mem m e vs (some l) hm;exact((d6 l rfl).2 j v hj).2.1
theorem HR.ot(H:HR w0 p h w)(hM:Xn W ml)(h0:h 0=some (Lg ml)):HR w (Gc p) (Vq ml) w:=by
 have hle:Jy.le (Gc p) p:=fun c m x hx=>by
  unfold Gc at hx
  split at hx
  ·rename_i hc;rw[hc];exact hx
  ·cases hx
 have hcov:Ci (Gc p) (Vq ml):=fun c C hC m hm=>by
  unfold Vq at hC
  split at hC
  ·rename_i hc;subst hc
   injection hC with hC
   subst hC;exact H.Ed 0 _ h0 m hm
  ·cases hC
 refine⟨rfl,rfl,rfl,Nat.le_refl _,fun _ _=>rfl,fun c m x hx=>?_,fun c m x hx=>H.lt c m x (hle c m x hx),fun c m x c' m' x' hx hx' hb=>H.apart c m x c' m' x' (hle _ _ _ hx) (hle _ _ _ hx') hb,fun c C hC=>?_⟩
 ·have hc:c=0:=by
   unfold Gc at hx
   split at hx
   ·assumption
   ·cases hx
  subst hc;obtain⟨C,h1,h2⟩:=H.dom 0 m x (hle 0 m x hx);rw[h0]at h1
  injection h1 with h1
  subst h1;exact⟨_,rfl,h2⟩
 ·unfold Vq at hC
  split at hC
  ·rename_i hc;subst hc
   injection hC with hC
   subst hC;have A:VD w0.heap.size p h w 0 true (ml.map fun x=>(x.2.length,x.1.d,some x.2)):=H.cls 0 _ h0;refine(⟨fun m e vs cs he=>?_,fun m e vs cs m' e' vs' cs' q q' a1 a2 a3 a4 a5=>A.same m e vs cs m' e' vs' cs' q q' a1 a2 (hle 0 m q a3) (hle 0 m' q' a4) a5⟩:VD w.heap.size (Gc p) (Vq ml) w 0 true (ml.map fun x=>(x.2.length,x.1.d,some x.2)));obtain⟨q,arr,el,d1,d2,d3,d4,d5,d6⟩:=A.mem m e vs cs he;refine⟨q,arr,el,d1,d2,d3,d4,fun x=>(by cases x),fun l hl=>⟨(d6 l hl).1,fun j v hj=>?_⟩⟩;subst hl;have hw:=eu hM he hj;obtain⟨k1,_,k3⟩:=(d6 l rfl).2 j v hj;exact⟨by rw[k1,UQ hcov hle v hw],hw,k3⟩
  ·cases hC
theorem vh(H:HR w0 p h w)(h0:h 0=some (Lg ml)){v:AV}(hv:WF (Vq ml) v):Qe (Gc p) v=Qe p v:=by
 have hle:Jy.le (Gc p) p:=fun c m x hx=>by
  unfold Gc at hx
  split at hx
  ·rename_i hc;rw[hc];exact hx
  ·cases hx
 have hcov:Ci (Gc p) (Vq ml):=fun c C hC m hm=>by
  unfold Vq at hC
  split at hC
  ·rename_i hc;subst hc
   injection hC with hC
   subst hC;exact H.Ed 0 _ h0 m hm
  ·cases hC
 exact(UQ hcov hle v hv).symm
end
theorem RK{P:Program}{G:Env}{w w1:World}{q:Jy}{ml:A9}{f:FuncId}{args:List AV}{s:List Nat}{st':St}(hE:WT P G)(hm:P.follows .mixedOrders=true)(hG:KF w q G)(H:HR w q (Vq ml) w)(ha:YN (Vq ml) args)
  (hev:Ev P G f args (stM ml) (.str s) st') (hb:Below w.heap.size w w1):Calls P f (Qn q args).toArray w1 fun e w'=>e=.returned (.string (bytesOf s))∧Below w1.heap.size w1 w':=by
 obtain⟨L,n,hev⟩:=hev;have H1:HR w q (Vq ml) w1:=(H.Zy hb).hr;obtain⟨_,hc⟩:=(Kt (Km hm) hE L n f args (stM ml) (.str s) st' hev (Em ml) (by rw[WL];exact ha)).2 w q w1 (by rw[WL];exact H1) hG;refine hc.mono fun e w' hp=>?_;obtain⟨p',rfl,S,_⟩:=hp;refine⟨rfl,S.hr.os.trans H1.os.symm,S.hr.tape.trans H1.tape.symm,S.hr.output.trans H1.output.symm,S.fr.size,fun b hb1=>?_⟩
 by_cases hbw:b<w.heap.size
 ·exact(S.hr.old b hbw).trans (H1.old b hbw).symm
 ·exact S.fr.keep b hb1 fun c m x hx e=>by have:=H.lt c m x hx;omega
end
section

def iq:AV→Bool
 |.sl _ _ _ _ _=>false
 |_=>true
theorem Hs{ks:AV}{n:Nat}(h:VN ks=some n):QI ks=true:=by
 cases ks<;>first|rfl|cases h
abbrev KC:=Nat→Nat→List AV→Prop
abbrev YO:=List (Nat×Nat×List AV)
def aL(R:KC)(h:Hp):Prop:= ∀c m l,R c m l→Va h c m l
def Y0(R:KC)(A:YO):KC:=fun c m l=>R c m l∨(c,m,l)∈A
theorem QD{R R':KC}{A A':YO}(h: ∀c m l,R c m l→R' c m l)(hA: ∀x∈A,x∈A'): ∀c m l,Y0 R A c m l→Y0 R' A' c m l:=fun c m l h'=>h'.elim (fun x=>.inl (h _ _ _ x)) fun x=>.inr (hA _ x)
end
section

inductive Nd where
 |mk (op name:List Nat) (n at_:Int) (kids:List Nd)
def Nd.kids:Nd→List Nd
 |.mk _ _ _ _ l=>l
inductive XW(h:Hp):Nd→List AV→Prop
 |leaf {op name:List Nat} {n at_:Int} {ks:AV} (hs:VN ks=some 0) (ha:iq ks=true) (hb:Bytes op∧Bytes name):XW h (.mk op name n at_ []) [.str op,.str name,.int .i64 n,.int .i64 at_,ks]
 |node {op name:List Nat} {n at_:Int} {kids:List Nd} {c m off:Nat} {cells:List AV} (hr:Va h c m cells) (hn:(kids.length:Int)≤9223372036854775807) (hl:off+kids.length *5≤cells.length)
  (hk: ∀(i:Nat) (k:Nd),kids[i]? =some k→XW h k ((cells.drop (off+i *5)).take 5)) (hb:Bytes op∧Bytes name):XW h (.mk op name n at_ kids) [.str op,.str name,.int .i64 n,.int .i64 at_,.sl c m off kids.length 5]
theorem XW.mono{h h':Hp}(hl:Hk h h'){t:Nd}{cs:List AV}(r:XW h t cs):XW h' t cs:=by
 induction r with
 |leaf hs ha hb=>exact .leaf hs ha hb
 |node hr hn hl' hk hb ih=>exact .node (hl _ _ _ hr) hn hl' ih hb
structure oY(P:Program)(tn:TypeId)(h:Hp)(kids:List Nd)(ks:AV):Prop where
 len:VN ks=some kids.length
 W9:(kids.length:Int)≤9223372036854775807
 cell:QI ks=true
 at_: ∀(i:Nat) (k:Nd),kids[i]? =some k→ ∃c m off cs,ks=.sl c m off kids.length 5∧JB P tn (.ptr c m (off+i *5)) h=some (.agg cs)∧XW h k cs
theorem XW.open_{P:Program}{tn:TypeId}(ht:tk P tn=.agg 5){h:Hp}{op name:List Nat}{n at_:Int}{kids:List Nd}{cs:List AV}(r:XW h (.mk op name n at_ kids) cs):
  ∃ks,cs=[.str op,.str name,.int .i64 n,.int .i64 at_,ks]∧oY P tn h kids ks:=by
 cases r with
 |leaf hs ha hb=>exact⟨_,rfl,hs,by simp,Hs hs,fun i k hk=>by simp at hk⟩
 |node hr hn hl hk hb=>
  rename_i c m off cells;refine⟨_,rfl,rfl,hn,rfl,fun i k hki=>⟨c,m,off,_,rfl,?_,hk i k hki⟩⟩;obtain⟨ro,e,vs,ms,h1,h2⟩:=hr;have hlt:=(List.getElem?_eq_some_iff.1 hki).1;show ob (rowOf h c m) _=_;unfold rowOf;rw[h1,Q6];show ob (ob (nth ms m) _) _=_;rw[Yo,h2];show Ve P tn cells (off+i *5)=_;unfold Ve;rw[ht];show WK 5 (EA (off+i *5) cells) (fun r=>some (AV.agg r))=_
  have htk: ∀(n:Nat) (l:List AV) (k:List AV→Option AV),n≤l.length→WK n l k=k (l.take n):=by
   intro n
   induction n with
   |zero=>intro l k _;rfl
   |succ n ih=>
    intro l k hl
    cases l with
    |nil=>simp at hl
    |cons a l=>exact ih l _ (by simpa using hl)
  rw[htk,Uo];rw[Uo,List.length_drop]
  have:i *5+5≤kids.length *5:=by omega
  omega
theorem Mem.rows{h0:Hp}{n0:Nat}{st:St}{M:List (Nat×Nat×List AV)}(hM:Mem h0 n0 [] st M):Hk h0 st.h.get:=by
 rintro c m l ⟨ro,e,vs,ms,h1,h2⟩
 have hc:c<n0:=Nat.lt_of_not_le fun hle=>by rw[hM.base c hle]at h1;cases h1
 exact⟨ro,e,vs,ms,by rw[hM.old c hc Q1];exact h1,h2⟩
mutual
def Un:Nd→Nd→Bool
 |.mk op name n _ kids,.mk op' name' n' _ kids'=>decide (op=op')&&(decide (name=name')&&(decide (n=n')&&Yd kids kids'))
def Yd:List Nd→List Nd→Bool
 |[],[]=>true
 |a::l,b::r=>Un a b&&Yd l r
 |_,_=>false
end
mutual
def YT:Nd→Nat
 |.mk _ _ _ _ kids=>WC kids+1
def WC:List Nd→Nat
 |[]=>0
 |a::l=>YT a+WC l
end
theorem F5{k:Nd}{l:List Nd}(h:k∈l):YT k≤WC l:=by
 induction l with
 |nil=>cases h
 |cons a l ih=>
  rw[WC];rcases List.mem_cons.1 h with e|h
  ·rw[e];omega
  ·have:=ih h;omega
theorem H4{M:Nd→Prop}(h: ∀op name n at_ kids,(∀k,k∈kids→M k)→M (.mk op name n at_ kids))(k:Nd):M k:=by
 have: ∀n k,YT k≤n→M k:=by
  intro n
  induction n with
  |zero=>intro k hk;cases k;rw[YT]at hk;omega
  |succ n ih=>
   intro k hk
   cases k with
   |mk op name z at_ kids=>
    rw[YT]at hk;exact h _ _ _ _ _ fun k hm=>ih k (by have:=F5 hm;omega)
 exact this _ k (Nat.le_refl _)

theorem o6:tk Tryz.prog 26=.agg 5:=by kernel_rfl
theorem kH:Tryz.prog.underlying 24=some (.slice 26):=by kernel_rfl
end
section

structure Dc where
 name:List Nat
 order:Int
 at_:Int
def Dc.cells(d:Dc):List AV:=[.str d.name,.int .i64 d.order,.int .i64 d.at_]
def Bm(a b:Dc):Bool:=decide (a.name=b.name)&&decide (a.order=b.order)
def Z0:List Dc→List Dc→Bool
 |[],[]=>true
 |a::l,b::r=>Bm a b&&Z0 l r
 |_,_=>false
theorem nE:Tryz.prog.underlying 22=some (.slice 55):=by kernel_rfl
structure Pd where
 name:List Nat
 params:List Dc
 body:Nd
 at_:Int
def Mu(a b:Pd):Bool:=decide (a.name=b.name)&&(Z0 a.params b.params&&Un a.body b.body)
theorem nC:Tryz.prog.underlying 23=some (.slice 31):=by kernel_rfl
def Wj:List Pd→List Pd→Bool
 |[],[]=>true
 |a::l,b::r=>Mu a b&&Wj l r
 |_,_=>false
structure Pg where
 decls:List Dc
 preds:List Pd
 main:Nd
def NP(a b:Pg):Bool:=Z0 a.decls b.decls&&(Wj a.preds b.preds&&Un a.main b.main)
end
section

structure Tk where
 k:Int
 s:List Nat
 n:Int
 a:Int
def LL:Tk:=⟨4,[],0,0⟩
def zG:Tk:=⟨0,[],0,0⟩
structure PS where
 i:Nat
 e:Int
 a:Int
def jB:Nd:=.mk [] [] 0 0 []
def Qc(L:List Tk)(S:PS):Tk:=if S.e≠0 then LL else(L[S.i]?).getD LL
def JO(L:List Tk)(S:PS)(w:List Nat):Bool:=decide ((Qc L S).k=3)&&decide ((Qc L S).s=w)
def Qd(L:List Tk)(S:PS):PS:=if S.e=0∧(Qc L S).k≠4 then⟨S.i+1,S.e,S.a⟩else S
def QJ(S:PS)(a e:Int):PS:=if S.e=0 then⟨S.i,e,a⟩else S
def Qf(L:List Tk)(S:PS)(w:List Nat):PS:=if JO L S w=true then Qd L S else S
def Q2(L:List Tk)(S:PS)(w:List Nat):PS:=if JO L S w=true then Qd L S else QJ S (Qc L S).a 2
def QF(L:List Tk)(S:PS):PS:=if(Qc L S).k≠1 then QJ S (Qc L S).a 2 else Qd L S
def Jq(L:List Tk)(S:PS):Tk:=if(Qc L S).k≠1 then zG else Qc L S
def Qw(L:List Tk)(S:PS)(s:List Nat):Int:=if JO L S (s++[48])=true then 0 else if JO L S (s++[49])=true then 1 else if JO L S (s++[50])=true then 2 else-1
abbrev PR:=PS×Nd
def AL (el : PS → PR) (L : List Tk) (w : List Nat) : Nat → PS → List Nd → PS × List Nd
  | 0, S, l => (S, l)
  | k + 1, S, l => if S.e ≠ 0 then (S, l) else if l.length = 6 then (QJ S (Qc L S).a 2, l)
    else if JO L (el S).1 [44] = true then AL el L w k (Qd L (el S).1) (l ++ [(el S).2]) else (Q2 L (el S).1 w, l ++ [(el S).2])
def XL(el:PS→PR)(L:List Tk)(w:List Nat)(S:PS):PS×List Nd:=if JO L S w=true then(Qd L S,[])else AL el L w 7 S []
def N5(L:List Tk)(S:PS):PR:=
 if JO L (Qd L S) [43]=true then
  (if(Qc L (Qd L (Qd L S))).k≠2∨(Qc L (Qd L (Qd L S))).n=0 then(QJ (Qd L (Qd L S)) (Qc L (Qd L (Qd L S))).a 2,.mk [118,97,114] (Qc L S).s 0 (Qc L S).a [])
  else(Qd L (Qd L (Qd L S)),.mk [112,108,117,115] [] (Qc L (Qd L (Qd L S))).n (Qc L S).a [.mk [118,97,114] (Qc L S).s 0 (Qc L S).a []]))
 else(Qd L S,.mk [118,97,114] (Qc L S).s 0 (Qc L S).a [])
def U6(L:List Tk)(S:PS):PR:=
 if(Qc L S).k=1 then N5 L S
 else if(Qc L S).k=2 then(Qd L S,.mk [110,117,109] [] (Qc L S).n (Qc L S).a [])
 else(QJ S (Qc L S).a 2,jB)
def QX(L:List Tk)(S:PS):PR:=
 if(Qc L S).k=1 then N5 L S
 else if(Qc L S).k=2 then(Qd L S,.mk [110,117,109] [] (Qc L S).n (Qc L S).a [])
 else if JO L S [123]=true then((XL (U6 L) L [125] (Qd L S)).1,.mk [115,101,116] [] 0 (Qc L S).a (XL (U6 L) L [125] (Qd L S)).2)
 else(QJ S (Qc L S).a 2,jB)
def CO(L:List Tk)(S:PS):Option (List Nat):=
 if JO L S [117,110,105,111,110]=true then some (Qc L S).s else if JO L S [105,110,116,101,114]=true then some (Qc L S).s
 else if JO L S [92]=true then some [109,105,110,117,115]else none
def Xa(L:List Tk):Nat→PS→Nd→PR
 |0,S,n=>(S,n)
 |k+1,S,n=>if S.e≠0 then(S,n)else match CO L S with
  |none=>(S,n)
  |some op=>Xa L k (QX L (Qd L S)).1 (.mk op [] 0 (Qc L S).a [n,(QX L (Qd L S)).2])
def Qi(L:List Tk)(S:PS):PR:=Xa L L.length (QX L S).1 (QX L S).2
def Vk(L:List Tk)(S:PS):List Nat:=
 if JO L S [61]=true then [101,113]else if JO L S [126,61]=true then [110,101]else if JO L S [60]=true then [108,116]else if JO L S [60,61]=true then [108,101]
 else if JO L S [105,110]=true then [105,110]else if JO L S [110,111,116,105,110]=true then [110,111,116,105,110]else if JO L S [115,117,98]=true then [115,117,98]else []
def Y3(L:List Tk)(S:PS):Bool:=decide ((Qc L S).k=1)&&(decide (((L[S.i+1]?).getD LL).k=3)&&decide (((L[S.i+1]?).getD LL).s=[40]))
def jE:Nd→List Nat
 |.mk o _ _ _ _=>o
def Ov:Nd→List Nat
 |.mk _ s _ _ _=>s
def Uj(L:List Tk)(S:PS):PR:=
 if Y3 L S=true then((XL (Qi L) L [41] (Qd L (Qd L S))).1,.mk [99,97,108,108] (Qc L S).s 0 (Qc L S).a (XL (Qi L) L [41] (Qd L (Qd L S))).2)
 else if(Qi L S).1.e=0∧Vk L (Qi L S).1≠[]then((Qi L (Qd L (Qi L S).1)).1,.mk (Vk L (Qi L S).1) [] 0 (Qc L (Qi L S).1).a [(Qi L S).2,(Qi L (Qd L (Qi L S).1)).2])
 else(if jE (Qi L S).2≠[118,97,114]then QJ (Qi L S).1 (Qc L S).a 2 else(Qi L S).1,.mk [105,115] (Ov (Qi L S).2) 0 (Qc L S).a [])
def Qb(L:List Tk)(S:PS)(d:Nat):PS:=if 30≤d then QJ S (Qc L S).a 4 else S
def XQ(part:PS→PR)(op w:List Nat)(L:List Tk):Nat→PS→Nd→PR
 |0,S,n=>(S,n)
 |k+1,S,n=>if JO L S w=true then XQ part op w L k (part (Qd L S)).1 (.mk op [] 0 (Qc L S).a [n,(part (Qd L S)).2])else(S,n)
def ZY(part:PS→PR)(op w:List Nat)(L:List Tk)(S:PS):PR:=XQ part op w L L.length (part S).1 (part S).2
def Ky(u:PS→PR)(L:List Tk):PS→PR:=ZY u [97,110,100] [38] L
def Wn(u:PS→PR)(L:List Tk):PS→PR:=ZY (Ky u L) [111,114] [124] L
def U0(u:PS→PR)(L:List Tk):Nat→PS→PR
 |0,S=>Wn u L S
 |k+1,S=>if JO L (Wn u L S).1 [61,62]=true then((U0 u L k (Qd L (Wn u L S).1)).1,.mk [105,109,112] [] 0 (Qc L (Wn u L S).1).a [(Wn u L S).2,(U0 u L k (Qd L (Wn u L S).1)).2])else Wn u L S
def U8(u:PS→PR)(L:List Tk)(S:PS)(d:Nat):PR:=
 if(Qb L S d).e≠0 then(Qb L S d,jB)else ZY (U0 u L L.length) [105,102,102] [60,61,62] L (Qb L S d)
def Uk(L:List Tk):Nat→PS→Nat→PR
 |0,S,_=>(S,jB)
 |f+1,S,d=>
  if(Qb L S d).e≠0 then(Qb L S d,jB)
  else if JO L (Qb L S d) [126]=true then((Uk L f (Qd L (Qb L S d)) (d+1)).1,.mk [110,111,116] [] 0 (Qc L (Qb L S d)).a [(Uk L f (Qd L (Qb L S d)) (d+1)).2])
  else if 0≤Qw L (Qb L S d) [101,120]∨0≤Qw L (Qb L S d) [97,108,108]then
   ((U8 (fun S=>Uk L f S (d+1)) L (Q2 L (QF L (Qd L (Qb L S d))) [58]) (d+1)).1,
    .mk (if Qw L (Qb L S d) [101,120]<0 then [97,108,108]else [101,120]) (Jq L (Qd L (Qb L S d))).s (if Qw L (Qb L S d) [101,120]<0 then Qw L (Qb L S d) [97,108,108]else Qw L (Qb L S d) [101,120]) (Qc L (Qb L S d)).a
     [(U8 (fun S=>Uk L f S (d+1)) L (Q2 L (QF L (Qd L (Qb L S d))) [58]) (d+1)).2])
  else if JO L (Qb L S d) [116,114,117,101]=true∨JO L (Qb L S d) [102,97,108,115,101]=true then(Qd L (Qb L S d),.mk (Qc L (Qb L S d)).s [] 0 (Qc L (Qb L S d)).a [])
  else if JO L (Qb L S d) [40]=true then(Q2 L (U8 (fun S=>Uk L f S (d+1)) L (Qd L (Qb L S d)) (d+1)).1 [41],(U8 (fun S=>Uk L f S (d+1)) L (Qd L (Qb L S d)) (d+1)).2)
  else Uj L (Qb L S d)
def Je(L:List Tk)(f:Nat)(S:PS)(d:Nat):PR:=U8 (fun S=>Uk L f S d) L S d
def YZ(L:List Tk)(k:Int):Nat→PS→List Dc→PS×List Dc
 |0,S,l=>(S,l)
 |f+1,S,l=>if S.e≠0 then(S,l)else if JO L (QF L S) [44]=true then YZ L k f (Qd L (QF L S)) (l++[⟨(Jq L S).s,k,(Jq L S).a⟩])else(Q2 L (QF L S) [59],l++[⟨(Jq L S).s,k,(Jq L S).a⟩])
def Zs(L:List Tk)(S:PS):PS×List Dc:=YZ L (Qw L S [118,97,114]) (L.length+1) (Qd L S) []
def JY(L:List Tk)(S:PS)(n:Nat):PS:=
 let S1:=Qd L (if Qw L S [118,97,114]<0 then QJ S (Qc L S).a 2 else S)
 if n=6 then QJ S1 (Qc L S1).a 2 else S1
def Yn (L : List Tk) : Nat → PS → List Dc → PS × List Dc
  | 0, S, l => (S, l)
  | f + 1, S, l => if S.e ≠ 0 then (S, l)
    else if JO L (QF L (JY L S l.length)) [44] = true then Yn L f (Qd L (QF L (JY L S l.length))) (l ++ [⟨(Jq L (JY L S l.length)).s, Qw L S [118, 97, 114], (Jq L (JY L S l.length)).a⟩])
    else (Q2 L (QF L (JY L S l.length)) [41], l ++ [⟨(Jq L (JY L S l.length)).s, Qw L S [118, 97, 114], (Jq L (JY L S l.length)).a⟩])
def YB(L:List Tk)(S:PS):PS×List Dc:=if JO L S [41]=true then(Qd L S,[])else Yn L (L.length+1) S []
def UN(L:List Tk)(S:PS):PS×Pd:=
 let S1:=Qd L S
 let P:=YB L (Q2 L (QF L S1) [40])
 let B:=Je L L.length (Q2 L P.1 [61]) 0
 (Q2 L B.1 [59],⟨(Jq L S1).s,P.2,B.2,(Jq L S1).a⟩)
def JS (L : List Tk) : Nat → PS → List Dc → List Pd → PS × List Dc × List Pd
  | 0, S, ds, ps => (S, ds, ps)
  | f + 1, S, ds, ps => if S.e ≠ 0 then (S, ds, ps) else if JO L S [112, 114, 101, 100] = true then JS L f (UN L S).1 ds (ps ++ [(UN L S).2])
    else if 0 ≤ Qw L S [118, 97, 114] then JS L f (Zs L S).1 (ds ++ (Zs L S).2) ps else (S, ds, ps)
def ZF(L:List Tk):PS×Pg:=
 let G:=JS L (L.length+1) ⟨0,0,0⟩ [] []
 let B:=Je L L.length G.1 0
 let S:=Q2 L B.1 [59]
 (if(Qc L S).k≠4 then QJ S (Qc L S).a 2 else S,⟨G.2.1,G.2.2,B.2⟩)

def qp(L:List Tk):Prop:= ∀j t,L[j]? =some t→t.k≠4→j+1<L.length
def Z3(L:List Tk)(S S':PS):Prop:=S.i≤S'.i∧(S.i<L.length→S'.i<L.length)
theorem Z3.refl(L:List Tk)(S:PS):Z3 L S S:=⟨Nat.le_refl _,id⟩
theorem Z3.trans{L:List Tk}{a b c:PS}(x:Z3 L a b)(y:Z3 L b c):Z3 L a c:=⟨Nat.le_trans x.1 y.1,fun h=>y.2 (x.2 h)⟩
section
variable {L:List Tk} (hL:qp L)
theorem CQ{S:PS}(he:S.e=0)(hi:S.i<L.length):L[S.i]? =some (Qc L S):=by
 rw[Qc,if_neg (by simp[he]),List.getElem?_eq_getElem hi];rfl
theorem Yb(S:PS)(a e:Int):Z3 L S (QJ S a e):=by unfold QJ;split<;>exact Z3.refl _ _
include hL
theorem QG(S:PS):Z3 L S (Qd L S):=by
 unfold Qd
 split
 ·rename_i h;refine⟨Nat.le_succ _,fun hi=>hL S.i _ (CQ h.1 hi) h.2⟩
 ·exact Z3.refl _ _
omit hL in
theorem wU{S:PS}(h:(Qc L S).k≠4)(he:S.e=0):S.i<(Qd L S).i:=by
 rw[Qd,if_pos ⟨he,h⟩];exact Nat.lt_succ_self _
theorem J2(S:PS)(w:List Nat):Z3 L S (Qf L S w):=by unfold Qf;split;exact QG hL S;exact Z3.refl _ _
theorem J8(S:PS)(w:List Nat):Z3 L S (Q2 L S w):=by unfold Q2;split;exact QG hL S;exact Yb _ _ _
theorem Ug(S:PS):Z3 L S (QF L S):=by unfold QF;split;exact Yb _ _ _;exact QG hL S
theorem Cd{el:PS→PR}(h: ∀S,Z3 L S (el S).1)(w:List Nat): ∀k S l,Z3 L S (AL el L w k S l).1
 |0,S,l=>Z3.refl _ _
 |k+1,S,l=>by
  rw[AL]
  split
  ·exact Z3.refl _ _
  split
  ·exact Yb _ _ _
  split
  ·exact((h S).trans (QG hL _)).trans (Cd h w k _ _)
  ·exact(h S).trans (J8 hL _ _)
theorem qm{el:PS→PR}(h: ∀S,Z3 L S (el S).1)(w:List Nat)(S:PS):Z3 L S (XL el L w S).1:=by
 unfold XL;split
 ·exact QG hL S
 ·exact Cd hL h w _ _ _
theorem ql(S:PS):Z3 L S (N5 L S).1:=by
 have h1:=QG hL S;have h2:=h1.trans (QG hL (Qd L S));unfold N5
 split
 ·split
  ·exact h2.trans (Yb _ _ _)
  ·exact h2.trans (QG hL _)
 ·exact h1
theorem Ce(S:PS):Z3 L S (U6 L S).1:=by
 unfold U6
 split
 ·exact ql hL S
 split
 ·exact QG hL S
 ·exact Yb _ _ _
theorem Fx(S:PS):Z3 L S (QX L S).1:=by
 unfold QX
 split
 ·exact ql hL S
 split
 ·exact QG hL S
 split
 ·exact(QG hL S).trans (qm hL (Ce hL) _ _)
 ·exact Yb _ _ _
theorem Gr: ∀k S n,Z3 L S (Xa L k S n).1
 |0,S,n=>Z3.refl _ _
 |k+1,S,n=>by
  rw[Xa]
  split
  ·exact Z3.refl _ _
  split
  ·exact Z3.refl _ _
  ·exact((QG hL S).trans (Fx hL _)).trans (Gr k _ _)
theorem Zt(S:PS):Z3 L S (Qi L S).1:=(Fx hL S).trans (Gr hL _ _ _)
theorem vG(S:PS):Z3 L S (Uj L S).1:=by
 unfold Uj
 split
 ·exact((QG hL S).trans (QG hL _)).trans (qm hL (Zt hL) _ _)
 split
 ·exact((Zt hL S).trans (QG hL _)).trans (Zt hL _)
 ·show Z3 L S (if _ then _ else _)
  split
  ·exact(Zt hL S).trans (Yb _ _ _)
  ·exact Zt hL S
omit hL in
theorem JE(S:PS)(d:Nat):Z3 L S (Qb L S d):=by unfold Qb;split;exact Yb _ _ _;exact Z3.refl _ _
theorem Gt{p:PS→PR}(h: ∀S,Z3 L S (p S).1)(op w:List Nat): ∀k S n,Z3 L S (XQ p op w L k S n).1
 |0,S,n=>Z3.refl _ _
 |k+1,S,n=>by
  rw[XQ]
  split
  ·exact((QG hL S).trans (h _)).trans (Gt h op w k _ _)
  ·exact Z3.refl _ _
theorem Gu{p:PS→PR}(h: ∀S,Z3 L S (p S).1)(op w:List Nat)(S:PS):Z3 L S (ZY p op w L S).1:=(h S).trans (Gt hL h op w _ _ _)
theorem qn{u:PS→PR}(h: ∀S,Z3 L S (u S).1)(S:PS):Z3 L S (Ky u L S).1:=Gu hL h _ _ _
theorem As{u:PS→PR}(h: ∀S,Z3 L S (u S).1)(S:PS):Z3 L S (Wn u L S).1:=Gu hL (qn hL h) _ _ _
theorem FP{u:PS→PR}(h: ∀S,Z3 L S (u S).1): ∀k S,Z3 L S (U0 u L k S).1
 |0,S=>As hL h S
 |k+1,S=>by
  rw[U0]
  split
  ·exact((As hL h S).trans (QG hL _)).trans (FP h k _)
  ·exact As hL h S
theorem KA{u:PS→PR}(h: ∀S,Z3 L S (u S).1)(S:PS)(d:Nat):Z3 L S (U8 u L S d).1:=by
 unfold U8
 split
 ·exact JE _ _
 ·exact(JE S d).trans (Gu hL (FP hL h _) _ _ _)
theorem Gq: ∀f S d,Z3 L S (Uk L f S d).1
 |0,S,d=>Z3.refl _ _
 |f+1,S,d=>by
  have hE:=JE (L:=L) S d;have hN:=hE.trans (QG hL _);have hf:=fun S=>Gq f S (d+1);rw[Uk]
  split
  ·exact hE
  split
  ·exact hN.trans (hf _)
  split
  ·exact((hN.trans (Ug hL _)).trans (J8 hL _ _)).trans (KA hL hf _ _)
  split
  ·exact hN
  split
  ·exact(hN.trans (KA hL hf _ _)).trans (J8 hL _ _)
  ·exact hE.trans (vG hL _)
theorem XA(f:Nat)(S:PS)(d:Nat):Z3 L S (Je L f S d).1:=KA hL (fun S=>Gq hL f S d) S d
theorem Au(k:Int): ∀f S l,Z3 L S (YZ L k f S l).1
 |0,S,l=>Z3.refl _ _
 |f+1,S,l=>by
  rw[YZ]
  split
  ·exact Z3.refl _ _
  split
  ·exact((Ug hL S).trans (QG hL _)).trans (Au k f _ _)
  ·exact(Ug hL S).trans (J8 hL _ _)
theorem vF(S:PS):Z3 L S (Zs L S).1:=(QG hL S).trans (Au hL _ _ _ _)
theorem FM(S:PS)(n:Nat):Z3 L S (JY L S n):=by
 have h:Z3 L S (Qd L (if Qw L S [118,97,114]<0 then QJ S (Qc L S).a 2 else S)):=by
  split
  ·exact(Yb _ _ _).trans (QG hL _)
  ·exact QG hL _
 unfold JY;simp only
 split
 ·exact h.trans (Yb _ _ _)
 ·exact h
theorem LS: ∀f S l,Z3 L S (Yn L f S l).1
 |0,S,l=>Z3.refl _ _
 |f+1,S,l=>by
  rw[Yn]
  split
  ·exact Z3.refl _ _
  split
  ·exact(((FM hL S _).trans (Ug hL _)).trans (QG hL _)).trans (LS f _ _)
  ·exact((FM hL S _).trans (Ug hL _)).trans (J8 hL _ _)
theorem Gs(S:PS):Z3 L S (YB L S).1:=by
 unfold YB;split
 ·exact QG hL S
 ·exact LS hL _ _ _
end
end
end Go.Proofs.YthjgndgnmkiaiaaGreatDoor
