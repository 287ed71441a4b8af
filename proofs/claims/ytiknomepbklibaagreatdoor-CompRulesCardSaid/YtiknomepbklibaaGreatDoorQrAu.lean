/-
  Rows of numbers that calls make; sets in memory; a map's entries.
-/
import Derived.Test.YtiknomepbklibaaGreatDoorQrArr
set_option maxRecDepth 100000
set_option linter.unusedSectionVars false
set_option linter.unusedVariables false
section
namespace Go.Proofs.YtiknomepbklibaaGreatDoor
open Go Go.RowKit
variable {c m:Nat}

abbrev UA:=List (Nat×Nat×List AV)
theorem GK(l:List Int):(zC l).flatten=l.map Hc:=by
 induction l with
 |nil=>rfl
 |cons z l ih=>rw[zC,List.map_cons,List.flatten_cons];show AV.int .i64 z::(zC l).flatten=_;rw[ih];rfl
inductive Ay(n0:Nat):UA→AV→List Int→Prop
 |none:Ay n0 [] .nils []
 |own {c m:Nat} {l:List Int} {rest:List AV} (hc:n0≤c) (hb:l.length≤1000000000):Ay n0 [(c,m,l.map Hc++rest)] (.sl c m 0 l.length 1) l
theorem Ay.cell{n0:Nat}{A:UA}{ks:AV}{l:List Int}(h:Ay n0 A ks l):Qu ks=true:=by cases h<;>rfl
theorem zn{h:Hp}{l:List Int}{rest:List AV}(r:Q4 h c m (l.map Hc++rest))(hb:l.length≤1000000000):Jk h [] 1 (zC l) (.sl c m 0 l.length 1):=by
 refine⟨by rw[Qn];rfl,by rw[Qn];omega,rfl,fun i cs hi=>?_,fun c' m' off n z' e=>?_⟩
 ·have hlt:=(List.getElem?_eq_some_iff.1 hi).1;rw[Qn]at hlt;rw[Jt (List.getElem?_eq_getElem hlt)]at hi
  injection hi with hi
  subst hi;refine⟨c,m,0,_,by rw[Qn],by simp,r.Jf,rfl,?_⟩
  have e1:(l.map Hc++rest)[i]? =some (Hc l[i]):=by
   rw[List.getElem?_append_left (by rw[List.length_map];exact hlt),List.getElem?_map,List.getElem?_eq_getElem hlt];rfl
  obtain⟨hi2,e2⟩:=List.getElem?_eq_some_iff.1 e1;rw[Nat.zero_add,Nat.mul_one,List.drop_eq_getElem_cons hi2,e2];rfl
 ·injection e with e1 e2 e3 e4 e5
  subst e1 e2 e3 e4 e5;exact⟨by simp,_,r.Jf,by simp⟩
section
variable {h0:Hp} {n0:Nat} {X:List Nat} {st st':St} {M L A B:UA} {ks:AV} {l:List Int}
theorem Mem.xA(hM:Mem h0 n0 X st (L++(A++B))){n1:Nat}(hA:Ay n1 A ks l):Jk st.h.get [] 1 (zC l) ks:=by
 cases hA with
 |none=>exact .nil _ _ _
 |own hc hb=>
  rename_i c m rest;exact zn (hM.row c m (l.map Hc++rest) QA) hb
theorem Mem.PM(hM:Mem h0 n0 X st (L++((A++B)))){x:List AV}(h:(c,m,x)∈A):Q4 st.h.get c m x:=hM.row c m x (by simp[h])
theorem Mem.uT{x x':List AV}(hM:Mem h0 n0 X st (L++((c,m,x)::B)))(q:x9 [c] st st')(hr:Q4 st'.h.get c m x'):Mem h0 n0 X st' (L++((c,m,x')::B)):=by
 have hp:(L++(c,m,x)::B).Perm ((c,m,x)::(L++B)):=List.perm_middle;have h1:=hM.perm hp;have h2:=h1.uW (k:=0) rfl q hr;exact Mem.perm (h2.cast (by rfl)) (List.perm_middle (l₁:=L) (l₂:=B) (a:=(c,m,x'))).symm
end
theorem Za(l:List Int):(XO l).length=l.length:=List.length_mergeSort _
theorem MU(l:List Int):(Aj l).length=l.length:=by
 have:=Zg l;simp[Aj];omega
theorem Zb{α:Type}{l:List α}(h:l.length=0):l=[]:=List.length_eq_zero_iff.1 h
section
variable {h0:Hp} {n0:Nat} {X:List Nat} {st:St} {L A B:UA} {ks:AV} {l:List Int}
theorem OX(hM:Mem h0 n0 X st (L++(A++B)))(hA:Acc n0 1 A ks (zC l))(hb1:l.length≤1000000):
  ∃v st' A',Ev Tryz.prog Q5 66 [ks] st v st'∧v=.tup []∧Mem h0 n0 X st' (L++(A'++B))∧Acc n0 1 A' ks (zC (XO l)):=by
 have hb:=hA.E0;rw[Qn]at hb;have h00:XO []=[]:=Zb (Za []);generalize hg:zC l=ls at hA
 cases hA with
 |none=>
  have hl:l=[]:=Zb (by have h:=congrArg List.length hg;rw[Qn]at h;exact h);subst hl;exact⟨_,st,[],Kj (V0:=fun _=>.tup []) (F:=XO) (V:=LA) rfl hM.fresh,rfl,hM,by rw[h00];exact .none⟩
 |own hc hz hb'=>
  rename_i c m;subst hg
  by_cases hl:l=[]
  ·subst hl;exact⟨_,st,_,Ki (V0:=fun _=>.tup []) (F:=XO) (V:=LA) rfl hM.fresh c m,rfl,hM,by rw[h00];exact .own hc hz hb'⟩
  ·have hrow:Q4 st.h.get c m (zC l).flatten:=hM.PM (A:=[(c,m,(zC l).flatten)]) QA
   have hs:XR (zC l).flatten=some l:=by rw[GK];exact Ee l
   obtain⟨v,st',h1,h2,h3,h4⟩:=N5 (F:=XO) (V:=LA) (V0:=fun _=>.tup []) (G:=Q5) (P:=Tryz.prog) (f:=66) rfl hM.fresh hrow hs hl hb1 (Za _);rw[←GK]at h3;refine⟨v,st',[(c,m,(zC (XO l)).flatten)],?_,h2,Mem.uT (L:=L) (B:=B) hM h4 h3,?_⟩
   ·rw[Qn];exact h1
   ·have:=Acc.own (m:=m) (ls:=zC (XO l)) hc (Fz _) (by rw[Qn,Za];exact hb);rw[Qn,Za]at this;rw[Qn];exact this
theorem G6(hM:Mem h0 n0 X st (L++(A++B)))(hA:Acc n0 1 A ks (zC l))(hb1:l.length≤1000000):
  ∃v st' A',Ev Tryz.prog Q5 67 [ks] st v st'∧Ay n0 A' v (Lib.compact l)∧Mem h0 n0 X st' (L++(A'++B)):=by
 have hb:=hA.E0;rw[Qn]at hb;have h00:Lib.compact ([]:List Int)=[]:=Zb (Nat.le_zero.1 (Zg []));generalize hg:zC l=ls at hA
 cases hA with
 |none=>
  have hl:l=[]:=Zb (by have h:=congrArg List.length hg;rw[Qn]at h;exact h);subst hl;exact⟨.nils,st,[],Kj (V0:=id) (F:=Aj) (V:=Em) rfl hM.fresh,by rw[h00];exact .none,hM⟩
 |own hc hz hb'=>
  rename_i c m;subst hg
  by_cases hl:l=[]
  ·subst hl;refine⟨.sl c m 0 0 1,st,_,Ki (V0:=id) (F:=Aj) (V:=Em) rfl hM.fresh c m,?_,hM⟩;rw[h00];exact .own (l:=[]) (rest:=[]) hc QA
  ·have hrow:Q4 st.h.get c m (zC l).flatten:=hM.PM (A:=[(c,m,(zC l).flatten)]) QA
   have hs:XR (zC l).flatten=some l:=by rw[GK];exact Ee l
   obtain⟨v,st',h1,rfl,h3,h4⟩:=N5 (F:=Aj) (V:=Em) (V0:=id) (G:=Q5) (P:=Tryz.prog) (f:=67) rfl hM.fresh hrow hs hl hb1 (MU l);refine⟨Em c m l,st',[(c,m,(Aj l).map Hc)],?_,?_,Mem.uT (L:=L) (B:=B) hM h4 h3⟩
   ·rw[Qn];exact h1
   ·rw[Aj,List.map_append];exact .own hc (Nat.le_trans (Zg l) hb)
theorem SW(hM:Mem h0 n0 X st (L++(A++B))){n1:Nat}(hA:Ay n1 A ks l)(hi:Vm l)(hb1:l.length≤1000000):
  ∃v st',Ev Tryz.prog Q5 87 [ks] st v st'∧v=.str (Zm l)∧Qt st st':=by
 have hq:Qt st st:=⟨hM.fresh,Nat.le_refl _,fun _ _=>rfl⟩
 cases hA with
 |none=>exact⟨.str [],st,⟨0,1,rfl⟩,rfl,hq⟩
 |own hc hb=>
  rename_i c m rest;obtain⟨vs,ms,h1,h2⟩:=hM.PM (A:=[(c,m,l.map Hc++rest)]) (c:=c) (m:=m) (x:=l.map Hc++rest) QA;have hall:l.all eH=true:=List.all_eq_true.2 fun z hz=>Ry.2 (hi z hz);refine⟨.str (Zm l),st,⟨0,1,?_⟩,rfl,hq⟩;show Ik [.sl c m 0 l.length 1] st=_;unfold Ik;simp only[h1,h2]
  have ht:(l.map Hc++rest).take l.length=l.map Hc:=by
   rw[List.take_append_of_le_length QA,List.take_of_length_le QA]
  rw[ht,Ee];simp only[];rw[if_pos ⟨trivial,hb1,hall⟩,Lg hall]
end
end Go.Proofs.YtiknomepbklibaaGreatDoor
end
section
namespace Go.Proofs.YtiknomepbklibaaGreatDoor
open Go Go.RowKit
variable {c:Nat} {h:Hp} {ks:AV} {vs:List AV}

theorem Jk.frame{h':Hp}{z:Nat}{ls:List (List AV)}{v:AV}(r:Jk h [] z ls v)(e: ∀c m o n y,v=.sl c m o n y→h' c=h c):Jk h' [] z ls v:=
 ⟨r.len,r.E0,r.cell,fun i cs hi=>by
  obtain⟨c,m,off,cells,h1,h2,⟨ro,e1,vs,ms,h3,h4⟩,h5⟩:=r.at_ i cs hi
  exact⟨c,m,off,cells,h1,h2,⟨ro,e1,vs,ms,by rw[e c m off _ _ h1];exact h3,h4⟩,h5⟩,fun c m off n z' e'=>by
  obtain⟨h1,cells,⟨ro,e1,vs,ms,h3,h4⟩,h5⟩:=r.alive c m off n z' e'
  exact⟨h1,cells,⟨ro,e1,vs,ms,by rw[e c m off n z' e'];exact h3,h4⟩,h5⟩⟩
theorem Q4.frame{h':Hp}{m:Nat}{l:List AV}(r:Q4 h c m l)(e:h' c=h c):Q4 h' c m l:=by
 obtain⟨vs,ms,h1,h2⟩:=r;exact⟨vs,ms,by rw[e];exact h1,h2⟩
theorem Q4.SI{m c':Nat}{l:List AV}{es:List (AV×AV×Nat)}{k:Nat}(r:Q4 h c m l)(hm:h c'=some (.map es k)):c≠c':=by
 rintro rfl
 obtain⟨vs,ms,h1,_⟩:=r;rw[h1]at hm;cases hm
inductive YS:UA→AV→List AV→Prop
 |none:YS [] .nils []
 |own {c m:Nat} {vs:List AV} (hb:vs.length≤1000000000):YS [(c,m,vs)] (.sl c m 0 vs.length 1) vs
theorem YS.len{A:UA}(h:YS A ks vs):YB ks=some vs.length:=by cases h<;>rfl
theorem YS.cell{A:UA}(h:YS A ks vs):Qu ks=true:=by cases h<;>rfl
theorem YS.rd{A:UA}(h:YS A ks vs){hp:Hp}(hr: ∀c m l,(c,m,l)∈A→Q4 hp c m l):Jk hp [] 1 (vs.map fun v=>[v]) ks:=by
 cases h with
 |none=>exact .nil _ _ _
 |own hb=>
  rename_i c m;have h1:=hr c m vs QA
  have e:(vs.map fun v=>[v]).flatten=vs:=by
   clear h1 hr hb
   induction vs with
   |nil=>rfl
   |cons v vs ih=>rw[List.map_cons,List.flatten_cons,ih];rfl
  have:=Jk.own (X:=[]) (z:=1) (ls:=vs.map fun v=>[v]) (c:=c) (m:=m) (by rw[e];exact h1) QA QA (by rw[List.length_map];omega);rw[List.length_map]at this;exact this
def XQ:Nat→List (List Int)→List Int→Option Nat
 |_,[],_=>none
 |j,x::L,s=>if x=s then some j else XQ (j+1) L s
def WG:Nat→List (List Int)→List (AV×AV)
 |_,[]=>[]
 |j,x::L=>(.str (Zm x),.int .i64 (j:Int))::WG (j+1) L
def vr(e:AV×AV×Nat):AV×AV:=(e.1,e.2.1)
theorem NB: ∀(j:Nat) (L:List (List Int)) (s:List Int),WG j (L++[s])=WG j L++[(.str (Zm s),.int .i64 (j+L.length:Nat))]
 |j,[],s=>by simp[WG]
 |j,x::L,s=>by
  rw[List.cons_append,WG,WG,NB (j+1) L s,List.cons_append,List.length_cons,show j+1+L.length=j+(L.length+1) by omega]
theorem Gh: ∀{L:List (List Int)} {j i:Nat} {s:List Int},XQ j L s=some i→j≤i∧L[i-j]? =some s
 |[],j,i,s,h=>by cases h
 |x::L,j,i,s,h=>by
  rw[XQ]at h
  split at h
  ·rename_i e
   injection h with h
   subst h e;exact⟨Nat.le_refl _,by rw[Nat.sub_self];rfl⟩
  ·obtain⟨h1,h2⟩:=Gh h;refine⟨by omega,?_⟩;rw[show i-j=(i-(j+1))+1 by omega];exact h2
theorem It: ∀{L:List (List Int)} {j:Nat} {s:List Int},XQ j L s=none→s∉L
 |[],j,s,_=>by simp
 |x::L,j,s,h=>by
  rw[XQ]at h
  split at h
  ·cases h
  ·rename_i e;intro hm;rcases List.mem_cons.1 hm with e'|hm
   ·exact e e'.symm
   ·exact It h hm
theorem N1(s:List Int): ∀(L:List (List Int)) (es:List (AV×AV×Nat)) (j:Nat),es.map vr=WG j L→N2 .string (.str (Zm s)) es j=some ((XQ j L s).map fun i=>(i,.int .i64 (i:Int))):=by
 intro L
 induction L with
 |nil=>
  intro es j h
  cases es with
  |nil=>rfl
  |cons e es=>cases h
 |cons x L ih=>
  intro es j h
  cases es with
  |nil=>cases h
  |cons e es=>
   rw[List.map_cons,WG]at h
   injection h with h1 h2
   obtain⟨e1,e2,e3⟩:=e
   injection h1 with h1 h3
   have h1:e1=.str (Zm x):=h1;have h3:e2=.int .i64 (j:Int):=h3;subst h1 h3;rw[V5,XQ];show(ob (some (G0 (Zm s) (Zm x))) fun b=>Qo b _ _)=_;rw[Ql,Xe]
   by_cases hx:x=s
   ·subst hx;rw[if_pos rfl,decide_eq_true rfl];rfl
   ·rw[if_neg hx,decide_eq_false (fun e=>hx (D4 e).symm),Qx];exact ih es (j+1) h2
def Rh(L:List (List Int))(l:List Int):Nat:=(XQ 0 L (JT l)).getD L.length
def AT(L:List (List Int))(l:List Int):List (List Int):=if(XQ 0 L (JT l)).isSome then L else L++[JT l]
section
variable {G:Env} {K:List (Nat×AV)} {st:St} {cm n:Nat} {es:List (AV×AV×Nat)} {L:List (List Int)} {s:List Int} {m k x:Operand}
theorem Rb(hm:Jb G K m=some (.mp cm))(hk:Jb G K k=some (.str (Zm s)))(hc:st.h.get cm=some (.map es n))(he:es.map vr=WG 0 L):
  U4 Tryz.prog G K (.lookup 95 m k true) st (.tup [.int .i64 ((XQ 0 L s).getD 0:Nat),.bool (XQ 0 L s).isSome]) st:=.of fun T hT c d ty pos af g=>by
 show(ob (QJ G T m) fun m=>ob (QJ G T k) fun k=>ret (Vh Tryz.prog 95 m k true st.h.get) st)=_;rw[hT.QJ hm,hT.QJ hk,Ql,Ql];unfold Vh
 have hz:zeroV Tryz.prog 3=some (.int .i64 0):=by kernel_rfl
 have hfd:Yx Tryz.prog 9 .string (.str (Zm s)) es 0=some ((XQ 0 L s).map fun i=>(i,.int .i64 (i:Int))):=N1 s L es 0 he;have hko:We Tryz.prog 9 .string (.str (Zm s))=true:=rfl;simp only[Eu,Wu,hc,Ql,hfd,hko,QO]
 cases hn:XQ 0 L s with
 |none=>
  simp only[Option.map_none,hz,Ql];rfl
 |some i=>rfl
noncomputable def W8(st:St)(cm n:Nat)(es:List (AV×AV×Nat))(s:List Int)(z:Int):St:=⟨st.n,st.h.set cm (.map (es++[(.str (Zm s),.int .i64 z,n)]) (n+1))⟩
theorem z6{z:Int}(hm:Jb G K m=some (.mp cm))(hk:Jb G K k=some (.str (Zm s)))(hx:Jb G K x=some (.int .i64 z))(hc:st.h.get cm=some (.map es n))(he:es.map vr=WG 0 L)(hn:XQ 0 L s=none):
  U4 Tryz.prog G K (.mapUpdate 95 m k x) st (.tup []) (W8 st cm n es s z):=.of fun T hT c d ty pos af g=>by
 show(ob (QJ G T m) fun m=>ob (QJ G T k) fun k=>ob (QJ G T x) fun x=>Z3 Tryz.prog 95 m k x st)=_;rw[hT.QJ hm,hT.QJ hk,hT.QJ hx,Ql,Ql,Ql];unfold Z3 W8;have hfd:Yx Tryz.prog 9 .string (.str (Zm s)) es 0=some ((XQ 0 L s).map fun i=>(i,.int .i64 (i:Int))):=N1 s L es 0 he;have hko:We Tryz.prog 9 .string (.str (Zm s))=true:=rfl;rw[hn,Option.map_none]at hfd;simp only[Eu,Wu,hc,Ql,hfd,hko,QO];show(QN true _)=_;simp only[QO,Ub,U7,Ji,UI]
end
section
variable {G:Env} {N:Nat} {ops:List Oper} {T:Tr AV} {K:List (Nat×AV)} {st:St} {sn:List St} {r:List (Nat×Nat)} {R:Tr AV→St→Prop} {i:Nat} {ty:TypeId} {pos:String} {af:Array Edge} {cm n:Nat} {es:List (AV×AV×Nat)} {L:List (List Int)} {s:List Int} {m k x:Operand} {z:Int}
theorem yL(ho:ops[i]? =some ⟨none,.mapUpdate 95 m k x,ty,pos,af,none⟩)(hK:QZ K T)(hm:Jb G K m=some (.mp cm))(hk:Jb G K k=some (.str (Zm s)))(hx:Jb G K x=some (.int .i64 z))(hc:st.h.get cm=some (.map es n))(he:es.map vr=WG 0 L)(hn:XQ 0 L s=none)
  (hr:WD Tryz.prog G N ops (r.map (Yo ops)) R T (W8 st cm n es s z) (W8 st cm n es s z::sn)):WD Tryz.prog G N ops (((i,0)::r).map (Yo ops)) R T st sn:=by
 rw[YC ho];exact X1 rfl (z6 hm hk hx hc he hn T hK _ _ _ _ _) rfl (fun e he=>by cases he) hr
end
theorem Rl(st:St)(cm n:Nat)(es:List (AV×AV×Nat))(s:List Int)(z:Int):(W8 st cm n es s z).h.get cm=some (.map (es++[(.str (Zm s),.int .i64 z,n)]) (n+1)):=by
 unfold W8;rw[JF];exact Ui _ _ _
theorem EU(st:St){cm:Nat}(n:Nat)(es:List (AV×AV×Nat))(s:List Int)(z:Int)(h:c≠cm):(W8 st cm n es s z).h.get c=st.h.get c:=by
 unfold W8;rw[JF,YU _ _ h]
theorem Dt{st:St}(hf:Qj st){cm:Nat}(hc:cm<st.n)(n:Nat)(es:List (AV×AV×Nat))(s:List Int)(z:Int):Qj (W8 st cm n es s z):=fun c hle=>by
 have hle:st.n≤c:=hle;rw[EU _ _ _ _ _ Qe];exact hf c hle
theorem Mb{P:Program}{G:Env}{K:List (Nat×AV)}{st:St}{t:TypeId}{x:Operand}{lo hi:Option Operand}{v:AV}{l:List Int}{a b:Nat}(he:U1 P t=some 1)(r:Jk h [] 1 (zC l) v)(hs:v=.nils∨ ∃c m o n,v=.sl c m o n 1)(hx:Jb G K x=some v)(hl:YO (Jb G K) lo=some a)(hh:YP (Jb G K) hi l.length=some b)(h1:a≤b)(h2:b≤l.length):
  ∃v2,U4 P G K (.slice t x lo hi none) st v2 st∧Jk h [] 1 (zC ((l.drop a).take (b-a))) v2∧Qu v2=true:=by
 have hlen:=r.len;rw[Qn]at hlen;rcases hs with rfl|⟨c,m,o,n,rfl⟩
 ·have hl0:l=[]:=by injection hlen with hlen;exact Zb hlen.symm
  subst hl0
  have ha:a=0:=by simp at h2;omega
  have hb:b=0:=by simpa using h2
  subst ha hb;exact⟨.nils,Mc he hx hl hh,.nil _ _ _,rfl⟩
 ·injection hlen with hlen
  subst hlen;have h3:=Md (st:=st) he hx hl hh h1 h2;have hbnd:=r.E0;rw[Qn]at hbnd
  refine⟨_,h3,?_,by cases Qo (Nat.beq a 0) true (Nat.ble (a+1) l.length)<;>rfl⟩
  have hln:((l.drop a).take (b-a)).length=b-a:=by rw[List.length_take,List.length_drop];omega
  by_cases hc:Qo (Nat.beq a 0) true (Nat.ble (a+1) l.length)=true
  ·rw[hc,Q7,Nat.mul_one];refine⟨by rw[Qn,hln];rfl,by rw[Qn,hln];omega,rfl,fun i cs hi=>?_,fun c' m' off' n' z' e'=>?_⟩
   ·have hlt:=(List.getElem?_eq_some_iff.1 hi).1;rw[Qn,hln]at hlt
    have hg:((l.drop a).take (b-a))[i]? =l[a+i]? :=by rw[List.getElem?_take_of_lt hlt,List.getElem?_drop]
    rw[zC,List.getElem?_map,hg]at hi
    have hi2:(zC l)[a+i]? =some cs:=by rw[zC,List.getElem?_map];exact hi
    obtain⟨c2,m2,J4,cells2,e1,e2,e3,e4,e5⟩:=r.at_ _ _ hi2
    injection e1 with x1 x2 x3 x4 x5
    subst x1 x2 x3;exact⟨c,m,o+a,cells2,by rw[Qn,hln],e2,e3,e4,by rw[←e5];congr 1;rw[Nat.mul_one,Nat.mul_one,Nat.add_assoc]⟩
   ·injection e' with x1 x2 x3 x4 x5
    subst x1 x2 x3 x4;obtain⟨q1,cs,q2,q3⟩:=r.alive c m o _ 1 rfl;exact⟨q1,cs,q2,by omega⟩
  ·have hcf:Qo (Nat.beq a 0) true (Nat.ble (a+1) l.length)=false:=by simpa using hc
   rw[hcf,Qx]
   have hal:l.length≤a:=by
    rcases Nat.lt_or_ge a l.length with h|h
    ·rw[Nat.ble_eq_true_of_le h]at hcf
     cases hb0:Nat.beq a 0<;>rw[hb0]at hcf<;>cases hcf
    ·exact h
   have h00:(l.drop a).take (b-a)=[]:=Zb (by rw[hln];omega);rw[h00];exact⟨rfl,by simp[zC],rfl,fun i cs hi=>by simp[zC]at hi,fun _ _ _ _ _ e=>by cases e⟩
end Go.Proofs.YtiknomepbklibaaGreatDoor
end
section
namespace Go.Proofs.YtiknomepbklibaaGreatDoor
open Go

theorem JC{place:Nat→Option (Nat×Nat)}{i off:Nat}{v:AV}{ps:List (Nat×AV)}{l l1:List AV}(hp:place i=some (off,1))(hc:Qu v=true)(ho:Zo [v] off l=some l1):XH place ((i,v)::ps) l=XH place ps l1:=by
 rw[FH,hp,Ql,Vq hc];show QN true (ob (Zo [v] off l) _)=_;rw[ho];rfl
theorem AJ{place:Nat→Option (Nat×Nat)}{i off n:Nat}{v:AV}{ps:List (Nat×AV)}{l l1:List AV}(hp:place i=some (off,n))(hn:Nat.beq (Zl (Jn v)) n=true)(ho:Zo (Jn v) off l=some l1):XH place ((i,v)::ps) l=XH place ps l1:=by
 rw[FH,hp,Ql];show QN (Nat.beq (Zl (Jn v)) n) (ob (Zo (Jn v) off l) _)=_;rw[hn,ho];rfl
end Go.Proofs.YtiknomepbklibaaGreatDoor
end
section
namespace Go.Proofs.YtiknomepbklibaaGreatDoor
open Go Go.RowKit
variable {ks v:AV} {t:TypeId} {vs:List AV}

def x7(h h':Hp)(c:Nat):Prop:= ∀ro ms,h c=some (.row ro ms)→h' c=h c
structure ZG(h:Hp)(F:Nat→Prop)(cp:Nat)(A:UA)(ks:AV)(vs:List AV)(L:List (List Int)):Prop where
 acc:YS A ks vs
 row: ∀c m l,(c,m,l)∈A→Q4 h c m l∧F c∧c≠cp
 ln:vs.length=L.length
 inn: ∀(i:Nat) (s:List Int),L[i]? =some s→ ∃v,vs[i]? =some v∧Jk h [] 1 (zC s) v∧Vm s∧(v=.nils∨ ∃c m o n,v=.sl c m o n 1)∧ ∀c m o n y,v=.sl c m o n y→F c∧c≠cp∧ ∀m' l',(c,m',l')∉A
theorem ZG.frame{h h':Hp}{F:Nat→Prop}{cp:Nat}{A:UA}{ks:AV}{vs:List AV}{L:List (List Int)}(H:ZG h F cp A ks vs L)(e: ∀c,F c→h' c=h c):ZG h' F cp A ks vs L:=
 ⟨H.acc,fun c m l hm=>by
  obtain⟨h1,h2,h3⟩:=H.row c m l hm
  exact⟨h1.frame (e c h2),h2,h3⟩,H.ln,fun i s hi=>by
  obtain⟨v,h1,h2,h3,h4,h5⟩:=H.inn i s hi
  exact⟨v,h1,h2.frame fun c m o n y e'=>e c (h5 c m o n y e').1,h3,h4,h5⟩⟩
theorem ZG.more{h:Hp}{F F':Nat→Prop}{cp:Nat}{A:UA}{L:List (List Int)}(H:ZG h F cp A ks vs L)(e: ∀c,F c→F' c):ZG h F' cp A ks vs L:=
 ⟨H.acc,fun c m l hm=>by
  obtain⟨h1,h2,h3⟩:=H.row c m l hm
  exact⟨h1,e c h2,h3⟩,H.ln,fun i s hi=>by
  obtain⟨v,h1,h2,h3,h4,h5⟩:=H.inn i s hi
  exact⟨v,h1,h2,h3,h4,fun c m o n y e'=>by
   obtain⟨k1,k2⟩:=h5 c m o n y e'
   exact⟨e c k1,k2⟩⟩⟩
theorem ZG.rd{h:Hp}{F:Nat→Prop}{cp:Nat}{A:UA}{ks:AV}{vs:List AV}{L:List (List Int)}(H:ZG h F cp A ks vs L):Jk h [] 1 (vs.map fun v=>[v]) ks:=H.acc.rd fun c m l hm=>(H.row c m l hm).1
theorem ZG.len{h:Hp}{F:Nat→Prop}{cp:Nat}{A:UA}{ks:AV}{vs:List AV}{L:List (List Int)}(H:ZG h F cp A ks vs L):YB ks=some L.length:=by rw[←H.ln];exact H.acc.len
theorem ZG.snoc{h h':Hp}{F F':Nat→Prop}{cp:Nat}{A A':UA}{ks':AV}{L:List (List Int)}(H:ZG h F cp A ks vs L){s:List Int}(hA:YS A' ks' (vs++[v]))(hr: ∀c m l,(c,m,l)∈A'→Q4 h' c m l∧F' c∧c≠cp∧((∃m l,(c,m,l)∈A)∨ ¬F c))(hF: ∀c,F c→F' c)
  (ho: ∀c,F c→c≠cp→(∀m l,(c,m,l)∉A)→x7 h h' c) (hv:Jk h' [] 1 (zC s) v) (hs:Vm s) (hn:v=.nils∨ ∃c m o n,v=.sl c m o n 1) (hc: ∀c m o n y,v=.sl c m o n y→F' c∧c≠cp∧ ∀m' l',(c,m',l')∉A'):ZG h' F' cp A' ks' (vs++[v]) (L++[s]):=by
 refine⟨hA,fun c m l hm=>?_,by rw[List.length_append,List.length_append,H.ln];rfl,fun i x hi=>?_⟩
 ·obtain⟨h1,h2,h3,_⟩:=hr c m l hm;exact⟨h1,h2,h3⟩
 ·by_cases hl:i<L.length
  ·rw[List.getElem?_append_left hl]at hi;obtain⟨u,h1,h2,h3,h4,h5⟩:=H.inn i x hi;refine⟨u,by rw[List.getElem?_append_left (by rw[H.ln];exact hl)];exact h1,?_,h3,h4,fun c m o n y e=>?_⟩
   ·exact h2.frame fun c m o n y e=>by
     obtain⟨k1,k2,k3⟩:=h5 c m o n y e;obtain⟨_,cells,⟨ro,e1,vs',ms,h6,_⟩,_⟩:=h2.alive c m o n y e;exact ho c k1 k2 k3 ro ms h6
   ·obtain⟨k1,k2,k3⟩:=h5 c m o n y e;refine⟨hF c k1,k2,fun m' l' hm=>?_⟩;obtain⟨_,_,_,h6⟩:=hr c m' l' hm;rcases h6 with⟨m2,l2,h6⟩|h6
    ·exact k3 m2 l2 h6
    ·exact h6 k1
  ·rw[List.getElem?_append_right Qe]at hi
   have h0:i-L.length=0:=by
    by_cases h:i-L.length=0
    ·exact h
    ·rw[List.getElem?_eq_none (by simp;omega)]at hi;cases hi
   rw[h0]at hi
   injection hi with hi
   subst hi;exact⟨v,by rw[List.getElem?_append_right (by rw[H.ln];omega),H.ln,h0];rfl,hv,hs,hn,hc⟩
def ZH(h:Hp)(F:Nat→Prop)(cp:Nat)(L:List (List Int)):Prop:=
 ∃ks cm es k A vs,Q4 h cp 0 [ks,.mp cm]∧F cp∧F cm∧h cm=some (.map es k)∧es.map vr=WG 0 L∧ZG h F cp A ks vs L∧L.Nodup
theorem ZH.frame{h h':Hp}{F:Nat→Prop}{cp:Nat}{L:List (List Int)}(H:ZH h F cp L)(e: ∀c,F c→h' c=h c):ZH h' F cp L:=by
 obtain⟨ks,cm,es,k,A,vs,h1,h2,h3,h4,h5,h6,h7⟩:=H;exact⟨ks,cm,es,k,A,vs,h1.frame (e cp h2),h2,h3,by rw[e cm h3];exact h4,h5,h6.frame e,h7⟩
structure UR(F:Nat→Prop)(st st':St):Prop where
 fresh:Qj st'
 le:st.n≤st'.n
 J8: ∀c,c<st.n→ ¬F c→st'.h.get c=st.h.get c
theorem Qt.JO{st st':St}(q:Qt st st')(F:Nat→Prop):UR F st st':=⟨q.fresh,q.le,fun c hc _=>q.J8 c hc⟩
theorem Mem.yJ{st st1:St}{M0:UA}(hf:Qj st)(hM:Mem st.h.get st.n [] st1 M0)(Rw:UA)(hR: ∀c m l,(c,m,l)∈Rw→Q4 st.h.get c m l)(hn:(Rw.map Prod.fst).Nodup):Mem st1.h.get st1.n ((Rw++M0).map Prod.fst) st1 (Rw++M0):=by
 refine Mem.PA hM.fresh (Rw++M0) (fun c m l hm=>?_) ?_
 ·rcases List.mem_append.1 hm with hm|hm
  ·exact(hR c m l hm).Of hf hM.Of QA
  ·exact hM.row c m l hm
 ·rw[List.map_append];refine List.nodup_append.2 ⟨hn,hM.nodup,fun a ha b hb e=>?_⟩;subst e;obtain⟨⟨c,m,l⟩,h1,h2⟩:=List.mem_map.1 ha;obtain⟨⟨c',m',l'⟩,h3,h4⟩:=List.mem_map.1 hb;have k1:=(hR c m l h1).lt hf;simp only at h2 h4;rcases hM.own c' m' l' h3 with k2|k2
  ·omega
  ·cases k2
theorem YS.nodup{A:UA}(h:YS A ks vs):(A.map Prod.fst).Nodup:=by cases h<;>simp
theorem Mem.mapped{h0:Hp}{n0:Nat}{X:List Nat}{st:St}{M:UA}(hM:Mem h0 n0 X st M){cm n:Nat}{es:List (AV×AV×Nat)}(hc:st.h.get cm=some (.map es n))(s:List Int)(z:Int):
  Mem (W8 st cm n es s z).h.get (W8 st cm n es s z).n (M.map Prod.fst) (W8 st cm n es s z) M∧UR (fun c=>c=cm) st (W8 st cm n es s z):=by
 have hlt:cm<st.n:=Nat.lt_of_not_le fun hle=>by rw[hM.fresh cm hle]at hc;cases hc
 have hf:=Dt hM.fresh hlt n es s z;refine⟨Mem.PA hf M (fun c m l hm=>?_) hM.nodup,hf,Nat.le_refl _,fun c hc' hne=>EU _ _ _ _ _ hne⟩;have hr:=hM.row c m l hm;exact Q4.frame hr (EU _ _ _ _ _ (Q4.SI hr hc))
theorem Mem.xV{P:Program}{h0:Hp}{n0:Nat}{X:List Nat}{st:St}{L A B:UA}(hM:Mem h0 n0 X st (L++(A++B)))(hA:YS A ks vs){e:TypeId}(T:Fu P t e 1){k2 c2 m2:Nat}(hk:(L++(A++B))[k2]? =some (c2,m2,[v]))(hb:vs.length+1≤1000000000):
  ∃ks' A' st1,Yg P [t,t] ks (.sl c2 m2 0 1 1) st=some (ks',st1)∧YS A' ks' (vs++[v])∧Mem h0 n0 X st1 (L++(A'++B))∧ ∀c m l,(c,m,l)∈A'→(∃m l,(c,m,l)∈A)∨st.n≤c:=by
 have hr:=(hM.UY hk).Jf
 cases hA with
 |none=>
  have h1:=append_nil (st:=st) T (n:=1) (z2:=1) (J4:=0) hr QA QE QE;refine⟨_,[(st.n,0,[v])],_,h1,?_,?_,fun c m l hm=>?_⟩
  ·exact .own (vs:=[v]) QA
  ·have h2:=hM.alloc [v];have h3:=h2.perm (M':=L++([(st.n,0,[v])]++B)) (by simpa using(List.perm_middle (l₁:=L) (l₂:=B) (a:=(st.n,0,[v]))).symm)
   simpa using h3
  ·simp at hm;exact .inr Qe
 |own hb'=>
  rename_i c m;obtain⟨m',st1,h1,h2,_⟩:=hM.append (P:=P) T (k:=L.length) (c:=c) (m:=m) (len:=vs.length) (c2:=c2) (m2:=m2) (J4:=0) (n:=1) (z2:=1) (l:=vs) (l2:=[v]) (BN L B (c,m,vs)) QA hr QA QE hb;rw[Bb]at h2;refine⟨_,[(c,m',vs++[v])],st1,h1,?_,by simpa using h2,fun c' m2 l hm=>?_⟩
  ·have:=YS.own (c:=c) (m:=m') (vs:=vs++[v]) (by simpa using hb);rw[List.length_append]at this;exact this
  ·simp at hm;exact .inl ⟨m,vs,by simp[hm.1]⟩
section
variable {P:Program} {G:Env} {N:Nat} {h0:Hp} {n0:Nat} {X:List Nat} {st:St} {L A B:UA} {T:Tr AV} {ops rest:List Oper} {K:List (Nat×AV)} {R:Tr AV→St→Prop} {d:Nat} {ty:TypeId} {pos:String} {af:Array Edge}
theorem YL{x y:Operand}{e:TypeId}{c2 m2 k2:Nat}(hK:QZ K T)(hM:Mem h0 n0 X st (L++(A++B)))(hA:YS A ks vs)(S:Fu P t e 1)(hx:Jb G K x=some ks)(hy:Jb G K y=some (.sl c2 m2 0 1 1))(hk:(L++(A++B))[k2]? =some (c2,m2,[v]))(hb:vs.length+1≤1000000000)(hN:Nat.ble (d+1) N=true)
  (hn: ∀(ks':AV) A' T' st',QZ ((d,ks')::K) T'→YS A' ks' (vs++[v])→(∀c m l,(c,m,l)∈A'→(∃m l,(c,m,l)∈A)∨st.n≤c)→Mem h0 n0 X st' (L++(A'++B))→WR P G N ops rest R T' st'):WR P G N ops (⟨some d,.call {callee:=.builtin .append,args:= #[x,y],argTypes:= #[t,t]},ty,pos,af,none⟩::rest) R T st:=by
 obtain⟨ks',A',st1,h1,h2,h3,h4⟩:=hM.xV hA S hk hb;exact Es hK (ZO rfl hx hy h1) (Nat.le_of_ble_eq_true hN) fun T' hT'=>hn ks' A' T' st1 hT' h2 h4 h3
theorem A5{sn:List St}{i:Nat}{rr:List (Nat×Nat)}{x:Operand}{lo hi:Option Operand}{l:List Int}{a b:Nat}(ho:ops[i]? =some ⟨some d,.slice t x lo hi none,ty,pos,af,none⟩)(hK:QZ K T)(he:U1 P t=some 1)(r:Jk st.h.get [] 1 (zC l) v)(hs:v=.nils∨ ∃c m o n,v=.sl c m o n 1)(hx:Jb G K x=some v)(hl:YO (Jb G K) lo=some a)(hh:YP (Jb G K) hi l.length=some b)(h1:a≤b)(h2:b≤l.length)(hN:Nat.ble (d+1) N=true)
  (hn: ∀(v2:AV) T',QZ ((d,v2)::K) T'→Jk st.h.get [] 1 (zC ((l.drop a).take (b-a))) v2→Qu v2=true→WD P G N ops (rr.map (Yo ops)) R T' st sn):WD P G N ops (((i,0)::rr).map (Yo ops)) R T st sn:=by
 obtain⟨v2,h3,h4,h5⟩:=Mb (G:=G) (K:=K) (st:=st) (lo:=lo) (hi:=hi) he r hs hx hl hh h1 h2;exact OS ho hK h3 rfl (Nat.le_of_ble_eq_true hN) fun T' hT'=>hn v2 T' hT' h4 h5
end
theorem Acc.SJ{n0:Nat}{A:UA}{ls:List (List AV)}(h:Acc n0 1 A ks ls):ks=.nils∨ ∃c m o n,ks=.sl c m o n 1:=by
 cases h with
 |none=>exact .inl rfl
 |own=>exact .inr ⟨_,_,_,_,rfl⟩
theorem Ay.SJ{n0:Nat}{A:UA}{l:List Int}(h:Ay n0 A ks l):ks=.nils∨ ∃c m o n,ks=.sl c m o n 1:=by
 cases h with
 |none=>exact .inl rfl
 |own=>exact .inr ⟨_,_,_,_,rfl⟩
end Go.Proofs.YtiknomepbklibaaGreatDoor
end
section
namespace Go.Proofs.YtiknomepbklibaaGreatDoor
open Go

theorem Us:tk Tryz.prog 22=.one:=by kernel_rfl
theorem UF:YM Tryz.prog 22=some 1:=by kernel_rfl
theorem Ux:Tryz.prog.underlying 22=some (.slice 4):=by kernel_rfl
theorem Jx:U1 Tryz.prog 22=some 1:=by kernel_rfl
theorem QQ:tk Tryz.prog 25=.agg 3:=by kernel_rfl
theorem QC:YM Tryz.prog 25=some 3:=by kernel_rfl
theorem Y1:zeroOf Tryz.prog 25=some [.int .i64 0,.nils,.nils]:=by kernel_rfl
theorem OG:QK Tryz.prog 25 0=some 0:=by kernel_rfl
theorem OF:QK Tryz.prog 25 1=some 1:=by kernel_rfl
theorem OE:QK Tryz.prog 25 2=some 2:=by kernel_rfl
theorem Zy(l:List AV):I6 Tryz.prog 25 (.agg l) 2=XY Tryz.prog 23 l 2:=by kernel_rfl
theorem VJ:Cs Tryz.prog 25 [(0,1),(1,1),(2,1)] [.int .i64 0,.nils,.nils]:=⟨⟨_,Tryz.underlying25,by kernel_rfl,by kernel_rfl⟩,Y1⟩
theorem Ij:tk Tryz.prog 27=.one:=by kernel_rfl
theorem Ih:Tryz.prog.underlying 27=some (.pointer 65):=by kernel_rfl
theorem UE:tk Tryz.prog 29=.one:=by kernel_rfl
theorem Fe:zeroOf Tryz.prog 29=some [.nilp]:=by kernel_rfl
theorem JP:Tryz.prog.underlying 29=some (.pointer 86):=by kernel_rfl
theorem Xm:tk Tryz.prog 36=.one:=by kernel_rfl
theorem EA:zeroOf Tryz.prog 65=some [.int .i64 0,.bool false]:=by kernel_rfl
theorem I3:QK Tryz.prog 65 0=some 0:=by kernel_rfl
theorem I2:QK Tryz.prog 65 1=some 1:=by kernel_rfl
theorem L7:Cs Tryz.prog 65 [(0,1),(1,1)] [.int .i64 0,.bool false]:=⟨⟨_,Tryz.underlying65,by kernel_rfl,by kernel_rfl⟩,EA⟩
theorem AZ:zeroOf Tryz.prog 71=some [.nilp,.nilp]:=by kernel_rfl
theorem KB:QK Tryz.prog 71 0=some 0:=by kernel_rfl
theorem KA:QK Tryz.prog 71 1=some 1:=by kernel_rfl
theorem Oi:Cs Tryz.prog 71 [(0,1),(1,1)] [.nilp,.nilp]:=⟨⟨_,Tryz.underlying71,by kernel_rfl,by kernel_rfl⟩,AZ⟩
theorem Vv:tk Tryz.prog 77=.agg 2:=by kernel_rfl
theorem Z7:zeroOf Tryz.prog 77=some [.int .i64 0,.int .i64 0]:=by kernel_rfl
theorem Ad:QK Tryz.prog 77 0=some 0:=by kernel_rfl
theorem EZ:QK Tryz.prog 77 1=some 1:=by kernel_rfl
theorem F6:Cs Tryz.prog 77 [(0,1),(1,1)] [.int .i64 0,.int .i64 0]:=⟨⟨_,Tryz.underlying77,by kernel_rfl,by kernel_rfl⟩,Z7⟩
theorem Uj:Tryz.prog.underlying 78=some (.slice 77):=by kernel_rfl
theorem Ul:U1 Tryz.prog 78=some 2:=by kernel_rfl
theorem JM:tk Tryz.prog 84=.one:=by kernel_rfl
theorem ZW:Tryz.prog.underlying 84=some (.pointer 125):=by kernel_rfl
theorem IS:zeroOf Tryz.prog 86=some [.nils,.nils,.nilp]:=by kernel_rfl
theorem O7:QK Tryz.prog 86 0=some 0:=by kernel_rfl
theorem O6:QK Tryz.prog 86 1=some 1:=by kernel_rfl
theorem O5:QK Tryz.prog 86 2=some 2:=by kernel_rfl
theorem IX:Cs Tryz.prog 86 [(0,1),(1,1),(2,1)] [.nils,.nils,.nilp]:=⟨⟨_,Tryz.underlying86,by kernel_rfl,by kernel_rfl⟩,IS⟩
theorem XV:zeroOf Tryz.prog 105=some [.int .i64 0,.bool false]:=by kernel_rfl
theorem E8:QK Tryz.prog 105 0=some 0:=by kernel_rfl
theorem E7:QK Tryz.prog 105 1=some 1:=by kernel_rfl
theorem AS:Cs Tryz.prog 105 [(0,1),(1,1)] [.int .i64 0,.bool false]:=⟨⟨_,Tryz.underlying105,by kernel_rfl,by kernel_rfl⟩,XV⟩
theorem ZU:zeroOf Tryz.prog 109=some [.nilp,.bool false,.bool false]:=by kernel_rfl
theorem Wh:QK Tryz.prog 109 0=some 0:=by kernel_rfl
theorem Wg:QK Tryz.prog 109 1=some 1:=by kernel_rfl
theorem Wf:QK Tryz.prog 109 2=some 2:=by kernel_rfl
theorem WS:Cs Tryz.prog 109 [(0,1),(1,1),(2,1)] [.nilp,.bool false,.bool false]:=⟨⟨_,Tryz.underlying109,by kernel_rfl,by kernel_rfl⟩,ZU⟩
theorem Et:Tryz.prog.underlying 111=some (.slice 29):=by kernel_rfl
theorem Z5:U1 Tryz.prog 111=some 1:=by kernel_rfl
theorem UD:tk Tryz.prog 122=.one:=by kernel_rfl
theorem Fh:YM Tryz.prog 122=some 1:=by kernel_rfl
theorem X2:Tryz.prog.underlying 122=some (.slice 132):=by kernel_rfl
theorem YF:U1 Tryz.prog 122=some 1:=by kernel_rfl
theorem Hi:tk Tryz.prog 123=.one:=by kernel_rfl
theorem He:zeroOf Tryz.prog 125=some [.int .i64 0,.nils,.nilm]:=by kernel_rfl
theorem Ny:QK Tryz.prog 125 0=some 0:=by kernel_rfl
theorem Nx:QK Tryz.prog 125 1=some 1:=by kernel_rfl
theorem Nw:QK Tryz.prog 125 2=some 2:=by kernel_rfl
theorem GZ:Cs Tryz.prog 125 [(0,1),(1,1),(2,1)] [.int .i64 0,.nils,.nilm]:=⟨⟨_,Tryz.underlying125,by kernel_rfl,by kernel_rfl⟩,He⟩
theorem YW:tk Tryz.prog 132=.one:=by kernel_rfl
theorem EB:zeroOf Tryz.prog 132=some [.nili]:=by kernel_rfl
theorem Fg:YM Tryz.prog 164=some 3:=by kernel_rfl
theorem VU:zeroOf Tryz.prog 164=some [.int .i64 0,.bool false,.int .i64 0]:=by kernel_rfl
theorem KK:QK Tryz.prog 164 0=some 0:=by kernel_rfl
theorem KJ:QK Tryz.prog 164 1=some 1:=by kernel_rfl
theorem KI:QK Tryz.prog 164 2=some 2:=by kernel_rfl
theorem Om:Cs Tryz.prog 164 [(0,1),(1,1),(2,1)] [.int .i64 0,.bool false,.int .i64 0]:=⟨⟨_,Tryz.underlying164,by kernel_rfl,by kernel_rfl⟩,VU⟩
theorem T8:tk Tryz.prog 168=.agg 3:=by kernel_rfl
theorem T9:YM Tryz.prog 168=some 3:=by kernel_rfl
theorem OQ:zeroOf Tryz.prog 168=some [.int .i64 0,.int .i64 0,.int .i64 0]:=by kernel_rfl
theorem Z2:tk Tryz.prog 172=.one:=by kernel_rfl
theorem EE:tk Tryz.prog 173=.one:=by kernel_rfl
theorem IV:YM Tryz.prog 173=some 1:=by kernel_rfl
theorem X9:Tryz.prog.underlying 173=some (.slice 177):=by kernel_rfl
theorem DQ:U1 Tryz.prog 173=some 2:=by kernel_rfl
theorem Fa:zeroOf Tryz.prog 175=some [.nilm,.nils,.nilp]:=by kernel_rfl
theorem KE:QK Tryz.prog 175 0=some 0:=by kernel_rfl
theorem KD:QK Tryz.prog 175 1=some 1:=by kernel_rfl
theorem KC:QK Tryz.prog 175 2=some 2:=by kernel_rfl
theorem Oj:Cs Tryz.prog 175 [(0,1),(1,1),(2,1)] [.nilm,.nils,.nilp]:=⟨⟨_,Tryz.underlying175,by kernel_rfl,by kernel_rfl⟩,Fa⟩
theorem Js:tk Tryz.prog 181=.agg 3:=by kernel_rfl
theorem Kv:YM Tryz.prog 181=some 3:=by kernel_rfl
theorem Er:zeroOf Tryz.prog 181=some [.nilf,.int .i64 0,.int .i64 0]:=by kernel_rfl
theorem HJ:QK Tryz.prog 181 0=some 0:=by kernel_rfl
theorem HI:QK Tryz.prog 181 1=some 1:=by kernel_rfl
theorem HF:QK Tryz.prog 181 2=some 2:=by kernel_rfl
theorem Kw:Cs Tryz.prog 181 [(0,1),(1,1),(2,1)] [.nilf,.int .i64 0,.int .i64 0]:=⟨⟨_,Tryz.underlying181,by kernel_rfl,by kernel_rfl⟩,Er⟩
theorem IP:zeroOf Tryz.prog 193=some [.int .i64 0]:=by kernel_rfl
theorem Oy:QK Tryz.prog 193 0=some 0:=by kernel_rfl
theorem CE:Cs Tryz.prog 193 [(0,1)] [.int .i64 0]:=⟨⟨_,Tryz.underlying193,by kernel_rfl,by kernel_rfl⟩,IP⟩
theorem C8:YM Tryz.prog 195=some 3:=by kernel_rfl
theorem IQ:zeroOf Tryz.prog 195=some [.int .i64 0,.int .i64 0,.int .i64 0]:=by kernel_rfl
theorem O4:QK Tryz.prog 195 0=some 0:=by kernel_rfl
theorem O0:QK Tryz.prog 195 1=some 1:=by kernel_rfl
theorem Oz:QK Tryz.prog 195 2=some 2:=by kernel_rfl
theorem CF:Cs Tryz.prog 195 [(0,1),(1,1),(2,1)] [.int .i64 0,.int .i64 0,.int .i64 0]:=⟨⟨_,Tryz.underlying195,by kernel_rfl,by kernel_rfl⟩,IQ⟩
theorem Fb:zeroOf Tryz.prog 211=some [.nilp,.nilf,.nilm]:=by kernel_rfl
theorem KH:QK Tryz.prog 211 0=some 0:=by kernel_rfl
theorem KG:QK Tryz.prog 211 1=some 1:=by kernel_rfl
theorem KF:QK Tryz.prog 211 2=some 2:=by kernel_rfl
theorem Ol:Cs Tryz.prog 211 [(0,1),(1,1),(2,1)] [.nilp,.nilf,.nilm]:=⟨⟨_,Tryz.underlying211,by kernel_rfl,by kernel_rfl⟩,Fb⟩
theorem J5:Fu Tryz.prog 22 4 1:=⟨Ux,by kernel_rfl,⟨_,XZ,rfl⟩,by kernel_rfl,by decide,by decide+kernel⟩
theorem XB:Fu Tryz.prog 78 77 2:=⟨Uj,by kernel_rfl,⟨_,Z7,rfl⟩,by kernel_rfl,by decide,by decide+kernel⟩
theorem YA:Fu Tryz.prog 111 29 1:=⟨Et,by kernel_rfl,⟨_,Fe,rfl⟩,by kernel_rfl,by decide,by decide+kernel⟩
theorem VY:Fu Tryz.prog 122 132 1:=⟨X2,by kernel_rfl,⟨_,EB,rfl⟩,by kernel_rfl,by decide,by decide+kernel⟩
theorem EH:Fu Tryz.prog 173 177 2:=⟨X9,by kernel_rfl,⟨_,ZJ,rfl⟩,by kernel_rfl,by decide,by decide+kernel⟩
end Go.Proofs.YtiknomepbklibaaGreatDoor
end
section
namespace Go.Proofs.YtiknomepbklibaaGreatDoor
open Go Go.RowKit
variable {F:Tr AV→St→Prop} {f:FuncId} {g:Operand} {i id jj n t1 tt:Nat} {pol:Bool} {sn:List St} {st1:St} {w:List (Nat×Nat)}

class FO(P:Program)(t:TypeId)(f:Nat)(o:outParam Nat):Prop where
 h:QK P t f=some o
class T1(P:Program)(t:TypeId):Prop where
 h:tk P t=.one
class TA(P:Program)(t:TypeId)(n:outParam Nat):Prop where
 h:tk P t=.agg n
class ZE(P:Program)(t:TypeId)(l:outParam (List AV)):Prop where
 h:zeroOf P t=some l
class SZ(P:Program)(t:TypeId)(n:outParam Nat):Prop where
 h:YM P t=some n
class UL(P:Program)(t:TypeId):Prop where
 h: ∃e,P.underlying t=some (.slice e)
class ST(P:Program)(t:TypeId)(tbl:outParam (List (Nat×Nat)))(z:outParam (List AV)):Prop where
 h:Cs P t tbl z
class SL(P:Program)(t:TypeId)(e:outParam TypeId)(z:outParam Nat):Prop where
 h:Fu P t e z
instance :FO Tryz.prog 44 0 0:=⟨OD⟩
instance :FO Tryz.prog 44 1 1:=⟨OC⟩
instance :FO Tryz.prog 44 2 2:=⟨OB⟩
instance :FO Tryz.prog 44 3 3:=⟨OA⟩
instance :FO Tryz.prog 44 4 4:=⟨O9⟩
instance :FO Tryz.prog 44 5 5:=⟨O8⟩
instance :FO Tryz.prog 25 0 0:=⟨OG⟩
instance :FO Tryz.prog 25 1 1:=⟨OF⟩
instance :FO Tryz.prog 25 2 2:=⟨OE⟩
instance :FO Tryz.prog 65 0 0:=⟨I3⟩
instance :FO Tryz.prog 65 1 1:=⟨I2⟩
instance :FO Tryz.prog 71 0 0:=⟨KB⟩
instance :FO Tryz.prog 71 1 1:=⟨KA⟩
instance :FO Tryz.prog 77 0 0:=⟨Ad⟩
instance :FO Tryz.prog 77 1 1:=⟨EZ⟩
instance :FO Tryz.prog 86 0 0:=⟨O7⟩
instance :FO Tryz.prog 86 1 1:=⟨O6⟩
instance :FO Tryz.prog 86 2 2:=⟨O5⟩
instance :FO Tryz.prog 105 0 0:=⟨E8⟩
instance :FO Tryz.prog 105 1 1:=⟨E7⟩
instance :FO Tryz.prog 109 0 0:=⟨Wh⟩
instance :FO Tryz.prog 109 1 1:=⟨Wg⟩
instance :FO Tryz.prog 109 2 2:=⟨Wf⟩
instance :FO Tryz.prog 125 0 0:=⟨Ny⟩
instance :FO Tryz.prog 125 1 1:=⟨Nx⟩
instance :FO Tryz.prog 125 2 2:=⟨Nw⟩
instance :FO Tryz.prog 164 0 0:=⟨KK⟩
instance :FO Tryz.prog 164 1 1:=⟨KJ⟩
instance :FO Tryz.prog 164 2 2:=⟨KI⟩
instance :FO Tryz.prog 175 0 0:=⟨KE⟩
instance :FO Tryz.prog 175 1 1:=⟨KD⟩
instance :FO Tryz.prog 175 2 2:=⟨KC⟩
instance :FO Tryz.prog 181 0 0:=⟨HJ⟩
instance :FO Tryz.prog 181 1 1:=⟨HI⟩
instance :FO Tryz.prog 181 2 2:=⟨HF⟩
instance :FO Tryz.prog 193 0 0:=⟨Oy⟩
instance :FO Tryz.prog 195 0 0:=⟨O4⟩
instance :FO Tryz.prog 195 1 1:=⟨O0⟩
instance :FO Tryz.prog 195 2 2:=⟨Oz⟩
instance :FO Tryz.prog 211 0 0:=⟨KH⟩
instance :FO Tryz.prog 211 1 1:=⟨KG⟩
instance :FO Tryz.prog 211 2 2:=⟨KF⟩
instance :T1 Tryz.prog 22:=⟨Us⟩
instance :TA Tryz.prog 25 3:=⟨QQ⟩
instance :T1 Tryz.prog 27:=⟨Ij⟩
instance :T1 Tryz.prog 29:=⟨UE⟩
instance :T1 Tryz.prog 36:=⟨Xm⟩
instance :TA Tryz.prog 77 2:=⟨Vv⟩
instance :T1 Tryz.prog 84:=⟨JM⟩
instance :T1 Tryz.prog 122:=⟨UD⟩
instance :T1 Tryz.prog 123:=⟨Hi⟩
instance :T1 Tryz.prog 132:=⟨YW⟩
instance :TA Tryz.prog 168 3:=⟨T8⟩
instance :T1 Tryz.prog 172:=⟨Z2⟩
instance :T1 Tryz.prog 173:=⟨EE⟩
instance :TA Tryz.prog 181 3:=⟨Js⟩
instance :ZE Tryz.prog 25 [.int .i64 0,.nils,.nils]:=⟨Y1⟩
instance :ZE Tryz.prog 29 [.nilp]:=⟨Fe⟩
instance :ZE Tryz.prog 65 [.int .i64 0,.bool false]:=⟨EA⟩
instance :ZE Tryz.prog 71 [.nilp,.nilp]:=⟨AZ⟩
instance :ZE Tryz.prog 77 [.int .i64 0,.int .i64 0]:=⟨Z7⟩
instance :ZE Tryz.prog 86 [.nils,.nils,.nilp]:=⟨IS⟩
instance :ZE Tryz.prog 105 [.int .i64 0,.bool false]:=⟨XV⟩
instance :ZE Tryz.prog 109 [.nilp,.bool false,.bool false]:=⟨ZU⟩
instance :ZE Tryz.prog 125 [.int .i64 0,.nils,.nilm]:=⟨He⟩
instance :ZE Tryz.prog 132 [.nili]:=⟨EB⟩
instance :ZE Tryz.prog 164 [.int .i64 0,.bool false,.int .i64 0]:=⟨VU⟩
instance :ZE Tryz.prog 168 [.int .i64 0,.int .i64 0,.int .i64 0]:=⟨OQ⟩
instance :ZE Tryz.prog 175 [.nilm,.nils,.nilp]:=⟨Fa⟩
instance :ZE Tryz.prog 181 [.nilf,.int .i64 0,.int .i64 0]:=⟨Er⟩
instance :ZE Tryz.prog 193 [.int .i64 0]:=⟨IP⟩
instance :ZE Tryz.prog 195 [.int .i64 0,.int .i64 0,.int .i64 0]:=⟨IQ⟩
instance :ZE Tryz.prog 211 [.nilp,.nilf,.nilm]:=⟨Fb⟩
instance :T1 Tryz.prog 3:=⟨Qr⟩
instance :T1 Tryz.prog 4:=⟨J0⟩
instance :T1 Tryz.prog 9:=⟨Ii⟩
instance :T1 Tryz.prog 42:=⟨Oh⟩
instance :TA Tryz.prog 44 6:=⟨QX⟩
instance :TA Tryz.prog 177 2:=⟨OU⟩
instance :T1 Tryz.prog 54:=⟨Ja⟩
instance :ZE Tryz.prog 3 [.int .i64 0]:=⟨Vs⟩
instance :ZE Tryz.prog 4 [.bool false]:=⟨XZ⟩
instance :ZE Tryz.prog 9 [.str []]:=⟨OP⟩
instance :ZE Tryz.prog 44 [.str [],.int .i64 0,.int .i64 0,.int .i64 0,.int .i64 0,.nils]:=⟨YT⟩
instance :ZE Tryz.prog 177 [.int .i64 0,.int .i64 0]:=⟨ZJ⟩
instance :ZE Tryz.prog 54 [.nils]:=⟨Uv⟩
instance :SZ Tryz.prog 22 1:=⟨UF⟩
instance :SZ Tryz.prog 25 3:=⟨QC⟩
instance :SZ Tryz.prog 122 1:=⟨Fh⟩
instance :SZ Tryz.prog 164 3:=⟨Fg⟩
instance :SZ Tryz.prog 168 3:=⟨T9⟩
instance :SZ Tryz.prog 173 1:=⟨IV⟩
instance :SZ Tryz.prog 181 3:=⟨Kv⟩
instance :SZ Tryz.prog 195 3:=⟨C8⟩
instance :SZ Tryz.prog 3 1:=⟨Ly⟩
instance :SZ Tryz.prog 4 1:=⟨A9⟩
instance :SZ Tryz.prog 44 6:=⟨ZL⟩
instance :SZ Tryz.prog 177 2:=⟨TB⟩
instance :SZ Tryz.prog 54 1:=⟨C9⟩
instance :UL Tryz.prog 142:=⟨_,IT⟩
instance :SL Tryz.prog 142 9 1:=⟨CJ⟩
instance :UL Tryz.prog 42:=⟨_,JZ⟩
instance :ST Tryz.prog 44 [(0,1),(1,1),(2,1),(3,1),(4,1),(5,1)] [.str [],.int .i64 0,.int .i64 0,.int .i64 0,.int .i64 0,.nils]:=⟨CG⟩
instance :UL Tryz.prog 54:=⟨_,Jr⟩
instance :SL Tryz.prog 42 44 6:=⟨Zu⟩
instance :SL Tryz.prog 54 3 1:=⟨QM⟩
instance :UL Tryz.prog 22:=⟨_,Ux⟩
instance :ST Tryz.prog 25 [(0,1),(1,1),(2,1)] [.int .i64 0,.nils,.nils]:=⟨VJ⟩
instance :ST Tryz.prog 65 [(0,1),(1,1)] [.int .i64 0,.bool false]:=⟨L7⟩
instance :ST Tryz.prog 71 [(0,1),(1,1)] [.nilp,.nilp]:=⟨Oi⟩
instance :ST Tryz.prog 77 [(0,1),(1,1)] [.int .i64 0,.int .i64 0]:=⟨F6⟩
instance :UL Tryz.prog 78:=⟨_,Uj⟩
instance :ST Tryz.prog 86 [(0,1),(1,1),(2,1)] [.nils,.nils,.nilp]:=⟨IX⟩
instance :ST Tryz.prog 105 [(0,1),(1,1)] [.int .i64 0,.bool false]:=⟨AS⟩
instance :ST Tryz.prog 109 [(0,1),(1,1),(2,1)] [.nilp,.bool false,.bool false]:=⟨WS⟩
instance :UL Tryz.prog 111:=⟨_,Et⟩
instance :UL Tryz.prog 122:=⟨_,X2⟩
instance :ST Tryz.prog 125 [(0,1),(1,1),(2,1)] [.int .i64 0,.nils,.nilm]:=⟨GZ⟩
instance :ST Tryz.prog 164 [(0,1),(1,1),(2,1)] [.int .i64 0,.bool false,.int .i64 0]:=⟨Om⟩
instance :UL Tryz.prog 173:=⟨_,X9⟩
instance :ST Tryz.prog 175 [(0,1),(1,1),(2,1)] [.nilm,.nils,.nilp]:=⟨Oj⟩
instance :ST Tryz.prog 181 [(0,1),(1,1),(2,1)] [.nilf,.int .i64 0,.int .i64 0]:=⟨Kw⟩
instance :ST Tryz.prog 193 [(0,1)] [.int .i64 0]:=⟨CE⟩
instance :ST Tryz.prog 195 [(0,1),(1,1),(2,1)] [.int .i64 0,.int .i64 0,.int .i64 0]:=⟨CF⟩
instance :ST Tryz.prog 211 [(0,1),(1,1),(2,1)] [.nilp,.nilf,.nilm]:=⟨Ol⟩
instance :SL Tryz.prog 22 4 1:=⟨J5⟩
instance :SL Tryz.prog 78 77 2:=⟨XB⟩
instance :SL Tryz.prog 111 29 1:=⟨YA⟩
instance :SL Tryz.prog 122 132 1:=⟨VY⟩
instance :SL Tryz.prog 173 177 2:=⟨EH⟩
abbrev iZ(z:Int):AV:=.int .i64 z
abbrev iN(n:Nat):AV:=.int .i64 n
def SG(j:Nat)(q:St→Prop)(h0:Hp)(n0:Nat)(X:List Nat)(K:List (Nat×AV))(M:List (Nat×Nat×List AV))(F:Tr AV→St→Prop):Prop:= ∀T st,QZ K T→q st→Mem h0 n0 X st M→F T st
def To(g g':Prop):Prop:=g'→g
structure PO(P:Program)(G:Env)(h0:Hp)(n0:Nat)(X:List Nat)(K:List (Nat×AV))(M:List (Nat×Nat×List AV))(op:Op)(v:AV):Prop where
 h: ∀st,Mem h0 n0 X st M→U4 P G K op st v st
section
variable {j:Nat} {q:St→Prop} {P:Program} {G:Env} {N:Nat} {h0:Hp} {n0:Nat} {X:List Nat} {K:List (Nat×AV)} {M:List (Nat×Nat×List AV)} {g':Prop} {ops rest:List Oper} {R:Tr AV→St→Prop} {Q:Ex→Tr AV→St→Prop} {d:Nat} {ty:TypeId} {pos:String} {af:Array Edge} {st:St} {op:Op} {u v:AV} {x y:Operand} {t yt:TypeId} {k:IntKind} {a b:Int} {r l:List AV} {c m off:Nat} {A B:Bool} {tys:Array TypeId} {s z:List Nat}
theorem Br(h:Jb G K x=some v):PO P G h0 n0 X K M (.move x) (v):=⟨fun _ hM=>Qg h⟩
theorem Hv(h:Jb G K x=some v):PO P G h0 n0 X K M (.assign x) (v):=⟨fun _ hM=>U6 h⟩
theorem Ut [ht:T1 P t](i:Nat)(h:Jb G K x=some (.ptr c m off))(h1:M[i]? =some (c,m,l))(h2:nth l off=some v):PO P G h0 n0 X K M (.load t x) v:=⟨fun _ hM=>Qd h (hM.load h1 (Qf ht.h h2))⟩
theorem JL [ht:TA P t n](i:Nat)(h:Jb G K x=some (.ptr c m off))(h1:M[i]? =some (c,m,l))(h2:Ew n (Ez off l) (fun r=>some (AV.agg r))=some (.agg r)):PO P G h0 n0 X K M (.load t x) (.agg r):=⟨fun _ hM=>Qd h (hM.load h1 (QG ht.h h2))⟩
theorem S7{f o:Nat} [ho:FO P t f o](h:Jb G K x=some (.ptr c m off)):PO P G h0 n0 X K M (.fieldAddr t x f) (.ptr c m (off+o)):=⟨fun _ hM=>Ye ho.h h⟩
theorem Bo(h:Jb G K x=some (.ptr c m off)):PO P G h0 n0 X K M (.nilCheck x) (.ptr c m off):=⟨fun _ hM=>vx h rfl⟩
theorem S8(h:Jb G K x=some (.tup l))(h':nth l i=some v):PO P G h0 n0 X K M (.extract x i) (v):=⟨fun _ hM=>Rc h h'⟩
theorem Bm{w1 w2:Operand}(h:Jb G K x=some (.bool A))(h1:Jb G K w1=some u)(h2:Jb G K w2=some v):PO P G h0 n0 X K M (.pick x w1 w2) (Qo A u v):=⟨fun _ hM=>zx h h1 h2⟩
theorem Sw(h:Jb G K x=some (.bool A)):PO P G h0 n0 X K M (.unOp .not t x) (.bool (!A)):=⟨fun _ hM=>Iq h⟩
theorem Sz(h:Jb G K x=some (.int k a))(h':Jb G K y=some (.int k b)):PO P G h0 n0 X K M (.binOp .lss t x y yt) (.bool (decide (a<b))):=⟨fun _ hM=>js h h'⟩
theorem S5(h:Jb G K x=some (.int k a))(h':Jb G K y=some (.int k b)):PO P G h0 n0 X K M (.binOp .gtr t x y yt) (.bool (decide (b<a))):=⟨fun _ hM=>vz h h'⟩
theorem S0(h:Jb G K x=some (.int k a))(h':Jb G K y=some (.int k b)):PO P G h0 n0 X K M (.binOp .leq t x y yt) (.bool (decide (a≤b))):=⟨fun _ hM=>vy h h'⟩
theorem S6(h:Jb G K x=some (.int k a))(h':Jb G K y=some (.int k b)):PO P G h0 n0 X K M (.binOp .geq t x y yt) (.bool (decide (b≤a))):=⟨fun _ hM=>v7 h h'⟩
theorem SA(h:Jb G K x=some (.int k a))(h':Jb G K y=some (.int k b)):PO P G h0 n0 X K M (.binOp .eql t x y yt) (.bool (decide (a=b))):=⟨fun _ hM=>ju h h'⟩
theorem Sy(h:Jb G K x=some (.int k a))(h':Jb G K y=some (.int k b)):PO P G h0 n0 X K M (.binOp .neq t x y yt) (.bool (!decide (a=b))):=⟨fun _ hM=>Ra h h'⟩
theorem S9(h:Jb G K x=some (.str s))(h':Jb G K y=some (.str z)):PO P G h0 n0 X K M (.binOp .eql t x y yt) (.bool (decide (s=z))):=⟨fun _ hM=>Jm h h'⟩
theorem Sx(h:Jb G K x=some (.str s))(h':Jb G K y=some (.str z)):PO P G h0 n0 X K M (.binOp .neq t x y yt) (.bool (!decide (s=z))):=⟨fun _ hM=>Bt h h'⟩
theorem SB(h:Jb G K x=some (.int .i64 a))(h':Jb G K y=some (.int .i64 b))(h1: -9223372036854775808≤a+b)(h2:a+b≤9223372036854775807):PO P G h0 n0 X K M (.binOp .add t x y yt) (.int .i64 (a+b)):=⟨fun _ _=>vA h h' h1 h2⟩
theorem Sv(h:Jb G K x=some (.int .i64 a))(h':Jb G K y=some (.int .i64 b))(h1: -9223372036854775808≤a-b)(h2:a-b≤9223372036854775807):PO P G h0 n0 X K M (.binOp .sub t x y yt) (.int .i64 (a-b)):=⟨fun _ _=>jl h h' h1 h2⟩
theorem Bs [hu:UL P t](h:Jb G K x=some u)(h':YB u=some n):PO P G h0 n0 X K M (.call {callee:=.builtin .len,args:= #[x],argTypes:= #[t]}) (.int .i64 (n:Int)):=⟨fun _ _=>by obtain⟨e,hu⟩:=hu.h;exact Q8 hu rfl h h'⟩
theorem KX{parts:Array (Nat×Operand)}{ps:List (Nat×AV)}{tbl:List (Nat×Nat)}{zz:List AV} [hs:ST P t tbl zz](h:Zq (Jb G K) parts=some ps)(h':XH (nth tbl) ps zz=some r):PO P G h0 n0 X K M (.build t parts) (.agg r):=⟨fun _ hM=>W3 hs.h h h'⟩
theorem q5{k:Tr AV→St→Prop}(h:To (SG j q h0 n0 X K M (k)) g'):To (SG j q h0 n0 X K M (Lv k Q .nor)) g':=h
theorem xH(h:To (SG j q h0 n0 X K M (Q .nor)) g'):To (SG j q h0 n0 X K M (Cf id Q .nor)) g':=h
theorem xE{a b:Code}(h:To (SG j q h0 n0 X K M (W P G N (a) (Lv (W P G N b Q) Q))) g'):To (SG j q h0 n0 X K M (W P G N (.seq a b) Q)) g':=fun h' T st hK hq hM=>QD (h h' T st hK hq hM)
theorem Si{c:Code}(h:To (SG j q h0 n0 X K M (W P G N (c) (Cf id Q))) g'):To (SG j q h0 n0 X K M (W P G N (.block id c) Q)) g':=fun h' T st hK hq hM=>GO (h h' T st hK hq hM)
theorem q6(h:To (SG j q h0 n0 X K M (Q .nor)) g'):To (SG j q h0 n0 X K M (W P G N (.skip) Q)) g':=fun h' T st hK hq hM=>Xr (h h' T st hK hq hM)
theorem Sh{l:Nat}(h:To (SG j q h0 n0 X K M (Q .nor)) g'):To (SG j q h0 n0 X K M (W P G N (.label l) Q)) g':=fun h' T st hK hq hM=>yO (h h' T st hK hq hM)
theorem C7{l:List Oper}(h:To (SG j q h0 n0 X K M (WR P G N l l (Q .nor))) g'):To (SG j q h0 n0 X K M (W P G N (.region id l.toArray false) Q)) g':=fun h' T st hK hq hM=>Qv (h h' T st hK hq hM)
theorem xF(h:To (SG j q h0 n0 X K M (R)) g'):To (SG j q h0 n0 X K M (WR P G N ops [] R)) g':=fun h' T st hK hq hM=>Uo (h h' T st hK hq hM)
theorem ei{a b:Code}(hg:Jb G K g=some (.bool true))(h:To (SG j q h0 n0 X K M (W P G N (a) Q)) g'):To (SG (j+1) q h0 n0 X K M (W P G N (.cond g a b) Q)) g':=fun h' T st hK hq hM=>Qq (hK.QJ hg) (fun _=>h h' T st hK hq hM) (fun e=>by cases e)
theorem en{a b:Code}(hg:Jb G K g=some (.bool false))(h:To (SG j q h0 n0 X K M (W P G N (b) Q)) g'):To (SG (j+1) q h0 n0 X K M (W P G N (.cond g a b) Q)) g':=fun h' T st hK hq hM=>Qq (hK.QJ hg) (fun e=>by cases e) (fun _=>h h' T st hK hq hM)
theorem aF(hp:PO P G h0 n0 X K M op v)(hN:Nat.ble (d+1) N=true)(h:To (SG j q h0 n0 X ((d,v)::K) M (WR P G N ops rest R)) g'):To (SG (j+1) q h0 n0 X K M (WR P G N ops (⟨some d,op,ty,pos,af,none⟩::rest) R)) g':=fun h' T st hK hq hM=>o1 hK (hp.h st hM) hN fun T' hK'=>h h' T' st hK' hq hM
theorem aG(hp:PO P G h0 n0 X K M op v)(hh:UW ops jj=some tt∧K.lookup tt=some (.bool pol)∧Nat.ble (d+1) N=true)(h:To (SG j q h0 n0 X ((d,v)::K) M (WR P G N ops rest R)) g'):To (SG (j+1) q h0 n0 X K M (WR P G N ops (⟨some d,op,ty,pos,af,some (jj,pol)⟩::rest) R)) g':=fun h' T st hK hq hM=>og hK hh.1 hh.2.1 (hp.h st hM) hh.2.2 fun T' hK'=>h h' T' st hK' hq hM
theorem eh(hh:UW ops jj=some tt∧K.lookup tt=some (.bool A)∧(A==pol)=false∧Nat.ble (d+1) N=true)(h:To (SG j q h0 n0 X ((d,.tup [])::K) M (WR P G N ops rest R)) g'):To (SG (j+1) q h0 n0 X K M (WR P G N ops (⟨some d,op,ty,pos,af,some (jj,pol)⟩::rest) R)) g':=fun h' T st hK hq hM=>gn hK hh.1 hh.2.1 hh.2.2.1 hh.2.2.2 fun T' hK'=>h h' T' st hK' hq hM
theorem xG(hh:UW ops jj=some tt∧K.lookup tt=some (.tup [])∧Nat.ble (d+1) N=true)(h:To (SG j q h0 n0 X ((d,.tup [])::K) M (WR P G N ops rest R)) g'):To (SG (j+1) q h0 n0 X K M (WR P G N ops (⟨some d,op,ty,pos,af,some (jj,pol)⟩::rest) R)) g':=fun h' T st hK hq hM=>aU hK hh.1 hh.2.1 hh.2.2 fun T' hK'=>h h' T' st hK' hq hM
theorem WO [hz:SZ P t n](i:Nat){r':List AV}(hh:Jb G K x=some (.ptr c m off)∧Jb G K y=some v∧M[i]? =some (c,m,r)∧(Jn v).length=n∧Vl Qu (Jn v)=true∧Zo (Jn v) off r=some r')(h:To (SG j (fun _=>True) h0 n0 X K (M.set i (c,m,r')) (WR P G N ops rest R)) g'):To (SG (j+1) (fun _=>True) h0 n0 X K M (WR P G N ops (⟨none,.store t x y,ty,pos,af,none⟩::rest) R)) g':=fun h' T st hK _ hM=>QS (k:=i) hK hM hh.1 hh.2.1 hh.2.2.1 hz.h hh.2.2.2.1 hh.2.2.2.2.1 hh.2.2.2.2.2 fun st' hM'=>h h' T st' hK trivial hM'
theorem zb{g:Nat→Prop} [hz:ZE P t l](hN:Nat.ble (d+1) N=true)(h: ∀c,To (SG j (fun _=>True) h0 n0 X ((d,.ptr c 0 0)::K) ((c,0,l)::M) (WR P G N ops rest R)) (g c)):To (SG (j+1) (fun _=>True) h0 n0 X K M (WR P G N ops (⟨some d,.alloc t,ty,pos,af,none⟩::rest) R)) (∀c,g c):=fun h' T st hK _ hM=>Ln hK hM hz.h (Nat.le_of_ble_eq_true hN) fun c T' st' hK' hM'=>h c (h' c) T' st' hK' trivial hM'
theorem eo{g:Nat→Prop}(hh:Jb G K x=some v∧Nat.ble (d+1) N=true)(hc:True→Vl Qu (Jn v)=true)(h: ∀c,To (SG j (fun _=>True) h0 n0 X ((d,.ptr c 0 0)::K) ((c,0,Jn v)::M) (WR P G N ops rest R)) (g c)):To (SG (j+1) (fun _=>True) h0 n0 X K M (WR P G N ops (⟨some d,.box t x,ty,pos,af,none⟩::rest) R)) (∀c,g c):=fun h' T st hK _ hM=>Jv hK hM hh.1 (hc trivial) (Nat.le_of_ble_eq_true hh.2) fun c T' st' hK' hM'=>h c (h' c) T' st' hK' trivial hM'
theorem ai{g:Nat→Prop}{e:TypeId}{len w:Nat}{parts:Array (Nat×Operand)}{ps:List (Nat×AV)} [hs:SL P t e w] [hz:ZE P e l](hh:Zq (Jb G K) parts=some ps∧XH (fun i=>some (i *w,w)) ps (Ve len l)=some r∧Vl Qu r=true∧Nat.ble (len *w) 16777216=true∧Nat.ble (d+1) N=true)(h: ∀c,To (SG j (fun _=>True) h0 n0 X ((d,.sl c 0 0 len w)::K) ((c,0,r)::M) (WR P G N ops rest R)) (g c)):To (SG (j+1) (fun _=>True) h0 n0 X K M (WR P G N ops (⟨some d,.buildSlice t len parts,ty,pos,af,none⟩::rest) R)) (∀c,g c):=fun h' T st hK _ hM=>ZV hK hM hs.h hz.h hh.1 hh.2.1 hh.2.2.1 hh.2.2.2.1 hh.2.2.2.2 fun c T' st' hK' hM'=>h c (h' c) T' st' hK' trivial hM'
theorem vj{g:Prop}:To g g:=id
theorem yZ:To (SG j (fun s=>s=st) h0 n0 X K M (F)) (∀T,QZ K T→F T st):=fun h T _ hK hq hM=>hq▸h T hK
theorem eZ{k:Tr AV→St→Prop}(h:To (SG j q h0 n0 X K M (W P G N (.ret) Q)) g'):To (SG j q h0 n0 X K M (W P G N (.ret) (Lv k Q))) g':=fun h' T st hK hq hM=>Jz (by have h2:=h h' T st hK hq hM;obtain⟨L,n,x,T',st',h3,h4⟩:=h2;injection h3 with h3;injection h3 with h5 h6;injection h6 with h6 h7;subst h5 h6 h7;exact h4)
theorem aa(h:To (SG j q h0 n0 X K M (W P G N (.ret) Q)) g'):To (SG j q h0 n0 X K M (W P G N (.ret) (Cf id Q))) g':=fun h' T st hK hq hM=>Jz (by have h2:=h h' T st hK hq hM;obtain⟨L,n,x,T',st',h3,h4⟩:=h2;injection h3 with h3;injection h3 with h5 h6;injection h6 with h6 h7;subst h5 h6 h7;exact h4)
theorem ag{Z:AV→St→Prop}{rs:List ResultVar}(hr:rs=[.tmp t1])(hh:K.lookup t1=some v):To (SG j (fun s=>s=st) h0 n0 X K M (W P G N (.ret) (fun x T s=>(x=.nor∨x=.ret)∧ ∃v,J9 P rs T s=some v∧Z v s))) (Z v st):=fun h' T s hK hq hM=>Jz ⟨.inr rfl,_,by rw[hr];exact KU (Q9 hK hh),by subst hq;exact h'⟩
theorem ae{t2:Nat}{Z:AV→St→Prop}{rs:List ResultVar}(hr:rs=[.tmp t1,.tmp t2])(hh:K.lookup t1=some u∧K.lookup t2=some v):To (SG j (fun s=>s=st) h0 n0 X K M (W P G N (.ret) (fun x T s=>(x=.nor∨x=.ret)∧ ∃v,J9 P rs T s=some v∧Z v s))) (Z (.tup [u,v]) st):=fun h' T s hK hq hM=>Jz ⟨.inr rfl,_,by rw[hr];exact Ud (Q9 hK hh.1) (Q9 hK hh.2),by subst hq;exact h'⟩
theorem vi{Z:AV→St→Prop}{rs:List ResultVar}(i:Nat)(ht:TA P t n)(hr:rs=[.cell t1 t])(hh:K.lookup t1=some (.ptr c m off)∧M[i]? =some (c,m,l)∧Ew n (Ez off l) (fun r=>some (AV.agg r))=some (.agg r)):To (SG j (fun s=>s=st) h0 n0 X K M (W P G N (.ret) (fun x T s=>(x=.nor∨x=.ret)∧ ∃v,J9 P rs T s=some v∧Z v s))) (Z (.agg r) st):=fun h' T s hK hq hM=>Jz ⟨.inr rfl,_,by rw[hr];exact KU (JG hK hh.1 (hM.load hh.2.1 (QG ht.h hh.2.2))),by subst hq;exact h'⟩
theorem au(j:Nat){T:Tr AV}{st:St}(hK:QZ K T)(hM:Mem h0 n0 X st M)(hn:g')(h:To (SG j (fun _=>True) h0 n0 X K M (F)) g':=by
 repeat' first
  |with_reducible refine' q5 ?_
  |with_reducible refine' xH ?_
  |with_reducible refine' xE ?_
  |with_reducible refine' xF ?_
  |with_reducible refine' Si ?_
  |with_reducible refine' q6 ?_
  |with_reducible refine' Sh ?_
  |with_reducible refine' C7 ?_
  |((first|with_reducible refine' aF ?_ ?_ ?_|with_reducible refine' aG ?_ ?_ ?_);(any_goals(first|(apply Br<;>exact rfl)|(apply Hv<;>exact rfl)|(apply Ut 0<;>exact rfl)|(apply Ut 1<;>exact rfl)|(apply Ut 2<;>exact rfl)|(apply Ut 3<;>exact rfl)|(apply Ut 4<;>exact rfl)|(apply Ut 5<;>exact rfl)|(apply Ut 6<;>exact rfl)|(apply JL 0<;>exact rfl)|(apply JL 1<;>exact rfl)|(apply JL 2<;>exact rfl)|(apply JL 3<;>exact rfl)|(apply JL 4<;>exact rfl)|(apply JL 5<;>exact rfl)|(apply JL 6<;>exact rfl)|(apply S7<;>exact rfl)|(apply Bo<;>exact rfl)|(apply S8<;>exact rfl)|(apply Bm<;>exact rfl)|(apply Sw<;>exact rfl)|(apply Sz<;>exact rfl)|(apply S5<;>exact rfl)|(apply S0<;>exact rfl)|(apply S6<;>exact rfl)|(apply SA<;>exact rfl)|(apply Sy<;>exact rfl)|(apply S9<;>exact rfl)|(apply Sx<;>exact rfl)|(apply SB;exact rfl;exact rfl;omega;omega)|(apply Sv;exact rfl;exact rfl;omega;omega)|(apply Bs<;>exact rfl)|(apply KX<;>exact rfl)));any_goals first|exact rfl|exact⟨rfl,rfl,rfl⟩)
  |((with_reducible refine' eh ?_ ?_);any_goals exact⟨rfl,rfl,rfl,rfl⟩)
  |((with_reducible refine' xG ?_ ?_);any_goals exact⟨rfl,rfl,rfl⟩)
  |((with_reducible refine' ei ?_ ?_);any_goals exact rfl)
  |((with_reducible refine' en ?_ ?_);any_goals exact rfl)
  |((with_reducible refine' WO 0 ?_ ?_);any_goals exact⟨rfl,rfl,rfl,rfl,rfl,rfl⟩)
  |((with_reducible refine' WO 1 ?_ ?_);any_goals exact⟨rfl,rfl,rfl,rfl,rfl,rfl⟩)
  |((with_reducible refine' WO 2 ?_ ?_);any_goals exact⟨rfl,rfl,rfl,rfl,rfl,rfl⟩)
  |((with_reducible refine' WO 3 ?_ ?_);any_goals exact⟨rfl,rfl,rfl,rfl,rfl,rfl⟩)
  |((with_reducible refine' WO 4 ?_ ?_);any_goals exact⟨rfl,rfl,rfl,rfl,rfl,rfl⟩)
  |((with_reducible refine' WO 5 ?_ ?_);any_goals exact⟨rfl,rfl,rfl,rfl,rfl,rfl⟩)
  |((with_reducible refine' WO 6 ?_ ?_);any_goals exact⟨rfl,rfl,rfl,rfl,rfl,rfl⟩)
  |((with_reducible refine' zb ?_ fun _=>?_);any_goals exact rfl)
  |((with_reducible refine' ai ?_ fun _=>?_);any_goals exact⟨rfl,rfl,rfl,rfl,rfl⟩)
  |((with_reducible refine' eo ?_ ?_ fun _=>?_);(any_goals exact⟨rfl,rfl⟩);any_goals(intro(_:True);(repeat first|exact rfl|assumption|refine Qa ?_ ?_);done))
  |with_reducible exact vj):F T st:=h hn T st hK trivial hM
theorem Qc(j:Nat){T:Tr AV}{st:St}(hK:QZ K T)(hM:Mem h0 n0 X st M)(hn:g')(h:To (SG j (fun s=>s=st) h0 n0 X K M (F)) g':=by
 repeat' first
  |with_reducible refine' q5 ?_
  |with_reducible refine' xH ?_
  |with_reducible refine' xE ?_
  |with_reducible refine' xF ?_
  |with_reducible refine' Si ?_
  |with_reducible refine' q6 ?_
  |with_reducible refine' Sh ?_
  |with_reducible refine' C7 ?_
  |((first|with_reducible refine' aF ?_ ?_ ?_|with_reducible refine' aG ?_ ?_ ?_);(any_goals(first|(apply Br<;>exact rfl)|(apply Hv<;>exact rfl)|(apply Ut 0<;>exact rfl)|(apply Ut 1<;>exact rfl)|(apply Ut 2<;>exact rfl)|(apply Ut 3<;>exact rfl)|(apply Ut 4<;>exact rfl)|(apply Ut 5<;>exact rfl)|(apply Ut 6<;>exact rfl)|(apply JL 0<;>exact rfl)|(apply JL 1<;>exact rfl)|(apply JL 2<;>exact rfl)|(apply JL 3<;>exact rfl)|(apply JL 4<;>exact rfl)|(apply JL 5<;>exact rfl)|(apply JL 6<;>exact rfl)|(apply S7<;>exact rfl)|(apply Bo<;>exact rfl)|(apply S8<;>exact rfl)|(apply Bm<;>exact rfl)|(apply Sw<;>exact rfl)|(apply Sz<;>exact rfl)|(apply S5<;>exact rfl)|(apply S0<;>exact rfl)|(apply S6<;>exact rfl)|(apply SA<;>exact rfl)|(apply Sy<;>exact rfl)|(apply S9<;>exact rfl)|(apply Sx<;>exact rfl)|(apply SB;exact rfl;exact rfl;omega;omega)|(apply Sv;exact rfl;exact rfl;omega;omega)|(apply Bs<;>exact rfl)|(apply KX<;>exact rfl)));any_goals first|exact rfl|exact⟨rfl,rfl,rfl⟩)
  |((with_reducible refine' eh ?_ ?_);any_goals exact⟨rfl,rfl,rfl,rfl⟩)
  |((with_reducible refine' xG ?_ ?_);any_goals exact⟨rfl,rfl,rfl⟩)
  |((with_reducible refine' ei ?_ ?_);any_goals exact rfl)
  |((with_reducible refine' en ?_ ?_);any_goals exact rfl)
  |with_reducible refine' eZ ?_
  |with_reducible refine' aa ?_
  |((with_reducible refine' ag ?_ ?_);any_goals exact rfl)
  |((with_reducible refine' ae ?_ ?_);(any_goals exact rfl);any_goals exact⟨rfl,rfl⟩)
  |((with_reducible refine' vi 0 ?_ ?_ ?_);(any_goals exact rfl);(any_goals infer_instance);any_goals exact⟨rfl,rfl,rfl⟩)
  |((with_reducible refine' vi 1 ?_ ?_ ?_);(any_goals exact rfl);(any_goals infer_instance);any_goals exact⟨rfl,rfl,rfl⟩)
  |((with_reducible refine' vi 2 ?_ ?_ ?_);(any_goals exact rfl);(any_goals infer_instance);any_goals exact⟨rfl,rfl,rfl⟩)
  |with_reducible exact yZ):F T st:=h hn T st hK rfl hM
def DG(P:Program)(G:Env)(N:Nat)(h0:Hp)(n0:Nat)(X:List Nat)(M:List (Nat×Nat×List AV))(st:St)(sn:List St)(ops:List Oper)(R:Tr AV→St→Prop)(j:Nat)(w:List (Nat×Nat))(K:List (Nat×AV)):Prop:=Mem h0 n0 X st M→ ∀T,QZ K T→WD P G N ops (w.map (Yo ops)) R T st sn
theorem aP(ho:ops[i]? =some (⟨some d,op,ty,pos,af,none⟩))(hp:PO P G h0 n0 X K M op v)(hh:Nat.beq (QI P op) 3=false∧Nat.ble (d+1) N=true)(h:To (DG P G N h0 n0 X M st sn ops R j w ((d,v)::K)) g'):To (DG P G N h0 n0 X M st sn ops R (j+1) ((i,0)::w) K) g':=fun h' hM T hK=>d1 ho hK (hp.h st hM) hh.1 hh.2 fun T' hK'=>h h' hM T' hK'
theorem ah(ho:ops[i]? =some (⟨some d,op,ty,pos,af,some (jj,pol)⟩))(hp:PO P G h0 n0 X K M op v)(hh:UW ops jj=some tt∧K.lookup tt=some (.bool pol)∧Nat.beq (QI P op) 3=false∧Nat.ble (d+1) N=true)(h:To (DG P G N h0 n0 X M st sn ops R j w ((d,v)::K)) g'):To (DG P G N h0 n0 X M st sn ops R (j+1) ((i,0)::w) K) g':=fun h' hM T hK=>dg ho hK hh.1 hh.2.1 (hp.h st hM) hh.2.2.1 hh.2.2.2 fun T' hK'=>h h' hM T' hK'
theorem za:To (DG P G N h0 n0 X M st sn ops R i w K) (∀T,QZ K T→WD P G N ops (w.map (Yo ops)) R T st sn):=fun h _=>h
theorem Jc(j:Nat){T:Tr AV}(hK:QZ K T)(hM:Mem h0 n0 X st M)(hn:g')(h:To (DG P G N h0 n0 X M st sn ops R j w K) g':=by
 repeat' first
  |((first|with_reducible refine' aP ?_ ?_ ?_ ?_);(any_goals exact rfl);(any_goals(first|(apply Br<;>exact rfl)|(apply Hv<;>exact rfl)|(apply Ut 0<;>exact rfl)|(apply Ut 1<;>exact rfl)|(apply Ut 2<;>exact rfl)|(apply Ut 3<;>exact rfl)|(apply Ut 4<;>exact rfl)|(apply Ut 5<;>exact rfl)|(apply Ut 6<;>exact rfl)|(apply JL 0<;>exact rfl)|(apply JL 1<;>exact rfl)|(apply JL 2<;>exact rfl)|(apply JL 3<;>exact rfl)|(apply JL 4<;>exact rfl)|(apply JL 5<;>exact rfl)|(apply JL 6<;>exact rfl)|(apply S7<;>exact rfl)|(apply Bo<;>exact rfl)|(apply S8<;>exact rfl)|(apply Bm<;>exact rfl)|(apply Sw<;>exact rfl)|(apply Sz<;>exact rfl)|(apply S5<;>exact rfl)|(apply S0<;>exact rfl)|(apply S6<;>exact rfl)|(apply SA<;>exact rfl)|(apply Sy<;>exact rfl)|(apply S9<;>exact rfl)|(apply Sx<;>exact rfl)|(apply SB;exact rfl;exact rfl;omega;omega)|(apply Sv;exact rfl;exact rfl;omega;omega)|(apply Bs<;>exact rfl)|(apply KX<;>exact rfl)));any_goals exact⟨rfl,rfl⟩)
  |((with_reducible refine' ah ?_ ?_ ?_ ?_);(any_goals exact rfl);(any_goals(first|(apply Br<;>exact rfl)|(apply Hv<;>exact rfl)|(apply Ut 0<;>exact rfl)|(apply Ut 1<;>exact rfl)|(apply Ut 2<;>exact rfl)|(apply Ut 3<;>exact rfl)|(apply Ut 4<;>exact rfl)|(apply Ut 5<;>exact rfl)|(apply Ut 6<;>exact rfl)|(apply JL 0<;>exact rfl)|(apply JL 1<;>exact rfl)|(apply JL 2<;>exact rfl)|(apply JL 3<;>exact rfl)|(apply JL 4<;>exact rfl)|(apply JL 5<;>exact rfl)|(apply JL 6<;>exact rfl)|(apply S7<;>exact rfl)|(apply Bo<;>exact rfl)|(apply S8<;>exact rfl)|(apply Bm<;>exact rfl)|(apply Sw<;>exact rfl)|(apply Sz<;>exact rfl)|(apply S5<;>exact rfl)|(apply S0<;>exact rfl)|(apply S6<;>exact rfl)|(apply SA<;>exact rfl)|(apply Sy<;>exact rfl)|(apply S9<;>exact rfl)|(apply Sx<;>exact rfl)|(apply SB;exact rfl;exact rfl;omega;omega)|(apply Sv;exact rfl;exact rfl;omega;omega)|(apply Bs<;>exact rfl)|(apply KX<;>exact rfl)));any_goals exact⟨rfl,rfl,rfl,rfl⟩)
  |with_reducible exact za):WD P G N ops (w.map (Yo ops)) R T st sn:=h hn hM T hK
end
section
variable {P:Program} {G:Env} {N:Nat} {h0:Hp} {n0:Nat} {X:List Nat} {K:List (Nat×AV)} {M:List (Nat×Nat×List AV)} {ops rest:List Oper} {R:Tr AV→St→Prop} {Q:Ex→Tr AV→St→Prop} {d:Nat} {ty:TypeId} {pos:String} {af:Array Edge} {T:Tr AV} {st:St}
theorem JS{a b:Code}{p:Prop} [Decidable p](hK:QZ K T)(hg:Jb G K g=some (.bool (decide p)))(ha:p→W P G N a Q T st)(hb: ¬p→W P G N b Q T st):W P G N (.cond g a b) Q T st:=Qq (hK.QJ hg) (fun h=>ha (of_decide_eq_true h)) fun h=>hb (of_decide_eq_false h)
theorem vd{a b:Code}{p:Prop} [Decidable p](hK:QZ K T)(hg:Jb G K g=some (.bool (!decide p)))(ha: ¬p→W P G N a Q T st)(hb:p→W P G N b Q T st):W P G N (.cond g a b) Q T st:=Qq (hK.QJ hg) (fun h=>ha (by simpa using h)) fun h=>hb (by simpa using h)
theorem oQ{args:Array Operand}{tys:Array TypeId}{l:List AV}{u:AV}(hK:QZ K T)(hM:Mem h0 n0 X st M)(h: ∃v st',Ev P G f l st v st'∧v=u∧Qt st st')(ha:U0 (Jb G K) args.toList=some l)(hN:Nat.ble (d+1) N=true)(hn: ∀T' st',QZ ((d,u)::K) T'→Mem h0 n0 X st' M→WR P G N ops rest R T' st'):
  WR P G N ops (⟨some d,.call {callee:=.value (.func f),args:=args,argTypes:=tys},ty,pos,af,none⟩::rest) R T st:=by
 obtain⟨v,st',ev,rfl,q⟩:=h;exact o1 hK (Qh ha ev) hN fun T' hK'=>hn T' st' hK' (hM.quiet q)
theorem oR{args:Array Operand}{tys:Array TypeId}{l:List AV}{u:AV}(k:Nat){c m m':Nat}{r r':List AV}(hK:QZ K T)(hM:Mem h0 n0 X st M)(h: ∃v st',Ev P G f l st v st'∧v=u∧x9 [c] st st'∧Q4 st'.h.get c m' r')(hk:M[k]? =some (c,m,r))(ha:U0 (Jb G K) args.toList=some l)(hN:Nat.ble (d+1) N=true)(hn: ∀T' st',QZ ((d,u)::K) T'→Mem h0 n0 X st' (M.set k (c,m',r'))→WR P G N ops rest R T' st'):
  WR P G N ops (⟨some d,.call {callee:=.value (.func f),args:=args,argTypes:=tys},ty,pos,af,none⟩::rest) R T st:=by
 obtain⟨v,st',ev,rfl,q,w⟩:=h;exact o1 hK (Qh ha ev) hN fun T' hK'=>hn T' st' hK' (hM.uW hk q w)
theorem BO{fn:Func}{c:Code}{N:Nat}{rs:List ResultVar}{args:List AV}{Q:AV→St→Prop}(hs:G.s f=none)(hf:P.funcs[f]? =some fn)(hb:fn.body=some c)(hN:fn.ntmps=N)(hr:fn.results.toList=rs)
 (h: ∀T,(∀t,Y0 T t=(args[t]?).getD (.tup []))→W P G N c (fun x T st=>(x=.nor∨x=.ret)∧ ∃v,J9 P rs T st=some v∧Q v st) T st) (hname:(fn.name== "runtime.NumGoroutine")=false:=by decide) (hl:args.length≤N:=by simp): ∃v st',Ev P G f args st v st'∧Q v st':=xP hs hf hb hN hr hname hl h
theorem aQ{t:Nat}{v:AV}(hK:QZ K T)(h:K.lookup t=some v):J9 P [.tmp t] T st=some v:=KU (Q9 hK h)
theorem rt2{t s:Nat}{u v:AV}(hK:QZ K T)(h:K.lookup t=some u)(h':K.lookup s=some v):J9 P [.tmp t,.tmp s] T st=some (.tup [u,v]):=Ud (Q9 hK h) (Q9 hK h')
theorem aH{a:Nat}{t:TypeId}{l r:List AV} [ht:TA P t n](k:Nat){c m off:Nat}(hK:QZ K T)(hM:Mem h0 n0 X st M)(h:K.lookup a=some (.ptr c m off))(hk:M[k]? =some (c,m,l))(hl:Ew n (Ez off l) (fun r=>some (AV.agg r))=some (.agg r)):J9 P [.cell a t] T st=some (.agg r):=KU (JG hK h (hM.load hk (QG ht.h hl)))
theorem Un{op:Op}{p:Prop} [Decidable p](hK:QZ K T)(h:U4 P G K op st (.bool (decide p)) st)(hN:Nat.ble (d+1) N=true)(hf: ∀T',¬p→QZ ((d,.bool false)::K) T'→WR P G N ops rest R T' st)(ht: ∀T',p→QZ ((d,.bool true)::K) T'→WR P G N ops rest R T' st):WR P G N ops (⟨some d,op,ty,pos,af,none⟩::rest) R T st:=oB hK h hN (fun b T' e K'=>by cases b;exact hf T' (of_decide_eq_false e) K';exact ht T' (of_decide_eq_true e) K')
theorem xK{op:Op}{p:Prop} [Decidable p](hK:QZ K T)(h:U4 P G K op st (.bool (!decide p)) st)(hN:Nat.ble (d+1) N=true)(hf: ∀T',p→QZ ((d,.bool false)::K) T'→WR P G N ops rest R T' st)(ht: ∀T',¬p→QZ ((d,.bool true)::K) T'→WR P G N ops rest R T' st):WR P G N ops (⟨some d,op,ty,pos,af,none⟩::rest) R T st:=oB hK h hN (fun b T' e K'=>by cases b;exact hf T' ((by simpa using e)) K';exact ht T' ((by simpa using e)) K')
theorem LX{op:Op}{p:Prop} [Decidable p](hK:QZ K T)(hd:UW ops jj=some tt)(hb:K.lookup tt=some (.bool pol))(h:U4 P G K op st (.bool (decide p)) st)(hN:Nat.ble (d+1) N=true)(hf: ∀T',¬p→QZ ((d,.bool false)::K) T'→WR P G N ops rest R T' st)(ht: ∀T',p→QZ ((d,.bool true)::K) T'→WR P G N ops rest R T' st):WR P G N ops (⟨some d,op,ty,pos,af,some (jj,pol)⟩::rest) R T st:=al hK hd hb h hN (fun b T' e K'=>by cases b;exact hf T' (of_decide_eq_false e) K';exact ht T' (of_decide_eq_true e) K')
theorem aS{op:Op}{p:Prop} [Decidable p](hK:QZ K T)(hd:UW ops jj=some tt)(hb:K.lookup tt=some (.bool pol))(h:U4 P G K op st (.bool (!decide p)) st)(hN:Nat.ble (d+1) N=true)(hf: ∀T',p→QZ ((d,.bool false)::K) T'→WR P G N ops rest R T' st)(ht: ∀T',¬p→QZ ((d,.bool true)::K) T'→WR P G N ops rest R T' st):WR P G N ops (⟨some d,op,ty,pos,af,some (jj,pol)⟩::rest) R T st:=al hK hd hb h hN (fun b T' e K'=>by cases b;exact hf T' ((by simpa using e)) K';exact ht T' ((by simpa using e)) K')
theorem aw{op:Op}{p:Prop} [Decidable p](ho:ops[i]? =some (⟨some d,op,ty,pos,af,none⟩))(hK:QZ K T)(h:U4 P G K op st (.bool (decide p)) st)(hk:Nat.beq (QI P op) 3=false)(hN:Nat.ble (d+1) N=true)(hf: ∀T',¬p→QZ ((d,.bool false)::K) T'→WD P G N ops (w.map (Yo ops)) R T' st sn)(ht: ∀T',p→QZ ((d,.bool true)::K) T'→WD P G N ops (w.map (Yo ops)) R T' st sn):WD P G N ops (((i,0)::w).map (Yo ops)) R T st sn:=dB ho hK h hk hN (fun b T' e K'=>by cases b;exact hf T' (of_decide_eq_false e) K';exact ht T' (of_decide_eq_true e) K')
theorem dBn{op:Op}{p:Prop} [Decidable p](ho:ops[i]? =some (⟨some d,op,ty,pos,af,none⟩))(hK:QZ K T)(h:U4 P G K op st (.bool (!decide p)) st)(hk:Nat.beq (QI P op) 3=false)(hN:Nat.ble (d+1) N=true)(hf: ∀T',p→QZ ((d,.bool false)::K) T'→WD P G N ops (w.map (Yo ops)) R T' st sn)(ht: ∀T',¬p→QZ ((d,.bool true)::K) T'→WD P G N ops (w.map (Yo ops)) R T' st sn):WD P G N ops (((i,0)::w).map (Yo ops)) R T st sn:=dB ho hK h hk hN (fun b T' e K'=>by cases b;exact hf T' ((by simpa using e)) K';exact ht T' ((by simpa using e)) K')
def wI:Nat→List AV→List (Nat×AV)
 |_,[]=>[]
 |i,v::l=>(i,v)::wI (i+1) l
theorem Tz: ∀(l:List AV) (i:Nat),(∀t,i≤t→Y0 T t=(l[t-i]?).getD (.tup []))→QZ (wI i l) T
 |[],_,_=>.nil
 |v::l,i,h=>.cons (by have:=h i (Nat.le_refl _);rwa [Nat.sub_self]at this) (Tz l (i+1) fun t ht=>by
  have:=h t Qe;rw[show t-i=t-(i+1)+1 by omega]at this
  exact this)
theorem JI{fn:Func}{c:Code}{N:Nat}{args:List AV}{Q:AV→St→Prop}(hf:P.funcs[f]? =some fn)(hN:fn.ntmps=N)
 (h: ∀T,QZ (wI 0 args) T→W P G N c (fun x T st=>(x=.nor∨x=.ret)∧ ∃v,J9 P fn.results.toList T st=some v∧Q v st) T st) (hs:G.s f=none:=by rfl) (hb:fn.body=some c:=by rfl) (hname:(fn.name== "runtime.NumGoroutine")=false:=by decide) (hl:args.length≤N:=by simp): ∃v st',Ev P G f args st v st'∧Q v st':=xP hs hf hb hN rfl hname hl fun T hT=>h T (Tz args 0 fun t _=>hT t)
theorem p1{op:Op}{v:AV}(hK:QZ K T)(h:U4 P G K op st v st1)(hn: ∀T',QZ ((d,v)::K) T'→WR P G N ops rest R T' st1)(hN:Nat.ble (d+1) N=true:=by exact rfl):WR P G N ops (⟨some d,op,ty,pos,af,none⟩::rest) R T st:=o1 hK h hN hn
theorem pg{j t:Nat}{op:Op}{v:AV}(hK:QZ K T)(ht:UW ops j=some t)(hb:K.lookup t=some (.bool pol))(h:U4 P G K op st v st1)(hn: ∀T',QZ ((d,v)::K) T'→WR P G N ops rest R T' st1)(hN:Nat.ble (d+1) N=true:=by exact rfl):WR P G N ops (⟨some d,op,ty,pos,af,some (j,pol)⟩::rest) R T st:=og hK ht hb h hN hn
theorem q1{r:List (Nat×Nat)}{op:Op}{v:AV}(ho:ops[i]? =some ⟨some d,op,ty,pos,af,none⟩)(hK:QZ K T)(h:U4 P G K op st v st1)(hn: ∀T',QZ ((d,v)::K) T'→WD P G N ops (r.map (Yo ops)) R T' st1 sn)(hk:Nat.beq (QI P op) 3=false:=by exact rfl)(hN:Nat.ble (d+1) N=true:=by exact rfl):WD P G N ops (((i,0)::r).map (Yo ops)) R T st sn:=d1 ho hK h hk hN hn
theorem qA{r:List (Nat×Nat)}{op:Op}{v:AV}(ho:ops[i]? =some ⟨some d,op,ty,pos,af,none⟩)(hK:QZ K T)(h:U4 P G K op st v st1)(hn: ∀T',QZ ((d,v)::K) T'→WD P G N ops (r.map (Yo ops)) R T' st1 (st1::sn))(hk:Nat.beq (QI P op) 3=true:=by exact rfl)(hN:Nat.ble (d+1) N=true:=by exact rfl):WD P G N ops (((i,0)::r).map (Yo ops)) R T st sn:=dA ho hK h hk hN hn
end
end Go.Proofs.YtiknomepbklibaaGreatDoor
end
