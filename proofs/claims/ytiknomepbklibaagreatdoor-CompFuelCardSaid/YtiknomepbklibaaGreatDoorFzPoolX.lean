/-
  Rows of numbers that calls make; sets in memory; a map's entries.
-/
import Derived.Test.YtiknomepbklibaaGreatDoorFzArr
set_option maxRecDepth 100000
set_option linter.unusedVariables false
section
namespace Go.Proofs.YtiknomepbklibaaGreatDoor
open Go Go.RowKit
variable {c m:Nat}

abbrev U9:=List (Nat×Nat×List AV)
theorem G5(l:List Int):(zC l).flatten=l.map FW:=by
 induction l with
 |nil=>rfl
 |cons z l ih=>rw[zC,List.map_cons,List.flatten_cons];show AV.int .i64 z::(zC l).flatten=_;rw[ih];rfl
inductive Ak(n0:Nat):U9→AV→List Int→Prop
 |none:Ak n0 [] .nils []
 |own {c m:Nat} {l:List Int} {rest:List AV} (hc:n0≤c) (hb:l.length≤1000000000):Ak n0 [(c,m,l.map FW++rest)] (.sl c m 0 l.length 1) l
theorem Ak.cell{n0:Nat}{A:U9}{ks:AV}{l:List Int}(h:Ak n0 A ks l):Qu ks=true:=by cases h<;>rfl
theorem yW{h:Hp}{l:List Int}{rest:List AV}(r:Q0 h c m (l.map FW++rest))(hb:l.length≤1000000000):Ji h [] 1 (zC l) (.sl c m 0 l.length 1):=by
 refine⟨by rw[Qn];rfl,by rw[Qn];omega,rfl,fun i cs hi=>?_,fun c' m' off n z' e=>?_⟩
 ·have hlt:=(List.getElem?_eq_some_iff.1 hi).1;rw[Qn]at hlt;rw[Jr (List.getElem?_eq_getElem hlt)]at hi
  injection hi with hi
  subst hi;refine⟨c,m,0,_,by rw[Qn],by simp,r.Jd,rfl,?_⟩
  have e1:(l.map FW++rest)[i]? =some (FW l[i]):=by
   rw[List.getElem?_append_left (by rw[List.length_map];exact hlt),List.getElem?_map,List.getElem?_eq_getElem hlt];rfl
  obtain⟨hi2,e2⟩:=List.getElem?_eq_some_iff.1 e1;rw[Nat.zero_add,Nat.mul_one,List.drop_eq_getElem_cons hi2,e2];rfl
 ·injection e with e1 e2 e3 e4 e5
  subst e1 e2 e3 e4 e5;exact⟨by simp,_,r.Jd,by simp⟩
section
variable {h0:Hp} {n0:Nat} {X:List Nat} {st st':St} {M L A B:U9} {ks:AV} {l:List Int}
theorem Mem.xk(hM:Mem h0 n0 X st (L++(A++B))){n1:Nat}(hA:Ak n1 A ks l):Ji st.h.get [] 1 (zC l) ks:=by
 cases hA with
 |none=>exact .nil _ _ _
 |own hc hb=>
  rename_i c m rest;exact yW (hM.row c m (l.map FW++rest) QA) hb
theorem Mem.P2(hM:Mem h0 n0 X st (L++((A++B)))){x:List AV}(h:(c,m,x)∈A):Q0 st.h.get c m x:=hM.row c m x (by simp[h])
theorem Mem.uC{x x':List AV}(hM:Mem h0 n0 X st (L++((c,m,x)::B)))(q:xj [c] st st')(hr:Q0 st'.h.get c m x'):Mem h0 n0 X st' (L++((c,m,x')::B)):=by
 have hp:(L++(c,m,x)::B).Perm ((c,m,x)::(L++B)):=List.perm_middle;have h1:=hM.perm hp;have h2:=h1.uG (k:=0) rfl q hr;exact Mem.perm (h2.cast (by rfl)) (List.perm_middle (l₁:=L) (l₂:=B) (a:=(c,m,x'))).symm
end
theorem YV(l:List Int):(XG l).length=l.length:=List.length_mergeSort _
theorem M8(l:List Int):(Ad l).length=l.length:=by
 have:=YZ l;simp[Ad];omega
theorem YW{α:Type}{l:List α}(h:l.length=0):l=[]:=List.length_eq_zero_iff.1 h
section
variable {h0:Hp} {n0:Nat} {X:List Nat} {st:St} {L A B:U9} {ks:AV} {l:List Int}
theorem OI(hM:Mem h0 n0 X st (L++(A++B)))(hA:Acc n0 1 A ks (zC l))(hb1:l.length≤1000000):
  ∃v st' A',Ev Tryz.prog Q4 66 [ks] st v st'∧v=.tup []∧Mem h0 n0 X st' (L++(A'++B))∧Acc n0 1 A' ks (zC (XG l)):=by
 have hb:=hA.Ew;rw[Qn]at hb;have h00:XG []=[]:=YW (YV []);generalize hg:zC l=ls at hA
 cases hA with
 |none=>
  have hl:l=[]:=YW (by have h:=congrArg List.length hg;rw[Qn]at h;exact h);subst hl;exact⟨_,st,[],IZ (V0:=fun _=>.tup []) (F:=XG) (V:=Ls) rfl hM.fresh,rfl,hM,by rw[h00];exact .none⟩
 |own hc hz hb'=>
  rename_i c m;subst hg
  by_cases hl:l=[]
  ·subst hl;exact⟨_,st,_,IY (V0:=fun _=>.tup []) (F:=XG) (V:=Ls) rfl hM.fresh c m,rfl,hM,by rw[h00];exact .own hc hz hb'⟩
  ·have hrow:Q0 st.h.get c m (zC l).flatten:=hM.P2 (A:=[(c,m,(zC l).flatten)]) QA
   have hs:XJ (zC l).flatten=some l:=by rw[G5];exact Ea l
   obtain⟨v,st',h1,h2,h3,h4⟩:=Ns (F:=XG) (V:=Ls) (V0:=fun _=>.tup []) (G:=Q4) (P:=Tryz.prog) (f:=66) rfl hM.fresh hrow hs hl hb1 (YV _);rw[←G5]at h3;refine⟨v,st',[(c,m,(zC (XG l)).flatten)],?_,h2,Mem.uC (L:=L) (B:=B) hM h4 h3,?_⟩
   ·rw[Qn];exact h1
   ·have:=Acc.own (m:=m) (ls:=zC (XG l)) hc (Fs _) (by rw[Qn,YV];exact hb);rw[Qn,YV]at this;rw[Qn];exact this
theorem Gr(hM:Mem h0 n0 X st (L++(A++B)))(hA:Acc n0 1 A ks (zC l))(hb1:l.length≤1000000):
  ∃v st' A',Ev Tryz.prog Q4 67 [ks] st v st'∧Ak n0 A' v (Lib.compact l)∧Mem h0 n0 X st' (L++(A'++B)):=by
 have hb:=hA.Ew;rw[Qn]at hb;have h00:Lib.compact ([]:List Int)=[]:=YW (Nat.le_zero.1 (YZ []));generalize hg:zC l=ls at hA
 cases hA with
 |none=>
  have hl:l=[]:=YW (by have h:=congrArg List.length hg;rw[Qn]at h;exact h);subst hl;exact⟨.nils,st,[],IZ (V0:=id) (F:=Ad) (V:=Ej) rfl hM.fresh,by rw[h00];exact .none,hM⟩
 |own hc hz hb'=>
  rename_i c m;subst hg
  by_cases hl:l=[]
  ·subst hl;refine⟨.sl c m 0 0 1,st,_,IY (V0:=id) (F:=Ad) (V:=Ej) rfl hM.fresh c m,?_,hM⟩;rw[h00];exact .own (l:=[]) (rest:=[]) hc QA
  ·have hrow:Q0 st.h.get c m (zC l).flatten:=hM.P2 (A:=[(c,m,(zC l).flatten)]) QA
   have hs:XJ (zC l).flatten=some l:=by rw[G5];exact Ea l
   obtain⟨v,st',h1,rfl,h3,h4⟩:=Ns (F:=Ad) (V:=Ej) (V0:=id) (G:=Q4) (P:=Tryz.prog) (f:=67) rfl hM.fresh hrow hs hl hb1 (M8 l);refine⟨Ej c m l,st',[(c,m,(Ad l).map FW)],?_,?_,Mem.uC (L:=L) (B:=B) hM h4 h3⟩
   ·rw[Qn];exact h1
   ·rw[Ad,List.map_append];exact .own hc (Nat.le_trans (YZ l) hb)
theorem SA(hM:Mem h0 n0 X st (L++(A++B))){n1:Nat}(hA:Ak n1 A ks l)(hi:Vh l)(hb1:l.length≤1000000):
  ∃v st',Ev Tryz.prog Q4 87 [ks] st v st'∧v=.str (Zh l)∧Qt st st':=by
 have hq:Qt st st:=⟨hM.fresh,Nat.le_refl _,fun _ _=>rfl⟩
 cases hA with
 |none=>exact⟨.str [],st,⟨0,1,rfl⟩,rfl,hq⟩
 |own hc hb=>
  rename_i c m rest;obtain⟨vs,ms,h1,h2⟩:=hM.P2 (A:=[(c,m,l.map FW++rest)]) (c:=c) (m:=m) (x:=l.map FW++rest) QA;have hall:l.all ec=true:=List.all_eq_true.2 fun z hz=>Rc.2 (hi z hz);refine⟨.str (Zh l),st,⟨0,1,?_⟩,rfl,hq⟩;show Ia [.sl c m 0 l.length 1] st=_;unfold Ia;simp only[h1,h2]
  have ht:(l.map FW++rest).take l.length=l.map FW:=by
   rw[List.take_append_of_le_length QA,List.take_of_length_le QA]
  rw[ht,Ea];simp only[];rw[if_pos ⟨trivial,hb1,hall⟩,KW hall]
end
end Go.Proofs.YtiknomepbklibaaGreatDoor
end
section
namespace Go.Proofs.YtiknomepbklibaaGreatDoor
open Go Go.RowKit
variable {c:Nat} {h:Hp} {ks:AV} {vs:List AV}

theorem Ji.frame{h':Hp}{z:Nat}{ls:List (List AV)}{v:AV}(r:Ji h [] z ls v)(e: ∀c m o n y,v=.sl c m o n y→h' c=h c):Ji h' [] z ls v:=
 ⟨r.len,r.Ew,r.cell,fun i cs hi=>by
  obtain⟨c,m,off,cells,h1,h2,⟨ro,e1,vs,ms,h3,h4⟩,h5⟩:=r.at_ i cs hi
  exact⟨c,m,off,cells,h1,h2,⟨ro,e1,vs,ms,by rw[e c m off _ _ h1];exact h3,h4⟩,h5⟩,fun c m off n z' e'=>by
  obtain⟨h1,cells,⟨ro,e1,vs,ms,h3,h4⟩,h5⟩:=r.alive c m off n z' e'
  exact⟨h1,cells,⟨ro,e1,vs,ms,by rw[e c m off n z' e'];exact h3,h4⟩,h5⟩⟩
theorem Q0.frame{h':Hp}{m:Nat}{l:List AV}(r:Q0 h c m l)(e:h' c=h c):Q0 h' c m l:=by
 obtain⟨vs,ms,h1,h2⟩:=r;exact⟨vs,ms,by rw[e];exact h1,h2⟩
theorem Q0.Su{m c':Nat}{l:List AV}{es:List (AV×AV×Nat)}{k:Nat}(r:Q0 h c m l)(hm:h c'=some (.map es k)):c≠c':=by
 rintro rfl
 obtain⟨vs,ms,h1,_⟩:=r;rw[h1]at hm;cases hm
inductive YO:U9→AV→List AV→Prop
 |none:YO [] .nils []
 |own {c m:Nat} {vs:List AV} (hb:vs.length≤1000000000):YO [(c,m,vs)] (.sl c m 0 vs.length 1) vs
theorem YO.len{A:U9}(h:YO A ks vs):Y8 ks=some vs.length:=by cases h<;>rfl
theorem YO.cell{A:U9}(h:YO A ks vs):Qu ks=true:=by cases h<;>rfl
theorem YO.rd{A:U9}(h:YO A ks vs){hp:Hp}(hr: ∀c m l,(c,m,l)∈A→Q0 hp c m l):Ji hp [] 1 (vs.map fun v=>[v]) ks:=by
 cases h with
 |none=>exact .nil _ _ _
 |own hb=>
  rename_i c m;have h1:=hr c m vs QA
  have e:(vs.map fun v=>[v]).flatten=vs:=by
   clear h1 hr hb
   induction vs with
   |nil=>rfl
   |cons v vs ih=>rw[List.map_cons,List.flatten_cons,ih];rfl
  have:=Ji.own (X:=[]) (z:=1) (ls:=vs.map fun v=>[v]) (c:=c) (m:=m) (by rw[e];exact h1) QA QA (by rw[List.length_map];omega);rw[List.length_map]at this;exact this
def XI:Nat→List (List Int)→List Int→Option Nat
 |_,[],_=>none
 |j,x::L,s=>if x=s then some j else XI (j+1) L s
def WC:Nat→List (List Int)→List (AV×AV)
 |_,[]=>[]
 |j,x::L=>(.str (Zh x),.int .i64 (j:Int))::WC (j+1) L
def va(e:AV×AV×Nat):AV×AV:=(e.1,e.2.1)
theorem Ny: ∀(j:Nat) (L:List (List Int)) (s:List Int),WC j (L++[s])=WC j L++[(.str (Zh s),.int .i64 (j+L.length:Nat))]
 |j,[],s=>by simp[WC]
 |j,x::L,s=>by
  rw[List.cons_append,WC,WC,Ny (j+1) L s,List.cons_append,List.length_cons,show j+1+L.length=j+(L.length+1) by omega]
theorem OS: ∀{L:List (List Int)} {j i:Nat} {s:List Int},XI j L s=some i→j≤i∧L[i-j]? =some s
 |[],j,i,s,h=>by cases h
 |x::L,j,i,s,h=>by
  rw[XI]at h
  split at h
  ·rename_i e
   injection h with h
   subst h e;exact⟨Nat.le_refl _,by rw[Nat.sub_self];rfl⟩
  ·obtain⟨h1,h2⟩:=OS h;refine⟨by omega,?_⟩;rw[show i-j=(i-(j+1))+1 by omega];exact h2
theorem Ik: ∀{L:List (List Int)} {j:Nat} {s:List Int},XI j L s=none→s∉L
 |[],j,s,_=>by simp
 |x::L,j,s,h=>by
  rw[XI]at h
  split at h
  ·cases h
  ·rename_i e;intro hm;rcases List.mem_cons.1 hm with e'|hm
   ·exact e e'.symm
   ·exact Ik h hm
theorem No(s:List Int): ∀(L:List (List Int)) (es:List (AV×AV×Nat)) (j:Nat),es.map va=WC j L→Np .string (.str (Zh s)) es j=some ((XI j L s).map fun i=>(i,.int .i64 (i:Int))):=by
 intro L
 induction L with
 |nil=>
  intro es j h
  cases es with
  |nil=>rfl
  |cons e es=>cases h
 |cons x L ih=>
  intro es j h
  cases es with
  |nil=>cases h
  |cons e es=>
   rw[List.map_cons,WC]at h
   injection h with h1 h2
   obtain⟨e1,e2,e3⟩:=e
   injection h1 with h1 h3
   have h1:e1=.str (Zh x):=h1;have h3:e2=.int .i64 (j:Int):=h3;subst h1 h3;rw[Vz,XI];show(ob (some (Gk (Zh s) (Zh x))) fun b=>Qo b _ _)=_;rw[Ql,ZT]
   by_cases hx:x=s
   ·subst hx;rw[if_pos rfl,decide_eq_true rfl];rfl
   ·rw[if_neg hx,decide_eq_false (fun e=>hx (Dj e).symm),Qx];exact ih es (j+1) h2
def PM(L:List (List Int))(l:List Int):Nat:=(XI 0 L (JQ l)).getD L.length
def AP(L:List (List Int))(l:List Int):List (List Int):=if(XI 0 L (JQ l)).isSome then L else L++[JQ l]
section
variable {G:Env} {K:List (Nat×AV)} {st:St} {cm n:Nat} {es:List (AV×AV×Nat)} {L:List (List Int)} {s:List Int} {m k x:Operand}
theorem PH(hm:QX G K m=some (.mp cm))(hk:QX G K k=some (.str (Zh s)))(hc:st.h.get cm=some (.map es n))(he:es.map va=WC 0 L):
  U3 Tryz.prog G K (.lookup 95 m k true) st (.tup [.int .i64 ((XI 0 L s).getD 0:Nat),.bool (XI 0 L s).isSome]) st:=.of fun T hT c d ty pos af g=>by
 show(ob (QI G T m) fun m=>ob (QI G T k) fun k=>ret (Vb Tryz.prog 95 m k true st.h.get) st)=_;rw[hT.QI hm,hT.QI hk,Ql,Ql];unfold Vb
 have hz:zeroV Tryz.prog 3=some (.int .i64 0):=by kernel_rfl
 have hfd:Yv Tryz.prog 9 .string (.str (Zh s)) es 0=some ((XI 0 L s).map fun i=>(i,.int .i64 (i:Int))):=No s L es 0 he;have hko:VZ Tryz.prog 9 .string (.str (Zh s))=true:=rfl;simp only[Er,Wr,hc,Ql,hfd,hko,QO]
 cases hn:XI 0 L s with
 |none=>
  simp only[Option.map_none,hz,Ql];rfl
 |some i=>rfl
noncomputable def W6(st:St)(cm n:Nat)(es:List (AV×AV×Nat))(s:List Int)(z:Int):St:=⟨st.n,st.h.set cm (.map (es++[(.str (Zh s),.int .i64 z,n)]) (n+1))⟩
theorem zh{z:Int}(hm:QX G K m=some (.mp cm))(hk:QX G K k=some (.str (Zh s)))(hx:QX G K x=some (.int .i64 z))(hc:st.h.get cm=some (.map es n))(he:es.map va=WC 0 L)(hn:XI 0 L s=none):
  U3 Tryz.prog G K (.mapUpdate 95 m k x) st (.tup []) (W6 st cm n es s z):=.of fun T hT c d ty pos af g=>by
 show(ob (QI G T m) fun m=>ob (QI G T k) fun k=>ob (QI G T x) fun x=>Zv Tryz.prog 95 m k x st)=_;rw[hT.QI hm,hT.QI hk,hT.QI hx,Ql,Ql,Ql];unfold Zv W6;have hfd:Yv Tryz.prog 9 .string (.str (Zh s)) es 0=some ((XI 0 L s).map fun i=>(i,.int .i64 (i:Int))):=No s L es 0 he;have hko:VZ Tryz.prog 9 .string (.str (Zh s))=true:=rfl;rw[hn,Option.map_none]at hfd;simp only[Er,Wr,hc,Ql,hfd,hko,QO];show(QN true _)=_;simp only[QO,JX,U6,Jg,UJ]
end
section
variable {G:Env} {N:Nat} {ops:List Oper} {T:Tr AV} {K:List (Nat×AV)} {st:St} {sn:List St} {r:List (Nat×Nat)} {R:Tr AV→St→Prop} {i:Nat} {ty:TypeId} {pos:String} {af:Array Edge} {cm n:Nat} {es:List (AV×AV×Nat)} {L:List (List Int)} {s:List Int} {m k x:Operand} {z:Int}
theorem yz(ho:ops[i]? =some ⟨none,.mapUpdate 95 m k x,ty,pos,af,none⟩)(hK:QY K T)(hm:QX G K m=some (.mp cm))(hk:QX G K k=some (.str (Zh s)))(hx:QX G K x=some (.int .i64 z))(hc:st.h.get cm=some (.map es n))(he:es.map va=WC 0 L)(hn:XI 0 L s=none)
  (hr:WD Tryz.prog G N ops (r.map (Yl ops)) R T (W6 st cm n es s z) (W6 st cm n es s z::sn)):WD Tryz.prog G N ops (((i,0)::r).map (Yl ops)) R T st sn:=by
 rw[Y9 ho];exact Xq rfl (zh hm hk hx hc he hn T hK _ _ _ _ _) rfl (fun e he=>by cases he) hr
end
theorem PR(st:St)(cm n:Nat)(es:List (AV×AV×Nat))(s:List Int)(z:Int):(W6 st cm n es s z).h.get cm=some (.map (es++[(.str (Zh s),.int .i64 z,n)]) (n+1)):=by
 unfold W6;rw[JC];exact Uf _ _ _
theorem EO(st:St){cm:Nat}(n:Nat)(es:List (AV×AV×Nat))(s:List Int)(z:Int)(h:c≠cm):(W6 st cm n es s z).h.get c=st.h.get c:=by
 unfold W6;rw[JC,YP _ _ h]
theorem CY{st:St}(hf:Qj st){cm:Nat}(hc:cm<st.n)(n:Nat)(es:List (AV×AV×Nat))(s:List Int)(z:Int):Qj (W6 st cm n es s z):=fun c hle=>by
 have hle:st.n≤c:=hle;rw[EO _ _ _ _ _ Qe];exact hf c hle
theorem TF{P:Program}{G:Env}{K:List (Nat×AV)}{st:St}{t:TypeId}{x:Operand}{lo hi:Option Operand}{v:AV}{l:List Int}{a b:Nat}(he:U0 P t=some 1)(r:Ji h [] 1 (zC l) v)(hs:v=.nils∨ ∃c m o n,v=.sl c m o n 1)(hx:QX G K x=some v)(hl:YK (QX G K) lo=some a)(hh:YL (QX G K) hi l.length=some b)(h1:a≤b)(h2:b≤l.length):
  ∃v2,U3 P G K (.slice t x lo hi none) st v2 st∧Ji h [] 1 (zC ((l.drop a).take (b-a))) v2∧Qu v2=true:=by
 have hlen:=r.len;rw[Qn]at hlen;rcases hs with rfl|⟨c,m,o,n,rfl⟩
 ·have hl0:l=[]:=by injection hlen with hlen;exact YW hlen.symm
  subst hl0
  have ha:a=0:=by simp at h2;omega
  have hb:b=0:=by simpa using h2
  subst ha hb;exact⟨.nils,TG he hx hl hh,.nil _ _ _,rfl⟩
 ·injection hlen with hlen
  subst hlen;have h3:=TH (st:=st) he hx hl hh h1 h2;have hbnd:=r.Ew;rw[Qn]at hbnd
  refine⟨_,h3,?_,by cases Qo (Nat.beq a 0) true (Nat.ble (a+1) l.length)<;>rfl⟩
  have hln:((l.drop a).take (b-a)).length=b-a:=by rw[List.length_take,List.length_drop];omega
  by_cases hc:Qo (Nat.beq a 0) true (Nat.ble (a+1) l.length)=true
  ·rw[hc,Q6,Nat.mul_one];refine⟨by rw[Qn,hln];rfl,by rw[Qn,hln];omega,rfl,fun i cs hi=>?_,fun c' m' off' n' z' e'=>?_⟩
   ·have hlt:=(List.getElem?_eq_some_iff.1 hi).1;rw[Qn,hln]at hlt
    have hg:((l.drop a).take (b-a))[i]? =l[a+i]? :=by rw[List.getElem?_take_of_lt hlt,List.getElem?_drop]
    rw[zC,List.getElem?_map,hg]at hi
    have hi2:(zC l)[a+i]? =some cs:=by rw[zC,List.getElem?_map];exact hi
    obtain⟨c2,m2,J2,cells2,e1,e2,e3,e4,e5⟩:=r.at_ _ _ hi2
    injection e1 with x1 x2 x3 x4 x5
    subst x1 x2 x3;exact⟨c,m,o+a,cells2,by rw[Qn,hln],e2,e3,e4,by rw[←e5];congr 1;rw[Nat.mul_one,Nat.mul_one,Nat.add_assoc]⟩
   ·injection e' with x1 x2 x3 x4 x5
    subst x1 x2 x3 x4;obtain⟨q1,cs,q2,q3⟩:=r.alive c m o _ 1 rfl;exact⟨q1,cs,q2,by omega⟩
  ·have hcf:Qo (Nat.beq a 0) true (Nat.ble (a+1) l.length)=false:=by simpa using hc
   rw[hcf,Qx]
   have hal:l.length≤a:=by
    rcases Nat.lt_or_ge a l.length with h|h
    ·rw[Nat.ble_eq_true_of_le h]at hcf
     cases hb0:Nat.beq a 0<;>rw[hb0]at hcf<;>cases hcf
    ·exact h
   have h00:(l.drop a).take (b-a)=[]:=YW (by rw[hln];omega);rw[h00];exact⟨rfl,by simp[zC],rfl,fun i cs hi=>by simp[zC]at hi,fun _ _ _ _ _ e=>by cases e⟩
end Go.Proofs.YtiknomepbklibaaGreatDoor
end
