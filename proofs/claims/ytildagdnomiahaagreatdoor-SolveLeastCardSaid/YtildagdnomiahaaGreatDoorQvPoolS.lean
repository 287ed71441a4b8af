/-
  Rows of numbers that calls make; sets in memory; a map's entries.
-/
import Derived.Test.YtildagdnomiahaaGreatDoorQvArr
set_option maxRecDepth 100000
set_option linter.unusedVariables false
namespace Go.Proofs.YtildagdnomiahaaGreatDoor
section
open Go Go.RowKit
variable {c m:Nat}

abbrev Uc:=List (Nat×Nat×List AV)
theorem EY(l:List Int):(zC l).flatten=l.map FG:=by
 induction l with
 |nil=>rfl
 |cons z l ih=>rw[zC,List.map_cons,List.flatten_cons];show AV.int .i64 z::(zC l).flatten=_;rw[ih];rfl
inductive ET(n0:Nat):Uc→AV→List Int→Prop
 |none:ET n0 [] .nils []
 |own {c m:Nat} {l:List Int} {rest:List AV} (hc:n0≤c) (hb:l.length≤1000000000):ET n0 [(c,m,l.map FG++rest)] (.sl c m 0 l.length 1) l
theorem ET.cell{n0:Nat}{A:Uc}{ks:AV}{l:List Int}(h:ET n0 A ks l):Qw ks=true:=by cases h<;>rfl
theorem xk{h:Hp}{l:List Int}{rest:List AV}(r:Qu h c m (l.map FG++rest))(hb:l.length≤1000000000):Jg h [] 1 (zC l) (.sl c m 0 l.length 1):=by
 refine⟨by rw[Qy];rfl,by rw[Qy];omega,rfl,fun i cs hi=>?_,fun c' m' off n z' e=>?_⟩
 ·have hlt:=(List.getElem?_eq_some_iff.1 hi).1;rw[Qy]at hlt;rw[JG (List.getElem?_eq_getElem hlt)]at hi
  injection hi with hi
  subst hi;refine⟨c,m,0,_,by rw[Qy],by simp,r.QI,rfl,?_⟩
  have e1:(l.map FG++rest)[i]? =some (FG l[i]):=by
   rw[List.getElem?_append_left (by rw[List.length_map];exact hlt),List.getElem?_map,List.getElem?_eq_getElem hlt];rfl
  obtain⟨hi2,e2⟩:=List.getElem?_eq_some_iff.1 e1;rw[Nat.zero_add,Nat.mul_one,List.drop_eq_getElem_cons hi2,e2];rfl
 ·injection e with e1 e2 e3 e4 e5
  subst e1 e2 e3 e4 e5;exact⟨by simp,_,r.QI,by simp⟩
section
variable {h0:Hp} {n0:Nat} {X:List Nat} {st st':St} {M L A B:Uc} {ks:AV} {l:List Int}
theorem Mem.wc(hM:Mem h0 n0 X st (L++(A++B))){n1:Nat}(hA:ET n1 A ks l):Jg st.h.get [] 1 (zC l) ks:=by
 cases hA with
 |none=>exact .nil _ _ _
 |own hc hb=>
  rename_i c m rest;exact xk (hM.row c m (l.map FG++rest) Qx) hb
theorem Mem.GV(hM:Mem h0 n0 X st (L++((A++B)))){x:List AV}(h:(c,m,x)∈A):Qu st.h.get c m x:=hM.row c m x (by simp[h])
theorem Mem.RN{x x':List AV}(hM:Mem h0 n0 X st (L++((c,m,x)::B)))(q:wb [c] st st')(hr:Qu st'.h.get c m x'):Mem h0 n0 X st' (L++((c,m,x')::B)):=by
 have hp:(L++(c,m,x)::B).Perm ((c,m,x)::(L++B)):=List.perm_middle;have h1:=hM.perm hp;have h2:=h1.yR (k:=0) rfl q hr;exact Mem.perm (h2.cast (by rfl)) (List.perm_middle (l₁:=L) (l₂:=B) (a:=(c,m,x'))).symm
end
theorem JR(l:List Int):(U4 l).length=l.length:=List.length_mergeSort _
theorem MT(l:List Int):(AT l).length=l.length:=by
 have:=Y3 l;simp[AT];omega
theorem Y1{α:Type}{l:List α}(h:l.length=0):l=[]:=List.length_eq_zero_iff.1 h
section
variable {h0:Hp} {n0:Nat} {X:List Nat} {st:St} {L A B:Uc} {ks:AV} {l:List Int}
theorem OI(hM:Mem h0 n0 X st (L++(A++B)))(hA:Acc n0 1 A ks (zC l))(hb1:l.length≤1000000):
  ∃v st' A',QV 261 [ks] st v st'∧v=.tup []∧Mem h0 n0 X st' (L++(A'++B))∧Acc n0 1 A' ks (zC (U4 l)):=by
 have hb:=hA.AW;rw[Qy]at hb;have h00:U4 []=[]:=Y1 (JR []);generalize hg:zC l=ls at hA
 cases hA with
 |none=>
  have hl:l=[]:=Y1 (by have h:=congrArg List.length hg;rw[Qy]at h;exact h);subst hl;exact⟨_,st,[],EF (V0:=fun _=>.tup []) (F:=U4) (V:=Et) rfl hM.fresh,rfl,hM,by rw[h00];exact .none⟩
 |own hc hz hb'=>
  rename_i c m;subst hg
  by_cases hl:l=[]
  ·subst hl;exact⟨_,st,_,EE (V0:=fun _=>.tup []) (F:=U4) (V:=Et) rfl hM.fresh c m,rfl,hM,by rw[h00];exact .own hc hz hb'⟩
  ·have hrow:Qu st.h.get c m (zC l).flatten:=hM.GV (A:=[(c,m,(zC l).flatten)]) Qx
   have hs:ZP (zC l).flatten=some l:=by rw[EY];exact Vc l
   obtain⟨v,st',h1,h2,h3,h4⟩:=Fs (F:=U4) (V:=Et) (V0:=fun _=>.tup []) (G:=DM) (P:=Tryz.prog) (f:=261) rfl hM.fresh hrow hs hl hb1 (JR _);rw[←EY]at h3;refine⟨v,st',[(c,m,(zC (U4 l)).flatten)],?_,h2,Mem.RN (L:=L) (B:=B) hM h4 h3,?_⟩
   ·rw[Qy];exact h1
   ·have:=Acc.own (m:=m) (ls:=zC (U4 l)) hc (G7 _) (by rw[Qy,JR];exact hb);rw[Qy,JR]at this;rw[Qy];exact this
theorem Gn(hM:Mem h0 n0 X st (L++(A++B)))(hA:Acc n0 1 A ks (zC l))(hb1:l.length≤1000000):
  ∃v st' A',QV 271 [ks] st v st'∧ET n0 A' v (Lib.compact l)∧Mem h0 n0 X st' (L++(A'++B)):=by
 have hb:=hA.AW;rw[Qy]at hb;have h00:Lib.compact ([]:List Int)=[]:=Y1 (Nat.le_zero.1 (Y3 []));generalize hg:zC l=ls at hA
 cases hA with
 |none=>
  have hl:l=[]:=Y1 (by have h:=congrArg List.length hg;rw[Qy]at h;exact h);subst hl;exact⟨.nils,st,[],EF (V0:=id) (F:=AT) (V:=EM) rfl hM.fresh,by rw[h00];exact .none,hM⟩
 |own hc hz hb'=>
  rename_i c m;subst hg
  by_cases hl:l=[]
  ·subst hl;refine⟨.sl c m 0 0 1,st,_,EE (V0:=id) (F:=AT) (V:=EM) rfl hM.fresh c m,?_,hM⟩;rw[h00];exact .own (l:=[]) (rest:=[]) hc Qx
  ·have hrow:Qu st.h.get c m (zC l).flatten:=hM.GV (A:=[(c,m,(zC l).flatten)]) Qx
   have hs:ZP (zC l).flatten=some l:=by rw[EY];exact Vc l
   obtain⟨v,st',h1,rfl,h3,h4⟩:=Fs (F:=AT) (V:=EM) (V0:=id) (G:=DM) (P:=Tryz.prog) (f:=271) rfl hM.fresh hrow hs hl hb1 (MT l);refine⟨EM c m l,st',[(c,m,(AT l).map FG)],?_,?_,Mem.RN (L:=L) (B:=B) hM h4 h3⟩
   ·rw[Qy];exact h1
   ·rw[AT,List.map_append];exact .own hc (Nat.le_trans (Y3 l) hb)
theorem SM(hM:Mem h0 n0 X st (L++(A++B))){n1:Nat}(hA:ET n1 A ks l)(hi:HC l)(hb1:l.length≤1000000):
  ∃v st',QV 300 [ks] st v st'∧v=.str (Y7 l)∧Qt st st':=by
 have hq:Qt st st:=⟨hM.fresh,Nat.le_refl _,fun _ _=>rfl⟩
 cases hA with
 |none=>exact⟨.str [],st,⟨0,1,rfl⟩,rfl,hq⟩
 |own hc hb=>
  rename_i c m rest;obtain⟨vs,ms,h1,h2⟩:=hM.GV (A:=[(c,m,l.map FG++rest)]) (c:=c) (m:=m) (x:=l.map FG++rest) Qx;have hall:l.all kh=true:=List.all_eq_true.2 fun z hz=>Ru.2 (hi z hz);refine⟨.str (Y7 l),st,⟨0,1,?_⟩,rfl,hq⟩;show Lg [.sl c m 0 l.length 1] st=_;unfold Lg;simp only[h1,h2]
  have ht:(l.map FG++rest).take l.length=l.map FG:=by
   rw[List.take_append_of_le_length Qx,List.take_of_length_le Qx]
  rw[ht,Vc];simp only[];rw[if_pos ⟨trivial,hb1,hall⟩,KM hall]
end
end
section
open Go Go.RowKit
variable {c:Nat} {h:Hp} {ks:AV} {vs:List AV}

theorem Jg.frame{h':Hp}{z:Nat}{ls:List (List AV)}{v:AV}(r:Jg h [] z ls v)(e: ∀c m o n y,v=.sl c m o n y→h' c=h c):Jg h' [] z ls v:=
 ⟨r.len,r.AW,r.cell,fun i cs hi=>by
  obtain⟨c,m,off,cells,h1,h2,⟨ro,e1,vs,ms,h3,h4⟩,h5⟩:=r.at_ i cs hi
  exact⟨c,m,off,cells,h1,h2,⟨ro,e1,vs,ms,by rw[e c m off _ _ h1];exact h3,h4⟩,h5⟩,fun c m off n z' e'=>by
  obtain⟨h1,cells,⟨ro,e1,vs,ms,h3,h4⟩,h5⟩:=r.alive c m off n z' e'
  exact⟨h1,cells,⟨ro,e1,vs,ms,by rw[e c m off n z' e'];exact h3,h4⟩,h5⟩⟩
theorem Qu.frame{h':Hp}{m:Nat}{l:List AV}(r:Qu h c m l)(e:h' c=h c):Qu h' c m l:=by
 obtain⟨vs,ms,h1,h2⟩:=r;exact⟨vs,ms,by rw[e];exact h1,h2⟩
theorem Qu.SA{m c':Nat}{l:List AV}{es:List (AV×AV×Nat)}{k:Nat}(r:Qu h c m l)(hm:h c'=some (.map es k)):c≠c':=by
 rintro rfl
 obtain⟨vs,ms,h1,_⟩:=r;rw[h1]at hm;cases hm
inductive Zl:Uc→AV→List AV→Prop
 |none:Zl [] .nils []
 |own {c m:Nat} {vs:List AV} (hb:vs.length≤1000000000):Zl [(c,m,vs)] (.sl c m 0 vs.length 1) vs
theorem Zl.len{A:Uc}(h:Zl A ks vs):J8 ks=some vs.length:=by cases h<;>rfl
theorem Zl.cell{A:Uc}(h:Zl A ks vs):Qw ks=true:=by cases h<;>rfl
theorem Zl.rd{A:Uc}(h:Zl A ks vs){hp:Hp}(hr: ∀c m l,(c,m,l)∈A→Qu hp c m l):Jg hp [] 1 (vs.map fun v=>[v]) ks:=by
 cases h with
 |none=>exact .nil _ _ _
 |own hb=>
  rename_i c m;have h1:=hr c m vs Qx
  have e:(vs.map fun v=>[v]).flatten=vs:=by
   clear h1 hr hb
   induction vs with
   |nil=>rfl
   |cons v vs ih=>rw[List.map_cons,List.flatten_cons,ih];rfl
  have:=Jg.own (X:=[]) (z:=1) (ls:=vs.map fun v=>[v]) (c:=c) (m:=m) (by rw[e];exact h1) Qx Qx (by rw[List.length_map];omega);rw[List.length_map]at this;exact this
def Xz:Nat→List (List Int)→List Int→Option Nat
 |_,[],_=>none
 |j,x::L,s=>if x=s then some j else Xz (j+1) L s
def Wp:Nat→List (List Int)→List (AV×AV)
 |_,[]=>[]
 |j,x::L=>(.str (Y7 x),.int .i64 (j:Int))::Wp (j+1) L
def eD(e:AV×AV×Nat):AV×AV:=(e.1,e.2.1)
theorem Np: ∀(j:Nat) (L:List (List Int)) (s:List Int),Wp j (L++[s])=Wp j L++[(.str (Y7 s),.int .i64 (j+L.length:Nat))]
 |j,[],s=>by simp[Wp]
 |j,x::L,s=>by
  rw[List.cons_append,Wp,Wp,Np (j+1) L s,List.cons_append,List.length_cons,show j+1+L.length=j+(L.length+1) by omega]
theorem OQ: ∀{L:List (List Int)} {j i:Nat} {s:List Int},Xz j L s=some i→j≤i∧L[i-j]? =some s
 |[],j,i,s,h=>by cases h
 |x::L,j,i,s,h=>by
  rw[Xz]at h
  split at h
  ·rename_i e
   injection h with h
   subst h e;exact⟨Nat.le_refl _,by rw[Nat.sub_self];rfl⟩
  ·obtain⟨h1,h2⟩:=OQ h;refine⟨by omega,?_⟩;rw[show i-j=(i-(j+1))+1 by omega];exact h2
theorem Ig: ∀{L:List (List Int)} {j:Nat} {s:List Int},Xz j L s=none→s∉L
 |[],j,s,_=>by simp
 |x::L,j,s,h=>by
  rw[Xz]at h
  split at h
  ·cases h
  ·rename_i e;intro hm;rcases List.mem_cons.1 hm with e'|hm
   ·exact e e'.symm
   ·exact Ig h hm
theorem Nd(s:List Int): ∀(L:List (List Int)) (es:List (AV×AV×Nat)) (j:Nat),es.map eD=Wp j L→Nf .string (.str (Y7 s)) es j=some ((Xz j L s).map fun i=>(i,.int .i64 (i:Int))):=by
 intro L
 induction L with
 |nil=>
  intro es j h
  cases es with
  |nil=>rfl
  |cons e es=>cases h
 |cons x L ih=>
  intro es j h
  cases es with
  |nil=>cases h
  |cons e es=>
   rw[List.map_cons,Wp]at h
   injection h with h1 h2
   obtain⟨e1,e2,e3⟩:=e
   injection h1 with h1 h3
   have h1:e1=.str (Y7 x):=h1;have h3:e2=.int .i64 (j:Int):=h3;subst h1 h3;rw[Ve,Xz];show(ob (some (Gh (Y7 s) (Y7 x))) fun b=>Qj b _ _)=_;rw[Qg,Z5]
   by_cases hx:x=s
   ·subst hx;rw[if_pos rfl,decide_eq_true rfl];rfl
   ·rw[if_neg hx,decide_eq_false (fun e=>hx (Dv e).symm),Qq];exact ih es (j+1) h2
def Mg(L:List (List Int))(l:List Int):Nat:=(Xz 0 L (JS l)).getD L.length
def AE(L:List (List Int))(l:List Int):List (List Int):=if(Xz 0 L (JS l)).isSome then L else L++[JS l]
section
variable {G:Env} {K:List (Nat×AV)} {st:St} {cm n:Nat} {es:List (AV×AV×Nat)} {L:List (List Int)} {s:List Int} {m k x:Operand}
theorem Rc(hm:QG G K m=some (.mp cm))(hk:QG G K k=some (.str (Y7 s)))(hc:st.h.get cm=some (.map es n))(he:es.map eD=Wp 0 L):
  Us Tryz.prog G K (.lookup 316 m k true) st (.tup [.int .i64 ((Xz 0 L s).getD 0:Nat),.bool (Xz 0 L s).isSome]) st:=.of fun T hT c d ty pos af g=>by
 show(ob (QN G T m) fun m=>ob (QN G T k) fun k=>ret (XC Tryz.prog 316 m k true st.h.get) st)=_;rw[hT.QN hm,hT.QN hk,Qg,Qg];unfold XC
 have hz:zeroV Tryz.prog 3=some (.int .i64 0):=by kernel_rfl
 have hfd:UH Tryz.prog 9 .string (.str (Y7 s)) es 0=some ((Xz 0 L s).map fun i=>(i,.int .i64 (i:Int))):=Nd s L es 0 he;have hko:VD Tryz.prog 9 .string (.str (Y7 s))=true:=rfl;simp only[WY,HP,hc,Qg,hfd,hko,Q7]
 cases hn:Xz 0 L s with
 |none=>
  simp only[Option.map_none,hz,Qg];rfl
 |some i=>rfl
noncomputable def Wi(st:St)(cm n:Nat)(es:List (AV×AV×Nat))(s:List Int)(z:Int):St:=⟨st.n,st.h.set cm (.map (es++[(.str (Y7 s),.int .i64 z,n)]) (n+1))⟩
theorem xF{z:Int}(hm:QG G K m=some (.mp cm))(hk:QG G K k=some (.str (Y7 s)))(hx:QG G K x=some (.int .i64 z))(hc:st.h.get cm=some (.map es n))(he:es.map eD=Wp 0 L)(hn:Xz 0 L s=none):
  Us Tryz.prog G K (.mapUpdate 316 m k x) st (.tup []) (Wi st cm n es s z):=.of fun T hT c d ty pos af g=>by
 show(ob (QN G T m) fun m=>ob (QN G T k) fun k=>ob (QN G T x) fun x=>YV Tryz.prog 316 m k x st)=_;rw[hT.QN hm,hT.QN hk,hT.QN hx,Qg,Qg,Qg];unfold YV Wi;have hfd:UH Tryz.prog 9 .string (.str (Y7 s)) es 0=some ((Xz 0 L s).map fun i=>(i,.int .i64 (i:Int))):=Nd s L es 0 he;have hko:VD Tryz.prog 9 .string (.str (Y7 s))=true:=rfl;rw[hn,Option.map_none]at hfd;simp only[WY,HP,hc,Qg,hfd,hko,Q7];show(Q6 true _)=_;simp only[Q7,J1,JD,QE,Ui]
end
section
variable {G:Env} {N:Nat} {ops:List Oper} {T:Tr AV} {K:List (Nat×AV)} {st:St} {sn:List St} {r:List (Nat×Nat)} {R:Tr AV→St→Prop} {i:Nat} {ty:TypeId} {pos:String} {af:Array Edge} {cm n:Nat} {es:List (AV×AV×Nat)} {L:List (List Int)} {s:List Int} {m k x:Operand} {z:Int}
theorem zI(ho:ops[i]? =some ⟨none,.mapUpdate 316 m k x,ty,pos,af,none⟩)(hK:QH K T)(hm:QG G K m=some (.mp cm))(hk:QG G K k=some (.str (Y7 s)))(hx:QG G K x=some (.int .i64 z))(hc:st.h.get cm=some (.map es n))(he:es.map eD=Wp 0 L)(hn:Xz 0 L s=none)
  (hr:WD Tryz.prog G N ops (r.map (UY ops)) R T (Wi st cm n es s z) (Wi st cm n es s z::sn)):WD Tryz.prog G N ops (((i,0)::r).map (UY ops)) R T st sn:=by
 rw[YI ho];exact Vr rfl (xF hm hk hx hc he hn T hK _ _ _ _ _) rfl (fun e he=>by cases he) hr
end
theorem Rj(st:St)(cm n:Nat)(es:List (AV×AV×Nat))(s:List Int)(z:Int):(Wi st cm n es s z).h.get cm=some (.map (es++[(.str (Y7 s),.int .i64 z,n)]) (n+1)):=by
 unfold Wi;rw[Jc];exact Jy _ _ _
theorem E5(st:St){cm:Nat}(n:Nat)(es:List (AV×AV×Nat))(s:List Int)(z:Int)(h:c≠cm):(Wi st cm n es s z).h.get c=st.h.get c:=by
 unfold Wi;rw[Jc,Yu _ _ h]
theorem Dh{st:St}(hf:Qh st){cm:Nat}(hc:cm<st.n)(n:Nat)(es:List (AV×AV×Nat))(s:List Int)(z:Int):Qh (Wi st cm n es s z):=fun c hle=>by
 have hle:st.n≤c:=hle;rw[E5 _ _ _ _ _ Qd];exact hf c hle
end
section
open Go

theorem Uw{place:Nat→Option (Nat×Nat)}{i off:Nat}{v:AV}{ps:List (Nat×AV)}{l l1:List AV}(hp:place i=some (off,1))(hc:Qw v=true)(ho:YB [v] off l=some l1):Xq place ((i,v)::ps) l=Xq place ps l1:=by
 rw[Fm,hp,Qg,XN hc];show Q6 true (ob (YB [v] off l) _)=_;rw[ho];rfl
theorem Zt{place:Nat→Option (Nat×Nat)}{i off n:Nat}{v:AV}{ps:List (Nat×AV)}{l l1:List AV}(hp:place i=some (off,n))(hn:Nat.beq (UZ (QO v)) n=true)(ho:YB (QO v) off l=some l1):Xq place ((i,v)::ps) l=Xq place ps l1:=by
 rw[Fm,hp,Qg];show Q6 (Nat.beq (UZ (QO v)) n) (ob (YB (QO v) off l) _)=_;rw[hn,ho];rfl
end
section
open Go Go.RowKit
variable {ks v:AV} {vs:List AV}

def vY(h h':Hp)(c:Nat):Prop:= ∀ro ms,h c=some (.row ro ms)→h' c=h c
structure Zj(h:Hp)(F:Nat→Prop)(cp:Nat)(A:Uc)(ks:AV)(vs:List AV)(L:List (List Int)):Prop where
 acc:Zl A ks vs
 row: ∀c m l,(c,m,l)∈A→Qu h c m l∧F c∧c≠cp
 ln:vs.length=L.length
 inn: ∀(i:Nat) (s:List Int),L[i]? =some s→ ∃v,vs[i]? =some v∧Jg h [] 1 (zC s) v∧HC s∧(v=.nils∨ ∃c m o n,v=.sl c m o n 1)∧ ∀c m o n y,v=.sl c m o n y→F c∧c≠cp∧ ∀m' l',(c,m',l')∉A
theorem Zj.frame{h h':Hp}{F:Nat→Prop}{cp:Nat}{A:Uc}{ks:AV}{vs:List AV}{L:List (List Int)}(H:Zj h F cp A ks vs L)(e: ∀c,F c→h' c=h c):Zj h' F cp A ks vs L:=
 ⟨H.acc,fun c m l hm=>by
  obtain⟨h1,h2,h3⟩:=H.row c m l hm
  exact⟨h1.frame (e c h2),h2,h3⟩,H.ln,fun i s hi=>by
  obtain⟨v,h1,h2,h3,h4,h5⟩:=H.inn i s hi
  exact⟨v,h1,h2.frame fun c m o n y e'=>e c (h5 c m o n y e').1,h3,h4,h5⟩⟩
theorem Zj.more{h:Hp}{F F':Nat→Prop}{cp:Nat}{A:Uc}{L:List (List Int)}(H:Zj h F cp A ks vs L)(e: ∀c,F c→F' c):Zj h F' cp A ks vs L:=
 ⟨H.acc,fun c m l hm=>by
  obtain⟨h1,h2,h3⟩:=H.row c m l hm
  exact⟨h1,e c h2,h3⟩,H.ln,fun i s hi=>by
  obtain⟨v,h1,h2,h3,h4,h5⟩:=H.inn i s hi
  exact⟨v,h1,h2,h3,h4,fun c m o n y e'=>by
   obtain⟨k1,k2⟩:=h5 c m o n y e'
   exact⟨e c k1,k2⟩⟩⟩
theorem Zj.rd{h:Hp}{F:Nat→Prop}{cp:Nat}{A:Uc}{ks:AV}{vs:List AV}{L:List (List Int)}(H:Zj h F cp A ks vs L):Jg h [] 1 (vs.map fun v=>[v]) ks:=H.acc.rd fun c m l hm=>(H.row c m l hm).1
theorem Zj.len{h:Hp}{F:Nat→Prop}{cp:Nat}{A:Uc}{ks:AV}{vs:List AV}{L:List (List Int)}(H:Zj h F cp A ks vs L):J8 ks=some L.length:=by rw[←H.ln];exact H.acc.len
theorem Zj.snoc{h h':Hp}{F F':Nat→Prop}{cp:Nat}{A A':Uc}{ks':AV}{L:List (List Int)}(H:Zj h F cp A ks vs L){s:List Int}(hA:Zl A' ks' (vs++[v]))(hr: ∀c m l,(c,m,l)∈A'→Qu h' c m l∧F' c∧c≠cp∧((∃m l,(c,m,l)∈A)∨ ¬F c))(hF: ∀c,F c→F' c)
  (ho: ∀c,F c→c≠cp→(∀m l,(c,m,l)∉A)→vY h h' c) (hv:Jg h' [] 1 (zC s) v) (hs:HC s) (hn:v=.nils∨ ∃c m o n,v=.sl c m o n 1) (hc: ∀c m o n y,v=.sl c m o n y→F' c∧c≠cp∧ ∀m' l',(c,m',l')∉A'):Zj h' F' cp A' ks' (vs++[v]) (L++[s]):=by
 refine⟨hA,fun c m l hm=>?_,by rw[List.length_append,List.length_append,H.ln];rfl,fun i x hi=>?_⟩
 ·obtain⟨h1,h2,h3,_⟩:=hr c m l hm;exact⟨h1,h2,h3⟩
 ·by_cases hl:i<L.length
  ·rw[List.getElem?_append_left hl]at hi;obtain⟨u,h1,h2,h3,h4,h5⟩:=H.inn i x hi;refine⟨u,by rw[List.getElem?_append_left (by rw[H.ln];exact hl)];exact h1,?_,h3,h4,fun c m o n y e=>?_⟩
   ·exact h2.frame fun c m o n y e=>by
     obtain⟨k1,k2,k3⟩:=h5 c m o n y e;obtain⟨_,cells,⟨ro,e1,vs',ms,h6,_⟩,_⟩:=h2.alive c m o n y e;exact ho c k1 k2 k3 ro ms h6
   ·obtain⟨k1,k2,k3⟩:=h5 c m o n y e;refine⟨hF c k1,k2,fun m' l' hm=>?_⟩;obtain⟨_,_,_,h6⟩:=hr c m' l' hm;rcases h6 with⟨m2,l2,h6⟩|h6
    ·exact k3 m2 l2 h6
    ·exact h6 k1
  ·rw[List.getElem?_append_right Qd]at hi
   have h0:i-L.length=0:=by
    by_cases h:i-L.length=0
    ·exact h
    ·rw[List.getElem?_eq_none (by simp;omega)]at hi;cases hi
   rw[h0]at hi
   injection hi with hi
   subst hi;exact⟨v,by rw[List.getElem?_append_right (by rw[H.ln];omega),H.ln,h0];rfl,hv,hs,hn,hc⟩
def Zk(h:Hp)(F:Nat→Prop)(cp:Nat)(L:List (List Int)):Prop:=
 ∃ks cm es k A vs,Qu h cp 0 [ks,.mp cm]∧F cp∧F cm∧h cm=some (.map es k)∧es.map eD=Wp 0 L∧Zj h F cp A ks vs L∧L.Nodup
theorem Zk.frame{h h':Hp}{F:Nat→Prop}{cp:Nat}{L:List (List Int)}(H:Zk h F cp L)(e: ∀c,F c→h' c=h c):Zk h' F cp L:=by
 obtain⟨ks,cm,es,k,A,vs,h1,h2,h3,h4,h5,h6,h7⟩:=H;exact⟨ks,cm,es,k,A,vs,h1.frame (e cp h2),h2,h3,by rw[e cm h3];exact h4,h5,h6.frame e,h7⟩
structure YA(F:Nat→Prop)(st st':St):Prop where
 fresh:Qh st'
 le:st.n≤st'.n
 J5: ∀c,c<st.n→ ¬F c→st'.h.get c=st.h.get c
theorem Qt.U7{st st':St}(q:Qt st st')(F:Nat→Prop):YA F st st':=⟨q.fresh,q.le,fun c hc _=>q.J5 c hc⟩
theorem Mem.zG{st st1:St}{M0:Uc}(hf:Qh st)(hM:Mem st.h.get st.n [] st1 M0)(Rw:Uc)(hR: ∀c m l,(c,m,l)∈Rw→Qu st.h.get c m l)(hn:(Rw.map Prod.fst).Nodup):Mem st1.h.get st1.n ((Rw++M0).map Prod.fst) st1 (Rw++M0):=by
 refine Mem.PF hM.fresh (Rw++M0) (fun c m l hm=>?_) ?_
 ·rcases List.mem_append.1 hm with hm|hm
  ·exact(hR c m l hm).KR hf hM.KR Qx
  ·exact hM.row c m l hm
 ·rw[List.map_append];refine List.nodup_append.2 ⟨hn,hM.nodup,fun a ha b hb e=>?_⟩;subst e;obtain⟨⟨c,m,l⟩,h1,h2⟩:=List.mem_map.1 ha;obtain⟨⟨c',m',l'⟩,h3,h4⟩:=List.mem_map.1 hb;have k1:=(hR c m l h1).lt hf;simp only at h2 h4;rcases hM.own c' m' l' h3 with k2|k2
  ·omega
  ·cases k2
theorem Zl.nodup{A:Uc}(h:Zl A ks vs):(A.map Prod.fst).Nodup:=by cases h<;>simp
theorem Mem.mapped{h0:Hp}{n0:Nat}{X:List Nat}{st:St}{M:Uc}(hM:Mem h0 n0 X st M){cm n:Nat}{es:List (AV×AV×Nat)}(hc:st.h.get cm=some (.map es n))(s:List Int)(z:Int):
  Mem (Wi st cm n es s z).h.get (Wi st cm n es s z).n (M.map Prod.fst) (Wi st cm n es s z) M∧YA (fun c=>c=cm) st (Wi st cm n es s z):=by
 have hlt:cm<st.n:=Nat.lt_of_not_le fun hle=>by rw[hM.fresh cm hle]at hc;cases hc
 have hf:=Dh hM.fresh hlt n es s z;refine⟨Mem.PF hf M (fun c m l hm=>?_) hM.nodup,hf,Nat.le_refl _,fun c hc' hne=>E5 _ _ _ _ _ hne⟩;have hr:=hM.row c m l hm;exact Qu.frame hr (E5 _ _ _ _ _ (Qu.SA hr hc))
theorem Mem.wO{P:Program}{h0:Hp}{n0:Nat}{X:List Nat}{st:St}{L A B:Uc}(hM:Mem h0 n0 X st (L++(A++B)))(hA:Zl A ks vs){t e:TypeId}(T:F8 P t e 1){k2 c2 m2:Nat}(hk:(L++(A++B))[k2]? =some (c2,m2,[v]))(hb:vs.length+1≤1000000000):
  ∃ks' A' st1,U0 P [t,t] ks (.sl c2 m2 0 1 1) st=some (ks',st1)∧Zl A' ks' (vs++[v])∧Mem h0 n0 X st1 (L++(A'++B))∧ ∀c m l,(c,m,l)∈A'→(∃m l,(c,m,l)∈A)∨st.n≤c:=by
 have hr:=(hM.Ud hk).QI
 cases hA with
 |none=>
  have h1:=append_nil (st:=st) T (n:=1) (z2:=1) (Jj:=0) hr Qx Q9 Q9;refine⟨_,[(st.n,0,[v])],_,h1,?_,?_,fun c m l hm=>?_⟩
  ·exact .own (vs:=[v]) Qx
  ·have h2:=hM.alloc [v];have h3:=h2.perm (M':=L++([(st.n,0,[v])]++B)) (by simpa using(List.perm_middle (l₁:=L) (l₂:=B) (a:=(st.n,0,[v]))).symm)
   simpa using h3
  ·simp at hm;exact .inr Qd
 |own hb'=>
  rename_i c m;obtain⟨m',st1,h1,h2,_⟩:=hM.append (P:=P) T (k:=L.length) (c:=c) (m:=m) (len:=vs.length) (c2:=c2) (m2:=m2) (Jj:=0) (n:=1) (z2:=1) (l:=vs) (l2:=[v]) (By L B (c,m,vs)) Qx hr Qx Q9 hb;rw[GS]at h2;refine⟨_,[(c,m',vs++[v])],st1,h1,?_,by simpa using h2,fun c' m2 l hm=>?_⟩
  ·have:=Zl.own (c:=c) (m:=m') (vs:=vs++[v]) (by simpa using hb);rw[List.length_append]at this;exact this
  ·simp at hm;exact .inl ⟨m,vs,by simp[hm.1]⟩
section
variable {P:Program} {G:Env} {N:Nat} {h0:Hp} {n0:Nat} {X:List Nat} {st:St} {L A B:Uc} {T:Tr AV} {ops rest:List Oper} {K:List (Nat×AV)} {R:Tr AV→St→Prop} {d:Nat} {ty:TypeId} {pos:String} {af:Array Edge}
theorem EZ{x y:Operand}{t e:TypeId}{c2 m2 k2:Nat}(hK:QH K T)(hM:Mem h0 n0 X st (L++(A++B)))(hA:Zl A ks vs)(S:F8 P t e 1)(hx:QG G K x=some ks)(hy:QG G K y=some (.sl c2 m2 0 1 1))(hk:(L++(A++B))[k2]? =some (c2,m2,[v]))(hb:vs.length+1≤1000000000)(hN:Nat.ble (d+1) N=true)
  (hn: ∀(ks':AV) A' T' st',QH ((d,ks')::K) T'→Zl A' ks' (vs++[v])→(∀c m l,(c,m,l)∈A'→(∃m l,(c,m,l)∈A)∨st.n≤c)→Mem h0 n0 X st' (L++(A'++B))→WR P G N ops rest R T' st'):WR P G N ops (⟨some d,.call {callee:=.builtin .append,args:= #[x,y],argTypes:= #[t,t]},ty,pos,af,none⟩::rest) R T st:=by
 obtain⟨ks',A',st1,h1,h2,h3,h4⟩:=hM.wO hA S hk hb;exact WW hK (ZN rfl hx hy h1) (Nat.le_of_ble_eq_true hN) fun T' hT'=>hn ks' A' T' st1 hT' h2 h4 h3
end
theorem ET.iQ{n0:Nat}{A:Uc}{l:List Int}(h:ET n0 A ks l):ks=.nils∨ ∃c m o n,ks=.sl c m o n 1:=by
 cases h with
 |none=>exact .inl rfl
 |own=>exact .inr ⟨_,_,_,_,rfl⟩
end
end Go.Proofs.YtildagdnomiahaaGreatDoor
