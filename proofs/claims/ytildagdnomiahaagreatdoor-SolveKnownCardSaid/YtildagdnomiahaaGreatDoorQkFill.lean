/-
  Rows of numbers that calls make; sets in memory; a map's entries.
-/
import Derived.Test.YtildagdnomiahaaGreatDoorQkArr
set_option maxRecDepth 100000
set_option linter.unusedVariables false
namespace Go.Proofs.YtildagdnomiahaaGreatDoor
section
open Go Go.RowKit
variable {c m:Nat}

abbrev Ut:=List (Nat×Nat×List AV)
theorem AS(l:List Int):(zC l).flatten=l.map AP:=by
 induction l with
 |nil=>rfl
 |cons z l ih=>rw[zC,List.map_cons,List.flatten_cons];show AV.int .i64 z::(zC l).flatten=_;rw[ih];rfl
inductive Eo(n0:Nat):Ut→AV→List Int→Prop
 |none:Eo n0 [] .nils []
 |own {c m:Nat} {l:List Int} {rest:List AV} (hc:n0≤c) (hb:l.length≤1000000000):Eo n0 [(c,m,l.map AP++rest)] (.sl c m 0 l.length 1) l
theorem Eo.cell{n0:Nat}{A:Ut}{ks:AV}{l:List Int}(h:Eo n0 A ks l):Qw ks=true:=by cases h<;>rfl
theorem zB{h:Hp}{l:List Int}{rest:List AV}(r:Qu h c m (l.map AP++rest))(hb:l.length≤1000000000):Jb h [] 1 (zC l) (.sl c m 0 l.length 1):=by
 refine⟨by rw[Qz];rfl,by rw[Qz];omega,rfl,fun i cs hi=>?_,fun c' m' off n z' e=>?_⟩
 ·have hlt:=(List.getElem?_eq_some_iff.1 hi).1;rw[Qz]at hlt;rw[JB (List.getElem?_eq_getElem hlt)]at hi
  injection hi with hi
  subst hi;refine⟨c,m,0,_,by rw[Qz],by simp,r.QH,rfl,?_⟩
  have e1:(l.map AP++rest)[i]? =some (AP l[i]):=by
   rw[List.getElem?_append_left (by rw[List.length_map];exact hlt),List.getElem?_map,List.getElem?_eq_getElem hlt];rfl
  obtain⟨hi2,e2⟩:=List.getElem?_eq_some_iff.1 e1;rw[Nat.zero_add,Nat.mul_one,List.drop_eq_getElem_cons hi2,e2];rfl
 ·injection e with e1 e2 e3 e4 e5
  subst e1 e2 e3 e4 e5;exact⟨by simp,_,r.QH,by simp⟩
section
variable {h0:Hp} {n0:Nat} {X:List Nat} {st st':St} {M L A B:Ut} {ks:AV} {l:List Int}
theorem Mem.vp(hM:Mem h0 n0 X st (L++(A++B))){n1:Nat}(hA:Eo n1 A ks l):Jb st.h.get [] 1 (zC l) ks:=by
 cases hA with
 |none=>exact .nil _ _ _
 |own hc hb=>
  rename_i c m rest;exact zB (hM.row c m (l.map AP++rest) Q0) hb
theorem Mem.Gl(hM:Mem h0 n0 X st (L++((A++B)))){x:List AV}(h:(c,m,x)∈A):Qu st.h.get c m x:=hM.row c m x (by simp[h])
theorem Mem.PX{x x':List AV}(hM:Mem h0 n0 X st (L++((c,m,x)::B)))(q:vo [c] st st')(hr:Qu st'.h.get c m x'):Mem h0 n0 X st' (L++((c,m,x')::B)):=by
 have hp:(L++(c,m,x)::B).Perm ((c,m,x)::(L++B)):=List.perm_middle;have h1:=hM.perm hp;have h2:=h1.yi (k:=0) rfl q hr;exact Mem.perm (h2.cast (by rfl)) (List.perm_middle (l₁:=L) (l₂:=B) (a:=(c,m,x'))).symm
end
theorem JK(l:List Int):(Uy l).length=l.length:=List.length_mergeSort _
theorem Mn(l:List Int):(Ah l).length=l.length:=by
 have:=Yo l;simp[Ah];omega
theorem Ym{α:Type}{l:List α}(h:l.length=0):l=[]:=List.length_eq_zero_iff.1 h
section
variable {h0:Hp} {n0:Nat} {X:List Nat} {st:St} {L A B:Ut} {ks:AV} {l:List Int}
theorem NR(hM:Mem h0 n0 X st (L++(A++B)))(hA:Acc n0 1 A ks (zC l))(hb1:l.length≤1000000):
  ∃v st' A',QP 261 [ks] st v st'∧v=.tup []∧Mem h0 n0 X st' (L++(A'++B))∧Acc n0 1 A' ks (zC (Uy l)):=by
 have hb:=hA.FP;rw[Qz]at hb;have h00:Uy []=[]:=Ym (JK []);generalize hg:zC l=ls at hA
 cases hA with
 |none=>
  have hl:l=[]:=Ym (by have h:=congrArg List.length hg;rw[Qz]at h;exact h);subst hl;exact⟨_,st,[],Ec (V0:=fun _=>.tup []) (F:=Uy) (V:=WG) rfl hM.fresh,rfl,hM,by rw[h00];exact .none⟩
 |own hc hz hb'=>
  rename_i c m;subst hg
  by_cases hl:l=[]
  ·subst hl;exact⟨_,st,_,Eb (V0:=fun _=>.tup []) (F:=Uy) (V:=WG) rfl hM.fresh c m,rfl,hM,by rw[h00];exact .own hc hz hb'⟩
  ·have hrow:Qu st.h.get c m (zC l).flatten:=hM.Gl (A:=[(c,m,(zC l).flatten)]) Q0
   have hs:Z4 (zC l).flatten=some l:=by rw[AS];exact XF l
   obtain⟨v,st',h1,h2,h3,h4⟩:=A3 (F:=Uy) (V:=WG) (V0:=fun _=>.tup []) (G:=PQ) (P:=Tryz.prog) (f:=261) rfl hM.fresh hrow hs hl hb1 (JK _);rw[←AS]at h3;refine⟨v,st',[(c,m,(zC (Uy l)).flatten)],?_,h2,Mem.PX (L:=L) (B:=B) hM h4 h3,?_⟩
   ·rw[Qz];exact h1
   ·have:=Acc.own (m:=m) (ls:=zC (Uy l)) hc (OH _) (by rw[Qz,JK];exact hb);rw[Qz,JK]at this;rw[Qz];exact this
theorem O0(hM:Mem h0 n0 X st (L++(A++B)))(hA:Acc n0 1 A ks (zC l))(hb1:l.length≤1000000):
  ∃v st' A',QP 271 [ks] st v st'∧Eo n0 A' v (Lib.compact l)∧Mem h0 n0 X st' (L++(A'++B)):=by
 have hb:=hA.FP;rw[Qz]at hb;have h00:Lib.compact ([]:List Int)=[]:=Ym (Nat.le_zero.1 (Yo []));generalize hg:zC l=ls at hA
 cases hA with
 |none=>
  have hl:l=[]:=Ym (by have h:=congrArg List.length hg;rw[Qz]at h;exact h);subst hl;exact⟨.nils,st,[],Ec (V0:=id) (F:=Ah) (V:=Ei) rfl hM.fresh,by rw[h00];exact .none,hM⟩
 |own hc hz hb'=>
  rename_i c m;subst hg
  by_cases hl:l=[]
  ·subst hl;refine⟨.sl c m 0 0 1,st,_,Eb (V0:=id) (F:=Ah) (V:=Ei) rfl hM.fresh c m,?_,hM⟩;rw[h00];exact .own (l:=[]) (rest:=[]) hc Q0
  ·have hrow:Qu st.h.get c m (zC l).flatten:=hM.Gl (A:=[(c,m,(zC l).flatten)]) Q0
   have hs:Z4 (zC l).flatten=some l:=by rw[AS];exact XF l
   obtain⟨v,st',h1,rfl,h3,h4⟩:=A3 (F:=Ah) (V:=Ei) (V0:=id) (G:=PQ) (P:=Tryz.prog) (f:=271) rfl hM.fresh hrow hs hl hb1 (Mn l);refine⟨Ei c m l,st',[(c,m,(Ah l).map AP)],?_,?_,Mem.PX (L:=L) (B:=B) hM h4 h3⟩
   ·rw[Qz];exact h1
   ·rw[Ah,List.map_append];exact .own hc (Nat.le_trans (Yo l) hb)
theorem RT(hM:Mem h0 n0 X st (L++(A++B))){n1:Nat}(hA:Eo n1 A ks l)(hi:FU l)(hb1:l.length≤1000000):
  ∃v st',QP 300 [ks] st v st'∧v=.str (Yt l)∧Qt st st':=by
 have hq:Qt st st:=⟨hM.fresh,Nat.le_refl _,fun _ _=>rfl⟩
 cases hA with
 |none=>exact⟨.str [],st,⟨0,1,rfl⟩,rfl,hq⟩
 |own hc hb=>
  rename_i c m rest;obtain⟨vs,ms,h1,h2⟩:=hM.Gl (A:=[(c,m,l.map AP++rest)]) (c:=c) (m:=m) (x:=l.map AP++rest) Q0;have hall:l.all il=true:=List.all_eq_true.2 fun z hz=>PA.2 (hi z hz);refine⟨.str (Yt l),st,⟨0,1,?_⟩,rfl,hq⟩;show Km [.sl c m 0 l.length 1] st=_;unfold Km;simp only[h1,h2]
  have ht:(l.map AP++rest).take l.length=l.map AP:=by
   rw[List.take_append_of_le_length Q0,List.take_of_length_le Q0]
  rw[ht,XF];simp only[];rw[if_pos ⟨trivial,hb1,hall⟩,IN hall]
end
end
section
open Go Go.RowKit
variable {c:Nat} {h:Hp} {ks:AV} {vs:List AV}

theorem Jb.frame{h':Hp}{z:Nat}{ls:List (List AV)}{v:AV}(r:Jb h [] z ls v)(e: ∀c m o n y,v=.sl c m o n y→h' c=h c):Jb h' [] z ls v:=
 ⟨r.len,r.FP,r.cell,fun i cs hi=>by
  obtain⟨c,m,off,cells,h1,h2,⟨ro,e1,vs,ms,h3,h4⟩,h5⟩:=r.at_ i cs hi
  exact⟨c,m,off,cells,h1,h2,⟨ro,e1,vs,ms,by rw[e c m off _ _ h1];exact h3,h4⟩,h5⟩,fun c m off n z' e'=>by
  obtain⟨h1,cells,⟨ro,e1,vs,ms,h3,h4⟩,h5⟩:=r.alive c m off n z' e'
  exact⟨h1,cells,⟨ro,e1,vs,ms,by rw[e c m off n z' e'];exact h3,h4⟩,h5⟩⟩
theorem Qu.frame{h':Hp}{m:Nat}{l:List AV}(r:Qu h c m l)(e:h' c=h c):Qu h' c m l:=by
 obtain⟨vs,ms,h1,h2⟩:=r;exact⟨vs,ms,by rw[e];exact h1,h2⟩
theorem Qu.RJ{m c':Nat}{l:List AV}{es:List (AV×AV×Nat)}{k:Nat}(r:Qu h c m l)(hm:h c'=some (.map es k)):c≠c':=by
 rintro rfl
 obtain⟨vs,ms,h1,_⟩:=r;rw[h1]at hm;cases hm
inductive YS:Ut→AV→List AV→Prop
 |none:YS [] .nils []
 |own {c m:Nat} {vs:List AV} (hb:vs.length≤1000000000):YS [(c,m,vs)] (.sl c m 0 vs.length 1) vs
theorem YS.len{A:Ut}(h:YS A ks vs):JZ ks=some vs.length:=by cases h<;>rfl
theorem YS.cell{A:Ut}(h:YS A ks vs):Qw ks=true:=by cases h<;>rfl
theorem YS.rd{A:Ut}(h:YS A ks vs){hp:Hp}(hr: ∀c m l,(c,m,l)∈A→Qu hp c m l):Jb hp [] 1 (vs.map fun v=>[v]) ks:=by
 cases h with
 |none=>exact .nil _ _ _
 |own hb=>
  rename_i c m;have h1:=hr c m vs Q0
  have e:(vs.map fun v=>[v]).flatten=vs:=by
   clear h1 hr hb
   induction vs with
   |nil=>rfl
   |cons v vs ih=>rw[List.map_cons,List.flatten_cons,ih];rfl
  have:=Jb.own (X:=[]) (z:=1) (ls:=vs.map fun v=>[v]) (c:=c) (m:=m) (by rw[e];exact h1) Q0 Q0 (by rw[List.length_map];omega);rw[List.length_map]at this;exact this
def Xb:Nat→List (List Int)→List Int→Option Nat
 |_,[],_=>none
 |j,x::L,s=>if x=s then some j else Xb (j+1) L s
def VP:Nat→List (List Int)→List (AV×AV)
 |_,[]=>[]
 |j,x::L=>(.str (Yt x),.int .i64 (j:Int))::VP (j+1) L
def wL(e:AV×AV×Nat):AV×AV:=(e.1,e.2.1)
theorem Lx: ∀(j:Nat) (L:List (List Int)) (s:List Int),VP j (L++[s])=VP j L++[(.str (Yt s),.int .i64 (j+L.length:Nat))]
 |j,[],s=>by simp[VP]
 |j,x::L,s=>by
  rw[List.cons_append,VP,VP,Lx (j+1) L s,List.cons_append,List.length_cons,show j+1+L.length=j+(L.length+1) by omega]
theorem NY: ∀{L:List (List Int)} {j i:Nat} {s:List Int},Xb j L s=some i→j≤i∧L[i-j]? =some s
 |[],j,i,s,h=>by cases h
 |x::L,j,i,s,h=>by
  rw[Xb]at h
  split at h
  ·rename_i e
   injection h with h
   subst h e;exact⟨Nat.le_refl _,by rw[Nat.sub_self];rfl⟩
  ·obtain⟨h1,h2⟩:=NY h;refine⟨by omega,?_⟩;rw[show i-j=(i-(j+1))+1 by omega];exact h2
theorem Hn: ∀{L:List (List Int)} {j:Nat} {s:List Int},Xb j L s=none→s∉L
 |[],j,s,_=>by simp
 |x::L,j,s,h=>by
  rw[Xb]at h
  split at h
  ·cases h
  ·rename_i e;intro hm;rcases List.mem_cons.1 hm with e'|hm
   ·exact e e'.symm
   ·exact Hn h hm
theorem Lm(s:List Int): ∀(L:List (List Int)) (es:List (AV×AV×Nat)) (j:Nat),es.map wL=VP j L→Ln .string (.str (Yt s)) es j=some ((Xb j L s).map fun i=>(i,.int .i64 (i:Int))):=by
 intro L
 induction L with
 |nil=>
  intro es j h
  cases es with
  |nil=>rfl
  |cons e es=>cases h
 |cons x L ih=>
  intro es j h
  cases es with
  |nil=>cases h
  |cons e es=>
   rw[List.map_cons,VP]at h
   injection h with h1 h2
   obtain⟨e1,e2,e3⟩:=e
   injection h1 with h1 h3
   have h1:e1=.str (Yt x):=h1;have h3:e2=.int .i64 (j:Int):=h3;subst h1 h3;rw[XH,Xb];show(ob (some (Ot (Yt s) (Yt x))) fun b=>Qj b _ _)=_;rw[Qf,Zm]
   by_cases hx:x=s
   ·subst hx;rw[if_pos rfl,decide_eq_true rfl];rfl
   ·rw[if_neg hx,decide_eq_false (fun e=>hx (C6 e).symm),Qp];exact ih es (j+1) h2
def Tx(L:List (List Int))(l:List Int):Nat:=(Xb 0 L (JM l)).getD L.length
def EK(L:List (List Int))(l:List Int):List (List Int):=if(Xb 0 L (JM l)).isSome then L else L++[JM l]
section
variable {G:Env} {K:List (Nat×AV)} {st:St} {cm n:Nat} {es:List (AV×AV×Nat)} {L:List (List Int)} {s:List Int} {m k x:Operand}
theorem Pt(hm:QE G K m=some (.mp cm))(hk:QE G K k=some (.str (Yt s)))(hc:st.h.get cm=some (.map es n))(he:es.map wL=VP 0 L):
  Uk Tryz.prog G K (.lookup 316 m k true) st (.tup [.int .i64 ((Xb 0 L s).getD 0:Nat),.bool (Xb 0 L s).isSome]) st:=.of fun T hT c d ty pos af g=>by
 show(ob (QI G T m) fun m=>ob (QI G T k) fun k=>ret (Xp Tryz.prog 316 m k true st.h.get) st)=_;rw[hT.QI hm,hT.QI hk,Qf,Qf];unfold Xp
 have hz:zeroV Tryz.prog 3=some (.int .i64 0):=by kernel_rfl
 have hfd:U7 Tryz.prog 9 .string (.str (Yt s)) es 0=some ((Xb 0 L s).map fun i=>(i,.int .i64 (i:Int))):=Lm s L es 0 he;have hko:Vo Tryz.prog 9 .string (.str (Yt s))=true:=rfl;simp only[Wx,Hd,hc,Qf,hfd,hko,Q6]
 cases hn:Xb 0 L s with
 |none=>
  simp only[Option.map_none,hz,Qf];rfl
 |some i=>rfl
noncomputable def VI(st:St)(cm n:Nat)(es:List (AV×AV×Nat))(s:List Int)(z:Int):St:=⟨st.n,st.h.set cm (.map (es++[(.str (Yt s),.int .i64 z,n)]) (n+1))⟩
theorem zR{z:Int}(hm:QE G K m=some (.mp cm))(hk:QE G K k=some (.str (Yt s)))(hx:QE G K x=some (.int .i64 z))(hc:st.h.get cm=some (.map es n))(he:es.map wL=VP 0 L)(hn:Xb 0 L s=none):
  Uk Tryz.prog G K (.mapUpdate 316 m k x) st (.tup []) (VI st cm n es s z):=.of fun T hT c d ty pos af g=>by
 show(ob (QI G T m) fun m=>ob (QI G T k) fun k=>ob (QI G T x) fun x=>YC Tryz.prog 316 m k x st)=_;rw[hT.QI hm,hT.QI hk,hT.QI hx,Qf,Qf,Qf];unfold YC VI;have hfd:U7 Tryz.prog 9 .string (.str (Yt s)) es 0=some ((Xb 0 L s).map fun i=>(i,.int .i64 (i:Int))):=Lm s L es 0 he;have hko:Vo Tryz.prog 9 .string (.str (Yt s))=true:=rfl;rw[hn,Option.map_none]at hfd;simp only[Wx,Hd,hc,Qf,hfd,hko,Q6];show(Q4 true _)=_;simp only[Q6,Ju,J9,QC,JY]
end
section
variable {G:Env} {N:Nat} {ops:List Oper} {T:Tr AV} {K:List (Nat×AV)} {st:St} {sn:List St} {r:List (Nat×Nat)} {R:Tr AV→St→Prop} {i:Nat} {ty:TypeId} {pos:String} {af:Array Edge} {cm n:Nat} {es:List (AV×AV×Nat)} {L:List (List Int)} {s:List Int} {m k x:Operand} {z:Int}
theorem yY(ho:ops[i]? =some ⟨none,.mapUpdate 316 m k x,ty,pos,af,none⟩)(hK:QG K T)(hm:QE G K m=some (.mp cm))(hk:QE G K k=some (.str (Yt s)))(hx:QE G K x=some (.int .i64 z))(hc:st.h.get cm=some (.map es n))(he:es.map wL=VP 0 L)(hn:Xb 0 L s=none)
  (hr:WD Tryz.prog G N ops (r.map (UK ops)) R T (VI st cm n es s z) (VI st cm n es s z::sn)):WD Tryz.prog G N ops (((i,0)::r).map (UK ops)) R T st sn:=by
 rw[Y3 ho];exact XU rfl (zR hm hk hx hc he hn T hK _ _ _ _ _) rfl (fun e he=>by cases he) hr
end
theorem Pz(st:St)(cm n:Nat)(es:List (AV×AV×Nat))(s:List Int)(z:Int):(VI st cm n es s z).h.get cm=some (.map (es++[(.str (Yt s),.int .i64 z,n)]) (n+1)):=by
 unfold VI;rw[QW];exact Jq _ _ _
theorem WS(st:St){cm:Nat}(n:Nat)(es:List (AV×AV×Nat))(s:List Int)(z:Int)(h:c≠cm):(VI st cm n es s z).h.get c=st.h.get c:=by
 unfold VI;rw[QW,Yg _ _ h]
theorem Co{st:St}(hf:Qh st){cm:Nat}(hc:cm<st.n)(n:Nat)(es:List (AV×AV×Nat))(s:List Int)(z:Int):Qh (VI st cm n es s z):=fun c hle=>by
 have hle:st.n≤c:=hle;rw[WS _ _ _ _ _ Qe];exact hf c hle
end
section
open Go

theorem Yu{place:Nat→Option (Nat×Nat)}{i off:Nat}{v:AV}{ps:List (Nat×AV)}{l l1:List AV}(hp:place i=some (off,1))(hc:Qw v=true)(ho:Yw [v] off l=some l1):ZT place ((i,v)::ps) l=ZT place ps l1:=by
 rw[A0,hp,Qf,X1 hc];show Q4 true (ob (Yw [v] off l) _)=_;rw[ho];rfl
theorem Oq{place:Nat→Option (Nat×Nat)}{i off n:Nat}{v:AV}{ps:List (Nat×AV)}{l l1:List AV}(hp:place i=some (off,n))(hn:Nat.beq (UM (QJ v)) n=true)(ho:Yw (QJ v) off l=some l1):ZT place ((i,v)::ps) l=ZT place ps l1:=by
 rw[A0,hp,Qf];show Q4 (Nat.beq (UM (QJ v)) n) (ob (Yw (QJ v) off l) _)=_;rw[hn,ho];rfl
end
end Go.Proofs.YtildagdnomiahaaGreatDoor
