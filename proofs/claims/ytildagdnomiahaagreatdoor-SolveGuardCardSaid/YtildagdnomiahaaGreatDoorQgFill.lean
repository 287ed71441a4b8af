/-
  What the reckoner knows of the pool's program: a set's text, numbers sorted, each once; what the laws ask beside their own question.
-/
import Derived.Test.YtildagdnomiahaaGreatDoorQgPsq
set_option maxRecDepth 100000
set_option linter.unusedVariables false
namespace Go.Proofs.YtildagdnomiahaaGreatDoor
section
open Go Go.RowKit Go.Shelf Go.Sort

noncomputable section
def GP:List (FuncId×(List AV→St→Option (AV×St))):=
 (300,IS)::
 (261,Y3 Uu W4 fun _=>.tup [])::
 (271,Y3 EO WY id)::
 []
def SS:Env:=⟨fun _=>false,BY CA,HJ GP,Wq⟩
abbrev QR:=Ev Tryz.prog SS
end
theorem Rq:ER Tryz.prog SS:=⟨fun f q h=>Lv (f,q) (Hh h),fun f sm h=>by
 have h:HJ GP f=some sm:=h;have h:=NM h;unfold GP at h;rcases List.mem_cons.1 h with h|h
 ·injection h with e1 e2;subst e1 e2;exact yh fun w0 w h hb=>Wq.below h hb
 rcases List.mem_cons.1 h with h|h
 ·injection h with e1 e2;subst e1 e2;exact RM
 rcases List.mem_cons.1 h with h|h
 ·injection h with e1 e2;subst e1 e2;exact Gn
 cases h⟩
end
section
open Go

theorem QP:tk Tryz.prog 167=.one:=by kernel_rfl
theorem Zr:UH Tryz.prog 167=some 1:=by kernel_rfl
theorem UC:Tryz.prog.underlying 167=some (.slice 48):=by kernel_rfl
theorem J5:JK Tryz.prog 167=some 1:=by kernel_rfl
theorem Yh:tk Tryz.prog 293=.one:=by kernel_rfl
theorem W0:Tryz.prog.underlying 293=some (.pointer 318):=by kernel_rfl
theorem Y1:tk Tryz.prog 316=.one:=by kernel_rfl
theorem Ol:zeroOf Tryz.prog 318=some [.nils,.nilm]:=by kernel_rfl
theorem Yk:Q6 Tryz.prog 318 0=some 0:=by kernel_rfl
theorem WO:Q6 Tryz.prog 318 1=some 1:=by kernel_rfl
theorem O0:Py Tryz.prog 318 [(0,1),(1,1)] [.nils,.nilm]:=⟨⟨_,Tryz.underlying318,by kernel_rfl,by kernel_rfl⟩,Ol⟩
theorem JB:AA Tryz.prog 167 48 1:=⟨UC,by kernel_rfl,⟨_,YT,rfl⟩,by kernel_rfl,by decide,by decide+kernel⟩
theorem Wm:Tryz.prog.underlying 316=some (.map 9 3):=by kernel_rfl
end
section
open Go

section
variable {P:Program} {G:Env} {K:List (Nat×AV)} {st:St} {t yt e:TypeId} {x y:Operand}
theorem U0{c m o:Nat}(ht:P.underlying t=some (.pointer e))(hx:QD G K x=some (.ptr c m o))(hy:QD G K y=some .nilp):Uf P G K (.binOp .eql t x y yt) st (.bool false) st:=
 U2 hx hy (by
  show Q5 (WV (P.underlying t) (.ptr c m o)) (ob (WU (.ptr c m o) .nilp) fun b=>some (AV.bool b))=_
  rw[ht];rfl)
theorem uA{c m o:Nat}(ht:P.underlying t=some (.pointer e))(hx:QD G K x=some (.ptr c m o))(hy:QD G K y=some .nilp):Uf P G K (.binOp .neq t x y yt) st (.bool true) st:=
 U2 hx hy (by
  show Q5 (WV (P.underlying t) (.ptr c m o)) (ob (WU (.ptr c m o) .nilp) fun b=>some (AV.bool !b))=_
  rw[ht];rfl)
end
end
section
open Go
variable {G:Env} {K:List (Nat×AV)} {P:Program} {e t:TypeId} {n:Nat} {st:St}

theorem Ep{x i:Operand}{c m off z:Nat}{k:IntKind}{j:Nat}(he:Vd P t=some (n,e))(hz:P.cellsOf e=z)(hx:QD G K x=some (.ptr c m off))(hi:QD G K i=some (.int k (j:Int)))(hj:j<n):
  Uf P G K (.indexAddr t x i) st (.ptr c m (off+j *z)) st:=.of fun T hT cc d ty pos af g=>by
 show ret (ob (QU G T x) fun x=>ob (QU G T i) fun i=>Uw P t x i) st=_;rw[hT.QU hx,hT.QU hi,Qk,Qk];show ret (ob (GI (j:Int)) fun i=>ob (Vd P t) fun q=>Q5 (Nat.ble (i+1) q.1) (JO (off+i *P.cellsOf q.2) fun o=>some (AV.ptr c m o))) st=_;show ret (ob (Vd P t) fun q=>Q5 (Nat.ble (j+1) q.1) (JO (off+j *P.cellsOf q.2) fun o=>some (AV.ptr c m o))) st=_;rw[he,Qk];show ret (Q5 (Nat.ble (j+1) n) (JO (off+j *P.cellsOf e) fun o=>some (AV.ptr c m o))) st=_;rw[Nat.ble_eq_true_of_le hj,hz];show ret (JO (off+j *z) fun o=>some (AV.ptr c m o)) st=_;rw[QI];rfl
theorem ID:Vd Tryz.prog 222=some (2,3):=by kernel_rfl
theorem Zf:Program.cellsOf Tryz.prog 3=1:=by kernel_rfl
theorem Ek:Tryz.prog.underlying 222=some (.array 2 3):=by kernel_rfl
theorem YM{parts:Array (Nat×Operand)}{k:Nat}{z r:List AV}{ps:List (Nat×AV)}(u:P.underlying t=some (.array n e))(ue:(P.underlying e).isSome=true)(hk:P.cellsOf e=k)(hz:zeroOf P t=some z)(hp:Yv (QD G K) parts=some ps)(hf:ZM (fun i=>some (i *k,k)) ps z=some r):
  Uf P G K (.build t parts) st (.agg r) st:=.of fun T hT c d ty pos af g=>by
 show ret (Vc P t parts (QU G T)) st=_;unfold Vc;simp only[u,ue,Q7,hz,Qk,hT.parts hp,hk,hf,Ju];rfl
theorem FJ:(Tryz.prog.underlying 3).isSome=true:=by kernel_rfl
theorem NQ(a b x y:Int):UK Tryz.prog 222 [.int .i64 a,.int .i64 b] [.int .i64 x,.int .i64 y]=some (Ql (Fw a x) (Fw b y) false):=by kernel_rfl
def wm:AV→Bool
 |.nils=>true
 |_=>false
theorem N4{yt:TypeId}{x y:Operand}{kb:AV}(hn:JU kb=some n)(ht:P.underlying t=some (.slice e))(hx:QD G K x=some kb)(hy:QD G K y=some .nils):Uf P G K (.binOp .eql t x y yt) st (.bool (wm kb)) st:=
 U2 hx hy (by
  cases kb<;>first|(cases hn;done)|skip
  all_goals
   show Q5 (WV (P.underlying t) _) (ob (WU _ .nils) fun b=>some (AV.bool b))=_
   rw[ht];rfl)
theorem PT{kb:AV}(h:wm kb=true):kb=.nils:=by cases kb<;>first|rfl|cases h
end
section
open Go Go.RowKit
variable {c m:Nat}

abbrev Uq:=List (Nat×Nat×List AV)
theorem AF(l:List Int):(zC l).flatten=l.map A8:=by
 induction l with
 |nil=>rfl
 |cons z l ih=>rw[zC,List.map_cons,List.flatten_cons];show AV.int .i64 z::(zC l).flatten=_;rw[ih];rfl
inductive Ee(n0:Nat):Uq→AV→List Int→Prop
 |none:Ee n0 [] .nils []
 |own {c m:Nat} {l:List Int} {rest:List AV} (hc:n0≤c) (hb:l.length≤1000000000):Ee n0 [(c,m,l.map A8++rest)] (.sl c m 0 l.length 1) l
theorem Ee.cell{n0:Nat}{A:Uq}{ks:AV}{l:List Int}(h:Ee n0 A ks l):Qu ks=true:=by cases h<;>rfl
theorem uo{h:Hp}{l:List Int}{rest:List AV}(r:Qw h c m (l.map A8++rest))(hb:l.length≤1000000000):Je h [] 1 (zC l) (.sl c m 0 l.length 1):=by
 refine⟨by rw[Q0];rfl,by rw[Q0];omega,rfl,fun i cs hi=>?_,fun c' m' off n z' e=>?_⟩
 ·have hlt:=(List.getElem?_eq_some_iff.1 hi).1;rw[Q0]at hlt;rw[JA (List.getElem?_eq_getElem hlt)]at hi
  injection hi with hi
  subst hi;refine⟨c,m,0,_,by rw[Q0],by simp,r.QF,rfl,?_⟩
  have e1:(l.map A8++rest)[i]? =some (A8 l[i]):=by
   rw[List.getElem?_append_left (by rw[List.length_map];exact hlt),List.getElem?_map,List.getElem?_eq_getElem hlt];rfl
  obtain⟨hi2,e2⟩:=List.getElem?_eq_some_iff.1 e1;rw[Nat.zero_add,Nat.mul_one,List.drop_eq_getElem_cons hi2,e2];rfl
 ·injection e with e1 e2 e3 e4 e5
  subst e1 e2 e3 e4 e5;exact⟨by simp,_,r.QF,by simp⟩
section
variable {h0:Hp} {n0:Nat} {X:List Nat} {st st':St} {M L A B:Uq} {ks:AV} {l:List Int}
theorem Mem.yR(hM:Mem h0 n0 X st (L++(A++B))){n1:Nat}(hA:Ee n1 A ks l):Je st.h.get [] 1 (zC l) ks:=by
 cases hA with
 |none=>exact .nil _ _ _
 |own hc hb=>
  rename_i c m rest;exact uo (hM.row c m (l.map A8++rest) Qx) hb
theorem Mem.O8(hM:Mem h0 n0 X st (L++((A++B)))){x:List AV}(h:(c,m,x)∈A):Qw st.h.get c m x:=hM.row c m x (by simp[h])
theorem Mem.Pm{x x':List AV}(hM:Mem h0 n0 X st (L++((c,m,x)::B)))(q:yQ [c] st st')(hr:Qw st'.h.get c m x'):Mem h0 n0 X st' (L++((c,m,x')::B)):=by
 have hp:(L++(c,m,x)::B).Perm ((c,m,x)::(L++B)):=List.perm_middle;have h1:=hM.perm hp;have h2:=h1.qU (k:=0) rfl q hr;exact Mem.perm (h2.cast (by rfl)) (List.perm_middle (l₁:=L) (l₂:=B) (a:=(c,m,x'))).symm
end
theorem JM(l:List Int):(Uu l).length=l.length:=List.length_mergeSort _
theorem SX(l:List Int):(EO l).length=l.length:=by
 have:=Yl l;simp[EO];omega
theorem Yj{α:Type}{l:List α}(h:l.length=0):l=[]:=List.length_eq_zero_iff.1 h
section
variable {h0:Hp} {n0:Nat} {X:List Nat} {st:St} {L A B:Uq} {ks:AV} {l:List Int}
theorem N0(hM:Mem h0 n0 X st (L++(A++B)))(hA:Acc n0 1 A ks (zC l))(hb1:l.length≤1000000):
  ∃v st' A',QR 261 [ks] st v st'∧v=.tup []∧Mem h0 n0 X st' (L++(A'++B))∧Acc n0 1 A' ks (zC (Uu l)):=by
 have hb:=hA.EA;rw[Q0]at hb;have h00:Uu []=[]:=Yj (JM []);generalize hg:zC l=ls at hA
 cases hA with
 |none=>
  have hl:l=[]:=Yj (by have h:=congrArg List.length hg;rw[Q0]at h;exact h);subst hl;exact⟨_,st,[],WT (V0:=fun _=>.tup []) (F:=Uu) (V:=W4) rfl hM.fresh,rfl,hM,by rw[h00];exact .none⟩
 |own hc hz hb'=>
  rename_i c m;subst hg
  by_cases hl:l=[]
  ·subst hl;exact⟨_,st,_,WS (V0:=fun _=>.tup []) (F:=Uu) (V:=W4) rfl hM.fresh c m,rfl,hM,by rw[h00];exact .own hc hz hb'⟩
  ·have hrow:Qw st.h.get c m (zC l).flatten:=hM.O8 (A:=[(c,m,(zC l).flatten)]) Qx
   have hs:Zv (zC l).flatten=some l:=by rw[AF];exact X6 l
   obtain⟨v,st',h1,h2,h3,h4⟩:=Ae (F:=Uu) (V:=W4) (V0:=fun _=>.tup []) (G:=SS) (P:=Tryz.prog) (f:=261) rfl hM.fresh hrow hs hl hb1 (JM _);rw[←AF]at h3;refine⟨v,st',[(c,m,(zC (Uu l)).flatten)],?_,h2,Mem.Pm (L:=L) (B:=B) hM h4 h3,?_⟩
   ·rw[Q0];exact h1
   ·have:=Acc.own (m:=m) (ls:=zC (Uu l)) hc (Om _) (by rw[Q0,JM];exact hb);rw[Q0,JM]at this;rw[Q0];exact this
theorem NV(hM:Mem h0 n0 X st (L++(A++B)))(hA:Acc n0 1 A ks (zC l))(hb1:l.length≤1000000):
  ∃v st' A',QR 271 [ks] st v st'∧Ee n0 A' v (Lib.compact l)∧Mem h0 n0 X st' (L++(A'++B)):=by
 have hb:=hA.EA;rw[Q0]at hb;have h00:Lib.compact ([]:List Int)=[]:=Yj (Nat.le_zero.1 (Yl []));generalize hg:zC l=ls at hA
 cases hA with
 |none=>
  have hl:l=[]:=Yj (by have h:=congrArg List.length hg;rw[Q0]at h;exact h);subst hl;exact⟨.nils,st,[],WT (V0:=id) (F:=EO) (V:=WY) rfl hM.fresh,by rw[h00];exact .none,hM⟩
 |own hc hz hb'=>
  rename_i c m;subst hg
  by_cases hl:l=[]
  ·subst hl;refine⟨.sl c m 0 0 1,st,_,WS (V0:=id) (F:=EO) (V:=WY) rfl hM.fresh c m,?_,hM⟩;rw[h00];exact .own (l:=[]) (rest:=[]) hc Qx
  ·have hrow:Qw st.h.get c m (zC l).flatten:=hM.O8 (A:=[(c,m,(zC l).flatten)]) Qx
   have hs:Zv (zC l).flatten=some l:=by rw[AF];exact X6 l
   obtain⟨v,st',h1,rfl,h3,h4⟩:=Ae (F:=EO) (V:=WY) (V0:=id) (G:=SS) (P:=Tryz.prog) (f:=271) rfl hM.fresh hrow hs hl hb1 (SX l);refine⟨WY c m l,st',[(c,m,(EO l).map A8)],?_,?_,Mem.Pm (L:=L) (B:=B) hM h4 h3⟩
   ·rw[Q0];exact h1
   ·rw[EO,List.map_append];exact .own hc (Nat.le_trans (Yl l) hb)
theorem Rb(hM:Mem h0 n0 X st (L++(A++B))){n1:Nat}(hA:Ee n1 A ks l)(hi:FE l)(hb1:l.length≤1000000):
  ∃v st',QR 300 [ks] st v st'∧v=.str (Yq l)∧Qt st st':=by
 have hq:Qt st st:=⟨hM.fresh,Nat.le_refl _,fun _ _=>rfl⟩
 cases hA with
 |none=>exact⟨.str [],st,⟨0,1,rfl⟩,rfl,hq⟩
 |own hc hb=>
  rename_i c m rest;obtain⟨vs,ms,h1,h2⟩:=hM.O8 (A:=[(c,m,l.map A8++rest)]) (c:=c) (m:=m) (x:=l.map A8++rest) Qx;have hall:l.all wz=true:=List.all_eq_true.2 fun z hz=>DM.2 (hi z hz);refine⟨.str (Yq l),st,⟨0,1,?_⟩,rfl,hq⟩;show IS [.sl c m 0 l.length 1] st=_;unfold IS;simp only[h1,h2]
  have ht:(l.map A8++rest).take l.length=l.map A8:=by
   rw[List.take_append_of_le_length Qx,List.take_of_length_le Qx]
  rw[ht,X6];simp only[];rw[if_pos ⟨trivial,hb1,hall⟩,I7 hall]
end
end
section
open Go Go.RowKit
variable {c:Nat} {h:Hp} {ks:AV} {vs:List AV}

theorem Je.frame{h':Hp}{z:Nat}{ls:List (List AV)}{v:AV}(r:Je h [] z ls v)(e: ∀c m o n y,v=.sl c m o n y→h' c=h c):Je h' [] z ls v:=
 ⟨r.len,r.EA,r.cell,fun i cs hi=>by
  obtain⟨c,m,off,cells,h1,h2,⟨ro,e1,vs,ms,h3,h4⟩,h5⟩:=r.at_ i cs hi
  exact⟨c,m,off,cells,h1,h2,⟨ro,e1,vs,ms,by rw[e c m off _ _ h1];exact h3,h4⟩,h5⟩,fun c m off n z' e'=>by
  obtain⟨h1,cells,⟨ro,e1,vs,ms,h3,h4⟩,h5⟩:=r.alive c m off n z' e'
  exact⟨h1,cells,⟨ro,e1,vs,ms,by rw[e c m off n z' e'];exact h3,h4⟩,h5⟩⟩
theorem Qw.frame{h':Hp}{m:Nat}{l:List AV}(r:Qw h c m l)(e:h' c=h c):Qw h' c m l:=by
 obtain⟨vs,ms,h1,h2⟩:=r;exact⟨vs,ms,by rw[e];exact h1,h2⟩
theorem Qw.PS{m c':Nat}{l:List AV}{es:List (AV×AV×Nat)}{k:Nat}(r:Qw h c m l)(hm:h c'=some (.map es k)):c≠c':=by
 rintro rfl
 obtain⟨vs,ms,h1,_⟩:=r;rw[h1]at hm;cases hm
inductive YJ:Uq→AV→List AV→Prop
 |none:YJ [] .nils []
 |own {c m:Nat} {vs:List AV} (hb:vs.length≤1000000000):YJ [(c,m,vs)] (.sl c m 0 vs.length 1) vs
theorem YJ.len{A:Uq}(h:YJ A ks vs):JU ks=some vs.length:=by cases h<;>rfl
theorem YJ.cell{A:Uq}(h:YJ A ks vs):Qu ks=true:=by cases h<;>rfl
theorem YJ.rd{A:Uq}(h:YJ A ks vs){hp:Hp}(hr: ∀c m l,(c,m,l)∈A→Qw hp c m l):Je hp [] 1 (vs.map fun v=>[v]) ks:=by
 cases h with
 |none=>exact .nil _ _ _
 |own hb=>
  rename_i c m;have h1:=hr c m vs Qx
  have e:(vs.map fun v=>[v]).flatten=vs:=by
   clear h1 hr hb
   induction vs with
   |nil=>rfl
   |cons v vs ih=>rw[List.map_cons,List.flatten_cons,ih];rfl
  have:=Je.own (X:=[]) (z:=1) (ls:=vs.map fun v=>[v]) (c:=c) (m:=m) (by rw[e];exact h1) Qx Qx (by rw[List.length_map];omega);rw[List.length_map]at this;exact this
def ZV:Nat→List (List Int)→List Int→Option Nat
 |_,[],_=>none
 |j,x::L,s=>if x=s then some j else ZV (j+1) L s
def VE:Nat→List (List Int)→List (AV×AV)
 |_,[]=>[]
 |j,x::L=>(.str (Yq x),.int .i64 (j:Int))::VE (j+1) L
def zK(e:AV×AV×Nat):AV×AV:=(e.1,e.2.1)
theorem La: ∀(j:Nat) (L:List (List Int)) (s:List Int),VE j (L++[s])=VE j L++[(.str (Yq s),.int .i64 (j+L.length:Nat))]
 |j,[],s=>by simp[VE]
 |j,x::L,s=>by
  rw[List.cons_append,VE,VE,La (j+1) L s,List.cons_append,List.length_cons,show j+1+L.length=j+(L.length+1) by omega]
theorem N7: ∀{L:List (List Int)} {j i:Nat} {s:List Int},ZV j L s=some i→j≤i∧L[i-j]? =some s
 |[],j,i,s,h=>by cases h
 |x::L,j,i,s,h=>by
  rw[ZV]at h
  split at h
  ·rename_i e
   injection h with h
   subst h e;exact⟨Nat.le_refl _,by rw[Nat.sub_self];rfl⟩
  ·obtain⟨h1,h2⟩:=N7 h;refine⟨by omega,?_⟩;rw[show i-j=(i-(j+1))+1 by omega];exact h2
theorem FY: ∀{L:List (List Int)} {j:Nat} {s:List Int},ZV j L s=none→s∉L
 |[],j,s,_=>by simp
 |x::L,j,s,h=>by
  rw[ZV]at h
  split at h
  ·cases h
  ·rename_i e;intro hm;rcases List.mem_cons.1 hm with e'|hm
   ·exact e e'.symm
   ·exact FY h hm
theorem KO(s:List Int): ∀(L:List (List Int)) (es:List (AV×AV×Nat)) (j:Nat),es.map zK=VE j L→KP .string (.str (Yq s)) es j=some ((ZV j L s).map fun i=>(i,.int .i64 (i:Int))):=by
 intro L
 induction L with
 |nil=>
  intro es j h
  cases es with
  |nil=>rfl
  |cons e es=>cases h
 |cons x L ih=>
  intro es j h
  cases es with
  |nil=>cases h
  |cons e es=>
   rw[List.map_cons,VE]at h
   injection h with h1 h2
   obtain⟨e1,e2,e3⟩:=e
   injection h1 with h1 h3
   have h1:e1=.str (Yq x):=h1;have h3:e2=.int .i64 (j:Int):=h3;subst h1 h3;rw[X7,ZV];show(ob (some (NO (Yq s) (Yq x))) fun b=>Ql b _ _)=_;rw[Qk,Zc]
   by_cases hx:x=s
   ·subst hx;rw[if_pos rfl,decide_eq_true rfl];rfl
   ·rw[if_neg hx,decide_eq_false (fun e=>hx (BJ e).symm),Qr];exact ih es (j+1) h2
def Si(L:List (List Int))(l:List Int):Nat:=(ZV 0 L (JN l)).getD L.length
def E8(L:List (List Int))(l:List Int):List (List Int):=if(ZV 0 L (JN l)).isSome then L else L++[JN l]
section
variable {G:Env} {K:List (Nat×AV)} {st:St} {cm n:Nat} {es:List (AV×AV×Nat)} {L:List (List Int)} {s:List Int} {m k x:Operand}
theorem D2(hm:QD G K m=some (.mp cm))(hk:QD G K k=some (.str (Yq s)))(hc:st.h.get cm=some (.map es n))(he:es.map zK=VE 0 L):
  Uf Tryz.prog G K (.lookup 316 m k true) st (.tup [.int .i64 ((ZV 0 L s).getD 0:Nat),.bool (ZV 0 L s).isSome]) st:=.of fun T hT c d ty pos af g=>by
 show(ob (QU G T m) fun m=>ob (QU G T k) fun k=>ret (Xh Tryz.prog 316 m k true st.h.get) st)=_;rw[hT.QU hm,hT.QU hk,Qk,Qk];unfold Xh
 have hz:zeroV Tryz.prog 3=some (.int .i64 0):=by kernel_rfl
 have hfd:U4 Tryz.prog 9 .string (.str (Yq s)) es 0=some ((ZV 0 L s).map fun i=>(i,.int .i64 (i:Int))):=KO s L es 0 he;have hko:Va Tryz.prog 9 .string (.str (Yq s))=true:=rfl;simp only[Wm,FK,hc,Qk,hfd,hko,Q7]
 cases hn:ZV 0 L s with
 |none=>
  simp only[Option.map_none,hz,Qk];rfl
 |some i=>rfl
noncomputable def V6(st:St)(cm n:Nat)(es:List (AV×AV×Nat))(s:List Int)(z:Int):St:=⟨st.n,st.h.set cm (.map (es++[(.str (Yq s),.int .i64 z,n)]) (n+1))⟩
theorem uC{z:Int}(hm:QD G K m=some (.mp cm))(hk:QD G K k=some (.str (Yq s)))(hx:QD G K x=some (.int .i64 z))(hc:st.h.get cm=some (.map es n))(he:es.map zK=VE 0 L)(hn:ZV 0 L s=none):
  Uf Tryz.prog G K (.mapUpdate 316 m k x) st (.tup []) (V6 st cm n es s z):=.of fun T hT c d ty pos af g=>by
 show(ob (QU G T m) fun m=>ob (QU G T k) fun k=>ob (QU G T x) fun x=>Y4 Tryz.prog 316 m k x st)=_;rw[hT.QU hm,hT.QU hk,hT.QU hx,Qk,Qk,Qk];unfold Y4 V6;have hfd:U4 Tryz.prog 9 .string (.str (Yq s)) es 0=some ((ZV 0 L s).map fun i=>(i,.int .i64 (i:Int))):=KO s L es 0 he;have hko:Va Tryz.prog 9 .string (.str (Yq s))=true:=rfl;rw[hn,Option.map_none]at hfd;simp only[Wm,FK,hc,Qk,hfd,hko,Q7];show(Q5 true _)=_;simp only[Q7,Ju,JL,QI,JX]
end
section
variable {G:Env} {N:Nat} {ops:List Oper} {T:Tr AV} {K:List (Nat×AV)} {st:St} {sn:List St} {r:List (Nat×Nat)} {R:Tr AV→St→Prop} {i:Nat} {ty:TypeId} {pos:String} {af:Array Edge} {cm n:Nat} {es:List (AV×AV×Nat)} {L:List (List Int)} {s:List Int} {m k x:Operand} {z:Int}
theorem jJ(ho:ops[i]? =some ⟨none,.mapUpdate 316 m k x,ty,pos,af,none⟩)(hK:QE K T)(hm:QD G K m=some (.mp cm))(hk:QD G K k=some (.str (Yq s)))(hx:QD G K x=some (.int .i64 z))(hc:st.h.get cm=some (.map es n))(he:es.map zK=VE 0 L)(hn:ZV 0 L s=none)
  (hr:WD Tryz.prog G N ops (r.map (UI ops)) R T (V6 st cm n es s z) (V6 st cm n es s z::sn)):WD Tryz.prog G N ops (((i,0)::r).map (UI ops)) R T st sn:=by
 rw[Yy ho];exact XH rfl (uC hm hk hx hc he hn T hK _ _ _ _ _) rfl (fun e he=>by cases he) hr
end
theorem D9(st:St)(cm n:Nat)(es:List (AV×AV×Nat))(s:List Int)(z:Int):(V6 st cm n es s z).h.get cm=some (.map (es++[(.str (Yq s),.int .i64 z,n)]) (n+1)):=by
 unfold V6;rw[Ja];exact Jz _ _ _
theorem WH(st:St){cm:Nat}(n:Nat)(es:List (AV×AV×Nat))(s:List Int)(z:Int)(h:c≠cm):(V6 st cm n es s z).h.get c=st.h.get c:=by
 unfold V6;rw[Ja,Ye _ _ h]
theorem B5{st:St}(hf:Qg st){cm:Nat}(hc:cm<st.n)(n:Nat)(es:List (AV×AV×Nat))(s:List Int)(z:Int):Qg (V6 st cm n es s z):=fun c hle=>by
 have hle:st.n≤c:=hle;rw[WH _ _ _ _ _ Qe];exact hf c hle
end
section
open Go

theorem Yr{place:Nat→Option (Nat×Nat)}{i off:Nat}{v:AV}{ps:List (Nat×AV)}{l l1:List AV}(hp:place i=some (off,1))(hc:Qu v=true)(ho:Yu [v] off l=some l1):ZM place ((i,v)::ps) l=ZM place ps l1:=by
 rw[Ad,hp,Qk,Xr hc];show Q5 true (ob (Yu [v] off l) _)=_;rw[ho];rfl
theorem NN{place:Nat→Option (Nat×Nat)}{i off n:Nat}{v:AV}{ps:List (Nat×AV)}{l l1:List AV}(hp:place i=some (off,n))(hn:Nat.beq (Yp (QJ v)) n=true)(ho:Yu (QJ v) off l=some l1):ZM place ((i,v)::ps) l=ZM place ps l1:=by
 rw[Ad,hp,Qk];show Q5 (Nat.beq (Yp (QJ v)) n) (ob (Yu (QJ v) off l) _)=_;rw[hn,ho];rfl
end
end Go.Proofs.YtildagdnomiahaaGreatDoor
