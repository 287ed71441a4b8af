/-
  Facts on the program's types.
-/
import Derived.Test.YtiknomepbklibaaGreatDoorCeRdZ
set_option maxRecDepth 100000
set_option linter.unusedVariables false
section
namespace Go.Proofs.YtiknomepbklibaaGreatDoor
open Go

theorem Q9:tk Tryz.prog 23=.one:=by kernel_rfl
theorem Uv:YI Tryz.prog 23=some 1:=by kernel_rfl
theorem JU:Tryz.prog.underlying 23=some (.slice 54):=by kernel_rfl
theorem QY:Uy Tryz.prog 23=some 1:=by kernel_rfl
theorem YT:tk Tryz.prog 68=.one:=by kernel_rfl
theorem EE:Tryz.prog.underlying 68=some (.pointer 97):=by kernel_rfl
theorem Zu:tk Tryz.prog 95=.one:=by kernel_rfl
theorem GU:zeroOf Tryz.prog 97=some [.nils,.nilm]:=by kernel_rfl
theorem Za:QJ Tryz.prog 97 0=some 0:=by kernel_rfl
theorem Ah:QJ Tryz.prog 97 1=some 1:=by kernel_rfl
theorem Bh:Py Tryz.prog 97 [(0,1),(1,1)] [.nils,.nilm]:=⟨⟨_,Tryz.underlying97,by kernel_rfl,by kernel_rfl⟩,GU⟩
theorem QS:FX Tryz.prog 23 54 1:=⟨JU,by kernel_rfl,⟨_,Ut,rfl⟩,by kernel_rfl,by decide,by decide+kernel⟩
theorem Es:Tryz.prog.underlying 95=some (.map 9 3):=by kernel_rfl
end Go.Proofs.YtiknomepbklibaaGreatDoor
end
section
namespace Go.Proofs.YtiknomepbklibaaGreatDoor
open Go

section
variable {P:Program} {G:Env} {K:List (Nat×AV)} {st:St} {t yt e:TypeId} {x y:Operand}
theorem Yc{c m o:Nat}(ht:P.underlying t=some (.pointer e))(hx:QW G K x=some (.ptr c m o))(hy:QW G K y=some .nilp):U0 P G K (.binOp .eql t x y yt) st (.bool false) st:=
 UK hx hy (by
  show QN (Ej (P.underlying t) (.ptr c m o)) (ob (Eu (.ptr c m o) .nilp) fun b=>some (AV.bool b))=_
  rw[ht];rfl)
theorem zM{c m o:Nat}(ht:P.underlying t=some (.pointer e))(hx:QW G K x=some (.ptr c m o))(hy:QW G K y=some .nilp):U0 P G K (.binOp .neq t x y yt) st (.bool true) st:=
 UK hx hy (by
  show QN (Ej (P.underlying t) (.ptr c m o)) (ob (Eu (.ptr c m o) .nilp) fun b=>some (AV.bool !b))=_
  rw[ht];rfl)
end
end Go.Proofs.YtiknomepbklibaaGreatDoor
end
section
namespace Go.Proofs.YtiknomepbklibaaGreatDoor
open Go
variable {G:Env} {K:List (Nat×AV)} {P:Program} {e t:TypeId} {n:Nat} {st:St}

theorem AK{x i:Operand}{c m off z:Nat}{k:IntKind}{j:Nat}(he:Wi P t=some (n,e))(hz:P.cellsOf e=z)(hx:QW G K x=some (.ptr c m off))(hi:QW G K i=some (.int k (j:Int)))(hj:j<n):
  U0 P G K (.indexAddr t x i) st (.ptr c m (off+j *z)) st:=.of fun T hT cc d ty pos af g=>by
 show ret (ob (QH G T x) fun x=>ob (QH G T i) fun i=>Yi P t x i) st=_;rw[hT.QH hx,hT.QH hi,Qm,Qm];show ret (ob (Ol (j:Int)) fun i=>ob (Wi P t) fun q=>QN (Nat.ble (i+1) q.1) (U9 (off+i *P.cellsOf q.2) fun o=>some (AV.ptr c m o))) st=_;show ret (ob (Wi P t) fun q=>QN (Nat.ble (j+1) q.1) (U9 (off+j *P.cellsOf q.2) fun o=>some (AV.ptr c m o))) st=_;rw[he,Qm];show ret (QN (Nat.ble (j+1) n) (U9 (off+j *P.cellsOf e) fun o=>some (AV.ptr c m o))) st=_;rw[Nat.ble_eq_true_of_le hj,hz];show ret (U9 (off+j *z) fun o=>some (AV.ptr c m o)) st=_;rw[Jf];rfl
theorem Lo:Wi Tryz.prog 177=some (2,3):=by kernel_rfl
theorem ZU:Program.cellsOf Tryz.prog 3=1:=by kernel_rfl
theorem AB:Tryz.prog.underlying 177=some (.array 2 3):=by kernel_rfl
theorem ZD{parts:Array (Nat×Operand)}{k:Nat}{z r:List AV}{ps:List (Nat×AV)}(u:P.underlying t=some (.array n e))(ue:(P.underlying e).isSome=true)(hk:P.cellsOf e=k)(hz:zeroOf P t=some z)(hp:Zo (QW G K) parts=some ps)(hf:XC (fun i=>some (i *k,k)) ps z=some r):
  U0 P G K (.build t parts) st (.agg r) st:=.of fun T hT c d ty pos af g=>by
 show ret (Wg P t parts (QH G T)) st=_;unfold Wg;simp only[u,ue,QP,hz,Qm,hT.parts hp,hk,hf,JZ];rfl
theorem Im:(Tryz.prog.underlying 3).isSome=true:=by kernel_rfl
theorem GB(a b x y:Int):Yw Tryz.prog 177 [.int .i64 a,.int .i64 b] [.int .i64 x,.int .i64 y]=some (Qo (FH a x) (FH b y) false):=by kernel_rfl
def eY:AV→Bool
 |.nils=>true
 |_=>false
theorem Gl{yt:TypeId}{x y:Operand}{kb:AV}(hn:Y9 kb=some n)(ht:P.underlying t=some (.slice e))(hx:QW G K x=some kb)(hy:QW G K y=some .nils):U0 P G K (.binOp .eql t x y yt) st (.bool (eY kb)) st:=
 UK hx hy (by
  cases kb<;>first|(cases hn;done)|skip
  all_goals
   show QN (Ej (P.underlying t) _) (ob (Eu _ .nils) fun b=>some (AV.bool b))=_
   rw[ht];rfl)
theorem SM{kb:AV}(h:eY kb=true):kb=.nils:=by cases kb<;>first|rfl|cases h
end Go.Proofs.YtiknomepbklibaaGreatDoor
end
section
namespace Go.Proofs.YtiknomepbklibaaGreatDoor
open Go Go.RowKit
variable {c m:Nat}

abbrev U7:=List (Nat×Nat×List AV)
theorem GV(l:List Int):(zC l).flatten=l.map Hc:=by
 induction l with
 |nil=>rfl
 |cons z l ih=>rw[zC,List.map_cons,List.flatten_cons];show AV.int .i64 z::(zC l).flatten=_;rw[ih];rfl
inductive A4(n0:Nat):U7→AV→List Int→Prop
 |none:A4 n0 [] .nils []
 |own {c m:Nat} {l:List Int} {rest:List AV} (hc:n0≤c) (hb:l.length≤1000000000):A4 n0 [(c,m,l.map Hc++rest)] (.sl c m 0 l.length 1) l
theorem A4.cell{n0:Nat}{A:U7}{ks:AV}{l:List Int}(h:A4 n0 A ks l):Qu ks=true:=by cases h<;>rfl
theorem zD{h:Hp}{l:List Int}{rest:List AV}(r:Q4 h c m (l.map Hc++rest))(hb:l.length≤1000000000):Jj h [] 1 (zC l) (.sl c m 0 l.length 1):=by
 refine⟨by rw[Ql];rfl,by rw[Ql];omega,rfl,fun i cs hi=>?_,fun c' m' off n z' e=>?_⟩
 ·have hlt:=(List.getElem?_eq_some_iff.1 hi).1;rw[Ql]at hlt;rw[Jo (List.getElem?_eq_getElem hlt)]at hi
  injection hi with hi
  subst hi;refine⟨c,m,0,_,by rw[Ql],by simp,r.Jb,rfl,?_⟩
  have e1:(l.map Hc++rest)[i]? =some (Hc l[i]):=by
   rw[List.getElem?_append_left (by rw[List.length_map];exact hlt),List.getElem?_map,List.getElem?_eq_getElem hlt];rfl
  obtain⟨hi2,e2⟩:=List.getElem?_eq_some_iff.1 e1;rw[Nat.zero_add,Nat.mul_one,List.drop_eq_getElem_cons hi2,e2];rfl
 ·injection e with e1 e2 e3 e4 e5
  subst e1 e2 e3 e4 e5;exact⟨by simp,_,r.Jb,by simp⟩
section
variable {h0:Hp} {n0:Nat} {X:List Nat} {st st':St} {M L A B:U7} {ks:AV} {l:List Int}
theorem Mem.xW(hM:Mem h0 n0 X st (L++(A++B))){n1:Nat}(hA:A4 n1 A ks l):Jj st.h.get [] 1 (zC l) ks:=by
 cases hA with
 |none=>exact .nil _ _ _
 |own hc hb=>
  rename_i c m rest;exact zD (hM.row c m (l.map Hc++rest) Q7) hb
theorem Mem.PN(hM:Mem h0 n0 X st (L++((A++B)))){x:List AV}(h:(c,m,x)∈A):Q4 st.h.get c m x:=hM.row c m x (by simp[h])
theorem Mem.yh{x x':List AV}(hM:Mem h0 n0 X st (L++((c,m,x)::B)))(q:xV [c] st st')(hr:Q4 st'.h.get c m x'):Mem h0 n0 X st' (L++((c,m,x')::B)):=by
 have hp:(L++(c,m,x)::B).Perm ((c,m,x)::(L++B)):=List.perm_middle;have h1:=hM.perm hp;have h2:=h1.yk (k:=0) rfl q hr;exact Mem.perm (h2.cast (by rfl)) (List.perm_middle (l₁:=L) (l₂:=B) (a:=(c,m,x'))).symm
end
theorem YX(l:List Int):(XH l).length=l.length:=List.length_mergeSort _
theorem MS(l:List Int):(Av l).length=l.length:=by
 have:=Zb l;simp[Av];omega
theorem YY{α:Type}{l:List α}(h:l.length=0):l=[]:=List.length_eq_zero_iff.1 h
section
variable {h0:Hp} {n0:Nat} {X:List Nat} {st:St} {L A B:U7} {ks:AV} {l:List Int}
theorem Gc(hM:Mem h0 n0 X st (L++(A++B)))(hA:Acc n0 1 A ks (zC l))(hb1:l.length≤1000000):
  ∃v st' A',Ev Tryz.prog Q0 66 [ks] st v st'∧v=.tup []∧Mem h0 n0 X st' (L++(A'++B))∧Acc n0 1 A' ks (zC (XH l)):=by
 have hb:=hA.Ey;rw[Ql]at hb;have h00:XH []=[]:=YY (YX []);generalize hg:zC l=ls at hA
 cases hA with
 |none=>
  have hl:l=[]:=YY (by have h:=congrArg List.length hg;rw[Ql]at h;exact h);subst hl;exact⟨_,st,[],Kr (V0:=fun _=>.tup []) (F:=XH) (V:=LA) rfl hM.fresh,rfl,hM,by rw[h00];exact .none⟩
 |own hc hz hb'=>
  rename_i c m;subst hg
  by_cases hl:l=[]
  ·subst hl;exact⟨_,st,_,Kq (V0:=fun _=>.tup []) (F:=XH) (V:=LA) rfl hM.fresh c m,rfl,hM,by rw[h00];exact .own hc hz hb'⟩
  ·have hrow:Q4 st.h.get c m (zC l).flatten:=hM.PN (A:=[(c,m,(zC l).flatten)]) Q7
   have hs:XK (zC l).flatten=some l:=by rw[GV];exact Ed l
   obtain⟨v,st',h1,h2,h3,h4⟩:=N6 (F:=XH) (V:=LA) (V0:=fun _=>.tup []) (G:=Q0) (P:=Tryz.prog) (f:=66) rfl hM.fresh hrow hs hl hb1 (YX _);rw[←GV]at h3;refine⟨v,st',[(c,m,(zC (XH l)).flatten)],?_,h2,Mem.yh (L:=L) (B:=B) hM h4 h3,?_⟩
   ·rw[Ql];exact h1
   ·have:=Acc.own (m:=m) (ls:=zC (XH l)) hc (EC _) (by rw[Ql,YX];exact hb);rw[Ql,YX]at this;rw[Ql];exact this
theorem GH(hM:Mem h0 n0 X st (L++(A++B)))(hA:Acc n0 1 A ks (zC l))(hb1:l.length≤1000000):
  ∃v st' A',Ev Tryz.prog Q0 67 [ks] st v st'∧A4 n0 A' v (Lib.compact l)∧Mem h0 n0 X st' (L++(A'++B)):=by
 have hb:=hA.Ey;rw[Ql]at hb;have h00:Lib.compact ([]:List Int)=[]:=YY (Nat.le_zero.1 (Zb []));generalize hg:zC l=ls at hA
 cases hA with
 |none=>
  have hl:l=[]:=YY (by have h:=congrArg List.length hg;rw[Ql]at h;exact h);subst hl;exact⟨.nils,st,[],Kr (V0:=id) (F:=Av) (V:=El) rfl hM.fresh,by rw[h00];exact .none,hM⟩
 |own hc hz hb'=>
  rename_i c m;subst hg
  by_cases hl:l=[]
  ·subst hl;refine⟨.sl c m 0 0 1,st,_,Kq (V0:=id) (F:=Av) (V:=El) rfl hM.fresh c m,?_,hM⟩;rw[h00];exact .own (l:=[]) (rest:=[]) hc Q7
  ·have hrow:Q4 st.h.get c m (zC l).flatten:=hM.PN (A:=[(c,m,(zC l).flatten)]) Q7
   have hs:XK (zC l).flatten=some l:=by rw[GV];exact Ed l
   obtain⟨v,st',h1,rfl,h3,h4⟩:=N6 (F:=Av) (V:=El) (V0:=id) (G:=Q0) (P:=Tryz.prog) (f:=67) rfl hM.fresh hrow hs hl hb1 (MS l);refine⟨El c m l,st',[(c,m,(Av l).map Hc)],?_,?_,Mem.yh (L:=L) (B:=B) hM h4 h3⟩
   ·rw[Ql];exact h1
   ·rw[Av,List.map_append];exact .own hc (Nat.le_trans (Zb l) hb)
theorem SY(hM:Mem h0 n0 X st (L++(A++B))){n1:Nat}(hA:A4 n1 A ks l)(hi:Xp l)(hb1:l.length≤1000000):
  ∃v st',Ev Tryz.prog Q0 87 [ks] st v st'∧v=.str (Zi l)∧Qt st st':=by
 have hq:Qt st st:=⟨hM.fresh,Nat.le_refl _,fun _ _=>rfl⟩
 cases hA with
 |none=>exact⟨.str [],st,⟨0,1,rfl⟩,rfl,hq⟩
 |own hc hb=>
  rename_i c m rest;obtain⟨vs,ms,h1,h2⟩:=hM.PN (A:=[(c,m,l.map Hc++rest)]) (c:=c) (m:=m) (x:=l.map Hc++rest) Q7;have hall:l.all ag=true:=List.all_eq_true.2 fun z hz=>Rx.2 (hi z hz);refine⟨.str (Zi l),st,⟨0,1,?_⟩,rfl,hq⟩;show Ir [.sl c m 0 l.length 1] st=_;unfold Ir;simp only[h1,h2]
  have ht:(l.map Hc++rest).take l.length=l.map Hc:=by
   rw[List.take_append_of_le_length Q7,List.take_of_length_le Q7]
  rw[ht,Ed];simp only[];rw[if_pos ⟨trivial,hb1,hall⟩,Ll hall]
end
end Go.Proofs.YtiknomepbklibaaGreatDoor
end
section
namespace Go.Proofs.YtiknomepbklibaaGreatDoor
open Go Go.RowKit
variable {c:Nat} {h:Hp} {ks:AV} {vs:List AV}

theorem Jj.frame{h':Hp}{z:Nat}{ls:List (List AV)}{v:AV}(r:Jj h [] z ls v)(e: ∀c m o n y,v=.sl c m o n y→h' c=h c):Jj h' [] z ls v:=
 ⟨r.len,r.Ey,r.cell,fun i cs hi=>by
  obtain⟨c,m,off,cells,h1,h2,⟨ro,e1,vs,ms,h3,h4⟩,h5⟩:=r.at_ i cs hi
  exact⟨c,m,off,cells,h1,h2,⟨ro,e1,vs,ms,by rw[e c m off _ _ h1];exact h3,h4⟩,h5⟩,fun c m off n z' e'=>by
  obtain⟨h1,cells,⟨ro,e1,vs,ms,h3,h4⟩,h5⟩:=r.alive c m off n z' e'
  exact⟨h1,cells,⟨ro,e1,vs,ms,by rw[e c m off n z' e'];exact h3,h4⟩,h5⟩⟩
theorem Q4.frame{h':Hp}{m:Nat}{l:List AV}(r:Q4 h c m l)(e:h' c=h c):Q4 h' c m l:=by
 obtain⟨vs,ms,h1,h2⟩:=r;exact⟨vs,ms,by rw[e];exact h1,h2⟩
theorem Q4.SJ{m c':Nat}{l:List AV}{es:List (AV×AV×Nat)}{k:Nat}(r:Q4 h c m l)(hm:h c'=some (.map es k)):c≠c':=by
 rintro rfl
 obtain⟨vs,ms,h1,_⟩:=r;rw[h1]at hm;cases hm
inductive YP:U7→AV→List AV→Prop
 |none:YP [] .nils []
 |own {c m:Nat} {vs:List AV} (hb:vs.length≤1000000000):YP [(c,m,vs)] (.sl c m 0 vs.length 1) vs
theorem YP.len{A:U7}(h:YP A ks vs):Y9 ks=some vs.length:=by cases h<;>rfl
theorem YP.cell{A:U7}(h:YP A ks vs):Qu ks=true:=by cases h<;>rfl
theorem YP.rd{A:U7}(h:YP A ks vs){hp:Hp}(hr: ∀c m l,(c,m,l)∈A→Q4 hp c m l):Jj hp [] 1 (vs.map fun v=>[v]) ks:=by
 cases h with
 |none=>exact .nil _ _ _
 |own hb=>
  rename_i c m;have h1:=hr c m vs Q7
  have e:(vs.map fun v=>[v]).flatten=vs:=by
   clear h1 hr hb
   induction vs with
   |nil=>rfl
   |cons v vs ih=>rw[List.map_cons,List.flatten_cons,ih];rfl
  have:=Jj.own (X:=[]) (z:=1) (ls:=vs.map fun v=>[v]) (c:=c) (m:=m) (by rw[e];exact h1) Q7 Q7 (by rw[List.length_map];omega);rw[List.length_map]at this;exact this
def XJ:Nat→List (List Int)→List Int→Option Nat
 |_,[],_=>none
 |j,x::L,s=>if x=s then some j else XJ (j+1) L s
def WG:Nat→List (List Int)→List (AV×AV)
 |_,[]=>[]
 |j,x::L=>(.str (Zi x),.int .i64 (j:Int))::WG (j+1) L
def vM(e:AV×AV×Nat):AV×AV:=(e.1,e.2.1)
theorem NC: ∀(j:Nat) (L:List (List Int)) (s:List Int),WG j (L++[s])=WG j L++[(.str (Zi s),.int .i64 (j+L.length:Nat))]
 |j,[],s=>by simp[WG]
 |j,x::L,s=>by
  rw[List.cons_append,WG,WG,NC (j+1) L s,List.cons_append,List.length_cons,show j+1+L.length=j+(L.length+1) by omega]
theorem Gp: ∀{L:List (List Int)} {j i:Nat} {s:List Int},XJ j L s=some i→j≤i∧L[i-j]? =some s
 |[],j,i,s,h=>by cases h
 |x::L,j,i,s,h=>by
  rw[XJ]at h
  split at h
  ·rename_i e
   injection h with h
   subst h e;exact⟨Nat.le_refl _,by rw[Nat.sub_self];rfl⟩
  ·obtain⟨h1,h2⟩:=Gp h;refine⟨by omega,?_⟩;rw[show i-j=(i-(j+1))+1 by omega];exact h2
theorem I0: ∀{L:List (List Int)} {j:Nat} {s:List Int},XJ j L s=none→s∉L
 |[],j,s,_=>by simp
 |x::L,j,s,h=>by
  rw[XJ]at h
  split at h
  ·cases h
  ·rename_i e;intro hm;rcases List.mem_cons.1 hm with e'|hm
   ·exact e e'.symm
   ·exact I0 h hm
theorem N2(s:List Int): ∀(L:List (List Int)) (es:List (AV×AV×Nat)) (j:Nat),es.map vM=WG j L→N3 .string (.str (Zi s)) es j=some ((XJ j L s).map fun i=>(i,.int .i64 (i:Int))):=by
 intro L
 induction L with
 |nil=>
  intro es j h
  cases es with
  |nil=>rfl
  |cons e es=>cases h
 |cons x L ih=>
  intro es j h
  cases es with
  |nil=>cases h
  |cons e es=>
   rw[List.map_cons,WG]at h
   injection h with h1 h2
   obtain⟨e1,e2,e3⟩:=e
   injection h1 with h1 h3
   have h1:e1=.str (Zi x):=h1;have h3:e2=.int .i64 (j:Int):=h3;subst h1 h3;rw[V2,XJ];show(ob (some (G9 (Zi s) (Zi x))) fun b=>Qo b _ _)=_;rw[Qm,ZT]
   by_cases hx:x=s
   ·subst hx;rw[if_pos rfl,decide_eq_true rfl];rfl
   ·rw[if_neg hx,decide_eq_false (fun e=>hx (D3 e).symm),Qx];exact ih es (j+1) h2
def Rj(L:List (List Int))(l:List Int):Nat:=(XJ 0 L (JP l)).getD L.length
def AY(L:List (List Int))(l:List Int):List (List Int):=if(XJ 0 L (JP l)).isSome then L else L++[JP l]
section
variable {G:Env} {K:List (Nat×AV)} {st:St} {cm n:Nat} {es:List (AV×AV×Nat)} {L:List (List Int)} {s:List Int} {m k x:Operand}
theorem Re(hm:QW G K m=some (.mp cm))(hk:QW G K k=some (.str (Zi s)))(hc:st.h.get cm=some (.map es n))(he:es.map vM=WG 0 L):
  U0 Tryz.prog G K (.lookup 95 m k true) st (.tup [.int .i64 ((XJ 0 L s).getD 0:Nat),.bool (XJ 0 L s).isSome]) st:=.of fun T hT c d ty pos af g=>by
 show(ob (QH G T m) fun m=>ob (QH G T k) fun k=>ret (Vd Tryz.prog 95 m k true st.h.get) st)=_;rw[hT.QH hm,hT.QH hk,Qm,Qm];unfold Vd
 have hz:zeroV Tryz.prog 3=some (.int .i64 0):=by kernel_rfl
 have hfd:Yv Tryz.prog 9 .string (.str (Zi s)) es 0=some ((XJ 0 L s).map fun i=>(i,.int .i64 (i:Int))):=N2 s L es 0 he;have hko:VZ Tryz.prog 9 .string (.str (Zi s))=true:=rfl;simp only[Es,Ws,hc,Qm,hfd,hko,QP]
 cases hn:XJ 0 L s with
 |none=>
  simp only[Option.map_none,hz,Qm];rfl
 |some i=>rfl
noncomputable def W7(st:St)(cm n:Nat)(es:List (AV×AV×Nat))(s:List Int)(z:Int):St:=⟨st.n,st.h.set cm (.map (es++[(.str (Zi s),.int .i64 z,n)]) (n+1))⟩
theorem zP{z:Int}(hm:QW G K m=some (.mp cm))(hk:QW G K k=some (.str (Zi s)))(hx:QW G K x=some (.int .i64 z))(hc:st.h.get cm=some (.map es n))(he:es.map vM=WG 0 L)(hn:XJ 0 L s=none):
  U0 Tryz.prog G K (.mapUpdate 95 m k x) st (.tup []) (W7 st cm n es s z):=.of fun T hT c d ty pos af g=>by
 show(ob (QH G T m) fun m=>ob (QH G T k) fun k=>ob (QH G T x) fun x=>Zw Tryz.prog 95 m k x st)=_;rw[hT.QH hm,hT.QH hk,hT.QH hx,Qm,Qm,Qm];unfold Zw W7;have hfd:Yv Tryz.prog 9 .string (.str (Zi s)) es 0=some ((XJ 0 L s).map fun i=>(i,.int .i64 (i:Int))):=N2 s L es 0 he;have hko:VZ Tryz.prog 9 .string (.str (Zi s))=true:=rfl;rw[hn,Option.map_none]at hfd;simp only[Es,Ws,hc,Qm,hfd,hko,QP];show(QN true _)=_;simp only[QP,JZ,U4,Jf,UG]
end
section
variable {G:Env} {N:Nat} {ops:List Oper} {T:Tr AV} {K:List (Nat×AV)} {st:St} {sn:List St} {r:List (Nat×Nat)} {R:Tr AV→St→Prop} {i:Nat} {ty:TypeId} {pos:String} {af:Array Edge} {cm n:Nat} {es:List (AV×AV×Nat)} {L:List (List Int)} {s:List Int} {m k x:Operand} {z:Int}
theorem yZ(ho:ops[i]? =some ⟨none,.mapUpdate 95 m k x,ty,pos,af,none⟩)(hK:QX K T)(hm:QW G K m=some (.mp cm))(hk:QW G K k=some (.str (Zi s)))(hx:QW G K x=some (.int .i64 z))(hc:st.h.get cm=some (.map es n))(he:es.map vM=WG 0 L)(hn:XJ 0 L s=none)
  (hr:WD Tryz.prog G N ops (r.map (Yz ops)) R T (W7 st cm n es s z) (W7 st cm n es s z::sn)):WD Tryz.prog G N ops (((i,0)::r).map (Yz ops)) R T st sn:=by
 rw[YV ho];exact XX rfl (zP hm hk hx hc he hn T hK _ _ _ _ _) rfl (fun e he=>by cases he) hr
end
theorem Rm(st:St)(cm n:Nat)(es:List (AV×AV×Nat))(s:List Int)(z:Int):(W7 st cm n es s z).h.get cm=some (.map (es++[(.str (Zi s),.int .i64 z,n)]) (n+1)):=by
 unfold W7;rw[JC];exact Uh _ _ _
theorem EV(st:St){cm:Nat}(n:Nat)(es:List (AV×AV×Nat))(s:List Int)(z:Int)(h:c≠cm):(W7 st cm n es s z).h.get c=st.h.get c:=by
 unfold W7;rw[JC,YQ _ _ h]
theorem Ds{st:St}(hf:Qj st){cm:Nat}(hc:cm<st.n)(n:Nat)(es:List (AV×AV×Nat))(s:List Int)(z:Int):Qj (W7 st cm n es s z):=fun c hle=>by
 have hle:st.n≤c:=hle;rw[EV _ _ _ _ _ Qe];exact hf c hle
theorem Mb{P:Program}{G:Env}{K:List (Nat×AV)}{st:St}{t:TypeId}{x:Operand}{lo hi:Option Operand}{v:AV}{l:List Int}{a b:Nat}(he:Uy P t=some 1)(r:Jj h [] 1 (zC l) v)(hs:v=.nils∨ ∃c m o n,v=.sl c m o n 1)(hx:QW G K x=some v)(hl:YK (QW G K) lo=some a)(hh:YL (QW G K) hi l.length=some b)(h1:a≤b)(h2:b≤l.length):
  ∃v2,U0 P G K (.slice t x lo hi none) st v2 st∧Jj h [] 1 (zC ((l.drop a).take (b-a))) v2∧Qu v2=true:=by
 have hlen:=r.len;rw[Ql]at hlen;rcases hs with rfl|⟨c,m,o,n,rfl⟩
 ·have hl0:l=[]:=by injection hlen with hlen;exact YY hlen.symm
  subst hl0
  have ha:a=0:=by simp at h2;omega
  have hb:b=0:=by simpa using h2
  subst ha hb;exact⟨.nils,Mc he hx hl hh,.nil _ _ _,rfl⟩
 ·injection hlen with hlen
  subst hlen;have h3:=Md (st:=st) he hx hl hh h1 h2;have hbnd:=r.Ey;rw[Ql]at hbnd
  refine⟨_,h3,?_,by cases Qo (Nat.beq a 0) true (Nat.ble (a+1) l.length)<;>rfl⟩
  have hln:((l.drop a).take (b-a)).length=b-a:=by rw[List.length_take,List.length_drop];omega
  by_cases hc:Qo (Nat.beq a 0) true (Nat.ble (a+1) l.length)=true
  ·rw[hc,Q5,Nat.mul_one];refine⟨by rw[Ql,hln];rfl,by rw[Ql,hln];omega,rfl,fun i cs hi=>?_,fun c' m' off' n' z' e'=>?_⟩
   ·have hlt:=(List.getElem?_eq_some_iff.1 hi).1;rw[Ql,hln]at hlt
    have hg:((l.drop a).take (b-a))[i]? =l[a+i]? :=by rw[List.getElem?_take_of_lt hlt,List.getElem?_drop]
    rw[zC,List.getElem?_map,hg]at hi
    have hi2:(zC l)[a+i]? =some cs:=by rw[zC,List.getElem?_map];exact hi
    obtain⟨c2,m2,Jy,cells2,e1,e2,e3,e4,e5⟩:=r.at_ _ _ hi2
    injection e1 with x1 x2 x3 x4 x5
    subst x1 x2 x3;exact⟨c,m,o+a,cells2,by rw[Ql,hln],e2,e3,e4,by rw[←e5];congr 1;rw[Nat.mul_one,Nat.mul_one,Nat.add_assoc]⟩
   ·injection e' with x1 x2 x3 x4 x5
    subst x1 x2 x3 x4;obtain⟨q1,cs,q2,q3⟩:=r.alive c m o _ 1 rfl;exact⟨q1,cs,q2,by omega⟩
  ·have hcf:Qo (Nat.beq a 0) true (Nat.ble (a+1) l.length)=false:=by simpa using hc
   rw[hcf,Qx]
   have hal:l.length≤a:=by
    rcases Nat.lt_or_ge a l.length with h|h
    ·rw[Nat.ble_eq_true_of_le h]at hcf
     cases hb0:Nat.beq a 0<;>rw[hb0]at hcf<;>cases hcf
    ·exact h
   have h00:(l.drop a).take (b-a)=[]:=YY (by rw[hln];omega);rw[h00];exact⟨rfl,by simp[zC],rfl,fun i cs hi=>by simp[zC]at hi,fun _ _ _ _ _ e=>by cases e⟩
end Go.Proofs.YtiknomepbklibaaGreatDoor
end
