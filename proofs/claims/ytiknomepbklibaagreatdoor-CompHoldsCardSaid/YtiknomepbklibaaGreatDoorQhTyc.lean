/-
  Facts on the program's types.
-/
import Derived.Test.YtiknomepbklibaaGreatDoorQhRdZ
set_option maxRecDepth 100000
set_option linter.unusedVariables false
namespace Go.Proofs.YtiknomepbklibaaGreatDoor
section
open Go

theorem Q8:tk Tryz.prog 23=.one:=by kernel_rfl
theorem Uy:YM Tryz.prog 23=some 1:=by kernel_rfl
theorem JT:Tryz.prog.underlying 23=some (.slice 54):=by kernel_rfl
theorem QZ:Ue Tryz.prog 23=some 1:=by kernel_rfl
theorem YW:tk Tryz.prog 68=.one:=by kernel_rfl
theorem ET:Tryz.prog.underlying 68=some (.pointer 97):=by kernel_rfl
theorem Zx:tk Tryz.prog 95=.one:=by kernel_rfl
theorem Bi:zeroOf Tryz.prog 97=some [.nils,.nilm]:=by kernel_rfl
theorem Zc:QH Tryz.prog 97 0=some 0:=by kernel_rfl
theorem A5:QH Tryz.prog 97 1=some 1:=by kernel_rfl
theorem Bx:PH Tryz.prog 97 [(0,1),(1,1)] [.nils,.nilm]:=⟨⟨_,Tryz.underlying97,by kernel_rfl,by kernel_rfl⟩,Bi⟩
theorem QQ:Ho Tryz.prog 23 54 1:=⟨JT,by kernel_rfl,⟨_,Uu,rfl⟩,by kernel_rfl,by decide,by decide+kernel⟩
theorem EE:Tryz.prog.underlying 95=some (.map 9 3):=by kernel_rfl
end
section
open Go

section
variable {P:Program} {G:Env} {K:List (Nat×AV)} {st:St} {t yt e:TypeId} {x y:Operand}
theorem Yh{c m o:Nat}(ht:P.underlying t=some (.pointer e))(hx:QV G K x=some (.ptr c m o))(hy:QV G K y=some .nilp):U3 P G K (.binOp .eql t x y yt) st (.bool false) st:=
 UP hx hy (by
  show QK (E4 (P.underlying t) (.ptr c m o)) (ob (EH (.ptr c m o) .nilp) fun b=>some (AV.bool b))=_
  rw[ht];rfl)
theorem xF{c m o:Nat}(ht:P.underlying t=some (.pointer e))(hx:QV G K x=some (.ptr c m o))(hy:QV G K y=some .nilp):U3 P G K (.binOp .neq t x y yt) st (.bool true) st:=
 UP hx hy (by
  show QK (E4 (P.underlying t) (.ptr c m o)) (ob (EH (.ptr c m o) .nilp) fun b=>some (AV.bool !b))=_
  rw[ht];rfl)
end
end
section
open Go
variable {G:Env} {K:List (Nat×AV)} {P:Program} {e t:TypeId} {n:Nat} {st:St}

theorem AX{x i:Operand}{c m off z:Nat}{k:IntKind}{j:Nat}(he:Wx P t=some (n,e))(hz:P.cellsOf e=z)(hx:QV G K x=some (.ptr c m off))(hi:QV G K i=some (.int k (j:Int)))(hj:j<n):
  U3 P G K (.indexAddr t x i) st (.ptr c m (off+j *z)) st:=.of fun T hT cc d ty pos af g=>by
 show ret (ob (QG G T x) fun x=>ob (QG G T i) fun i=>Yn P t x i) st=_;rw[hT.QG hx,hT.QG hi,Ql,Ql];show ret (ob (O7 (j:Int)) fun i=>ob (Wx P t) fun q=>QK (Nat.ble (i+1) q.1) (UC (off+i *P.cellsOf q.2) fun o=>some (AV.ptr c m o))) st=_;show ret (ob (Wx P t) fun q=>QK (Nat.ble (j+1) q.1) (UC (off+j *P.cellsOf q.2) fun o=>some (AV.ptr c m o))) st=_;rw[he,Ql];show ret (QK (Nat.ble (j+1) n) (UC (off+j *P.cellsOf e) fun o=>some (AV.ptr c m o))) st=_;rw[Nat.ble_eq_true_of_le hj,hz];show ret (UC (off+j *z) fun o=>some (AV.ptr c m o)) st=_;rw[Ji];rfl
theorem L8:Wx Tryz.prog 177=some (2,3):=by kernel_rfl
theorem Xb:Program.cellsOf Tryz.prog 3=1:=by kernel_rfl
theorem AQ:Tryz.prog.underlying 177=some (.array 2 3):=by kernel_rfl
theorem ZK{parts:Array (Nat×Operand)}{k:Nat}{z r:List AV}{ps:List (Nat×AV)}(u:P.underlying t=some (.array n e))(ue:(P.underlying e).isSome=true)(hk:P.cellsOf e=k)(hz:zeroOf P t=some z)(hp:Zp (QV G K) parts=some ps)(hf:XH (fun i=>some (i *k,k)) ps z=some r):
  U3 P G K (.build t parts) st (.agg r) st:=.of fun T hT c d ty pos af g=>by
 show ret (Wu P t parts (QG G T)) st=_;unfold Wu;simp only[u,ue,QO,hz,Ql,hT.parts hp,hk,hf,Ub];rfl
theorem I3:(Tryz.prog.underlying 3).isSome=true:=by kernel_rfl
theorem GQ(a b x y:Int):Y2 Tryz.prog 177 [.int .i64 a,.int .i64 b] [.int .i64 x,.int .i64 y]=some (Qj (Hb a x) (Hb b y) false):=by kernel_rfl
def fe:AV→Bool
 |.nils=>true
 |_=>false
theorem G1{yt:TypeId}{x y:Operand}{kb:AV}(hn:YE kb=some n)(ht:P.underlying t=some (.slice e))(hx:QV G K x=some kb)(hy:QV G K y=some .nils):U3 P G K (.binOp .eql t x y yt) st (.bool (fe kb)) st:=
 UP hx hy (by
  cases kb<;>first|(cases hn;done)|skip
  all_goals
   show QK (E4 (P.underlying t) _) (ob (EH _ .nils) fun b=>some (AV.bool b))=_
   rw[ht];rfl)
theorem Tw{kb:AV}(h:fe kb=true):kb=.nils:=by cases kb<;>first|rfl|cases h
end
section
open Go Go.RowKit
variable {c m:Nat}

abbrev UA:=List (Nat×Nat×List AV)
theorem Bj(l:List Int):(zC l).flatten=l.map Hu:=by
 induction l with
 |nil=>rfl
 |cons z l ih=>rw[zC,List.map_cons,List.flatten_cons];show AV.int .i64 z::(zC l).flatten=_;rw[ih];rfl
inductive AI(n0:Nat):UA→AV→List Int→Prop
 |none:AI n0 [] .nils []
 |own {c m:Nat} {l:List Int} {rest:List AV} (hc:n0≤c) (hb:l.length≤1000000000):AI n0 [(c,m,l.map Hu++rest)] (.sl c m 0 l.length 1) l
theorem AI.cell{n0:Nat}{A:UA}{ks:AV}{l:List Int}(h:AI n0 A ks l):Qs ks=true:=by cases h<;>rfl
theorem xz{h:Hp}{l:List Int}{rest:List AV}(r:Qy h c m (l.map Hu++rest))(hb:l.length≤1000000000):Jj h [] 1 (zC l) (.sl c m 0 l.length 1):=by
 refine⟨by rw[Qq];rfl,by rw[Qq];omega,rfl,fun i cs hi=>?_,fun c' m' off n z' e=>?_⟩
 ·have hlt:=(List.getElem?_eq_some_iff.1 hi).1;rw[Qq]at hlt;rw[Jm (List.getElem?_eq_getElem hlt)]at hi
  injection hi with hi
  subst hi;refine⟨c,m,0,_,by rw[Qq],by simp,r.Jd,rfl,?_⟩
  have e1:(l.map Hu++rest)[i]? =some (Hu l[i]):=by
   rw[List.getElem?_append_left (by rw[List.length_map];exact hlt),List.getElem?_map,List.getElem?_eq_getElem hlt];rfl
  obtain⟨hi2,e2⟩:=List.getElem?_eq_some_iff.1 e1;rw[Nat.zero_add,Nat.mul_one,List.drop_eq_getElem_cons hi2,e2];rfl
 ·injection e with e1 e2 e3 e4 e5
  subst e1 e2 e3 e4 e5;exact⟨by simp,_,r.Jd,by simp⟩
section
variable {h0:Hp} {n0:Nat} {X:List Nat} {st st':St} {M L A B:UA} {ks:AV} {l:List Int}
theorem Mem.vO(hM:Mem h0 n0 X st (L++(A++B))){n1:Nat}(hA:AI n1 A ks l):Jj st.h.get [] 1 (zC l) ks:=by
 cases hA with
 |none=>exact .nil _ _ _
 |own hc hb=>
  rename_i c m rest;exact xz (hM.row c m (l.map Hu++rest) Q7) hb
theorem Mem.Rn(hM:Mem h0 n0 X st (L++((A++B)))){x:List AV}(h:(c,m,x)∈A):Qy st.h.get c m x:=hM.row c m x (by simp[h])
theorem Mem.yR{x x':List AV}(hM:Mem h0 n0 X st (L++((c,m,x)::B)))(q:vN [c] st st')(hr:Qy st'.h.get c m x'):Mem h0 n0 X st' (L++((c,m,x')::B)):=by
 have hp:(L++(c,m,x)::B).Perm ((c,m,x)::(L++B)):=List.perm_middle;have h1:=hM.perm hp;have h2:=h1.yV (k:=0) rfl q hr;exact Mem.perm (h2.cast (by rfl)) (List.perm_middle (l₁:=L) (l₂:=B) (a:=(c,m,x'))).symm
end
theorem YZ(l:List Int):(XO l).length=l.length:=List.length_mergeSort _
theorem qC(l:List Int):(AD l).length=l.length:=by
 have:=Zd l;simp[AD];omega
theorem Za{α:Type}{l:List α}(h:l.length=0):l=[]:=List.length_eq_zero_iff.1 h
section
variable {h0:Hp} {n0:Nat} {X:List Nat} {st:St} {L A B:UA} {ks:AV} {l:List Int}
theorem Gs(hM:Mem h0 n0 X st (L++(A++B)))(hA:Acc n0 1 A ks (zC l))(hb1:l.length≤1000000):
  ∃v st' A',Jh 66 [ks] st v st'∧v=.tup []∧Mem h0 n0 X st' (L++(A'++B))∧Acc n0 1 A' ks (zC (XO l)):=by
 have hb:=hA.Wv;rw[Qq]at hb;have h00:XO []=[]:=Za (YZ []);generalize hg:zC l=ls at hA
 cases hA with
 |none=>
  have hl:l=[]:=Za (by have h:=congrArg List.length hg;rw[Qq]at h;exact h);subst hl;exact⟨_,st,[],KF (V0:=fun _=>.tup []) (F:=XO) (V:=LS) rfl hM.fresh,rfl,hM,by rw[h00];exact .none⟩
 |own hc hz hb'=>
  rename_i c m;subst hg
  by_cases hl:l=[]
  ·subst hl;exact⟨_,st,_,KE (V0:=fun _=>.tup []) (F:=XO) (V:=LS) rfl hM.fresh c m,rfl,hM,by rw[h00];exact .own hc hz hb'⟩
  ·have hrow:Qy st.h.get c m (zC l).flatten:=hM.Rn (A:=[(c,m,(zC l).flatten)]) Q7
   have hs:XR (zC l).flatten=some l:=by rw[Bj];exact Et l
   obtain⟨v,st',h1,h2,h3,h4⟩:=NS (F:=XO) (V:=LS) (V0:=fun _=>.tup []) (G:=yB) (P:=Tryz.prog) (f:=66) rfl hM.fresh hrow hs hl hb1 (YZ _);rw[←Bj]at h3;refine⟨v,st',[(c,m,(zC (XO l)).flatten)],?_,h2,Mem.yR (L:=L) (B:=B) hM h4 h3,?_⟩
   ·rw[Qq];exact h1
   ·have:=Acc.own (m:=m) (ls:=zC (XO l)) hc (FM _) (by rw[Qq,YZ];exact hb);rw[Qq,YZ]at this;rw[Qq];exact this
theorem GW(hM:Mem h0 n0 X st (L++(A++B)))(hA:Acc n0 1 A ks (zC l))(hb1:l.length≤1000000):
  ∃v st' A',Jh 67 [ks] st v st'∧AI n0 A' v (Lib.compact l)∧Mem h0 n0 X st' (L++(A'++B)):=by
 have hb:=hA.Wv;rw[Qq]at hb;have h00:Lib.compact ([]:List Int)=[]:=Za (Nat.le_zero.1 (Zd []));generalize hg:zC l=ls at hA
 cases hA with
 |none=>
  have hl:l=[]:=Za (by have h:=congrArg List.length hg;rw[Qq]at h;exact h);subst hl;exact⟨.nils,st,[],KF (V0:=id) (F:=AD) (V:=E8) rfl hM.fresh,by rw[h00];exact .none,hM⟩
 |own hc hz hb'=>
  rename_i c m;subst hg
  by_cases hl:l=[]
  ·subst hl;refine⟨.sl c m 0 0 1,st,_,KE (V0:=id) (F:=AD) (V:=E8) rfl hM.fresh c m,?_,hM⟩;rw[h00];exact .own (l:=[]) (rest:=[]) hc Q7
  ·have hrow:Qy st.h.get c m (zC l).flatten:=hM.Rn (A:=[(c,m,(zC l).flatten)]) Q7
   have hs:XR (zC l).flatten=some l:=by rw[Bj];exact Et l
   obtain⟨v,st',h1,rfl,h3,h4⟩:=NS (F:=AD) (V:=E8) (V0:=id) (G:=yB) (P:=Tryz.prog) (f:=67) rfl hM.fresh hrow hs hl hb1 (qC l);refine⟨E8 c m l,st',[(c,m,(AD l).map Hu)],?_,?_,Mem.yR (L:=L) (B:=B) hM h4 h3⟩
   ·rw[Qq];exact h1
   ·rw[AD,List.map_append];exact .own hc (Nat.le_trans (Zd l) hb)
theorem T9(hM:Mem h0 n0 X st (L++(A++B))){n1:Nat}(hA:AI n1 A ks l)(hi:Xx l)(hb1:l.length≤1000000):
  ∃v st',Jh 87 [ks] st v st'∧v=.str (Zi l)∧Qt st st':=by
 have hq:Qt st st:=⟨hM.fresh,Nat.le_refl _,fun _ _=>rfl⟩
 cases hA with
 |none=>exact⟨.str [],st,⟨0,1,rfl⟩,rfl,hq⟩
 |own hc hb=>
  rename_i c m rest;obtain⟨vs,ms,h1,h2⟩:=hM.Rn (A:=[(c,m,l.map Hu++rest)]) (c:=c) (m:=m) (x:=l.map Hu++rest) Q7;have hall:l.all fi=true:=List.all_eq_true.2 fun z hz=>RM.2 (hi z hz);refine⟨.str (Zi l),st,⟨0,1,?_⟩,rfl,hq⟩;show I8 [.sl c m 0 l.length 1] st=_;unfold I8;simp only[h1,h2]
  have ht:(l.map Hu++rest).take l.length=l.map Hu:=by
   rw[List.take_append_of_le_length Q7,List.take_of_length_le Q7]
  rw[ht,Et];simp only[];rw[if_pos ⟨trivial,hb1,hall⟩,L4 hall]
end
end
section
open Go Go.RowKit
variable {c:Nat} {h:Hp} {ks:AV} {vs:List AV}

theorem Jj.frame{h':Hp}{z:Nat}{ls:List (List AV)}{v:AV}(r:Jj h [] z ls v)(e: ∀c m o n y,v=.sl c m o n y→h' c=h c):Jj h' [] z ls v:=
 ⟨r.len,r.Wv,r.cell,fun i cs hi=>by
  obtain⟨c,m,off,cells,h1,h2,⟨ro,e1,vs,ms,h3,h4⟩,h5⟩:=r.at_ i cs hi
  exact⟨c,m,off,cells,h1,h2,⟨ro,e1,vs,ms,by rw[e c m off _ _ h1];exact h3,h4⟩,h5⟩,fun c m off n z' e'=>by
  obtain⟨h1,cells,⟨ro,e1,vs,ms,h3,h4⟩,h5⟩:=r.alive c m off n z' e'
  exact⟨h1,cells,⟨ro,e1,vs,ms,by rw[e c m off n z' e'];exact h3,h4⟩,h5⟩⟩
theorem Qy.frame{h':Hp}{m:Nat}{l:List AV}(r:Qy h c m l)(e:h' c=h c):Qy h' c m l:=by
 obtain⟨vs,ms,h1,h2⟩:=r;exact⟨vs,ms,by rw[e];exact h1,h2⟩
theorem Qy.Tu{m c':Nat}{l:List AV}{es:List (AV×AV×Nat)}{k:Nat}(r:Qy h c m l)(hm:h c'=some (.map es k)):c≠c':=by
 rintro rfl
 obtain⟨vs,ms,h1,_⟩:=r;rw[h1]at hm;cases hm
inductive YS:UA→AV→List AV→Prop
 |none:YS [] .nils []
 |own {c m:Nat} {vs:List AV} (hb:vs.length≤1000000000):YS [(c,m,vs)] (.sl c m 0 vs.length 1) vs
theorem YS.len{A:UA}(h:YS A ks vs):YE ks=some vs.length:=by cases h<;>rfl
theorem YS.cell{A:UA}(h:YS A ks vs):Qs ks=true:=by cases h<;>rfl
theorem YS.rd{A:UA}(h:YS A ks vs){hp:Hp}(hr: ∀c m l,(c,m,l)∈A→Qy hp c m l):Jj hp [] 1 (vs.map fun v=>[v]) ks:=by
 cases h with
 |none=>exact .nil _ _ _
 |own hb=>
  rename_i c m;have h1:=hr c m vs Q7
  have e:(vs.map fun v=>[v]).flatten=vs:=by
   clear h1 hr hb
   induction vs with
   |nil=>rfl
   |cons v vs ih=>rw[List.map_cons,List.flatten_cons,ih];rfl
  have:=Jj.own (X:=[]) (z:=1) (ls:=vs.map fun v=>[v]) (c:=c) (m:=m) (by rw[e];exact h1) Q7 Q7 (by rw[List.length_map];omega);rw[List.length_map]at this;exact this
def XQ:Nat→List (List Int)→List Int→Option Nat
 |_,[],_=>none
 |j,x::L,s=>if x=s then some j else XQ (j+1) L s
def WX:Nat→List (List Int)→List (AV×AV)
 |_,[]=>[]
 |j,x::L=>(.str (Zi x),.int .i64 (j:Int))::WX (j+1) L
def wJ(e:AV×AV×Nat):AV×AV:=(e.1,e.2.1)
theorem NY: ∀(j:Nat) (L:List (List Int)) (s:List Int),WX j (L++[s])=WX j L++[(.str (Zi s),.int .i64 (j+L.length:Nat))]
 |j,[],s=>by simp[WX]
 |j,x::L,s=>by
  rw[List.cons_append,WX,WX,NY (j+1) L s,List.cons_append,List.length_cons,show j+1+L.length=j+(L.length+1) by omega]
theorem G5: ∀{L:List (List Int)} {j i:Nat} {s:List Int},XQ j L s=some i→j≤i∧L[i-j]? =some s
 |[],j,i,s,h=>by cases h
 |x::L,j,i,s,h=>by
  rw[XQ]at h
  split at h
  ·rename_i e
   injection h with h
   subst h e;exact⟨Nat.le_refl _,by rw[Nat.sub_self];rfl⟩
  ·obtain⟨h1,h2⟩:=G5 h;refine⟨by omega,?_⟩;rw[show i-j=(i-(j+1))+1 by omega];exact h2
theorem IG: ∀{L:List (List Int)} {j:Nat} {s:List Int},XQ j L s=none→s∉L
 |[],j,s,_=>by simp
 |x::L,j,s,h=>by
  rw[XQ]at h
  split at h
  ·cases h
  ·rename_i e;intro hm;rcases List.mem_cons.1 hm with e'|hm
   ·exact e e'.symm
   ·exact IG h hm
theorem NO(s:List Int): ∀(L:List (List Int)) (es:List (AV×AV×Nat)) (j:Nat),es.map wJ=WX j L→NP .string (.str (Zi s)) es j=some ((XQ j L s).map fun i=>(i,.int .i64 (i:Int))):=by
 intro L
 induction L with
 |nil=>
  intro es j h
  cases es with
  |nil=>rfl
  |cons e es=>cases h
 |cons x L ih=>
  intro es j h
  cases es with
  |nil=>cases h
  |cons e es=>
   rw[List.map_cons,WX]at h
   injection h with h1 h2
   obtain⟨e1,e2,e3⟩:=e
   injection h1 with h1 h3
   have h1:e1=.str (Zi x):=h1;have h3:e2=.int .i64 (j:Int):=h3;subst h1 h3;rw[VB,XQ];show(ob (some (GO (Zi s) (Zi x))) fun b=>Qj b _ _)=_;rw[Ql,Xa]
   by_cases hx:x=s
   ·subst hx;rw[if_pos rfl,decide_eq_true rfl];rfl
   ·rw[if_neg hx,decide_eq_false (fun e=>hx (DL e).symm),Qu];exact ih es (j+1) h2
def MJ(L:List (List Int))(l:List Int):Nat:=(XQ 0 L (JP l)).getD L.length
def Fw(L:List (List Int))(l:List Int):List (List Int):=if(XQ 0 L (JP l)).isSome then L else L++[JP l]
section
variable {G:Env} {K:List (Nat×AV)} {st:St} {cm n:Nat} {es:List (AV×AV×Nat)} {L:List (List Int)} {s:List Int} {m k x:Operand}
theorem R3(hm:QV G K m=some (.mp cm))(hk:QV G K k=some (.str (Zi s)))(hc:st.h.get cm=some (.map es n))(he:es.map wJ=WX 0 L):
  U3 Tryz.prog G K (.lookup 95 m k true) st (.tup [.int .i64 ((XQ 0 L s).getD 0:Nat),.bool (XQ 0 L s).isSome]) st:=.of fun T hT c d ty pos af g=>by
 show(ob (QG G T m) fun m=>ob (QG G T k) fun k=>ret (Vn Tryz.prog 95 m k true st.h.get) st)=_;rw[hT.QG hm,hT.QG hk,Ql,Ql];unfold Vn
 have hz:zeroV Tryz.prog 3=some (.int .i64 0):=by kernel_rfl
 have hfd:Y1 Tryz.prog 9 .string (.str (Zi s)) es 0=some ((XQ 0 L s).map fun i=>(i,.int .i64 (i:Int))):=NO s L es 0 he;have hko:Wp Tryz.prog 9 .string (.str (Zi s))=true:=rfl;simp only[EE,W8,hc,Ql,hfd,hko,QO]
 cases hn:XQ 0 L s with
 |none=>
  simp only[Option.map_none,hz,Ql];rfl
 |some i=>rfl
noncomputable def WO(st:St)(cm n:Nat)(es:List (AV×AV×Nat))(s:List Int)(z:Int):St:=⟨st.n,st.h.set cm (.map (es++[(.str (Zi s),.int .i64 z,n)]) (n+1))⟩
theorem xH{z:Int}(hm:QV G K m=some (.mp cm))(hk:QV G K k=some (.str (Zi s)))(hx:QV G K x=some (.int .i64 z))(hc:st.h.get cm=some (.map es n))(he:es.map wJ=WX 0 L)(hn:XQ 0 L s=none):
  U3 Tryz.prog G K (.mapUpdate 95 m k x) st (.tup []) (WO st cm n es s z):=.of fun T hT c d ty pos af g=>by
 show(ob (QG G T m) fun m=>ob (QG G T k) fun k=>ob (QG G T x) fun x=>Z0 Tryz.prog 95 m k x st)=_;rw[hT.QG hm,hT.QG hk,hT.QG hx,Ql,Ql,Ql];unfold Z0 WO;have hfd:Y1 Tryz.prog 9 .string (.str (Zi s)) es 0=some ((XQ 0 L s).map fun i=>(i,.int .i64 (i:Int))):=NO s L es 0 he;have hko:Wp Tryz.prog 9 .string (.str (Zi s))=true:=rfl;rw[hn,Option.map_none]at hfd;simp only[EE,W8,hc,Ql,hfd,hko,QO];show(QK true _)=_;simp only[QO,Ub,U6,Ji,UK]
end
section
variable {G:Env} {N:Nat} {ops:List Oper} {T:Tr AV} {K:List (Nat×AV)} {st:St} {sn:List St} {r:List (Nat×Nat)} {R:Tr AV→St→Prop} {i:Nat} {ty:TypeId} {pos:String} {af:Array Edge} {cm n:Nat} {es:List (AV×AV×Nat)} {L:List (List Int)} {s:List Int} {m k x:Operand} {z:Int}
theorem zP(ho:ops[i]? =some ⟨none,.mapUpdate 95 m k x,ty,pos,af,none⟩)(hK:QT K T)(hm:QV G K m=some (.mp cm))(hk:QV G K k=some (.str (Zi s)))(hx:QV G K x=some (.int .i64 z))(hc:st.h.get cm=some (.map es n))(he:es.map wJ=WX 0 L)(hn:XQ 0 L s=none)
  (hr:WD Tryz.prog G N ops (r.map (Yq ops)) R T (WO st cm n es s z) (WO st cm n es s z::sn)):WD Tryz.prog G N ops (((i,0)::r).map (Yq ops)) R T st sn:=by
 rw[YY ho];exact Vg rfl (xH hm hk hx hc he hn T hK _ _ _ _ _) rfl (fun e he=>by cases he) hr
end
theorem R9(st:St)(cm n:Nat)(es:List (AV×AV×Nat))(s:List Int)(z:Int):(WO st cm n es s z).h.get cm=some (.map (es++[(.str (Zi s),.int .i64 z,n)]) (n+1)):=by
 unfold WO;rw[JF];exact Uk _ _ _
theorem Aq(st:St){cm:Nat}(n:Nat)(es:List (AV×AV×Nat))(s:List Int)(z:Int)(h:c≠cm):(WO st cm n es s z).h.get c=st.h.get c:=by
 unfold WO;rw[JF,YT _ _ h]
theorem D9{st:St}(hf:Qi st){cm:Nat}(hc:cm<st.n)(n:Nat)(es:List (AV×AV×Nat))(s:List Int)(z:Int):Qi (WO st cm n es s z):=fun c hle=>by
 have hle:st.n≤c:=hle;rw[Aq _ _ _ _ _ Qc];exact hf c hle
theorem MC{P:Program}{G:Env}{K:List (Nat×AV)}{st:St}{t:TypeId}{x:Operand}{lo hi:Option Operand}{v:AV}{l:List Int}{a b:Nat}(he:Ue P t=some 1)(r:Jj h [] 1 (zC l) v)(hs:v=.nils∨ ∃c m o n,v=.sl c m o n 1)(hx:QV G K x=some v)(hl:YP (QV G K) lo=some a)(hh:YQ (QV G K) hi l.length=some b)(h1:a≤b)(h2:b≤l.length):
  ∃v2,U3 P G K (.slice t x lo hi none) st v2 st∧Jj h [] 1 (zC ((l.drop a).take (b-a))) v2∧Qs v2=true:=by
 have hlen:=r.len;rw[Qq]at hlen;rcases hs with rfl|⟨c,m,o,n,rfl⟩
 ·have hl0:l=[]:=by injection hlen with hlen;exact Za hlen.symm
  subst hl0
  have ha:a=0:=by simp at h2;omega
  have hb:b=0:=by simpa using h2
  subst ha hb;exact⟨.nils,MD he hx hl hh,.nil _ _ _,rfl⟩
 ·injection hlen with hlen
  subst hlen;have h3:=ME (st:=st) he hx hl hh h1 h2;have hbnd:=r.Wv;rw[Qq]at hbnd
  refine⟨_,h3,?_,by cases Qj (Nat.beq a 0) true (Nat.ble (a+1) l.length)<;>rfl⟩
  have hln:((l.drop a).take (b-a)).length=b-a:=by rw[List.length_take,List.length_drop];omega
  by_cases hc:Qj (Nat.beq a 0) true (Nat.ble (a+1) l.length)=true
  ·rw[hc,Qz,Nat.mul_one];refine⟨by rw[Qq,hln];rfl,by rw[Qq,hln];omega,rfl,fun i cs hi=>?_,fun c' m' off' n' z' e'=>?_⟩
   ·have hlt:=(List.getElem?_eq_some_iff.1 hi).1;rw[Qq,hln]at hlt
    have hg:((l.drop a).take (b-a))[i]? =l[a+i]? :=by rw[List.getElem?_take_of_lt hlt,List.getElem?_drop]
    rw[zC,List.getElem?_map,hg]at hi
    have hi2:(zC l)[a+i]? =some cs:=by rw[zC,List.getElem?_map];exact hi
    obtain⟨c2,m2,J3,cells2,e1,e2,e3,e4,e5⟩:=r.at_ _ _ hi2
    injection e1 with x1 x2 x3 x4 x5
    subst x1 x2 x3;exact⟨c,m,o+a,cells2,by rw[Qq,hln],e2,e3,e4,by rw[←e5];congr 1;rw[Nat.mul_one,Nat.mul_one,Nat.add_assoc]⟩
   ·injection e' with x1 x2 x3 x4 x5
    subst x1 x2 x3 x4;obtain⟨q1,cs,q2,q3⟩:=r.alive c m o _ 1 rfl;exact⟨q1,cs,q2,by omega⟩
  ·have hcf:Qj (Nat.beq a 0) true (Nat.ble (a+1) l.length)=false:=by simpa using hc
   rw[hcf,Qu]
   have hal:l.length≤a:=by
    rcases Nat.lt_or_ge a l.length with h|h
    ·rw[Nat.ble_eq_true_of_le h]at hcf
     cases hb0:Nat.beq a 0<;>rw[hb0]at hcf<;>cases hcf
    ·exact h
   have h00:(l.drop a).take (b-a)=[]:=Za (by rw[hln];omega);rw[h00];exact⟨rfl,by simp[zC],rfl,fun i cs hi=>by simp[zC]at hi,fun _ _ _ _ _ e=>by cases e⟩
end
section
open Go

theorem JD{place:Nat→Option (Nat×Nat)}{i off:Nat}{v:AV}{ps:List (Nat×AV)}{l l1:List AV}(hp:place i=some (off,1))(hc:Qs v=true)(ho:Zn [v] off l=some l1):XH place ((i,v)::ps) l=XH place ps l1:=by
 rw[FZ,hp,Ql,Vv hc];show QK true (ob (Zn [v] off l) _)=_;rw[ho];rfl
theorem Fe{place:Nat→Option (Nat×Nat)}{i off n:Nat}{v:AV}{ps:List (Nat×AV)}{l l1:List AV}(hp:place i=some (off,n))(hn:Nat.beq (Zh (Jp v)) n=true)(ho:Zn (Jp v) off l=some l1):XH place ((i,v)::ps) l=XH place ps l1:=by
 rw[FZ,hp,Ql];show QK (Nat.beq (Zh (Jp v)) n) (ob (Zn (Jp v) off l) _)=_;rw[hn,ho];rfl
end
section
open Go Go.RowKit
variable {ks v:AV} {t:TypeId} {vs:List AV}

def vL(h h':Hp)(c:Nat):Prop:= ∀ro ms,h c=some (.row ro ms)→h' c=h c
structure ZF(h:Hp)(F:Nat→Prop)(cp:Nat)(A:UA)(ks:AV)(vs:List AV)(L:List (List Int)):Prop where
 acc:YS A ks vs
 row: ∀c m l,(c,m,l)∈A→Qy h c m l∧F c∧c≠cp
 ln:vs.length=L.length
 inn: ∀(i:Nat) (s:List Int),L[i]? =some s→ ∃v,vs[i]? =some v∧Jj h [] 1 (zC s) v∧Xx s∧(v=.nils∨ ∃c m o n,v=.sl c m o n 1)∧ ∀c m o n y,v=.sl c m o n y→F c∧c≠cp∧ ∀m' l',(c,m',l')∉A
theorem ZF.frame{h h':Hp}{F:Nat→Prop}{cp:Nat}{A:UA}{ks:AV}{vs:List AV}{L:List (List Int)}(H:ZF h F cp A ks vs L)(e: ∀c,F c→h' c=h c):ZF h' F cp A ks vs L:=
 ⟨H.acc,fun c m l hm=>by
  obtain⟨h1,h2,h3⟩:=H.row c m l hm
  exact⟨h1.frame (e c h2),h2,h3⟩,H.ln,fun i s hi=>by
  obtain⟨v,h1,h2,h3,h4,h5⟩:=H.inn i s hi
  exact⟨v,h1,h2.frame fun c m o n y e'=>e c (h5 c m o n y e').1,h3,h4,h5⟩⟩
theorem ZF.more{h:Hp}{F F':Nat→Prop}{cp:Nat}{A:UA}{L:List (List Int)}(H:ZF h F cp A ks vs L)(e: ∀c,F c→F' c):ZF h F' cp A ks vs L:=
 ⟨H.acc,fun c m l hm=>by
  obtain⟨h1,h2,h3⟩:=H.row c m l hm
  exact⟨h1,e c h2,h3⟩,H.ln,fun i s hi=>by
  obtain⟨v,h1,h2,h3,h4,h5⟩:=H.inn i s hi
  exact⟨v,h1,h2,h3,h4,fun c m o n y e'=>by
   obtain⟨k1,k2⟩:=h5 c m o n y e'
   exact⟨e c k1,k2⟩⟩⟩
theorem ZF.rd{h:Hp}{F:Nat→Prop}{cp:Nat}{A:UA}{ks:AV}{vs:List AV}{L:List (List Int)}(H:ZF h F cp A ks vs L):Jj h [] 1 (vs.map fun v=>[v]) ks:=H.acc.rd fun c m l hm=>(H.row c m l hm).1
theorem ZF.len{h:Hp}{F:Nat→Prop}{cp:Nat}{A:UA}{ks:AV}{vs:List AV}{L:List (List Int)}(H:ZF h F cp A ks vs L):YE ks=some L.length:=by rw[←H.ln];exact H.acc.len
theorem ZF.snoc{h h':Hp}{F F':Nat→Prop}{cp:Nat}{A A':UA}{ks':AV}{L:List (List Int)}(H:ZF h F cp A ks vs L){s:List Int}(hA:YS A' ks' (vs++[v]))(hr: ∀c m l,(c,m,l)∈A'→Qy h' c m l∧F' c∧c≠cp∧((∃m l,(c,m,l)∈A)∨ ¬F c))(hF: ∀c,F c→F' c)
  (ho: ∀c,F c→c≠cp→(∀m l,(c,m,l)∉A)→vL h h' c) (hv:Jj h' [] 1 (zC s) v) (hs:Xx s) (hn:v=.nils∨ ∃c m o n,v=.sl c m o n 1) (hc: ∀c m o n y,v=.sl c m o n y→F' c∧c≠cp∧ ∀m' l',(c,m',l')∉A'):ZF h' F' cp A' ks' (vs++[v]) (L++[s]):=by
 refine⟨hA,fun c m l hm=>?_,by rw[List.length_append,List.length_append,H.ln];rfl,fun i x hi=>?_⟩
 ·obtain⟨h1,h2,h3,_⟩:=hr c m l hm;exact⟨h1,h2,h3⟩
 ·by_cases hl:i<L.length
  ·rw[List.getElem?_append_left hl]at hi;obtain⟨u,h1,h2,h3,h4,h5⟩:=H.inn i x hi;refine⟨u,by rw[List.getElem?_append_left (by rw[H.ln];exact hl)];exact h1,?_,h3,h4,fun c m o n y e=>?_⟩
   ·exact h2.frame fun c m o n y e=>by
     obtain⟨k1,k2,k3⟩:=h5 c m o n y e;obtain⟨_,cells,⟨ro,e1,vs',ms,h6,_⟩,_⟩:=h2.alive c m o n y e;exact ho c k1 k2 k3 ro ms h6
   ·obtain⟨k1,k2,k3⟩:=h5 c m o n y e;refine⟨hF c k1,k2,fun m' l' hm=>?_⟩;obtain⟨_,_,_,h6⟩:=hr c m' l' hm;rcases h6 with⟨m2,l2,h6⟩|h6
    ·exact k3 m2 l2 h6
    ·exact h6 k1
  ·rw[List.getElem?_append_right Qc]at hi
   have h0:i-L.length=0:=by
    by_cases h:i-L.length=0
    ·exact h
    ·rw[List.getElem?_eq_none (by simp;omega)]at hi;cases hi
   rw[h0]at hi
   injection hi with hi
   subst hi;exact⟨v,by rw[List.getElem?_append_right (by rw[H.ln];omega),H.ln,h0];rfl,hv,hs,hn,hc⟩
def ZG(h:Hp)(F:Nat→Prop)(cp:Nat)(L:List (List Int)):Prop:=
 ∃ks cm es k A vs,Qy h cp 0 [ks,.mp cm]∧F cp∧F cm∧h cm=some (.map es k)∧es.map wJ=WX 0 L∧ZF h F cp A ks vs L∧L.Nodup
theorem ZG.frame{h h':Hp}{F:Nat→Prop}{cp:Nat}{L:List (List Int)}(H:ZG h F cp L)(e: ∀c,F c→h' c=h c):ZG h' F cp L:=by
 obtain⟨ks,cm,es,k,A,vs,h1,h2,h3,h4,h5,h6,h7⟩:=H;exact⟨ks,cm,es,k,A,vs,h1.frame (e cp h2),h2,h3,by rw[e cm h3];exact h4,h5,h6.frame e,h7⟩
structure US(F:Nat→Prop)(st st':St):Prop where
 fresh:Qi st'
 le:st.n≤st'.n
 JB: ∀c,c<st.n→ ¬F c→st'.h.get c=st.h.get c
theorem Qt.JN{st st':St}(q:Qt st st')(F:Nat→Prop):US F st st':=⟨q.fresh,q.le,fun c hc _=>q.JB c hc⟩
theorem Mem.zM{st st1:St}{M0:UA}(hf:Qi st)(hM:Mem st.h.get st.n [] st1 M0)(Rw:UA)(hR: ∀c m l,(c,m,l)∈Rw→Qy st.h.get c m l)(hn:(Rw.map Prod.fst).Nodup):Mem st1.h.get st1.n ((Rw++M0).map Prod.fst) st1 (Rw++M0):=by
 refine Mem.PW hM.fresh (Rw++M0) (fun c m l hm=>?_) ?_
 ·rcases List.mem_append.1 hm with hm|hm
  ·exact(hR c m l hm).O5 hf hM.O5 Q7
  ·exact hM.row c m l hm
 ·rw[List.map_append];refine List.nodup_append.2 ⟨hn,hM.nodup,fun a ha b hb e=>?_⟩;subst e;obtain⟨⟨c,m,l⟩,h1,h2⟩:=List.mem_map.1 ha;obtain⟨⟨c',m',l'⟩,h3,h4⟩:=List.mem_map.1 hb;have k1:=(hR c m l h1).lt hf;simp only at h2 h4;rcases hM.own c' m' l' h3 with k2|k2
  ·omega
  ·cases k2
theorem YS.nodup{A:UA}(h:YS A ks vs):(A.map Prod.fst).Nodup:=by cases h<;>simp
theorem Mem.mapped{h0:Hp}{n0:Nat}{X:List Nat}{st:St}{M:UA}(hM:Mem h0 n0 X st M){cm n:Nat}{es:List (AV×AV×Nat)}(hc:st.h.get cm=some (.map es n))(s:List Int)(z:Int):
  Mem (WO st cm n es s z).h.get (WO st cm n es s z).n (M.map Prod.fst) (WO st cm n es s z) M∧US (fun c=>c=cm) st (WO st cm n es s z):=by
 have hlt:cm<st.n:=Nat.lt_of_not_le fun hle=>by rw[hM.fresh cm hle]at hc;cases hc
 have hf:=D9 hM.fresh hlt n es s z;refine⟨Mem.PW hf M (fun c m l hm=>?_) hM.nodup,hf,Nat.le_refl _,fun c hc' hne=>Aq _ _ _ _ _ hne⟩;have hr:=hM.row c m l hm;exact Qy.frame hr (Aq _ _ _ _ _ (Qy.Tu hr hc))
theorem Mem.wk{P:Program}{h0:Hp}{n0:Nat}{X:List Nat}{st:St}{L A B:UA}(hM:Mem h0 n0 X st (L++(A++B)))(hA:YS A ks vs){e:TypeId}(T:Ho P t e 1){k2 c2 m2:Nat}(hk:(L++(A++B))[k2]? =some (c2,m2,[v]))(hb:vs.length+1≤1000000000):
  ∃ks' A' st1,Yl P [t,t] ks (.sl c2 m2 0 1 1) st=some (ks',st1)∧YS A' ks' (vs++[v])∧Mem h0 n0 X st1 (L++(A'++B))∧ ∀c m l,(c,m,l)∈A'→(∃m l,(c,m,l)∈A)∨st.n≤c:=by
 have hr:=(hM.Yb hk).Jd
 cases hA with
 |none=>
  have h1:=append_nil (st:=st) T (n:=1) (z2:=1) (J3:=0) hr Q7 Q9 Q9;refine⟨_,[(st.n,0,[v])],_,h1,?_,?_,fun c m l hm=>?_⟩
  ·exact .own (vs:=[v]) Q7
  ·have h2:=hM.alloc [v];have h3:=h2.perm (M':=L++([(st.n,0,[v])]++B)) (by simpa using(List.perm_middle (l₁:=L) (l₂:=B) (a:=(st.n,0,[v]))).symm)
   simpa using h3
  ·simp at hm;exact .inr Qc
 |own hb'=>
  rename_i c m;obtain⟨m',st1,h1,h2,_⟩:=hM.append (P:=P) T (k:=L.length) (c:=c) (m:=m) (len:=vs.length) (c2:=c2) (m2:=m2) (J3:=0) (n:=1) (z2:=1) (l:=vs) (l2:=[v]) (Ch L B (c,m,vs)) Q7 hr Q7 Q9 hb;rw[B5]at h2;refine⟨_,[(c,m',vs++[v])],st1,h1,?_,by simpa using h2,fun c' m2 l hm=>?_⟩
  ·have:=YS.own (c:=c) (m:=m') (vs:=vs++[v]) (by simpa using hb);rw[List.length_append]at this;exact this
  ·simp at hm;exact .inl ⟨m,vs,by simp[hm.1]⟩
section
variable {P:Program} {G:Env} {N:Nat} {h0:Hp} {n0:Nat} {X:List Nat} {st:St} {L A B:UA} {T:Tr AV} {ops rest:List Oper} {K:List (Nat×AV)} {R:Tr AV→St→Prop} {d:Nat} {ty:TypeId} {pos:String} {af:Array Edge}
theorem YL{x y:Operand}{e:TypeId}{c2 m2 k2:Nat}(hK:QT K T)(hM:Mem h0 n0 X st (L++(A++B)))(hA:YS A ks vs)(S:Ho P t e 1)(hx:QV G K x=some ks)(hy:QV G K y=some (.sl c2 m2 0 1 1))(hk:(L++(A++B))[k2]? =some (c2,m2,[v]))(hb:vs.length+1≤1000000000)(hN:Nat.ble (d+1) N=true)
  (hn: ∀(ks':AV) A' T' st',QT ((d,ks')::K) T'→YS A' ks' (vs++[v])→(∀c m l,(c,m,l)∈A'→(∃m l,(c,m,l)∈A)∨st.n≤c)→Mem h0 n0 X st' (L++(A'++B))→WR P G N ops rest R T' st'):WR P G N ops (⟨some d,.call {callee:=.builtin .append,args:= #[x,y],argTypes:= #[t,t]},ty,pos,af,none⟩::rest) R T st:=by
 obtain⟨ks',A',st1,h1,h2,h3,h4⟩:=hM.wk hA S hk hb;exact EC hK (ZL rfl hx hy h1) (Nat.le_of_ble_eq_true hN) fun T' hT'=>hn ks' A' T' st1 hT' h2 h4 h3
theorem AN{sn:List St}{i:Nat}{rr:List (Nat×Nat)}{x:Operand}{lo hi:Option Operand}{l:List Int}{a b:Nat}(ho:ops[i]? =some ⟨some d,.slice t x lo hi none,ty,pos,af,none⟩)(hK:QT K T)(he:Ue P t=some 1)(r:Jj st.h.get [] 1 (zC l) v)(hs:v=.nils∨ ∃c m o n,v=.sl c m o n 1)(hx:QV G K x=some v)(hl:YP (QV G K) lo=some a)(hh:YQ (QV G K) hi l.length=some b)(h1:a≤b)(h2:b≤l.length)(hN:Nat.ble (d+1) N=true)
  (hn: ∀(v2:AV) T',QT ((d,v2)::K) T'→Jj st.h.get [] 1 (zC ((l.drop a).take (b-a))) v2→Qs v2=true→WD P G N ops (rr.map (Yq ops)) R T' st sn):WD P G N ops (((i,0)::rr).map (Yq ops)) R T st sn:=by
 obtain⟨v2,h3,h4,h5⟩:=MC (G:=G) (K:=K) (st:=st) (lo:=lo) (hi:=hi) he r hs hx hl hh h1 h2;exact Gm ho hK h3 rfl (Nat.le_of_ble_eq_true hN) fun T' hT'=>hn v2 T' hT' h4 h5
end
theorem Acc.Tv{n0:Nat}{A:UA}{ls:List (List AV)}(h:Acc n0 1 A ks ls):ks=.nils∨ ∃c m o n,ks=.sl c m o n 1:=by
 cases h with
 |none=>exact .inl rfl
 |own=>exact .inr ⟨_,_,_,_,rfl⟩
theorem AI.Tv{n0:Nat}{A:UA}{l:List Int}(h:AI n0 A ks l):ks=.nils∨ ∃c m o n,ks=.sl c m o n 1:=by
 cases h with
 |none=>exact .inl rfl
 |own=>exact .inr ⟨_,_,_,_,rfl⟩
end
section
open Go

theorem Um:tk Tryz.prog 22=.one:=by kernel_rfl
theorem UH:YM Tryz.prog 22=some 1:=by kernel_rfl
theorem Yc:Tryz.prog.underlying 22=some (.slice 4):=by kernel_rfl
theorem J5:Ue Tryz.prog 22=some 1:=by kernel_rfl
theorem Jk:tk Tryz.prog 25=.agg 3:=by kernel_rfl
theorem QA:YM Tryz.prog 25=some 3:=by kernel_rfl
theorem Y7:zeroOf Tryz.prog 25=some [.int .i64 0,.nils,.nils]:=by kernel_rfl
theorem Ga:QH Tryz.prog 25 0=some 0:=by kernel_rfl
theorem OZ:QH Tryz.prog 25 1=some 1:=by kernel_rfl
theorem OY:QH Tryz.prog 25 2=some 2:=by kernel_rfl
theorem Zw(l:List AV):IU Tryz.prog 25 (.agg l) 2=Vb Tryz.prog 23 l 2:=by kernel_rfl
theorem VT:PH Tryz.prog 25 [(0,1),(1,1),(2,1)] [.int .i64 0,.nils,.nils]:=⟨⟨_,Tryz.underlying25,by kernel_rfl,by kernel_rfl⟩,Y7⟩
theorem I6:tk Tryz.prog 27=.one:=by kernel_rfl
theorem I4:Tryz.prog.underlying 27=some (.pointer 65):=by kernel_rfl
theorem UG:tk Tryz.prog 29=.one:=by kernel_rfl
theorem F8:zeroOf Tryz.prog 29=some [.nilp]:=by kernel_rfl
theorem JZ:Tryz.prog.underlying 29=some (.pointer 86):=by kernel_rfl
theorem Xm:tk Tryz.prog 36=.one:=by kernel_rfl
theorem EP:zeroOf Tryz.prog 65=some [.int .i64 0,.bool false]:=by kernel_rfl
theorem IS:QH Tryz.prog 65 0=some 0:=by kernel_rfl
theorem IQ:QH Tryz.prog 65 1=some 1:=by kernel_rfl
theorem LQ:PH Tryz.prog 65 [(0,1),(1,1)] [.int .i64 0,.bool false]:=⟨⟨_,Tryz.underlying65,by kernel_rfl,by kernel_rfl⟩,EP⟩
theorem F5:zeroOf Tryz.prog 71=some [.nilp,.nilp]:=by kernel_rfl
theorem KW:QH Tryz.prog 71 0=some 0:=by kernel_rfl
theorem KV:QH Tryz.prog 71 1=some 1:=by kernel_rfl
theorem O9:PH Tryz.prog 71 [(0,1),(1,1)] [.nilp,.nilp]:=⟨⟨_,Tryz.underlying71,by kernel_rfl,by kernel_rfl⟩,F5⟩
theorem Vz:tk Tryz.prog 77=.agg 2:=by kernel_rfl
theorem Z3:zeroOf Tryz.prog 77=some [.int .i64 0,.int .i64 0]:=by kernel_rfl
theorem A4:QH Tryz.prog 77 0=some 0:=by kernel_rfl
theorem A3:QH Tryz.prog 77 1=some 1:=by kernel_rfl
theorem FQ:PH Tryz.prog 77 [(0,1),(1,1)] [.int .i64 0,.int .i64 0]:=⟨⟨_,Tryz.underlying77,by kernel_rfl,by kernel_rfl⟩,Z3⟩
theorem Ul:Tryz.prog.underlying 78=some (.slice 77):=by kernel_rfl
theorem Up:Ue Tryz.prog 78=some 2:=by kernel_rfl
theorem JK:tk Tryz.prog 84=.one:=by kernel_rfl
theorem ZS:Tryz.prog.underlying 84=some (.pointer 125):=by kernel_rfl
theorem Km:zeroOf Tryz.prog 86=some [.nils,.nils,.nilp]:=by kernel_rfl
theorem OR:QH Tryz.prog 86 0=some 0:=by kernel_rfl
theorem OQ:QH Tryz.prog 86 1=some 1:=by kernel_rfl
theorem OP:QH Tryz.prog 86 2=some 2:=by kernel_rfl
theorem Kr:PH Tryz.prog 86 [(0,1),(1,1),(2,1)] [.nils,.nils,.nilp]:=⟨⟨_,Tryz.underlying86,by kernel_rfl,by kernel_rfl⟩,Km⟩
theorem XW:zeroOf Tryz.prog 105=some [.int .i64 0,.bool false]:=by kernel_rfl
theorem EN:QH Tryz.prog 105 0=some 0:=by kernel_rfl
theorem EM:QH Tryz.prog 105 1=some 1:=by kernel_rfl
theorem Fu:PH Tryz.prog 105 [(0,1),(1,1)] [.int .i64 0,.bool false]:=⟨⟨_,Tryz.underlying105,by kernel_rfl,by kernel_rfl⟩,XW⟩
theorem ZR:zeroOf Tryz.prog 109=some [.nilp,.bool false,.bool false]:=by kernel_rfl
theorem Ws:QH Tryz.prog 109 0=some 0:=by kernel_rfl
theorem Wr:QH Tryz.prog 109 1=some 1:=by kernel_rfl
theorem Wq:QH Tryz.prog 109 2=some 2:=by kernel_rfl
theorem Ei:PH Tryz.prog 109 [(0,1),(1,1),(2,1)] [.nilp,.bool false,.bool false]:=⟨⟨_,Tryz.underlying109,by kernel_rfl,by kernel_rfl⟩,ZR⟩
theorem ED:Tryz.prog.underlying 111=some (.slice 29):=by kernel_rfl
theorem Z1:Ue Tryz.prog 111=some 1:=by kernel_rfl
theorem UF:tk Tryz.prog 122=.one:=by kernel_rfl
theorem FE:YM Tryz.prog 122=some 1:=by kernel_rfl
theorem Xz:Tryz.prog.underlying 122=some (.slice 132):=by kernel_rfl
theorem YI:Ue Tryz.prog 122=some 1:=by kernel_rfl
theorem H3:tk Tryz.prog 123=.one:=by kernel_rfl
theorem Hw:zeroOf Tryz.prog 125=some [.int .i64 0,.nils,.nilm]:=by kernel_rfl
theorem NL:QH Tryz.prog 125 0=some 0:=by kernel_rfl
theorem NK:QH Tryz.prog 125 1=some 1:=by kernel_rfl
theorem NJ:QH Tryz.prog 125 2=some 2:=by kernel_rfl
theorem By:PH Tryz.prog 125 [(0,1),(1,1),(2,1)] [.int .i64 0,.nils,.nilm]:=⟨⟨_,Tryz.underlying125,by kernel_rfl,by kernel_rfl⟩,Hw⟩
theorem YV:tk Tryz.prog 132=.one:=by kernel_rfl
theorem ER:zeroOf Tryz.prog 132=some [.nili]:=by kernel_rfl
theorem FC:YM Tryz.prog 164=some 3:=by kernel_rfl
theorem Wh:zeroOf Tryz.prog 164=some [.int .i64 0,.bool false,.int .i64 0]:=by kernel_rfl
theorem Lf:QH Tryz.prog 164 0=some 0:=by kernel_rfl
theorem Le:QH Tryz.prog 164 1=some 1:=by kernel_rfl
theorem Ld:QH Tryz.prog 164 2=some 2:=by kernel_rfl
theorem OC:PH Tryz.prog 164 [(0,1),(1,1),(2,1)] [.int .i64 0,.bool false,.int .i64 0]:=⟨⟨_,Tryz.underlying164,by kernel_rfl,by kernel_rfl⟩,Wh⟩
theorem Md:tk Tryz.prog 168=.agg 3:=by kernel_rfl
theorem Mf:YM Tryz.prog 168=some 3:=by kernel_rfl
theorem Gk:zeroOf Tryz.prog 168=some [.int .i64 0,.int .i64 0,.int .i64 0]:=by kernel_rfl
theorem Zy:tk Tryz.prog 172=.one:=by kernel_rfl
theorem EU:tk Tryz.prog 173=.one:=by kernel_rfl
theorem Kp:YM Tryz.prog 173=some 1:=by kernel_rfl
theorem X8:Tryz.prog.underlying 173=some (.slice 177):=by kernel_rfl
theorem Ph:Ue Tryz.prog 173=some 2:=by kernel_rfl
theorem F6:zeroOf Tryz.prog 175=some [.nilm,.nils,.nilp]:=by kernel_rfl
theorem KZ:QH Tryz.prog 175 0=some 0:=by kernel_rfl
theorem KY:QH Tryz.prog 175 1=some 1:=by kernel_rfl
theorem KX:QH Tryz.prog 175 2=some 2:=by kernel_rfl
theorem OA:PH Tryz.prog 175 [(0,1),(1,1),(2,1)] [.nilm,.nils,.nilp]:=⟨⟨_,Tryz.underlying175,by kernel_rfl,by kernel_rfl⟩,F6⟩
theorem Jr:tk Tryz.prog 181=.agg 3:=by kernel_rfl
theorem KQ:YM Tryz.prog 181=some 3:=by kernel_rfl
theorem EB:zeroOf Tryz.prog 181=some [.nilf,.int .i64 0,.int .i64 0]:=by kernel_rfl
theorem Ii:QH Tryz.prog 181 0=some 0:=by kernel_rfl
theorem Ih:QH Tryz.prog 181 1=some 1:=by kernel_rfl
theorem Ig:QH Tryz.prog 181 2=some 2:=by kernel_rfl
theorem KR:PH Tryz.prog 181 [(0,1),(1,1),(2,1)] [.nilf,.int .i64 0,.int .i64 0]:=⟨⟨_,Tryz.underlying181,by kernel_rfl,by kernel_rfl⟩,EB⟩
theorem Kk:zeroOf Tryz.prog 193=some [.int .i64 0]:=by kernel_rfl
theorem OL:QH Tryz.prog 193 0=some 0:=by kernel_rfl
theorem CV:PH Tryz.prog 193 [(0,1)] [.int .i64 0]:=⟨⟨_,Tryz.underlying193,by kernel_rfl,by kernel_rfl⟩,Kk⟩
theorem CP:YM Tryz.prog 195=some 3:=by kernel_rfl
theorem Kl:zeroOf Tryz.prog 195=some [.int .i64 0,.int .i64 0,.int .i64 0]:=by kernel_rfl
theorem OO:QH Tryz.prog 195 0=some 0:=by kernel_rfl
theorem ON:QH Tryz.prog 195 1=some 1:=by kernel_rfl
theorem OM:QH Tryz.prog 195 2=some 2:=by kernel_rfl
theorem CW:PH Tryz.prog 195 [(0,1),(1,1),(2,1)] [.int .i64 0,.int .i64 0,.int .i64 0]:=⟨⟨_,Tryz.underlying195,by kernel_rfl,by kernel_rfl⟩,Kl⟩
theorem F7:zeroOf Tryz.prog 211=some [.nilp,.nilf,.nilm]:=by kernel_rfl
theorem Lc:QH Tryz.prog 211 0=some 0:=by kernel_rfl
theorem Lb:QH Tryz.prog 211 1=some 1:=by kernel_rfl
theorem La:QH Tryz.prog 211 2=some 2:=by kernel_rfl
theorem OB:PH Tryz.prog 211 [(0,1),(1,1),(2,1)] [.nilp,.nilf,.nilm]:=⟨⟨_,Tryz.underlying211,by kernel_rfl,by kernel_rfl⟩,F7⟩
theorem J4:Ho Tryz.prog 22 4 1:=⟨Yc,by kernel_rfl,⟨_,Vd,rfl⟩,by kernel_rfl,by decide,by decide+kernel⟩
theorem XA:Ho Tryz.prog 78 77 2:=⟨Ul,by kernel_rfl,⟨_,Z3,rfl⟩,by kernel_rfl,by decide,by decide+kernel⟩
theorem YD:Ho Tryz.prog 111 29 1:=⟨ED,by kernel_rfl,⟨_,F8,rfl⟩,by kernel_rfl,by decide,by decide+kernel⟩
theorem Wl:Ho Tryz.prog 122 132 1:=⟨Xz,by kernel_rfl,⟨_,ER,rfl⟩,by kernel_rfl,by decide,by decide+kernel⟩
theorem EX:Ho Tryz.prog 173 177 2:=⟨X8,by kernel_rfl,⟨_,ZI,rfl⟩,by kernel_rfl,by decide,by decide+kernel⟩
end
end Go.Proofs.YtiknomepbklibaaGreatDoor
