/-
  A table of closed calls as a rule of the reckoner.
-/
import Derived.Test.YthjgndgnmkiaiaaGreatDoorZpRm
set_option maxRecDepth 100000
set_option linter.unnecessarySimpa false
set_option linter.unusedSectionVars false
set_option linter.unusedSimpArgs false
set_option linter.unusedVariables false
namespace Go.Proofs.YthjgndgnmkiaiaaGreatDoor
open Go Go.RowKit
section

noncomputable section
structure Na where
 args:List AV
 shape:List Nat
 h0:List LC
 kill:Option Nat
 v:AV
 N:List LC
def D5:List AV→List Nat→List Nat
 |.ptr c _ _::l,s::ss=>(List.range s).map (c+ ·)++D5 l ss
 |_::l,ss=>D5 l ss
 |[],_=>[]
def zF:List Nat→Bool
 |[]=>true
 |x::l=>l.all (fun y=> !Nat.beq x y)&&zF l
def FV(bs:List Nat)(c:Nat):Nat:=bs.getD c 0
def iy(l:List (Nat×Nat))(i:Nat):Nat×Nat:=l.getD i (0,0)
def LX:Tr Av→Nat→List LC→Tr Av
 |t,_,[]=>t
 |t,n,C::l=>LX (t.set n C.cls) (n+1) l
def Na.bs(e:Na)(args:List AV):List Nat:=D5 args e.shape
def xC(e:Na)(args:List AV)(st:St)(bs:List Nat):Bool:=
 Nat.beq bs.length e.h0.length&&(zF bs&&(eH (Hu (fun c=>(FV bs c,0)) e.args) args&&(e.h0.zip bs).all fun x=>PZ (x.1.rl fun c=>(FV bs c,0)) (st.h.get x.2)))
def L9(t:Tr Av)(g:Nat→Nat)(h0:List LC):Option Nat→Tr Av
 |none=>t
 |some c=>match h0[c]? with
  |some (.row l)=>t.set (g c) (vg l.length)
  |_=>t
def Na.app(e:Na)(args:List AV)(st:St):AV×St:=
 (V5 (fun i=>(st.n+i,0)) e.v,⟨st.n+e.N.length,LX (L9 st.h (FV (e.bs args)) e.h0 e.kill) st.n (e.N.map (LC.rl fun i=>(st.n+i,0)))⟩)
def KJ(tbl:List Na):List AV→St→Option (AV×St):=fun args st=>match tbl.find? fun e=>xC e args st (e.bs args)with
 |some e=>some (e.app args st)
 |none=>none
def lu(h:Hp)(c m:Nat):Option (List AV):=match h c with
 |some (.row _ ms)=>match ms[m]? with
  |some x=>x.2.2
  |none=>none
 |_=>none
def iP(h:Hp)(v:AV):List (Nat×Nat):=match v with
 |.tup [.ptr c m 0,_]=>match lu h c m with
  |some [.sl ca ma 0 _ _,.sl cr mr 0 _ _,.ptr cs ms 0]=>match lu h cs ms with
   |some [_,.sl cl ml 0 _ _,.mp cm]=>[(c,m),(ca,ma),(cr,mr),(cs,ms),(cl,ml),(cm,0)]
   |_=>[]
  |_=>[]
 |_=>[]
def MJ(h1:Hp)(l:List (Nat×Nat))(C:LC)(x:Nat×Nat):Bool:=match C with
 |.row cs=>match h1 x.1 with
  |some (.row false ms)=>match ms[x.2]? with
   |some (e,_,some cs')=>Nat.beq e cs.length&&eH (Hu (iy l) cs) cs'
   |_=>false
  |_=>false
 |.map es k=>Nat.beq x.2 0&&(match h1 x.1 with
  |some (.map es' k')=>iI (es.map (uA (iy l))) es'&&Nat.beq k k'
  |_=>false)
def Sn(C:LC)(D:Option Av):Bool:=match C,D with
 |.row l,some (.row false [(e,0,some _)])=>Nat.beq e l.length
 |_,_=>false
def Na.okB(e:Na)(v0:AV)(h1:Hp)(l:List (Nat×Nat)):Bool:=
 OV (V5 (iy l) e.v) v0&&(Nat.beq l.length e.N.length&&((l.all fun x=>Nat.ble e.h0.length x.1)&&(zF (l.map Prod.fst)&&((e.N.zip l).all (fun x=>MJ h1 l x.1 x.2)&&
  (e.h0.zipIdx.all (fun x=>PZ x.1 (h1 x.2)||(e.kill==some x.2&&Sn x.1 (h1 x.2)))&&(e.h0.all (LC.wf (FX e.h0))&&(e.N.all (LC.wf (FX e.N))&&(Sh (FX e.h0) e.args&&WA (FX e.N) e.v))))))))
def Na.Xc(P:Program)(G:Env)(L fuel:Nat)(f:FuncId)(e:Na):Bool:=match U9 P G L fuel f e.args ⟨e.h0.length,LX .nil 0 e.h0⟩with
 |some (v0,st1)=>e.okB v0 st1.h.get (iP st1.h.get v0)
 |none=>false
end
theorem CR: ∀l,zF l=true→l.Nodup
 |[],_=>List.nodup_nil
 |x::l,h=>by
  rw[zF,Bool.and_eq_true,List.all_eq_true]at h;refine List.nodup_cons.2 ⟨fun hx=>?_,CR l h.2⟩;have:=h.1 x hx;simp at this
theorem NX: ∀(l:List LC) (t:Tr Av) (n k:Nat),(LX t n l).get k=if n≤k∧k<n+l.length then(l[k-n]?).map LC.cls else t.get k
 |[],t,n,k=>by rw[LX,if_neg (by simp only[List.length_nil];omega)]
 |C::l,t,n,k=>by
  rw[LX,NX l,Tr.VV];simp only[List.length_cons]
  by_cases h:k=n
  ·subst h;rw[if_neg Qk,if_pos rfl,if_pos Qk,Nat.sub_self];rfl
  ·rw[if_neg h]
   by_cases h2:n≤k∧k<n+(l.length+1)
   ·rw[if_pos Qk,if_pos h2,show k-n=(k-(n+1))+1 by omega,List.getElem?_cons_succ]
   ·rw[if_neg Qk,if_neg h2]
theorem Db(h0:List LC):(LX .nil 0 h0).get=er h0:=by
 funext c
 rw[NX];show _=(h0[c]?).map LC.cls
 by_cases h:c<h0.length
 ·rw[if_pos Qk,Nat.sub_zero]
 ·rw[if_neg Qk,List.getElem?_eq_none Qk]
  cases c<;>rfl
theorem uG{α β:Type}{a:List α}{b:List β}{f:α×β→Bool}(h:(a.zip b).all f=true){i:Nat}{x:α}{y:β}(hx:a[i]? =some x)(hy:b[i]? =some y):f (x,y)=true:=by
 rw[List.all_eq_true]at h;refine h (x,y) (List.mem_of_getElem? (i:=i) ?_);rw[List.getElem?_zip_eq_some];exact⟨hx,hy⟩
theorem eh{h1:Hp}{l:List (Nat×Nat)}{C:LC}{x:Nat×Nat}(h:MJ h1 l C x=true):Kept h1 l C x:=by
 unfold MJ at h
 cases C with
 |row cs=>
  simp only at h
  split at h
  ·rename_i ms hm
   split at h
   ·rename_i e vs cs' he;rw[Bool.and_eq_true,Aq]at h;obtain⟨rfl,h⟩:=h;exact⟨ms,vs,hm,by rw[he,←Ld _ _ h];rfl⟩
   ·cases h
  ·cases h
 |map es k=>
  simp only at h;rw[Bool.and_eq_true,Aq]at h;obtain⟨h0,h⟩:=h
  split at h
  ·rename_i es' k' hm;rw[Bool.and_eq_true,Aq]at h;obtain⟨h,rfl⟩:=h;exact⟨h0,by rw[hm,←T6 _ _ h];rfl⟩
  ·cases h
theorem vE{e:Na}{args:List AV}{st st1:St}{v0:AV}{l:List (Nat×Nat)}(hf:Q3 st)(hfit:xC e args st (e.bs args)=true)(hok:e.okB v0 st1.h.get l=true):aZ st.n st.h.get (e.app args st).2.h.get e.h0 (FV (e.bs args)) st1.h.get l e.N∧
  (∀c C,e.h0[c]? =some C→st.h.get (FV (e.bs args) c)=some (C.rl fun i=>(FV (e.bs args) i,0)).cls)∧(∀c d,c<e.h0.length→d<e.h0.length→FV (e.bs args) c=FV (e.bs args) d→c=d)∧Hu (fun c=>(FV (e.bs args) c,0)) e.args=args:=by
 obtain⟨bs,hbs⟩: ∃bs,e.bs args=bs:=⟨_,rfl⟩
 have hget: ∀k,(e.app args st).2.h.get k=if st.n≤k∧k<st.n+e.N.length then(e.N[k-st.n]?).map (fun C=>(C.rl fun i=>(st.n+i,0)).cls)else(L9 st.h (FV bs) e.h0 e.kill).get k:=fun k=>by
  show(LX (L9 st.h (FV (e.bs args)) e.h0 e.kill) st.n (e.N.map (LC.rl fun i=>(st.n+i,0)))).get k=_;rw[NX,List.length_map,List.getElem?_map,Option.map_map,hbs];rfl
 rw[hbs]at hfit ⊢;generalize (e.app args st).2.h.get=h' at hget ⊢;unfold xC at hfit;simp only[Bool.and_eq_true]at hfit;obtain⟨f1,f2,f3,f4⟩:=hfit;rw[Aq]at f1;have f2:=CR _ f2;have f3:=Ld _ _ f3;unfold Na.okB at hok;simp only[Bool.and_eq_true]at hok;obtain⟨k1,k2,k3,k4,k5,k6,k7,k8,k9,k10⟩:=hok;rw[Aq]at k2;rw[List.all_eq_true]at k3 k6 k8
 have hgb: ∀c,c<e.h0.length→bs[c]? =some (FV bs c):=fun c hc=>by
  unfold FV;rw[List.getD_eq_getElem?_getD,List.getElem?_eq_getElem Qk];rfl
 have hin: ∀c d,c<e.h0.length→d<e.h0.length→FV bs c=FV bs d→c=d:=fun c d hc hd he=>by
  have h1:=hgb c hc;have h2:=hgb d hd;rw[he]at h1;exact(List.getElem?_inj Qk f2).1 (h1.trans h2.symm)
 have hg: ∀c C,e.h0[c]? =some C→st.h.get (FV bs c)=some (C.rl fun i=>(FV bs i,0)).cls:=fun c C hC=>O5 (uG f4 hC (hgb c (List.getElem?_eq_some_iff.1 hC).1))
 have hlt: ∀k C,st.h.get k=some C→k<st.n:=fun k C hC=>by
  by_cases h:k<st.n
  ·exact h
  ·rw[hf k Qk]at hC;cases hC
 have hz: ∀{c:Nat} {C:LC},e.h0[c]? =some C→(PZ C (st1.h.get c)||(e.kill==some c&&Sn C (st1.h.get c)))=true:=fun{c C} hC=>k6 (C,c) (by
  refine List.mem_of_getElem? (i:=c) ?_
  rw[List.getElem?_zipIdx,hC];simp)

 have hyes: ∀{c:Nat} {l:List AV},e.kill=some c→e.h0[c]? =some (.row l)→(L9 st.h (FV bs) e.h0 e.kill).get (FV bs c)=some (vg l.length):=fun{c l} h1 h2=>by
  unfold L9;rw[h1];simp only[h2];rw[Tr.VV,if_pos rfl]
 have hno: ∀{k:Nat},(¬ ∃c l,e.kill=some c∧e.h0[c]? =some (.row l)∧k=FV bs c)→(L9 st.h (FV bs) e.h0 e.kill).get k=st.h.get k:=fun{k} hn=>by
  unfold L9
  cases hk:e.kill with
  |none=>rfl
  |some c=>
   simp only
   split
   ·rename_i l hl;rw[Tr.VV,if_neg fun h=>hn ⟨c,l,hk,hl,h⟩]
   ·rfl
 have hnew: ∀{k:Nat},k<st.n→h' k=(L9 st.h (FV bs) e.h0 e.kill).get k:=fun{k} hk=>by rw[hget,if_neg Qk]
 have hkept: ∀(i:Nat) (C:LC) (x:Nat×Nat),e.N[i]? =some C→l[i]? =some x→Kept st1.h.get l C x:=fun i C x hC hx=>eh (uG (f:=fun x=>MJ st1.h.get l x.1 x.2) k5 hC hx);refine⟨⟨fun x hx=>Nat.le_of_ble_eq_true (k3 x hx),CR _ k4,k2,hkept,k8,fun i es k x hC hx=>(hkept i _ x hC hx).1,fun i C hC=>?_,fun k C hk hC=>?_,fun k C hC=>?_,fun k C hk hC=>?_⟩,hg,hin,f3⟩
 ·have:=(List.getElem?_eq_some_iff.1 hC).1;rw[hget,if_pos Qk,show st.n+i-st.n=i by omega,hC];rfl
 ·rw[hnew hk]at hC
  by_cases hkc: ∃c l,e.kill=some c∧e.h0[c]? =some (.row l)∧k=FV bs c
  ·obtain⟨c,l,h1,h2,rfl⟩:=hkc;rw[hyes h1 h2]at hC
   injection hC with hC
   have hc:=(List.getElem?_eq_some_iff.1 h2).1;have h3:=hg c _ h2;have h4:=hz h2;rw[Bool.or_eq_true,Bool.and_eq_true]at h4;refine .inr ⟨c,l.length,Hu (fun i=>(FV bs i,0)) l,?_⟩
   have h3':st.h.get (FV bs c)=some (.row false [(l.length,0,some (Hu (fun i=>(FV bs i,0)) l))]):=by
    rw[h3];show some (Av.row false [((Hu (fun i=>(FV bs i,0)) l).length,0,some (Hu (fun i=>(FV bs i,0)) l))])=_;rw[Vt,List.length_map]
   rcases h4 with h4|⟨_,h4⟩
   ·exact⟨l,hc,rfl,hC.symm,h3',O5 h4⟩
   ·unfold Sn at h4
    split at h4
    ·rename_i l2 e2 cs2 h5 h6
     injection h5 with h5
     subst h5;rw[Aq]at h4;subst h4;exact⟨cs2,hc,rfl,hC.symm,h3',by assumption⟩
    ·cases h4
  ·rw[hno hkc]at hC;refine .inl ⟨hC,fun c hc hgc=>?_⟩;have hc0:e.h0[c]? =some (e.h0[c]'hc):=List.getElem?_eq_getElem hc;have h4:=hz hc0;show st1.h.get c=(e.h0[c]?).map LC.cls;rw[hc0];rw[Bool.or_eq_true,Bool.and_eq_true]at h4;rcases h4 with h4|⟨h5,h4⟩
   ·exact O5 h4
   ·exfalso
    generalize e.h0[c]'hc=D at *
    cases D with
    |map es k=>cases h4
    |row l=>exact hkc ⟨c,l,by simpa using h5,hc0,hgc.symm⟩
 ·have hk:=hlt k C hC;rw[hnew hk]
  by_cases hkc: ∃c l,e.kill=some c∧e.h0[c]? =some (.row l)∧k=FV bs c
  ·obtain⟨c,l,h1,h2,rfl⟩:=hkc;have h3:=hg c _ h2;rw[hC]at h3
   injection h3 with h3
   refine⟨_,hyes h1 h2,?_⟩;rw[h3,LC.Nw];rfl
  ·rw[hno hkc];exact⟨C,hC,rfl⟩
 ·rw[hget]at hC
  split at hC
  ·exact⟨k-st.n,by omega,by omega⟩
  ·exfalso
   by_cases hkc: ∃c l,e.kill=some c∧e.h0[c]? =some (.row l)∧k=FV bs c
   ·obtain⟨c,l,h1,h2,rfl⟩:=hkc;have:=hlt _ _ (hg c _ h2);omega
   ·rw[hno hkc,hf k hk]at hC;cases hC
theorem F6{P:Program}{G G0:Env}{f:FuncId}{tbl:List Na}(hr:Real P f)(hG: ∀w0 p q,KF w0 p G→KF w0 q G0)(hE:WT P G0)(hm:P.follows .mixedOrders=true)(ht: ∀e∈tbl,∃L fuel,e.Xc P G0 L fuel f=true):Vh P G f (KJ tbl):=by
 intro args st v st' hs hf ha;unfold KJ at hs
 split at hs
 ·rename_i e he
  injection hs with hs
  have hfit:=List.find?_some he;obtain⟨L,fuel,hgood⟩:=ht e (List.mem_of_find?_eq_some he);unfold Na.Xc at hgood
  split at hgood
  ·rename_i v0 st1 hcall;refine⟨hr,fun w0 p w H hg=>?_⟩;obtain⟨A,hA1,hA2,hA3⟩:=vE hf hfit hgood;have hv:v=V5 (fun i=>(st.n+i,0)) e.v:=(congrArg Prod.fst hs).symm;have hst:(e.app args st).2=st':=congrArg Prod.snd hs
   have hn:st'.n=st.n+e.N.length:=by rw[←hst];rfl
   rw[hst]at A;unfold Na.okB at hgood;simp only[Bool.and_eq_true]at hgood;obtain⟨k1,k2,k3,k4,k5,k6,k7,k8,k9,k10⟩:=hgood;rw[List.all_eq_true]at k7;have H0:=pull H hA1 hA2 k7
   have hp0: ∀i x,(FX e.h0)[i]? =some x→p (FV (e.bs args) i) 0=Xj e.h0 (FV (e.bs args)) p i 0:=fun i x hx=>by rw[Xj,if_pos ⟨Cy hx,rfl⟩]
   have hargs:Qn (Xj e.h0 (FV (e.bs args)) p) e.args=Qn p args:=(Kq hp0 (fun _ _ _=>rfl) e.args k9).symm.trans (congrArg (Qn p) hA3)
   have hF0:Q3 ⟨e.h0.length,LX .nil 0 e.h0⟩:=fun c hc=>by
    have hc:e.h0.length≤c:=hc;show(LX .nil 0 e.h0).get c=none;rw[Db];show(e.h0[c]?).map LC.cls=none;rw[List.getElem?_eq_none hc];rfl
   have hW0:YN (er e.h0) e.args:=by
    have:=DA (g:=id) (h:=er e.h0) (fun i x hx=>by
     obtain⟨C,hC,rfl⟩:=Nh hx;refine⟨C.cls,by show(e.h0[i]?).map LC.cls=_;rw[hC];rfl,?_⟩
     cases C<;>rfl) e.args k9
    rwa [show(fun i=>(id i,0))=(fun i:Nat=>(i,0))from rfl,CB e.args k9]at this
   obtain⟨_,hc⟩:=(Kt (Km hm) hE L fuel f e.args _ v0 st1 hcall hF0 (by show YN (LX .nil 0 e.h0).get e.args;rw[Db];exact hW0)).2 w0 _ w (by show HR w0 _ (LX .nil 0 e.h0).get w;rw[Db];exact H0) (hG w0 p _ hg);rw[hargs]at hc;refine⟨⟨by rw[hn];exact Nat.le_add_right _ _,fun k C hC=>?_,fun c hcn ho=>?_⟩,hc.mono fun e' w' hp=>?_⟩
   ·obtain⟨C',h2,h3⟩:=A.grow k C hC;exact⟨C',h2,by rw[h3];exact List.prefix_refl _⟩
   ·cases hC:st'.h.get c with
    |none=>rfl
    |some C=>
     exfalso
     by_cases hk:c<st.n
     ·rcases A.old c C hk hC with⟨h,_⟩|⟨_,_,_,_,_,_,_,h,_⟩
      ·rw[hcn]at h;cases h
      ·rw[hcn]at h;cases h
     ·obtain⟨i,rfl,hi⟩:=A.out c C Qk hC;omega
   ·obtain⟨p1,rfl,S,_⟩:=hp;obtain⟨h1,h2⟩:=push hf H hA1 hA2 k7 S A;have hev:=OU _ _ k1;refine⟨_,?_,h1,by rw[hv];exact(h2 e.v k10).1⟩;rw[hv,(h2 e.v k10).2];exact congrArg (fun x=>Ending.returned (Qe p1 x)) hev.symm
  ·cases hgood
 ·cases hs
end
section
set_option maxHeartbeats 8000000

def uS(l:List (List Nat)):List (List AV):=l.map fun s=>[AV.str s]
theorem Cn(l:List (List Nat)):(uS l).length=l.length:=by simp[uS]
theorem vS(a b:List (List Nat)):uS (a++b)=uS a++uS b:=by simp[uS]
end
section
variable {st:St}

def aI:List (List Nat):=[[117,110,105,111,110],[105,110,116,101,114],[109,105,110,117,115],[97,110,100],[111,114],[105,109,112],[105,102,102],[101,113],[110,101],[108,116],[108,101],[105,110],[110,111,116,105,110],[115,117,98]]
noncomputable section
def Mj:List Na:=aI.map fun o=>⟨[.str o],[],[],none,.str (Pc.tx (Vs o)),[]⟩
def yi:List (FuncId×(List AV→St→Option (AV×St))):=
 (73,KJ Mj)::
 (39,qO PX)::
 (18,I0)::
 []
def HV:Env:=⟨fun _=>false,LG LQ,WO yi,fun _=>True⟩
end
theorem Cv:(Mj.all fun e=>e.Xc Tryz.prog iM 100 100 73)=true:=by decide+kernel
theorem MV:WT Tryz.prog HV:=⟨fun f q h=>EF (f,q) (Wb h),fun f sm h=>by
 have h:WO yi f=some sm:=h;have h:=FF h;unfold yi at h;rcases List.mem_cons.1 h with h|h
 ·injection h with e1 e2;subst e1 e2
  exact F6 (G0:=iM) ⟨_,Tryz.func73,rfl,by decide+kernel⟩ (fun w0 p q _=>⟨fun g hg=>(by cases hg),trivial⟩) eL mixed fun e he=>⟨_,_,List.all_eq_true.1 Cv e he⟩
 rcases List.mem_cons.1 h with h|h
 ·injection h with e1 e2;subst e1 e2;exact xk
 rcases List.mem_cons.1 h with h|h
 ·injection h with e1 e2;subst e1 e2;exact xi
 cases h⟩
theorem yx(hf:Q3 st){o:List Nat}(ho:o∈aI): ∃v st',Ev Tryz.prog HV 73 [.str o] st v st'∧v=.str (Pc.tx (Vs o))∧Qt st st':=by
 have h: ∀o∈aI,U9 Tryz.prog HV 0 1 73 [.str o] st=some (.str (Pc.tx (Vs o)),st):=by
  intro o ho;simp only[aI,List.mem_cons,List.not_mem_nil,or_false]at ho
  rcases ho with rfl|rfl|rfl|rfl|rfl|rfl|rfl|rfl|rfl|rfl|rfl|rfl|rfl|rfl<;>rfl
 exact⟨_,st,⟨0,1,h o ho⟩,rfl,Qt.refl hf⟩
theorem Fe(hf:Q3 st){z:Int}(h0:0≤z)(h9:z≤99): ∃v st',Ev Tryz.prog HV 39 [.int .i64 z] st v st'∧v=.str (U4 z.toNat)∧Qt st st':=
 ⟨_,st,MN (F:=PX) rfl (by rw[PX,if_pos ⟨h0,h9⟩]),rfl,Qt.refl hf⟩
theorem xj(hf:Q3 st){n0:Nat}{A:List (Nat×Nat×List AV)}{ks:AV}{xs:List (List Nat)}{sep:List Nat}(hA:Acc n0 1 A ks (uS xs))(hr: ∀x∈A,J5 st.h.get x.1 x.2.1 x.2.2)(hl:xs.length≤1000000)(hj:(Ze sep xs).length≤140737488355328):
  ∃v st',Ev Tryz.prog HV 18 [ks,.str sep] st v st'∧v=.str (Ze sep xs)∧Qt st st':=by
 have hev: ∀v,I0 [ks,.str sep] st=some (v,st)→Ev Tryz.prog HV 18 [ks,.str sep] st v st:=fun v h=>⟨0,1,h⟩;refine⟨_,st,hev (.str (Ze sep xs)) ?_,rfl,Qt.refl hf⟩;generalize hL:uS xs=L at hA
 cases hA with
 |none=>
  have:xs=[]:=by
   have:=congrArg List.length hL;rw[Cn]at this;exact List.length_eq_zero_iff.1 this
  subst this;rfl
 |own hc hz hb=>
  rename_i c;obtain⟨vs,ms,h1,h2⟩:=hr _ (List.mem_singleton.2 rfl)
  have hlen:L.length=xs.length:=by rw[←hL,Cn]
  have hfl:L.flatten=xs.map AV.str:=by
   rw[←hL,uS];clear hL hr hz hb h1 h2 hlen hj hl hev
   induction xs with
   |nil=>rfl
   |cons x l ih=>
    rw[List.map_cons,List.flatten_cons,ih];rfl
  have ht:Lp (L.flatten.take L.length)=some xs:=by
   rw[hfl,hlen,List.take_of_length_le (by rw[List.length_map];exact Nat.le_refl _),GU]
  unfold I0;simp only[h1,h2,ht];rw[if_pos ⟨hlen.symm,by omega,hj⟩]
theorem IW(sep:List Nat)(l:List (List Pc))(hs:sep=[44,32]):Ze sep (l.map QQ)=QQ (UF l):=by
 subst hs
 induction l with
 |nil=>rfl
 |cons p l ih=>
  cases l with
  |nil=>rfl
  |cons q l=>
   rw[List.map_cons,List.map_cons,Ze,UF,JR,Qz,Qz];rw[List.map_cons]at ih;rw[ih];rfl
end
end Go.Proofs.YthjgndgnmkiaiaaGreatDoor
