/-
  Several texts in one: XLift, XOpen, XSymH, XSum, XSymI.
-/
import Derived.WalkKit
import Derived.Test.YtadjjadimlkkgaaGreatDoorLoSy1
import Derived.Test.YtadjjadimlkkgaaGreatDoorProg
import Derived.Lib.DecodeN
import Derived.Laws.RangeAny
set_option maxRecDepth 100000
set_option linter.unusedSimpArgs false
set_option linter.unusedVariables false
section
section

namespace Go.Proofs.YtadjjadimlkkgaaGreatDoor
open Go Go.RowKit

def Xf(h:Hp)(c m:Nat)(l:List AV):Prop:= ∃ro e vs ms,h c=some (.row ro ms)∧ms[m]? =some (e,vs,some l)
def FG(h h':Hp):Prop:= ∀c m l,Xf h c m l→Xf h' c m l
abbrev jA:=List (Pl×List AV)
def y8(ml:jA):JJ:=fun c m=>if c=0 then(ml[m]?).map Prod.fst else none
def Tm(ml:jA):Ix:=.row true (ml.map fun x=>(x.2.length,x.1.d,some x.2))
def zy(ml:jA):Hp:=fun c=>if c=0 then some (Tm ml)else none
theorem M8(ml:jA)(m:Nat):y8 ml 0 m=(ml[m]?).map Prod.fst:=if_pos rfl
theorem Tb(ml:jA):exts (Tm ml)=ml.map fun x=>x.2.length:=by
 simp[exts,Tm,Function.comp_def]
section
variable {P:Program} {H:Type} {enc:TypeId×Value→H} {W:World}
def G1(W:World)(ml:jA):Prop:= ∀(m:Nat) (q:Pl) (l:List AV),ml[m]? =some (q,l)→ ∃(arr:Array Value) (el:TypeId) (fr:Nat×Nat),W.heap[q.b]? =some (.cells arr el fr)∧q.d+q.e≤arr.size∧l.length≤q.e∧
 ∀j v,l[j]? =some v→arr[q.d+j]? =some (Ql (y8 ml) v)∧WF (zy ml) v∧Jy v=true
theorem G1.nil:G1 W []:=fun m q l h=>by simp at h
theorem G1.hr{ml:jA}(h:G1 W ml):HR W (y8 ml) (zy ml) W:=by
 have hdom: ∀c m x,y8 ml c m=some x→c=0∧ ∃l,ml[m]? =some (x,l):=by
  intro c m x hx;unfold y8 at hx
  split at hx
  ·rename_i hc
   cases hm:ml[m]? with
   |none=>rw[hm]at hx;cases hx
   |some y=>rw[hm]at hx;injection hx with hx;subst hx;exact⟨hc,y.2,rfl⟩
  ·cases hx
 refine⟨rfl,rfl,rfl,Nat.le_refl _,fun _ _=>rfl,fun c m x hx=>?_,fun c m x hx=>?_,fun c m x c' m' x' hx hx' _=>?_,fun c C hC=>?_⟩
 ·obtain⟨rfl,l,hm⟩:=hdom c m x hx;exact⟨Tm ml,if_pos rfl,by rw[Tb,List.length_map];exact(List.getElem?_eq_some_iff.1 hm).1⟩
 ·obtain⟨rfl,l,hm⟩:=hdom c m x hx;obtain⟨arr,el,fr,h1,_⟩:=h m x l hm;exact(Array.getElem?_eq_some_iff.1 h1).1
 ·rw[(hdom c m x hx).1,(hdom c' m' x' hx').1]
 ·unfold zy at hC
  split at hC
  ·rename_i hc0
   injection hC with hC
   subst hC hc0;refine⟨fun m e vs cs hm=>?_,fun m e vs cs m' e' vs' cs' q q' hm hm' hq hq' hb=>?_⟩
   ·rw[List.getElem?_map]at hm
    cases hx:ml[m]? with
    |none=>rw[hx]at hm;cases hm
    |some y=>
     rw[hx]at hm;simp only[Option.map_some,Option.some.injEq,Prod.mk.injEq]at hm;obtain⟨rfl,rfl,rfl⟩:=hm;obtain⟨q,l⟩:=y;obtain⟨arr,el,fr,h1,h2,h3,h4⟩:=h m q l hx;refine⟨q,arr,el,by rw[M8,hx];rfl,⟨fr,h1,fun e=>nomatch e⟩,h2,h3,fun e=>(nomatch e),fun l' hl'=>?_⟩
     injection hl' with hl'
     subst hl';exact⟨rfl,h4⟩
   ·rw[List.getElem?_map]at hm hm';rw[M8]at hq hq'
    cases hx:ml[m]? with
    |none=>rw[hx]at hq;cases hq
    |some y=>
     cases hx':ml[m']? with
     |none=>rw[hx']at hq';cases hq'
     |some y'=>
      rw[hx]at hm hq;rw[hx']at hm' hq';simp only[Option.map_some,Option.some.injEq,Prod.mk.injEq]at hm hm' hq hq';obtain⟨_,rfl,_⟩:=hm;obtain⟨_,rfl,_⟩:=hm';subst hq hq';omega
  ·cases hC

theorem CC{α:Type}{z:Nat}(hz:0<z): ∀(css:List (List α)),(∀c∈css,c.length=z)→ ∀j,css.flatten[j]? =(css[j/z]?).bind fun c=>c[j % z]? :=by
 intro css
 induction css with
 |nil=>intro _ j;simp
 |cons c css ih=>
  intro h j;have hc:=h c (List.mem_cons_self ..);rw[List.flatten_cons,List.getElem?_append]
  by_cases hj:j<z
  ·rw[if_pos (by omega),Nat.div_eq_of_lt hj,Nat.mod_eq_of_lt hj];rfl
  ·rw[if_neg (by omega),ih (fun c hc=>h c (List.mem_cons_of_mem _ hc)),hc]
   have e1:j/z=(j-z)/z+1:=by
    conv=>lhs;rw[show j=(j-z)+z by omega]
    exact Nat.add_div_right _ hz
   have e2:j % z=(j-z) % z:=by
    conv=>lhs;rw[show j=(j-z)+z by omega]
    exact Nat.add_mod_right _ _
   rw[e1,e2];rfl
end
end Go.Proofs.YtadjjadimlkkgaaGreatDoor
end

section

namespace Go.Proofs.YtadjjadimlkkgaaGreatDoor
open Go Go.RowKit

noncomputable section
def stM(ml:jA):St:=⟨1,Tr.nil.set 0 (Tm ml)⟩
end
theorem GF(ml:jA):(stM ml).h.get=zy ml:=by
 funext c
 show(Tr.nil.set 0 (Tm ml)).get c=_;rw[Tr.AF];unfold zy
 split
 ·rfl
 ·rw[Tr.get_nil]
theorem OL(ml:jA):Q6 (stM ml):=fun c hc=>by
 rw[GF];have hc:1≤c:=hc;unfold zy;rw[if_neg (by omega)]
variable {P:Program} {G:Env} {W:World}
theorem S0(hG0: ∀g,G.g g=false)(hE:Ll P G)(hm:P.follows .mixedOrders=true){f:FuncId}{args:List AV}{ml:jA}(hM:G1 W ml)(hw:ZL (zy ml) args)
  (h: ∃v st',Ev P G f args (stM ml) v st'∧v=.bool true) (hi:G.i W:=by trivial):Calls P f (Q7 (y8 ml) args).toArray W fun e w'=>e=.returned (.bool true)∧Below W.heap.size W w':=by
 obtain⟨v,st',⟨L,n,h⟩,rfl⟩:=h;have hc:=((Bu (Bm hm) hE L n f args (stM ml) (.bool true) st' h (OL ml) (by rw[GF];exact hw)).2 W (y8 ml) W (by rw[GF];exact hM.hr) ⟨fun g hg=>(by rw[hG0]at hg;cases hg),hi⟩).2;refine hc.mono fun e w'=>?_
 rintro⟨p',rfl,hs,_⟩
 exact⟨rfl,hs.hr.os,hs.hr.tape,hs.hr.output,hs.hr.size,hs.hr.old⟩
end Go.Proofs.YtadjjadimlkkgaaGreatDoor
end

section

namespace Go.Proofs.YtadjjadimlkkgaaGreatDoor
open Go

def JA(h:Hp)(c m:Nat)(l:List AV):Prop:= ∃vs ms,h c=some (.row false ms)∧ms[m]? =some (l.length,vs,some l)
structure Ag(X:List Nat)(st st':St):Prop where
 fresh:Q6 st'
 le:st.n≤st'.n
 old: ∀c,c<st.n→c∉X→st'.h.get c=st.h.get c
theorem Qt.U7{st st':St}(q:Qt st st')(X:List Nat):Ag X st st':=⟨q.fresh,q.le,fun c hc _=>q.old c hc⟩
theorem JA.lt{st:St}(hf:Q6 st){c m:Nat}{l:List AV}(r:JA st.h.get c m l):c<st.n:=by
 obtain⟨vs,ms,h1,h2⟩:=r
 exact Nat.lt_of_not_le fun hle=>by rw[hf c hle]at h1;cases h1
theorem JA.Xg{h:Hp}{c m:Nat}{l:List AV}(r:JA h c m l):Xf h c m l:=by
 obtain⟨vs,ms,h1,h2⟩:=r;exact⟨false,_,vs,ms,h1,h2⟩
theorem JA.U7{X:List Nat}{st st':St}(hf:Q6 st)(q:Ag X st st'){c m:Nat}{l:List AV}(r:JA st.h.get c m l)(hc:c∉X):JA st'.h.get c m l:=by
 have hlt:=r.lt hf;obtain⟨vs,ms,h1,h2⟩:=r;exact⟨vs,ms,by rw[q.old c hlt hc];exact h1,h2⟩
theorem Xf.lt{st:St}(hf:Q6 st){c m:Nat}{l:List AV}(r:Xf st.h.get c m l):c<st.n:=by
 obtain⟨ro,e,vs,ms,h1,h2⟩:=r
 exact Nat.lt_of_not_le fun hle=>by rw[hf c hle]at h1;cases h1
theorem Xf.U7{X:List Nat}{st st':St}(hf:Q6 st)(q:Ag X st st'){c m:Nat}{l:List AV}(r:Xf st.h.get c m l)(hc:c∉X):Xf st'.h.get c m l:=by
 have hlt:=r.lt hf;obtain⟨ro,e,vs,ms,h1,h2⟩:=r;exact⟨ro,e,vs,ms,by rw[q.old c hlt hc];exact h1,h2⟩
section
variable {P:Program} {G:Env} {N:Nat} {h0:Hp} {n0:Nat} {X:List Nat} {st:St} {M:List (Nat×Nat×List AV)}
theorem Mem.Mh{st:St}(hf:Q6 st)(M:List (Nat×Nat×List AV))(hr: ∀c m l,(c,m,l)∈M→JA st.h.get c m l)(hn:(M.map Prod.fst).Nodup):Mem st.h.get st.n (M.map Prod.fst) st M:=
 ⟨hf,Nat.le_refl _,hf,hr,fun c m l h=>(hr c m l h).lt hf,fun c m l h=>.inr (List.mem_map.2 ⟨_,h,rfl⟩),hn,fun _ _ _=>rfl⟩
theorem Mem.UP{st:St}(hf:Q6 st){c m:Nat}{l:List AV}(r:JA st.h.get c m l):Mem st.h.get st.n [c] st [(c,m,l)]:=
 Mem.Mh hf [(c,m,l)] (fun c' m' l' h=>by simp at h;obtain⟨rfl,rfl,rfl⟩:=h;exact r) (by simp)
theorem Mem.U7{st0:St}(h:Mem st0.h.get st0.n X st M):Ag X st0 st:=⟨h.fresh,h.le,h.old⟩
theorem Mem.Qp(h:Mem h0 n0 X st M){k c m:Nat}{l:List AV}(hk:M[k]? =some (c,m,l)):JA st.h.get c m l:=h.row c m l (List.mem_of_getElem? hk)
theorem Mem.Ar(h:Mem h0 n0 X st M){c m:Nat}{l:List AV}(hx:c∉X)(r:Xf h0 c m l):Xf st.h.get c m l:=by
 obtain⟨ro,e,vs,ms,h1,h2⟩:=r
 have hc:c<n0:=Nat.lt_of_not_le fun hle=>by rw[h.base c hle]at h1;cases h1
 exact⟨ro,e,vs,ms,by rw[h.old c hc hx];exact h1,h2⟩
theorem Mem.CZ(h:Mem h0 n0 X st M){Y:List Nat}{st':St}(q:Ag Y st st')(hY: ∀c∈Y,∃m l,(c,m,l)∈M){M':List (Nat×Nat×List AV)}(hn:(M'.map Prod.fst).Nodup)
  (hM: ∀c m l,(c,m,l)∈M'→((c,m,l)∈M∧c∉Y)∨(JA st'.h.get c m l∧((∃m l,(c,m,l)∈M)∨st.n≤c))):Mem h0 n0 X st' M':=by
 have hrow: ∀c m l,(c,m,l)∈M'→JA st'.h.get c m l:=fun c m l hm=>by
  rcases hM c m l hm with⟨h1,h2⟩|⟨h1,_⟩
  ·exact JA.U7 h.fresh q (h.row c m l h1) h2
  ·exact h1
 refine⟨q.fresh,Nat.le_trans h.le q.le,h.base,hrow,fun c m l hm=>(hrow c m l hm).lt q.fresh,fun c m l hm=>?_,hn,fun c hc hx=>?_⟩
 ·rcases hM c m l hm with⟨h1,_⟩|⟨_,⟨m',l',h1⟩|h1⟩
  ·exact h.own c m l h1
  ·exact h.own c m' l' h1
  ·exact .inl (Nat.le_trans h.le h1)
 ·rw[q.old c (Nat.lt_of_lt_of_le hc h.le) fun hcY=>?_]
  ·exact h.old c hc hx
  ·obtain⟨m,l,hm⟩:=hY c hcY;rcases h.own c m l hm with h1|h1
   ·omega
   ·exact hx h1
theorem Mem.JP(h:Mem h0 n0 X st M){k c m m':Nat}{l l':List AV}{st':St}(hk:M[k]? =some (c,m,l))(q:Ag [c] st st')(r:JA st'.h.get c m' l'):Mem h0 n0 X st' (M.set k (c,m',l')):=by
 have hm0:=List.mem_of_getElem? hk
 have hfst:(M.set k (c,m',l')).map Prod.fst=M.map Prod.fst:=by
  apply List.ext_getElem?;intro i;rw[List.getElem?_map,List.getElem?_map,List.getElem?_set]
  by_cases h:k=i
  ·subst h;rw[if_pos rfl,hk];have:=(List.getElem?_eq_some_iff.1 hk).1;simp[this]
  ·rw[if_neg h]
 refine h.CZ q (fun c' hc=>?_) (by rw[hfst];exact h.nodup) fun c1 m1 l1 hm=>?_
 ·rw[List.mem_singleton]at hc;subst hc;exact⟨m,l,hm0⟩
 ·obtain⟨i,hi⟩:=List.getElem?_of_mem hm;rw[List.getElem?_set]at hi
  by_cases hki:k=i
  ·subst hki;have:=(List.getElem?_eq_some_iff.1 hk).1;simp[this]at hi;obtain⟨rfl,rfl,rfl⟩:=hi;exact .inr ⟨r,.inl ⟨m,l,hm0⟩⟩
  ·rw[if_neg hki]at hi;refine .inl ⟨List.mem_of_getElem? hi,fun e=>hki ?_⟩;rw[List.mem_singleton]at e
   have h1:(M.map Prod.fst)[k]? =some c:=by rw[List.getElem?_map,hk];rfl
   have h2:(M.map Prod.fst)[i]? =some c:=by rw[List.getElem?_map,hi];simp[e]
   exact(List.getElem?_inj (List.getElem?_eq_some_iff.1 h1).1 h.nodup).1 (h1.trans h2.symm)
theorem Mem.Vl(h:Mem h0 n0 X st M){c m:Nat}{l:List AV}{st':St}(q:Qt st st')(r:JA st'.h.get c m l)(hc:st.n≤c):Mem h0 n0 X st' ((c,m,l)::M):=by
 refine h.CZ (q.U7 []) (fun c' hc=>by simp at hc) ?_ fun c1 m1 l1 hm=>?_
 ·rw[List.map_cons];refine List.nodup_cons.2 ⟨fun hm=>?_,h.nodup⟩;obtain⟨⟨c',m',l'⟩,h1,h2⟩:=List.mem_map.1 hm;have:=h.lt c' m' l' h1;simp only at h2;omega
 ·rcases List.mem_cons.1 hm with e|hm
  ·injection e with e1 e2
   injection e2 with e2 e3
   subst e1 e2 e3;exact .inr ⟨r,.inr hc⟩
  ·exact .inl ⟨hm,by simp⟩

structure Iw(P:Program)(t e:TypeId)(z:Nat):Prop where
 u:P.underlying t=some (.slice e)
 s:(P.underlying e).isSome=true
 zc: ∃zc,zeroOf P e=some zc∧zc.length=z
 c:P.cellsOf e=z
 p:1≤z
 b:P.bytesOf e≤1000000
theorem Vz{α β:Type}: ∀(n:Nat) (l:List α) (k:List α→Option β),n≤l.length→AN n l k=k (l.take n):=by
 intro n
 induction n with
 |zero=>intro l k _;rfl
 |succ n ih=>
  intro l k hl
  cases l with
  |nil=>simp at hl
  |cons a l=>exact ih l _ (by simpa using hl)
theorem Xf.rowOf{h:Hp}{c m:Nat}{l:List AV}(r:Xf h c m l): ∃e vs ro ms,rowOf h c m=some (e,vs,l,ro,ms):=by
 obtain⟨ro,e,vs,ms,h1,h2⟩:=r;refine⟨e,vs,ro,ms,?_⟩;unfold Proofs.YtadjjadimlkkgaaGreatDoor.rowOf;rw[h1,QD];show ob (nth ms m) _=_;rw[Y2,h2];rfl
theorem Vm{t e:TypeId}{z:Nat}(T:Iw P t e z){s:AV}{c2 m2 off2 n z2:Nat}{l2:List AV}(hr2:Xf st.h.get c2 m2 l2)(hle:off2+n *z≤l2.length): ∃e2 vs2 ro2 ms2,
  YG P [t,t] s (.sl c2 m2 off2 n z2) st=(match s with
   |.nils=>Qu (Nat.beq n 0) (some (.nils,st)) (Js (Nat.ble n 1000000) (Fq ((l2.drop off2).take (n *z)) st fun _ c st=>Yq (P.cellsOf e) fun z=>some (.sl c 0 0 n z,st)))
   |.sl c m off len esz=>Js (Nat.beq esz (P.cellsOf e)) (ob (rowOf st.h.get c m) fun r=>Js (!r.2.2.2.1) (Yq (len *esz) fun lz=>AN lz (Aa off r.2.2.1) fun olds=>
    Qu (Nat.beq n 0) (some (s,st)) (Js (Nat.ble (len+n) 1000000) (Vt (XI olds ((l2.drop off2).take (n *z))) fun l=>Yq (Xh l) fun k=>Yq (r.2.1+off) fun vs=>
     Vt (XI (Xr (vs+lz) (vs+lz+n *z) r.2.2.2.2) [(k,vs,some l)]) fun ms=>Wo st c (.row false ms) fun st=>Yq (Xh r.2.2.2.2) fun m'=>Yq (len+n) fun len'=>some (.sl c m' 0 len' esz,st)))))
   |_=>none)∧rowOf st.h.get c2 m2=some (e2,vs2,l2,ro2,ms2):=by
 obtain⟨e2,vs2,ro2,ms2,h2⟩:=hr2.rowOf;refine⟨e2,vs2,ro2,ms2,?_,h2⟩;obtain⟨zc,hz,hzl⟩:=T.zc;unfold YG;have hz1:=T.p;simp only[Nat.beq_refl,JW,T.u,T.s,hz,QD,U6,hzl,T.c,Nat.ble_eq_true_of_le T.p,Nat.ble_eq_true_of_le T.b,h2,JL];rw[Vz _ _ _ (by rw[UE,List.length_drop];omega),UE]
 cases s<;>simp only[JL,U6,UC,T.c]
theorem append_nil{t e:TypeId}{z:Nat}(T:Iw P t e z){c2 m2 off2 n z2:Nat}{l2:List AV}(hr2:Xf st.h.get c2 m2 l2)(hle:off2+n *z≤l2.length)(hn:0<n)(hb:n≤1000000):
  YG P [t,t] .nils (.sl c2 m2 off2 n z2) st=some (.sl st.n 0 0 n z,⟨st.n+1,st.h.set st.n (.row false [(((l2.drop off2).take (n *z)).length,0,some ((l2.drop off2).take (n *z)))])⟩):=by
 obtain⟨_,_,_,_,h,_⟩:=Vm T (s:=.nils) (z2:=z2) hr2 hle;rw[h];have h0:Nat.beq n 0=false:=PG (by omega);simp only[h0,QX,Nat.ble_eq_true_of_le hb,JW,Z6,JL,T.c]
theorem Mem.append(hM:Mem h0 n0 X st M){t e:TypeId}{z:Nat}(T:Iw P t e z){k c m len c2 m2 off2 n z2:Nat}{l l2:List AV}(hk:M[k]? =some (c,m,l))(hl:l.length=len *z)(hr2:Xf st.h.get c2 m2 l2)(hle:off2+n *z≤l2.length)(hn:0<n)(hb:len+n≤1000000):
  ∃m' st1,YG P [t,t] (.sl c m 0 len z) (.sl c2 m2 off2 n z2) st=some (.sl c m' 0 (len+n) z,st1)∧Mem h0 n0 X st1 (M.set k (c,m',l++(l2.drop off2).take (n *z)))∧st1.n=st.n:=by
 obtain⟨_,_,_,_,h,_⟩:=Vm T (s:=.sl c m 0 len z) (z2:=z2) hr2 hle;have hm0:=List.mem_of_getElem? hk;obtain⟨vs,ms,h1,h2⟩:=hM.row c m l hm0
 have hr:rowOf st.h.get c m=some (l.length,vs,l,false,ms):=by
  unfold rowOf;rw[h1,QD];show ob (nth ms m) _=_;rw[Y2,h2];rfl
 have hbeq:Nat.beq n 0=false:=PG (by omega);have hml:=(List.getElem?_eq_some_iff.1 h2).1;refine⟨ms.length,⟨st.n,st.h.set c (.row false (Xr (vs+len *z) (vs+len *z+n *z) ms++[((l++(l2.drop off2).take (n *z)).length,vs,some (l++(l2.drop off2).take (n *z)))]))⟩,?_,?_,rfl⟩
 ·rw[h];simp only[T.c,Nat.beq_refl,JW,hr,QD,Bool.not_false,JL];rw[Vz _ _ _ (by rw[UE,List.drop_zero];omega),UE,List.drop_zero,List.take_of_length_le (by omega)];simp only[hbeq,QX,Nat.ble_eq_true_of_le hb,JW,JL,UC,U6,ZR,YV,Nat.add_zero]
 ·have hg: ∀x C,(st.h.set c C).get x=if x=c then some C else st.h.get x:=fun x C=>Tr.AF _ _ _ _
  refine hM.JP hk ⟨fun x hx=>?_,Nat.le_refl _,fun x hx hX=>?_⟩ ⟨vs,_,(hg _ _).trans (if_pos rfl),?_⟩
  ·show(st.h.set c _).get x=none;have:=hM.lt c m l hm0;have hx:st.n≤x:=hx;rw[hg,if_neg (by omega)];exact hM.fresh x hx
  ·show(st.h.set c _).get x=_;rw[hg,if_neg (by simpa using hX)]
  ·rw[List.getElem?_append_right (by rw[Uf];exact Nat.le_refl _),Uf,Nat.sub_self];rfl
variable {K:List (Nat×AV)}
theorem V2{x y:Operand}{tys:Array TypeId}{t:TypeId}{u w v:AV}{st1:St}(ht:tys= #[t,t])(hx:JS G K x=some u)(hy:JS G K y=some w)(h:YG P [t,t] u w st=some (v,st1)):ZP P G K (.call {callee:=.builtin .append,args:= #[x,y],argTypes:=tys}) st v st1:=.of fun T hT c d ty pos af g=>by
 subst ht;show(ob (QR G T x) fun a=>ob (QR G T y) fun b=>YG P [t,t] a b st)=_;rw[hT.QR hx,hT.QR hy,QD,QD,h]
theorem Dl{t e:TypeId}{z:Nat}(T:Iw P t e z){s x:AV}(hs:(match s with|.nils=>true|.sl _ _ _ _ _=>true|_=>false)=true)(hx:(match x with|.nils=>true|.sl0 _ _ _=>true|.slz _ _ _ _ _=>true|_=>false)=true):YG P [t,t] s x st=some (s,st):=by
 obtain⟨zc,hz,hzl⟩:=T.zc;unfold YG;simp only[Nat.beq_refl,JW,T.u,T.s,hz,QD,U6,hzl,T.c,Nat.ble_eq_true_of_le T.p,Nat.ble_eq_true_of_le T.b]
 cases x<;>first
  |(cases hx;done)
  |(cases s<;>first|rfl|(cases hs;done))
theorem Bz{t e:TypeId}{z:Nat}(T:Iw P t e z){c2 m2 off2 z2:Nat}{l2:List AV}(hr2:Xf st.h.get c2 m2 l2)(hle:off2≤l2.length):YG P [t,t] .nils (.sl c2 m2 off2 0 z2) st=some (.nils,st):=by
 obtain⟨_,_,_,_,h,_⟩:=Vm T (s:=.nils) (n:=0) (z2:=z2) hr2 (by simpa using hle);rw[h];rfl
theorem By{t e:TypeId}{z:Nat}(T:Iw P t e z){c m len:Nat}{l:List AV}(hr:JA st.h.get c m l)(hl:l.length=len *z){c2 m2 off2 z2:Nat}{l2:List AV}(hr2:Xf st.h.get c2 m2 l2)(hle:off2≤l2.length):YG P [t,t] (.sl c m 0 len z) (.sl c2 m2 off2 0 z2) st=some (.sl c m 0 len z,st):=by
 obtain⟨_,_,_,_,h,_⟩:=Vm T (s:=.sl c m 0 len z) (n:=0) (z2:=z2) hr2 (by simpa using hle);rw[h];obtain⟨vs,ms,h1,h2⟩:=hr
 have hr:rowOf st.h.get c m=some (l.length,vs,l,false,ms):=by
  unfold rowOf;rw[h1,QD];show ob (nth ms m) _=_;rw[Y2,h2];rfl
 simp only[T.c,Nat.beq_refl,JW,hr,QD,Bool.not_false,JL];rw[Vz _ _ _ (by rw[UE,List.drop_zero];omega)];rfl

theorem Jm.parts{T:Tr AV}(h:Jm K T){parts:Array (Nat×Operand)}{ps:List (Nat×AV)}(hp:Ve (JS G K) parts=some ps):Ve (Proofs.YtadjjadimlkkgaaGreatDoor.QR G T) parts=some ps:=by
 unfold Ve at hp ⊢;generalize parts.toList=l at hp ⊢
 induction l generalizing ps with
 |nil=>exact hp
 |cons x l ih=>
  rw[Up]at hp ⊢;obtain⟨b,hb,hp⟩:=Qw hp;obtain⟨t,ht,hp⟩:=Qw hp;obtain⟨v,hv,hb⟩:=Qw hb;rw[h.QR hv,QD,QD,ih ht,QD]
  injection hb with hb
  subst hb;exact hp
structure TB(P:Program)(t:TypeId)(tbl:List (Nat×Nat))(z:List AV):Prop where
 u: ∃fs,P.underlying t=some (.struct fs)∧Lc P fs=true∧fs.toList.map (fun f=>(f.offset,P.cellsOf f.type))=tbl
 z:zeroOf P t=some z
theorem Sq(fs:Array Field)(tbl:List (Nat×Nat))(h:fs.toList.map (fun f=>(f.offset,P.cellsOf f.type))=tbl):Nj P fs=nth tbl:=by
 funext i
 subst h;unfold Nj;rw[Y2,Y2,List.getElem?_map]
 cases fs.toList[i]? <;>rfl
theorem Qz{t:TypeId}{parts:Array (Nat×Operand)}{tbl:List (Nat×Nat)}{z r:List AV}{ps:List (Nat×AV)}(S:TB P t tbl z)(hp:Ve (JS G K) parts=some ps)(hf:WW (nth tbl) ps z=some r):ZP P G K (.build t parts) st (.agg r) st:=.of fun T hT c d ty pos af g=>by
 show ret (ED P t parts (QR G T)) st=_;obtain⟨fs,u,ft,hb⟩:=S.u;unfold ED;simp only[u,ft,JW,S.z,QD,hT.parts hp,Sq fs tbl hb,hf,UC];rfl
theorem Hn{t e:TypeId}{len z:Nat}{parts:Array (Nat×Operand)}{zc r:List AV}{ps:List (Nat×AV)}(T:Iw P t e z)(hz:zeroOf P e=some zc)(hp:Ve (JS G K) parts=some ps)(hf:WW (fun i=>some (i *z,z)) ps (Ez len zc)=some r)(hc:EF Jy r=true)(hb:len *z≤16777216)(hM:Mem h0 n0 X st M):
  ∃c st1,ZP P G K (.buildSlice t len parts) st (.sl c 0 0 len z) st1∧Mem h0 n0 X st1 ((c,0,r)::M):=by
 refine⟨st.n,_,.of fun T' hT c d ty pos af g=>?_,hM.alloc r⟩;show XS P t len parts (QR G T') st=_;obtain⟨zc',h1,h2⟩:=T.zc;rw[hz]at h1
 injection h1 with h1
 subst h1;unfold XS;simp only[T.u,T.s,JW,hz,QD,U6,h2,T.c,Nat.beq_refl,Nat.ble_eq_true_of_le T.p,Nat.ble_eq_true_of_le hb,hT.parts hp,hf,hc,Z6,JL]

theorem Jm.lo{T:Tr AV}(h:Jm K T){lo:Option Operand}{a:Nat}(hl:ZI (JS G K) lo=some a):ZI (Proofs.YtadjjadimlkkgaaGreatDoor.QR G T) lo=some a:=by
 cases lo with
 |none=>exact hl
 |some x=>
  have hl:(ob (JS G K x) fun v=>match v with
   |.int _ i=>Ly i
   |_=>none)=some a:=hl
  obtain⟨v,hv,hl⟩:=Qw hl
  show(ob (Proofs.YtadjjadimlkkgaaGreatDoor.QR G T x) fun v=>match v with
   |.int _ i=>Ly i
   |_=>none)=some a
  rw[h.QR hv,QD];exact hl
theorem Jm.hi{T:Tr AV}(h:Jm K T){hi:Option Operand}{n a:Nat}(hl:Zz (JS G K) hi n=some a):Zz (Proofs.YtadjjadimlkkgaaGreatDoor.QR G T) hi n=some a:=by
 cases hi with
 |none=>exact hl
 |some x=>
  have hl:(ob (JS G K x) fun v=>match v with
   |.int _ i=>Ly i
   |_=>none)=some a:=hl
  obtain⟨v,hv,hl⟩:=Qw hl
  show(ob (Proofs.YtadjjadimlkkgaaGreatDoor.QR G T x) fun v=>match v with
   |.int _ i=>Ly i
   |_=>none)=some a
  rw[h.QR hv,QD];exact hl
theorem Sv{t:TypeId}{x:Operand}{lo hi:Option Operand}{l:List Nat}{a b:Nat}(ht:P.underlying t=some .string)(hx:JS G K x=some (.str l))(hl:ZI (JS G K) lo=some a)(hh:Zz (JS G K) hi l.length=some b)(h1:a≤b)(h2:b≤l.length):
  ZP P G K (.slice t x lo hi none) st (.str ((l.drop a).take (b-a))) st:=Np hx fun T hT=>by
 unfold WA;simp only[ht,JL,U6,hT.lo hl,hT.hi hh,QD,Nat.ble_eq_true_of_le h1,Nat.ble_eq_true_of_le h2,JW];rw[Vz _ _ _ (by rw[UE,List.length_drop];omega),UE]
theorem FP{t:TypeId}{x:Operand}{lo hi:Option Operand}{c m off len z a b:Nat}(he:Uz P t=some z)(hx:JS G K x=some (.sl c m off len z))(hl:ZI (JS G K) lo=some a)(hh:Zz (JS G K) hi len=some b)(h1:a≤b)(h2:b≤len):
  ZP P G K (.slice t x lo hi none) st (Qu (Qu (Nat.beq a 0) true (Nat.ble (a+1) len)) (.sl c m (off+a *z) (b-a) z) (.slz c m off a z)) st:=Np hx fun T hT=>by
 unfold WA;simp only[he,QD,JL,hT.lo hl,hT.hi hh,Nat.ble_eq_true_of_le h1,Nat.ble_eq_true_of_le h2,JW,Nat.beq_refl]
 cases Qu (Nat.beq a 0) true (Nat.ble (a+1) len)<;>rfl
theorem Sw{t:TypeId}{x:Operand}{lo hi:Option Operand}{z:Nat}(he:Uz P t=some z)(hx:JS G K x=some .nils)(hl:ZI (JS G K) lo=some 0)(hh:Zz (JS G K) hi 0=some 0):
  ZP P G K (.slice t x lo hi none) st .nils st:=Np hx fun T hT=>by
 unfold WA;simp only[he,QD,hT.lo hl,hT.hi hh];rfl
theorem ID{s d:TypeId}{x:Operand}{k k':IntKind}{n:Int}(hd:P.underlying d=some (.int k'))(hs:P.underlying s=some (.int k))(hx:JS G K x=some (.int k n)):ZP P G K (.convert s d x) st (.int k' (k'.wrap n)) st:=Nt hx (by
 unfold Gs;simp only[hs];unfold conv
 simp only[hd,hs,Option.isSome_some,JW,Vb,YO])
end

structure J1(h:Hp)(X:List Nat)(z:Nat)(ls:List (List AV))(ks:AV):Prop where
 len:ZF ks=some ls.length
 ZJ:(ls.length:Int)≤9223372036854775807
 cell:Jy ks=true
 at_: ∀(i:Nat) (cs:List AV),ls[i]? =some cs→ ∃c m off cells,ks=.sl c m off ls.length z∧c∉X∧Xf h c m cells∧cs.length=z∧(cells.drop (off+i *z)).take z=cs
 alive: ∀(c m off n z':Nat),ks=.sl c m off n z'→c∉X∧ ∃cells,Xf h c m cells∧off+n *z≤cells.length
theorem J1.mem{h0:Hp}{n0:Nat}{X Y:List Nat}{st:St}{M:List (Nat×Nat×List AV)}(hM:Mem h0 n0 Y st M){z:Nat}{ls:List (List AV)}{ks:AV}(r:J1 h0 X z ls ks)(hY: ∀c∈Y,c∈X):J1 st.h.get X z ls ks:=
 ⟨r.len,r.ZJ,r.cell,fun i cs hi=>by
  obtain⟨c,m,off,cells,h1,h2,h3,h4⟩:=r.at_ i cs hi
  exact⟨c,m,off,cells,h1,h2,hM.Ar (fun hc=>h2 (hY c hc)) h3,h4⟩,fun c m off n z' e=>by
  obtain⟨h1,cells,h2,h3⟩:=r.alive c m off n z' e
  exact⟨h1,cells,hM.Ar (fun hc=>h1 (hY c hc)) h2,h3⟩⟩
theorem J1.nil(h:Hp)(X:List Nat)(z:Nat):J1 h X z [] .nils:=⟨rfl,by simp,rfl,fun i cs hi=>by simp at hi,fun _ _ _ _ _ e=>by cases e⟩
theorem Xb{z:Nat}: ∀{ls:List (List AV)},(∀cs∈ls,cs.length=z)→ls.flatten.length=ls.length *z:=by
 intro ls
 induction ls with
 |nil=>intro _;simp
 |cons a l ih=>
  intro h;rw[List.flatten_cons,List.length_append,ih fun cs hc=>h cs (List.mem_cons_of_mem _ hc),h a (List.mem_cons_self ..),List.length_cons,Nat.succ_mul,Nat.add_comm]
theorem FT{z:Nat}: ∀{ls:List (List AV)} (i:Nat) (cs:List AV),(∀cs∈ls,cs.length=z)→ls[i]? =some cs→(ls.flatten.drop (i *z)).take z=cs:=by
 intro ls
 induction ls with
 |nil=>intro i cs _ h;simp at h
 |cons a l ih=>
  intro i cs hz hi;have ha:=hz a (List.mem_cons_self ..)
  cases i with
  |zero=>
   simp at hi;subst hi;rw[Nat.zero_mul,List.drop_zero,List.flatten_cons,List.take_append_of_le_length (by omega),List.take_of_length_le (by omega)]
  |succ i=>
   rw[Nat.succ_mul,Nat.add_comm,List.flatten_cons,←List.drop_drop,←ha,List.drop_left];rw[ha];exact ih i cs (fun cs hc=>hz cs (List.mem_cons_of_mem _ hc)) (by simpa using hi)
theorem J1.own{h:Hp}{X:List Nat}{c m z:Nat}{ls:List (List AV)}(r:JA h c m ls.flatten)(hz: ∀cs∈ls,cs.length=z)(hX:c∉X)(hb:(ls.length:Int)≤9223372036854775807):J1 h X z ls (.sl c m 0 ls.length z):=
 ⟨rfl,hb,rfl,fun i cs hi=>⟨c,m,0,_,rfl,hX,r.Xg,hz cs (List.mem_of_getElem? hi),by rw[Nat.zero_add];exact FT i cs hz hi⟩,fun c' m' off n z' e=>by
  injection e with e1 e2 e3 e4 e5
  subst e1 e2 e3 e4 e5
  exact⟨hX,_,r.Xg,by rw[Xb hz];omega⟩⟩
theorem J1.load{P:Program}{h:Hp}{X:List Nat}{z:Nat}{ls:List (List AV)}{ks:AV}(r:J1 h X z ls ks){i:Nat}{cs:List AV}(hi:ls[i]? =some cs): ∃c m off,ks=.sl c m off ls.length z∧c∉X∧
  (∀t,tk P t=.agg z→JR P t (.ptr c m (off+i *z)) h=some (.agg cs))∧(∀t j v,tk P t=.one→cs[j]? =some v→JR P t (.ptr c m (off+i *z+j)) h=some v)∧
  ∀t j n,tk P t=.agg n→j+n≤z→JR P t (.ptr c m (off+i *z+j)) h=some (.agg ((cs.drop j).take n)):=by
 obtain⟨c,m,off,cells,h1,h2,⟨ro,e,vs,ms,h3,h4⟩,h5,h6⟩:=r.at_ i cs hi
 have hld: ∀t o,JR P t (.ptr c m o) h=Wm P t cells o:=fun t o=>by
  show ob (rowOf h c m) _=_;unfold rowOf;rw[h3,QD];show ob (ob (nth ms m) _) _=_;rw[Y2,h4];rfl
 have hlen:off+i *z+z≤cells.length∨z=0:=by
  rw[←h6,List.length_take,List.length_drop]at h5;omega
 refine⟨c,m,off,h1,h2,fun t ht=>?_,fun t j v ht hv=>?_,fun t j n ht hj=>?_⟩
 ·rw[hld];refine QG ht ?_;rw[Vz _ _ _ (by rw[UE,List.length_drop];omega),UE,h6]
 ·rw[hld];refine Qk ht ?_
  have hj:j<z:=by rw[←h5];exact(List.getElem?_eq_some_iff.1 hv).1
  rw[Y2,←List.getElem?_drop];rw[←h6,List.getElem?_take,if_pos hj]at hv;exact hv
 ·rw[hld];refine QG ht ?_;rw[Vz _ _ _ (by rw[UE,List.length_drop];omega),UE,←List.drop_drop,←h6,List.drop_take,List.take_take,Nat.min_eq_left (by omega)]
theorem J1.xk{P:Program}{h h':Hp}{X Y:List Nat}{z:Nat}{ls:List (List AV)}{ks:AV}(r:J1 h X z ls ks)(r':J1 h' Y z ls ks){i:Nat}{cs:List AV}(hi:ls[i]? =some cs): ∃c m off,ks=.sl c m off ls.length z∧c∉X∧
  (∀t,tk P t=.agg z→JR P t (.ptr c m (off+i *z)) h=some (.agg cs))∧(∀t j v,tk P t=.one→cs[j]? =some v→JR P t (.ptr c m (off+i *z+j)) h=some v)∧
  (∀t j n,tk P t=.agg n→j+n≤z→JR P t (.ptr c m (off+i *z+j)) h=some (.agg ((cs.drop j).take n)))∧
  (∀t,tk P t=.agg z→JR P t (.ptr c m (off+i *z)) h'=some (.agg cs))∧(∀t j v,tk P t=.one→cs[j]? =some v→JR P t (.ptr c m (off+i *z+j)) h'=some v)∧
  (∀t j n,tk P t=.agg n→j+n≤z→JR P t (.ptr c m (off+i *z+j)) h'=some (.agg ((cs.drop j).take n))):=by
 obtain⟨c,m,off,e,hX,h1,h2,h3⟩:=r.load (P:=P) hi;obtain⟨c',m',off',e',_,k1,k2,k3⟩:=r'.load (P:=P) hi;rw[e]at e'
 injection e' with e1 e2 e3
 subst e1 e2 e3;exact⟨c,m,off,e,hX,h1,h2,h3,k1,k2,k3⟩
end Go.Proofs.YtadjjadimlkkgaaGreatDoor
end

section

namespace Go.Proofs.YtadjjadimlkkgaaGreatDoor
open Go Go.RowKit

theorem HR.uH{w0:World}{p:JJ}{h:Hp}{w w':World}{c:Nat}(H:HR w0 p h w)(hB:Below w.heap.size w w')(hc:h c=none){v:Value}{n z:Nat}{el:TypeId}{az:List AV}(hown:w'.ownsRow w.heap.size el z v n (Q7 p az))(hn:0<n)(hz:0<z)
  (hw:ZL h az) (ho: ∀a∈az,Jy a=true): ∃p',Step w0 p w p' (Hd h c (.row false [(az.length,0,some az)])) w'∧v=Ql p' (.sl c 0 0 n z)∧az.length=n *z:=by
 obtain⟨hl,hv⟩:=hown
 have hlen:az.length=n *z:=by rw[←QU p az];exact hl
 rcases hv with⟨_,rfl⟩|⟨g,cap,cur,rfl,hb,hg,hnc,hcm,hsz,htk⟩
 ·omega
 have hgl:=(Array.getElem?_eq_some_iff.1 hg).1;have hle:JJ.le p (XL p c g (cap *z)):=Nk H hc _ _
 have hgr:Grow h (Hd h c (.row false [(az.length,0,some az)])):=ZZ fun C hC=>by rw[hc]at hC;cases hC
 refine⟨XL p c g (cap *z),?_,?_,hlen⟩
 ·refine H.Ln hB.os hB.tape hB.output hB.size hle ?_ (fun b hb _=>hB.block b hb) (fun b hb=>hB.block b (Nat.lt_of_lt_of_le hb H.size)) ?_ ?_ (fun C hC=>by rw[hc]at hC;cases hC) ⟨fun m e vs cs hm=>?_,fun m e vs cs m' e' vs' cs' q q' h1 h2 h3 h4 _=>?_⟩
  ·intro c' m x hx;unfold XL at hx
   split at hx
   ·rename_i hh;exact .inr hh.1
   ·exact .inl hx
  ·intro m x hx _;unfold XL at hx
   split at hx
   ·injection hx with hx;subst hx;exact⟨hgl,.inl hb⟩
   ·rw[H.XU hc m]at hx;cases hx
  ·intro m x hx;unfold XL at hx
   split at hx
   ·rename_i hh;rw[hh.2];exact Nat.zero_lt_one
   ·rw[H.XU hc m]at hx;cases hx
  ·cases m with
   |succ m=>simp at hm
   |zero=>
    simp at hm;obtain⟨rfl,rfl,rfl⟩:=hm;refine⟨_,_,el,Y9 _ _ _ _,.of hg,?_,?_,fun _=>Nat.le_trans H.size hb,fun l' hl'=>?_⟩
    ·show 0+cap *z≤cur.size;omega
    ·show az.length≤cap *z;rw[hlen];exact Nat.mul_le_mul_right _ hnc
    ·injection hl' with hl'
     subst hl';refine⟨rfl,fun j v hj=>?_⟩;have hv:=hw.get hj;refine⟨?_,WF.grow hgr v hv,ho v (List.mem_of_getElem? hj)⟩;rw[YU H.F2 hle v hv,Nat.zero_add];have h1:=Vd (p:=p) az j v hj;rw[←htk,List.getElem?_toArray,List.getElem?_take]at h1
     split at h1
     ·rw[Array.getElem?_toList]at h1;exact h1
     ·cases h1
  ·cases m with
   |succ m=>simp at h1
   |zero=>cases m' with
    |succ m'=>simp at h2
    |zero=>
     simp at h1 h2;obtain⟨_,rfl,_⟩:=h1;obtain⟨_,rfl,_⟩:=h2;rw[h3]at h4
     injection h4 with h4
     rw[h4]
 ·simp only[Ql,Y9,Nat.sub_zero,Nat.add_zero];rw[Nat.mul_div_cancel _ hz]
theorem HR.under{w0:World}{p:JJ}{h:Hp}{w:World}(H:HR w0 p h w):Below w0.heap.size w0 w:=⟨H.os,H.tape,H.output,H.size,H.old⟩

def Real(P:Program)(f:FuncId):Prop:= ∃fn,P.funcs[f]? =some fn∧fn.body.isSome=true∧(fn.name== "runtime.NumGoroutine")=false
noncomputable def jS(F:List AV→Option AV):List AV→St→Option (AV×St):=fun args st=>ob (F args) fun v=>some (v,st)
theorem jR{P:Program}{G:Env}{f:FuncId}{F:List AV→Option AV}{I:World→Prop}(hr:Real P f)(hI: ∀w0 w,G.i w0→Below w0.heap.size w0 w→I w)
  (hF: ∀(h:Hp) args v,F args=some v→ZL h args→WF h v∧ ∀(p:JJ) (w:World),I w→Calls P f (Q7 p args).toArray w fun e w'=>e=.returned (Ql p v)∧Below w.heap.size w w'):Ke P G f (jS F):=by
 intro args st v st' hs hf ha;obtain⟨u,hu,hs⟩:=Qw hs
 injection hs with hs
 injection hs with e1 e2
 subst e1 e2;obtain⟨h1,h2⟩:=hF _ _ _ hu ha;refine⟨hr,fun w0 p w H hG=>⟨Ab.refl _,(h2 p w (hI w0 w hG.2 H.under)).mono fun e w' he=>?_⟩⟩;obtain⟨rfl,hb⟩:=he;exact⟨p,rfl,H.KH hb,h1⟩
noncomputable def Ap(z:Nat)(F:List AV→Option (List AV×Nat×List AV)):List AV→St→Option (AV×St):=fun args st=>ob (F args) fun r=>
 Nat.rec (some (.tup (.nils::r.2.2),st)) (fun k _=>some (.tup (.sl st.n 0 0 (k+1) z::r.2.2),⟨st.n+1,st.h.set st.n (.row false [(r.1.length,0,some r.1)])⟩)) r.2.1
theorem OK{P:Program}{G:Env}{f:FuncId}{z:Nat}{el:TypeId}{F:List AV→Option (List AV×Nat×List AV)}{I:World→Prop}(hr:Real P f)(hz:0<z)(hI: ∀w0 w,G.i w0→Below w0.heap.size w0 w→I w)
  (hF: ∀(h:Hp) args az n rest,F args=some (az,n,rest)→ZL h args→ZL h az∧ZL h rest∧(∀a∈az,Jy a=true)∧ ∀(p:JJ) (w:World),I w→Calls P f (Q7 p args).toArray w fun e w'=>
   ∃v,e=.returned (.tuple (v::Q7 p rest).toArray)∧w'.ownsRow w.heap.size el z v n (Q7 p az)∧Below w.heap.size w w'∧(n=0→v=.slice none 0 0)):Ke P G f (Ap z F):=by
 intro args st v st' hs hf ha;obtain⟨⟨az,n,rest⟩,hu,hs⟩:=Qw hs;obtain⟨h1,h2,h3,h4⟩:=hF _ _ _ _ _ hu ha
 cases n with
 |zero=>
  have hs:some (AV.tup (.nils::rest),st)=some (v,st'):=hs
  injection hs with hs
  injection hs with e1 e2
  subst e1 e2;refine⟨hr,fun w0 p w H hG=>⟨Ab.refl _,(h4 p w (hI w0 w hG.2 H.under)).mono fun e w' he=>?_⟩⟩;obtain⟨u,rfl,_,hb,hu⟩:=he;rw[hu rfl];exact⟨p,rfl,H.KH hb,trivial,h2⟩
 |succ k=>
  have hs:some (AV.tup (.sl st.n 0 0 (k+1) z::rest),(⟨st.n+1,st.h.set st.n (.row false [(az.length,0,some az)])⟩:St))=some (v,st'):=hs
  injection hs with hs
  injection hs with e1 e2
  subst e1 e2;refine⟨hr,fun w0 p w H hG=>⟨B0 hf _,(h4 p w (hI w0 w hG.2 H.under)).mono fun e w' he=>?_⟩⟩;obtain⟨u,rfl,ho,hb,_⟩:=he;obtain⟨p',k1,k2,k3⟩:=H.uH hb (hf st.n (Nat.le_refl _)) ho (Nat.succ_pos k) hz h1 h3;refine⟨p',?_,by rw[Yj];exact k1,?_,?_⟩
  ·simp only[Ql,Q7];rw[k2,Ad H.F2 k1.le rest h2];rfl
  ·rw[Yj];exact Iy _ _ _ _ _ _ _ _ hz (by rw[k3];exact Nat.le_refl _)
  ·exact ZL.grow (B0 hf _).grow rest h2
noncomputable def R1(l:List (FuncId×(List AV→St→Option (AV×St))))(f:FuncId):Option (List AV→St→Option (AV×St)):=List.rec none (fun q _ ih=>Qu (Nat.beq f q.1) (some q.2) ih) l
theorem SY{l:List (FuncId×(List AV→St→Option (AV×St)))}{f:FuncId}{q:List AV→St→Option (AV×St)}(h:R1 l f=some q):(f,q)∈l:=by
 induction l with
 |nil=>cases h
 |cons x l ih=>
  have h:Qu (Nat.beq f x.1) (some x.2) (R1 l f)=some q:=h
  cases hb:Nat.beq f x.1 with
  |true=>
   rw[hb]at h
   injection h with h
   subst h;rw[Nat.eq_of_beq_eq_true hb];exact List.mem_cons_self ..
  |false=>rw[hb]at h;exact List.mem_cons_of_mem _ (ih h)
end Go.Proofs.YtadjjadimlkkgaaGreatDoor
end

section

namespace Go.Proofs.YtadjjadimlkkgaaGreatDoor
open Go

section
variable {P:Program} {G:Env} {N:Nat} {T:Tr AV} {st:St} {ops rest:List Oper} {K:List (Nat×AV)} {R:Tr AV→St→Prop} {d:Nat} {op:Op} {ty:TypeId} {pos:String} {af:Array Edge} {v:AV} {st1:St}
theorem o1(hK:Jm K T)(h:ZP P G K op st v st1)(hN:Nat.ble (d+1) N=true)(hn: ∀T',Jm ((d,v)::K) T'→WR P G N ops rest R T' st1):WR P G N ops (⟨some d,op,ty,pos,af,none⟩::rest) R T st:=KL hK h (Nat.le_of_ble_eq_true hN) hn
theorem oB{x:Bool}(hK:Jm K T)(h:ZP P G K op st (.bool x) st1)(hN:Nat.ble (d+1) N=true)(hn: ∀(b:Bool) T',x=b→Jm ((d,.bool b)::K) T'→WR P G N ops rest R T' st1):WR P G N ops (⟨some d,op,ty,pos,af,none⟩::rest) R T st:=yV hK h (Nat.le_of_ble_eq_true hN) hn
theorem og{j t:Nat}{pol:Bool}(hK:Jm K T)(ht:UM ops j=some t)(hb:K.lookup t=some (.bool pol))(h:ZP P G K op st v st1)(hN:Nat.ble (d+1) N=true)(hn: ∀T',Jm ((d,v)::K) T'→WR P G N ops rest R T' st1):WR P G N ops (⟨some d,op,ty,pos,af,some (j,pol)⟩::rest) R T st:=yj hK ht hb h (Nat.le_of_ble_eq_true hN) hn
theorem xz{j t:Nat}{pol x:Bool}(hK:Jm K T)(ht:UM ops j=some t)(hb:K.lookup t=some (.bool pol))(h:ZP P G K op st (.bool x) st1)(hN:Nat.ble (d+1) N=true)(hn: ∀(b:Bool) T',x=b→Jm ((d,.bool b)::K) T'→WR P G N ops rest R T' st1):WR P G N ops (⟨some d,op,ty,pos,af,some (j,pol)⟩::rest) R T st:=yj hK ht hb h (Nat.le_of_ble_eq_true hN) (hn x · rfl)
theorem gn{j t:Nat}{b pol:Bool}(hK:Jm K T)(ht:UM ops j=some t)(hb:K.lookup t=some (.bool b))(hne:(b==pol)=false)(hN:Nat.ble (d+1) N=true)(hn: ∀T',Jm ((d,.tup [])::K) T'→WR P G N ops rest R T' st):WR P G N ops (⟨some d,op,ty,pos,af,some (j,pol)⟩::rest) R T st:=zS hK ht hb hne (Nat.le_of_ble_eq_true hN) hn
end
section
variable {P:Program} {G:Env} {N:Nat} {st:St} {K:List (Nat×AV)} {T:Tr AV} {ops:List Oper} {r:List (Nat×Nat)} {R:Tr AV→St→Prop} {sn:List St} {i d:Nat} {op:Op} {ty:TypeId} {pos:String} {af:Array Edge} {v:AV} {st1:St}
theorem d1(ho:ops[i]? =some ⟨some d,op,ty,pos,af,none⟩)(hK:Jm K T)(h:ZP P G K op st v st1)(hk:Nat.beq (Jp P op) 3=false)(hN:Nat.ble (d+1) N=true)(hn: ∀T',Jm ((d,v)::K) T'→WD P G N ops (r.map (VB ops)) R T' st1 sn):WD P G N ops (((i,0)::r).map (VB ops)) R T st sn:=PQ ho hK h hk (Nat.le_of_ble_eq_true hN) hn
theorem dA(ho:ops[i]? =some ⟨some d,op,ty,pos,af,none⟩)(hK:Jm K T)(h:ZP P G K op st v st1)(hk:Nat.beq (Jp P op) 3=true)(hN:Nat.ble (d+1) N=true)(hn: ∀T',Jm ((d,v)::K) T'→WD P G N ops (r.map (VB ops)) R T' st1 (st1::sn)):WD P G N ops (((i,0)::r).map (VB ops)) R T st sn:=LL ho hK h hk (Nat.le_of_ble_eq_true hN) hn
theorem dB{x:Bool}(ho:ops[i]? =some ⟨some d,op,ty,pos,af,none⟩)(hK:Jm K T)(h:ZP P G K op st (.bool x) st1)(hk:Nat.beq (Jp P op) 3=false)(hN:Nat.ble (d+1) N=true)(hn: ∀(b:Bool) T',x=b→Jm ((d,.bool b)::K) T'→WD P G N ops (r.map (VB ops)) R T' st1 sn):WD P G N ops (((i,0)::r).map (VB ops)) R T st sn:=yW ho hK h hk (Nat.le_of_ble_eq_true hN) hn
theorem dg{j t:Nat}{pol:Bool}(ho:ops[i]? =some ⟨some d,op,ty,pos,af,some (j,pol)⟩)(hK:Jm K T)(ht:UM ops j=some t)(hb:K.lookup t=some (.bool pol))(h:ZP P G K op st v st1)(hk:Nat.beq (Jp P op) 3=false)(hN:Nat.ble (d+1) N=true)(hn: ∀T',Jm ((d,v)::K) T'→WD P G N ops (r.map (VB ops)) R T' st1 sn):WD P G N ops (((i,0)::r).map (VB ops)) R T st sn:=zU ho hK ht hb h hk (Nat.le_of_ble_eq_true hN) hn
theorem va{j t:Nat}{pol:Bool}(ho:ops[i]? =some ⟨some d,op,ty,pos,af,some (j,pol)⟩)(hK:Jm K T)(ht:UM ops j=some t)(hb:K.lookup t=some (.bool pol))(h:ZP P G K op st v st1)(hk:Nat.beq (Jp P op) 3=true)(hN:Nat.ble (d+1) N=true)(hn: ∀T',Jm ((d,v)::K) T'→WD P G N ops (r.map (VB ops)) R T' st1 (st1::sn)):WD P G N ops (((i,0)::r).map (VB ops)) R T st sn:=yX ho hK ht hb h hk (Nat.le_of_ble_eq_true hN) hn
theorem ZC{j t n:Nat}{b pol:Bool}(ho:ops[i]? =some ⟨some d,op,ty,pos,af,some (j,pol)⟩)(hK:Jm K T)(ht:UM ops j=some t)(hb:K.lookup t=some (.bool b))(hne:(b==pol)=false)(hN:Nat.ble (d+1) N=true)(hn: ∀sn' T',Jm ((d,.tup [])::K) T'→WD P G N ops (r.map (VB ops)) R T' st sn'):WD P G N ops (((i,n)::r).map (VB ops)) R T st sn:=zV ho hK ht hb hne (Nat.le_of_ble_eq_true hN) (fun T' sn'=>hn sn' T')
end

theorem RO{ops:List Oper}{K:List (Nat×AV)}{T:Tr AV}{j t:Nat}{d:Option Nat}{op:Op}{ty:TypeId}{pos:String}{af:Array Edge}{pol:Bool}(hK:Jm K T)(ht:UM ops j=some t)(hb:K.lookup t=some (.tup [])):Yx ops ⟨d,op,ty,pos,af,some (j,pol)⟩ T=false:=by
 unfold Yx;simp only[ht];rw[show Zs T t=.tup []from hK t _ hb]
theorem vi{P:Program}{G:Env}{N:Nat}{T:Tr AV}{st:St}{ops rest:List Oper}{K:List (Nat×AV)}{R:Tr AV→St→Prop}{d:Nat}{op:Op}{ty:TypeId}{pos:String}{af:Array Edge}{j t:Nat}{pol:Bool}(hK:Jm K T)(ht:UM ops j=some t)(hb:K.lookup t=some (.tup []))(hN:Nat.ble (d+1) N=true)(hn: ∀T',Jm ((d,.tup [])::K) T'→WR P G N ops rest R T' st):WR P G N ops (⟨some d,op,ty,pos,af,some (j,pol)⟩::rest) R T st:=by
 obtain⟨L',n',T',st',h1,h2⟩:=hn _ (hK.set d (.tup []));refine⟨L',n',T',st',?_,h2⟩;show(ob (YP P G _ ops _ T st) fun r=>E0 N (some d) r.1 T fun T=>tl (H6 P G _ N ops rest T r.2))=_;unfold YP;rw[RO hK ht hb,QX,QD];show Js (Nat.ble (d+1) N) (T.put d (.tup []) _)=_;rw[hN,Tr.put_eq];exact h1
section
variable {P:Program} {G:Env} {N:Nat} {T:Tr AV} {st:St} {ops rest:List Oper} {K:List (Nat×AV)} {R:Tr AV→St→Prop} {d:Nat} {ty:TypeId} {pos:String} {af:Array Edge} {h0:Hp} {n0:Nat} {X:List Nat} {M:List (Nat×Nat×List AV)}
theorem YK{t e:TypeId}{len z:Nat}{parts:Array (Nat×Operand)}{zc r:List AV}{ps:List (Nat×AV)}(hK:Jm K T)(hM:Mem h0 n0 X st M)(S:Iw P t e z)(hz:zeroOf P e=some zc)(hp:Ve (JS G K) parts=some ps)(hf:WW (fun i=>some (i *z,z)) ps (Ez len zc)=some r)(hc:EF Jy r=true)(hb:Nat.ble (len *z) 16777216=true)(hN:Nat.ble (d+1) N=true)
  (hn: ∀(c:Nat) T' st',Jm ((d,.sl c 0 0 len z)::K) T'→Mem h0 n0 X st' ((c,0,r)::M)→WR P G N ops rest R T' st'):WR P G N ops (⟨some d,.buildSlice t len parts,ty,pos,af,none⟩::rest) R T st:=by
 obtain⟨c,st1,h1,h2⟩:=Hn (G:=G) S hz hp hf hc (Nat.le_of_ble_eq_true hb) hM;exact KL hK h1 (Nat.le_of_ble_eq_true hN) fun T' hT'=>hn c T' st1 hT' h2
theorem Vr{sn:List St}{i:Nat}{rr:List (Nat×Nat)}{t e:TypeId}{len z:Nat}{parts:Array (Nat×Operand)}{zc r:List AV}{ps:List (Nat×AV)}(ho:ops[i]? =some ⟨some d,.buildSlice t len parts,ty,pos,af,none⟩)(hK:Jm K T)(hM:Mem h0 n0 X st M)(S:Iw P t e z)(hz:zeroOf P e=some zc)(hp:Ve (JS G K) parts=some ps)(hf:WW (fun i=>some (i *z,z)) ps (Ez len zc)=some r)(hc:EF Jy r=true)(hb:Nat.ble (len *z) 16777216=true)(hN:Nat.ble (d+1) N=true)
  (hn: ∀(c:Nat) T' st',Jm ((d,.sl c 0 0 len z)::K) T'→Mem h0 n0 X st' ((c,0,r)::M)→WD P G N ops (rr.map (VB ops)) R T' st' sn):WD P G N ops (((i,0)::rr).map (VB ops)) R T st sn:=by
 obtain⟨c,st1,h1,h2⟩:=Hn (G:=G) S hz hp hf hc (Nat.le_of_ble_eq_true hb) hM;exact PQ ho hK h1 rfl (Nat.le_of_ble_eq_true hN) fun T' hT'=>hn c T' st1 hT' h2
end

inductive Acc(n0 z:Nat):List (Nat×Nat×List AV)→AV→List (List AV)→Prop
 |none:Acc n0 z [] .nils []
 |own {c m:Nat} {ls:List (List AV)} (hc:n0≤c) (hz: ∀cs∈ls,cs.length=z) (hb:ls.length≤1000000):Acc n0 z [(c,m,ls.flatten)] (.sl c m 0 ls.length z) ls
theorem Acc.less{n0 n1 z:Nat}{A:List (Nat×Nat×List AV)}{ks:AV}{ls:List (List AV)}(h:Acc n0 z A ks ls)(hn:n1≤n0):Acc n1 z A ks ls:=by
 cases h with
 |none=>exact .none
 |own hc hz hb=>exact .own (Nat.le_trans hn hc) hz hb
theorem Acc.len{n0 z:Nat}{A:List (Nat×Nat×List AV)}{ks:AV}{ls:List (List AV)}(h:Acc n0 z A ks ls):ZF ks=some ls.length:=by cases h<;>rfl
theorem Acc.cell{n0 z:Nat}{A:List (Nat×Nat×List AV)}{ks:AV}{ls:List (List AV)}(h:Acc n0 z A ks ls):Jy ks=true:=by cases h<;>rfl
theorem Acc.ZJ{n0 z:Nat}{A:List (Nat×Nat×List AV)}{ks:AV}{ls:List (List AV)}(h:Acc n0 z A ks ls):ls.length≤1000000:=by
 cases h with
 |none=>exact Nat.zero_le _
 |own hc hz hb=>exact hb
section
variable {P:Program} {G:Env} {N:Nat} {h0:Hp} {n0:Nat} {X:List Nat} {st:St} {M L A B:List (Nat×Nat×List AV)} {z:Nat} {ks:AV} {ls:List (List AV)}
theorem Mem.perm(h:Mem h0 n0 X st M){M':List (Nat×Nat×List AV)}(p:M.Perm M'):Mem h0 n0 X st M':=
 ⟨h.fresh,h.le,h.base,fun c m l hm=>h.row c m l (p.mem_iff.2 hm),fun c m l hm=>h.lt c m l (p.mem_iff.2 hm),fun c m l hm=>h.own c m l (p.mem_iff.2 hm),(p.map _).nodup_iff.1 h.nodup,h.old⟩
theorem Mem.cast(h:Mem h0 n0 X st M){M':List (Nat×Nat×List AV)}(e:M=M'):Mem h0 n0 X st M':=e▸h
theorem Mem.Lv(hM:Mem h0 n0 X st (L++(A++B))){n1:Nat}(hA:Acc n1 z A ks ls):J1 st.h.get [] z ls ks:=by
 cases hA with
 |none=>exact .nil _ _ _
 |own hc hz hb=>
  rename_i c m;exact J1.own (hM.row c m _ (by simp)) hz (by simp) (by omega)
theorem GG(L B:List (Nat×Nat×List AV))(a b:Nat×Nat×List AV):(L++([a]++B)).set L.length b=L++([b]++B):=by
 rw[List.set_append_right _ _ (Nat.le_refl _),Nat.sub_self];rfl
theorem Bi(L B:List (Nat×Nat×List AV))(a:Nat×Nat×List AV):(L++([a]++B))[L.length]? =some a:=by
 rw[List.getElem?_append_right (Nat.le_refl _),Nat.sub_self];rfl
theorem Mem.zH(hM:Mem h0 n0 X st (L++(A++B)))(hA:Acc n0 z A ks ls){t e:TypeId}(T:Iw P t e z){ks2:AV}{ls2:List (List AV)}{Y:List Nat}(hy:J1 st.h.get Y z ls2 ks2)(hz2: ∀cs∈ls2,cs.length=z)(hb:ls.length+ls2.length≤1000000):
  ∃ks' A' st1,YG P [t,t] ks ks2 st=some (ks',st1)∧Acc n0 z A' ks' (ls++ls2)∧Mem h0 n0 X st1 (L++(A'++B)):=by
 have hzz: ∀cs∈ls++ls2,cs.length=z:=fun cs hc=>by
  rcases List.mem_append.1 hc with hc|hc
  ·cases hA with
   |none=>cases hc
   |own h1 h2 h3=>exact h2 cs hc
  ·exact hz2 cs hc
 have hl2:=hy.len
 cases ls2 with
 |nil=>
  rw[List.append_nil];refine⟨ks,A,st,?_,hA,hM⟩
  cases ks2<;>first
   |(cases hl2;done)
   |(refine Dl T ?_ rfl;cases hA<;>rfl)
   |skip
  rename_i c2 m2 off2 n2 z2
  injection hl2 with hl2
  have hl2:n2=0:=hl2;subst hl2;obtain⟨_,cells,h1,h2⟩:=hy.alive _ _ _ _ _ rfl
  cases hA with
  |none=>exact Bz T h1 (by omega)
  |own h3 h4 h5=>
   rename_i c m;exact By T (hM.row c m _ (by simp)) (Xb h4) h1 (by omega)
 |cons x ls2=>
  obtain⟨c2,m2,off2,cells0,rfl,_,_,_,_⟩:=hy.at_ 0 x rfl;obtain⟨_,cells,hr2,hle⟩:=hy.alive _ _ _ _ _ rfl
  have hrow:(cells.drop off2).take ((x::ls2).length *z)=(x::ls2).flatten:=by
   apply List.ext_getElem?;intro j;rw[List.getElem?_take]
   split
   ·rename_i hj;rw[List.getElem?_drop];have hz0:0<z:=T.p;have hjd:j/z<(x::ls2).length:=Nat.div_lt_of_lt_mul (by rw[Nat.mul_comm];exact hj);obtain⟨cs,hcs⟩: ∃cs,(x::ls2)[j/z]? =some cs:=⟨_,List.getElem?_eq_getElem hjd⟩;obtain⟨c',m',off',cells',e,_,hr',h5,h6⟩:=hy.at_ _ _ hcs
    injection e with e1 e2 e3
    subst e1 e2 e3
    have:cells'=cells:=by
     obtain⟨a1,b1,d1,g1,i1,j1⟩:=hr';obtain⟨a2,b2,d2,g2,i2,j2⟩:=hr2;rw[i1]at i2
     injection i2 with i2
     injection i2 with i2 i3
     subst i3;rw[j1]at j2
     injection j2 with j2
     injection j2 with _ j2
     injection j2 with _ j2
     injection j2
    subst this;rw[CC hz0 _ hz2,hcs];show _=cs[j % z]?;rw[←h6,List.getElem?_take,if_pos (Nat.mod_lt _ hz0),List.getElem?_drop]
    congr 1
    have:=Nat.div_add_mod j z;rw[Nat.mul_comm]at this;omega
   ·rename_i hj;rw[List.getElem?_eq_none];rw[Xb hz2];omega
  cases hA with
  |none=>
   have ha:=append_nil (P:=P) (st:=st) T (z2:=z) hr2 hle (by simp) (by simpa using hb);refine⟨_,[(st.n,0,(x::ls2).flatten)],_,ha,?_,?_⟩
   ·exact .own hM.le hzz (by simpa using hb)
   ·rw[hrow];have:=hM.alloc (x::ls2).flatten;refine this.perm ?_;exact(List.perm_middle (l₁:=L) (l₂:=B)).symm
  |own h3 h4 h5=>
   rename_i c m;obtain⟨m',st1,h6,h7,_⟩:=hM.append T (z2:=z) (Bi L B _) (Xb h4) hr2 hle (by simp) hb;refine⟨_,[(c,m',(ls++x::ls2).flatten)],st1,h6,?_,?_⟩
   ·rw[←List.length_append];exact .own h3 hzz (by rw[List.length_append];exact hb)
   ·rw[GG,hrow]at h7;rw[List.flatten_append];exact h7
theorem Mem.yg(hM:Mem h0 n0 X st (L++(A++B)))(hA:Acc n0 z A ks ls){t e:TypeId}(T:Iw P t e z){k2 c2 m2:Nat}{l2:List AV}(hk:(L++(A++B))[k2]? =some (c2,m2,l2))(hl:l2.length=z)(hb:ls.length+1≤1000000):
  ∃ks' A' st1,YG P [t,t] ks (.sl c2 m2 0 1 z) st=some (ks',st1)∧Acc n0 z A' ks' (ls++[l2])∧Mem h0 n0 X st1 (L++(A'++B)):=by
 have hr:=hM.Qp hk;have:J1 st.h.get [] z [l2] (.sl c2 m2 0 [l2].length z):=J1.own (by simpa using hr) (by simpa using hl) (by simp) (by simp);exact hM.zH hA T this (by simpa using hl) (by simpa using hb)
variable {T:Tr AV} {ops rest:List Oper} {K:List (Nat×AV)} {R:Tr AV→St→Prop} {d:Nat} {ty:TypeId} {pos:String} {af:Array Edge}
theorem V7{x y:Operand}{t e:TypeId}{c2 m2 k2:Nat}{l2:List AV}(hK:Jm K T)(hM:Mem h0 n0 X st (L++(A++B)))(hA:Acc n0 z A ks ls)(S:Iw P t e z)(hx:JS G K x=some ks)(hy:JS G K y=some (.sl c2 m2 0 1 z))(hk:(L++(A++B))[k2]? =some (c2,m2,l2))(hl:l2.length=z)(hb:ls.length+1≤1000000)(hN:Nat.ble (d+1) N=true)
  (hn: ∀(ks':AV) A' T' st',Jm ((d,ks')::K) T'→Acc n0 z A' ks' (ls++[l2])→Mem h0 n0 X st' (L++(A'++B))→WR P G N ops rest R T' st'):WR P G N ops (⟨some d,.call {callee:=.builtin .append,args:= #[x,y],argTypes:= #[t,t]},ty,pos,af,none⟩::rest) R T st:=by
 obtain⟨ks',A',st1,h1,h2,h3⟩:=hM.yg hA S hk hl hb;exact KL hK (V2 rfl hx hy h1) (Nat.le_of_ble_eq_true hN) fun T' hT'=>hn ks' A' T' st1 hT' h2 h3
theorem jE{x y:Operand}{t e:TypeId}{ks2:AV}{ls2:List (List AV)}{Y:List Nat}(hK:Jm K T)(hM:Mem h0 n0 X st (L++(A++B)))(hA:Acc n0 z A ks ls)(S:Iw P t e z)(hx:JS G K x=some ks)(hy:JS G K y=some ks2)(hr:J1 st.h.get Y z ls2 ks2)(hz2: ∀cs∈ls2,cs.length=z)(hb:ls.length+ls2.length≤1000000)(hN:Nat.ble (d+1) N=true)
  (hn: ∀(ks':AV) A' T' st',Jm ((d,ks')::K) T'→Acc n0 z A' ks' (ls++ls2)→Mem h0 n0 X st' (L++(A'++B))→WR P G N ops rest R T' st'):WR P G N ops (⟨some d,.call {callee:=.builtin .append,args:= #[x,y],argTypes:= #[t,t]},ty,pos,af,none⟩::rest) R T st:=by
 obtain⟨ks',A',st1,h1,h2,h3⟩:=hM.zH hA S hr hz2 hb;exact KL hK (V2 rfl hx hy h1) (Nat.le_of_ble_eq_true hN) fun T' hT'=>hn ks' A' T' st1 hT' h2 h3
theorem Iz{sn:List St}{i:Nat}{rr:List (Nat×Nat)}{x y:Operand}{t e:TypeId}{c2 m2 k2:Nat}{l2:List AV}(ho:ops[i]? =some ⟨some d,.call {callee:=.builtin .append,args:= #[x,y],argTypes:= #[t,t]},ty,pos,af,none⟩)(hK:Jm K T)(hM:Mem h0 n0 X st (L++(A++B)))(hA:Acc n0 z A ks ls)(S:Iw P t e z)(hx:JS G K x=some ks)(hy:JS G K y=some (.sl c2 m2 0 1 z))(hk:(L++(A++B))[k2]? =some (c2,m2,l2))(hl:l2.length=z)(hb:ls.length+1≤1000000)(hN:Nat.ble (d+1) N=true)
  (hn: ∀(ks':AV) A' T' st',Jm ((d,ks')::K) T'→Acc n0 z A' ks' (ls++[l2])→Mem h0 n0 X st' (L++(A'++B))→WD P G N ops (rr.map (VB ops)) R T' st' (st'::sn)):WD P G N ops (((i,0)::rr).map (VB ops)) R T st sn:=by
 obtain⟨ks',A',st1,h1,h2,h3⟩:=hM.yg hA S hk hl hb;exact LL ho hK (V2 rfl hx hy h1) rfl (Nat.le_of_ble_eq_true hN) fun T' hT'=>hn ks' A' T' st1 hT' h2 h3
theorem PT{sn:List St}{i:Nat}{rr:List (Nat×Nat)}{x y:Operand}{t e:TypeId}{ks2:AV}{ls2:List (List AV)}{Y:List Nat}(ho:ops[i]? =some ⟨some d,.call {callee:=.builtin .append,args:= #[x,y],argTypes:= #[t,t]},ty,pos,af,none⟩)(hK:Jm K T)(hM:Mem h0 n0 X st (L++(A++B)))(hA:Acc n0 z A ks ls)(S:Iw P t e z)(hx:JS G K x=some ks)(hy:JS G K y=some ks2)(hr:J1 st.h.get Y z ls2 ks2)(hz2: ∀cs∈ls2,cs.length=z)(hb:ls.length+ls2.length≤1000000)(hN:Nat.ble (d+1) N=true)
  (hn: ∀(ks':AV) A' T' st',Jm ((d,ks')::K) T'→Acc n0 z A' ks' (ls++ls2)→Mem h0 n0 X st' (L++(A'++B))→WD P G N ops (rr.map (VB ops)) R T' st' (st'::sn)):WD P G N ops (((i,0)::rr).map (VB ops)) R T st sn:=by
 obtain⟨ks',A',st1,h1,h2,h3⟩:=hM.zH hA S hr hz2 hb;exact LL ho hK (V2 rfl hx hy h1) rfl (Nat.le_of_ble_eq_true hN) fun T' hT'=>hn ks' A' T' st1 hT' h2 h3

def Dv(st st':St)(z:Nat)(ks:AV)(ls:List (List AV)):Prop:= ∃A,Acc st.n z A ks ls∧ ∀c m l,(c,m,l)∈A→JA st'.h.get c m l
theorem Mem.FZ(h:Mem h0 n0 X st M){st':St}(q:Qt st st')(r:Dv st st' z ks ls): ∃A,Acc n0 z A ks ls∧Mem h0 n0 X st' (M++(A++[])):=by
 obtain⟨A,hA,hr⟩:=r;refine⟨A,hA.less h.le,?_⟩
 cases hA with
 |none=>simpa using h.quiet q
 |own hc hz hb=>
  have:=h.Vl q (hr _ _ _ (List.mem_singleton.2 rfl)) hc;exact this.perm (by simpa using(List.perm_middle (l₁:=M) (l₂:=[])).symm)
theorem Mem.zp{st0 st':St}(h:Mem st0.h.get st0.n X st' (L++(A++B)))(hA:Acc st0.n z A ks ls):Dv st0 st' z ks ls:=⟨A,hA,fun c m l hm=>h.row c m l (by simp[hm])⟩
theorem uM{f:FuncId}{F:List AV→Option AV}(hs:G.s f=some (jS F)){args:List AV}{v:AV}(hF:F args=some v):Ev P G f args st v st:=⟨0,1,by
 show(Option.rec _ (fun sm=>sm args st) (G.s f):Option (AV×St))=_;rw[hs];show ob (F args) _=_
 rw[hF];rfl⟩
theorem Gp{f:FuncId}{F:List AV→Option (List AV×Nat×List AV)}(hs:G.s f=some (Ap z F))(hf:Q6 st){args rest:List AV}(hz: ∀cs∈ls,cs.length=z)(hb:ls.length≤1000000)(hF:F args=some (ls.flatten,ls.length,rest)): ∃ks st',Ev P G f args st (.tup (ks::rest)) st'∧Dv st st' z ks ls∧Qt st st':=by
 have hev: ∀v st',Ap z F args st=some (v,st')→Ev P G f args st v st':=fun v st' h=>⟨0,1,by
  show(Option.rec _ (fun sm=>sm args st) (G.s f):Option (AV×St))=_;rw[hs]
  exact h⟩
 cases ls with
 |nil=>exact⟨.nils,st,hev _ _ (by unfold Ap;rw[hF];rfl),⟨[],.none,fun c m l h=>by cases h⟩,Qt.refl hf⟩
 |cons x ls=>
  have hM:=(Mem.start hf).alloc (x::ls).flatten;refine⟨.sl st.n 0 0 (ls.length+1) z,_,hev _ _ (by unfold Ap;rw[hF];rfl),⟨[(st.n,0,(x::ls).flatten)],.own (Nat.le_refl _) hz hb,fun c m l h=>?_⟩,hM.qt⟩;simp at h;obtain⟨rfl,rfl,rfl⟩:=h;exact hM.row _ _ _ (by simp)

theorem EK{Q:Ex→Tr AV→St→Prop}{a b:Code}{J:Tr AV→St→Prop}(h:W P G N a (OE J Q) T st)(hb: ∀T st,J T st→W P G N b Q T st):W P G N (.seq a b) Q T st:=
 Qq (TF h fun x T st hx=>by
  cases x with
  |nor=>exact hb T st hx
  |exit i=>exact hx
  |ret=>exact hx)
theorem Yt{h:Hp}{c m off:Nat}{cells:List AV}{t:TypeId}{v:AV}(hr:Xf h c m cells)(hp:Wm P t cells off=some v):JR P t (.ptr c m off) h=some v:=by
 obtain⟨e,vs,ro,ms,h1⟩:=hr.rowOf;show ob (rowOf h c m) _=_;rw[h1];exact hp
theorem uk{x y:Operand}{t yt:TypeId}{k:IntKind}{a b c:Int}(hx:JS G K x=some (.int k a))(hy:JS G K y=some (.int k b))(hw:k.wrap (a-b)=c):ZP P G K (.binOp .sub t x y yt) st (.int k c) st:=
 X9 hx hy (by rw[EE (by decide) (by decide)];show Aq (W4 k (a-b)) (fun z=>some (AV.int k z))=_;rw[Vb,YO,hw])
theorem um{x y:Operand}{t yt:TypeId}{k:IntKind}{a b c:Int}(hx:JS G K x=some (.int k a))(hy:JS G K y=some (.int k b))(hw:k.wrap (a *b)=c):ZP P G K (.binOp .mul t x y yt) st (.int k c) st:=
 X9 hx hy (by rw[EE (by decide) (by decide)];show Aq (W4 k (a *b)) (fun z=>some (AV.int k z))=_;rw[Vb,YO,hw])
theorem Ch{s d:TypeId}{x:Operand}{k k':IntKind}{n c:Int}(hd:P.underlying d=some (.int k'))(hs:P.underlying s=some (.int k))(hx:JS G K x=some (.int k n))(hw:k'.wrap n=c):ZP P G K (.convert s d x) st (.int k' c) st:=by
 rw[←hw];exact ID hd hs hx

theorem Qv:EF Jy ([]:List AV)=true:=rfl
theorem Qa{a:AV}{l:List AV}(h1:Jy a=true)(h2:EF Jy l=true):EF Jy (a::l)=true:=by
 show Qu (Jy a) (EF Jy l) false=true;rw[h1,h2];rfl
theorem F7{v:AV}(h:Jy v=true):EF Jy (JZ v)=true:=by
 cases v<;>first|rfl|cases h
theorem XR{v:AV}(h:Jy v=true):JZ v=[v]:=by
 cases v<;>first|rfl|cases h
theorem FI{t ty:TypeId}{pos:String}{af:Array Edge}{x y:Operand}{w:AV}{k c m off:Nat}{l l':List AV}(hK:Jm K T)(hM:Mem h0 n0 X st M)(hx:JS G K x=some (.ptr c m off))(hy:JS G K y=some w)(hk:M[k]? =some (c,m,l))(hz:Zm P t=some 1)(hc:Jy w=true)(ho:Xx [w] off l=some l')
  (hr: ∀st',Mem h0 n0 X st' (M.set k (c,m,l'))→WR P G N ops rest R T st'):WR P G N ops (⟨none,.store t x y,ty,pos,af,none⟩::rest) R T st:=
 QB hK hM hx hy hk hz (by rw[XR hc];rfl) (F7 hc) (by rw[XR hc];exact ho) hr
theorem Vy{sn:List St}{i:Nat}{rr:List (Nat×Nat)}{t ty:TypeId}{pos:String}{af:Array Edge}{x y:Operand}{w:AV}{k c m off:Nat}{l l':List AV}(ho':ops[i]? =some ⟨none,.store t x y,ty,pos,af,none⟩)(hK:Jm K T)(hM:Mem h0 n0 X st M)(hx:JS G K x=some (.ptr c m off))(hy:JS G K y=some w)(hk:M[k]? =some (c,m,l))(hz:Zm P t=some 1)(hc:Jy w=true)(ho:Xx [w] off l=some l')
  (hr: ∀st',Mem h0 n0 X st' (M.set k (c,m,l'))→WD P G N ops (rr.map (VB ops)) R T st' (st'::sn)):WD P G N ops (((i,0)::rr).map (VB ops)) R T st sn:=
 JX ho' hK hM hx hy hk hz (by rw[XR hc];rfl) (F7 hc) (by rw[XR hc];exact ho) hr
theorem Ks{P:Program}{G:Env}{K:List (Nat×AV)}{st:St}{s d e:TypeId}{x:Operand}{c m b:Nat}(hs:P.underlying s=some (.slice e))(he:P.underlying e=some (.int .u8))(hd:P.underlying d=some .string)(hx:JS G K x=some (.sl c m 0 1 1))(hr:Xf st.h.get c m [.int .u8 ((b:Nat):Int)])(hb:b≤255):ZP P G K (.convert s d x) st (.str [b]) st:=
 Nt hx (by
  unfold Gs;simp only[hs,he,hd];obtain⟨e1,vs,ro,ms,h⟩:=hr.rowOf
  have hb1:Dd (AV.int .u8 ((b:Nat):Int))=some b:=by
   show Js (Nat.ble b 255) (some b)=some b;rw[Nat.ble_eq_true_of_le hb];rfl
  unfold KF;simp only[h,QD,Yo,UC];show ob (ob (Dd (AV.int .u8 ((b:Nat):Int))) fun b=>ob (some []) fun t=>some (b::t)) _=_
  rw[hb1];rfl)
def Pw:AV→Bool
 |.bool _=>true
 |.int _ _=>true
 |.str _=>true
 |.nilp=>true
 |.ptr _ _ _=>true
 |.nils=>true
 |.sl _ _ _ _ _=>true
 |.slz _ _ _ _ _=>true
 |.sl0 _ _ _=>true
 |.nilf=>true
 |.nili=>true
 |.nilm=>true
 |.mp _=>true
 |_=>false
theorem Le{v:AV}(h:Pw v=true):Ih v v=true:=by
 cases v<;>first
  |(cases h;done)
  |rfl
  |skip
 ·rename_i b;cases b<;>rfl
 ·rename_i k n;show Qu (Gq k k) (Om n n) false=true;rw[CI,IQ];simp[Qu]
 ·rename_i l;show CF l l=true;rw[Wf];simp
 ·rename_i c m o;show Qu (Nat.beq c c) (Qu (Nat.beq m m) (Nat.beq o o) false) false=true;simp[Qu]
 ·rename_i c m o l z;show Qu (Nat.beq c c) (Qu (Nat.beq m m) (Qu (Nat.beq o o) (Qu (Nat.beq l l) (Nat.beq z z) false) false) false) false=true;simp[Qu]
 ·rename_i c m o l z;show Qu (Nat.beq c c) (Qu (Nat.beq m m) (Qu (Nat.beq o o) (Qu (Nat.beq l l) (Nat.beq z z) false) false) false) false=true;simp[Qu]
 ·rename_i x o s;show Qu (Nat.beq x x) (Qu (Nat.beq o o) (uO s s) false) false=true
  cases s<;>simp[Qu,uO]
 ·rename_i c;show Nat.beq c c=true;simp
theorem Ub{v:AV}(h:Pw v=true):qG v v=true:=by
 have:=Le h
 cases v<;>first|exact this|(cases h;done)
theorem Zx{l:List AV}(h:l.all Pw=true):qG (.agg l) (.agg l)=true:=by
 show IS l l=true
 induction l with
 |nil=>rfl
 |cons a l ih=>
  rw[List.all_cons,Bool.and_eq_true]at h;show Qu (Ih a a) (IS l l) false=true;rw[Le h.1,ih h.2];rfl
theorem Ye{v:AV}{n:Nat}(h:ZF v=some n):Pw v=true:=by
 cases v<;>first|rfl|(cases h;done)

variable {rr:ResultVar} {rs:List ResultVar}
theorem QY{t:Nat}{v:AV}(hK:Jm K T)(h:K.lookup t=some v):I7 P T st (.tmp t)=some v:=congrArg some (hK t v h)
theorem Uk{a:Nat}{t:TypeId}{u v:AV}(hK:Jm K T)(h:K.lookup a=some u)(hl:JR P t u st.h.get=some v):I7 P T st (.cell a t)=some v:=by
 show JR P t (Zs T a) st.h.get=_;rw[hK a u h];exact hl
theorem FK{v:AV}(h:I7 P T st rr=some v):U1 P [rr] T st=some v:=by
 show(ob (Yo (I7 P T st) [rr]) _)=_;rw[Up,h];rfl
theorem Xv:U1 P [] T st=some (.tup []):=rfl
theorem YC{r1 r2:ResultVar}{a b:AV}(h1:I7 P T st r1=some a)(h2:I7 P T st r2=some b):U1 P [r1,r2] T st=some (.tup [a,b]):=by
 show(ob (Yo (I7 P T st) [r1,r2]) _)=_;rw[Up,Up,h1,h2];rfl
theorem Uo{r1 r2 r3:ResultVar}{a b c:AV}(h1:I7 P T st r1=some a)(h2:I7 P T st r2=some b)(h3:I7 P T st r3=some c):U1 P [r1,r2,r3] T st=some (.tup [a,b,c]):=by
 show(ob (Yo (I7 P T st) [r1,r2,r3]) _)=_;rw[Up,Up,Up,h1,h2,h3];rfl
end
end Go.Proofs.YtadjjadimlkkgaaGreatDoor
end
end
section
namespace Go.Proofs.YtadjjadimlkkgaaGreatDoor
open Go Go.RowKit

inductive Nd where
 |mk (op name:List Nat) (n at_:Int) (kids:List Nd)
def Nd.kids:Nd→List Nd
 |.mk _ _ _ _ l=>l
def ML:AV→Bool
 |.sl _ _ _ _ _=>false
 |_=>true
inductive Vn(h:Hp):Nd→List AV→Prop
 |leaf {op name:List Nat} {n at_:Int} {ks:AV} (hs:ZF ks=some 0) (ha:ML ks=true) (hb:Bytes op∧Bytes name):Vn h (.mk op name n at_ []) [.str op,.str name,.int .i64 n,.int .i64 at_,ks]
 |node {op name:List Nat} {n at_:Int} {kids:List Nd} {c m off:Nat} {cells:List AV} (hr:Xf h c m cells) (hn:(kids.length:Int)≤9223372036854775807) (hl:off+kids.length *5≤cells.length)
  (hk: ∀(i:Nat) (k:Nd),kids[i]? =some k→Vn h k ((cells.drop (off+i *5)).take 5)) (hb:Bytes op∧Bytes name):Vn h (.mk op name n at_ kids) [.str op,.str name,.int .i64 n,.int .i64 at_,.sl c m off kids.length 5]
theorem Vn.mono{h h':Hp}(hl:FG h h'){t:Nd}{cs:List AV}(r:Vn h t cs):Vn h' t cs:=by
 induction r with
 |leaf hs ha hb=>exact .leaf hs ha hb
 |node hr hn hl' hk hb ih=>exact .node (hl _ _ _ hr) hn hl' ih hb
theorem WB{ks:AV}{n:Nat}(h:ZF ks=some n):Jy ks=true:=by
 cases ks<;>first|rfl|cases h
theorem Qt.rows{st st':St}(hf:Q6 st)(q:Qt st st'):FG st.h.get st'.h.get:=by
 rintro c m l ⟨ro,e,vs,ms,h1,h2⟩
 have hc:c<st.n:=Nat.lt_of_not_le fun hle=>by rw[hf c hle]at h1;cases h1
 exact⟨ro,e,vs,ms,by rw[q.old c hc];exact h1,h2⟩
theorem Mem.rows{h0:Hp}{n0:Nat}{st:St}{M:List (Nat×Nat×List AV)}(hM:Mem h0 n0 [] st M):FG h0 st.h.get:=by
 rintro c m l ⟨ro,e,vs,ms,h1,h2⟩
 have hc:c<n0:=Nat.lt_of_not_le fun hle=>by rw[hM.base c hle]at h1;cases h1
 exact⟨ro,e,vs,ms,by rw[hM.old c hc (by simp)];exact h1,h2⟩
mutual
def Ao:Nd→Nat
 |.mk _ _ _ _ kids=>KP kids+1
def KP:List Nd→Nat
 |[]=>0
 |a::l=>Ao a+KP l
end
theorem UX{k:Nd}{l:List Nd}(h:k∈l):Ao k≤KP l:=by
 induction l with
 |nil=>cases h
 |cons a l ih=>
  rw[KP];rcases List.mem_cons.1 h with e|h
  ·rw[e];omega
  ·have:=ih h;omega
theorem A0{M:Nd→Prop}(h: ∀op name n at_ kids,(∀k,k∈kids→M k)→M (.mk op name n at_ kids))(k:Nd):M k:=by
 have: ∀n k,Ao k≤n→M k:=by
  intro n
  induction n with
  |zero=>intro k hk;cases k;rw[Ao]at hk;omega
  |succ n ih=>
   intro k hk
   cases k with
   |mk op name z at_ kids=>
    rw[Ao]at hk;exact h _ _ _ _ _ fun k hm=>ih k (by have:=UX hm;omega)
 exact this _ k (Nat.le_refl _)

end Go.Proofs.YtadjjadimlkkgaaGreatDoor
end
section
namespace Go.Proofs.YtadjjadimlkkgaaGreatDoor
open Go Go.RowKit

structure Dc where
 name:List Nat
 order:Int
 at_:Int
def Dc.cells(d:Dc):List AV:=[.str d.name,.int .i64 d.order,.int .i64 d.at_]
structure Pd where
 name:List Nat
 params:List Dc
 body:Nd
 at_:Int
structure Pg where
 decls:List Dc
 preds:List Pd
 main:Nd
end Go.Proofs.YtadjjadimlkkgaaGreatDoor
end
section
namespace Go.Proofs.YtadjjadimlkkgaaGreatDoor
open Go Go.RowKit

structure Tk where
 k:Int
 s:List Nat
 n:Int
 a:Int
def CM:Tk:=⟨4,[],0,0⟩
def zo:Tk:=⟨0,[],0,0⟩
structure PS where
 i:Nat
 e:Int
 a:Int
def XT:Nd:=.mk [] [] 0 0 []
def Qi(L:List Tk)(S:PS):Tk:=if S.e≠0 then CM else(L[S.i]?).getD CM
def UN(L:List Tk)(S:PS)(w:List Nat):Bool:=decide ((Qi L S).k=3)&&decide ((Qi L S).s=w)
def Qd(L:List Tk)(S:PS):PS:=if S.e=0∧(Qi L S).k≠4 then⟨S.i+1,S.e,S.a⟩else S
def Q4(S:PS)(a e:Int):PS:=if S.e=0 then⟨S.i,e,a⟩else S
def Q8(L:List Tk)(S:PS)(w:List Nat):PS:=if UN L S w=true then Qd L S else S
def QS(L:List Tk)(S:PS)(w:List Nat):PS:=if UN L S w=true then Qd L S else Q4 S (Qi L S).a 2
def Jf(L:List Tk)(S:PS):PS:=if(Qi L S).k≠1 then Q4 S (Qi L S).a 2 else Qd L S
def Je(L:List Tk)(S:PS):Tk:=if(Qi L S).k≠1 then zo else Qi L S
def QQ(L:List Tk)(S:PS)(s:List Nat):Int:=if UN L S (s++[48])=true then 0 else if UN L S (s++[49])=true then 1 else if UN L S (s++[50])=true then 2 else-1
abbrev PR:=PS×Nd
def Wk (el : PS → PR) (L : List Tk) (w : List Nat) : Nat → PS → List Nd → PS × List Nd
  | 0, S, l => (S, l)
  | k + 1, S, l => if S.e ≠ 0 then (S, l) else if l.length = 6 then (Q4 S (Qi L S).a 2, l)
    else if UN L (el S).1 [44] = true then Wk el L w k (Qd L (el S).1) (l ++ [(el S).2]) else (QS L (el S).1 w, l ++ [(el S).2])
def Vp(el:PS→PR)(L:List Tk)(w:List Nat)(S:PS):PS×List Nd:=if UN L S w=true then(Qd L S,[])else Wk el L w 7 S []
def AS(L:List Tk)(S:PS):PR:=
 if UN L (Qd L S) [43]=true then
  (if(Qi L (Qd L (Qd L S))).k≠2∨(Qi L (Qd L (Qd L S))).n=0 then(Q4 (Qd L (Qd L S)) (Qi L (Qd L (Qd L S))).a 2,.mk [118,97,114] (Qi L S).s 0 (Qi L S).a [])
  else(Qd L (Qd L (Qd L S)),.mk [112,108,117,115] [] (Qi L (Qd L (Qd L S))).n (Qi L S).a [.mk [118,97,114] (Qi L S).s 0 (Qi L S).a []]))
 else(Qd L S,.mk [118,97,114] (Qi L S).s 0 (Qi L S).a [])
def JT(L:List Tk)(S:PS):PR:=
 if(Qi L S).k=1 then AS L S
 else if(Qi L S).k=2 then(Qd L S,.mk [110,117,109] [] (Qi L S).n (Qi L S).a [])
 else(Q4 S (Qi L S).a 2,XT)
def JF(L:List Tk)(S:PS):PR:=
 if(Qi L S).k=1 then AS L S
 else if(Qi L S).k=2 then(Qd L S,.mk [110,117,109] [] (Qi L S).n (Qi L S).a [])
 else if UN L S [123]=true then((Vp (JT L) L [125] (Qd L S)).1,.mk [115,101,116] [] 0 (Qi L S).a (Vp (JT L) L [125] (Qd L S)).2)
 else(Q4 S (Qi L S).a 2,XT)
def S5(L:List Tk)(S:PS):Option (List Nat):=
 if UN L S [117,110,105,111,110]=true then some (Qi L S).s else if UN L S [105,110,116,101,114]=true then some (Qi L S).s
 else if UN L S [92]=true then some [109,105,110,117,115]else none
def Wa(L:List Tk):Nat→PS→Nd→PR
 |0,S,n=>(S,n)
 |k+1,S,n=>if S.e≠0 then(S,n)else match S5 L S with
  |none=>(S,n)
  |some op=>Wa L k (JF L (Qd L S)).1 (.mk op [] 0 (Qi L S).a [n,(JF L (Qd L S)).2])
def Jt(L:List Tk)(S:PS):PR:=Wa L L.length (JF L S).1 (JF L S).2
def Ef(L:List Tk)(S:PS):List Nat:=
 if UN L S [61]=true then [101,113]else if UN L S [126,61]=true then [110,101]else if UN L S [60]=true then [108,116]else if UN L S [60,61]=true then [108,101]
 else if UN L S [105,110]=true then [105,110]else if UN L S [110,111,116,105,110]=true then [110,111,116,105,110]else if UN L S [115,117,98]=true then [115,117,98]else []
def Xe(L:List Tk)(S:PS):Bool:=decide ((Qi L S).k=1)&&(decide (((L[S.i+1]?).getD CM).k=3)&&decide (((L[S.i+1]?).getD CM).s=[40]))
def Fo:Nd→List Nat
 |.mk o _ _ _ _=>o
def ZY:Nd→List Nat
 |.mk _ s _ _ _=>s
def UU(L:List Tk)(S:PS):PR:=
 if Xe L S=true then((Vp (Jt L) L [41] (Qd L (Qd L S))).1,.mk [99,97,108,108] (Qi L S).s 0 (Qi L S).a (Vp (Jt L) L [41] (Qd L (Qd L S))).2)
 else if(Jt L S).1.e=0∧Ef L (Jt L S).1≠[]then((Jt L (Qd L (Jt L S).1)).1,.mk (Ef L (Jt L S).1) [] 0 (Qi L (Jt L S).1).a [(Jt L S).2,(Jt L (Qd L (Jt L S).1)).2])
 else(if Fo (Jt L S).2≠[118,97,114]then Q4 (Jt L S).1 (Qi L S).a 2 else(Jt L S).1,.mk [105,115] (ZY (Jt L S).2) 0 (Qi L S).a [])
def QF(L:List Tk)(S:PS)(d:Nat):PS:=if 30≤d then Q4 S (Qi L S).a 4 else S
def V4(part:PS→PR)(op w:List Nat)(L:List Tk):Nat→PS→Nd→PR
 |0,S,n=>(S,n)
 |k+1,S,n=>if UN L S w=true then V4 part op w L k (part (Qd L S)).1 (.mk op [] 0 (Qi L S).a [n,(part (Qd L S)).2])else(S,n)
def AQ(part:PS→PR)(op w:List Nat)(L:List Tk)(S:PS):PR:=V4 part op w L L.length (part S).1 (part S).2
def Wg(u:PS→PR)(L:List Tk):PS→PR:=AQ u [97,110,100] [38] L
def Ol(u:PS→PR)(L:List Tk):PS→PR:=AQ (Wg u L) [111,114] [124] L
def ZA(u:PS→PR)(L:List Tk):Nat→PS→PR
 |0,S=>Ol u L S
 |k+1,S=>if UN L (Ol u L S).1 [61,62]=true then((ZA u L k (Qd L (Ol u L S).1)).1,.mk [105,109,112] [] 0 (Qi L (Ol u L S).1).a [(Ol u L S).2,(ZA u L k (Qd L (Ol u L S).1)).2])else Ol u L S
def Zh(u:PS→PR)(L:List Tk)(S:PS)(d:Nat):PR:=
 if(QF L S d).e≠0 then(QF L S d,XT)else AQ (ZA u L L.length) [105,102,102] [60,61,62] L (QF L S d)
def YH(L:List Tk):Nat→PS→Nat→PR
 |0,S,_=>(S,XT)
 |f+1,S,d=>
  if(QF L S d).e≠0 then(QF L S d,XT)
  else if UN L (QF L S d) [126]=true then((YH L f (Qd L (QF L S d)) (d+1)).1,.mk [110,111,116] [] 0 (Qi L (QF L S d)).a [(YH L f (Qd L (QF L S d)) (d+1)).2])
  else if 0≤QQ L (QF L S d) [101,120]∨0≤QQ L (QF L S d) [97,108,108]then
   ((Zh (fun S=>YH L f S (d+1)) L (QS L (Jf L (Qd L (QF L S d))) [58]) (d+1)).1,
    .mk (if QQ L (QF L S d) [101,120]<0 then [97,108,108]else [101,120]) (Je L (Qd L (QF L S d))).s (if QQ L (QF L S d) [101,120]<0 then QQ L (QF L S d) [97,108,108]else QQ L (QF L S d) [101,120]) (Qi L (QF L S d)).a
     [(Zh (fun S=>YH L f S (d+1)) L (QS L (Jf L (Qd L (QF L S d))) [58]) (d+1)).2])
  else if UN L (QF L S d) [116,114,117,101]=true∨UN L (QF L S d) [102,97,108,115,101]=true then(Qd L (QF L S d),.mk (Qi L (QF L S d)).s [] 0 (Qi L (QF L S d)).a [])
  else if UN L (QF L S d) [40]=true then(QS L (Zh (fun S=>YH L f S (d+1)) L (Qd L (QF L S d)) (d+1)).1 [41],(Zh (fun S=>YH L f S (d+1)) L (Qd L (QF L S d)) (d+1)).2)
  else UU L (QF L S d)
def Q3(L:List Tk)(f:Nat)(S:PS)(d:Nat):PR:=Zh (fun S=>YH L f S d) L S d
def Zc(L:List Tk)(k:Int):Nat→PS→List Dc→PS×List Dc
 |0,S,l=>(S,l)
 |f+1,S,l=>if S.e≠0 then(S,l)else if UN L (Jf L S) [44]=true then Zc L k f (Qd L (Jf L S)) (l++[⟨(Je L S).s,k,(Je L S).a⟩])else(QS L (Jf L S) [59],l++[⟨(Je L S).s,k,(Je L S).a⟩])
def Ug(L:List Tk)(S:PS):PS×List Dc:=Zc L (QQ L S [118,97,114]) (L.length+1) (Qd L S) []
def Eg(L:List Tk)(S:PS)(n:Nat):PS:=
 let S1:=Qd L (if QQ L S [118,97,114]<0 then Q4 S (Qi L S).a 2 else S)
 if n=6 then Q4 S1 (Qi L S1).a 2 else S1
def Zd (L : List Tk) : Nat → PS → List Dc → PS × List Dc
  | 0, S, l => (S, l)
  | f + 1, S, l => if S.e ≠ 0 then (S, l)
    else if UN L (Jf L (Eg L S l.length)) [44] = true then Zd L f (Qd L (Jf L (Eg L S l.length))) (l ++ [⟨(Je L (Eg L S l.length)).s, QQ L S [118, 97, 114], (Je L (Eg L S l.length)).a⟩])
    else (QS L (Jf L (Eg L S l.length)) [41], l ++ [⟨(Je L (Eg L S l.length)).s, QQ L S [118, 97, 114], (Je L (Eg L S l.length)).a⟩])
def Yk(L:List Tk)(S:PS):PS×List Dc:=if UN L S [41]=true then(Qd L S,[])else Zd L (L.length+1) S []
def Jv(L:List Tk)(S:PS):PS×Pd:=
 let S1:=Qd L S
 let P:=Yk L (QS L (Jf L S1) [40])
 let B:=Q3 L L.length (QS L P.1 [61]) 0
 (QS L B.1 [59],⟨(Je L S1).s,P.2,B.2,(Je L S1).a⟩)
def Z9 (L : List Tk) : Nat → PS → List Dc → List Pd → PS × List Dc × List Pd
  | 0, S, ds, ps => (S, ds, ps)
  | f + 1, S, ds, ps => if S.e ≠ 0 then (S, ds, ps) else if UN L S [112, 114, 101, 100] = true then Z9 L f (Jv L S).1 ds (ps ++ [(Jv L S).2])
    else if 0 ≤ QQ L S [118, 97, 114] then Z9 L f (Ug L S).1 (ds ++ (Ug L S).2) ps else (S, ds, ps)
def X8(L:List Tk):PS×Pg:=
 let G:=Z9 L (L.length+1) ⟨0,0,0⟩ [] []
 let B:=Q3 L L.length G.1 0
 let S:=QS L B.1 [59]
 (if(Qi L S).k≠4 then Q4 S (Qi L S).a 2 else S,⟨G.2.1,G.2.2,B.2⟩)

def yR(L:List Tk):Prop:= ∀j t,L[j]? =some t→t.k≠4→j+1<L.length
def Xt(L:List Tk)(S S':PS):Prop:=S.i≤S'.i∧(S.i<L.length→S'.i<L.length)
theorem Xt.refl(L:List Tk)(S:PS):Xt L S S:=⟨Nat.le_refl _,id⟩
theorem Xt.trans{L:List Tk}{a b c:PS}(x:Xt L a b)(y:Xt L b c):Xt L a c:=⟨Nat.le_trans x.1 y.1,fun h=>y.2 (x.2 h)⟩
section
variable {L:List Tk} (hL:yR L)
theorem Rs{S:PS}(he:S.e=0)(hi:S.i<L.length):L[S.i]? =some (Qi L S):=by
 rw[Qi,if_neg (by simp[he]),List.getElem?_eq_getElem hi];rfl
theorem JY(S:PS)(a e:Int):Xt L S (Q4 S a e):=by unfold Q4;split<;>exact Xt.refl _ _
include hL
theorem Q0(S:PS):Xt L S (Qd L S):=by
 unfold Qd
 split
 ·rename_i h;refine⟨Nat.le_succ _,fun hi=>hL S.i _ (Rs h.1 hi) h.2⟩
 ·exact Xt.refl _ _
omit hL in
theorem Rt{S:PS}(h:(Qi L S).k≠4)(he:S.e=0):S.i<(Qd L S).i:=by
 rw[Qd,if_pos ⟨he,h⟩];exact Nat.lt_succ_self _
theorem Jc(S:PS)(w:List Nat):Xt L S (Q8 L S w):=by unfold Q8;split;exact Q0 hL S;exact Xt.refl _ _
theorem Ue(S:PS)(w:List Nat):Xt L S (QS L S w):=by unfold QS;split;exact Q0 hL S;exact JY _ _ _
theorem J4(S:PS):Xt L S (Jf L S):=by unfold Jf;split;exact JY _ _ _;exact Q0 hL S
theorem G0{el:PS→PR}(h: ∀S,Xt L S (el S).1)(w:List Nat): ∀k S l,Xt L S (Wk el L w k S l).1
 |0,S,l=>Xt.refl _ _
 |k+1,S,l=>by
  rw[Wk]
  split
  ·exact Xt.refl _ _
  split
  ·exact JY _ _ _
  split
  ·exact((h S).trans (Q0 hL _)).trans (G0 h w k _ _)
  ·exact(h S).trans (Ue hL _ _)
theorem RH{el:PS→PR}(h: ∀S,Xt L S (el S).1)(w:List Nat)(S:PS):Xt L S (Vp el L w S).1:=by
 unfold Vp;split
 ·exact Q0 hL S
 ·exact G0 hL h w _ _ _
theorem RG(S:PS):Xt L S (AS L S).1:=by
 have h1:=Q0 hL S;have h2:=h1.trans (Q0 hL (Qd L S));unfold AS
 split
 ·split
  ·exact h2.trans (JY _ _ _)
  ·exact h2.trans (Q0 hL _)
 ·exact h1
theorem Ha(S:PS):Xt L S (JT L S).1:=by
 unfold JT
 split
 ·exact RG hL S
 split
 ·exact Q0 hL S
 ·exact JY _ _ _
theorem Ed(S:PS):Xt L S (JF L S).1:=by
 unfold JF
 split
 ·exact RG hL S
 split
 ·exact Q0 hL S
 split
 ·exact(Q0 hL S).trans (RH hL (Ha hL) _ _)
 ·exact JY _ _ _
theorem Oc: ∀k S n,Xt L S (Wa L k S n).1
 |0,S,n=>Xt.refl _ _
 |k+1,S,n=>by
  rw[Wa]
  split
  ·exact Xt.refl _ _
  split
  ·exact Xt.refl _ _
  ·exact((Q0 hL S).trans (Ed hL _)).trans (Oc k _ _)
theorem Yp(S:PS):Xt L S (Jt L S).1:=(Ed hL S).trans (Oc hL _ _ _)
theorem jx(S:PS):Xt L S (UU L S).1:=by
 unfold UU
 split
 ·exact((Q0 hL S).trans (Q0 hL _)).trans (RH hL (Yp hL) _ _)
 split
 ·exact((Yp hL S).trans (Q0 hL _)).trans (Yp hL _)
 ·show Xt L S (if _ then _ else _)
  split
  ·exact(Yp hL S).trans (JY _ _ _)
  ·exact Yp hL S
omit hL in
theorem Jj(S:PS)(d:Nat):Xt L S (QF L S d):=by unfold QF;split;exact JY _ _ _;exact Xt.refl _ _
theorem Od{p:PS→PR}(h: ∀S,Xt L S (p S).1)(op w:List Nat): ∀k S n,Xt L S (V4 p op w L k S n).1
 |0,S,n=>Xt.refl _ _
 |k+1,S,n=>by
  rw[V4]
  split
  ·exact((Q0 hL S).trans (h _)).trans (Od h op w k _ _)
  ·exact Xt.refl _ _
theorem Oe{p:PS→PR}(h: ∀S,Xt L S (p S).1)(op w:List Nat)(S:PS):Xt L S (AQ p op w L S).1:=(h S).trans (Od hL h op w _ _ _)
theorem Kc{u:PS→PR}(h: ∀S,Xt L S (u S).1)(S:PS):Xt L S (Wg u L S).1:=Oe hL h _ _ _
theorem FE{u:PS→PR}(h: ∀S,Xt L S (u S).1)(S:PS):Xt L S (Ol u L S).1:=Oe hL (Kc hL h) _ _ _
theorem Hc{u:PS→PR}(h: ∀S,Xt L S (u S).1): ∀k S,Xt L S (ZA u L k S).1
 |0,S=>FE hL h S
 |k+1,S=>by
  rw[ZA]
  split
  ·exact((FE hL h S).trans (Q0 hL _)).trans (Hc h k _)
  ·exact FE hL h S
theorem Ka{u:PS→PR}(h: ∀S,Xt L S (u S).1)(S:PS)(d:Nat):Xt L S (Zh u L S d).1:=by
 unfold Zh
 split
 ·exact Jj _ _
 ·exact(Jj S d).trans (Oe hL (Hc hL h _) _ _ _)
theorem Ob: ∀f S d,Xt L S (YH L f S d).1
 |0,S,d=>Xt.refl _ _
 |f+1,S,d=>by
  have hE:=Jj (L:=L) S d;have hN:=hE.trans (Q0 hL _);have hf:=fun S=>Ob f S (d+1);rw[YH]
  split
  ·exact hE
  split
  ·exact hN.trans (hf _)
  split
  ·exact((hN.trans (J4 hL _)).trans (Ue hL _ _)).trans (Ka hL hf _ _)
  split
  ·exact hN
  split
  ·exact(hN.trans (Ka hL hf _ _)).trans (Ue hL _ _)
  ·exact hE.trans (jx hL _)
theorem YW(f:Nat)(S:PS)(d:Nat):Xt L S (Q3 L f S d).1:=Ka hL (fun S=>Ob hL f S d) S d
theorem It(k:Int): ∀f S l,Xt L S (Zc L k f S l).1
 |0,S,l=>Xt.refl _ _
 |f+1,S,l=>by
  rw[Zc]
  split
  ·exact Xt.refl _ _
  split
  ·exact((J4 hL S).trans (Q0 hL _)).trans (It k f _ _)
  ·exact(J4 hL S).trans (Ue hL _ _)
theorem Kb(S:PS):Xt L S (Ug L S).1:=(Q0 hL S).trans (It hL _ _ _ _)
theorem Hb(S:PS)(n:Nat):Xt L S (Eg L S n):=by
 have h:Xt L S (Qd L (if QQ L S [118,97,114]<0 then Q4 S (Qi L S).a 2 else S)):=by
  split
  ·exact(JY _ _ _).trans (Q0 hL _)
  ·exact Q0 hL _
 unfold Eg;simp only
 split
 ·exact h.trans (JY _ _ _)
 ·exact h
theorem Li: ∀f S l,Xt L S (Zd L f S l).1
 |0,S,l=>Xt.refl _ _
 |f+1,S,l=>by
  rw[Zd]
  split
  ·exact Xt.refl _ _
  split
  ·exact(((Hb hL S _).trans (J4 hL _)).trans (Q0 hL _)).trans (Li f _ _)
  ·exact((Hb hL S _).trans (J4 hL _)).trans (Ue hL _ _)
theorem Ee(S:PS):Xt L S (Yk L S).1:=by
 unfold Yk;split
 ·exact Q0 hL S
 ·exact Li hL _ _ _
theorem Dp(S:PS):Xt L S (Jv L S).1:=by
 unfold Jv;exact((((((Q0 hL S).trans (J4 hL _)).trans (Ue hL _ _)).trans (Ee hL _)).trans (Ue hL _ _)).trans (YW hL _ _ _)).trans (Ue hL _ _)
end
end Go.Proofs.YtadjjadimlkkgaaGreatDoor
end
section
namespace Go.Proofs.YtadjjadimlkkgaaGreatDoor
open Go

def E3(s p:ByteArray):Bool:=List.isPrefixOf p.data.toList s.data.toList
def Xk(s:ByteArray)(pos:Nat):Bool:=E3 (s.extract pos s.size) ⟨#[239,191,189]⟩

theorem Bj(s:ByteArray)(i:Nat):(s.get! i).toNat<256:=(s.get! i).toNat_lt

theorem V5(s:ByteArray)(pos:Nat)(h:pos<s.size):1≤(Utf8.decode s pos).2∧pos+(Utf8.decode s pos).2≤s.size:=by
 simp only[Utf8.decode]
 repeat' split
 all_goals simp_all
 all_goals try omega

theorem get_eq(s:ByteArray)(i:Nat)(h:i<s.size):s.get! i=s.data.toList[i]'(by simpa using h):=by
 simp[ByteArray.get!,getElem!_pos,h]

theorem Kl(u:UInt8)(n:Nat)(hn:n<256):u=UInt8.ofNat n↔u.toNat=n:=by
 constructor
 ·rintro rfl
  simp;omega
 ·rintro rfl
  simp

theorem O8(s:ByteArray)(pos:Nat)(h:pos<s.size):Xk s pos=true↔pos+3≤s.size∧(s.get! pos).toNat=239∧(s.get! (pos+1)).toNat=191∧(s.get! (pos+2)).toNat=189:=by
 unfold Xk E3
 have hl:(s.extract pos s.size).data.toList=s.data.toList.drop pos:=by
  rw[ByteArray.data_extract,Array.toList_extract];simp only[List.extract];exact List.take_of_length_le (by simp)
 show List.isPrefixOf [239,191,189] _=true↔_;rw[hl,List.isPrefixOf_iff_prefix,List.prefix_iff_eq_take]
 have hs:s.data.toList.length=s.size:=by simp
 by_cases h3:pos+3≤s.size
 ·rw[List.drop_eq_getElem_cons (by omega),List.drop_eq_getElem_cons (by omega),List.drop_eq_getElem_cons (by omega)];rw[get_eq s pos (by omega),get_eq s (pos+1) (by omega),get_eq s (pos+2) (by omega)];have e0:=Kl (s.data.toList[pos]'(by omega)) 239 (by omega);have e1:=Kl (s.data.toList[pos+1]'(by omega)) 191 (by omega);have e2:=Kl (s.data.toList[pos+2]'(by omega)) 189 (by omega);rw[←e0,←e1,←e2];simp only[List.length_cons,List.length_nil,List.take_succ_cons,List.take_zero,List.cons.injEq,and_true,h3,true_and];constructor
  ·rintro⟨a,b,c⟩;exact⟨a.symm,b.symm,c.symm⟩
  ·rintro⟨a,b,c⟩;exact⟨a.symm,b.symm,c.symm⟩
 ·constructor
  ·intro he;have:=congrArg List.length he;simp at this;omega
  ·intro he;omega

theorem uV(s:ByteArray)(pos:Nat)(h:pos<s.size)(he:(Utf8.decode s pos).1=65533):
  ((Utf8.decode s pos).2=1∧Xk s pos=false)∨((Utf8.decode s pos).2=3∧Xk s pos=true):=by
 have h0:=Bj s pos;have h1:=Bj s (pos+1);have h2:=Bj s (pos+2);have h3:=Bj s (pos+3);have hp:=O8 s pos h;rw[Lib.decode_at]at he ⊢
 generalize (s.get! pos).toNat=b0 at *
 generalize (s.get! (pos+1)).toNat=b1 at *
 generalize (s.get! (pos+2)).toNat=b2 at *
 generalize (s.get! (pos+3)).toNat=b3 at *
 have hf: ¬(pos+3≤s.size∧b0=239∧b1=191∧b2=189)→Xk s pos=false:=by
  intro hn;rw[←hp]at hn
  simpa using hn
 have ht:(pos+3≤s.size∧b0=239∧b1=191∧b2=189)→Xk s pos=true:=hp.2;clear hp;unfold Lib.decodeN at he ⊢
 split at he
 ·simp at he;omega
 ·rename_i c0;rw[if_neg c0]
  split at he
  ·rename_i c1;rw[if_pos c1]
   split at he
   ·simp at he;omega
   ·rename_i c2;rw[if_neg c2];exact .inl ⟨rfl,hf (by omega)⟩
  ·rename_i c1;rw[if_neg c1]
   split at he
   ·rename_i c2;rw[if_pos c2]
    split at he
    ·rename_i c3;rw[if_pos c3];simp at he;exact .inr ⟨rfl,ht (by omega)⟩
    ·rename_i c3;rw[if_neg c3];exact .inl ⟨rfl,hf (by omega)⟩
   ·rename_i c2;rw[if_neg c2]
    split at he
    ·rename_i c3;rw[if_pos c3]
     split at he
     ·simp at he;omega
     ·rename_i c4;rw[if_neg c4];exact .inl ⟨rfl,hf (by omega)⟩
    ·rename_i c3;rw[if_neg c3];exact .inl ⟨rfl,hf (by omega)⟩

theorem uv(s:ByteArray)(pos:Nat)(h:pos<s.size):
  (decide ((Utf8.decode s pos).1=65533)&& !(Xk s pos))=decide ((Utf8.decode s pos).1=65533∧(Utf8.decode s pos).2=1):=by
 by_cases he:(Utf8.decode s pos).1=65533
 ·rcases uV s pos h he with⟨h1,h2⟩|⟨h1,h2⟩
  ·simp[he,h1,h2]
  ·simp[he,h1,h2]
 ·simp[he]

def Yu(s:ByteArray):Nat→Nat→List (Nat×Nat)×Option Nat
 |0,_=>([],none)
 |f+1,p=>
  if p<s.size then
   if(Utf8.decode s p).1=65533∧(Utf8.decode s p).2=1 then([],some p)
   else(((Utf8.decode s p).1,p)::(Yu s f (p+(Utf8.decode s p).2)).1,(Yu s f (p+(Utf8.decode s p).2)).2)
  else([],none)
def each(s:ByteArray):List (Nat×Nat)×Option Nat:=Yu s s.size 0
def JE:Option Nat→Int
 |none=> -1
 |some p=>p
def runeCells(l:List (Nat×Nat)):List Value:=l.flatMap fun x=>[.int .i32 x.1,.int .i64 x.2]

theorem WY(s:ByteArray)(f p:Nat)(h: ¬p<s.size):Yu s f p=([],none):=by
 cases f<;>simp[Yu,h]
theorem AI(s:ByteArray)(f p:Nat)(h:p<s.size)(ho:(Utf8.decode s p).1=65533∧(Utf8.decode s p).2=1):Yu s (f+1) p=([],some p):=by
 rw[Yu,if_pos h,if_pos ho]
theorem XQ(s:ByteArray)(f p:Nat)(h:p<s.size)(ho: ¬((Utf8.decode s p).1=65533∧(Utf8.decode s p).2=1)):
  Yu s (f+1) p=(((Utf8.decode s p).1,p)::(Yu s f (p+(Utf8.decode s p).2)).1,(Yu s f (p+(Utf8.decode s p).2)).2):=by
 rw[Yu,if_pos h,if_neg ho]
theorem Fe(l:List (Nat×Nat))(c p:Nat):runeCells l++[.int .i32 c,.int .i64 p]=runeCells (l++[(c,p)]):=by
 simp[runeCells]
end Go.Proofs.YtadjjadimlkkgaaGreatDoor
end
