/-
  Several texts in one: XLift, XOpen, XSymH, XSum, XSymI.
-/
import Derived.WalkKit
import Derived.Test.YtadjjadimlkkgaaGreatDoorKtSy1
set_option linter.unusedSimpArgs false
set_option linter.unusedVariables false
section

namespace Go.Proofs.YtadjjadimlkkgaaGreatDoor
open Go Go.RowKit

def X4(h:Hp)(c m:Nat)(l:List AV):Prop:= ∃ro e vs ms,h c=some (.row ro ms)∧ms[m]? =some (e,vs,some l)
def AZ(h h':Hp):Prop:= ∀c m l,X4 h c m l→X4 h' c m l
abbrev Mj:=List (Pl×List AV)
def qO(ml:Mj):JM:=fun c m=>if c=0 then(ml[m]?).map Prod.fst else none
def Rr(ml:Mj):Hr:=.row true (ml.map fun x=>(x.2.length,x.1.d,some x.2))
def jN(ml:Mj):Hp:=fun c=>if c=0 then some (Rr ml)else none
theorem Sy(ml:Mj)(m:Nat):qO ml 0 m=(ml[m]?).map Prod.fst:=if_pos rfl
theorem Ri(ml:Mj):exts (Rr ml)=ml.map fun x=>x.2.length:=by
 simp[exts,Rr,Function.comp_def]
section
variable {P:Program} {H:Type} {enc:TypeId×Value→H} {W:World}
def Ox(W:World)(ml:Mj):Prop:= ∀(m:Nat) (q:Pl) (l:List AV),ml[m]? =some (q,l)→ ∃(arr:Array Value) (el:TypeId) (fr:Nat×Nat),W.heap[q.b]? =some (.cells arr el fr)∧q.d+q.e≤arr.size∧l.length≤q.e∧
 ∀j v,l[j]? =some v→arr[q.d+j]? =some (Qm (qO ml) v)∧WF (jN ml) v∧JD v=true
theorem Ox.nil:Ox W []:=fun m q l h=>by simp at h
theorem Ox.hr{ml:Mj}(h:Ox W ml):HR W (qO ml) (jN ml) W:=by
 have hdom: ∀c m x,qO ml c m=some x→c=0∧ ∃l,ml[m]? =some (x,l):=by
  intro c m x hx;unfold qO at hx
  split at hx
  ·rename_i hc
   cases hm:ml[m]? with
   |none=>rw[hm]at hx;cases hx
   |some y=>rw[hm]at hx;injection hx with hx;subst hx;exact⟨hc,y.2,rfl⟩
  ·cases hx
 refine⟨rfl,rfl,rfl,Nat.le_refl _,fun _ _=>rfl,fun c m x hx=>?_,fun c m x hx=>?_,fun c m x c' m' x' hx hx' _=>?_,fun c C hC=>?_⟩
 ·obtain⟨rfl,l,hm⟩:=hdom c m x hx;exact⟨Rr ml,if_pos rfl,by rw[Ri,List.length_map];exact(List.getElem?_eq_some_iff.1 hm).1⟩
 ·obtain⟨rfl,l,hm⟩:=hdom c m x hx;obtain⟨arr,el,fr,h1,_⟩:=h m x l hm;exact(Array.getElem?_eq_some_iff.1 h1).1
 ·rw[(hdom c m x hx).1,(hdom c' m' x' hx').1]
 ·unfold jN at hC
  split at hC
  ·rename_i hc0
   injection hC with hC
   subst hC hc0;refine⟨fun m e vs cs hm=>?_,fun m e vs cs m' e' vs' cs' q q' hm hm' hq hq' hb=>?_⟩
   ·rw[List.getElem?_map]at hm
    cases hx:ml[m]? with
    |none=>rw[hx]at hm;cases hm
    |some y=>
     rw[hx]at hm;simp only[Option.map_some,Option.some.injEq,Prod.mk.injEq]at hm;obtain⟨rfl,rfl,rfl⟩:=hm;obtain⟨q,l⟩:=y;obtain⟨arr,el,fr,h1,h2,h3,h4⟩:=h m q l hx;refine⟨q,arr,el,by rw[Sy,hx];rfl,⟨fr,h1,fun e=>nomatch e⟩,h2,h3,fun e=>(nomatch e),fun l' hl'=>?_⟩
     injection hl' with hl'
     subst hl';exact⟨rfl,h4⟩
   ·rw[List.getElem?_map]at hm hm';rw[Sy]at hq hq'
    cases hx:ml[m]? with
    |none=>rw[hx]at hq;cases hq
    |some y=>
     cases hx':ml[m']? with
     |none=>rw[hx']at hq';cases hq'
     |some y'=>
      rw[hx]at hm hq;rw[hx']at hm' hq';simp only[Option.map_some,Option.some.injEq,Prod.mk.injEq]at hm hm' hq hq';obtain⟨_,rfl,_⟩:=hm;obtain⟨_,rfl,_⟩:=hm';subst hq hq';omega
  ·cases hC

theorem Bj{α:Type}{z:Nat}(hz:0<z): ∀(css:List (List α)),(∀c∈css,c.length=z)→ ∀j,css.flatten[j]? =(css[j/z]?).bind fun c=>c[j % z]? :=by
 intro css
 induction css with
 |nil=>intro _ j;simp
 |cons c css ih=>
  intro h j;have hc:=h c (List.mem_cons_self ..);rw[List.flatten_cons,List.getElem?_append]
  by_cases hj:j<z
  ·rw[if_pos (by omega),Nat.div_eq_of_lt hj,Nat.mod_eq_of_lt hj];rfl
  ·rw[if_neg (by omega),ih (fun c hc=>h c (List.mem_cons_of_mem _ hc)),hc]
   have e1:j/z=(j-z)/z+1:=by
    conv=>lhs;rw[show j=(j-z)+z by omega]
    exact Nat.add_div_right _ hz
   have e2:j % z=(j-z) % z:=by
    conv=>lhs;rw[show j=(j-z)+z by omega]
    exact Nat.add_mod_right _ _
   rw[e1,e2];rfl
end
end Go.Proofs.YtadjjadimlkkgaaGreatDoor
end

section

namespace Go.Proofs.YtadjjadimlkkgaaGreatDoor
open Go Go.RowKit

noncomputable section
def stM(ml:Mj):St:=⟨1,Tr.nil.set 0 (Rr ml)⟩
end
theorem O7(ml:Mj):(stM ml).h.get=jN ml:=by
 funext c
 show(Tr.nil.set 0 (Rr ml)).get c=_;rw[Tr.Fl];unfold jN
 split
 ·rfl
 ·rw[Tr.get_nil]
theorem ND(ml:Mj):Q3 (stM ml):=fun c hc=>by
 rw[O7];have hc:1≤c:=hc;unfold jN;rw[if_neg (by omega)]
variable {P:Program} {G:Env} {W:World}
theorem PD(hG0: ∀g,G.g g=false)(hE:Kq P G)(hm:P.follows .mixedOrders=true){f:FuncId}{args:List AV}{ml:Mj}(hM:Ox W ml)(hw:ZG (jN ml) args)
  (h: ∃v st',Ev P G f args (stM ml) v st'∧v=.bool true) (hi:G.i W:=by trivial):Calls P f (Q4 (qO ml) args).toArray W fun e w'=>e=.returned (.bool true)∧Below W.heap.size W w':=by
 obtain⟨v,st',⟨L,n,h⟩,rfl⟩:=h;have hc:=((Gd (OW hm) hE L n f args (stM ml) (.bool true) st' h (ND ml) (by rw[O7];exact hw)).2 W (qO ml) W (by rw[O7];exact hM.hr) ⟨fun g hg=>(by rw[hG0]at hg;cases hg),hi⟩).2;refine hc.mono fun e w'=>?_
 rintro⟨p',rfl,hs,_⟩
 exact⟨rfl,hs.hr.os,hs.hr.tape,hs.hr.output,hs.hr.size,hs.hr.old⟩
end Go.Proofs.YtadjjadimlkkgaaGreatDoor
end

section

namespace Go.Proofs.YtadjjadimlkkgaaGreatDoor
open Go

def JS(h:Hp)(c m:Nat)(l:List AV):Prop:= ∃vs ms,h c=some (.row false ms)∧ms[m]? =some (l.length,vs,some l)
structure Fb(X:List Nat)(st st':St):Prop where
 fresh:Q3 st'
 le:st.n≤st'.n
 old: ∀c,c<st.n→c∉X→st'.h.get c=st.h.get c
theorem Qt.UG{st st':St}(q:Qt st st')(X:List Nat):Fb X st st':=⟨q.fresh,q.le,fun c hc _=>q.old c hc⟩
theorem JS.lt{st:St}(hf:Q3 st){c m:Nat}{l:List AV}(r:JS st.h.get c m l):c<st.n:=by
 obtain⟨vs,ms,h1,h2⟩:=r
 exact Nat.lt_of_not_le fun hle=>by rw[hf c hle]at h1;cases h1
theorem JS.Vl{h:Hp}{c m:Nat}{l:List AV}(r:JS h c m l):X4 h c m l:=by
 obtain⟨vs,ms,h1,h2⟩:=r;exact⟨false,_,vs,ms,h1,h2⟩
theorem JS.UG{X:List Nat}{st st':St}(hf:Q3 st)(q:Fb X st st'){c m:Nat}{l:List AV}(r:JS st.h.get c m l)(hc:c∉X):JS st'.h.get c m l:=by
 have hlt:=r.lt hf;obtain⟨vs,ms,h1,h2⟩:=r;exact⟨vs,ms,by rw[q.old c hlt hc];exact h1,h2⟩
theorem X4.lt{st:St}(hf:Q3 st){c m:Nat}{l:List AV}(r:X4 st.h.get c m l):c<st.n:=by
 obtain⟨ro,e,vs,ms,h1,h2⟩:=r
 exact Nat.lt_of_not_le fun hle=>by rw[hf c hle]at h1;cases h1
theorem X4.UG{X:List Nat}{st st':St}(hf:Q3 st)(q:Fb X st st'){c m:Nat}{l:List AV}(r:X4 st.h.get c m l)(hc:c∉X):X4 st'.h.get c m l:=by
 have hlt:=r.lt hf;obtain⟨ro,e,vs,ms,h1,h2⟩:=r;exact⟨ro,e,vs,ms,by rw[q.old c hlt hc];exact h1,h2⟩
section
variable {P:Program} {G:Env} {N:Nat} {h0:Hp} {n0:Nat} {X:List Nat} {st:St} {M:List (Nat×Nat×List AV)}
theorem Mem.jv{st:St}(hf:Q3 st)(M:List (Nat×Nat×List AV))(hr: ∀c m l,(c,m,l)∈M→JS st.h.get c m l)(hn:(M.map Prod.fst).Nodup):Mem st.h.get st.n (M.map Prod.fst) st M:=
 ⟨hf,Nat.le_refl _,hf,hr,fun c m l h=>(hr c m l h).lt hf,fun c m l h=>.inr (List.mem_map.2 ⟨_,h,rfl⟩),hn,fun _ _ _=>rfl⟩
theorem Mem.Yv{st:St}(hf:Q3 st){c m:Nat}{l:List AV}(r:JS st.h.get c m l):Mem st.h.get st.n [c] st [(c,m,l)]:=
 Mem.jv hf [(c,m,l)] (fun c' m' l' h=>by simp at h;obtain⟨rfl,rfl,rfl⟩:=h;exact r) (by simp)
theorem Mem.UG{st0:St}(h:Mem st0.h.get st0.n X st M):Fb X st0 st:=⟨h.fresh,h.le,h.old⟩
theorem Mem.Qr(h:Mem h0 n0 X st M){k c m:Nat}{l:List AV}(hk:M[k]? =some (c,m,l)):JS st.h.get c m l:=h.row c m l (List.mem_of_getElem? hk)
theorem Mem.An(h:Mem h0 n0 X st M){c m:Nat}{l:List AV}(hx:c∉X)(r:X4 h0 c m l):X4 st.h.get c m l:=by
 obtain⟨ro,e,vs,ms,h1,h2⟩:=r
 have hc:c<n0:=Nat.lt_of_not_le fun hle=>by rw[h.base c hle]at h1;cases h1
 exact⟨ro,e,vs,ms,by rw[h.old c hc hx];exact h1,h2⟩
theorem Mem.DM(h:Mem h0 n0 X st M){Y:List Nat}{st':St}(q:Fb Y st st')(hY: ∀c∈Y,∃m l,(c,m,l)∈M){M':List (Nat×Nat×List AV)}(hn:(M'.map Prod.fst).Nodup)
  (hM: ∀c m l,(c,m,l)∈M'→((c,m,l)∈M∧c∉Y)∨(JS st'.h.get c m l∧((∃m l,(c,m,l)∈M)∨st.n≤c))):Mem h0 n0 X st' M':=by
 have hrow: ∀c m l,(c,m,l)∈M'→JS st'.h.get c m l:=fun c m l hm=>by
  rcases hM c m l hm with⟨h1,h2⟩|⟨h1,_⟩
  ·exact JS.UG h.fresh q (h.row c m l h1) h2
  ·exact h1
 refine⟨q.fresh,Nat.le_trans h.le q.le,h.base,hrow,fun c m l hm=>(hrow c m l hm).lt q.fresh,fun c m l hm=>?_,hn,fun c hc hx=>?_⟩
 ·rcases hM c m l hm with⟨h1,_⟩|⟨_,⟨m',l',h1⟩|h1⟩
  ·exact h.own c m l h1
  ·exact h.own c m' l' h1
  ·exact .inl (Nat.le_trans h.le h1)
 ·rw[q.old c (Nat.lt_of_lt_of_le hc h.le) fun hcY=>?_]
  ·exact h.old c hc hx
  ·obtain⟨m,l,hm⟩:=hY c hcY;rcases h.own c m l hm with h1|h1
   ·omega
   ·exact hx h1
theorem Mem.JV(h:Mem h0 n0 X st M){k c m m':Nat}{l l':List AV}{st':St}(hk:M[k]? =some (c,m,l))(q:Fb [c] st st')(r:JS st'.h.get c m' l'):Mem h0 n0 X st' (M.set k (c,m',l')):=by
 have hm0:=List.mem_of_getElem? hk
 have hfst:(M.set k (c,m',l')).map Prod.fst=M.map Prod.fst:=by
  apply List.ext_getElem?;intro i;rw[List.getElem?_map,List.getElem?_map,List.getElem?_set]
  by_cases h:k=i
  ·subst h;rw[if_pos rfl,hk];have:=(List.getElem?_eq_some_iff.1 hk).1;simp[this]
  ·rw[if_neg h]
 refine h.DM q (fun c' hc=>?_) (by rw[hfst];exact h.nodup) fun c1 m1 l1 hm=>?_
 ·rw[List.mem_singleton]at hc;subst hc;exact⟨m,l,hm0⟩
 ·obtain⟨i,hi⟩:=List.getElem?_of_mem hm;rw[List.getElem?_set]at hi
  by_cases hki:k=i
  ·subst hki;have:=(List.getElem?_eq_some_iff.1 hk).1;simp[this]at hi;obtain⟨rfl,rfl,rfl⟩:=hi;exact .inr ⟨r,.inl ⟨m,l,hm0⟩⟩
  ·rw[if_neg hki]at hi;refine .inl ⟨List.mem_of_getElem? hi,fun e=>hki ?_⟩;rw[List.mem_singleton]at e
   have h1:(M.map Prod.fst)[k]? =some c:=by rw[List.getElem?_map,hk];rfl
   have h2:(M.map Prod.fst)[i]? =some c:=by rw[List.getElem?_map,hi];simp[e]
   exact(List.getElem?_inj (List.getElem?_eq_some_iff.1 h1).1 h.nodup).1 (h1.trans h2.symm)
theorem Mem.Z0(h:Mem h0 n0 X st M){c m:Nat}{l:List AV}{st':St}(q:Qt st st')(r:JS st'.h.get c m l)(hc:st.n≤c):Mem h0 n0 X st' ((c,m,l)::M):=by
 refine h.DM (q.UG []) (fun c' hc=>by simp at hc) ?_ fun c1 m1 l1 hm=>?_
 ·rw[List.map_cons];refine List.nodup_cons.2 ⟨fun hm=>?_,h.nodup⟩;obtain⟨⟨c',m',l'⟩,h1,h2⟩:=List.mem_map.1 hm;have:=h.lt c' m' l' h1;simp only at h2;omega
 ·rcases List.mem_cons.1 hm with e|hm
  ·injection e with e1 e2
   injection e2 with e2 e3
   subst e1 e2 e3;exact .inr ⟨r,.inr hc⟩
  ·exact .inl ⟨hm,by simp⟩

structure N2(P:Program)(t e:TypeId)(z:Nat):Prop where
 u:P.underlying t=some (.slice e)
 s:(P.underlying e).isSome=true
 zc: ∃zc,zeroOf P e=some zc∧zc.length=z
 c:P.cellsOf e=z
 p:1≤z
 b:P.bytesOf e≤1000000
theorem Wk{α β:Type}: ∀(n:Nat) (l:List α) (k:List α→Option β),n≤l.length→Aj n l k=k (l.take n):=by
 intro n
 induction n with
 |zero=>intro l k _;rfl
 |succ n ih=>
  intro l k hl
  cases l with
  |nil=>simp at hl
  |cons a l=>exact ih l _ (by simpa using hl)
theorem X4.rowOf{h:Hp}{c m:Nat}{l:List AV}(r:X4 h c m l): ∃e vs ro ms,rowOf h c m=some (e,vs,l,ro,ms):=by
 obtain⟨ro,e,vs,ms,h1,h2⟩:=r;refine⟨e,vs,ro,ms,?_⟩;unfold Proofs.YtadjjadimlkkgaaGreatDoor.rowOf;rw[h1,QC];show ob (nth ms m) _=_;rw[YA,h2];rfl
theorem Wg{t e:TypeId}{z:Nat}(T:N2 P t e z){s:AV}{c2 m2 off2 n z2:Nat}{l2:List AV}(hr2:X4 st.h.get c2 m2 l2)(hle:off2+n *z≤l2.length): ∃e2 vs2 ro2 ms2,
  Zx P [t,t] s (.sl c2 m2 off2 n z2) st=(match s with
   |.nils=>Qo (Nat.beq n 0) (some (.nils,st)) (Jt (Nat.ble n 1000000) (AI ((l2.drop off2).take (n *z)) st fun _ c st=>Yp (P.cellsOf e) fun z=>some (.sl c 0 0 n z,st)))
   |.sl c m off len esz=>Jt (Nat.beq esz (P.cellsOf e)) (ob (rowOf st.h.get c m) fun r=>Jt (!r.2.2.2.1) (Yp (len *esz) fun lz=>Aj lz (EA off r.2.2.1) fun olds=>
    Qo (Nat.beq n 0) (some (s,st)) (Jt (Nat.ble (len+n) 1000000) (Vh (X3 olds ((l2.drop off2).take (n *z))) fun l=>Yp (ZW l) fun k=>Yp (r.2.1+off) fun vs=>
     Vh (X3 (X0 (vs+lz) (vs+lz+n *z) r.2.2.2.2) [(k,vs,some l)]) fun ms=>Wa st c (.row false ms) fun st=>Yp (ZW r.2.2.2.2) fun m'=>Yp (len+n) fun len'=>some (.sl c m' 0 len' esz,st)))))
   |_=>none)∧rowOf st.h.get c2 m2=some (e2,vs2,l2,ro2,ms2):=by
 obtain⟨e2,vs2,ro2,ms2,h2⟩:=hr2.rowOf;refine⟨e2,vs2,ro2,ms2,?_,h2⟩;obtain⟨zc,hz,hzl⟩:=T.zc;unfold Zx;have hz1:=T.p;simp only[Nat.beq_refl,Uj,T.u,T.s,hz,QC,UC,hzl,T.c,Nat.ble_eq_true_of_le T.p,Nat.ble_eq_true_of_le T.b,h2,JP];rw[Wk _ _ _ (by rw[UU,List.length_drop];omega),UU]
 cases s<;>simp only[JP,UC,UF,T.c]
theorem append_nil{t e:TypeId}{z:Nat}(T:N2 P t e z){c2 m2 off2 n z2:Nat}{l2:List AV}(hr2:X4 st.h.get c2 m2 l2)(hle:off2+n *z≤l2.length)(hn:0<n)(hb:n≤1000000):
  Zx P [t,t] .nils (.sl c2 m2 off2 n z2) st=some (.sl st.n 0 0 n z,⟨st.n+1,st.h.set st.n (.row false [(((l2.drop off2).take (n *z)).length,0,some ((l2.drop off2).take (n *z)))])⟩):=by
 obtain⟨_,_,_,_,h,_⟩:=Wg T (s:=.nils) (z2:=z2) hr2 hle;rw[h];have h0:Nat.beq n 0=false:=Rx (by omega);simp only[h0,Jb,Nat.ble_eq_true_of_le hb,Uj,Z4,JP,T.c]
theorem Mem.append(hM:Mem h0 n0 X st M){t e:TypeId}{z:Nat}(T:N2 P t e z){k c m len c2 m2 off2 n z2:Nat}{l l2:List AV}(hk:M[k]? =some (c,m,l))(hl:l.length=len *z)(hr2:X4 st.h.get c2 m2 l2)(hle:off2+n *z≤l2.length)(hn:0<n)(hb:len+n≤1000000):
  ∃m' st1,Zx P [t,t] (.sl c m 0 len z) (.sl c2 m2 off2 n z2) st=some (.sl c m' 0 (len+n) z,st1)∧Mem h0 n0 X st1 (M.set k (c,m',l++(l2.drop off2).take (n *z)))∧st1.n=st.n:=by
 obtain⟨_,_,_,_,h,_⟩:=Wg T (s:=.sl c m 0 len z) (z2:=z2) hr2 hle;have hm0:=List.mem_of_getElem? hk;obtain⟨vs,ms,h1,h2⟩:=hM.row c m l hm0
 have hr:rowOf st.h.get c m=some (l.length,vs,l,false,ms):=by
  unfold rowOf;rw[h1,QC];show ob (nth ms m) _=_;rw[YA,h2];rfl
 have hbeq:Nat.beq n 0=false:=Rx (by omega);have hml:=(List.getElem?_eq_some_iff.1 h2).1;refine⟨ms.length,⟨st.n,st.h.set c (.row false (X0 (vs+len *z) (vs+len *z+n *z) ms++[((l++(l2.drop off2).take (n *z)).length,vs,some (l++(l2.drop off2).take (n *z)))]))⟩,?_,?_,rfl⟩
 ·rw[h];simp only[T.c,Nat.beq_refl,Uj,hr,QC,Bool.not_false,JP];rw[Wk _ _ _ (by rw[UU,List.drop_zero];omega),UU,List.drop_zero,List.take_of_length_le (by omega)];simp only[hbeq,Jb,Nat.ble_eq_true_of_le hb,Uj,JP,UF,UC,Xu,Zg,Nat.add_zero]
 ·have hg: ∀x C,(st.h.set c C).get x=if x=c then some C else st.h.get x:=fun x C=>Tr.Fl _ _ _ _
  refine hM.JV hk ⟨fun x hx=>?_,Nat.le_refl _,fun x hx hX=>?_⟩ ⟨vs,_,(hg _ _).trans (if_pos rfl),?_⟩
  ·show(st.h.set c _).get x=none;have:=hM.lt c m l hm0;have hx:st.n≤x:=hx;rw[hg,if_neg (by omega)];exact hM.fresh x hx
  ·show(st.h.set c _).get x=_;rw[hg,if_neg (by simpa using hX)]
  ·rw[List.getElem?_append_right (by rw[Uu];exact Nat.le_refl _),Uu,Nat.sub_self];rfl
variable {K:List (Nat×AV)}
theorem Fi{x y:Operand}{tys:Array TypeId}{t:TypeId}{u w v:AV}{st1:St}(ht:tys= #[t,t])(hx:Uf G K x=some u)(hy:Uf G K y=some w)(h:Zx P [t,t] u w st=some (v,st1)):ZV P G K (.call {callee:=.builtin .append,args:= #[x,y],argTypes:=tys}) st v st1:=.of fun T hT c d ty pos af g=>by
 subst ht;show(ob (QN G T x) fun a=>ob (QN G T y) fun b=>Zx P [t,t] a b st)=_;rw[hT.QN hx,hT.QN hy,QC,QC,h]
theorem BK{t e:TypeId}{z:Nat}(T:N2 P t e z){s x:AV}(hs:(match s with|.nils=>true|.sl _ _ _ _ _=>true|_=>false)=true)(hx:(match x with|.nils=>true|.sl0 _ _ _=>true|.slz _ _ _ _ _=>true|_=>false)=true):Zx P [t,t] s x st=some (s,st):=by
 obtain⟨zc,hz,hzl⟩:=T.zc;unfold Zx;simp only[Nat.beq_refl,Uj,T.u,T.s,hz,QC,UC,hzl,T.c,Nat.ble_eq_true_of_le T.p,Nat.ble_eq_true_of_le T.b]
 cases x<;>first
  |(cases hx;done)
  |(cases s<;>first|rfl|(cases hs;done))
theorem Gi{t e:TypeId}{z:Nat}(T:N2 P t e z){c2 m2 off2 z2:Nat}{l2:List AV}(hr2:X4 st.h.get c2 m2 l2)(hle:off2≤l2.length):Zx P [t,t] .nils (.sl c2 m2 off2 0 z2) st=some (.nils,st):=by
 obtain⟨_,_,_,_,h,_⟩:=Wg T (s:=.nils) (n:=0) (z2:=z2) hr2 (by simpa using hle);rw[h];rfl
theorem Gh{t e:TypeId}{z:Nat}(T:N2 P t e z){c m len:Nat}{l:List AV}(hr:JS st.h.get c m l)(hl:l.length=len *z){c2 m2 off2 z2:Nat}{l2:List AV}(hr2:X4 st.h.get c2 m2 l2)(hle:off2≤l2.length):Zx P [t,t] (.sl c m 0 len z) (.sl c2 m2 off2 0 z2) st=some (.sl c m 0 len z,st):=by
 obtain⟨_,_,_,_,h,_⟩:=Wg T (s:=.sl c m 0 len z) (n:=0) (z2:=z2) hr2 (by simpa using hle);rw[h];obtain⟨vs,ms,h1,h2⟩:=hr
 have hr:rowOf st.h.get c m=some (l.length,vs,l,false,ms):=by
  unfold rowOf;rw[h1,QC];show ob (nth ms m) _=_;rw[YA,h2];rfl
 simp only[T.c,Nat.beq_refl,Uj,hr,QC,Bool.not_false,JP];rw[Wk _ _ _ (by rw[UU,List.drop_zero];omega)];rfl

theorem Jk.parts{T:Tr AV}(h:Jk K T){parts:Array (Nat×Operand)}{ps:List (Nat×AV)}(hp:XT (Uf G K) parts=some ps):XT (Proofs.YtadjjadimlkkgaaGreatDoor.QN G T) parts=some ps:=by
 unfold XT at hp ⊢;generalize parts.toList=l at hp ⊢
 induction l generalizing ps with
 |nil=>exact hp
 |cons x l ih=>
  rw[Ul]at hp ⊢;obtain⟨b,hb,hp⟩:=Qv hp;obtain⟨t,ht,hp⟩:=Qv hp;obtain⟨v,hv,hb⟩:=Qv hb;rw[h.QN hv,QC,QC,ih ht,QC]
  injection hb with hb
  subst hb;exact hp
structure qo(P:Program)(t:TypeId)(tbl:List (Nat×Nat))(z:List AV):Prop where
 u: ∃fs,P.underlying t=some (.struct fs)∧Ki P fs=true∧fs.toList.map (fun f=>(f.offset,P.cellsOf f.type))=tbl
 z:zeroOf P t=some z
theorem P3(fs:Array Field)(tbl:List (Nat×Nat))(h:fs.toList.map (fun f=>(f.offset,P.cellsOf f.type))=tbl):Lk P fs=nth tbl:=by
 funext i
 subst h;unfold Lk;rw[YA,YA,List.getElem?_map]
 cases fs.toList[i]? <;>rfl
theorem QH{t:TypeId}{parts:Array (Nat×Operand)}{tbl:List (Nat×Nat)}{z r:List AV}{ps:List (Nat×AV)}(S:qo P t tbl z)(hp:XT (Uf G K) parts=some ps)(hf:WC (nth tbl) ps z=some r):ZV P G K (.build t parts) st (.agg r) st:=.of fun T hT c d ty pos af g=>by
 show ret (Em P t parts (QN G T)) st=_;obtain⟨fs,u,ft,hb⟩:=S.u;unfold Em;simp only[u,ft,Uj,S.z,QC,hT.parts hp,P3 fs tbl hb,hf,UF];rfl
theorem F9{t e:TypeId}{len z:Nat}{parts:Array (Nat×Operand)}{zc r:List AV}{ps:List (Nat×AV)}(T:N2 P t e z)(hz:zeroOf P e=some zc)(hp:XT (Uf G K) parts=some ps)(hf:WC (fun i=>some (i *z,z)) ps (Ed len zc)=some r)(hc:Eo JD r=true)(hb:len *z≤16777216)(hM:Mem h0 n0 X st M):
  ∃c st1,ZV P G K (.buildSlice t len parts) st (.sl c 0 0 len z) st1∧Mem h0 n0 X st1 ((c,0,r)::M):=by
 refine⟨st.n,_,.of fun T' hT c d ty pos af g=>?_,hM.alloc r⟩;show XF P t len parts (QN G T') st=_;obtain⟨zc',h1,h2⟩:=T.zc;rw[hz]at h1
 injection h1 with h1
 subst h1;unfold XF;simp only[T.u,T.s,Uj,hz,QC,UC,h2,T.c,Nat.beq_refl,Nat.ble_eq_true_of_le T.p,Nat.ble_eq_true_of_le hb,hT.parts hp,hf,hc,Z4,JP]

theorem Jk.lo{T:Tr AV}(h:Jk K T){lo:Option Operand}{a:Nat}(hl:Xt (Uf G K) lo=some a):Xt (Proofs.YtadjjadimlkkgaaGreatDoor.QN G T) lo=some a:=by
 cases lo with
 |none=>exact hl
 |some x=>
  have hl:(ob (Uf G K x) fun v=>match v with
   |.int _ i=>KQ i
   |_=>none)=some a:=hl
  obtain⟨v,hv,hl⟩:=Qv hl
  show(ob (Proofs.YtadjjadimlkkgaaGreatDoor.QN G T x) fun v=>match v with
   |.int _ i=>KQ i
   |_=>none)=some a
  rw[h.QN hv,QC];exact hl
theorem Jk.hi{T:Tr AV}(h:Jk K T){hi:Option Operand}{n a:Nat}(hl:Xa (Uf G K) hi n=some a):Xa (Proofs.YtadjjadimlkkgaaGreatDoor.QN G T) hi n=some a:=by
 cases hi with
 |none=>exact hl
 |some x=>
  have hl:(ob (Uf G K x) fun v=>match v with
   |.int _ i=>KQ i
   |_=>none)=some a:=hl
  obtain⟨v,hv,hl⟩:=Qv hl
  show(ob (Proofs.YtadjjadimlkkgaaGreatDoor.QN G T x) fun v=>match v with
   |.int _ i=>KQ i
   |_=>none)=some a
  rw[h.QN hv,QC];exact hl
theorem P7{t:TypeId}{x:Operand}{lo hi:Option Operand}{l:List Nat}{a b:Nat}(ht:P.underlying t=some .string)(hx:Uf G K x=some (.str l))(hl:Xt (Uf G K) lo=some a)(hh:Xa (Uf G K) hi l.length=some b)(h1:a≤b)(h2:b≤l.length):
  ZV P G K (.slice t x lo hi none) st (.str ((l.drop a).take (b-a))) st:=GJ hx fun T hT=>by
 unfold Ec;simp only[ht,JP,UC,hT.lo hl,hT.hi hh,QC,Nat.ble_eq_true_of_le h1,Nat.ble_eq_true_of_le h2,Uj];rw[Wk _ _ _ (by rw[UU,List.length_drop];omega),UU]
theorem P8{t:TypeId}{x:Operand}{lo hi:Option Operand}{c m off len z a b:Nat}(he:Yt P t=some z)(hx:Uf G K x=some (.sl c m off len z))(hl:Xt (Uf G K) lo=some a)(hh:Xa (Uf G K) hi len=some b)(h1:a≤b)(h2:b≤len):
  ZV P G K (.slice t x lo hi none) st (Qo (Qo (Nat.beq a 0) true (Nat.ble (a+1) len)) (.sl c m (off+a *z) (b-a) z) (.slz c m off a z)) st:=GJ hx fun T hT=>by
 unfold Ec;simp only[he,QC,JP,hT.lo hl,hT.hi hh,Nat.ble_eq_true_of_le h1,Nat.ble_eq_true_of_le h2,Uj,Nat.beq_refl]
 cases Qo (Nat.beq a 0) true (Nat.ble (a+1) len)<;>rfl
theorem H8{s d:TypeId}{x:Operand}{k k':IntKind}{n:Int}(hd:P.underlying d=some (.int k'))(hs:P.underlying s=some (.int k))(hx:Uf G K x=some (.int k n)):ZV P G K (.convert s d x) st (.int k' (k'.wrap n)) st:=Lq hx (by
 unfold Ol;simp only[hs];unfold conv
 simp only[hd,hs,Option.isSome_some,Uj,XO,YP])
end

structure J8(h:Hp)(X:List Nat)(z:Nat)(ls:List (List AV))(ks:AV):Prop where
 len:V5 ks=some ls.length
 Yx:(ls.length:Int)≤9223372036854775807
 cell:JD ks=true
 at_: ∀(i:Nat) (cs:List AV),ls[i]? =some cs→ ∃c m off cells,ks=.sl c m off ls.length z∧c∉X∧X4 h c m cells∧cs.length=z∧(cells.drop (off+i *z)).take z=cs
 alive: ∀(c m off n z':Nat),ks=.sl c m off n z'→c∉X∧ ∃cells,X4 h c m cells∧off+n *z≤cells.length
theorem J8.mem{h0:Hp}{n0:Nat}{X Y:List Nat}{st:St}{M:List (Nat×Nat×List AV)}(hM:Mem h0 n0 Y st M){z:Nat}{ls:List (List AV)}{ks:AV}(r:J8 h0 X z ls ks)(hY: ∀c∈Y,c∈X):J8 st.h.get X z ls ks:=
 ⟨r.len,r.Yx,r.cell,fun i cs hi=>by
  obtain⟨c,m,off,cells,h1,h2,h3,h4⟩:=r.at_ i cs hi
  exact⟨c,m,off,cells,h1,h2,hM.An (fun hc=>h2 (hY c hc)) h3,h4⟩,fun c m off n z' e=>by
  obtain⟨h1,cells,h2,h3⟩:=r.alive c m off n z' e
  exact⟨h1,cells,hM.An (fun hc=>h1 (hY c hc)) h2,h3⟩⟩
theorem J8.nil(h:Hp)(X:List Nat)(z:Nat):J8 h X z [] .nils:=⟨rfl,by simp,rfl,fun i cs hi=>by simp at hi,fun _ _ _ _ _ e=>by cases e⟩
theorem WB{z:Nat}: ∀{ls:List (List AV)},(∀cs∈ls,cs.length=z)→ls.flatten.length=ls.length *z:=by
 intro ls
 induction ls with
 |nil=>intro _;simp
 |cons a l ih=>
  intro h;rw[List.flatten_cons,List.length_append,ih fun cs hc=>h cs (List.mem_cons_of_mem _ hc),h a (List.mem_cons_self ..),List.length_cons,Nat.succ_mul,Nat.add_comm]
theorem Fm{z:Nat}: ∀{ls:List (List AV)} (i:Nat) (cs:List AV),(∀cs∈ls,cs.length=z)→ls[i]? =some cs→(ls.flatten.drop (i *z)).take z=cs:=by
 intro ls
 induction ls with
 |nil=>intro i cs _ h;simp at h
 |cons a l ih=>
  intro i cs hz hi;have ha:=hz a (List.mem_cons_self ..)
  cases i with
  |zero=>
   simp at hi;subst hi;rw[Nat.zero_mul,List.drop_zero,List.flatten_cons,List.take_append_of_le_length (by omega),List.take_of_length_le (by omega)]
  |succ i=>
   rw[Nat.succ_mul,Nat.add_comm,List.flatten_cons,←List.drop_drop,←ha,List.drop_left];rw[ha];exact ih i cs (fun cs hc=>hz cs (List.mem_cons_of_mem _ hc)) (by simpa using hi)
theorem J8.own{h:Hp}{X:List Nat}{c m z:Nat}{ls:List (List AV)}(r:JS h c m ls.flatten)(hz: ∀cs∈ls,cs.length=z)(hX:c∉X)(hb:(ls.length:Int)≤9223372036854775807):J8 h X z ls (.sl c m 0 ls.length z):=
 ⟨rfl,hb,rfl,fun i cs hi=>⟨c,m,0,_,rfl,hX,r.Vl,hz cs (List.mem_of_getElem? hi),by rw[Nat.zero_add];exact Fm i cs hz hi⟩,fun c' m' off n z' e=>by
  injection e with e1 e2 e3 e4 e5
  subst e1 e2 e3 e4 e5
  exact⟨hX,_,r.Vl,by rw[WB hz];omega⟩⟩
theorem J8.load{P:Program}{h:Hp}{X:List Nat}{z:Nat}{ls:List (List AV)}{ks:AV}(r:J8 h X z ls ks){i:Nat}{cs:List AV}(hi:ls[i]? =some cs): ∃c m off,ks=.sl c m off ls.length z∧c∉X∧
  (∀t,tk P t=.agg z→JW P t (.ptr c m (off+i *z)) h=some (.agg cs))∧(∀t j v,tk P t=.one→cs[j]? =some v→JW P t (.ptr c m (off+i *z+j)) h=some v)∧
  ∀t j n,tk P t=.agg n→j+n≤z→JW P t (.ptr c m (off+i *z+j)) h=some (.agg ((cs.drop j).take n)):=by
 obtain⟨c,m,off,cells,h1,h2,⟨ro,e,vs,ms,h3,h4⟩,h5,h6⟩:=r.at_ i cs hi
 have hld: ∀t o,JW P t (.ptr c m o) h=VW P t cells o:=fun t o=>by
  show ob (rowOf h c m) _=_;unfold rowOf;rw[h3,QC];show ob (ob (nth ms m) _) _=_;rw[YA,h4];rfl
 have hlen:off+i *z+z≤cells.length∨z=0:=by
  rw[←h6,List.length_take,List.length_drop]at h5;omega
 refine⟨c,m,off,h1,h2,fun t ht=>?_,fun t j v ht hv=>?_,fun t j n ht hj=>?_⟩
 ·rw[hld];refine Ja ht ?_;rw[Wk _ _ _ (by rw[UU,List.length_drop];omega),UU,h6]
 ·rw[hld];refine Ql ht ?_
  have hj:j<z:=by rw[←h5];exact(List.getElem?_eq_some_iff.1 hv).1
  rw[YA,←List.getElem?_drop];rw[←h6,List.getElem?_take,if_pos hj]at hv;exact hv
 ·rw[hld];refine Ja ht ?_;rw[Wk _ _ _ (by rw[UU,List.length_drop];omega),UU,←List.drop_drop,←h6,List.drop_take,List.take_take,Nat.min_eq_left (by omega)]
theorem J8.uy{P:Program}{h h':Hp}{X Y:List Nat}{z:Nat}{ls:List (List AV)}{ks:AV}(r:J8 h X z ls ks)(r':J8 h' Y z ls ks){i:Nat}{cs:List AV}(hi:ls[i]? =some cs): ∃c m off,ks=.sl c m off ls.length z∧c∉X∧
  (∀t,tk P t=.agg z→JW P t (.ptr c m (off+i *z)) h=some (.agg cs))∧(∀t j v,tk P t=.one→cs[j]? =some v→JW P t (.ptr c m (off+i *z+j)) h=some v)∧
  (∀t j n,tk P t=.agg n→j+n≤z→JW P t (.ptr c m (off+i *z+j)) h=some (.agg ((cs.drop j).take n)))∧
  (∀t,tk P t=.agg z→JW P t (.ptr c m (off+i *z)) h'=some (.agg cs))∧(∀t j v,tk P t=.one→cs[j]? =some v→JW P t (.ptr c m (off+i *z+j)) h'=some v)∧
  (∀t j n,tk P t=.agg n→j+n≤z→JW P t (.ptr c m (off+i *z+j)) h'=some (.agg ((cs.drop j).take n))):=by
 obtain⟨c,m,off,e,hX,h1,h2,h3⟩:=r.load (P:=P) hi;obtain⟨c',m',off',e',_,k1,k2,k3⟩:=r'.load (P:=P) hi;rw[e]at e'
 injection e' with e1 e2 e3
 subst e1 e2 e3;exact⟨c,m,off,e,hX,h1,h2,h3,k1,k2,k3⟩
end Go.Proofs.YtadjjadimlkkgaaGreatDoor
end

section

namespace Go.Proofs.YtadjjadimlkkgaaGreatDoor
open Go Go.RowKit

theorem HR.MR{w0:World}{p:JM}{h:Hp}{w w':World}{c:Nat}(H:HR w0 p h w)(hB:Below w.heap.size w w')(hc:h c=none){v:Value}{n z:Nat}{el:TypeId}{as:List AV}(hown:w'.ownsRow w.heap.size el z v n (Q4 p as))(hn:0<n)(hz:0<z)
  (hw:ZG h as) (ho: ∀a∈as,JD a=true): ∃p',Step w0 p w p' (Fy h c (.row false [(as.length,0,some as)])) w'∧v=Qm p' (.sl c 0 0 n z)∧as.length=n *z:=by
 obtain⟨hl,hv⟩:=hown
 have hlen:as.length=n *z:=by rw[←QU p as];exact hl
 rcases hv with⟨_,rfl⟩|⟨g,cap,cur,rfl,hb,hg,hnc,hcm,hsz,htk⟩
 ·omega
 have hgl:=(Array.getElem?_eq_some_iff.1 hg).1;have hle:JM.le p (XA p c g (cap *z)):=Ll H hc _ _
 have hgr:Grow h (Fy h c (.row false [(as.length,0,some as)])):=ZQ fun C hC=>by rw[hc]at hC;cases hC
 refine⟨XA p c g (cap *z),?_,?_,hlen⟩
 ·refine H.Ks hB.os hB.tape hB.output hB.size hle ?_ (fun b hb _=>hB.block b hb) (fun b hb=>hB.block b (Nat.lt_of_lt_of_le hb H.size)) ?_ ?_ (fun C hC=>by rw[hc]at hC;cases hC) ⟨fun m e vs cs hm=>?_,fun m e vs cs m' e' vs' cs' q q' h1 h2 h3 h4 _=>?_⟩
  ·intro c' m x hx;unfold XA at hx
   split at hx
   ·rename_i hh;exact .inr hh.1
   ·exact .inl hx
  ·intro m x hx _;unfold XA at hx
   split at hx
   ·injection hx with hx;subst hx;exact⟨hgl,.inl hb⟩
   ·rw[H.XI hc m]at hx;cases hx
  ·intro m x hx;unfold XA at hx
   split at hx
   ·rename_i hh;rw[hh.2];exact Nat.zero_lt_one
   ·rw[H.XI hc m]at hx;cases hx
  ·cases m with
   |succ m=>simp at hm
   |zero=>
    simp at hm;obtain⟨rfl,rfl,rfl⟩:=hm;refine⟨_,_,el,Y8 _ _ _ _,.of hg,?_,?_,fun _=>Nat.le_trans H.size hb,fun l' hl'=>?_⟩
    ·show 0+cap *z≤cur.size;omega
    ·show as.length≤cap *z;rw[hlen];exact Nat.mul_le_mul_right _ hnc
    ·injection hl' with hl'
     subst hl';refine⟨rfl,fun j v hj=>?_⟩;have hv:=hw.get hj;refine⟨?_,WF.grow hgr v hv,ho v (List.mem_of_getElem? hj)⟩;rw[YU H.Aq hle v hv,Nat.zero_add];have h1:=XQ (p:=p) as j v hj;rw[←htk,List.getElem?_toArray,List.getElem?_take]at h1
     split at h1
     ·rw[Array.getElem?_toList]at h1;exact h1
     ·cases h1
  ·cases m with
   |succ m=>simp at h1
   |zero=>cases m' with
    |succ m'=>simp at h2
    |zero=>
     simp at h1 h2;obtain⟨_,rfl,_⟩:=h1;obtain⟨_,rfl,_⟩:=h2;rw[h3]at h4
     injection h4 with h4
     rw[h4]
 ·simp only[Qm,Y8,Nat.sub_zero,Nat.add_zero];rw[Nat.mul_div_cancel _ hz]
theorem HR.under{w0:World}{p:JM}{h:Hp}{w:World}(H:HR w0 p h w):Below w0.heap.size w0 w:=⟨H.os,H.tape,H.output,H.size,H.old⟩

def Real(P:Program)(f:FuncId):Prop:= ∃fn,P.funcs[f]? =some fn∧fn.body.isSome=true∧(fn.name== "runtime.NumGoroutine")=false
noncomputable def My(F:List AV→Option AV):List AV→St→Option (AV×St):=fun args st=>ob (F args) fun v=>some (v,st)
theorem Mx{P:Program}{G:Env}{f:FuncId}{F:List AV→Option AV}{I:World→Prop}(hr:Real P f)(hI: ∀w0 w,G.i w0→Below w0.heap.size w0 w→I w)
  (hF: ∀(h:Hp) args v,F args=some v→ZG h args→WF h v∧ ∀(p:JM) (w:World),I w→Calls P f (Q4 p args).toArray w fun e w'=>e=.returned (Qm p v)∧Below w.heap.size w w'):FJ P G f (My F):=by
 intro args st v st' hs hf ha;obtain⟨u,hu,hs⟩:=Qv hs
 injection hs with hs
 injection hs with e1 e2
 subst e1 e2;obtain⟨h1,h2⟩:=hF _ _ _ hu ha;refine⟨hr,fun w0 p w H hG=>⟨Ab.refl _,(h2 p w (hI w0 w hG.2 H.under)).mono fun e w' he=>?_⟩⟩;obtain⟨rfl,hb⟩:=he;exact⟨p,rfl,H.Fu hb,h1⟩
noncomputable def EN(z:Nat)(F:List AV→Option (List AV×Nat×List AV)):List AV→St→Option (AV×St):=fun args st=>ob (F args) fun r=>
 Nat.rec (some (.tup (.nils::r.2.2),st)) (fun k _=>some (.tup (.sl st.n 0 0 (k+1) z::r.2.2),⟨st.n+1,st.h.set st.n (.row false [(r.1.length,0,some r.1)])⟩)) r.2.1
theorem NB{P:Program}{G:Env}{f:FuncId}{z:Nat}{el:TypeId}{F:List AV→Option (List AV×Nat×List AV)}{I:World→Prop}(hr:Real P f)(hz:0<z)(hI: ∀w0 w,G.i w0→Below w0.heap.size w0 w→I w)
  (hF: ∀(h:Hp) args as n rest,F args=some (as,n,rest)→ZG h args→ZG h as∧ZG h rest∧(∀a∈as,JD a=true)∧ ∀(p:JM) (w:World),I w→Calls P f (Q4 p args).toArray w fun e w'=>
   ∃v,e=.returned (.tuple (v::Q4 p rest).toArray)∧w'.ownsRow w.heap.size el z v n (Q4 p as)∧Below w.heap.size w w'∧(n=0→v=.slice none 0 0)):FJ P G f (EN z F):=by
 intro args st v st' hs hf ha;obtain⟨⟨as,n,rest⟩,hu,hs⟩:=Qv hs;obtain⟨h1,h2,h3,h4⟩:=hF _ _ _ _ _ hu ha
 cases n with
 |zero=>
  have hs:some (AV.tup (.nils::rest),st)=some (v,st'):=hs
  injection hs with hs
  injection hs with e1 e2
  subst e1 e2;refine⟨hr,fun w0 p w H hG=>⟨Ab.refl _,(h4 p w (hI w0 w hG.2 H.under)).mono fun e w' he=>?_⟩⟩;obtain⟨u,rfl,_,hb,hu⟩:=he;rw[hu rfl];exact⟨p,rfl,H.Fu hb,trivial,h2⟩
 |succ k=>
  have hs:some (AV.tup (.sl st.n 0 0 (k+1) z::rest),(⟨st.n+1,st.h.set st.n (.row false [(as.length,0,some as)])⟩:St))=some (v,st'):=hs
  injection hs with hs
  injection hs with e1 e2
  subst e1 e2;refine⟨hr,fun w0 p w H hG=>⟨Gk hf _,(h4 p w (hI w0 w hG.2 H.under)).mono fun e w' he=>?_⟩⟩;obtain⟨u,rfl,ho,hb,_⟩:=he;obtain⟨p',k1,k2,k3⟩:=H.MR hb (hf st.n (Nat.le_refl _)) ho (Nat.succ_pos k) hz h1 h3;refine⟨p',?_,by rw[UO];exact k1,?_,?_⟩
  ·simp only[Qm,Q4];rw[k2,EC H.Aq k1.le rest h2];rfl
  ·rw[UO];exact Hs _ _ _ _ _ _ _ _ hz (by rw[k3];exact Nat.le_refl _)
  ·exact ZG.grow (Gk hf _).grow rest h2
noncomputable def D9(l:List (FuncId×(List AV→St→Option (AV×St))))(f:FuncId):Option (List AV→St→Option (AV×St)):=List.rec none (fun q _ ih=>Qo (Nat.beq f q.1) (some q.2) ih) l
theorem Rf{l:List (FuncId×(List AV→St→Option (AV×St)))}{f:FuncId}{q:List AV→St→Option (AV×St)}(h:D9 l f=some q):(f,q)∈l:=by
 induction l with
 |nil=>cases h
 |cons x l ih=>
  have h:Qo (Nat.beq f x.1) (some x.2) (D9 l f)=some q:=h
  cases hb:Nat.beq f x.1 with
  |true=>
   rw[hb]at h
   injection h with h
   subst h;rw[Nat.eq_of_beq_eq_true hb];exact List.mem_cons_self ..
  |false=>rw[hb]at h;exact List.mem_cons_of_mem _ (ih h)
end Go.Proofs.YtadjjadimlkkgaaGreatDoor
end

section

namespace Go.Proofs.YtadjjadimlkkgaaGreatDoor
open Go

section
variable {P:Program} {G:Env} {N:Nat} {T:Tr AV} {st:St} {ops rest:List Oper} {K:List (Nat×AV)} {R:Tr AV→St→Prop} {d:Nat} {op:Op} {ty:TypeId} {pos:String} {af:Array Edge} {v:AV} {st1:St}
theorem o1(hK:Jk K T)(h:ZV P G K op st v st1)(hN:Nat.ble (d+1) N=true)(hn: ∀T',Jk ((d,v)::K) T'→WR P G N ops rest R T' st1):WR P G N ops (⟨some d,op,ty,pos,af,none⟩::rest) R T st:=KK hK h (Nat.le_of_ble_eq_true hN) hn
theorem oB{x:Bool}(hK:Jk K T)(h:ZV P G K op st (.bool x) st1)(hN:Nat.ble (d+1) N=true)(hn: ∀(b:Bool) T',x=b→Jk ((d,.bool b)::K) T'→WR P G N ops rest R T' st1):WR P G N ops (⟨some d,op,ty,pos,af,none⟩::rest) R T st:=jn hK h (Nat.le_of_ble_eq_true hN) hn
theorem og{j t:Nat}{pol:Bool}(hK:Jk K T)(ht:UL ops j=some t)(hb:K.lookup t=some (.bool pol))(h:ZV P G K op st v st1)(hN:Nat.ble (d+1) N=true)(hn: ∀T',Jk ((d,v)::K) T'→WR P G N ops rest R T' st1):WR P G N ops (⟨some d,op,ty,pos,af,some (j,pol)⟩::rest) R T st:=qs hK ht hb h (Nat.le_of_ble_eq_true hN) hn
theorem SB{j t:Nat}{pol x:Bool}(hK:Jk K T)(ht:UL ops j=some t)(hb:K.lookup t=some (.bool pol))(h:ZV P G K op st (.bool x) st1)(hN:Nat.ble (d+1) N=true)(hn: ∀(b:Bool) T',x=b→Jk ((d,.bool b)::K) T'→WR P G N ops rest R T' st1):WR P G N ops (⟨some d,op,ty,pos,af,some (j,pol)⟩::rest) R T st:=qs hK ht hb h (Nat.le_of_ble_eq_true hN) (hn x · rfl)
theorem gn{j t:Nat}{b pol:Bool}(hK:Jk K T)(ht:UL ops j=some t)(hb:K.lookup t=some (.bool b))(hne:(b==pol)=false)(hN:Nat.ble (d+1) N=true)(hn: ∀T',Jk ((d,.tup [])::K) T'→WR P G N ops rest R T' st):WR P G N ops (⟨some d,op,ty,pos,af,some (j,pol)⟩::rest) R T st:=uf hK ht hb hne (Nat.le_of_ble_eq_true hN) hn
end
section
variable {P:Program} {G:Env} {N:Nat} {st:St} {K:List (Nat×AV)} {T:Tr AV} {ops:List Oper} {r:List (Nat×Nat)} {R:Tr AV→St→Prop} {sn:List St} {i d:Nat} {op:Op} {ty:TypeId} {pos:String} {af:Array Edge} {v:AV} {st1:St}
theorem d1(ho:ops[i]? =some ⟨some d,op,ty,pos,af,none⟩)(hK:Jk K T)(h:ZV P G K op st v st1)(hk:Nat.beq (Jp P op) 3=false)(hN:Nat.ble (d+1) N=true)(hn: ∀T',Jk ((d,v)::K) T'→WD P G N ops (r.map (VV ops)) R T' st1 sn):WD P G N ops (((i,0)::r).map (VV ops)) R T st sn:=Dd ho hK h hk (Nat.le_of_ble_eq_true hN) hn
theorem dA(ho:ops[i]? =some ⟨some d,op,ty,pos,af,none⟩)(hK:Jk K T)(h:ZV P G K op st v st1)(hk:Nat.beq (Jp P op) 3=true)(hN:Nat.ble (d+1) N=true)(hn: ∀T',Jk ((d,v)::K) T'→WD P G N ops (r.map (VV ops)) R T' st1 (st1::sn)):WD P G N ops (((i,0)::r).map (VV ops)) R T st sn:=BX ho hK h hk (Nat.le_of_ble_eq_true hN) hn
theorem dB{x:Bool}(ho:ops[i]? =some ⟨some d,op,ty,pos,af,none⟩)(hK:Jk K T)(h:ZV P G K op st (.bool x) st1)(hk:Nat.beq (Jp P op) 3=false)(hN:Nat.ble (d+1) N=true)(hn: ∀(b:Bool) T',x=b→Jk ((d,.bool b)::K) T'→WD P G N ops (r.map (VV ops)) R T' st1 sn):WD P G N ops (((i,0)::r).map (VV ops)) R T st sn:=jo ho hK h hk (Nat.le_of_ble_eq_true hN) hn
theorem dg{j t:Nat}{pol:Bool}(ho:ops[i]? =some ⟨some d,op,ty,pos,af,some (j,pol)⟩)(hK:Jk K T)(ht:UL ops j=some t)(hb:K.lookup t=some (.bool pol))(h:ZV P G K op st v st1)(hk:Nat.beq (Jp P op) 3=false)(hN:Nat.ble (d+1) N=true)(hn: ∀T',Jk ((d,v)::K) T'→WD P G N ops (r.map (VV ops)) R T' st1 sn):WD P G N ops (((i,0)::r).map (VV ops)) R T st sn:=uh ho hK ht hb h hk (Nat.le_of_ble_eq_true hN) hn
theorem yq{j t:Nat}{pol:Bool}(ho:ops[i]? =some ⟨some d,op,ty,pos,af,some (j,pol)⟩)(hK:Jk K T)(ht:UL ops j=some t)(hb:K.lookup t=some (.bool pol))(h:ZV P G K op st v st1)(hk:Nat.beq (Jp P op) 3=true)(hN:Nat.ble (d+1) N=true)(hn: ∀T',Jk ((d,v)::K) T'→WD P G N ops (r.map (VV ops)) R T' st1 (st1::sn)):WD P G N ops (((i,0)::r).map (VV ops)) R T st sn:=jq ho hK ht hb h hk (Nat.le_of_ble_eq_true hN) hn
theorem ZB{j t n:Nat}{b pol:Bool}(ho:ops[i]? =some ⟨some d,op,ty,pos,af,some (j,pol)⟩)(hK:Jk K T)(ht:UL ops j=some t)(hb:K.lookup t=some (.bool b))(hne:(b==pol)=false)(hN:Nat.ble (d+1) N=true)(hn: ∀sn' T',Jk ((d,.tup [])::K) T'→WD P G N ops (r.map (VV ops)) R T' st sn'):WD P G N ops (((i,n)::r).map (VV ops)) R T st sn:=ui ho hK ht hb hne (Nat.le_of_ble_eq_true hN) (fun T' sn'=>hn sn' T')
end

theorem DZ{ops:List Oper}{K:List (Nat×AV)}{T:Tr AV}{j t:Nat}{d:Option Nat}{op:Op}{ty:TypeId}{pos:String}{af:Array Edge}{pol:Bool}(hK:Jk K T)(ht:UL ops j=some t)(hb:K.lookup t=some (.tup [])):Y0 ops ⟨d,op,ty,pos,af,some (j,pol)⟩ T=false:=by
 unfold Y0;simp only[ht];rw[show Zr T t=.tup []from hK t _ hb]
theorem yp{P:Program}{G:Env}{N:Nat}{T:Tr AV}{st:St}{ops rest:List Oper}{K:List (Nat×AV)}{R:Tr AV→St→Prop}{d:Nat}{op:Op}{ty:TypeId}{pos:String}{af:Array Edge}{j t:Nat}{pol:Bool}(hK:Jk K T)(ht:UL ops j=some t)(hb:K.lookup t=some (.tup []))(hN:Nat.ble (d+1) N=true)(hn: ∀T',Jk ((d,.tup [])::K) T'→WR P G N ops rest R T' st):WR P G N ops (⟨some d,op,ty,pos,af,some (j,pol)⟩::rest) R T st:=by
 obtain⟨L',n',T',st',h1,h2⟩:=hn _ (hK.set d (.tup []));refine⟨L',n',T',st',?_,h2⟩;show(ob (YQ P G _ ops _ T st) fun r=>Ee N (some d) r.1 T fun T=>tl (FQ P G _ N ops rest T r.2))=_;unfold YQ;rw[DZ hK ht hb,Jb,QC];show Jt (Nat.ble (d+1) N) (T.put d (.tup []) _)=_;rw[hN,Tr.put_eq];exact h1
section
variable {P:Program} {G:Env} {N:Nat} {T:Tr AV} {st:St} {ops rest:List Oper} {K:List (Nat×AV)} {R:Tr AV→St→Prop} {d:Nat} {ty:TypeId} {pos:String} {af:Array Edge} {h0:Hp} {n0:Nat} {X:List Nat} {M:List (Nat×Nat×List AV)}
theorem ZJ{t e:TypeId}{len z:Nat}{parts:Array (Nat×Operand)}{zc r:List AV}{ps:List (Nat×AV)}(hK:Jk K T)(hM:Mem h0 n0 X st M)(S:N2 P t e z)(hz:zeroOf P e=some zc)(hp:XT (Uf G K) parts=some ps)(hf:WC (fun i=>some (i *z,z)) ps (Ed len zc)=some r)(hc:Eo JD r=true)(hb:Nat.ble (len *z) 16777216=true)(hN:Nat.ble (d+1) N=true)
  (hn: ∀(c:Nat) T' st',Jk ((d,.sl c 0 0 len z)::K) T'→Mem h0 n0 X st' ((c,0,r)::M)→WR P G N ops rest R T' st'):WR P G N ops (⟨some d,.buildSlice t len parts,ty,pos,af,none⟩::rest) R T st:=by
 obtain⟨c,st1,h1,h2⟩:=F9 (G:=G) S hz hp hf hc (Nat.le_of_ble_eq_true hb) hM;exact KK hK h1 (Nat.le_of_ble_eq_true hN) fun T' hT'=>hn c T' st1 hT' h2
theorem X6{sn:List St}{i:Nat}{rr:List (Nat×Nat)}{t e:TypeId}{len z:Nat}{parts:Array (Nat×Operand)}{zc r:List AV}{ps:List (Nat×AV)}(ho:ops[i]? =some ⟨some d,.buildSlice t len parts,ty,pos,af,none⟩)(hK:Jk K T)(hM:Mem h0 n0 X st M)(S:N2 P t e z)(hz:zeroOf P e=some zc)(hp:XT (Uf G K) parts=some ps)(hf:WC (fun i=>some (i *z,z)) ps (Ed len zc)=some r)(hc:Eo JD r=true)(hb:Nat.ble (len *z) 16777216=true)(hN:Nat.ble (d+1) N=true)
  (hn: ∀(c:Nat) T' st',Jk ((d,.sl c 0 0 len z)::K) T'→Mem h0 n0 X st' ((c,0,r)::M)→WD P G N ops (rr.map (VV ops)) R T' st' sn):WD P G N ops (((i,0)::rr).map (VV ops)) R T st sn:=by
 obtain⟨c,st1,h1,h2⟩:=F9 (G:=G) S hz hp hf hc (Nat.le_of_ble_eq_true hb) hM;exact Dd ho hK h1 rfl (Nat.le_of_ble_eq_true hN) fun T' hT'=>hn c T' st1 hT' h2
end

inductive Acc(n0 z:Nat):List (Nat×Nat×List AV)→AV→List (List AV)→Prop
 |none:Acc n0 z [] .nils []
 |own {c m:Nat} {ls:List (List AV)} (hc:n0≤c) (hz: ∀cs∈ls,cs.length=z) (hb:ls.length≤1000000):Acc n0 z [(c,m,ls.flatten)] (.sl c m 0 ls.length z) ls
theorem Acc.less{n0 n1 z:Nat}{A:List (Nat×Nat×List AV)}{ks:AV}{ls:List (List AV)}(h:Acc n0 z A ks ls)(hn:n1≤n0):Acc n1 z A ks ls:=by
 cases h with
 |none=>exact .none
 |own hc hz hb=>exact .own (Nat.le_trans hn hc) hz hb
theorem Acc.len{n0 z:Nat}{A:List (Nat×Nat×List AV)}{ks:AV}{ls:List (List AV)}(h:Acc n0 z A ks ls):V5 ks=some ls.length:=by cases h<;>rfl
theorem Acc.cell{n0 z:Nat}{A:List (Nat×Nat×List AV)}{ks:AV}{ls:List (List AV)}(h:Acc n0 z A ks ls):JD ks=true:=by cases h<;>rfl
section
variable {P:Program} {G:Env} {N:Nat} {h0:Hp} {n0:Nat} {X:List Nat} {st:St} {M L A B:List (Nat×Nat×List AV)} {z:Nat} {ks:AV} {ls:List (List AV)}
theorem Mem.perm(h:Mem h0 n0 X st M){M':List (Nat×Nat×List AV)}(p:M.Perm M'):Mem h0 n0 X st M':=
 ⟨h.fresh,h.le,h.base,fun c m l hm=>h.row c m l (p.mem_iff.2 hm),fun c m l hm=>h.lt c m l (p.mem_iff.2 hm),fun c m l hm=>h.own c m l (p.mem_iff.2 hm),(p.map _).nodup_iff.1 h.nodup,h.old⟩
theorem Mem.cast(h:Mem h0 n0 X st M){M':List (Nat×Nat×List AV)}(e:M=M'):Mem h0 n0 X st M':=e▸h
theorem Mem.Gj(hM:Mem h0 n0 X st (L++(A++B))){n1:Nat}(hA:Acc n1 z A ks ls):J8 st.h.get [] z ls ks:=by
 cases hA with
 |none=>exact .nil _ _ _
 |own hc hz hb=>
  rename_i c m;exact J8.own (hM.row c m _ (by simp)) hz (by simp) (by omega)
theorem M3(L B:List (Nat×Nat×List AV))(a b:Nat×Nat×List AV):(L++([a]++B)).set L.length b=L++([b]++B):=by
 rw[List.set_append_right _ _ (Nat.le_refl _),Nat.sub_self];rfl
theorem MQ(L B:List (Nat×Nat×List AV))(a:Nat×Nat×List AV):(L++([a]++B))[L.length]? =some a:=by
 rw[List.getElem?_append_right (Nat.le_refl _),Nat.sub_self];rfl
theorem Mem.jY(hM:Mem h0 n0 X st (L++(A++B)))(hA:Acc n0 z A ks ls){t e:TypeId}(T:N2 P t e z){ks2:AV}{ls2:List (List AV)}{Y:List Nat}(hy:J8 st.h.get Y z ls2 ks2)(hz2: ∀cs∈ls2,cs.length=z)(hb:ls.length+ls2.length≤1000000):
  ∃ks' A' st1,Zx P [t,t] ks ks2 st=some (ks',st1)∧Acc n0 z A' ks' (ls++ls2)∧Mem h0 n0 X st1 (L++(A'++B)):=by
 have hzz: ∀cs∈ls++ls2,cs.length=z:=fun cs hc=>by
  rcases List.mem_append.1 hc with hc|hc
  ·cases hA with
   |none=>cases hc
   |own h1 h2 h3=>exact h2 cs hc
  ·exact hz2 cs hc
 have hl2:=hy.len
 cases ls2 with
 |nil=>
  rw[List.append_nil];refine⟨ks,A,st,?_,hA,hM⟩
  cases ks2<;>first
   |(cases hl2;done)
   |(refine BK T ?_ rfl;cases hA<;>rfl)
   |skip
  rename_i c2 m2 off2 n2 z2
  injection hl2 with hl2
  have hl2:n2=0:=hl2;subst hl2;obtain⟨_,cells,h1,h2⟩:=hy.alive _ _ _ _ _ rfl
  cases hA with
  |none=>exact Gi T h1 (by omega)
  |own h3 h4 h5=>
   rename_i c m;exact Gh T (hM.row c m _ (by simp)) (WB h4) h1 (by omega)
 |cons x ls2=>
  obtain⟨c2,m2,off2,cells0,rfl,_,_,_,_⟩:=hy.at_ 0 x rfl;obtain⟨_,cells,hr2,hle⟩:=hy.alive _ _ _ _ _ rfl
  have hrow:(cells.drop off2).take ((x::ls2).length *z)=(x::ls2).flatten:=by
   apply List.ext_getElem?;intro j;rw[List.getElem?_take]
   split
   ·rename_i hj;rw[List.getElem?_drop];have hz0:0<z:=T.p;have hjd:j/z<(x::ls2).length:=Nat.div_lt_of_lt_mul (by rw[Nat.mul_comm];exact hj);obtain⟨cs,hcs⟩: ∃cs,(x::ls2)[j/z]? =some cs:=⟨_,List.getElem?_eq_getElem hjd⟩;obtain⟨c',m',off',cells',e,_,hr',h5,h6⟩:=hy.at_ _ _ hcs
    injection e with e1 e2 e3
    subst e1 e2 e3
    have:cells'=cells:=by
     obtain⟨a1,b1,d1,g1,i1,j1⟩:=hr';obtain⟨a2,b2,d2,g2,i2,j2⟩:=hr2;rw[i1]at i2
     injection i2 with i2
     injection i2 with i2 i3
     subst i3;rw[j1]at j2
     injection j2 with j2
     injection j2 with _ j2
     injection j2 with _ j2
     injection j2
    subst this;rw[Bj hz0 _ hz2,hcs];show _=cs[j % z]?;rw[←h6,List.getElem?_take,if_pos (Nat.mod_lt _ hz0),List.getElem?_drop]
    congr 1
    have:=Nat.div_add_mod j z;rw[Nat.mul_comm]at this;omega
   ·rename_i hj;rw[List.getElem?_eq_none];rw[WB hz2];omega
  cases hA with
  |none=>
   have ha:=append_nil (P:=P) (st:=st) T (z2:=z) hr2 hle (by simp) (by simpa using hb);refine⟨_,[(st.n,0,(x::ls2).flatten)],_,ha,?_,?_⟩
   ·exact .own hM.le hzz (by simpa using hb)
   ·rw[hrow];have:=hM.alloc (x::ls2).flatten;refine this.perm ?_;exact(List.perm_middle (l₁:=L) (l₂:=B)).symm
  |own h3 h4 h5=>
   rename_i c m;obtain⟨m',st1,h6,h7,_⟩:=hM.append T (z2:=z) (MQ L B _) (WB h4) hr2 hle (by simp) hb;refine⟨_,[(c,m',(ls++x::ls2).flatten)],st1,h6,?_,?_⟩
   ·rw[←List.length_append];exact .own h3 hzz (by rw[List.length_append];exact hb)
   ·rw[M3,hrow]at h7;rw[List.flatten_append];exact h7
theorem Mem.uJ(hM:Mem h0 n0 X st (L++(A++B)))(hA:Acc n0 z A ks ls){t e:TypeId}(T:N2 P t e z){k2 c2 m2:Nat}{l2:List AV}(hk:(L++(A++B))[k2]? =some (c2,m2,l2))(hl:l2.length=z)(hb:ls.length+1≤1000000):
  ∃ks' A' st1,Zx P [t,t] ks (.sl c2 m2 0 1 z) st=some (ks',st1)∧Acc n0 z A' ks' (ls++[l2])∧Mem h0 n0 X st1 (L++(A'++B)):=by
 have hr:=hM.Qr hk;have:J8 st.h.get [] z [l2] (.sl c2 m2 0 [l2].length z):=J8.own (by simpa using hr) (by simpa using hl) (by simp) (by simp);exact hM.jY hA T this (by simpa using hl) (by simpa using hb)
variable {T:Tr AV} {ops rest:List Oper} {K:List (Nat×AV)} {R:Tr AV→St→Prop} {d:Nat} {ty:TypeId} {pos:String} {af:Array Edge}
theorem VZ{x y:Operand}{t e:TypeId}{c2 m2 k2:Nat}{l2:List AV}(hK:Jk K T)(hM:Mem h0 n0 X st (L++(A++B)))(hA:Acc n0 z A ks ls)(S:N2 P t e z)(hx:Uf G K x=some ks)(hy:Uf G K y=some (.sl c2 m2 0 1 z))(hk:(L++(A++B))[k2]? =some (c2,m2,l2))(hl:l2.length=z)(hb:ls.length+1≤1000000)(hN:Nat.ble (d+1) N=true)
  (hn: ∀(ks':AV) A' T' st',Jk ((d,ks')::K) T'→Acc n0 z A' ks' (ls++[l2])→Mem h0 n0 X st' (L++(A'++B))→WR P G N ops rest R T' st'):WR P G N ops (⟨some d,.call {callee:=.builtin .append,args:= #[x,y],argTypes:= #[t,t]},ty,pos,af,none⟩::rest) R T st:=by
 obtain⟨ks',A',st1,h1,h2,h3⟩:=hM.uJ hA S hk hl hb;exact KK hK (Fi rfl hx hy h1) (Nat.le_of_ble_eq_true hN) fun T' hT'=>hn ks' A' T' st1 hT' h2 h3
theorem Mn{x y:Operand}{t e:TypeId}{ks2:AV}{ls2:List (List AV)}{Y:List Nat}(hK:Jk K T)(hM:Mem h0 n0 X st (L++(A++B)))(hA:Acc n0 z A ks ls)(S:N2 P t e z)(hx:Uf G K x=some ks)(hy:Uf G K y=some ks2)(hr:J8 st.h.get Y z ls2 ks2)(hz2: ∀cs∈ls2,cs.length=z)(hb:ls.length+ls2.length≤1000000)(hN:Nat.ble (d+1) N=true)
  (hn: ∀(ks':AV) A' T' st',Jk ((d,ks')::K) T'→Acc n0 z A' ks' (ls++ls2)→Mem h0 n0 X st' (L++(A'++B))→WR P G N ops rest R T' st'):WR P G N ops (⟨some d,.call {callee:=.builtin .append,args:= #[x,y],argTypes:= #[t,t]},ty,pos,af,none⟩::rest) R T st:=by
 obtain⟨ks',A',st1,h1,h2,h3⟩:=hM.jY hA S hr hz2 hb;exact KK hK (Fi rfl hx hy h1) (Nat.le_of_ble_eq_true hN) fun T' hT'=>hn ks' A' T' st1 hT' h2 h3
theorem EH{sn:List St}{i:Nat}{rr:List (Nat×Nat)}{x y:Operand}{t e:TypeId}{c2 m2 k2:Nat}{l2:List AV}(ho:ops[i]? =some ⟨some d,.call {callee:=.builtin .append,args:= #[x,y],argTypes:= #[t,t]},ty,pos,af,none⟩)(hK:Jk K T)(hM:Mem h0 n0 X st (L++(A++B)))(hA:Acc n0 z A ks ls)(S:N2 P t e z)(hx:Uf G K x=some ks)(hy:Uf G K y=some (.sl c2 m2 0 1 z))(hk:(L++(A++B))[k2]? =some (c2,m2,l2))(hl:l2.length=z)(hb:ls.length+1≤1000000)(hN:Nat.ble (d+1) N=true)
  (hn: ∀(ks':AV) A' T' st',Jk ((d,ks')::K) T'→Acc n0 z A' ks' (ls++[l2])→Mem h0 n0 X st' (L++(A'++B))→WD P G N ops (rr.map (VV ops)) R T' st' (st'::sn)):WD P G N ops (((i,0)::rr).map (VV ops)) R T st sn:=by
 obtain⟨ks',A',st1,h1,h2,h3⟩:=hM.uJ hA S hk hl hb;exact BX ho hK (Fi rfl hx hy h1) rfl (Nat.le_of_ble_eq_true hN) fun T' hT'=>hn ks' A' T' st1 hT' h2 h3
theorem Kx{sn:List St}{i:Nat}{rr:List (Nat×Nat)}{x y:Operand}{t e:TypeId}{ks2:AV}{ls2:List (List AV)}{Y:List Nat}(ho:ops[i]? =some ⟨some d,.call {callee:=.builtin .append,args:= #[x,y],argTypes:= #[t,t]},ty,pos,af,none⟩)(hK:Jk K T)(hM:Mem h0 n0 X st (L++(A++B)))(hA:Acc n0 z A ks ls)(S:N2 P t e z)(hx:Uf G K x=some ks)(hy:Uf G K y=some ks2)(hr:J8 st.h.get Y z ls2 ks2)(hz2: ∀cs∈ls2,cs.length=z)(hb:ls.length+ls2.length≤1000000)(hN:Nat.ble (d+1) N=true)
  (hn: ∀(ks':AV) A' T' st',Jk ((d,ks')::K) T'→Acc n0 z A' ks' (ls++ls2)→Mem h0 n0 X st' (L++(A'++B))→WD P G N ops (rr.map (VV ops)) R T' st' (st'::sn)):WD P G N ops (((i,0)::rr).map (VV ops)) R T st sn:=by
 obtain⟨ks',A',st1,h1,h2,h3⟩:=hM.jY hA S hr hz2 hb;exact BX ho hK (Fi rfl hx hy h1) rfl (Nat.le_of_ble_eq_true hN) fun T' hT'=>hn ks' A' T' st1 hT' h2 h3

def BR(st st':St)(z:Nat)(ks:AV)(ls:List (List AV)):Prop:= ∃A,Acc st.n z A ks ls∧ ∀c m l,(c,m,l)∈A→JS st'.h.get c m l
theorem Mem.Ah(h:Mem h0 n0 X st M){st':St}(q:Qt st st')(r:BR st st' z ks ls): ∃A,Acc n0 z A ks ls∧Mem h0 n0 X st' (M++(A++[])):=by
 obtain⟨A,hA,hr⟩:=r;refine⟨A,hA.less h.le,?_⟩
 cases hA with
 |none=>simpa using h.quiet q
 |own hc hz hb=>
  have:=h.Z0 q (hr _ _ _ (List.mem_singleton.2 rfl)) hc;exact this.perm (by simpa using(List.perm_middle (l₁:=M) (l₂:=[])).symm)
theorem Mem.jG{st0 st':St}(h:Mem st0.h.get st0.n X st' (L++(A++B)))(hA:Acc st0.n z A ks ls):BR st0 st' z ks ls:=⟨A,hA,fun c m l hm=>h.row c m l (by simp[hm])⟩
theorem MV{f:FuncId}{F:List AV→Option AV}(hs:G.s f=some (My F)){args:List AV}{v:AV}(hF:F args=some v):Ev P G f args st v st:=⟨0,1,by
 show(Option.rec _ (fun sm=>sm args st) (G.s f):Option (AV×St))=_;rw[hs];show ob (F args) _=_
 rw[hF];rfl⟩
theorem Oh{f:FuncId}{F:List AV→Option (List AV×Nat×List AV)}(hs:G.s f=some (EN z F))(hf:Q3 st){args rest:List AV}(hz: ∀cs∈ls,cs.length=z)(hb:ls.length≤1000000)(hF:F args=some (ls.flatten,ls.length,rest)): ∃ks st',Ev P G f args st (.tup (ks::rest)) st'∧BR st st' z ks ls∧Qt st st':=by
 have hev: ∀v st',EN z F args st=some (v,st')→Ev P G f args st v st':=fun v st' h=>⟨0,1,by
  show(Option.rec _ (fun sm=>sm args st) (G.s f):Option (AV×St))=_;rw[hs]
  exact h⟩
 cases ls with
 |nil=>exact⟨.nils,st,hev _ _ (by unfold EN;rw[hF];rfl),⟨[],.none,fun c m l h=>by cases h⟩,Qt.refl hf⟩
 |cons x ls=>
  have hM:=(Mem.start hf).alloc (x::ls).flatten;refine⟨.sl st.n 0 0 (ls.length+1) z,_,hev _ _ (by unfold EN;rw[hF];rfl),⟨[(st.n,0,(x::ls).flatten)],.own (Nat.le_refl _) hz hb,fun c m l h=>?_⟩,hM.qt⟩;simp at h;obtain⟨rfl,rfl,rfl⟩:=h;exact hM.row _ _ _ (by simp)

theorem X7{Q:Ex→Tr AV→St→Prop}{a b:Code}{J:Tr AV→St→Prop}(h:W P G N a (N8 J Q) T st)(hb: ∀T st,J T st→W P G N b Q T st):W P G N (.seq a b) Q T st:=
 Qw (RD h fun x T st hx=>by
  cases x with
  |nor=>exact hb T st hx
  |exit i=>exact hx
  |ret=>exact hx)
theorem YM{h:Hp}{c m off:Nat}{cells:List AV}{t:TypeId}{v:AV}(hr:X4 h c m cells)(hp:VW P t cells off=some v):JW P t (.ptr c m off) h=some v:=by
 obtain⟨e,vs,ro,ms,h1⟩:=hr.rowOf;show ob (rowOf h c m) _=_;rw[h1];exact hp
theorem MC{x y:Operand}{t yt:TypeId}{k:IntKind}{a b c:Int}(hx:Uf G K x=some (.int k a))(hy:Uf G K y=some (.int k b))(hw:k.wrap (a-b)=c):ZV P G K (.binOp .sub t x y yt) st (.int k c) st:=
 Xx hx hy (by rw[En (by decide) (by decide)];show EO (Wp k (a-b)) (fun z=>some (AV.int k z))=_;rw[XO,YP,hw])
theorem MD{x y:Operand}{t yt:TypeId}{k:IntKind}{a b c:Int}(hx:Uf G K x=some (.int k a))(hy:Uf G K y=some (.int k b))(hw:k.wrap (a *b)=c):ZV P G K (.binOp .mul t x y yt) st (.int k c) st:=
 Xx hx hy (by rw[En (by decide) (by decide)];show EO (Wp k (a *b)) (fun z=>some (AV.int k z))=_;rw[XO,YP,hw])
theorem GK{s d:TypeId}{x:Operand}{k k':IntKind}{n c:Int}(hd:P.underlying d=some (.int k'))(hs:P.underlying s=some (.int k))(hx:Uf G K x=some (.int k n))(hw:k'.wrap n=c):ZV P G K (.convert s d x) st (.int k' c) st:=by
 rw[←hw];exact H8 hd hs hx

theorem QE:Eo JD ([]:List AV)=true:=rfl
theorem Qa{a:AV}{l:List AV}(h1:JD a=true)(h2:Eo JD l=true):Eo JD (a::l)=true:=by
 show Qo (JD a) (Eo JD l) false=true;rw[h1,h2];rfl
theorem LV{v:AV}(h:JD v=true):Eo JD (Ua v)=true:=by
 cases v<;>first|rfl|cases h
theorem Wo{v:AV}(h:JD v=true):Ua v=[v]:=by
 cases v<;>first|rfl|cases h
theorem N6{t ty:TypeId}{pos:String}{af:Array Edge}{x y:Operand}{w:AV}{k c m off:Nat}{l l':List AV}(hK:Jk K T)(hM:Mem h0 n0 X st M)(hx:Uf G K x=some (.ptr c m off))(hy:Uf G K y=some w)(hk:M[k]? =some (c,m,l))(hz:Xh P t=some 1)(hc:JD w=true)(ho:Xi [w] off l=some l')
  (hr: ∀st',Mem h0 n0 X st' (M.set k (c,m,l'))→WR P G N ops rest R T st'):WR P G N ops (⟨none,.store t x y,ty,pos,af,none⟩::rest) R T st:=
 J5 hK hM hx hy hk hz (by rw[Wo hc];rfl) (LV hc) (by rw[Wo hc];exact ho) hr
theorem Eu{sn:List St}{i:Nat}{rr:List (Nat×Nat)}{t ty:TypeId}{pos:String}{af:Array Edge}{x y:Operand}{w:AV}{k c m off:Nat}{l l':List AV}(ho':ops[i]? =some ⟨none,.store t x y,ty,pos,af,none⟩)(hK:Jk K T)(hM:Mem h0 n0 X st M)(hx:Uf G K x=some (.ptr c m off))(hy:Uf G K y=some w)(hk:M[k]? =some (c,m,l))(hz:Xh P t=some 1)(hc:JD w=true)(ho:Xi [w] off l=some l')
  (hr: ∀st',Mem h0 n0 X st' (M.set k (c,m,l'))→WD P G N ops (rr.map (VV ops)) R T st' (st'::sn)):WD P G N ops (((i,0)::rr).map (VV ops)) R T st sn:=
 Uk ho' hK hM hx hy hk hz (by rw[Wo hc];rfl) (LV hc) (by rw[Wo hc];exact ho) hr
theorem IA{P:Program}{G:Env}{K:List (Nat×AV)}{st:St}{s d e:TypeId}{x:Operand}{c m b:Nat}(hs:P.underlying s=some (.slice e))(he:P.underlying e=some (.int .u8))(hd:P.underlying d=some .string)(hx:Uf G K x=some (.sl c m 0 1 1))(hr:X4 st.h.get c m [.int .u8 ((b:Nat):Int)])(hb:b≤255):ZV P G K (.convert s d x) st (.str [b]) st:=
 Lq hx (by
  unfold Ol;simp only[hs,he,hd];obtain⟨e1,vs,ro,ms,h⟩:=hr.rowOf
  have hb1:BD (AV.int .u8 ((b:Nat):Int))=some b:=by
   show Jt (Nat.ble b 255) (some b)=some b;rw[Nat.ble_eq_true_of_le hb];rfl
  unfold IM;simp only[h,QC,Ym,UF];show ob (ob (BD (AV.int .u8 ((b:Nat):Int))) fun b=>ob (some []) fun t=>some (b::t)) _=_
  rw[hb1];rfl)
def CG:AV→Bool
 |.bool _=>true
 |.int _ _=>true
 |.str _=>true
 |.nilp=>true
 |.ptr _ _ _=>true
 |.nils=>true
 |.sl _ _ _ _ _=>true
 |.slz _ _ _ _ _=>true
 |.sl0 _ _ _=>true
 |.nilf=>true
 |.nili=>true
 |.nilm=>true
 |.mp _=>true
 |_=>false
theorem Kk{v:AV}(h:CG v=true):Hf v v=true:=by
 cases v<;>first
  |(cases h;done)
  |rfl
  |skip
 ·rename_i b;cases b<;>rfl
 ·rename_i k n;show Qo (Oi k k) (Np n n) false=true;rw[Bp,Ic];simp[Qo]
 ·rename_i l;show Bm l l=true;rw[VO];simp
 ·rename_i c m o;show Qo (Nat.beq c c) (Qo (Nat.beq m m) (Nat.beq o o) false) false=true;simp[Qo]
 ·rename_i c m o l z;show Qo (Nat.beq c c) (Qo (Nat.beq m m) (Qo (Nat.beq o o) (Qo (Nat.beq l l) (Nat.beq z z) false) false) false) false=true;simp[Qo]
 ·rename_i c m o l z;show Qo (Nat.beq c c) (Qo (Nat.beq m m) (Qo (Nat.beq o o) (Qo (Nat.beq l l) (Nat.beq z z) false) false) false) false=true;simp[Qo]
 ·rename_i x o s;show Qo (Nat.beq x x) (Qo (Nat.beq o o) (MX s s) false) false=true
  cases s<;>simp[Qo,MX]
 ·rename_i c;show Nat.beq c c=true;simp
theorem JQ{v:AV}(h:CG v=true):T0 v v=true:=by
 have:=Kk h
 cases v<;>first|exact this|(cases h;done)
theorem Va{l:List AV}(h:l.all CG=true):T0 (.agg l) (.agg l)=true:=by
 show Ie l l=true
 induction l with
 |nil=>rfl
 |cons a l ih=>
  rw[List.all_cons,Bool.and_eq_true]at h;show Qo (Hf a a) (Ie l l) false=true;rw[Kk h.1,ih h.2];rfl
theorem YT{v:AV}{n:Nat}(h:V5 v=some n):CG v=true:=by
 cases v<;>first|rfl|(cases h;done)

variable {rr:ResultVar} {rs:List ResultVar}
theorem QQ{t:Nat}{v:AV}(hK:Jk K T)(h:K.lookup t=some v):H3 P T st (.tmp t)=some v:=congrArg some (hK t v h)
theorem Ya{a:Nat}{t:TypeId}{u v:AV}(hK:Jk K T)(h:K.lookup a=some u)(hl:JW P t u st.h.get=some v):H3 P T st (.cell a t)=some v:=by
 show JW P t (Zr T a) st.h.get=_;rw[hK a u h];exact hl
theorem Ky{v:AV}(h:H3 P T st rr=some v):U0 P [rr] T st=some v:=by
 show(ob (Ym (H3 P T st) [rr]) _)=_;rw[Ul,h];rfl
theorem A4:U0 P [] T st=some (.tup []):=rfl
theorem XR{r1 r2:ResultVar}{a b:AV}(h1:H3 P T st r1=some a)(h2:H3 P T st r2=some b):U0 P [r1,r2] T st=some (.tup [a,b]):=by
 show(ob (Ym (H3 P T st) [r1,r2]) _)=_;rw[Ul,Ul,h1,h2];rfl
theorem JN{r1 r2 r3:ResultVar}{a b c:AV}(h1:H3 P T st r1=some a)(h2:H3 P T st r2=some b)(h3:H3 P T st r3=some c):U0 P [r1,r2,r3] T st=some (.tup [a,b,c]):=by
 show(ob (Ym (H3 P T st) [r1,r2,r3]) _)=_;rw[Ul,Ul,Ul,h1,h2,h3];rfl
end
end Go.Proofs.YtadjjadimlkkgaaGreatDoor
end
