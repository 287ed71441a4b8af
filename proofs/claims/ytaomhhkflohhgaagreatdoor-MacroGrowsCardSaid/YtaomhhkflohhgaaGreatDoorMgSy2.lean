/-
  Several texts in one: XLift, XOpen, XSymH, XSum, XSymI.
-/
import Derived.WalkKit
import Derived.Test.YtaomhhkflohhgaaGreatDoorMgSy1
set_option linter.unusedSimpArgs false
set_option linter.unusedVariables false
namespace Go.Proofs.YtaomhhkflohhgaaGreatDoor
section
open Go Go.RowKit

def Z9(h:Hp)(c m:Nat)(l:List AV):Prop:= ∃ro e vs ms,h c=some (.row ro ms)∧ms[m]? =some (e,vs,some l)
def FK(h h':Hp):Prop:= ∀c m l,Z9 h c m l→Z9 h' c m l
abbrev y0:=List (Pl×List AV)
def xL(ml:y0):JY:=fun c m=>if c=0 then(ml[m]?).map Prod.fst else none
def MJ(ml:y0):KJ:=.row true (ml.map fun x=>(x.2.length,x.1.d,some x.2))
def vk(ml:y0):Hp:=fun c=>if c=0 then some (MJ ml)else none
theorem ja(ml:y0)(m:Nat):xL ml 0 m=(ml[m]?).map Prod.fst:=if_pos rfl
theorem M4(ml:y0):exts (MJ ml)=ml.map fun x=>x.2.length:=by
 simp[exts,MJ,Function.comp_def]
section
variable {P:Program} {H:Type} {enc:TypeId×Value→H} {W:World}
def Bs(W:World)(ml:y0):Prop:= ∀(m:Nat) (q:Pl) (l:List AV),ml[m]? =some (q,l)→ ∃(arr:Array Value) (el:TypeId) (fr:Nat×Nat),W.heap[q.b]? =some (.cells arr el fr)∧q.d+q.e≤arr.size∧l.length≤q.e∧
 ∀j v,l[j]? =some v→arr[q.d+j]? =some (Qg (xL ml) v)∧WF (vk ml) v∧Jl v=true
theorem Bs.nil:Bs W []:=fun m q l h=>by simp at h
theorem Bs.hr{ml:y0}(h:Bs W ml):HR W (xL ml) (vk ml) W:=by
 have hdom: ∀c m x,xL ml c m=some x→c=0∧ ∃l,ml[m]? =some (x,l):=by
  intro c m x hx;unfold xL at hx
  split at hx
  ·rename_i hc
   cases hm:ml[m]? with
   |none=>rw[hm]at hx;cases hx
   |some y=>rw[hm]at hx;injection hx with hx;subst hx;exact⟨hc,y.2,rfl⟩
  ·cases hx
 refine⟨rfl,rfl,rfl,Nat.le_refl _,fun _ _=>rfl,fun c m x hx=>?_,fun c m x hx=>?_,fun c m x c' m' x' hx hx' _=>?_,fun c C hC=>?_⟩
 ·obtain⟨rfl,l,hm⟩:=hdom c m x hx;exact⟨MJ ml,if_pos rfl,by rw[M4,List.length_map];exact(List.getElem?_eq_some_iff.1 hm).1⟩
 ·obtain⟨rfl,l,hm⟩:=hdom c m x hx;obtain⟨arr,el,fr,h1,_⟩:=h m x l hm;exact(Array.getElem?_eq_some_iff.1 h1).1
 ·rw[(hdom c m x hx).1,(hdom c' m' x' hx').1]
 ·unfold vk at hC
  split at hC
  ·rename_i hc0
   injection hC with hC
   subst hC hc0;refine⟨fun m e vs cs hm=>?_,fun m e vs cs m' e' vs' cs' q q' hm hm' hq hq' hb=>?_⟩
   ·rw[List.getElem?_map]at hm
    cases hx:ml[m]? with
    |none=>rw[hx]at hm;cases hm
    |some y=>
     rw[hx]at hm;simp only[Option.map_some,Option.some.injEq,Prod.mk.injEq]at hm;obtain⟨rfl,rfl,rfl⟩:=hm;obtain⟨q,l⟩:=y;obtain⟨arr,el,fr,h1,h2,h3,h4⟩:=h m q l hx;refine⟨q,arr,el,by rw[ja,hx];rfl,⟨fr,h1,fun e=>nomatch e⟩,h2,h3,fun e=>(nomatch e),fun l' hl'=>?_⟩
     injection hl' with hl'
     subst hl';exact⟨rfl,h4⟩
   ·rw[List.getElem?_map]at hm hm';rw[ja]at hq hq'
    cases hx:ml[m]? with
    |none=>rw[hx]at hq;cases hq
    |some y=>
     cases hx':ml[m']? with
     |none=>rw[hx']at hq';cases hq'
     |some y'=>
      rw[hx]at hm hq;rw[hx']at hm' hq';simp only[Option.map_some,Option.some.injEq,Prod.mk.injEq]at hm hm' hq hq';obtain⟨_,rfl,_⟩:=hm;obtain⟨_,rfl,_⟩:=hm';subst hq hq';omega
  ·cases hC

theorem Ly{α:Type}{z:Nat}(hz:0<z): ∀(css:List (List α)),(∀c∈css,c.length=z)→ ∀j,css.flatten[j]? =(css[j/z]?).bind fun c=>c[j % z]? :=by
 intro css
 induction css with
 |nil=>intro _ j;simp
 |cons c css ih=>
  intro h j;have hc:=h c (List.mem_cons_self ..);rw[List.flatten_cons,List.getElem?_append]
  by_cases hj:j<z
  ·rw[if_pos Qh,Nat.div_eq_of_lt hj,Nat.mod_eq_of_lt hj];rfl
  ·rw[if_neg Qh,ih (fun c hc=>h c (List.mem_cons_of_mem _ hc)),hc]
   have e1:j/z=(j-z)/z+1:=by
    conv=>lhs;rw[show j=(j-z)+z by omega]
    exact Nat.add_div_right _ hz
   have e2:j % z=(j-z) % z:=by
    conv=>lhs;rw[show j=(j-z)+z by omega]
    exact Nat.add_mod_right _ _
   rw[e1,e2];rfl
end
end
section
open Go Go.RowKit

noncomputable section
def stM(ml:y0):St:=⟨1,Tr.nil.set 0 (MJ ml)⟩
end
theorem BG(ml:y0):(stM ml).h.get=vk ml:=by
 funext c
 show(Tr.nil.set 0 (MJ ml)).get c=_;rw[Tr.Xb];unfold vk
 split
 ·rfl
 ·rw[Tr.get_nil]
theorem Gy(ml:y0):Qw (stM ml):=fun c hc=>by
 rw[BG];have hc:1≤c:=hc;unfold vk;rw[if_neg Qh]
variable {P:Program} {G:Env} {W:World}
theorem TQ(hG0: ∀g,G.g g=false)(hE:LD P G)(hm:P.follows .mixedOrders=true){f:FuncId}{args:List AV}{ml:y0}(hM:Bs W ml)(hw:Z2 (vk ml) args)
  (h: ∃v st',Ev P G f args (stM ml) v st'∧v=.bool true) (hi:G.i W:=by trivial):Calls P f (Qx (xL ml) args).toArray W fun e w'=>e=.returned (.bool true)∧Below W.heap.size W w':=by
 obtain⟨v,st',⟨L,n,h⟩,rfl⟩:=h;have hc:=((Cp (Cf hm) hE L n f args (stM ml) (.bool true) st' h (Gy ml) (by rw[BG];exact hw)).2 W (xL ml) W (by rw[BG];exact hM.hr) ⟨fun g hg=>(by rw[hG0]at hg;cases hg),hi⟩).2;refine hc.mono fun e w'=>?_
 rintro⟨p',rfl,hs,_⟩
 exact⟨rfl,hs.hr.os,hs.hr.tape,hs.hr.output,hs.hr.size,hs.hr.old⟩
end
section
open Go
variable {Y:List Nat} {c c2 k len m m2 n off2 z z2:Nat} {e t:TypeId} {h:Hp} {ks:AV} {l l2:List AV} {ls:List (List AV)} {st':St} {x:Operand}

def Jj(h:Hp)(c m:Nat)(l:List AV):Prop:= ∃vs ms,h c=some (.row false ms)∧ms[m]? =some (l.length,vs,some l)
structure Ad(X:List Nat)(st st':St):Prop where
 fresh:Qw st'
 le:st.n≤st'.n
 old: ∀c,c<st.n→c∉X→st'.h.get c=st.h.get c
theorem Qt.Us{st:St}(q:Qt st st')(X:List Nat):Ad X st st':=⟨q.fresh,q.le,fun c hc _=>q.old c hc⟩
theorem Jj.lt{st:St}(hf:Qw st)(r:Jj st.h.get c m l):c<st.n:=by
 obtain⟨vs,ms,h1,h2⟩:=r
 exact Nat.lt_of_not_le fun hle=>by rw[hf c hle]at h1;cases h1
theorem Jj.YQ(r:Jj h c m l):Z9 h c m l:=by
 obtain⟨vs,ms,h1,h2⟩:=r;exact⟨false,_,vs,ms,h1,h2⟩
theorem Jj.Us{X:List Nat}{st:St}(hf:Qw st)(q:Ad X st st')(r:Jj st.h.get c m l)(hc:c∉X):Jj st'.h.get c m l:=by
 have hlt:=r.lt hf;obtain⟨vs,ms,h1,h2⟩:=r;exact⟨vs,ms,by rw[q.old c hlt hc];exact h1,h2⟩
theorem Z9.lt{st:St}(hf:Qw st)(r:Z9 st.h.get c m l):c<st.n:=by
 obtain⟨ro,e,vs,ms,h1,h2⟩:=r
 exact Nat.lt_of_not_le fun hle=>by rw[hf c hle]at h1;cases h1
theorem Z9.Us{X:List Nat}{st:St}(hf:Qw st)(q:Ad X st st')(r:Z9 st.h.get c m l)(hc:c∉X):Z9 st'.h.get c m l:=by
 have hlt:=r.lt hf;obtain⟨ro,e,vs,ms,h1,h2⟩:=r;exact⟨ro,e,vs,ms,by rw[q.old c hlt hc];exact h1,h2⟩
section
variable {P:Program} {G:Env} {N:Nat} {h0:Hp} {n0:Nat} {X:List Nat} {st:St} {M:List (Nat×Nat×List AV)}
theorem Mem.xF{st:St}(hf:Qw st)(M:List (Nat×Nat×List AV))(hr: ∀c m l,(c,m,l)∈M→Jj st.h.get c m l)(hn:(M.map Prod.fst).Nodup):Mem st.h.get st.n (M.map Prod.fst) st M:=
 ⟨hf,Nat.le_refl _,hf,hr,fun c m l h=>(hr c m l h).lt hf,fun c m l h=>.inr (List.mem_map.2 ⟨_,h,rfl⟩),hn,fun _ _ _=>rfl⟩
theorem Mem.UP{st:St}(hf:Qw st)(r:Jj st.h.get c m l):Mem st.h.get st.n [c] st [(c,m,l)]:=
 Mem.xF hf [(c,m,l)] (fun c' m' l' h=>by simp at h;obtain⟨rfl,rfl,rfl⟩:=h;exact r) Q3
theorem Mem.Us{st0:St}(h:Mem st0.h.get st0.n X st M):Ad X st0 st:=⟨h.fresh,h.le,h.old⟩
theorem Mem.Qn(h:Mem h0 n0 X st M)(hk:M[k]? =some (c,m,l)):Jj st.h.get c m l:=h.row c m l (List.mem_of_getElem? hk)
theorem Mem.AQ(h:Mem h0 n0 X st M)(hx:c∉X)(r:Z9 h0 c m l):Z9 st.h.get c m l:=by
 obtain⟨ro,e,vs,ms,h1,h2⟩:=r
 have hc:c<n0:=Nat.lt_of_not_le fun hle=>by rw[h.base c hle]at h1;cases h1
 exact⟨ro,e,vs,ms,by rw[h.old c hc hx];exact h1,h2⟩
theorem Mem.SR(h:Mem h0 n0 X st M)(q:Ad Y st st')(hY: ∀c∈Y,∃m l,(c,m,l)∈M){M':List (Nat×Nat×List AV)}(hn:(M'.map Prod.fst).Nodup)
  (hM: ∀c m l,(c,m,l)∈M'→((c,m,l)∈M∧c∉Y)∨(Jj st'.h.get c m l∧((∃m l,(c,m,l)∈M)∨st.n≤c))):Mem h0 n0 X st' M':=by
 have hrow: ∀c m l,(c,m,l)∈M'→Jj st'.h.get c m l:=fun c m l hm=>by
  rcases hM c m l hm with⟨h1,h2⟩|⟨h1,_⟩
  ·exact Jj.Us h.fresh q (h.row c m l h1) h2
  ·exact h1
 refine⟨q.fresh,Nat.le_trans h.le q.le,h.base,hrow,fun c m l hm=>(hrow c m l hm).lt q.fresh,fun c m l hm=>?_,hn,fun c hc hx=>?_⟩
 ·rcases hM c m l hm with⟨h1,_⟩|⟨_,⟨m',l',h1⟩|h1⟩
  ·exact h.own c m l h1
  ·exact h.own c m' l' h1
  ·exact .inl (Nat.le_trans h.le h1)
 ·rw[q.old c (Nat.lt_of_lt_of_le hc h.le) fun hcY=>?_]
  ·exact h.old c hc hx
  ·obtain⟨m,l,hm⟩:=hY c hcY;rcases h.own c m l hm with h1|h1
   ·omega
   ·exact hx h1
theorem Mem.J8(h:Mem h0 n0 X st M){m':Nat}{l':List AV}(hk:M[k]? =some (c,m,l))(q:Ad [c] st st')(r:Jj st'.h.get c m' l'):Mem h0 n0 X st' (M.set k (c,m',l')):=by
 have hm0:=List.mem_of_getElem? hk
 have hfst:(M.set k (c,m',l')).map Prod.fst=M.map Prod.fst:=by
  apply List.ext_getElem?;intro i;rw[List.getElem?_map,List.getElem?_map,List.getElem?_set]
  by_cases h:k=i
  ·subst h;rw[if_pos rfl,hk];have:=(List.getElem?_eq_some_iff.1 hk).1;simp[this]
  ·rw[if_neg h]
 refine h.SR q (fun c' hc=>?_) (by rw[hfst];exact h.nodup) fun c1 m1 l1 hm=>?_
 ·rw[List.mem_singleton]at hc;subst hc;exact⟨m,l,hm0⟩
 ·obtain⟨i,hi⟩:=List.getElem?_of_mem hm;rw[List.getElem?_set]at hi
  by_cases hki:k=i
  ·subst hki;have:=(List.getElem?_eq_some_iff.1 hk).1;simp[this]at hi;obtain⟨rfl,rfl,rfl⟩:=hi;exact .inr ⟨r,.inl ⟨m,l,hm0⟩⟩
  ·rw[if_neg hki]at hi;refine .inl ⟨List.mem_of_getElem? hi,fun e=>hki ?_⟩;rw[List.mem_singleton]at e
   have h1:(M.map Prod.fst)[k]? =some c:=by rw[List.getElem?_map,hk];rfl
   have h2:(M.map Prod.fst)[i]? =some c:=by rw[List.getElem?_map,hi];simp[e]
   exact(List.getElem?_inj (List.getElem?_eq_some_iff.1 h1).1 h.nodup).1 (h1.trans h2.symm)
theorem Mem.XQ(h:Mem h0 n0 X st M)(q:Qt st st')(r:Jj st'.h.get c m l)(hc:st.n≤c):Mem h0 n0 X st' ((c,m,l)::M):=by
 refine h.SR (q.Us []) (fun c' hc=>by simp at hc) ?_ fun c1 m1 l1 hm=>?_
 ·rw[List.map_cons];refine List.nodup_cons.2 ⟨fun hm=>?_,h.nodup⟩;obtain⟨⟨c',m',l'⟩,h1,h2⟩:=List.mem_map.1 hm;have:=h.lt c' m' l' h1;simp only at h2;omega
 ·rcases List.mem_cons.1 hm with e|hm
  ·injection e with e1 e2
   injection e2 with e2 e3
   subst e1 e2 e3;exact .inr ⟨r,.inr hc⟩
  ·exact .inl ⟨hm,by simp⟩

structure LL(P:Program)(t e:TypeId)(z:Nat):Prop where
 u:P.underlying t=some (.slice e)
 s:(P.underlying e).isSome=true
 zc: ∃zc,zeroOf P e=some zc∧zc.length=z
 c:P.cellsOf e=z
 p:1≤z
 b:P.bytesOf e≤1000000
theorem XH{α β:Type}: ∀(n:Nat) (l:List α) (k:List α→Option β),n≤l.length→AH n l k=k (l.take n):=by
 intro n
 induction n with
 |zero=>intro l k _;rfl
 |succ n ih=>
  intro l k hl
  cases l with
  |nil=>simp at hl
  |cons a l=>exact ih l _ (by simpa using hl)
theorem Z9.rowOf{h:Hp}{c m:Nat}{l:List AV}(r:Z9 h c m l): ∃e vs ro ms,rowOf h c m=some (e,vs,l,ro,ms):=by
 obtain⟨ro,e,vs,ms,h1,h2⟩:=r;refine⟨e,vs,ro,ms,?_⟩;unfold Proofs.YtaomhhkflohhgaaGreatDoor.rowOf;rw[h1,Q1];show ob (nth ms m) _=_;rw[Yg,h2];rfl
theorem Xg(T:LL P t e z){s:AV}(hr2:Z9 st.h.get c2 m2 l2)(hle:off2+n *z≤l2.length): ∃e2 vs2 ro2 ms2,
  Y1 P [t,t] s (.sl c2 m2 off2 n z2) st=(match s with
   |.nils=>Qp (Nat.beq n 0) (some (.nils,st)) (QZ (Nat.ble n 1000000) (F0 ((l2.drop off2).take (n *z)) st fun _ c st=>Ye (P.cellsOf e) fun z=>some (.sl c 0 0 n z,st)))
   |.sl c m off len esz=>QZ (Nat.beq esz (P.cellsOf e)) (ob (rowOf st.h.get c m) fun r=>QZ (!r.2.2.2.1) (Ye (len *esz) fun lz=>AH lz (AL off r.2.2.1) fun olds=>
    Qp (Nat.beq n 0) (some (s,st)) (QZ (Nat.ble (len+n) 1000000) (Vn (XD olds ((l2.drop off2).take (n *z))) fun l=>Ye (ZZ l) fun k=>Ye (r.2.1+off) fun vs=>
     Vn (XD (Xo (vs+lz) (vs+lz+n *z) r.2.2.2.2) [(k,vs,some l)]) fun ms=>Wg st c (.row false ms) fun st=>Ye (ZZ r.2.2.2.2) fun m'=>Ye (len+n) fun len'=>some (.sl c m' 0 len' esz,st)))))
   |_=>none)∧rowOf st.h.get c2 m2=some (e2,vs2,l2,ro2,ms2):=by
 obtain⟨e2,vs2,ro2,ms2,h2⟩:=hr2.rowOf;refine⟨e2,vs2,ro2,ms2,?_,h2⟩;obtain⟨zc,hz,hzl⟩:=T.zc;unfold Y1;have hz1:=T.p;simp only[Nat.beq_refl,Jy,T.u,T.s,hz,Q1,Uv,hzl,T.c,Nat.ble_eq_true_of_le T.p,Nat.ble_eq_true_of_le T.b,h2,Ju];rw[XH _ _ _ (by rw[Um,List.length_drop];omega),Um]
 cases s<;>simp only[Ju,Uv,Uy,T.c]
theorem append_nil(T:LL P t e z)(hr2:Z9 st.h.get c2 m2 l2)(hle:off2+n *z≤l2.length)(hn:0<n)(hb:n≤1000000):
  Y1 P [t,t] .nils (.sl c2 m2 off2 n z2) st=some (.sl st.n 0 0 n z,⟨st.n+1,st.h.set st.n (.row false [(((l2.drop off2).take (n *z)).length,0,some ((l2.drop off2).take (n *z)))])⟩):=by
 obtain⟨_,_,_,_,h,_⟩:=Xg T (s:=.nils) (z2:=z2) hr2 hle;rw[h];have h0:Nat.beq n 0=false:=RH Qh;simp only[h0,QN,Nat.ble_eq_true_of_le hb,Jy,Zv,Ju,T.c]
theorem Mem.append(hM:Mem h0 n0 X st M)(T:LL P t e z)(hk:M[k]? =some (c,m,l))(hl:l.length=len *z)(hr2:Z9 st.h.get c2 m2 l2)(hle:off2+n *z≤l2.length)(hn:0<n)(hb:len+n≤1000000):
  ∃m' st1,Y1 P [t,t] (.sl c m 0 len z) (.sl c2 m2 off2 n z2) st=some (.sl c m' 0 (len+n) z,st1)∧Mem h0 n0 X st1 (M.set k (c,m',l++(l2.drop off2).take (n *z)))∧st1.n=st.n:=by
 obtain⟨_,_,_,_,h,_⟩:=Xg T (s:=.sl c m 0 len z) (z2:=z2) hr2 hle;have hm0:=List.mem_of_getElem? hk;obtain⟨vs,ms,h1,h2⟩:=hM.row c m l hm0
 have hr:rowOf st.h.get c m=some (l.length,vs,l,false,ms):=by
  unfold rowOf;rw[h1,Q1];show ob (nth ms m) _=_;rw[Yg,h2];rfl
 have hbeq:Nat.beq n 0=false:=RH Qh;have hml:=(List.getElem?_eq_some_iff.1 h2).1;refine⟨ms.length,⟨st.n,st.h.set c (.row false (Xo (vs+len *z) (vs+len *z+n *z) ms++[((l++(l2.drop off2).take (n *z)).length,vs,some (l++(l2.drop off2).take (n *z)))]))⟩,?_,?_,rfl⟩
 ·rw[h];simp only[T.c,Nat.beq_refl,Jy,hr,Q1,Bool.not_false,Ju];rw[XH _ _ _ (by rw[Um,List.drop_zero];omega),Um,List.drop_zero,List.take_of_length_le Qh];simp only[hbeq,QN,Nat.ble_eq_true_of_le hb,Jy,Ju,Uy,Uv,Zf,YB,Nat.add_zero]
 ·have hg: ∀x C,(st.h.set c C).get x=if x=c then some C else st.h.get x:=fun x C=>Tr.Xb _ _ _ _
  refine hM.J8 hk ⟨fun x hx=>?_,Nat.le_refl _,fun x hx hX=>?_⟩ ⟨vs,_,(hg _ _).trans (if_pos rfl),?_⟩
  ·show(st.h.set c _).get x=none;have:=hM.lt c m l hm0;have hx:st.n≤x:=hx;rw[hg,if_neg Qh];exact hM.fresh x hx
  ·show(st.h.set c _).get x=_;rw[hg,if_neg (by simpa using hX)]
  ·rw[List.getElem?_append_right (by rw[JP];exact Nat.le_refl _),JP,Nat.sub_self];rfl
variable {K:List (Nat×AV)}
theorem Ww{y:Operand}{tys:Array TypeId}{u w v:AV}{st1:St}(ht:tys= #[t,t])(hx:JF G K x=some u)(hy:JF G K y=some w)(h:Y1 P [t,t] u w st=some (v,st1)):YK P G K (.call {callee:=.builtin .append,args:= #[x,y],argTypes:=tys}) st v st1:=.of fun T hT c d ty pos af g=>by
 subst ht;show(ob (Ug G T x) fun a=>ob (Ug G T y) fun b=>Y1 P [t,t] a b st)=_;rw[hT.Ug hx,hT.Ug hy,Q1,Q1,h]
theorem LA(T:LL P t e z){s x:AV}(hs:(match s with|.nils=>true|.sl _ _ _ _ _=>true|_=>false)=true)(hx:(match x with|.nils=>true|.sl0 _ _ _=>true|.slz _ _ _ _ _=>true|_=>false)=true):Y1 P [t,t] s x st=some (s,st):=by
 obtain⟨zc,hz,hzl⟩:=T.zc;unfold Y1;simp only[Nat.beq_refl,Jy,T.u,T.s,hz,Q1,Uv,hzl,T.c,Nat.ble_eq_true_of_le T.p,Nat.ble_eq_true_of_le T.b]
 cases x<;>first
  |(cases hx;done)
  |(cases s<;>first|rfl|(cases hs;done))
theorem Cv(T:LL P t e z)(hr2:Z9 st.h.get c2 m2 l2)(hle:off2≤l2.length):Y1 P [t,t] .nils (.sl c2 m2 off2 0 z2) st=some (.nils,st):=by
 obtain⟨_,_,_,_,h,_⟩:=Xg T (s:=.nils) (n:=0) (z2:=z2) hr2 (by simpa using hle);rw[h];rfl
theorem Cu(T:LL P t e z)(hr:Jj st.h.get c m l)(hl:l.length=len *z)(hr2:Z9 st.h.get c2 m2 l2)(hle:off2≤l2.length):Y1 P [t,t] (.sl c m 0 len z) (.sl c2 m2 off2 0 z2) st=some (.sl c m 0 len z,st):=by
 obtain⟨_,_,_,_,h,_⟩:=Xg T (s:=.sl c m 0 len z) (n:=0) (z2:=z2) hr2 (by simpa using hle);rw[h];obtain⟨vs,ms,h1,h2⟩:=hr
 have hr:rowOf st.h.get c m=some (l.length,vs,l,false,ms):=by
  unfold rowOf;rw[h1,Q1];show ob (nth ms m) _=_;rw[Yg,h2];rfl
 simp only[T.c,Nat.beq_refl,Jy,hr,Q1,Bool.not_false,Ju];rw[XH _ _ _ (by rw[Um,List.drop_zero];omega)];rfl

theorem Jr.parts{T:Tr AV}(h:Jr K T){parts:Array (Nat×Operand)}{ps:List (Nat×AV)}(hp:Xn (JF G K) parts=some ps):Xn (Proofs.YtaomhhkflohhgaaGreatDoor.Ug G T) parts=some ps:=by
 unfold Xn at hp ⊢;generalize parts.toList=l at hp ⊢
 induction l generalizing ps with
 |nil=>exact hp
 |cons x l ih=>
  rw[Ub]at hp ⊢;obtain⟨b,hb,hp⟩:=Qq hp;obtain⟨t,ht,hp⟩:=Qq hp;obtain⟨v,hv,hb⟩:=Qq hb;rw[h.Ug hv,Q1,Q1,ih ht,Q1]
  injection hb with hb
  subst hb;exact hp
structure qb(P:Program)(t:TypeId)(tbl:List (Nat×Nat))(z:List AV):Prop where
 u: ∃fs,P.underlying t=some (.struct fs)∧L4 P fs=true∧fs.toList.map (fun f=>(f.offset,P.cellsOf f.type))=tbl
 z:zeroOf P t=some z
theorem TF(fs:Array Field)(tbl:List (Nat×Nat))(h:fs.toList.map (fun f=>(f.offset,P.cellsOf f.type))=tbl):N1 P fs=nth tbl:=by
 funext i
 subst h;unfold N1;rw[Yg,Yg,List.getElem?_map]
 cases fs.toList[i]? <;>rfl
theorem Fx{parts:Array (Nat×Operand)}{tbl:List (Nat×Nat)}{z r:List AV}{ps:List (Nat×AV)}(S:qb P t tbl z)(hp:Xn (JF G K) parts=some ps)(hf:VH (nth tbl) ps z=some r):YK P G K (.build t parts) st (.agg r) st:=.of fun T hT c d ty pos af g=>by
 show ret (E8 P t parts (Ug G T)) st=_;obtain⟨fs,u,ft,hb⟩:=S.u;unfold E8;simp only[u,ft,Jy,S.z,Q1,hT.parts hp,TF fs tbl hb,hf,Uy];rfl
theorem Hv{parts:Array (Nat×Operand)}{zc r:List AV}{ps:List (Nat×AV)}(T:LL P t e z)(hz:zeroOf P e=some zc)(hp:Xn (JF G K) parts=some ps)(hf:VH (fun i=>some (i *z,z)) ps (Ee len zc)=some r)(hc:Ea Jl r=true)(hb:len *z≤16777216)(hM:Mem h0 n0 X st M):
  ∃c st1,YK P G K (.buildSlice t len parts) st (.sl c 0 0 len z) st1∧Mem h0 n0 X st1 ((c,0,r)::M):=by
 refine⟨st.n,_,.of fun T' hT c d ty pos af g=>?_,hM.alloc r⟩;show XR P t len parts (Ug G T') st=_;obtain⟨zc',h1,h2⟩:=T.zc;rw[hz]at h1
 injection h1 with h1
 subst h1;unfold XR;simp only[T.u,T.s,Jy,hz,Q1,Uv,h2,T.c,Nat.beq_refl,Nat.ble_eq_true_of_le T.p,Nat.ble_eq_true_of_le hb,hT.parts hp,hf,hc,Zv,Ju]

theorem Jr.lo{T:Tr AV}(h:Jr K T){lo:Option Operand}{a:Nat}(hl:X4 (JF G K) lo=some a):X4 (Proofs.YtaomhhkflohhgaaGreatDoor.Ug G T) lo=some a:=by
 cases lo with
 |none=>exact hl
 |some x=>
  have hl:(ob (JF G K x) fun v=>match v with
   |.int _ i=>AP i
   |_=>none)=some a:=hl
  obtain⟨v,hv,hl⟩:=Qq hl
  show(ob (Proofs.YtaomhhkflohhgaaGreatDoor.Ug G T x) fun v=>match v with
   |.int _ i=>AP i
   |_=>none)=some a
  rw[h.Ug hv,Q1];exact hl
theorem Jr.hi{T:Tr AV}(h:Jr K T){hi:Option Operand}{n a:Nat}(hl:Xf (JF G K) hi n=some a):Xf (Proofs.YtaomhhkflohhgaaGreatDoor.Ug G T) hi n=some a:=by
 cases hi with
 |none=>exact hl
 |some x=>
  have hl:(ob (JF G K x) fun v=>match v with
   |.int _ i=>AP i
   |_=>none)=some a:=hl
  obtain⟨v,hv,hl⟩:=Qq hl
  show(ob (Proofs.YtaomhhkflohhgaaGreatDoor.Ug G T x) fun v=>match v with
   |.int _ i=>AP i
   |_=>none)=some a
  rw[h.Ug hv,Q1];exact hl
theorem TJ{lo hi:Option Operand}{l:List Nat}{a b:Nat}(ht:P.underlying t=some .string)(hx:JF G K x=some (.str l))(hl:X4 (JF G K) lo=some a)(hh:Xf (JF G K) hi l.length=some b)(h1:a≤b)(h2:b≤l.length):
  YK P G K (.slice t x lo hi none) st (.str ((l.drop a).take (b-a))) st:=Dm hx fun T hT=>by
 unfold E2;simp only[ht,Ju,Uv,hT.lo hl,hT.hi hh,Q1,Nat.ble_eq_true_of_le h1,Nat.ble_eq_true_of_le h2,Jy];rw[XH _ _ _ (by rw[Um,List.length_drop];omega),Um]
theorem TL{lo hi:Option Operand}{off a b:Nat}(he:UA P t=some z)(hx:JF G K x=some (.sl c m off len z))(hl:X4 (JF G K) lo=some a)(hh:Xf (JF G K) hi len=some b)(h1:a≤b)(h2:b≤len):
  YK P G K (.slice t x lo hi none) st (Qp (Qp (Nat.beq a 0) true (Nat.ble (a+1) len)) (.sl c m (off+a *z) (b-a) z) (.slz c m off a z)) st:=Dm hx fun T hT=>by
 unfold E2;simp only[he,Q1,Ju,hT.lo hl,hT.hi hh,Nat.ble_eq_true_of_le h1,Nat.ble_eq_true_of_le h2,Jy,Nat.beq_refl]
 cases Qp (Nat.beq a 0) true (Nat.ble (a+1) len)<;>rfl
theorem IV{s d:TypeId}{k k':IntKind}{n:Int}(hd:P.underlying d=some (.int k'))(hs:P.underlying s=some (.int k))(hx:JF G K x=some (.int k n)):YK P G K (.convert s d x) st (.int k' (k'.wrap n)) st:=N6 hx (by
 unfold Bh;simp only[hs];unfold conv
 simp only[hd,hs,Option.isSome_some,Jy,ZX,Yl])
end

structure QS(h:Hp)(X:List Nat)(z:Nat)(ls:List (List AV))(ks:AV):Prop where
 len:XI ks=some ls.length
 YZ:(ls.length:Int)≤9223372036854775807
 cell:Jl ks=true
 at_: ∀(i:Nat) (cs:List AV),ls[i]? =some cs→ ∃c m off cells,ks=.sl c m off ls.length z∧c∉X∧Z9 h c m cells∧cs.length=z∧(cells.drop (off+i *z)).take z=cs
 alive: ∀(c m off n z':Nat),ks=.sl c m off n z'→c∉X∧ ∃cells,Z9 h c m cells∧off+n *z≤cells.length
theorem QS.mem{h0:Hp}{n0:Nat}{X:List Nat}{st:St}{M:List (Nat×Nat×List AV)}(hM:Mem h0 n0 Y st M)(r:QS h0 X z ls ks)(hY: ∀c∈Y,c∈X):QS st.h.get X z ls ks:=
 ⟨r.len,r.YZ,r.cell,fun i cs hi=>by
  obtain⟨c,m,off,cells,h1,h2,h3,h4⟩:=r.at_ i cs hi
  exact⟨c,m,off,cells,h1,h2,hM.AQ (fun hc=>h2 (hY c hc)) h3,h4⟩,fun c m off n z' e=>by
  obtain⟨h1,cells,h2,h3⟩:=r.alive c m off n z' e
  exact⟨h1,cells,hM.AQ (fun hc=>h1 (hY c hc)) h2,h3⟩⟩
theorem QS.nil(h:Hp)(X:List Nat)(z:Nat):QS h X z [] .nils:=⟨rfl,by simp,rfl,fun i cs hi=>by simp at hi,fun _ _ _ _ _ e=>by cases e⟩
theorem Zs: ∀{ls:List (List AV)},(∀cs∈ls,cs.length=z)→ls.flatten.length=ls.length *z:=by
 intro ls
 induction ls with
 |nil=>intro _;simp
 |cons a l ih=>
  intro h;rw[List.flatten_cons,List.length_append,ih fun cs hc=>h cs (List.mem_cons_of_mem _ hc),h a (List.mem_cons_self ..),List.length_cons,Nat.succ_mul,Nat.add_comm]
theorem ER: ∀{ls:List (List AV)} (i:Nat) (cs:List AV),(∀cs∈ls,cs.length=z)→ls[i]? =some cs→(ls.flatten.drop (i *z)).take z=cs:=by
 intro ls
 induction ls with
 |nil=>intro i cs _ h;simp at h
 |cons a l ih=>
  intro i cs hz hi;have ha:=hz a (List.mem_cons_self ..)
  cases i with
  |zero=>
   simp at hi;subst hi;rw[Nat.zero_mul,List.drop_zero,List.flatten_cons,List.take_append_of_le_length Qh,List.take_of_length_le Qh]
  |succ i=>
   rw[Nat.succ_mul,Nat.add_comm,List.flatten_cons,←List.drop_drop,←ha,List.drop_left];rw[ha];exact ih i cs (fun cs hc=>hz cs (List.mem_cons_of_mem _ hc)) (by simpa using hi)
theorem QS.own{X:List Nat}(r:Jj h c m ls.flatten)(hz: ∀cs∈ls,cs.length=z)(hX:c∉X)(hb:(ls.length:Int)≤9223372036854775807):QS h X z ls (.sl c m 0 ls.length z):=
 ⟨rfl,hb,rfl,fun i cs hi=>⟨c,m,0,_,rfl,hX,r.YQ,hz cs (List.mem_of_getElem? hi),by rw[Nat.zero_add];exact ER i cs hz hi⟩,fun c' m' off n z' e=>by
  injection e with e1 e2 e3 e4 e5
  subst e1 e2 e3 e4 e5
  exact⟨hX,_,r.YQ,by rw[Zs hz];omega⟩⟩
theorem QS.load{P:Program}{X:List Nat}(r:QS h X z ls ks){i:Nat}{cs:List AV}(hi:ls[i]? =some cs): ∃c m off,ks=.sl c m off ls.length z∧c∉X∧
  (∀t,tk P t=.agg z→JD P t (.ptr c m (off+i *z)) h=some (.agg cs))∧(∀t j v,tk P t=.one→cs[j]? =some v→JD P t (.ptr c m (off+i *z+j)) h=some v)∧
  ∀t j n,tk P t=.agg n→j+n≤z→JD P t (.ptr c m (off+i *z+j)) h=some (.agg ((cs.drop j).take n)):=by
 obtain⟨c,m,off,cells,h1,h2,⟨ro,e,vs,ms,h3,h4⟩,h5,h6⟩:=r.at_ i cs hi
 have hld: ∀t o,JD P t (.ptr c m o) h=Wc P t cells o:=fun t o=>by
  show ob (rowOf h c m) _=_;unfold rowOf;rw[h3,Q1];show ob (ob (nth ms m) _) _=_;rw[Yg,h4];rfl
 have hlen:off+i *z+z≤cells.length∨z=0:=by
  rw[←h6,List.length_take,List.length_drop]at h5;omega
 refine⟨c,m,off,h1,h2,fun t ht=>?_,fun t j v ht hv=>?_,fun t j n ht hj=>?_⟩
 ·rw[hld];refine QA ht ?_;rw[XH _ _ _ (by rw[Um,List.length_drop];omega),Um,h6]
 ·rw[hld];refine Qj ht ?_
  have hj:j<z:=by rw[←h5];exact(List.getElem?_eq_some_iff.1 hv).1
  rw[Yg,←List.getElem?_drop];rw[←h6,List.getElem?_take,if_pos hj]at hv;exact hv
 ·rw[hld];refine QA ht ?_;rw[XH _ _ _ (by rw[Um,List.length_drop];omega),Um,←List.drop_drop,←h6,List.drop_take,List.take_take,Nat.min_eq_left Qh]
theorem QS.wB{P:Program}{h':Hp}{X:List Nat}(r:QS h X z ls ks)(r':QS h' Y z ls ks){i:Nat}{cs:List AV}(hi:ls[i]? =some cs): ∃c m off,ks=.sl c m off ls.length z∧c∉X∧
  (∀t,tk P t=.agg z→JD P t (.ptr c m (off+i *z)) h=some (.agg cs))∧(∀t j v,tk P t=.one→cs[j]? =some v→JD P t (.ptr c m (off+i *z+j)) h=some v)∧
  (∀t j n,tk P t=.agg n→j+n≤z→JD P t (.ptr c m (off+i *z+j)) h=some (.agg ((cs.drop j).take n)))∧
  (∀t,tk P t=.agg z→JD P t (.ptr c m (off+i *z)) h'=some (.agg cs))∧(∀t j v,tk P t=.one→cs[j]? =some v→JD P t (.ptr c m (off+i *z+j)) h'=some v)∧
  (∀t j n,tk P t=.agg n→j+n≤z→JD P t (.ptr c m (off+i *z+j)) h'=some (.agg ((cs.drop j).take n))):=by
 obtain⟨c,m,off,e,hX,h1,h2,h3⟩:=r.load (P:=P) hi;obtain⟨c',m',off',e',_,k1,k2,k3⟩:=r'.load (P:=P) hi;rw[e]at e'
 injection e' with e1 e2 e3
 subst e1 e2 e3;exact⟨c,m,off,e,hX,h1,h2,h3,k1,k2,k3⟩
end
section
open Go Go.RowKit
variable {f:FuncId}

theorem HR.zu{w0:World}{p:JY}{h:Hp}{w w':World}{c:Nat}(H:HR w0 p h w)(hB:Below w.heap.size w w')(hc:h c=none){v:Value}{n z:Nat}{el:TypeId}{az:List AV}(hown:w'.ownsRow w.heap.size el z v n (Qx p az))(hn:0<n)(hz:0<z)
  (hw:Z2 h az) (ho: ∀a∈az,Jl a=true): ∃p',Step w0 p w p' (Hi h c (.row false [(az.length,0,some az)])) w'∧v=Qg p' (.sl c 0 0 n z)∧az.length=n *z:=by
 obtain⟨hl,hv⟩:=hown
 have hlen:az.length=n *z:=by rw[←QJ p az];exact hl
 rcases hv with⟨_,rfl⟩|⟨g,cap,cur,rfl,hb,hg,hnc,hcm,hsz,htk⟩
 ·omega
 have hgl:=(Array.getElem?_eq_some_iff.1 hg).1;have hle:JY.le p (XJ p c g (cap *z)):=N2 H hc _ _
 have hgr:Grow h (Hi h c (.row false [(az.length,0,some az)])):=ZN fun C hC=>by rw[hc]at hC;cases hC
 refine⟨XJ p c g (cap *z),?_,?_,hlen⟩
 ·refine H.LG hB.os hB.tape hB.output hB.size hle ?_ (fun b hb _=>hB.block b hb) (fun b hb=>hB.block b (Nat.lt_of_lt_of_le hb H.size)) ?_ ?_ (fun C hC=>by rw[hc]at hC;cases hC) ⟨fun m e vs cs hm=>?_,fun m e vs cs m' e' vs' cs' q q' h1 h2 h3 h4 _=>?_⟩
  ·intro c' m x hx;unfold XJ at hx
   split at hx
   ·rename_i hh;exact .inr hh.1
   ·exact .inl hx
  ·intro m x hx _;unfold XJ at hx
   split at hx
   ·injection hx with hx;subst hx;exact⟨hgl,.inl hb⟩
   ·rw[H.XV hc m]at hx;cases hx
  ·intro m x hx;unfold XJ at hx
   split at hx
   ·rename_i hh;rw[hh.2];exact Nat.zero_lt_one
   ·rw[H.XV hc m]at hx;cases hx
  ·cases m with
   |succ m=>simp at hm
   |zero=>
    simp at hm;obtain⟨rfl,rfl,rfl⟩:=hm;refine⟨_,_,el,Yx _ _ _ _,.of hg,?_,?_,fun _=>Nat.le_trans H.size hb,fun l' hl'=>?_⟩
    ·show 0+cap *z≤cur.size;omega
    ·show az.length≤cap *z;rw[hlen];exact Nat.mul_le_mul_right _ hnc
    ·injection hl' with hl'
     subst hl';refine⟨rfl,fun j v hj=>?_⟩;have hv:=hw.get hj;refine⟨?_,WF.grow hgr v hv,ho v (List.mem_of_getElem? hj)⟩;rw[YA H.Fa hle v hv,Nat.zero_add];have h1:=Va (p:=p) az j v hj;rw[←htk,List.getElem?_toArray,List.getElem?_take]at h1
     split at h1
     ·rw[Array.getElem?_toList]at h1;exact h1
     ·cases h1
  ·cases m with
   |succ m=>simp at h1
   |zero=>cases m' with
    |succ m'=>simp at h2
    |zero=>
     simp at h1 h2;obtain⟨_,rfl,_⟩:=h1;obtain⟨_,rfl,_⟩:=h2;rw[h3]at h4
     injection h4 with h4
     rw[h4]
 ·simp only[Qg,Yx,Nat.sub_zero,Nat.add_zero];rw[Nat.mul_div_cancel _ hz]
theorem HR.under{w0:World}{p:JY}{h:Hp}{w:World}(H:HR w0 p h w):Below w0.heap.size w0 w:=⟨H.os,H.tape,H.output,H.size,H.old⟩

def Real(P:Program)(f:FuncId):Prop:= ∃fn,P.funcs[f]? =some fn∧fn.body.isSome=true∧(fn.name== "runtime.NumGoroutine")=false
noncomputable def yM(F:List AV→Option AV):List AV→St→Option (AV×St):=fun args st=>ob (F args) fun v=>some (v,st)
theorem yL{P:Program}{G:Env}{F:List AV→Option AV}{I:World→Prop}(hr:Real P f)(hI: ∀w0 w,G.i w0→Below w0.heap.size w0 w→I w)
  (hF: ∀(h:Hp) args v,F args=some v→Z2 h args→WF h v∧ ∀(p:JY) (w:World),I w→Calls P f (Qx p args).toArray w fun e w'=>e=.returned (Qg p v)∧Below w.heap.size w w'):H7 P G f (yM F):=by
 intro args st v st' hs hf ha;obtain⟨u,hu,hs⟩:=Qq hs
 injection hs with hs
 injection hs with e1 e2
 subst e1 e2;obtain⟨h1,h2⟩:=hF _ _ _ hu ha;refine⟨hr,fun w0 p w H hG=>⟨Ab.refl _,(h2 p w (hI w0 w hG.2 H.under)).mono fun e w' he=>?_⟩⟩;obtain⟨rfl,hb⟩:=he;exact⟨p,rfl,H.He hb,h1⟩
noncomputable def Aj(z:Nat)(F:List AV→Option (List AV×Nat×List AV)):List AV→St→Option (AV×St):=fun args st=>ob (F args) fun r=>
 Nat.rec (some (.tup (.nils::r.2.2),st)) (fun k _=>some (.tup (.sl st.n 0 0 (k+1) z::r.2.2),⟨st.n+1,st.h.set st.n (.row false [(r.1.length,0,some r.1)])⟩)) r.2.1
theorem Gw{P:Program}{G:Env}{z:Nat}{el:TypeId}{F:List AV→Option (List AV×Nat×List AV)}{I:World→Prop}(hr:Real P f)(hz:0<z)(hI: ∀w0 w,G.i w0→Below w0.heap.size w0 w→I w)
  (hF: ∀(h:Hp) args az n rest,F args=some (az,n,rest)→Z2 h args→Z2 h az∧Z2 h rest∧(∀a∈az,Jl a=true)∧ ∀(p:JY) (w:World),I w→Calls P f (Qx p args).toArray w fun e w'=>
   ∃v,e=.returned (.tuple (v::Qx p rest).toArray)∧w'.ownsRow w.heap.size el z v n (Qx p az)∧Below w.heap.size w w'∧(n=0→v=.slice none 0 0)):H7 P G f (Aj z F):=by
 intro args st v st' hs hf ha;obtain⟨⟨az,n,rest⟩,hu,hs⟩:=Qq hs;obtain⟨h1,h2,h3,h4⟩:=hF _ _ _ _ _ hu ha
 cases n with
 |zero=>
  have hs:some (AV.tup (.nils::rest),st)=some (v,st'):=hs
  injection hs with hs
  injection hs with e1 e2
  subst e1 e2;refine⟨hr,fun w0 p w H hG=>⟨Ab.refl _,(h4 p w (hI w0 w hG.2 H.under)).mono fun e w' he=>?_⟩⟩;obtain⟨u,rfl,_,hb,hu⟩:=he;rw[hu rfl];exact⟨p,rfl,H.He hb,trivial,h2⟩
 |succ k=>
  have hs:some (AV.tup (.sl st.n 0 0 (k+1) z::rest),(⟨st.n+1,st.h.set st.n (.row false [(az.length,0,some az)])⟩:St))=some (v,st'):=hs
  injection hs with hs
  injection hs with e1 e2
  subst e1 e2;refine⟨hr,fun w0 p w H hG=>⟨Cw hf _,(h4 p w (hI w0 w hG.2 H.under)).mono fun e w' he=>?_⟩⟩;obtain⟨u,rfl,ho,hb,_⟩:=he;obtain⟨p',k1,k2,k3⟩:=H.zu hb (hf st.n (Nat.le_refl _)) ho (Nat.succ_pos k) hz h1 h3;refine⟨p',?_,by rw[Ut];exact k1,?_,?_⟩
  ·simp only[Qg,Qx];rw[k2,EY H.Fa k1.le rest h2];rfl
  ·rw[Ut];exact IB _ _ _ _ _ _ _ _ hz (by rw[k3];exact Nat.le_refl _)
  ·exact Z2.grow (Cw hf _).grow rest h2
noncomputable def SC(l:List (FuncId×(List AV→St→Option (AV×St))))(f:FuncId):Option (List AV→St→Option (AV×St)):=List.rec none (fun q _ ih=>Qp (Nat.beq f q.1) (some q.2) ih) l
theorem M1{l:List (FuncId×(List AV→St→Option (AV×St)))}{q:List AV→St→Option (AV×St)}(h:SC l f=some q):(f,q)∈l:=by
 induction l with
 |nil=>cases h
 |cons x l ih=>
  have h:Qp (Nat.beq f x.1) (some x.2) (SC l f)=some q:=h
  cases hb:Nat.beq f x.1 with
  |true=>
   rw[hb]at h
   injection h with h
   subst h;rw[Nat.eq_of_beq_eq_true hb];exact List.mem_cons_self ..
  |false=>rw[hb]at h;exact List.mem_cons_of_mem _ (ih h)
end
section
open Go
variable {Y:List Nat} {a:Int} {b pol:Bool} {c c2 j k2 m m2 off:Nat} {e t yt:TypeId} {k:IntKind} {ks2:AV} {l l2:List AV} {ls2:List (List AV)} {x y:Operand}

section
variable {P:Program} {G:Env} {N:Nat} {T:Tr AV} {st:St} {ops rest:List Oper} {K:List (Nat×AV)} {R:Tr AV→St→Prop} {d:Nat} {op:Op} {ty:TypeId} {pos:String} {af:Array Edge} {v:AV} {st1:St}
theorem o1(hK:Jr K T)(h:YK P G K op st v st1)(hN:Nat.ble (d+1) N=true)(hn: ∀T',Jr ((d,v)::K) T'→WR P G N ops rest R T' st1):WR P G N ops (⟨some d,op,ty,pos,af,none⟩::rest) R T st:=LZ hK h (Nat.le_of_ble_eq_true hN) hn
theorem oB{x:Bool}(hK:Jr K T)(h:YK P G K op st (.bool x) st1)(hN:Nat.ble (d+1) N=true)(hn: ∀(b:Bool) T',x=b→Jr ((d,.bool b)::K) T'→WR P G N ops rest R T' st1):WR P G N ops (⟨some d,op,ty,pos,af,none⟩::rest) R T st:=x6 hK h (Nat.le_of_ble_eq_true hN) hn
theorem og{t:Nat}(hK:Jr K T)(ht:YY ops j=some t)(hb:K.lookup t=some (.bool pol))(h:YK P G K op st v st1)(hN:Nat.ble (d+1) N=true)(hn: ∀T',Jr ((d,v)::K) T'→WR P G N ops rest R T' st1):WR P G N ops (⟨some d,op,ty,pos,af,some (j,pol)⟩::rest) R T st:=xa hK ht hb h (Nat.le_of_ble_eq_true hN) hn
theorem xl{t:Nat}{x:Bool}(hK:Jr K T)(ht:YY ops j=some t)(hb:K.lookup t=some (.bool pol))(h:YK P G K op st (.bool x) st1)(hN:Nat.ble (d+1) N=true)(hn: ∀(b:Bool) T',x=b→Jr ((d,.bool b)::K) T'→WR P G N ops rest R T' st1):WR P G N ops (⟨some d,op,ty,pos,af,some (j,pol)⟩::rest) R T st:=xa hK ht hb h (Nat.le_of_ble_eq_true hN) (hn x · rfl)
theorem gn{t:Nat}(hK:Jr K T)(ht:YY ops j=some t)(hb:K.lookup t=some (.bool b))(hne:(b==pol)=false)(hN:Nat.ble (d+1) N=true)(hn: ∀T',Jr ((d,.tup [])::K) T'→WR P G N ops rest R T' st):WR P G N ops (⟨some d,op,ty,pos,af,some (j,pol)⟩::rest) R T st:=vO hK ht hb hne (Nat.le_of_ble_eq_true hN) hn
end
section
variable {P:Program} {G:Env} {N:Nat} {st:St} {K:List (Nat×AV)} {T:Tr AV} {ops:List Oper} {r:List (Nat×Nat)} {R:Tr AV→St→Prop} {sn:List St} {i d:Nat} {op:Op} {ty:TypeId} {pos:String} {af:Array Edge} {v:AV} {st1:St}
theorem d1(ho:ops[i]? =some ⟨some d,op,ty,pos,af,none⟩)(hK:Jr K T)(h:YK P G K op st v st1)(hk:Nat.beq (QP P op) 3=false)(hN:Nat.ble (d+1) N=true)(hn: ∀T',Jr ((d,v)::K) T'→WD P G N ops (r.map (Xm ops)) R T' st1 sn):WD P G N ops (((i,0)::r).map (Xm ops)) R T st sn:=RT ho hK h hk (Nat.le_of_ble_eq_true hN) hn
theorem dA(ho:ops[i]? =some ⟨some d,op,ty,pos,af,none⟩)(hK:Jr K T)(h:YK P G K op st v st1)(hk:Nat.beq (QP P op) 3=true)(hN:Nat.ble (d+1) N=true)(hn: ∀T',Jr ((d,v)::K) T'→WD P G N ops (r.map (Xm ops)) R T' st1 (st1::sn)):WD P G N ops (((i,0)::r).map (Xm ops)) R T st sn:=P6 ho hK h hk (Nat.le_of_ble_eq_true hN) hn
theorem dB{x:Bool}(ho:ops[i]? =some ⟨some d,op,ty,pos,af,none⟩)(hK:Jr K T)(h:YK P G K op st (.bool x) st1)(hk:Nat.beq (QP P op) 3=false)(hN:Nat.ble (d+1) N=true)(hn: ∀(b:Bool) T',x=b→Jr ((d,.bool b)::K) T'→WD P G N ops (r.map (Xm ops)) R T' st1 sn):WD P G N ops (((i,0)::r).map (Xm ops)) R T st sn:=x7 ho hK h hk (Nat.le_of_ble_eq_true hN) hn
theorem dg{t:Nat}(ho:ops[i]? =some ⟨some d,op,ty,pos,af,some (j,pol)⟩)(hK:Jr K T)(ht:YY ops j=some t)(hb:K.lookup t=some (.bool pol))(h:YK P G K op st v st1)(hk:Nat.beq (QP P op) 3=false)(hN:Nat.ble (d+1) N=true)(hn: ∀T',Jr ((d,v)::K) T'→WD P G N ops (r.map (Xm ops)) R T' st1 sn):WD P G N ops (((i,0)::r).map (Xm ops)) R T st sn:=vQ ho hK ht hb h hk (Nat.le_of_ble_eq_true hN) hn
theorem ao{t:Nat}(ho:ops[i]? =some ⟨some d,op,ty,pos,af,some (j,pol)⟩)(hK:Jr K T)(ht:YY ops j=some t)(hb:K.lookup t=some (.bool pol))(h:YK P G K op st v st1)(hk:Nat.beq (QP P op) 3=true)(hN:Nat.ble (d+1) N=true)(hn: ∀T',Jr ((d,v)::K) T'→WD P G N ops (r.map (Xm ops)) R T' st1 (st1::sn)):WD P G N ops (((i,0)::r).map (Xm ops)) R T st sn:=x8 ho hK ht hb h hk (Nat.le_of_ble_eq_true hN) hn
theorem Z1{t n:Nat}(ho:ops[i]? =some ⟨some d,op,ty,pos,af,some (j,pol)⟩)(hK:Jr K T)(ht:YY ops j=some t)(hb:K.lookup t=some (.bool b))(hne:(b==pol)=false)(hN:Nat.ble (d+1) N=true)(hn: ∀sn' T',Jr ((d,.tup [])::K) T'→WD P G N ops (r.map (Xm ops)) R T' st sn'):WD P G N ops (((i,n)::r).map (Xm ops)) R T st sn:=vR ho hK ht hb hne (Nat.le_of_ble_eq_true hN) (fun T' sn'=>hn sn' T')
end

theorem Tj{ops:List Oper}{K:List (Nat×AV)}{T:Tr AV}{t:Nat}{d:Option Nat}{op:Op}{ty:TypeId}{pos:String}{af:Array Edge}(hK:Jr K T)(ht:YY ops j=some t)(hb:K.lookup t=some (.tup [])):Ym ops ⟨d,op,ty,pos,af,some (j,pol)⟩ T=false:=by
 unfold Ym;simp only[ht];rw[show Zb T t=.tup []from hK t _ hb]
theorem al{P:Program}{G:Env}{N:Nat}{T:Tr AV}{st:St}{ops rest:List Oper}{K:List (Nat×AV)}{R:Tr AV→St→Prop}{d:Nat}{op:Op}{ty:TypeId}{pos:String}{af:Array Edge}{t:Nat}(hK:Jr K T)(ht:YY ops j=some t)(hb:K.lookup t=some (.tup []))(hN:Nat.ble (d+1) N=true)(hn: ∀T',Jr ((d,.tup [])::K) T'→WR P G N ops rest R T' st):WR P G N ops (⟨some d,op,ty,pos,af,some (j,pol)⟩::rest) R T st:=by
 obtain⟨L',n',T',st',h1,h2⟩:=hn _ (hK.set d (.tup []));refine⟨L',n',T',st',?_,h2⟩;show(ob (Y8 P G _ ops _ T st) fun r=>E4 N (some d) r.1 T fun T=>tl (HU P G _ N ops rest T r.2))=_;unfold Y8;rw[Tj hK ht hb,QN,Q1];show QZ (Nat.ble (d+1) N) (T.put d (.tup []) _)=_;rw[hN,Tr.put_eq];exact h1
section
variable {P:Program} {G:Env} {N:Nat} {T:Tr AV} {st:St} {ops rest:List Oper} {K:List (Nat×AV)} {R:Tr AV→St→Prop} {d:Nat} {ty:TypeId} {pos:String} {af:Array Edge} {h0:Hp} {n0:Nat} {X:List Nat} {M:List (Nat×Nat×List AV)}
theorem Fb{len z:Nat}{parts:Array (Nat×Operand)}{zc r:List AV}{ps:List (Nat×AV)}(hK:Jr K T)(hM:Mem h0 n0 X st M)(S:LL P t e z)(hz:zeroOf P e=some zc)(hp:Xn (JF G K) parts=some ps)(hf:VH (fun i=>some (i *z,z)) ps (Ee len zc)=some r)(hc:Ea Jl r=true)(hb:Nat.ble (len *z) 16777216=true)(hN:Nat.ble (d+1) N=true)
  (hn: ∀(c:Nat) T' st',Jr ((d,.sl c 0 0 len z)::K) T'→Mem h0 n0 X st' ((c,0,r)::M)→WR P G N ops rest R T' st'):WR P G N ops (⟨some d,.buildSlice t len parts,ty,pos,af,none⟩::rest) R T st:=by
 obtain⟨c,st1,h1,h2⟩:=Hv (G:=G) S hz hp hf hc (Nat.le_of_ble_eq_true hb) hM;exact LZ hK h1 (Nat.le_of_ble_eq_true hN) fun T' hT'=>hn c T' st1 hT' h2
theorem Z3{sn:List St}{i:Nat}{rr:List (Nat×Nat)}{len z:Nat}{parts:Array (Nat×Operand)}{zc r:List AV}{ps:List (Nat×AV)}(ho:ops[i]? =some ⟨some d,.buildSlice t len parts,ty,pos,af,none⟩)(hK:Jr K T)(hM:Mem h0 n0 X st M)(S:LL P t e z)(hz:zeroOf P e=some zc)(hp:Xn (JF G K) parts=some ps)(hf:VH (fun i=>some (i *z,z)) ps (Ee len zc)=some r)(hc:Ea Jl r=true)(hb:Nat.ble (len *z) 16777216=true)(hN:Nat.ble (d+1) N=true)
  (hn: ∀(c:Nat) T' st',Jr ((d,.sl c 0 0 len z)::K) T'→Mem h0 n0 X st' ((c,0,r)::M)→WD P G N ops (rr.map (Xm ops)) R T' st' sn):WD P G N ops (((i,0)::rr).map (Xm ops)) R T st sn:=by
 obtain⟨c,st1,h1,h2⟩:=Hv (G:=G) S hz hp hf hc (Nat.le_of_ble_eq_true hb) hM;exact RT ho hK h1 rfl (Nat.le_of_ble_eq_true hN) fun T' hT'=>hn c T' st1 hT' h2
end

inductive Acc(n0 z:Nat):List (Nat×Nat×List AV)→AV→List (List AV)→Prop
 |none:Acc n0 z [] .nils []
 |own {c m:Nat} {ls:List (List AV)} (hc:n0≤c) (hz: ∀cs∈ls,cs.length=z) (hb:ls.length≤1000000):Acc n0 z [(c,m,ls.flatten)] (.sl c m 0 ls.length z) ls
theorem Acc.less{n0 n1 z:Nat}{A:List (Nat×Nat×List AV)}{ks:AV}{ls:List (List AV)}(h:Acc n0 z A ks ls)(hn:n1≤n0):Acc n1 z A ks ls:=by
 cases h with
 |none=>exact .none
 |own hc hz hb=>exact .own (Nat.le_trans hn hc) hz hb
theorem Acc.len{n0 z:Nat}{A:List (Nat×Nat×List AV)}{ks:AV}{ls:List (List AV)}(h:Acc n0 z A ks ls):XI ks=some ls.length:=by cases h<;>rfl
theorem Acc.cell{n0 z:Nat}{A:List (Nat×Nat×List AV)}{ks:AV}{ls:List (List AV)}(h:Acc n0 z A ks ls):Jl ks=true:=by cases h<;>rfl
theorem Acc.YZ{n0 z:Nat}{A:List (Nat×Nat×List AV)}{ks:AV}{ls:List (List AV)}(h:Acc n0 z A ks ls):ls.length≤1000000:=by
 cases h with
 |none=>exact Nat.zero_le _
 |own hc hz hb=>exact hb
section
variable {P:Program} {G:Env} {N:Nat} {h0:Hp} {n0:Nat} {X:List Nat} {st:St} {M L A B:List (Nat×Nat×List AV)} {z:Nat} {ks:AV} {ls:List (List AV)}
theorem Mem.perm(h:Mem h0 n0 X st M){M':List (Nat×Nat×List AV)}(p:M.Perm M'):Mem h0 n0 X st M':=
 ⟨h.fresh,h.le,h.base,fun c m l hm=>h.row c m l (p.mem_iff.2 hm),fun c m l hm=>h.lt c m l (p.mem_iff.2 hm),fun c m l hm=>h.own c m l (p.mem_iff.2 hm),(p.map _).nodup_iff.1 h.nodup,h.old⟩
theorem Mem.cast(h:Mem h0 n0 X st M){M':List (Nat×Nat×List AV)}(e:M=M'):Mem h0 n0 X st M':=e▸h
theorem Mem.LJ(hM:Mem h0 n0 X st (L++(A++B))){n1:Nat}(hA:Acc n1 z A ks ls):QS st.h.get [] z ls ks:=by
 cases hA with
 |none=>exact .nil _ _ _
 |own hc hz hb=>
  rename_i c m;exact QS.own (hM.row c m _ Q3) hz Q3 Qh
theorem Se(L B:List (Nat×Nat×List AV))(a b:Nat×Nat×List AV):(L++([a]++B)).set L.length b=L++([b]++B):=by
 rw[List.set_append_right _ _ (Nat.le_refl _),Nat.sub_self];rfl
theorem SB(L B:List (Nat×Nat×List AV))(a:Nat×Nat×List AV):(L++([a]++B))[L.length]? =some a:=by
 rw[List.getElem?_append_right (Nat.le_refl _),Nat.sub_self];rfl
theorem Mem.zW(hM:Mem h0 n0 X st (L++(A++B)))(hA:Acc n0 z A ks ls)(T:LL P t e z)(hy:QS st.h.get Y z ls2 ks2)(hz2: ∀cs∈ls2,cs.length=z)(hb:ls.length+ls2.length≤1000000):
  ∃ks' A' st1,Y1 P [t,t] ks ks2 st=some (ks',st1)∧Acc n0 z A' ks' (ls++ls2)∧Mem h0 n0 X st1 (L++(A'++B)):=by
 have hzz: ∀cs∈ls++ls2,cs.length=z:=fun cs hc=>by
  rcases List.mem_append.1 hc with hc|hc
  ·cases hA with
   |none=>cases hc
   |own h1 h2 h3=>exact h2 cs hc
  ·exact hz2 cs hc
 have hl2:=hy.len
 cases ls2 with
 |nil=>
  rw[List.append_nil];refine⟨ks,A,st,?_,hA,hM⟩
  cases ks2<;>first
   |(cases hl2;done)
   |(refine LA T ?_ rfl;cases hA<;>rfl)
   |skip
  rename_i c2 m2 off2 n2 z2
  injection hl2 with hl2
  have hl2:n2=0:=hl2;subst hl2;obtain⟨_,cells,h1,h2⟩:=hy.alive _ _ _ _ _ rfl
  cases hA with
  |none=>exact Cv T h1 Qh
  |own h3 h4 h5=>
   rename_i c m;exact Cu T (hM.row c m _ Q3) (Zs h4) h1 Qh
 |cons x ls2=>
  obtain⟨c2,m2,off2,cells0,rfl,_,_,_,_⟩:=hy.at_ 0 x rfl;obtain⟨_,cells,hr2,hle⟩:=hy.alive _ _ _ _ _ rfl
  have hrow:(cells.drop off2).take ((x::ls2).length *z)=(x::ls2).flatten:=by
   apply List.ext_getElem?;intro j;rw[List.getElem?_take]
   split
   ·rename_i hj;rw[List.getElem?_drop];have hz0:0<z:=T.p;have hjd:j/z<(x::ls2).length:=Nat.div_lt_of_lt_mul (by rw[Nat.mul_comm];exact hj);obtain⟨cs,hcs⟩: ∃cs,(x::ls2)[j/z]? =some cs:=⟨_,List.getElem?_eq_getElem hjd⟩;obtain⟨c',m',off',cells',e,_,hr',h5,h6⟩:=hy.at_ _ _ hcs
    injection e with e1 e2 e3
    subst e1 e2 e3
    have:cells'=cells:=by
     obtain⟨a1,b1,d1,g1,i1,j1⟩:=hr';obtain⟨a2,b2,d2,g2,i2,j2⟩:=hr2;rw[i1]at i2
     injection i2 with i2
     injection i2 with i2 i3
     subst i3;rw[j1]at j2
     injection j2 with j2
     injection j2 with _ j2
     injection j2 with _ j2
     injection j2
    subst this;rw[Ly hz0 _ hz2,hcs];show _=cs[j % z]?;rw[←h6,List.getElem?_take,if_pos (Nat.mod_lt _ hz0),List.getElem?_drop]
    congr 1
    have:=Nat.div_add_mod j z;rw[Nat.mul_comm]at this;omega
   ·rename_i hj;rw[List.getElem?_eq_none];rw[Zs hz2];omega
  cases hA with
  |none=>
   have ha:=append_nil (P:=P) (st:=st) T (z2:=z) hr2 hle Q3 (by simpa using hb);refine⟨_,[(st.n,0,(x::ls2).flatten)],_,ha,?_,?_⟩
   ·exact .own hM.le hzz (by simpa using hb)
   ·rw[hrow];have:=hM.alloc (x::ls2).flatten;refine this.perm ?_;exact(List.perm_middle (l₁:=L) (l₂:=B)).symm
  |own h3 h4 h5=>
   rename_i c m;obtain⟨m',st1,h6,h7,_⟩:=hM.append T (z2:=z) (SB L B _) (Zs h4) hr2 hle Q3 hb;refine⟨_,[(c,m',(ls++x::ls2).flatten)],st1,h6,?_,?_⟩
   ·rw[←List.length_append];exact .own h3 hzz (by rw[List.length_append];exact hb)
   ·rw[Se,hrow]at h7;rw[List.flatten_append];exact h7
theorem Mem.wY(hM:Mem h0 n0 X st (L++(A++B)))(hA:Acc n0 z A ks ls)(T:LL P t e z)(hk:(L++(A++B))[k2]? =some (c2,m2,l2))(hl:l2.length=z)(hb:ls.length+1≤1000000):
  ∃ks' A' st1,Y1 P [t,t] ks (.sl c2 m2 0 1 z) st=some (ks',st1)∧Acc n0 z A' ks' (ls++[l2])∧Mem h0 n0 X st1 (L++(A'++B)):=by
 have hr:=hM.Qn hk;have:QS st.h.get [] z [l2] (.sl c2 m2 0 [l2].length z):=QS.own (by simpa using hr) (by simpa using hl) Q3 Q3;exact hM.zW hA T this (by simpa using hl) (by simpa using hb)
variable {T:Tr AV} {ops rest:List Oper} {K:List (Nat×AV)} {R:Tr AV→St→Prop} {d:Nat} {ty:TypeId} {pos:String} {af:Array Edge}
theorem ZW(hK:Jr K T)(hM:Mem h0 n0 X st (L++(A++B)))(hA:Acc n0 z A ks ls)(S:LL P t e z)(hx:JF G K x=some ks)(hy:JF G K y=some (.sl c2 m2 0 1 z))(hk:(L++(A++B))[k2]? =some (c2,m2,l2))(hl:l2.length=z)(hb:ls.length+1≤1000000)(hN:Nat.ble (d+1) N=true)
  (hn: ∀(ks':AV) A' T' st',Jr ((d,ks')::K) T'→Acc n0 z A' ks' (ls++[l2])→Mem h0 n0 X st' (L++(A'++B))→WR P G N ops rest R T' st'):WR P G N ops (⟨some d,.call {callee:=.builtin .append,args:= #[x,y],argTypes:= #[t,t]},ty,pos,af,none⟩::rest) R T st:=by
 obtain⟨ks',A',st1,h1,h2,h3⟩:=hM.wY hA S hk hl hb;exact LZ hK (Ww rfl hx hy h1) (Nat.le_of_ble_eq_true hN) fun T' hT'=>hn ks' A' T' st1 hT' h2 h3
theorem Bv(hK:Jr K T)(hM:Mem h0 n0 X st (L++(A++B)))(hA:Acc n0 z A ks ls)(S:LL P t e z)(hx:JF G K x=some ks)(hy:JF G K y=some ks2)(hr:QS st.h.get Y z ls2 ks2)(hz2: ∀cs∈ls2,cs.length=z)(hb:ls.length+ls2.length≤1000000)(hN:Nat.ble (d+1) N=true)
  (hn: ∀(ks':AV) A' T' st',Jr ((d,ks')::K) T'→Acc n0 z A' ks' (ls++ls2)→Mem h0 n0 X st' (L++(A'++B))→WR P G N ops rest R T' st'):WR P G N ops (⟨some d,.call {callee:=.builtin .append,args:= #[x,y],argTypes:= #[t,t]},ty,pos,af,none⟩::rest) R T st:=by
 obtain⟨ks',A',st1,h1,h2,h3⟩:=hM.zW hA S hr hz2 hb;exact LZ hK (Ww rfl hx hy h1) (Nat.le_of_ble_eq_true hN) fun T' hT'=>hn ks' A' T' st1 hT' h2 h3
theorem XT{sn:List St}{i:Nat}{rr:List (Nat×Nat)}(ho:ops[i]? =some ⟨some d,.call {callee:=.builtin .append,args:= #[x,y],argTypes:= #[t,t]},ty,pos,af,none⟩)(hK:Jr K T)(hM:Mem h0 n0 X st (L++(A++B)))(hA:Acc n0 z A ks ls)(S:LL P t e z)(hx:JF G K x=some ks)(hy:JF G K y=some (.sl c2 m2 0 1 z))(hk:(L++(A++B))[k2]? =some (c2,m2,l2))(hl:l2.length=z)(hb:ls.length+1≤1000000)(hN:Nat.ble (d+1) N=true)
  (hn: ∀(ks':AV) A' T' st',Jr ((d,ks')::K) T'→Acc n0 z A' ks' (ls++[l2])→Mem h0 n0 X st' (L++(A'++B))→WD P G N ops (rr.map (Xm ops)) R T' st' (st'::sn)):WD P G N ops (((i,0)::rr).map (Xm ops)) R T st sn:=by
 obtain⟨ks',A',st1,h1,h2,h3⟩:=hM.wY hA S hk hl hb;exact P6 ho hK (Ww rfl hx hy h1) rfl (Nat.le_of_ble_eq_true hN) fun T' hT'=>hn ks' A' T' st1 hT' h2 h3
theorem RU{sn:List St}{i:Nat}{rr:List (Nat×Nat)}(ho:ops[i]? =some ⟨some d,.call {callee:=.builtin .append,args:= #[x,y],argTypes:= #[t,t]},ty,pos,af,none⟩)(hK:Jr K T)(hM:Mem h0 n0 X st (L++(A++B)))(hA:Acc n0 z A ks ls)(S:LL P t e z)(hx:JF G K x=some ks)(hy:JF G K y=some ks2)(hr:QS st.h.get Y z ls2 ks2)(hz2: ∀cs∈ls2,cs.length=z)(hb:ls.length+ls2.length≤1000000)(hN:Nat.ble (d+1) N=true)
  (hn: ∀(ks':AV) A' T' st',Jr ((d,ks')::K) T'→Acc n0 z A' ks' (ls++ls2)→Mem h0 n0 X st' (L++(A'++B))→WD P G N ops (rr.map (Xm ops)) R T' st' (st'::sn)):WD P G N ops (((i,0)::rr).map (Xm ops)) R T st sn:=by
 obtain⟨ks',A',st1,h1,h2,h3⟩:=hM.zW hA S hr hz2 hb;exact P6 ho hK (Ww rfl hx hy h1) rfl (Nat.le_of_ble_eq_true hN) fun T' hT'=>hn ks' A' T' st1 hT' h2 h3

def OE(st st':St)(z:Nat)(ks:AV)(ls:List (List AV)):Prop:= ∃A,Acc st.n z A ks ls∧ ∀c m l,(c,m,l)∈A→Jj st'.h.get c m l
theorem Mem.Wp(h:Mem h0 n0 X st M){st':St}(q:Qt st st')(r:OE st st' z ks ls): ∃A,Acc n0 z A ks ls∧Mem h0 n0 X st' (M++(A++[])):=by
 obtain⟨A,hA,hr⟩:=r;refine⟨A,hA.less h.le,?_⟩
 cases hA with
 |none=>simpa using h.quiet q
 |own hc hz hb=>
  have:=h.XQ q (hr _ _ _ (List.mem_singleton.2 rfl)) hc;exact this.perm (by simpa using(List.perm_middle (l₁:=M) (l₂:=[])).symm)
theorem Mem.jI{st0 st':St}(h:Mem st0.h.get st0.n X st' (L++(A++B)))(hA:Acc st0.n z A ks ls):OE st0 st' z ks ls:=⟨A,hA,fun c m l hm=>h.row c m l (by simp[hm])⟩
theorem zB{f:FuncId}{F:List AV→Option AV}(hs:G.s f=some (yM F)){args:List AV}{v:AV}(hF:F args=some v):Ev P G f args st v st:=⟨0,1,by
 show(Option.rec _ (fun sm=>sm args st) (G.s f):Option (AV×St))=_;rw[hs];show ob (F args) _=_
 rw[hF];rfl⟩
theorem Bd{f:FuncId}{F:List AV→Option (List AV×Nat×List AV)}(hs:G.s f=some (Aj z F))(hf:Qw st){args rest:List AV}(hz: ∀cs∈ls,cs.length=z)(hb:ls.length≤1000000)(hF:F args=some (ls.flatten,ls.length,rest)): ∃ks st',Ev P G f args st (.tup (ks::rest)) st'∧OE st st' z ks ls∧Qt st st':=by
 have hev: ∀v st',Aj z F args st=some (v,st')→Ev P G f args st v st':=fun v st' h=>⟨0,1,by
  show(Option.rec _ (fun sm=>sm args st) (G.s f):Option (AV×St))=_;rw[hs]
  exact h⟩
 cases ls with
 |nil=>exact⟨.nils,st,hev _ _ (by unfold Aj;rw[hF];rfl),⟨[],.none,fun c m l h=>by cases h⟩,Qt.refl hf⟩
 |cons x ls=>
  have hM:=(Mem.start hf).alloc (x::ls).flatten;refine⟨.sl st.n 0 0 (ls.length+1) z,_,hev _ _ (by unfold Aj;rw[hF];rfl),⟨[(st.n,0,(x::ls).flatten)],.own (Nat.le_refl _) hz hb,fun c m l h=>?_⟩,hM.qt⟩;simp at h;obtain⟨rfl,rfl,rfl⟩:=h;exact hM.row _ _ _ Q3

theorem VY{Q:Ex→Tr AV→St→Prop}{a b:Code}{J:Tr AV→St→Prop}(h:W P G N a (Nj J Q) T st)(hb: ∀T st,J T st→W P G N b Q T st):W P G N (.seq a b) Q T st:=
 UR (qh h fun x T st hx=>by
  cases x with
  |nor=>exact hb T st hx
  |exit i=>exact hx
  |ret=>exact hx)
theorem Yh{h:Hp}{cells:List AV}{v:AV}(hr:Z9 h c m cells)(hp:Wc P t cells off=some v):JD P t (.ptr c m off) h=some v:=by
 obtain⟨e,vs,ro,ms,h1⟩:=hr.rowOf;show ob (rowOf h c m) _=_;rw[h1];exact hp
theorem Sq{b c:Int}(hx:JF G K x=some (.int k a))(hy:JF G K y=some (.int k b))(hw:k.wrap (a+b)=c):YK P G K (.binOp .add t x y yt) st (.int k c) st:=
 YS hx hy (by rw[WY QT QT];show E3 (V6 k (a+b)) (fun z=>some (AV.int k z))=_;rw[ZX,Yl,hw])
theorem Sp{b c:Int}(hx:JF G K x=some (.int k a))(hy:JF G K y=some (.int k b))(hw:k.wrap (a-b)=c):YK P G K (.binOp .sub t x y yt) st (.int k c) st:=
 YS hx hy (by rw[WY QT QT];show E3 (V6 k (a-b)) (fun z=>some (AV.int k z))=_;rw[ZX,Yl,hw])
theorem za{b c:Int}(hx:JF G K x=some (.int k a))(hy:JF G K y=some (.int k b))(hw:k.wrap (a *b)=c):YK P G K (.binOp .mul t x y yt) st (.int k c) st:=
 YS hx hy (by rw[WY QT QT];show E3 (V6 k (a *b)) (fun z=>some (AV.int k z))=_;rw[ZX,Yl,hw])
theorem VE{s d:TypeId}{k':IntKind}{n c:Int}(hd:P.underlying d=some (.int k'))(hs:P.underlying s=some (.int k))(hx:JF G K x=some (.int k n))(hw:k'.wrap n=c):YK P G K (.convert s d x) st (.int k' c) st:=by
 rw[←hw];exact IV hd hs hx

theorem Qo:Ea Jl ([]:List AV)=true:=rfl
theorem Qa{a:AV}(h1:Jl a=true)(h2:Ea Jl l=true):Ea Jl (a::l)=true:=by
 show Qp (Jl a) (Ea Jl l) false=true;rw[h1,h2];rfl
theorem Ox{v:AV}(h:Jl v=true):Ea Jl (JE v)=true:=by
 cases v<;>first|rfl|cases h
theorem W0{v:AV}(h:Jl v=true):JE v=[v]:=by
 cases v<;>first|rfl|cases h
theorem Ws{ty:TypeId}{pos:String}{af:Array Edge}{w:AV}{k:Nat}{l':List AV}(hK:Jr K T)(hM:Mem h0 n0 X st M)(hx:JF G K x=some (.ptr c m off))(hy:JF G K y=some w)(hk:M[k]? =some (c,m,l))(hz:ZG P t=some 1)(hc:Jl w=true)(ho:Xv [w] off l=some l')
  (hr: ∀st',Mem h0 n0 X st' (M.set k (c,m,l'))→WR P G N ops rest R T st'):WR P G N ops (⟨none,.store t x y,ty,pos,af,none⟩::rest) R T st:=
 Qz hK hM hx hy hk hz (by rw[W0 hc];rfl) (Ox hc) (by rw[W0 hc];exact ho) hr
theorem Zt{sn:List St}{i:Nat}{rr:List (Nat×Nat)}{ty:TypeId}{pos:String}{af:Array Edge}{w:AV}{k:Nat}{l':List AV}(ho':ops[i]? =some ⟨none,.store t x y,ty,pos,af,none⟩)(hK:Jr K T)(hM:Mem h0 n0 X st M)(hx:JF G K x=some (.ptr c m off))(hy:JF G K y=some w)(hk:M[k]? =some (c,m,l))(hz:ZG P t=some 1)(hc:Jl w=true)(ho:Xv [w] off l=some l')
  (hr: ∀st',Mem h0 n0 X st' (M.set k (c,m,l'))→WD P G N ops (rr.map (Xm ops)) R T st' (st'::sn)):WD P G N ops (((i,0)::rr).map (Xm ops)) R T st sn:=
 JL ho' hK hM hx hy hk hz (by rw[W0 hc];rfl) (Ox hc) (by rw[W0 hc];exact ho) hr
theorem xY{P:Program}{G:Env}{K:List (Nat×AV)}{st:St}{a:Bool}(ht:P.underlying t=some .bool)(hx:JF G K x=some (.bool a))(hy:JF G K y=some (.bool b)):YK P G K (.binOp .eql t x y yt) st (.bool (a==b)) st:=
 YS hx hy (by
  show QZ (F9 (P.underlying t) (.bool a)) (ob (F8 (.bool a) (.bool b)) fun b=>some (AV.bool b))=_;rw[ht]
  cases a<;>cases b<;>rfl)
theorem Wv{P:Program}{G:Env}{K:List (Nat×AV)}{st:St}{s d:TypeId}{b:Nat}(hs:P.underlying s=some (.slice e))(he:P.underlying e=some (.int .u8))(hd:P.underlying d=some .string)(hx:JF G K x=some (.sl c m 0 1 1))(hr:Z9 st.h.get c m [.int .u8 ((b:Nat):Int)])(hb:b≤255):YK P G K (.convert s d x) st (.str [b]) st:=
 N6 hx (by
  unfold Bh;simp only[hs,he,hd];obtain⟨e1,vs,ro,ms,h⟩:=hr.rowOf
  have hb1:Ph (AV.int .u8 ((b:Nat):Int))=some b:=by
   show QZ (Nat.ble b 255) (some b)=some b;rw[Nat.ble_eq_true_of_le hb];rfl
  unfold WV;simp only[h,Q1,UZ,Uy];show ob (ob (Ph (AV.int .u8 ((b:Nat):Int))) fun b=>ob (some []) fun t=>some (b::t)) _=_
  rw[hb1];rfl)
def R1:AV→Bool
 |.bool _=>true
 |.int _ _=>true
 |.str _=>true
 |.nilp=>true
 |.ptr _ _ _=>true
 |.nils=>true
 |.sl _ _ _ _ _=>true
 |.slz _ _ _ _ _=>true
 |.sl0 _ _ _=>true
 |.nilf=>true
 |.nili=>true
 |.nilm=>true
 |.mp _=>true
 |_=>false
theorem L6{v:AV}(h:R1 v=true):It v v=true:=by
 cases v<;>first
  |(cases h;done)
  |rfl
  |skip
 ·rename_i b;cases b<;>rfl
 ·rename_i k n;show Qp (Bf k k) (OF n n) false=true;rw[DJ,Kq];simp[Qp]
 ·rename_i l;show DF l l=true;rw[VV];simp
 ·rename_i c m o;show Qp (Nat.beq c c) (Qp (Nat.beq m m) (Nat.beq o o) false) false=true;simp[Qp]
 ·rename_i c m o l z;show Qp (Nat.beq c c) (Qp (Nat.beq m m) (Qp (Nat.beq o o) (Qp (Nat.beq l l) (Nat.beq z z) false) false) false) false=true;simp[Qp]
 ·rename_i c m o l z;show Qp (Nat.beq c c) (Qp (Nat.beq m m) (Qp (Nat.beq o o) (Qp (Nat.beq l l) (Nat.beq z z) false) false) false) false=true;simp[Qp]
 ·rename_i x o s;show Qp (Nat.beq x x) (Qp (Nat.beq o o) (zD s s) false) false=true
  cases s<;>simp[Qp,zD]
 ·rename_i c;show Nat.beq c c=true;simp
theorem J2{v:AV}(h:R1 v=true):qa v v=true:=by
 have:=L6 h
 cases v<;>first|exact this|(cases h;done)
theorem X1(h:l.all R1=true):qa (.agg l) (.agg l)=true:=by
 show Kr l l=true
 induction l with
 |nil=>rfl
 |cons a l ih=>
  rw[List.all_cons,Bool.and_eq_true]at h;show Qp (It a a) (Kr l l) false=true;rw[L6 h.1,ih h.2];rfl
theorem Yc{v:AV}{n:Nat}(h:XI v=some n):R1 v=true:=by
 cases v<;>first|rfl|(cases h;done)

variable {rr:ResultVar} {rs:List ResultVar}
theorem QF{t:Nat}{v:AV}(hK:Jr K T)(h:K.lookup t=some v):IL P T st (.tmp t)=some v:=congrArg some (hK t v h)
theorem JC{a:Nat}{u v:AV}(hK:Jr K T)(h:K.lookup a=some u)(hl:JD P t u st.h.get=some v):IL P T st (.cell a t)=some v:=by
 show JD P t (Zb T a) st.h.get=_;rw[hK a u h];exact hl
theorem Am{v:AV}(h:IL P T st rr=some v):JS P [rr] T st=some v:=by
 show(ob (UZ (IL P T st) [rr]) _)=_;rw[Ub,h];rfl
theorem Fq:JS P [] T st=some (.tup []):=rfl
theorem U8{r1 r2:ResultVar}{a b:AV}(h1:IL P T st r1=some a)(h2:IL P T st r2=some b):JS P [r1,r2] T st=some (.tup [a,b]):=by
 show(ob (UZ (IL P T st) [r1,r2]) _)=_;rw[Ub,Ub,h1,h2];rfl
theorem Ua{r1 r2 r3:ResultVar}{a b c:AV}(h1:IL P T st r1=some a)(h2:IL P T st r2=some b)(h3:IL P T st r3=some c):JS P [r1,r2,r3] T st=some (.tup [a,b,c]):=by
 show(ob (UZ (IL P T st) [r1,r2,r3]) _)=_;rw[Ub,Ub,Ub,h1,h2,h3];rfl
end
end
end Go.Proofs.YtaomhhkflohhgaaGreatDoor
