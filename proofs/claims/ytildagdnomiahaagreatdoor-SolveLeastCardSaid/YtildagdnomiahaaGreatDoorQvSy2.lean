/-
  Several texts in one: XLift, XOpen, XSymH, XSum, XSymI.
-/
import Derived.WalkKit
import Derived.Test.YtildagdnomiahaaGreatDoorQvSy1
set_option linter.unusedSimpArgs false
set_option linter.unusedVariables false
namespace Go.Proofs.YtildagdnomiahaaGreatDoor
section
open Go Go.RowKit

def Y9(h:Hp)(c m:Nat)(l:List AV):Prop:= ∃ro e vs ms,h c=some (.row ro ms)∧ms[m]? =some (e,vs,some l)
abbrev z8:=List (Pl×List AV)
def eF(ml:z8):QY:=fun c m=>if c=0 then(ml[m]?).map Prod.fst else none
def MW(ml:z8):Eb:=.row true (ml.map fun x=>(x.2.length,x.1.d,some x.2))
def aL(ml:z8):Hp:=fun c=>if c=0 then some (MW ml)else none
theorem jz(ml:z8)(m:Nat):eF ml 0 m=(ml[m]?).map Prod.fst:=if_pos rfl
theorem MM(ml:z8):exts (MW ml)=ml.map fun x=>x.2.length:=by
 simp[exts,MW,Function.comp_def]
section
variable {P:Program} {H:Type} {enc:TypeId×Value→H} {W:World}
def G4(W:World)(ml:z8):Prop:= ∀(m:Nat) (q:Pl) (l:List AV),ml[m]? =some (q,l)→ ∃(arr:Array Value) (el:TypeId) (fr:Nat×Nat),W.heap[q.b]? =some (.cells arr el fr)∧q.d+q.e≤arr.size∧l.length≤q.e∧
 ∀j v,l[j]? =some v→arr[q.d+j]? =some (Qe (eF ml) v)∧WF (aL ml) v∧Qw v=true
theorem G4.nil:G4 W []:=fun m q l h=>by simp at h
theorem G4.hr{ml:z8}(h:G4 W ml):HR W (eF ml) (aL ml) W:=by
 have hdom: ∀c m x,eF ml c m=some x→c=0∧ ∃l,ml[m]? =some (x,l):=by
  intro c m x hx;unfold eF at hx
  split at hx
  ·rename_i hc
   cases hm:ml[m]? with
   |none=>rw[hm]at hx;cases hx
   |some y=>rw[hm]at hx;injection hx with hx;subst hx;exact⟨hc,y.2,rfl⟩
  ·cases hx
 refine⟨rfl,rfl,rfl,Nat.le_refl _,fun _ _=>rfl,fun c m x hx=>?_,fun c m x hx=>?_,fun c m x c' m' x' hx hx' _=>?_,fun c C hC=>?_⟩
 ·obtain⟨rfl,l,hm⟩:=hdom c m x hx;exact⟨MW ml,if_pos rfl,by rw[MM,List.length_map];exact(List.getElem?_eq_some_iff.1 hm).1⟩
 ·obtain⟨rfl,l,hm⟩:=hdom c m x hx;obtain⟨arr,el,fr,h1,_⟩:=h m x l hm;exact(Array.getElem?_eq_some_iff.1 h1).1
 ·rw[(hdom c m x hx).1,(hdom c' m' x' hx').1]
 ·unfold aL at hC
  split at hC
  ·rename_i hc0
   injection hC with hC
   subst hC hc0;refine⟨fun m e vs cs hm=>?_,fun m e vs cs m' e' vs' cs' q q' hm hm' hq hq' hb=>?_⟩
   ·rw[List.getElem?_map]at hm
    cases hx:ml[m]? with
    |none=>rw[hx]at hm;cases hm
    |some y=>
     rw[hx]at hm;simp only[Option.map_some,Option.some.injEq,Prod.mk.injEq]at hm;obtain⟨rfl,rfl,rfl⟩:=hm;obtain⟨q,l⟩:=y;obtain⟨arr,el,fr,h1,h2,h3,h4⟩:=h m q l hx;refine⟨q,arr,el,by rw[jz,hx];rfl,⟨fr,h1,fun e=>nomatch e⟩,h2,h3,fun e=>(nomatch e),fun l' hl'=>?_⟩
     injection hl' with hl'
     subst hl';exact⟨rfl,h4⟩
   ·rw[List.getElem?_map]at hm hm';rw[jz]at hq hq'
    cases hx:ml[m]? with
    |none=>rw[hx]at hq;cases hq
    |some y=>
     cases hx':ml[m']? with
     |none=>rw[hx']at hq';cases hq'
     |some y'=>
      rw[hx]at hm hq;rw[hx']at hm' hq';simp only[Option.map_some,Option.some.injEq,Prod.mk.injEq]at hm hm' hq hq';obtain⟨_,rfl,_⟩:=hm;obtain⟨_,rfl,_⟩:=hm';subst hq hq';omega
  ·cases hC

theorem DA{α:Type}{z:Nat}(hz:0<z): ∀(css:List (List α)),(∀c∈css,c.length=z)→ ∀j,css.flatten[j]? =(css[j/z]?).bind fun c=>c[j % z]? :=by
 intro css
 induction css with
 |nil=>intro _ j;simp
 |cons c css ih=>
  intro h j;have hc:=h c (List.mem_cons_self ..);rw[List.flatten_cons,List.getElem?_append]
  by_cases hj:j<z
  ·rw[if_pos Qd,Nat.div_eq_of_lt hj,Nat.mod_eq_of_lt hj];rfl
  ·rw[if_neg Qd,ih (fun c hc=>h c (List.mem_cons_of_mem _ hc)),hc]
   have e1:j/z=(j-z)/z+1:=by
    conv=>lhs;rw[show j=(j-z)+z by omega]
    exact Nat.add_div_right _ hz
   have e2:j % z=(j-z) % z:=by
    conv=>lhs;rw[show j=(j-z)+z by omega]
    exact Nat.add_mod_right _ _
   rw[e1,e2];rfl
end
end
section
open Go Go.RowKit

noncomputable section
def stM(ml:z8):St:=⟨1,Tr.nil.set 0 (MW ml)⟩
end
theorem GM(ml:z8):(stM ml).h.get=aL ml:=by
 funext c
 show(Tr.nil.set 0 (MW ml)).get c=_;rw[Tr.YX];unfold aL
 split
 ·rfl
 ·rw[Tr.get_nil]
theorem OH(ml:z8):Qh (stM ml):=fun c hc=>by
 rw[GM];have hc:1≤c:=hc;unfold aL;rw[if_neg Qd]
variable {P:Program} {G:Env} {W:World}
theorem Mc(hG0: ∀g,G.g g=false)(hE:Ea P G)(hm:P.follows .mixedOrders=true){f:FuncId}{args:List AV}{ml:z8}(hM:G4 W ml)(hw:YC (aL ml) args)
  (h: ∃v st',Ev P G f args (stM ml) v st'∧v=.bool true) (hi:G.i W:=by trivial):Calls P f (Qm (eF ml) args).toArray W fun e w'=>e=.returned (.bool true)∧Below W.heap.size W w':=by
 obtain⟨v,st',⟨L,n,h⟩,rfl⟩:=h;have hc:=((H9 (Hz hm) hE L n f args (stM ml) (.bool true) st' h (OH ml) (by rw[GM];exact hw)).2 W (eF ml) W (by rw[GM];exact hM.hr) ⟨fun g hg=>(by rw[hG0]at hg;cases hg),hi⟩).2;refine hc.mono fun e w'=>?_
 rintro⟨p',rfl,hs,_⟩
 exact⟨rfl,hs.hr.os,hs.hr.tape,hs.hr.output,hs.hr.size,hs.hr.J5⟩
end
section
open Go
variable {Y:List Nat} {c c2 k len m m2 n Jj z z2:Nat} {e t:TypeId} {h:Hp} {ks:AV} {l l2:List AV} {ls:List (List AV)} {st':St}

def Qu(h:Hp)(c m:Nat)(l:List AV):Prop:= ∃vs ms,h c=some (.row false ms)∧ms[m]? =some (l.length,vs,some l)
structure wb(X:List Nat)(st st':St):Prop where
 fresh:Qh st'
 le:st.n≤st'.n
 J5: ∀c,c<st.n→c∉X→st'.h.get c=st.h.get c
theorem Qt.KR{st:St}(q:Qt st st')(X:List Nat):wb X st st':=⟨q.fresh,q.le,fun c hc _=>q.J5 c hc⟩
theorem Qu.lt{st:St}(hf:Qh st)(r:Qu st.h.get c m l):c<st.n:=by
 obtain⟨vs,ms,h1,h2⟩:=r
 exact Nat.lt_of_not_le fun hle=>by rw[hf c hle]at h1;cases h1
theorem Qu.QI(r:Qu h c m l):Y9 h c m l:=by
 obtain⟨vs,ms,h1,h2⟩:=r;exact⟨false,_,vs,ms,h1,h2⟩
theorem Qu.KR{X:List Nat}{st:St}(hf:Qh st)(q:wb X st st')(r:Qu st.h.get c m l)(hc:c∉X):Qu st'.h.get c m l:=by
 have hlt:=r.lt hf;obtain⟨vs,ms,h1,h2⟩:=r;exact⟨vs,ms,by rw[q.J5 c hlt hc];exact h1,h2⟩
theorem Y9.lt{st:St}(hf:Qh st)(r:Y9 st.h.get c m l):c<st.n:=by
 obtain⟨ro,e,vs,ms,h1,h2⟩:=r
 exact Nat.lt_of_not_le fun hle=>by rw[hf c hle]at h1;cases h1
theorem Y9.KR{X:List Nat}{st:St}(hf:Qh st)(q:wb X st st')(r:Y9 st.h.get c m l)(hc:c∉X):Y9 st'.h.get c m l:=by
 have hlt:=r.lt hf;obtain⟨ro,e,vs,ms,h1,h2⟩:=r;exact⟨ro,e,vs,ms,by rw[q.J5 c hlt hc];exact h1,h2⟩
section
variable {P:Program} {G:Env} {N:Nat} {h0:Hp} {n0:Nat} {X:List Nat} {st:St} {M:List (Nat×Nat×List AV)}
theorem Mem.PF{st:St}(hf:Qh st)(M:List (Nat×Nat×List AV))(hr: ∀c m l,(c,m,l)∈M→Qu st.h.get c m l)(hn:(M.map Prod.fst).Nodup):Mem st.h.get st.n (M.map Prod.fst) st M:=
 ⟨hf,Nat.le_refl _,hf,hr,fun c m l h=>(hr c m l h).lt hf,fun c m l h=>.inr (List.mem_map.2 ⟨_,h,rfl⟩),hn,fun _ _ _=>rfl⟩
theorem Mem.KR{st0:St}(h:Mem st0.h.get st0.n X st M):wb X st0 st:=⟨h.fresh,h.le,h.J5⟩
theorem Mem.Ud(h:Mem h0 n0 X st M)(hk:M[k]? =some (c,m,l)):Qu st.h.get c m l:=h.row c m l (List.mem_of_getElem? hk)
theorem Mem.Jf(h:Mem h0 n0 X st M)(hx:c∉X)(r:Y9 h0 c m l):Y9 st.h.get c m l:=by
 obtain⟨ro,e,vs,ms,h1,h2⟩:=r
 have hc:c<n0:=Nat.lt_of_not_le fun hle=>by rw[h.base c hle]at h1;cases h1
 exact⟨ro,e,vs,ms,by rw[h.J5 c hc hx];exact h1,h2⟩
theorem Mem.Tj(h:Mem h0 n0 X st M)(q:wb Y st st')(hY: ∀c∈Y,∃m l,(c,m,l)∈M){M':List (Nat×Nat×List AV)}(hn:(M'.map Prod.fst).Nodup)
  (hM: ∀c m l,(c,m,l)∈M'→((c,m,l)∈M∧c∉Y)∨(Qu st'.h.get c m l∧((∃m l,(c,m,l)∈M)∨st.n≤c))):Mem h0 n0 X st' M':=by
 have hrow: ∀c m l,(c,m,l)∈M'→Qu st'.h.get c m l:=fun c m l hm=>by
  rcases hM c m l hm with⟨h1,h2⟩|⟨h1,_⟩
  ·exact Qu.KR h.fresh q (h.row c m l h1) h2
  ·exact h1
 refine⟨q.fresh,Nat.le_trans h.le q.le,h.base,hrow,fun c m l hm=>(hrow c m l hm).lt q.fresh,fun c m l hm=>?_,hn,fun c hc hx=>?_⟩
 ·rcases hM c m l hm with⟨h1,_⟩|⟨_,⟨m',l',h1⟩|h1⟩
  ·exact h.own c m l h1
  ·exact h.own c m' l' h1
  ·exact .inl (Nat.le_trans h.le h1)
 ·rw[q.J5 c (Nat.lt_of_lt_of_le hc h.le) fun hcY=>?_]
  ·exact h.J5 c hc hx
  ·obtain⟨m,l,hm⟩:=hY c hcY;rcases h.own c m l hm with h1|h1
   ·omega
   ·exact hx h1
theorem Mem.yR(h:Mem h0 n0 X st M){m':Nat}{l':List AV}(hk:M[k]? =some (c,m,l))(q:wb [c] st st')(r:Qu st'.h.get c m' l'):Mem h0 n0 X st' (M.set k (c,m',l')):=by
 have hm0:=List.mem_of_getElem? hk
 have hfst:(M.set k (c,m',l')).map Prod.fst=M.map Prod.fst:=by
  apply List.ext_getElem?;intro i;rw[List.getElem?_map,List.getElem?_map,List.getElem?_set]
  by_cases h:k=i
  ·subst h;rw[if_pos rfl,hk];have:=(List.getElem?_eq_some_iff.1 hk).1;simp[this]
  ·rw[if_neg h]
 refine h.Tj q (fun c' hc=>?_) (by rw[hfst];exact h.nodup) fun c1 m1 l1 hm=>?_
 ·rw[List.mem_singleton]at hc;subst hc;exact⟨m,l,hm0⟩
 ·obtain⟨i,hi⟩:=List.getElem?_of_mem hm;rw[List.getElem?_set]at hi
  by_cases hki:k=i
  ·subst hki;have:=(List.getElem?_eq_some_iff.1 hk).1;simp[this]at hi;obtain⟨rfl,rfl,rfl⟩:=hi;exact .inr ⟨r,.inl ⟨m,l,hm0⟩⟩
  ·rw[if_neg hki]at hi;refine .inl ⟨List.mem_of_getElem? hi,fun e=>hki ?_⟩;rw[List.mem_singleton]at e
   have h1:(M.map Prod.fst)[k]? =some c:=by rw[List.getElem?_map,hk];rfl
   have h2:(M.map Prod.fst)[i]? =some c:=by rw[List.getElem?_map,hi];simp[e]
   exact(List.getElem?_inj (List.getElem?_eq_some_iff.1 h1).1 h.nodup).1 (h1.trans h2.symm)
theorem Mem.Ti(h:Mem h0 n0 X st M)(q:Qt st st')(r:Qu st'.h.get c m l)(hc:st.n≤c):Mem h0 n0 X st' ((c,m,l)::M):=by
 refine h.Tj (q.KR []) (fun c' hc=>by simp at hc) ?_ fun c1 m1 l1 hm=>?_
 ·rw[List.map_cons];refine List.nodup_cons.2 ⟨fun hm=>?_,h.nodup⟩;obtain⟨⟨c',m',l'⟩,h1,h2⟩:=List.mem_map.1 hm;have:=h.lt c' m' l' h1;simp only at h2;omega
 ·rcases List.mem_cons.1 hm with e|hm
  ·injection e with e1 e2
   injection e2 with e2 e3
   subst e1 e2 e3;exact .inr ⟨r,.inr hc⟩
  ·exact .inl ⟨hm,by simp⟩

structure F8(P:Program)(t e:TypeId)(z:Nat):Prop where
 u:P.underlying t=some (.slice e)
 s:(P.underlying e).isSome=true
 zc: ∃zc,zeroOf P e=some zc∧zc.length=z
 c:P.cellsOf e=z
 p:1≤z
 b:P.bytesOf e≤1000
theorem VV{α β:Type}: ∀(n:Nat) (l:List α) (k:List α→Option β),n≤l.length→VW n l k=k (l.take n):=by
 intro n
 induction n with
 |zero=>intro l k _;rfl
 |succ n ih=>
  intro l k hl
  cases l with
  |nil=>simp at hl
  |cons a l=>exact ih l _ (by simpa using hl)
theorem Y9.rowOf{h:Hp}{c m:Nat}{l:List AV}(r:Y9 h c m l): ∃e vs ro ms,rowOf h c m=some (e,vs,l,ro,ms):=by
 obtain⟨ro,e,vs,ms,h1,h2⟩:=r;refine⟨e,vs,ro,ms,?_⟩;unfold Proofs.YtildagdnomiahaaGreatDoor.rowOf;rw[h1,Qg];show ob (nth ms m) _=_;rw[JV,h2];rfl
theorem XG(T:F8 P t e z){s:AV}(hr2:Y9 st.h.get c2 m2 l2)(hle:Jj+n *z≤l2.length): ∃e2 vs2 ro2 ms2,
  U0 P [t,t] s (.sl c2 m2 Jj n z2) st=(match s with
   |.nils=>Qj (Nat.beq n 0) (some (.nils,st)) (Q6 (Nat.ble n 1000000000) (E3 ((l2.drop Jj).take (n *z)) st fun _ c st=>JF (P.cellsOf e) fun z=>some (.sl c 0 0 n z,st)))
   |.sl c m off len esz=>Q6 (Nat.beq esz (P.cellsOf e)) (ob (rowOf st.h.get c m) fun r=>Q6 (!r.2.2.2.1) (JF (len *esz) fun lz=>VW lz (Wr off r.2.2.1) fun olds=>
    Qj (Nat.beq n 0) (some (s,st)) (Q6 (Nat.ble (len+n) 1000000000) (Xk (Yk olds ((l2.drop Jj).take (n *z))) fun l=>JF (UZ l) fun k=>JF (r.2.1+off) fun vs=>
     Xk (Yk (Zd (vs+lz) (vs+lz+n *z) r.2.2.2.2) [(k,vs,some l)]) fun ms=>X7 st c (.row false ms) fun st=>JF (UZ r.2.2.2.2) fun m'=>JF (len+n) fun len'=>some (.sl c m' 0 len' esz,st)))))
   |_=>none)∧rowOf st.h.get c2 m2=some (e2,vs2,l2,ro2,ms2):=by
 obtain⟨e2,vs2,ro2,ms2,h2⟩:=hr2.rowOf;refine⟨e2,vs2,ro2,ms2,?_,h2⟩;obtain⟨zc,hz,hzl⟩:=T.zc;unfold U0;have hz1:=T.p;simp only[Nat.beq_refl,Q7,T.u,T.s,hz,Qg,JC,hzl,T.c,Nat.ble_eq_true_of_le T.p,Nat.ble_eq_true_of_le T.b,h2,QE];rw[VV _ _ _ (by rw[JN,List.length_drop];omega),JN]
 cases s<;>simp only[QE,JC,J1,T.c]
theorem append_nil(T:F8 P t e z)(hr2:Y9 st.h.get c2 m2 l2)(hle:Jj+n *z≤l2.length)(hn:0<n)(hb:n≤1000000000):
  U0 P [t,t] .nils (.sl c2 m2 Jj n z2) st=some (.sl st.n 0 0 n z,⟨st.n+1,st.h.set st.n (.row false [(((l2.drop Jj).take (n *z)).length,0,some ((l2.drop Jj).take (n *z)))])⟩):=by
 obtain⟨_,_,_,_,h,_⟩:=XG T (s:=.nils) (z2:=z2) hr2 hle;rw[h];have h0:Nat.beq n 0=false:=qa Qd;simp only[h0,Qq,Nat.ble_eq_true_of_le hb,Q7,Uv,QE,T.c]
theorem Mem.append(hM:Mem h0 n0 X st M)(T:F8 P t e z)(hk:M[k]? =some (c,m,l))(hl:l.length=len *z)(hr2:Y9 st.h.get c2 m2 l2)(hle:Jj+n *z≤l2.length)(hn:0<n)(hb:len+n≤1000000000):
  ∃m' st1,U0 P [t,t] (.sl c m 0 len z) (.sl c2 m2 Jj n z2) st=some (.sl c m' 0 (len+n) z,st1)∧Mem h0 n0 X st1 (M.set k (c,m',l++(l2.drop Jj).take (n *z)))∧st1.n=st.n:=by
 obtain⟨_,_,_,_,h,_⟩:=XG T (s:=.sl c m 0 len z) (z2:=z2) hr2 hle;have hm0:=List.mem_of_getElem? hk;obtain⟨vs,ms,h1,h2⟩:=hM.row c m l hm0
 have hr:rowOf st.h.get c m=some (l.length,vs,l,false,ms):=by
  unfold rowOf;rw[h1,Qg];show ob (nth ms m) _=_;rw[JV,h2];rfl
 have hbeq:Nat.beq n 0=false:=qa Qd;have hml:=(List.getElem?_eq_some_iff.1 h2).1;refine⟨ms.length,⟨st.n,st.h.set c (.row false (Zd (vs+len *z) (vs+len *z+n *z) ms++[((l++(l2.drop Jj).take (n *z)).length,vs,some (l++(l2.drop Jj).take (n *z)))]))⟩,?_,?_,rfl⟩
 ·rw[h];simp only[T.c,Nat.beq_refl,Q7,hr,Qg,Bool.not_false,QE];rw[VV _ _ _ (by rw[JN,List.drop_zero];omega),JN,List.drop_zero,List.take_of_length_le Qd];simp only[hbeq,Qq,Nat.ble_eq_true_of_le hb,Q7,QE,J1,JC,Ui,JD,Nat.add_zero]
 ·have hg: ∀x C,(st.h.set c C).get x=if x=c then some C else st.h.get x:=fun x C=>Tr.YX _ _ _ _
  refine hM.yR hk ⟨fun x hx=>?_,Nat.le_refl _,fun x hx hX=>?_⟩ ⟨vs,_,(hg _ _).trans (if_pos rfl),?_⟩
  ·show(st.h.set c _).get x=none;have:=hM.lt c m l hm0;have hx:st.n≤x:=hx;rw[hg,if_neg Qd];exact hM.fresh x hx
  ·show(st.h.set c _).get x=_;rw[hg,if_neg (by simpa using hX)]
  ·rw[List.getElem?_append_right (by rw[Jq];exact Nat.le_refl _),Jq,Nat.sub_self];rfl
variable {K:List (Nat×AV)}
theorem ZN{x y:Operand}{tys:Array TypeId}{u w v:AV}{st1:St}(ht:tys= #[t,t])(hx:QG G K x=some u)(hy:QG G K y=some w)(h:U0 P [t,t] u w st=some (v,st1)):Us P G K (.call {callee:=.builtin .append,args:= #[x,y],argTypes:=tys}) st v st1:=.of fun T hT c d ty pos af g=>by
 subst ht;show(ob (QN G T x) fun a=>ob (QN G T y) fun b=>U0 P [t,t] a b st)=_;rw[hT.QN hx,hT.QN hy,Qg,Qg,h]
theorem Ps(T:F8 P t e z){s x:AV}(hs:(match s with|.nils=>true|.sl _ _ _ _ _=>true|_=>false)=true)(hx:(match x with|.nils=>true|.sl0 _ _ _=>true|.slz _ _ _ _ _=>true|_=>false)=true):U0 P [t,t] s x st=some (s,st):=by
 obtain⟨zc,hz,hzl⟩:=T.zc;unfold U0;simp only[Nat.beq_refl,Q7,T.u,T.s,hz,Qg,JC,hzl,T.c,Nat.ble_eq_true_of_le T.p,Nat.ble_eq_true_of_le T.b]
 cases x<;>first
  |(cases hx;done)
  |(cases s<;>first|rfl|(cases hs;done))
theorem BU(T:F8 P t e z)(hr2:Y9 st.h.get c2 m2 l2)(hle:Jj≤l2.length):U0 P [t,t] .nils (.sl c2 m2 Jj 0 z2) st=some (.nils,st):=by
 obtain⟨_,_,_,_,h,_⟩:=XG T (s:=.nils) (n:=0) (z2:=z2) hr2 (by simpa using hle);rw[h];rfl
theorem BT(T:F8 P t e z)(hr:Qu st.h.get c m l)(hl:l.length=len *z)(hr2:Y9 st.h.get c2 m2 l2)(hle:Jj≤l2.length):U0 P [t,t] (.sl c m 0 len z) (.sl c2 m2 Jj 0 z2) st=some (.sl c m 0 len z,st):=by
 obtain⟨_,_,_,_,h,_⟩:=XG T (s:=.sl c m 0 len z) (n:=0) (z2:=z2) hr2 (by simpa using hle);rw[h];obtain⟨vs,ms,h1,h2⟩:=hr
 have hr:rowOf st.h.get c m=some (l.length,vs,l,false,ms):=by
  unfold rowOf;rw[h1,Qg];show ob (nth ms m) _=_;rw[JV,h2];rfl
 simp only[T.c,Nat.beq_refl,Q7,hr,Qg,Bool.not_false,QE];rw[VV _ _ _ (by rw[JN,List.drop_zero];omega)];rfl

theorem QH.parts{T:Tr AV}(h:QH K T){parts:Array (Nat×Operand)}{ps:List (Nat×AV)}(hp:YD (QG G K) parts=some ps):YD (Proofs.YtildagdnomiahaaGreatDoor.QN G T) parts=some ps:=by
 unfold YD at hp ⊢;generalize parts.toList=l at hp ⊢
 induction l generalizing ps with
 |nil=>exact hp
 |cons x l ih=>
  rw[Jw]at hp ⊢;obtain⟨b,hb,hp⟩:=Qk hp;obtain⟨t,ht,hp⟩:=Qk hp;obtain⟨v,hv,hb⟩:=Qk hb;rw[h.QN hv,Qg,Qg,ih ht,Qg]
  injection hb with hb
  subst hb;exact hp
structure P3(P:Program)(t:TypeId)(tbl:List (Nat×Nat))(z:List AV):Prop where
 u: ∃fs,P.underlying t=some (.struct fs)∧IS P fs=true∧fs.toList.map (fun f=>(f.offset,P.cellsOf f.type))=tbl
 z:zeroOf P t=some z
theorem TZ(fs:Array Field)(tbl:List (Nat×Nat))(h:fs.toList.map (fun f=>(f.offset,P.cellsOf f.type))=tbl):L4 P fs=nth tbl:=by
 funext i
 subst h;unfold L4;rw[JV,JV,List.getElem?_map]
 cases fs.toList[i]? <;>rfl
theorem XW{parts:Array (Nat×Operand)}{tbl:List (Nat×Nat)}{z r:List AV}{ps:List (Nat×AV)}(S:P3 P t tbl z)(hp:YD (QG G K) parts=some ps)(hf:Xq (nth tbl) ps z=some r):Us P G K (.build t parts) st (.agg r) st:=.of fun T hT c d ty pos af g=>by
 show ret (VF P t parts (QN G T)) st=_;obtain⟨fs,u,ft,hb⟩:=S.u;unfold VF;simp only[u,ft,Q7,S.z,Qg,hT.parts hp,TZ fs tbl hb,hf,J1];rfl
theorem AP{parts:Array (Nat×Operand)}{zc r:List AV}{ps:List (Nat×AV)}(T:F8 P t e z)(hz:zeroOf P e=some zc)(hp:YD (QG G K) parts=some ps)(hf:Xq (fun i=>some (i *z,z)) ps (XA len zc)=some r)(hc:XH Qw r=true)(hb:len *z≤16777216)(hM:Mem h0 n0 X st M):
  ∃c st1,Us P G K (.buildSlice t len parts) st (.sl c 0 0 len z) st1∧Mem h0 n0 X st1 ((c,0,r)::M):=by
 refine⟨st.n,_,.of fun T' hT c d ty pos af g=>?_,hM.alloc r⟩;show Zu P t len parts (QN G T') st=_;obtain⟨zc',h1,h2⟩:=T.zc;rw[hz]at h1
 injection h1 with h1
 subst h1;unfold Zu;simp only[T.u,T.s,Q7,hz,Qg,JC,h2,T.c,Nat.beq_refl,Nat.ble_eq_true_of_le T.p,Nat.ble_eq_true_of_le hb,hT.parts hp,hf,hc,Uv,QE]

end

structure Jg(h:Hp)(X:List Nat)(z:Nat)(ls:List (List AV))(ks:AV):Prop where
 len:J8 ks=some ls.length
 AW:(ls.length:Int)≤9223372036854775807
 cell:Qw ks=true
 at_: ∀(i:Nat) (cs:List AV),ls[i]? =some cs→ ∃c m off cells,ks=.sl c m off ls.length z∧c∉X∧Y9 h c m cells∧cs.length=z∧(cells.drop (off+i *z)).take z=cs
 alive: ∀(c m off n z':Nat),ks=.sl c m off n z'→c∉X∧ ∃cells,Y9 h c m cells∧off+n *z≤cells.length
theorem Jg.mem{h0:Hp}{n0:Nat}{X:List Nat}{st:St}{M:List (Nat×Nat×List AV)}(hM:Mem h0 n0 Y st M)(r:Jg h0 X z ls ks)(hY: ∀c∈Y,c∈X):Jg st.h.get X z ls ks:=
 ⟨r.len,r.AW,r.cell,fun i cs hi=>by
  obtain⟨c,m,off,cells,h1,h2,h3,h4⟩:=r.at_ i cs hi
  exact⟨c,m,off,cells,h1,h2,hM.Jf (fun hc=>h2 (hY c hc)) h3,h4⟩,fun c m off n z' e=>by
  obtain⟨h1,cells,h2,h3⟩:=r.alive c m off n z' e
  exact⟨h1,cells,hM.Jf (fun hc=>h1 (hY c hc)) h2,h3⟩⟩
theorem Jg.nil(h:Hp)(X:List Nat)(z:Nat):Jg h X z [] .nils:=⟨rfl,by simp,rfl,fun i cs hi=>by simp at hi,fun _ _ _ _ _ e=>by cases e⟩
theorem ED: ∀{ls:List (List AV)},(∀cs∈ls,cs.length=z)→ls.flatten.length=ls.length *z:=by
 intro ls
 induction ls with
 |nil=>intro _;simp
 |cons a l ih=>
  intro h;rw[List.flatten_cons,List.length_append,ih fun cs hc=>h cs (List.mem_cons_of_mem _ hc),h a (List.mem_cons_self ..),List.length_cons,Nat.succ_mul,Nat.add_comm]
theorem MI: ∀{ls:List (List AV)} (i:Nat) (cs:List AV),(∀cs∈ls,cs.length=z)→ls[i]? =some cs→(ls.flatten.drop (i *z)).take z=cs:=by
 intro ls
 induction ls with
 |nil=>intro i cs _ h;simp at h
 |cons a l ih=>
  intro i cs hz hi;have ha:=hz a (List.mem_cons_self ..)
  cases i with
  |zero=>
   simp at hi;subst hi;rw[Nat.zero_mul,List.drop_zero,List.flatten_cons,List.take_append_of_le_length Qd,List.take_of_length_le Qd]
  |succ i=>
   rw[Nat.succ_mul,Nat.add_comm,List.flatten_cons,←List.drop_drop,←ha,List.drop_left];rw[ha];exact ih i cs (fun cs hc=>hz cs (List.mem_cons_of_mem _ hc)) (by simpa using hi)
theorem Jg.own{X:List Nat}(r:Qu h c m ls.flatten)(hz: ∀cs∈ls,cs.length=z)(hX:c∉X)(hb:(ls.length:Int)≤9223372036854775807):Jg h X z ls (.sl c m 0 ls.length z):=
 ⟨rfl,hb,rfl,fun i cs hi=>⟨c,m,0,_,rfl,hX,r.QI,hz cs (List.mem_of_getElem? hi),by rw[Nat.zero_add];exact MI i cs hz hi⟩,fun c' m' off n z' e=>by
  injection e with e1 e2 e3 e4 e5
  subst e1 e2 e3 e4 e5
  exact⟨hX,_,r.QI,by rw[ED hz];omega⟩⟩
theorem Jg.load{P:Program}{X:List Nat}(r:Jg h X z ls ks){i:Nat}{cs:List AV}(hi:ls[i]? =some cs): ∃c m off,ks=.sl c m off ls.length z∧c∉X∧
  (∀t,tk P t=.agg z→QF P t (.ptr c m (off+i *z)) h=some (.agg cs))∧(∀t j v,tk P t=.one→cs[j]? =some v→QF P t (.ptr c m (off+i *z+j)) h=some v)∧
  ∀t j n,tk P t=.agg n→j+n≤z→QF P t (.ptr c m (off+i *z+j)) h=some (.agg ((cs.drop j).take n)):=by
 obtain⟨c,m,off,cells,h1,h2,⟨ro,e,vs,ms,h3,h4⟩,h5,h6⟩:=r.at_ i cs hi
 have hld: ∀t o,QF P t (.ptr c m o) h=YJ P t cells o:=fun t o=>by
  show ob (rowOf h c m) _=_;unfold rowOf;rw[h3,Qg];show ob (ob (nth ms m) _) _=_;rw[JV,h4];rfl
 have hlen:off+i *z+z≤cells.length∨z=0:=by
  rw[←h6,List.length_take,List.length_drop]at h5;omega
 refine⟨c,m,off,h1,h2,fun t ht=>?_,fun t j v ht hv=>?_,fun t j n ht hj=>?_⟩
 ·rw[hld];refine QZ ht ?_;rw[VV _ _ _ (by rw[JN,List.length_drop];omega),JN,h6]
 ·rw[hld];refine Qc ht ?_
  have hj:j<z:=by rw[←h5];exact(List.getElem?_eq_some_iff.1 hv).1
  rw[JV,←List.getElem?_drop];rw[←h6,List.getElem?_take,if_pos hj]at hv;exact hv
 ·rw[hld];refine QZ ht ?_;rw[VV _ _ _ (by rw[JN,List.length_drop];omega),JN,←List.drop_drop,←h6,List.drop_take,List.take_take,Nat.min_eq_left Qd]
theorem Jg.ur{P:Program}{h':Hp}{X:List Nat}(r:Jg h X z ls ks)(r':Jg h' Y z ls ks){i:Nat}{cs:List AV}(hi:ls[i]? =some cs): ∃c m off,ks=.sl c m off ls.length z∧c∉X∧
  (∀t,tk P t=.agg z→QF P t (.ptr c m (off+i *z)) h=some (.agg cs))∧(∀t j v,tk P t=.one→cs[j]? =some v→QF P t (.ptr c m (off+i *z+j)) h=some v)∧
  (∀t j n,tk P t=.agg n→j+n≤z→QF P t (.ptr c m (off+i *z+j)) h=some (.agg ((cs.drop j).take n)))∧
  (∀t,tk P t=.agg z→QF P t (.ptr c m (off+i *z)) h'=some (.agg cs))∧(∀t j v,tk P t=.one→cs[j]? =some v→QF P t (.ptr c m (off+i *z+j)) h'=some v)∧
  (∀t j n,tk P t=.agg n→j+n≤z→QF P t (.ptr c m (off+i *z+j)) h'=some (.agg ((cs.drop j).take n))):=by
 obtain⟨c,m,off,e,hX,h1,h2,h3⟩:=r.load (P:=P) hi;obtain⟨c',m',off',e',_,k1,k2,k3⟩:=r'.load (P:=P) hi;rw[e]at e'
 injection e' with e1 e2 e3
 subst e1 e2 e3;exact⟨c,m,off,e,hX,h1,h2,h3,k1,k2,k3⟩
end
section
open Go Go.RowKit

theorem HR.under{w0:World}{p:QY}{h:Hp}{w:World}(H:HR w0 p h w):Below w0.heap.size w0 w:=⟨H.os,H.tape,H.output,H.size,H.J5⟩

def Real(P:Program)(f:FuncId):Prop:= ∃fn,P.funcs[f]? =some fn∧fn.body.isSome=true∧(fn.name== "runtime.NumGoroutine")=false
noncomputable def Hr(l:List (FuncId×(List AV→St→Option (AV×St))))(f:FuncId):Option (List AV→St→Option (AV×St)):=List.rec none (fun q _ ih=>Qj (Nat.beq f q.1) (some q.2) ih) l
theorem MJ{l:List (FuncId×(List AV→St→Option (AV×St)))}{f:FuncId}{q:List AV→St→Option (AV×St)}(h:Hr l f=some q):(f,q)∈l:=by
 induction l with
 |nil=>cases h
 |cons x l ih=>
  have h:Qj (Nat.beq f x.1) (some x.2) (Hr l f)=some q:=h
  cases hb:Nat.beq f x.1 with
  |true=>
   rw[hb]at h
   injection h with h
   subst h;rw[Nat.eq_of_beq_eq_true hb];exact List.mem_cons_self ..
  |false=>rw[hb]at h;exact List.mem_cons_of_mem _ (ih h)
end
section
open Go
variable {Y:List Nat} {b pol:Bool} {c j m n off:Nat} {e t:TypeId} {ks2 u:AV} {l:List AV} {ls2:List (List AV)} {x y:Operand}

section
variable {P:Program} {G:Env} {N:Nat} {T:Tr AV} {st:St} {ops rest:List Oper} {K:List (Nat×AV)} {R:Tr AV→St→Prop} {d:Nat} {op:Op} {ty:TypeId} {pos:String} {af:Array Edge} {v:AV} {st1:St}
theorem o1(hK:QH K T)(h:Us P G K op st v st1)(hN:Nat.ble (d+1) N=true)(hn: ∀T',QH ((d,v)::K) T'→WR P G N ops rest R T' st1):WR P G N ops (⟨some d,op,ty,pos,af,none⟩::rest) R T st:=WW hK h (Nat.le_of_ble_eq_true hN) hn
theorem oB{x:Bool}(hK:QH K T)(h:Us P G K op st (.bool x) st1)(hN:Nat.ble (d+1) N=true)(hn: ∀(b:Bool) T',x=b→QH ((d,.bool b)::K) T'→WR P G N ops rest R T' st1):WR P G N ops (⟨some d,op,ty,pos,af,none⟩::rest) R T st:=wV hK h (Nat.le_of_ble_eq_true hN) hn
theorem og{t:Nat}(hK:QH K T)(ht:Ur ops j=some t)(hb:K.lookup t=some (.bool pol))(h:Us P G K op st v st1)(hN:Nat.ble (d+1) N=true)(hn: ∀T',QH ((d,v)::K) T'→WR P G N ops rest R T' st1):WR P G N ops (⟨some d,op,ty,pos,af,some (j,pol)⟩::rest) R T st:=we hK ht hb h (Nat.le_of_ble_eq_true hN) hn
theorem l4{t:Nat}{x:Bool}(hK:QH K T)(ht:Ur ops j=some t)(hb:K.lookup t=some (.bool pol))(h:Us P G K op st (.bool x) st1)(hN:Nat.ble (d+1) N=true)(hn: ∀(b:Bool) T',x=b→QH ((d,.bool b)::K) T'→WR P G N ops rest R T' st1):WR P G N ops (⟨some d,op,ty,pos,af,some (j,pol)⟩::rest) R T st:=we hK ht hb h (Nat.le_of_ble_eq_true hN) (hn x · rfl)
theorem gn{t:Nat}(hK:QH K T)(ht:Ur ops j=some t)(hb:K.lookup t=some (.bool b))(hne:(b==pol)=false)(hN:Nat.ble (d+1) N=true)(hn: ∀T',QH ((d,.tup [])::K) T'→WR P G N ops rest R T' st):WR P G N ops (⟨some d,op,ty,pos,af,some (j,pol)⟩::rest) R T st:=fS hK ht hb hne (Nat.le_of_ble_eq_true hN) hn
end
section
variable {P:Program} {G:Env} {N:Nat} {st:St} {K:List (Nat×AV)} {T:Tr AV} {ops:List Oper} {r:List (Nat×Nat)} {R:Tr AV→St→Prop} {sn:List St} {i d:Nat} {op:Op} {ty:TypeId} {pos:String} {af:Array Edge} {v:AV} {st1:St}
theorem d1(ho:ops[i]? =some ⟨some d,op,ty,pos,af,none⟩)(hK:QH K T)(h:Us P G K op st v st1)(hk:Nat.beq (Qz P op) 3=false)(hN:Nat.ble (d+1) N=true)(hn: ∀T',QH ((d,v)::K) T'→WD P G N ops (r.map (UY ops)) R T' st1 sn):WD P G N ops (((i,0)::r).map (UY ops)) R T st sn:=Co ho hK h hk (Nat.le_of_ble_eq_true hN) hn
theorem dA(ho:ops[i]? =some ⟨some d,op,ty,pos,af,none⟩)(hK:QH K T)(h:Us P G K op st v st1)(hk:Nat.beq (Qz P op) 3=true)(hN:Nat.ble (d+1) N=true)(hn: ∀T',QH ((d,v)::K) T'→WD P G N ops (r.map (UY ops)) R T' st1 (st1::sn)):WD P G N ops (((i,0)::r).map (UY ops)) R T st sn:=GB ho hK h hk (Nat.le_of_ble_eq_true hN) hn
theorem dB{x:Bool}(ho:ops[i]? =some ⟨some d,op,ty,pos,af,none⟩)(hK:QH K T)(h:Us P G K op st (.bool x) st1)(hk:Nat.beq (Qz P op) 3=false)(hN:Nat.ble (d+1) N=true)(hn: ∀(b:Bool) T',x=b→QH ((d,.bool b)::K) T'→WD P G N ops (r.map (UY ops)) R T' st1 sn):WD P G N ops (((i,0)::r).map (UY ops)) R T st sn:=wX ho hK h hk (Nat.le_of_ble_eq_true hN) hn
theorem dg{t:Nat}(ho:ops[i]? =some ⟨some d,op,ty,pos,af,some (j,pol)⟩)(hK:QH K T)(ht:Ur ops j=some t)(hb:K.lookup t=some (.bool pol))(h:Us P G K op st v st1)(hk:Nat.beq (Qz P op) 3=false)(hN:Nat.ble (d+1) N=true)(hn: ∀T',QH ((d,v)::K) T'→WD P G N ops (r.map (UY ops)) R T' st1 sn):WD P G N ops (((i,0)::r).map (UY ops)) R T st sn:=wg ho hK ht hb h hk (Nat.le_of_ble_eq_true hN) hn
theorem nG{t:Nat}{x:Bool}(ho:ops[i]? =some ⟨some d,op,ty,pos,af,some (j,pol)⟩)(hK:QH K T)(ht:Ur ops j=some t)(hb:K.lookup t=some (.bool pol))(h:Us P G K op st (.bool x) st1)(hk:Nat.beq (Qz P op) 3=false)(hN:Nat.ble (d+1) N=true)(hn: ∀(b:Bool) T',x=b→QH ((d,.bool b)::K) T'→WD P G N ops (r.map (UY ops)) R T' st1 sn):WD P G N ops (((i,0)::r).map (UY ops)) R T st sn:=wg ho hK ht hb h hk (Nat.le_of_ble_eq_true hN) (hn x · rfl)
theorem Ci{t:Nat}(ho:ops[i]? =some ⟨some d,op,ty,pos,af,some (j,pol)⟩)(hK:QH K T)(ht:Ur ops j=some t)(hb:K.lookup t=some (.bool b))(hne:(b==pol)=false)(hN:Nat.ble (d+1) N=true)(hn: ∀sn' T',QH ((d,.tup [])::K) T'→WD P G N ops (r.map (UY ops)) R T' st sn'):WD P G N ops (((i,n)::r).map (UY ops)) R T st sn:=fT ho hK ht hb hne (Nat.le_of_ble_eq_true hN) (fun T' sn'=>hn sn' T')
end

theorem OC{ops:List Oper}{K:List (Nat×AV)}{T:Tr AV}{t:Nat}{d:Option Nat}{op:Op}{ty:TypeId}{pos:String}{af:Array Edge}(hK:QH K T)(ht:Ur ops j=some t)(hb:K.lookup t=some (.tup [])):QX ops ⟨d,op,ty,pos,af,some (j,pol)⟩ T=false:=by
 unfold QX;simp only[ht];rw[show Ux T t=.tup []from hK t _ hb]
theorem nE{P:Program}{G:Env}{N:Nat}{T:Tr AV}{st:St}{ops rest:List Oper}{K:List (Nat×AV)}{R:Tr AV→St→Prop}{d:Nat}{op:Op}{ty:TypeId}{pos:String}{af:Array Edge}{t:Nat}(hK:QH K T)(ht:Ur ops j=some t)(hb:K.lookup t=some (.tup []))(hN:Nat.ble (d+1) N=true)(hn: ∀T',QH ((d,.tup [])::K) T'→WR P G N ops rest R T' st):WR P G N ops (⟨some d,op,ty,pos,af,some (j,pol)⟩::rest) R T st:=by
 obtain⟨L',n',T',st',h1,h2⟩:=hn _ (hK.set d (.tup []));refine⟨L',n',T',st',?_,h2⟩;show(ob (Jz P G _ ops _ T st) fun r=>Yy N (some d) r.1 T fun T=>tl (Ez P G _ N ops rest T r.2))=_;unfold Jz;rw[OC hK ht hb,Qq,Qg];show Q6 (Nat.ble (d+1) N) (T.put d (.tup []) _)=_;rw[hN,Tr.put_eq];exact h1
theorem B8{P:Program}{G:Env}{N:Nat}{st:St}{K:List (Nat×AV)}{T:Tr AV}{ops:List Oper}{r:List (Nat×Nat)}{R:Tr AV→St→Prop}{sn:List St}{i d:Nat}{op:Op}{ty:TypeId}{pos:String}{af:Array Edge}{t:Nat}(ho:ops[i]? =some ⟨some d,op,ty,pos,af,some (j,pol)⟩)(hK:QH K T)(ht:Ur ops j=some t)(hb:K.lookup t=some (.tup []))(hN:Nat.ble (d+1) N=true)(hn: ∀sn' T',QH ((d,.tup [])::K) T'→WD P G N ops (r.map (UY ops)) R T' st sn'):WD P G N ops (((i,n)::r).map (UY ops)) R T st sn:=by
 rw[YI ho];obtain⟨L',n',T',st',h1,h2⟩:=hn (Qj (Nat.beq (Qz P op) 3) (st::sn) sn) _ (hK.set d (.tup []));refine⟨L',n',T',st',?_,h2⟩
 show(ob (Jz P G _ ops _ T st) fun r=>Q6 (Qj (QX ops _ T) (again P G _ T r.1 n (List.rec [] (fun _ t _=>t) sn)) true)
  (Yy N (some d) r.1 T fun T=>tl (Vm P G _ N ops _ T r.2 (Qj (Nat.beq (Qz P op) 3) (r.2::sn) sn))))=_
 unfold Jz;rw[OC hK ht hb,Qq,Qg,Qq,Q7];show Q6 (Nat.ble (d+1) N) (T.put d (.tup []) _)=_;rw[hN,Tr.put_eq];exact h1

section
variable {P:Program} {G:Env} {N:Nat} {T:Tr AV} {st:St} {ops rest:List Oper} {K:List (Nat×AV)} {R:Tr AV→St→Prop} {d:Nat} {ty:TypeId} {pos:String} {af:Array Edge} {h0:Hp} {n0:Nat} {X:List Nat} {M:List (Nat×Nat×List AV)}
theorem VO{len z:Nat}{parts:Array (Nat×Operand)}{zc r:List AV}{ps:List (Nat×AV)}(hK:QH K T)(hM:Mem h0 n0 X st M)(S:F8 P t e z)(hz:zeroOf P e=some zc)(hp:YD (QG G K) parts=some ps)(hf:Xq (fun i=>some (i *z,z)) ps (XA len zc)=some r)(hc:XH Qw r=true)(hb:Nat.ble (len *z) 16777216=true)(hN:Nat.ble (d+1) N=true)
  (hn: ∀(c:Nat) T' st',QH ((d,.sl c 0 0 len z)::K) T'→Mem h0 n0 X st' ((c,0,r)::M)→WR P G N ops rest R T' st'):WR P G N ops (⟨some d,.buildSlice t len parts,ty,pos,af,none⟩::rest) R T st:=by
 obtain⟨c,st1,h1,h2⟩:=AP (G:=G) S hz hp hf hc (Nat.le_of_ble_eq_true hb) hM;exact WW hK h1 (Nat.le_of_ble_eq_true hN) fun T' hT'=>hn c T' st1 hT' h2
theorem Eo{sn:List St}{i:Nat}{rr:List (Nat×Nat)}{len z:Nat}{parts:Array (Nat×Operand)}{zc r:List AV}{ps:List (Nat×AV)}(ho:ops[i]? =some ⟨some d,.buildSlice t len parts,ty,pos,af,none⟩)(hK:QH K T)(hM:Mem h0 n0 X st M)(S:F8 P t e z)(hz:zeroOf P e=some zc)(hp:YD (QG G K) parts=some ps)(hf:Xq (fun i=>some (i *z,z)) ps (XA len zc)=some r)(hc:XH Qw r=true)(hb:Nat.ble (len *z) 16777216=true)(hN:Nat.ble (d+1) N=true)
  (hn: ∀(c:Nat) T' st',QH ((d,.sl c 0 0 len z)::K) T'→Mem h0 n0 X st' ((c,0,r)::M)→WD P G N ops (rr.map (UY ops)) R T' st' sn):WD P G N ops (((i,0)::rr).map (UY ops)) R T st sn:=by
 obtain⟨c,st1,h1,h2⟩:=AP (G:=G) S hz hp hf hc (Nat.le_of_ble_eq_true hb) hM;exact Co ho hK h1 rfl (Nat.le_of_ble_eq_true hN) fun T' hT'=>hn c T' st1 hT' h2
theorem wY{sn:List St}{i:Nat}{rr:List (Nat×Nat)}{v:AV}(ho:ops[i]? =some ⟨some d,.box t x,ty,pos,af,none⟩)(hK:QH K T)(hM:Mem h0 n0 X st M)(hx:QG G K x=some v)(hc:XH Qw (QO v)=true)(hN:Nat.ble (d+1) N=true)
  (hn: ∀(c:Nat) T' st',QH ((d,.ptr c 0 0)::K) T'→Mem h0 n0 X st' ((c,0,QO v)::M)→WD P G N ops (rr.map (UY ops)) R T' st' sn):WD P G N ops (((i,0)::rr).map (UY ops)) R T st sn:=by
 refine Co (v:=.ptr st.n 0 0) (st1:=⟨st.n+1,st.h.set st.n (.row false [((QO v).length,0,some (QO v))])⟩) ho hK (.of fun T hT c d ty pos af g=>?_) rfl (Nat.le_of_ble_eq_true hN) fun T' hT'=>hn st.n T' _ hT' (hM.alloc _);show(ob (QN G T x) fun x=>RQ x st)=_;rw[hT.QN hx,Qg];unfold RQ;rw[hc,Q7,Uv]
end

inductive Acc(n0 z:Nat):List (Nat×Nat×List AV)→AV→List (List AV)→Prop
 |none:Acc n0 z [] .nils []
 |own {c m:Nat} {ls:List (List AV)} (hc:n0≤c) (hz: ∀cs∈ls,cs.length=z) (hb:ls.length≤1000000000):Acc n0 z [(c,m,ls.flatten)] (.sl c m 0 ls.length z) ls
theorem Acc.less{n0 n1 z:Nat}{A:List (Nat×Nat×List AV)}{ks:AV}{ls:List (List AV)}(h:Acc n0 z A ks ls)(hn:n1≤n0):Acc n1 z A ks ls:=by
 cases h with
 |none=>exact .none
 |own hc hz hb=>exact .own (Nat.le_trans hn hc) hz hb
theorem Acc.len{n0 z:Nat}{A:List (Nat×Nat×List AV)}{ks:AV}{ls:List (List AV)}(h:Acc n0 z A ks ls):J8 ks=some ls.length:=by cases h<;>rfl
theorem Acc.cell{n0 z:Nat}{A:List (Nat×Nat×List AV)}{ks:AV}{ls:List (List AV)}(h:Acc n0 z A ks ls):Qw ks=true:=by cases h<;>rfl
theorem Acc.AW{n0 z:Nat}{A:List (Nat×Nat×List AV)}{ks:AV}{ls:List (List AV)}(h:Acc n0 z A ks ls):ls.length≤1000000000:=by
 cases h with
 |none=>exact Nat.zero_le _
 |own hc hz hb=>exact hb
section
variable {P:Program} {G:Env} {N:Nat} {h0:Hp} {n0:Nat} {X:List Nat} {st:St} {M L A B:List (Nat×Nat×List AV)} {z:Nat} {ks:AV} {ls:List (List AV)}
theorem Mem.perm(h:Mem h0 n0 X st M){M':List (Nat×Nat×List AV)}(p:M.Perm M'):Mem h0 n0 X st M':=
 ⟨h.fresh,h.le,h.base,fun c m l hm=>h.row c m l (p.mem_iff.2 hm),fun c m l hm=>h.lt c m l (p.mem_iff.2 hm),fun c m l hm=>h.own c m l (p.mem_iff.2 hm),(p.map _).nodup_iff.1 h.nodup,h.J5⟩
theorem Mem.cast(h:Mem h0 n0 X st M){M':List (Nat×Nat×List AV)}(e:M=M'):Mem h0 n0 X st M':=e▸h
theorem Mem.Zv(hM:Mem h0 n0 X st (L++(A++B))){n1:Nat}(hA:Acc n1 z A ks ls):Jg st.h.get [] z ls ks:=by
 cases hA with
 |none=>exact .nil _ _ _
 |own hc hz hb=>
  rename_i c m;exact Jg.own (hM.row c m _ Qx) hz Qx Qd
theorem GS(L B:List (Nat×Nat×List AV))(a b:Nat×Nat×List AV):(L++([a]++B)).set L.length b=L++([b]++B):=by
 rw[List.set_append_right _ _ (Nat.le_refl _),Nat.sub_self];rfl
theorem By(L B:List (Nat×Nat×List AV))(a:Nat×Nat×List AV):(L++([a]++B))[L.length]? =some a:=by
 rw[List.getElem?_append_right (Nat.le_refl _),Nat.sub_self];rfl
theorem Mem.fA(hM:Mem h0 n0 X st (L++(A++B)))(hA:Acc n0 z A ks ls)(T:F8 P t e z)(hy:Jg st.h.get Y z ls2 ks2)(hz2: ∀cs∈ls2,cs.length=z)(hb:ls.length+ls2.length≤1000000000):
  ∃ks' A' st1,U0 P [t,t] ks ks2 st=some (ks',st1)∧Acc n0 z A' ks' (ls++ls2)∧Mem h0 n0 X st1 (L++(A'++B)):=by
 have hzz: ∀cs∈ls++ls2,cs.length=z:=fun cs hc=>by
  rcases List.mem_append.1 hc with hc|hc
  ·cases hA with
   |none=>cases hc
   |own h1 h2 h3=>exact h2 cs hc
  ·exact hz2 cs hc
 have hl2:=hy.len
 cases ls2 with
 |nil=>
  rw[List.append_nil];refine⟨ks,A,st,?_,hA,hM⟩
  cases ks2<;>first
   |(cases hl2;done)
   |(refine Ps T ?_ rfl;cases hA<;>rfl)
   |skip
  rename_i c2 m2 Jj n2 z2
  injection hl2 with hl2
  have hl2:n2=0:=hl2;subst hl2;obtain⟨_,cells,h1,h2⟩:=hy.alive _ _ _ _ _ rfl
  cases hA with
  |none=>exact BU T h1 Qd
  |own h3 h4 h5=>
   rename_i c m;exact BT T (hM.row c m _ Qx) (ED h4) h1 Qd
 |cons x ls2=>
  obtain⟨c2,m2,Jj,cells0,rfl,_,_,_,_⟩:=hy.at_ 0 x rfl;obtain⟨_,cells,hr2,hle⟩:=hy.alive _ _ _ _ _ rfl
  have hrow:(cells.drop Jj).take ((x::ls2).length *z)=(x::ls2).flatten:=by
   apply List.ext_getElem?;intro j;rw[List.getElem?_take]
   split
   ·rename_i hj;rw[List.getElem?_drop];have hz0:0<z:=T.p;have hjd:j/z<(x::ls2).length:=Nat.div_lt_of_lt_mul (by rw[Nat.mul_comm];exact hj);obtain⟨cs,hcs⟩: ∃cs,(x::ls2)[j/z]? =some cs:=⟨_,List.getElem?_eq_getElem hjd⟩;obtain⟨c',m',off',cells',e,_,hr',h5,h6⟩:=hy.at_ _ _ hcs
    injection e with e1 e2 e3
    subst e1 e2 e3
    have:cells'=cells:=by
     obtain⟨a1,b1,d1,g1,i1,j1⟩:=hr';obtain⟨a2,b2,d2,g2,i2,j2⟩:=hr2;rw[i1]at i2
     injection i2 with i2
     injection i2 with i2 i3
     subst i3;rw[j1]at j2
     injection j2 with j2
     injection j2 with _ j2
     injection j2 with _ j2
     injection j2
    subst this;rw[DA hz0 _ hz2,hcs];show _=cs[j % z]?;rw[←h6,List.getElem?_take,if_pos (Nat.mod_lt _ hz0),List.getElem?_drop]
    congr 1
    have:=Nat.div_add_mod j z;rw[Nat.mul_comm]at this;omega
   ·rename_i hj;rw[List.getElem?_eq_none];rw[ED hz2];omega
  cases hA with
  |none=>
   have ha:=append_nil (P:=P) (st:=st) T (z2:=z) hr2 hle Qx (by simpa using hb);refine⟨_,[(st.n,0,(x::ls2).flatten)],_,ha,?_,?_⟩
   ·exact .own hM.le hzz (by simpa using hb)
   ·rw[hrow];have:=hM.alloc (x::ls2).flatten;refine this.perm ?_;exact(List.perm_middle (l₁:=L) (l₂:=B)).symm
  |own h3 h4 h5=>
   rename_i c m;obtain⟨m',st1,h6,h7,_⟩:=hM.append T (z2:=z) (By L B _) (ED h4) hr2 hle Qx hb;refine⟨_,[(c,m',(ls++x::ls2).flatten)],st1,h6,?_,?_⟩
   ·rw[←List.length_append];exact .own h3 hzz (by rw[List.length_append];exact hb)
   ·rw[GS,hrow]at h7;rw[List.flatten_append];exact h7
theorem Mem.Wy(hM:Mem h0 n0 X st (L++(A++B)))(hA:Acc n0 z A ks ls)(T:F8 P t e z){k2 c2 m2:Nat}{l2:List AV}(hk:(L++(A++B))[k2]? =some (c2,m2,l2))(hl:l2.length=z)(hb:ls.length+1≤1000000000):
  ∃ks' A' st1,U0 P [t,t] ks (.sl c2 m2 0 1 z) st=some (ks',st1)∧Acc n0 z A' ks' (ls++[l2])∧Mem h0 n0 X st1 (L++(A'++B)):=by
 have hr:=hM.Ud hk;have:Jg st.h.get [] z [l2] (.sl c2 m2 0 [l2].length z):=Jg.own (by simpa using hr) (by simpa using hl) Qx Qx;exact hM.fA hA T this (by simpa using hl) (by simpa using hb)
variable {T:Tr AV} {ops rest:List Oper} {K:List (Nat×AV)} {R:Tr AV→St→Prop} {d:Nat} {ty:TypeId} {pos:String} {af:Array Edge}
theorem FK{c2 m2 k2:Nat}{l2:List AV}(hK:QH K T)(hM:Mem h0 n0 X st (L++(A++B)))(hA:Acc n0 z A ks ls)(S:F8 P t e z)(hx:QG G K x=some ks)(hy:QG G K y=some (.sl c2 m2 0 1 z))(hk:(L++(A++B))[k2]? =some (c2,m2,l2))(hl:l2.length=z)(hb:ls.length+1≤1000000000)(hN:Nat.ble (d+1) N=true)
  (hn: ∀(ks':AV) A' T' st',QH ((d,ks')::K) T'→Acc n0 z A' ks' (ls++[l2])→Mem h0 n0 X st' (L++(A'++B))→WR P G N ops rest R T' st'):WR P G N ops (⟨some d,.call {callee:=.builtin .append,args:= #[x,y],argTypes:= #[t,t]},ty,pos,af,none⟩::rest) R T st:=by
 obtain⟨ks',A',st1,h1,h2,h3⟩:=hM.Wy hA S hk hl hb;exact WW hK (ZN rfl hx hy h1) (Nat.le_of_ble_eq_true hN) fun T' hT'=>hn ks' A' T' st1 hT' h2 h3
theorem Sh(hK:QH K T)(hM:Mem h0 n0 X st (L++(A++B)))(hA:Acc n0 z A ks ls)(S:F8 P t e z)(hx:QG G K x=some ks)(hy:QG G K y=some ks2)(hr:Jg st.h.get Y z ls2 ks2)(hz2: ∀cs∈ls2,cs.length=z)(hb:ls.length+ls2.length≤1000000000)(hN:Nat.ble (d+1) N=true)
  (hn: ∀(ks':AV) A' T' st',QH ((d,ks')::K) T'→Acc n0 z A' ks' (ls++ls2)→Mem h0 n0 X st' (L++(A'++B))→WR P G N ops rest R T' st'):WR P G N ops (⟨some d,.call {callee:=.builtin .append,args:= #[x,y],argTypes:= #[t,t]},ty,pos,af,none⟩::rest) R T st:=by
 obtain⟨ks',A',st1,h1,h2,h3⟩:=hM.fA hA S hr hz2 hb;exact WW hK (ZN rfl hx hy h1) (Nat.le_of_ble_eq_true hN) fun T' hT'=>hn ks' A' T' st1 hT' h2 h3
theorem zL{sn:List St}{i:Nat}{rr:List (Nat×Nat)}(ho:ops[i]? =some ⟨some d,.call {callee:=.builtin .append,args:= #[x,y],argTypes:= #[t,t]},ty,pos,af,none⟩)(hK:QH K T)(hM:Mem h0 n0 X st (L++(A++B)))(hA:Acc n0 z A ks ls)(S:F8 P t e z)(hx:QG G K x=some ks)(hy:QG G K y=some ks2)(hr:Jg st.h.get Y z ls2 ks2)(hz2: ∀cs∈ls2,cs.length=z)(hb:ls.length+ls2.length≤1000000000)(hN:Nat.ble (d+1) N=true)
  (hn: ∀(ks':AV) A' T' st',QH ((d,ks')::K) T'→Acc n0 z A' ks' (ls++ls2)→Mem h0 n0 X st' (L++(A'++B))→WD P G N ops (rr.map (UY ops)) R T' st' (st'::sn)):WD P G N ops (((i,0)::rr).map (UY ops)) R T st sn:=by
 obtain⟨ks',A',st1,h1,h2,h3⟩:=hM.fA hA S hr hz2 hb;exact GB ho hK (ZN rfl hx hy h1) rfl (Nat.le_of_ble_eq_true hN) fun T' hT'=>hn ks' A' T' st1 hT' h2 h3

def HB(st st':St)(z:Nat)(ks:AV)(ls:List (List AV)):Prop:= ∃A,Acc st.n z A ks ls∧ ∀c m l,(c,m,l)∈A→Qu st'.h.get c m l
theorem Mem.Yq(h:Mem h0 n0 X st M){st':St}(q:Qt st st')(r:HB st st' z ks ls): ∃A,Acc n0 z A ks ls∧Mem h0 n0 X st' (M++(A++[])):=by
 obtain⟨A,hA,hr⟩:=r;refine⟨A,hA.less h.le,?_⟩
 cases hA with
 |none=>simpa using h.quiet q
 |own hc hz hb=>
  have:=h.Ti q (hr _ _ _ (List.mem_singleton.2 rfl)) hc;exact this.perm (by simpa using(List.perm_middle (l₁:=M) (l₂:=[])).symm)
theorem Mem.xW{st0 st':St}(h:Mem st0.h.get st0.n X st' (L++(A++B)))(hA:Acc st0.n z A ks ls):HB st0 st' z ks ls:=⟨A,hA,fun c m l hm=>h.row c m l (by simp[hm])⟩
theorem fU{Q:Ex→Tr AV→St→Prop}{a b:Code}{J:Tr AV→St→Prop}(h:W P G N a (Le J Q) T st)(hb: ∀T st,J T st→W P G N b Q T st):W P G N (.seq a b) Q T st:=
 Xc (qB h fun x T st hx=>by
  cases x with
  |nor=>exact hb T st hx
  |exit i=>exact hx
  |ret=>exact hx)
theorem Qr{h:Hp}{cells:List AV}{v:AV}(hr:Y9 h c m cells)(hp:YJ P t cells off=some v):QF P t (.ptr c m off) h=some v:=by
 obtain⟨e,vs,ro,ms,h1⟩:=hr.rowOf;show ob (rowOf h c m) _=_;rw[h1];exact hp
theorem S5{yt:TypeId}{k:IntKind}{a b c:Int}(hx:QG G K x=some (.int k a))(hy:QG G K y=some (.int k b))(hw:k.wrap (a *b)=c):Us P G K (.binOp .mul t x y yt) st (.int k c) st:=
 UF hx hy (by rw[Vj Q9 Q9];show X8 (X3 k (a *b)) (fun z=>some (AV.int k z))=_;rw[UP,Ug,hw])
theorem QL:XH Qw ([]:List AV)=true:=rfl
theorem Qa{a:AV}(h1:Qw a=true)(h2:XH Qw l=true):XH Qw (a::l)=true:=by
 show Qj (Qw a) (XH Qw l) false=true;rw[h1,h2];rfl
theorem N1{v:AV}(h:Qw v=true):XH Qw (QO v)=true:=by
 cases v<;>first|rfl|cases h
theorem XN{v:AV}(h:Qw v=true):QO v=[v]:=by
 cases v<;>first|rfl|cases h
theorem Jk{ty:TypeId}{pos:String}{af:Array Edge}{w:AV}{k:Nat}{l':List AV}(hK:QH K T)(hM:Mem h0 n0 X st M)(hx:QG G K x=some (.ptr c m off))(hy:QG G K y=some w)(hk:M[k]? =some (c,m,l))(hz:UX P t=some 1)(hc:Qw w=true)(ho:YB [w] off l=some l')
  (hr: ∀st',Mem h0 n0 X st' (M.set k (c,m,l'))→WR P G N ops rest R T st'):WR P G N ops (⟨none,.store t x y,ty,pos,af,none⟩::rest) R T st:=
 Uh hK hM hx hy hk hz (by rw[XN hc];rfl) (N1 hc) (by rw[XN hc];exact ho) hr
theorem XJ{sn:List St}{i:Nat}{rr:List (Nat×Nat)}{ty:TypeId}{pos:String}{af:Array Edge}{w:AV}{k:Nat}{l':List AV}(ho':ops[i]? =some ⟨none,.store t x y,ty,pos,af,none⟩)(hK:QH K T)(hM:Mem h0 n0 X st M)(hx:QG G K x=some (.ptr c m off))(hy:QG G K y=some w)(hk:M[k]? =some (c,m,l))(hz:UX P t=some 1)(hc:Qw w=true)(ho:YB [w] off l=some l')
  (hr: ∀st',Mem h0 n0 X st' (M.set k (c,m,l'))→WD P G N ops (rr.map (UY ops)) R T st' (st'::sn)):WD P G N ops (((i,0)::rr).map (UY ops)) R T st sn:=
 La ho' hK hM hx hy hk hz (by rw[XN hc];rfl) (N1 hc) (by rw[XN hc];exact ho) hr
theorem Gz{P:Program}{G:Env}{T:Tr AV}{v u:AV}{t:TypeId}{x:Operand}{d:Option Nat}{ty:TypeId}{pos:String}{af:Array Edge}{g:Option (Nat×Bool)}(hx:QN G T x=some u)(he:HI v v=true): ∀(n:Nat) (l:List St),n≤l.length→(∀s∈l.take n,QF P t u s.h.get=some v)→again P G ⟨d,.load t x,ty,pos,af,g⟩ T v n l=true
 |0,l,_,_=>rfl
 |n+1,[],h,_=>by simp at h
 |n+1,s::l,h,ha=>by
  have ih:=Gz (d:=d) (ty:=ty) (pos:=pos) (af:=af) (g:=g) hx he n l (by simpa using h) (fun s' hs=>ha s' (by rw[List.take_succ_cons];exact List.mem_cons_of_mem _ hs));show Qj (Option.rec false (fun x=>Option.rec false (fun u=>HI u v) (QF P t x s.h.get)) (QN G T x)) (again P G ⟨d,.load t x,ty,pos,af,g⟩ T v n l) false=true;rw[hx];show Qj (Option.rec false (fun u=>HI u v) (QF P t u s.h.get)) (again P G ⟨d,.load t x,ty,pos,af,g⟩ T v n l) false=true;rw[ha s Qx];show Qj (HI v v) (again P G ⟨d,.load t x,ty,pos,af,g⟩ T v n l) false=true;rw[he];exact ih
theorem VQ{P:Program}{G:Env}{N:Nat}{st:St}{K:List (Nat×AV)}{T:Tr AV}{ops:List Oper}{R:Tr AV→St→Prop}{sn:List St}{r:List (Nat×Nat)}{i d:Nat}{ty:TypeId}{pos:String}{af:Array Edge}{v:AV}{s0:St}
  (ho:ops[i]? =some ⟨some d,.load t x,ty,pos,af,none⟩) (hK:QH K T) (hx:QG G K x=some u) (h:QF P t u st.h.get=some v) (hl:n≤sn.length) (hall: ∀s∈sn.take n,QF P t u s.h.get=some v) (he:HI v v=true) (hk:Nat.beq (Qz P (.load t x)) 3=false) (hN:d<N)
  (hn: ∀T',QH ((d,v)::K) T'→WD P G N ops (r.map (UY ops)) R T' st (s0::sn)):WD P G N ops (((i,n)::r).map (UY ops)) R T st (s0::sn):=by
 rw[YI ho]
 exact Vr rfl (Qi hx h T hK _ _ _ _ _) (Gz (hK.QN hx) he n sn hl hall) (fun e he=>by injection he with he;rw[←he];exact hN) (by
  show WD P G N ops (r.map (UY ops)) R _ st (Qj (Nat.beq (Qz P (.load t x)) 3) _ _)
  rw[hk];exact hn _ (hK.set d v))
theorem Z1{P:Program}{G:Env}{K:List (Nat×AV)}{st:St}{yt:TypeId}{a:Bool}(ht:P.underlying t=some .bool)(hx:QG G K x=some (.bool a))(hy:QG G K y=some (.bool b)):Us P G K (.binOp .eql t x y yt) st (.bool (a==b)) st:=
 UF hx hy (by
  show Q6 (EH (P.underlying t) (.bool a)) (ob (EG (.bool a) (.bool b)) fun b=>some (AV.bool b))=_;rw[ht]
  cases a<;>cases b<;>rfl)
theorem Ib{P:Program}{G:Env}{K:List (Nat×AV)}{st:St}{r:Operand}{name:String}{args:Array Operand}{tys:Array TypeId}{fid:FuncId}{v:AV}{st1:St}(hr:QG G K r=some (.ifc t u))(hm:Vw P t name=some fid)(ha:JB (QG G K) args.toList=some l)(h:Ev P G fid (u::l) st v st1):
  Us P G K (.call {callee:=.invoke r name,args:=args,argTypes:=tys}) st v st1:=fun T hT d ty pos af g=>by
 obtain⟨L,n,h⟩:=h;refine⟨L,n,fun L' n' hL hn=>?_⟩
 show(ob (QN G T r) fun v=>(match v with
  |.ifc t u=>ob (Vw P t name) fun fid=>ob (JB (QN G T) args.toList) fun l=>Jp P G L' n' fid (u::l) st
  |_=>none))=_
 rw[hT.QN hr,Qg];show(ob (Vw P t name) fun fid=>ob (JB (QN G T) args.toList) fun l=>Jp P G L' n' fid (u::l) st)=_;rw[hm,Qg,hT.row _ _ ha,Qg];exact ZT n n' L L' hn hL _ _ _ _ h
theorem E0{P:Program}{G:Env}{K:List (Nat×AV)}{st:St}{v:AV}(hx:QG G K x=some u)(h:IM P t u=some v):Us P G K (.makeInterface t x) st v st:=.of fun T hT cc d ty pos af g=>by
 show ret (ob (QN G T x) fun x=>IM P t x) st=_;rw[hT.QN hx,Qg,h];rfl
theorem L8{P:Program}{G:Env}{K:List (Nat×AV)}{st:St}{xt:TypeId}{ok:Bool}{v:AV}(hx:QG G K x=some u)(h:IX P u t ok=some v):Us P G K (.typeAssert x xt t ok) st v st:=.of fun T hT cc d ty pos af g=>by
 show ret (ob (QN G T x) fun x=>IX P x t ok) st=_;rw[hT.QN hx,Qg,h];rfl
def RA:AV→Bool
 |.bool _=>true
 |.int _ _=>true
 |.str _=>true
 |.nilp=>true
 |.ptr _ _ _=>true
 |.nils=>true
 |.sl _ _ _ _ _=>true
 |.slz _ _ _ _ _=>true
 |.sl0 _ _ _=>true
 |.nilf=>true
 |.nili=>true
 |.nilm=>true
 |.mp _=>true
 |_=>false
theorem IT{v:AV}(h:RA v=true):Fv v v=true:=by
 cases v<;>first
  |(cases h;done)
  |rfl
  |skip
 ·rename_i b;cases b<;>rfl
 ·rename_i k n;show Qj (Ku k k) (Fu n n) false=true;rw[Wn,Yp];simp[Qj]
 ·rename_i l;show Gh l l=true;rw[Z5];simp
 ·rename_i c m o;show Qj (Nat.beq c c) (Qj (Nat.beq m m) (Nat.beq o o) false) false=true;simp[Qj]
 ·rename_i c m o l z;show Qj (Nat.beq c c) (Qj (Nat.beq m m) (Qj (Nat.beq o o) (Qj (Nat.beq l l) (Nat.beq z z) false) false) false) false=true;simp[Qj]
 ·rename_i c m o l z;show Qj (Nat.beq c c) (Qj (Nat.beq m m) (Qj (Nat.beq o o) (Qj (Nat.beq l l) (Nat.beq z z) false) false) false) false=true;simp[Qj]
 ·rename_i x o s;show Qj (Nat.beq x x) (Qj (Nat.beq o o) (vz s s) false) false=true
  cases s<;>simp[Qj,vz]
 ·rename_i c;show Nat.beq c c=true;simp
theorem Ul{v:AV}(h:RA v=true):HI v v=true:=by
 have:=IT h
 cases v<;>first|exact this|(cases h;done)
theorem KO(h:l.all RA=true):HI (.agg l) (.agg l)=true:=by
 show Hx l l=true
 induction l with
 |nil=>rfl
 |cons a l ih=>
  rw[List.all_cons,Bool.and_eq_true]at h;show Qj (Fv a a) (Hx l l) false=true;rw[IT h.1,ih h.2];rfl
theorem Hu(x:List Nat):RA (.str x)=true:=rfl
theorem Hv(k:IntKind)(x:Int):RA (.int k x)=true:=rfl
theorem A6(b:Bool):RA (.bool b)=true:=rfl
theorem YM{v:AV}(h:J8 v=some n):RA v=true:=by
 cases v<;>first|rfl|(cases h;done)

variable {rr:ResultVar} {rs:List ResultVar}
theorem Yi{t:Nat}{v:AV}(hK:QH K T)(h:K.lookup t=some v):Kf P T st (.tmp t)=some v:=congrArg some (hK t v h)
theorem Yn{a:Nat}{v:AV}(hK:QH K T)(h:K.lookup a=some u)(hl:QF P t u st.h.get=some v):Kf P T st (.cell a t)=some v:=by
 show QF P t (Ux T a) st.h.get=_;rw[hK a u h];exact hl
theorem KC{v:AV}(h:Kf P T st rr=some v):QS P [rr] T st=some v:=by
 show(ob (JB (Kf P T st) [rr]) _)=_;rw[Jw,h];rfl
theorem Yo{r1 r2:ResultVar}{a b:AV}(h1:Kf P T st r1=some a)(h2:Kf P T st r2=some b):QS P [r1,r2] T st=some (.tup [a,b]):=by
 show(ob (JB (Kf P T st) [r1,r2]) _)=_;rw[Jw,Jw,h1,h2];rfl
end
end
end Go.Proofs.YtildagdnomiahaaGreatDoor
