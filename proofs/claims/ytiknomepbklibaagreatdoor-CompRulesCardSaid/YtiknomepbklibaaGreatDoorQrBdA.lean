/-
  Maps by keys of some kind, as things in memory.
-/
import Derived.Test.YtiknomepbklibaaGreatDoorQrMo
set_option maxRecDepth 100000
set_option linter.unnecessarySimpa false
set_option linter.unusedSectionVars false
set_option linter.unusedSimpArgs false
set_option linter.unusedVariables false
section
namespace Go.Proofs.YtiknomepbklibaaGreatDoor
open Go Go.RowKit

structure VH(P:Program)(t:TypeId){α:Type}(key:α→AV)(z:AV):Prop where
 rule: ∃kt et d,P.underlying t=some (.map kt et)∧P.underlying kt=some d∧zeroV P et=some z∧(∀a,We P kt d (key a)=true)∧(∀a i,Yx P kt d (key a) [] i=some none)∧
  ∀a b v n es i,(a=b→Yx P kt d (key a) ((key b,v,n)::es) i=some (some (i,v)))∧(a≠b→Yx P kt d (key a) ((key b,v,n)::es) i=Yx P kt d (key a) es (i+1))
section
variable {α:Type} {key:α→AV}
def Oc(key:α→AV)(es:List (AV×AV×Nat))(L:List (α×AV)):Prop:=es.map vr=L.map fun x=>(key x.1,x.2)
open Classical in
noncomputable def Yn:List (α×AV)→α→Option AV
 |[],_=>none
 |x::L,a=>if x.1=a then some x.2 else Yn L a
theorem Le: ∀{L:List (α×AV)} {a:α} {v:AV},Yn L a=some v→(a,v)∈L
 |[],a,v,h=>by cases h
 |x::L,a,v,h=>by
  rw[Yn]at h
  split at h
  ·rename_i e
   injection h with h
   subst e h;simp
  ·exact List.mem_cons_of_mem _ (Le h)
theorem Nn: ∀{L:List (α×AV)} {a:α},Yn L a=none→ ∀v,(a,v)∉L
 |[],a,_,v=>by simp
 |x::L,a,h,v=>by
  rw[Yn]at h
  split at h
  ·cases h
  ·rename_i e;intro hm;rcases List.mem_cons.1 hm with e'|hm
   ·exact e (by rw[←e'])
   ·exact Nn h v hm
theorem Oc.snoc{es:List (AV×AV×Nat)}{L:List (α×AV)}(h:Oc key es L)(a:α)(v:AV)(n:Nat):Oc key (es++[(key a,v,n)]) (L++[(a,v)]):=by
 unfold Oc at h ⊢;rw[List.map_append,List.map_append,h];rfl
theorem VH.find{P:Program}{t:TypeId}{z:AV}{kt et:TypeId}{d:TypeDesc}(h0: ∀a i,Yx P kt d (key a) [] i=some none)(h1: ∀a b v n es i,(a=b→Yx P kt d (key a) ((key b,v,n)::es) i=some (some (i,v)))∧(a≠b→Yx P kt d (key a) ((key b,v,n)::es) i=Yx P kt d (key a) es (i+1)))(a:α): ∀(L:List (α×AV)) (es:List (AV×AV×Nat)) (i:Nat),Oc key es L→
  (Yn L a=none→Yx P kt d (key a) es i=some none)∧ ∀v,Yn L a=some v→ ∃j,Yx P kt d (key a) es i=some (some (j,v))
 |[],es,i,h=>by
  cases es with
  |nil=>exact⟨fun _=>h0 a i,fun v hv=>(by cases hv)⟩
  |cons e es=>cases h
 |x::L,es,i,h=>by
  cases es with
  |nil=>cases h
  |cons e es=>
   obtain⟨e1,e2,e3⟩:=e;unfold Oc at h;rw[List.map_cons,List.map_cons]at h
   injection h with h h'
   injection h with h3 h4
   have h3:e1=key x.1:=h3;have h4:e2=x.2:=h4;subst h3 h4;obtain⟨k1,k2⟩:=h1 a x.1 x.2 e3 es i;rw[Yn]
   split
   ·rename_i e;exact⟨fun h=>(by cases h),fun v hv=>(by injection hv with hv;subst hv;exact⟨i,k1 e.symm⟩)⟩
   ·rename_i e;rw[k2 fun h=>e h.symm];exact VH.find (t:=t) (z:=z) (et:=et) h0 h1 a L es (i+1) h'
def Wd(cm:Nat)(key:α→AV)(L:List (α×AV)):Ob:=⟨fun c=>c=cm,fun h=> ∃es n,h cm=some (.map es n)∧Oc key es L,fun h h' e ⟨es,n,h1,h2⟩=>⟨es,n,by rw[e cm rfl];exact h1,h2⟩⟩
theorem W2{P:Program}{G:Env}{K:List (Nat×AV)}{st:St}{t:TypeId}{z:AV}(T:VH P t key z){cm:Nat}{L:List (α×AV)}{a:α}{m k:Operand}(hH:(Wd cm key L).H st.h.get)(hm:Jb G K m=some (.mp cm))(hk:Jb G K k=some (key a)):
  U4 P G K (.lookup t m k true) st (.tup [(Yn L a).getD z,.bool (Yn L a).isSome]) st:=.of fun T' hT c d ty pos af g=>by
 obtain⟨kt,et,d',u1,u2,u3,u4,u5,u6⟩:=T.rule;obtain⟨es,n,hc,he⟩:=hH;show(ob (QJ G T' m) fun m=>ob (QJ G T' k) fun k=>ret (Vh P t m k true st.h.get) st)=_;rw[hT.QJ hm,hT.QJ hk,Ql,Ql];unfold Vh;obtain⟨f1,f2⟩:=VH.find (P:=P) (t:=t) (z:=z) (et:=et) u5 u6 a L es 0 he;simp only[u1,u2,u4,QO,hc,Ql]
 cases hl:Yn L a with
 |none=>rw[f1 hl];simp only[Ql,u3,Option.getD_none,Option.isSome_none];rfl
 |some v=>
  obtain⟨j,f⟩:=f2 v hl;rw[f];rfl
noncomputable def EV(st:St)(cm n:Nat)(es:List (AV×AV×Nat))(k v:AV):St:=⟨st.n,st.h.set cm (.map (es++[(k,v,n)]) (n+1))⟩
theorem SE{P:Program}{G:Env}{K:List (Nat×AV)}{st:St}{t:TypeId}{z:AV}(T:VH P t key z){cm n:Nat}{es:List (AV×AV×Nat)}{L:List (α×AV)}{a:α}{v:AV}{m k x:Operand}(hc:st.h.get cm=some (.map es n))(he:Oc key es L)(hm:Jb G K m=some (.mp cm))(hk:Jb G K k=some (key a))(hx:Jb G K x=some v)(hv:Qu v=true)(hn:Yn L a=none):
  U4 P G K (.mapUpdate t m k x) st (.tup []) (EV st cm n es (key a) v):=.of fun T' hT c d ty pos af g=>by
 obtain⟨kt,et,d',u1,u2,u3,u4,u5,u6⟩:=T.rule;show(ob (QJ G T' m) fun m=>ob (QJ G T' k) fun k=>ob (QJ G T' x) fun x=>Z3 P t m k x st)=_;rw[hT.QJ hm,hT.QJ hk,hT.QJ hx,Ql,Ql,Ql];unfold Z3 EV;obtain⟨f1,f2⟩:=VH.find (P:=P) (t:=t) (z:=z) (et:=et) u5 u6 a L es 0 he;simp only[u1,u2,u4,QO,hc,Ql,f1 hn,hv,Bool.true_or,Ub,U7,Ji,UI]
section
variable {P:Program} {G:Env} {N:Nat} {st0 st:St} {X0:Fp} {M:QP} {Os:List Ob} {T:Tr AV} {ops rest:List Oper} {K:List (Nat×AV)} {R:Tr AV→St→Prop} {t ty:TypeId} {pos:String} {af:Array Edge} {z v:AV} {cm j:Nat} {L:List (α×AV)} {a:α} {m k x:Operand} {sn:List St} {i:Nat} {r:List (Nat×Nat)}
theorem Qk.BB(B:Qk st0 X0 st M Os)(hj:Os[j]? =some (Wd cm key L)){es:List (AV×AV×Nat)}{n:Nat}(hc:st.h.get cm=some (.map es n))(he:Oc key es L)(a:α)(v:AV):Qk st0 X0 (EV st cm n es (key a) v) M (Os.set j (Wd cm key (L++[(a,v)]))):=by
 have hg: ∀c,(EV st cm n es (key a) v).h.get c=if c=cm then some (.map (es++[(key a,v,n)]) (n+1))else st.h.get c:=fun c=>Tr.VN _ _ _ _
 have hcm:cm<st.n:=B.Yw hj cm rfl;refine B.call hj ⟨fun c hc=>?_,Nat.le_refl _,fun c hc hF=>?_⟩ ⟨_,_,(hg cm).trans (if_pos rfl),he.snoc a v n⟩ fun c hc=>⟨.inl hc,?_⟩
 ·have hc:st.n≤c:=hc;rw[hg,if_neg Qe];exact B.fresh c hc
 ·have hF: ¬c=cm:=hF;rw[hg,if_neg hF]
 ·have hc:c=cm:=hc;rw[hc];exact hcm
theorem Hg(hK:QZ K T)(B:Qk st0 X0 st M Os)(hj:Os[j]? =some (Wd cm key L))(Tk:VH P t key z)(hm:Jb G K m=some (.mp cm))(hk:Jb G K k=some (key a))(hx:Jb G K x=some v)(hv:Qu v=true)(hn:Yn L a=none)
  (hr: ∀st',Qk st0 X0 st' M (Os.set j (Wd cm key (L++[(a,v)])))→WR P G N ops rest R T st'):WR P G N ops (⟨none,.mapUpdate t m k x,ty,pos,af,none⟩::rest) R T st:=by
 obtain⟨es,n,hc,he⟩:=B.at_ hj;exact Sb hK (SE Tk hc he hm hk hx hv hn) (hr _ (B.BB hj hc he a v))
theorem yM(ho:ops[i]? =some ⟨none,.mapUpdate t m k x,ty,pos,af,none⟩)(hK:QZ K T)(B:Qk st0 X0 st M Os)(hj:Os[j]? =some (Wd cm key L))(Tk:VH P t key z)(hm:Jb G K m=some (.mp cm))(hk:Jb G K k=some (key a))(hx:Jb G K x=some v)(hv:Qu v=true)(hn:Yn L a=none)
  (hr: ∀st',Qk st0 X0 st' M (Os.set j (Wd cm key (L++[(a,v)])))→WD P G N ops (r.map (Yo ops)) R T st' (st'::sn)):WD P G N ops (((i,0)::r).map (Yo ops)) R T st sn:=by
 obtain⟨es,n,hc,he⟩:=B.at_ hj;rw[YC ho];exact X1 rfl (SE Tk hc he hm hk hx hv hn T hK _ _ _ _ _) rfl (fun e he=>by cases he) (hr _ (B.BB hj hc he a v))
theorem jr:U4 P G K (.makeMap t none) st (.mp st.n) ⟨st.n+1,st.h.set st.n (.map [] 0)⟩:=.of fun T hT c d ty pos af g=>by
 show W9 st=_;unfold W9;rw[W5]
theorem Qk.wb(B:Qk st0 X0 st M Os)(key:α→AV):Qk st0 X0 ⟨st.n+1,st.h.set st.n (.map [] 0)⟩ M (Wd st.n key []::Os):=by
 have hg: ∀c,(st.h.set st.n (.map [] 0)).get c=if c=st.n then some (.map [] 0)else st.h.get c:=fun c=>Tr.VN _ _ _ _
 refine B.new ⟨fun c hc=>?_,Nat.le_succ _,fun c hc=>?_⟩ ⟨[],0,(hg st.n).trans (if_pos rfl),rfl⟩ fun c hc=>?_
 ·have hc:st.n+1≤c:=hc;show(st.h.set st.n _).get c=none;rw[hg,if_neg Qe];exact B.fresh c Qe
 ·show(st.h.set st.n _).get c=_;rw[hg,if_neg Qe]
 ·have hc:c=st.n:=hc;subst hc;exact⟨Nat.le_refl _,Nat.lt_succ_self _⟩
theorem Wq{d:Nat}(key:α→AV)(hK:QZ K T)(B:Qk st0 X0 st M Os)(hN:Nat.ble (d+1) N=true)(hr: ∀(c:Nat) T' st',QZ ((d,.mp c)::K) T'→Qk st0 X0 st' M (Wd c key []::Os)→WR P G N ops rest R T' st'):WR P G N ops (⟨some d,.makeMap t none,ty,pos,af,none⟩::rest) R T st:=
 Es hK jr (Nat.le_of_ble_eq_true hN) fun T' hT'=>hr _ T' _ hT' (B.wb key)
end
end
theorem yU:Tryz.prog.underlying 141=some (.map 3 3):=by kernel_rfl
theorem yS:Tryz.prog.underlying 172=some (.map 177 3):=by kernel_rfl
abbrev Kz(x:Int):AV:=.int .i64 x
theorem H8:VH Tryz.prog 141 Kz (.int .i64 0):=⟨3,3,.int .i64,yU,Yh,by kernel_rfl,fun a=>rfl,fun a i=>rfl,fun a b v n es i=>by
 have e:Yx Tryz.prog 3 (.int .i64) (Kz a) ((Kz b,v,n)::es) i=Qo (FJ a b) (some (some (i,v))) (Yx Tryz.prog 3 (.int .i64) (Kz a) es (i+1)):=by
  refine(V5 (.int .i64) (Kz a) (Kz b,v,n) es i).trans ?_;show ob (QN (OI .i64 .i64) (some (FJ a b))) _=_;rw[WC,QO,Ql];rfl
 rw[e,Yu]
 exact⟨fun h=>by rw[decide_eq_true h];rfl,fun h=>by rw[decide_eq_false h];rfl⟩⟩
abbrev IZ(x:Int×Int):AV:=.agg [.int .i64 x.1,.int .i64 x.2]
theorem jY:VH Tryz.prog 172 IZ (.int .i64 0):=⟨177,3,.array 2 3,yS,A8,by kernel_rfl,fun a=>by
 obtain⟨a1,a2⟩:=a;show wW (Yz Tryz.prog 177 [.int .i64 a1,.int .i64 a2] [.int .i64 a1,.int .i64 a2])=true
 rw[G2,Yu,Yu,decide_eq_true rfl,decide_eq_true rfl];rfl,fun a i=>rfl,fun a b v n es i=>by
 have e:Yx Tryz.prog 177 (.array 2 3) (IZ a) ((IZ b,v,n)::es) i=ob (Pq Tryz.prog 177 (IZ a) (IZ b)) fun q=>Qo q (some (some (i,v))) (Yx Tryz.prog 177 (.array 2 3) (IZ a) es (i+1)):=by
  exact Ei _ _ _ _ _ _ _
 have e2:Pq Tryz.prog 177 (IZ a) (IZ b)=some (decide (a=b)):=by
  obtain⟨a1,a2⟩:=a;obtain⟨b1,b2⟩:=b;show WE (Yz Tryz.prog 177 [.int .i64 a1,.int .i64 a2] [.int .i64 b1,.int .i64 b2]) [.int .i64 a1,.int .i64 a2] [.int .i64 b1,.int .i64 b2]=_;rw[G2,Yu,Yu]
  by_cases h1:a1=b1<;>by_cases h2:a2=b2<;>simp[h1,h2,Q7,Qx,WE,OL,NT,WC,Yu,QO]
 rw[e,e2,Ql]
 exact⟨fun h=>by rw[decide_eq_true h];rfl,fun h=>by rw[decide_eq_false h];rfl⟩⟩
end Go.Proofs.YtiknomepbklibaaGreatDoor
end
section
namespace Go.Proofs.YtiknomepbklibaaGreatDoor
variable {T h i l t:Nat}

inductive Bn where
 |leaf (v:Int)
 |fork (t l h:Nat)
abbrev UG:=List Bn
def P5(S:UG):Nat→Nat→Nat→Int
 |0,_,_=> -1
 |k+1,i,c=>match S[i]? with
  |some (.leaf v)=>v
  |some (.fork t l h)=>P5 S k (if c.testBit t then h else l) c
  |none=> -1
def Y8(S:UG)(i c:Nat):Int:=P5 S (i+1) i c
def lvl(T:Nat)(S:UG)(i:Nat):Nat:=match S[i]? with
 |some (.fork t _ _)=>t
 |_=>T
structure Xq(T:Nat)(S:UG):Prop where
 nodup:S.Nodup
 fork: ∀(i t l h:Nat),S[i]? =some (.fork t l h)→t<lvl T S l∧t<lvl T S h∧l<i∧h<i∧l≠h∧t<T
 leaf: ∀(i:Nat) (v:Int),S[i]? =some (.leaf v)→0≤v∧v≤1099511627776
theorem Xq.nil(T:Nat):Xq T []:=⟨List.nodup_nil,fun i t l h e=>by simp at e,fun i v e=>by simp at e⟩
theorem DI{S:UG}(W:Xq T S)(c:Nat): ∀i k k',i<k→i<k'→P5 S k i c=P5 S k' i c:=by
 intro i
 induction i using Nat.strongRecOn with
 |_ i ih=>
  intro k k' h1 h2;obtain⟨k,rfl⟩: ∃x,k=x+1:=⟨k-1,by omega⟩;obtain⟨k',rfl⟩: ∃x,k'=x+1:=⟨k'-1,by omega⟩;unfold P5
  cases hs:S[i]? with
  |none=>rfl
  |some n=>
   cases n with
   |leaf v=>rfl
   |fork t l h=>
    obtain⟨_,_,e1,e2,_⟩:=W.fork _ _ _ _ hs;show P5 S k (if c.testBit t then h else l) c=P5 S k' (if c.testBit t then h else l) c
    split
    ·exact ih h e2 _ _ Qe Qe
    ·exact ih l e1 _ _ Qe Qe
theorem VP{S:UG}{v:Int}(h:S[i]? =some (.leaf v))(c:Nat):Y8 S i c=v:=by
 unfold Y8 P5;rw[h]
theorem VQ{S:UG}(W:Xq T S)(e:S[i]? =some (.fork t l h))(c:Nat):Y8 S i c=if c.testBit t then Y8 S h c else Y8 S l c:=by
 obtain⟨_,_,e1,e2,_⟩:=W.fork _ _ _ _ e;unfold Y8;rw[P5,e];show P5 S i (if c.testBit t then h else l) c=_
 split
 ·exact DI W c _ _ _ Qe Qe
 ·exact DI W c _ _ _ Qe Qe
theorem H4{S:UG}(X:UG)(hi:i<S.length):lvl T (S++X) i=lvl T S i:=by
 unfold lvl;rw[List.getElem?_append_left hi]
theorem wm{S:UG}(W:Xq T S)(X:UG)(hi:i<S.length)(c:Nat):Y8 (S++X) i c=Y8 S i c:=by
 have key: ∀k i,i<S.length→P5 (S++X) k i c=P5 S k i c:=by
  intro k
  induction k with
  |zero=>intro i _;rfl
  |succ k ih=>
   intro i hi;unfold P5;rw[List.getElem?_append_left hi]
   cases hs:S[i]? with
   |none=>rfl
   |some n=>
    cases n with
    |leaf v=>rfl
    |fork t l h=>
     obtain⟨_,_,e1,e2,_⟩:=W.fork _ _ _ _ hs;show P5 (S++X) k (if c.testBit t then h else l) c=P5 S k (if c.testBit t then h else l) c
     exact ih _ (by split<;>omega)
 exact key _ _ hi
theorem Zr{S S':UG}(W:Xq T S)(h:S<+:S')(hi:i<S.length)(c:Nat):Y8 S' i c=Y8 S i c:=by
 obtain⟨X,rfl⟩:=h;exact wm W X hi c
theorem Vg{S S':UG}(h:S<+:S')(hi:i<S.length):lvl T S' i=lvl T S i:=by
 obtain⟨X,rfl⟩:=h;exact H4 X hi
theorem BE{S:UG}(W:Xq T S)(i:Nat):lvl T S i≤T:=by
 unfold lvl
 split
 ·rename_i t l h e;have:=W.fork _ _ _ _ e;omega
 ·exact Nat.le_refl _
theorem N6{S:UG}(W:Xq T S){c c':Nat}: ∀i,(∀t,lvl T S i≤t→t<T→c.testBit t=c'.testBit t)→Y8 S i c=Y8 S i c':=by
 intro i
 induction i using Nat.strongRecOn with
 |_ i ih=>
  intro hc
  cases hs:S[i]? with
  |none=>unfold Y8 P5;rw[hs]
  |some n=>
   cases n with
   |leaf v=>rw[VP hs,VP hs]
   |fork t l h=>
    obtain⟨e1,e2,e3,e4,_,e6⟩:=W.fork _ _ _ _ hs
    have hl:lvl T S i=t:=by unfold lvl;rw[hs]
    rw[VQ W hs,VQ W hs,hc t Qe e6]
    split
    ·exact ih h e4 fun s h1 h2=>hc s Qe h2
    ·exact ih l e3 fun s h1 h2=>hc s Qe h2
theorem R4{S:UG}(W:Xq T S)(i c:Nat):Y8 S i (c % 2^T)=Y8 S i c:=
 N6 W i fun t _ ht=>by rw[Nat.testBit_mod_two_pow,decide_eq_true ht,Bool.true_and]
def wX(t c:Nat):Nat:=if c.testBit t then c^^^2^t else c
def wT(t c:Nat):Nat:=if c.testBit t then c else c^^^2^t
theorem wB(t c:Nat):(wX t c).testBit t=false:=by
 unfold wX
 split
 ·rename_i h;rw[Nat.testBit_xor,h,Nat.testBit_two_pow_self];rfl
 ·rename_i h;simpa using h
theorem vo(t c:Nat):(wT t c).testBit t=true:=by
 unfold wT
 split
 ·assumption
 ·rename_i h;rw[Nat.testBit_xor,Nat.testBit_two_pow_self];simp[h]
theorem wA{s:Nat}(h:s≠t)(c:Nat):(wX t c).testBit s=c.testBit s:=by
 unfold wX
 split
 ·rw[Nat.testBit_xor,Nat.testBit_two_pow_of_ne (Ne.symm h)];simp
 ·rfl
theorem vk{s:Nat}(h:s≠t)(c:Nat):(wT t c).testBit s=c.testBit s:=by
 unfold wT
 split
 ·rfl
 ·rw[Nat.testBit_xor,Nat.testBit_two_pow_of_ne (Ne.symm h)];simp
theorem uC{S:UG}(W:Xq T S)(h:t<lvl T S i)(c:Nat):Y8 S i (wX t c)=Y8 S i c:=N6 W i fun s h1 _=>wA Qe c
theorem uB{S:UG}(W:Xq T S)(h:t<lvl T S i)(c:Nat):Y8 S i (wT t c)=Y8 S i c:=N6 W i fun s h1 _=>vk Qe c
theorem HE{S:UG}(W:Xq T S)(e:S[i]? =some (.fork t l h))(c:Nat):Y8 S i (wX t c)=Y8 S l c:=by
 obtain⟨e1,e2,_⟩:=W.fork _ _ _ _ e;rw[VQ W e,wB,if_neg QE,uC W e1]
theorem AI{S:UG}(W:Xq T S)(e:S[i]? =some (.fork t l h))(c:Nat):Y8 S i (wT t c)=Y8 S h c:=by
 obtain⟨e1,e2,_⟩:=W.fork _ _ _ _ e;rw[VQ W e,vo,if_pos rfl,uB W e2]
theorem uE{S:UG}(W:Xq T S): ∀n i j,i+j≤n→i<S.length→j<S.length→(∀c,Y8 S i c=Y8 S j c)→i=j:=by
 intro n
 induction n with
 |zero=>intro i j h _ _ _;omega
 |succ n ih=>
  intro i j hn hi hj hc;obtain⟨x,hx⟩: ∃x,S[i]? =some x:=⟨_,List.getElem?_eq_getElem hi⟩;obtain⟨y,hy⟩: ∃y,S[j]? =some y:=⟨_,List.getElem?_eq_getElem hj⟩;have same:x=y→i=j:=fun e=>(List.getElem?_inj hi W.nodup).1 (by rw[hx,hy,e])

  have off: ∀i j t l h,i+j≤n+1→i<S.length→j<S.length→S[i]? =some (.fork t l h)→t<lvl T S j→(∀c,Y8 S i c=Y8 S j c)→False:=by
   intro i j t l h hn hi hj e ht hc;obtain⟨e1,e2,e3,e4,e5,_⟩:=W.fork _ _ _ _ e
   have h1:l=j:=ih l j Qe Qe hj fun c=>by rw[←HE W e,hc,uC W ht]
   have h2:h=j:=ih h j Qe Qe hj fun c=>by rw[←AI W e,hc,uB W ht]
   exact e5 (h1.trans h2.symm)
  have lv: ∀{i t l h},S[i]? =some (.fork t l h)→lvl T S i=t:=fun e=>by unfold lvl;rw[e]
  have lf: ∀{i v},S[i]? =some (.leaf v)→lvl T S i=T:=fun e=>by unfold lvl;rw[e]
  cases x with
  |leaf v=>
   cases y with
   |leaf w=>exact same (by rw[←VP hx 0,hc,VP hy])
   |fork t l h=>exact(off j i t l h Qe hj hi hy (by rw[lf hx];exact(W.fork _ _ _ _ hy).2.2.2.2.2) fun c=>(hc c).symm).elim
  |fork t l h=>
   cases y with
   |leaf w=>exact(off i j t l h hn hi hj hx (by rw[lf hy];exact(W.fork _ _ _ _ hx).2.2.2.2.2) hc).elim
   |fork t' l' h'=>
    rcases Nat.lt_trichotomy t t' with ht|ht|ht
    ·exact(off i j t l h hn hi hj hx (by rw[lv hy];exact ht) hc).elim
    ·subst ht;obtain⟨_,_,a3,a4,_⟩:=W.fork _ _ _ _ hx;obtain⟨_,_,b3,b4,_⟩:=W.fork _ _ _ _ hy
     have h1:l=l':=ih l l' Qe Qe Qe fun c=>by rw[←HE W hx,hc,HE W hy]
     have h2:h=h':=ih h h' Qe Qe Qe fun c=>by rw[←AI W hx,hc,AI W hy]
     exact same (by rw[h1,h2])
    ·exact(off j i t' l' h' Qe hj hi hy (by rw[lv hx];exact ht) fun c=>(hc c).symm).elim
theorem wk{S:UG}(W:Xq T S){j:Nat}(hi:i<S.length)(hj:j<S.length)(hc: ∀c,c<2^T→Y8 S i c=Y8 S j c):i=j:=
 uE W _ i j (Nat.le_refl _) hi hj fun c=>by rw[←R4 W,←R4 W j,hc _ (Nat.mod_lt _ (Nat.two_pow_pos T))]
def Cp(S:UG)(n:Bn)(i:Nat)(S':UG):Prop:=(S[i]? =some n∧S'=S)∨(n∉S∧i=S.length∧S'=S++[n])
theorem Cp.pre{S S':UG}{n:Bn}(h:Cp S n i S'):S<+:S'∧S'[i]? =some n∧S'.length≤S.length+1:=by
 rcases h with⟨h,rfl⟩|⟨_,rfl,rfl⟩
 ·exact⟨List.prefix_refl _,h,Nat.le_succ _⟩
 ·exact⟨List.prefix_append _ _,by simp,by simp⟩
theorem Cp.wf{S S':UG}{n:Bn}(h:Cp S n i S')(W:Xq T S)(hl: ∀v,n=.leaf v→0≤v∧v≤1099511627776)(hf: ∀t l h,n=.fork t l h→t<lvl T S l∧t<lvl T S h∧l<S.length∧h<S.length∧l≠h∧t<T):Xq T S':=by
 rcases h with⟨_,rfl⟩|⟨h0,rfl,rfl⟩
 ·exact W
 ·refine⟨List.nodup_append.2 ⟨W.nodup,by simp,fun a ha b hb e=>?_⟩,fun i t l h e=>?_,fun i v e=>?_⟩
  ·rw[List.mem_singleton]at hb;subst hb e;exact h0 ha
  ·by_cases hi:i<S.length
   ·rw[List.getElem?_append_left hi]at e;obtain⟨e1,e2,e3,e4,e5,e6⟩:=W.fork _ _ _ _ e;rw[H4 _ Qe,H4 _ Qe];exact⟨e1,e2,e3,e4,e5,e6⟩
   ·have hlt:=(List.getElem?_eq_some_iff.1 e).1;rw[List.length_append,List.length_singleton]at hlt
    have hi:i=S.length:=by omega
    subst hi;rw[List.getElem?_append_right (Nat.le_refl _),Nat.sub_self]at e
    injection e with e
    obtain⟨e1,e2,e3,e4,e5,e6⟩:=hf _ _ _ e;rw[H4 _ e3,H4 _ e4];exact⟨e1,e2,e3,e4,e5,e6⟩
  ·by_cases hi:i<S.length
   ·rw[List.getElem?_append_left hi]at e;exact W.leaf _ _ e
   ·have hlt:=(List.getElem?_eq_some_iff.1 e).1;rw[List.length_append,List.length_singleton]at hlt
    have hi:i=S.length:=by omega
    subst hi;rw[List.getElem?_append_right (Nat.le_refl _),Nat.sub_self]at e
    injection e with e
    exact hl _ e
structure VT(T:Nat)(S:UG)(k:Nat)(S':UG)(i:Nat):Prop where
 wf:Xq T S'
 pre:S<+:S'
 lt:i<S'.length
 len:S'.length≤S.length+k
theorem zU{S S':UG}{v:Int}(h:Cp S (.leaf v) i S')(W:Xq T S)(hv:0≤v∧v≤1099511627776):VT T S 1 S' i∧lvl T S' i=T∧ ∀c,Y8 S' i c=v:=by
 obtain⟨h1,h2,h3⟩:=h.pre;refine⟨⟨h.wf W (fun w e=>by injection e with e;subst e;exact hv) (fun _ _ _ e=>by cases e),h1,(List.getElem?_eq_some_iff.1 h2).1,h3⟩,?_,fun c=>VP h2 c⟩;unfold lvl;rw[h2]
def aW(S:UG)(t l h i:Nat)(S':UG):Prop:=(l=h∧i=l∧S'=S)∨(l≠h∧Cp S (.fork t l h) i S')
theorem xL{S S':UG}(H:aW S t l h i S')(W:Xq T S)(ht:t<T)(hl:l<S.length)(hh:h<S.length)(h1:t<lvl T S l)(h2:t<lvl T S h):
  VT T S 1 S' i∧t≤lvl T S' i∧ ∀c,Y8 S' i c=if c.testBit t then Y8 S h c else Y8 S l c:=by
 rcases H with⟨rfl,rfl,rfl⟩|⟨hne,H⟩
 ·exact⟨⟨W,List.prefix_refl _,hl,Nat.le_succ _⟩,by omega,fun c=>by split<;>rfl⟩
 ·obtain⟨k1,k2,k3⟩:=H.pre;have W':=H.wf W (fun _ e=>by cases e) (fun _ _ _ e=>by injection e with e1 e2 e3;subst e1 e2 e3;exact⟨h1,h2,hl,hh,hne,ht⟩);refine⟨⟨W',k1,(List.getElem?_eq_some_iff.1 k2).1,k3⟩,?_,fun c=>?_⟩
  ·unfold lvl;rw[k2];exact Nat.le_refl _
  ·rw[VQ W' k2,Zr W k1 hl,Zr W k1 hh]
def WU(T:Nat)(S:UG)(i:Nat):List Int:=(List.range (2^T)).map fun c=>Y8 S i c
theorem LH(T:Nat)(S:UG)(i:Nat):(WU T S i).length=2^T:=by simp[WU]
theorem CT{c:Nat}(S:UG)(i:Nat)(h:c<2^T):(WU T S i)[c]? =some (Y8 S i c):=by
 unfold WU;rw[List.getElem?_map,List.getElem?_range h];rfl
theorem zk{S:UG}{row:List Int}(hl:row.length=2^T)(h: ∀c,c<2^T→row[c]? =some (Y8 S i c)):WU T S i=row:=by
 apply List.ext_getElem?;intro c
 by_cases hc:c<2^T
 ·rw[CT S i hc,h c hc]
 ·rw[List.getElem?_eq_none (by rw[LH];omega),List.getElem?_eq_none Qe]
end Go.Proofs.YtiknomepbklibaaGreatDoor
end
section
namespace Go.Proofs.YtiknomepbklibaaGreatDoor
open Go Go.RowKit

def E9:Bn→AV
 |.leaf v=>.ifc 193 (.agg [.int .i64 v])
 |.fork t l h=>.ifc 195 (.agg [.int .i64 (t:Nat),.int .i64 (l:Nat),.int .i64 (h:Nat)])
theorem Pj(n:Bn):Qu (E9 n)=true:=by cases n<;>rfl
theorem B6(u:AV):Nd Tryz.prog 193 u=some (.ifc 193 u):=by kernel_rfl
theorem B7(u:AV):Nd Tryz.prog 195 u=some (.ifc 195 u):=by kernel_rfl
theorem yq(u:AV):Km Tryz.prog (.ifc 195 u) 195 true=some (.tup [u,.bool true]):=by kernel_rfl
theorem yp(u:AV):Km Tryz.prog (.ifc 193 u) 195 true=some (.tup [.agg [.int .i64 0,.int .i64 0,.int .i64 0],.bool false]):=by kernel_rfl
theorem zP:EP Tryz.prog 193 "sibyl/bdd.at" =some 211:=by kernel_rfl
theorem zQ:EP Tryz.prog 195 "sibyl/bdd.at" =some 212:=by kernel_rfl
theorem N9(a b:Int):Yz Tryz.prog 193 [.int .i64 a] [.int .i64 b]=Qo (FJ a b) (some true) (some false):=by kernel_rfl
theorem NA(a b c x y z:Int):Yz Tryz.prog 195 [.int .i64 a,.int .i64 b,.int .i64 c] [.int .i64 x,.int .i64 y,.int .i64 z]=Qo (FJ a x) (Qo (FJ b y) (Qo (FJ c z) (some true) (some false)) (some false)) (some false):=by kernel_rfl
theorem Rz(l:List AV):Ke Tryz.prog (.ifc 193 (.agg l))=wW (Yz Tryz.prog 193 l l):=by kernel_rfl
theorem R1(l:List AV):Ke Tryz.prog (.ifc 195 (.agg l))=wW (Yz Tryz.prog 195 l l):=by kernel_rfl
theorem uk(a b:List AV):Fs Tryz.prog (.ifc 193 (.agg a)) (.ifc 193 (.agg b))=WE (Yz Tryz.prog 193 a b) a b:=by kernel_rfl
theorem uq(a b:List AV):Fs Tryz.prog (.ifc 195 (.agg a)) (.ifc 195 (.agg b))=WE (Yz Tryz.prog 195 a b) a b:=by kernel_rfl
theorem um(a b:List AV):Fs Tryz.prog (.ifc 193 (.agg a)) (.ifc 195 (.agg b))=some false:=by kernel_rfl
theorem uo(a b:List AV):Fs Tryz.prog (.ifc 195 (.agg a)) (.ifc 193 (.agg b))=some false:=by kernel_rfl
theorem qv: ∃ms,Tryz.prog.underlying 132=some (.interface ms):=⟨_,Tryz.underlying132⟩
theorem yV:Tryz.prog.underlying 123=some (.map 132 3):=by kernel_rfl
theorem jZ:VH Tryz.prog 123 E9 (.int .i64 0):=by
 obtain⟨ms,hu⟩:=qv
 have eb: ∀(a:Int),FJ a a=true:=fun a=>by rw[Yu];exact decide_eq_true rfl
 refine⟨132,3,.interface ms,yV,hu,by kernel_rfl,fun a=>?_,fun a i=>rfl,fun a b v n es i=>?_⟩
 ·cases a with
  |leaf v=>
   show Ke Tryz.prog (.ifc 193 (.agg [.int .i64 v]))=true;rw[Rz,N9,eb];rfl
  |fork t l h=>
   show Ke Tryz.prog (.ifc 195 (.agg [.int .i64 (t:Nat),.int .i64 (l:Nat),.int .i64 (h:Nat)]))=true;rw[R1,NA,eb,eb,eb];rfl
 ·have e:Yx Tryz.prog 132 (.interface ms) (E9 a) ((E9 b,v,n)::es) i=ob (Fs Tryz.prog (E9 a) (E9 b)) fun q=>Qo q (some (some (i,v))) (Yx Tryz.prog 132 (.interface ms) (E9 a) es (i+1)):=by
   exact Ei _ _ _ _ _ _ _
  have e2:(a=b→Fs Tryz.prog (E9 a) (E9 b)=some true)∧(a≠b→Fs Tryz.prog (E9 a) (E9 b)=some false):=by
   cases a with
   |leaf x=>
    cases b with
    |leaf y=>
     rw[E9,E9,uk,N9,Yu]
     by_cases h:x=y
     ·subst h;exact⟨fun _=>by simp[Q7,WE,OL,NT,WC,eb,QO],fun h=>absurd rfl h⟩
     ·exact⟨fun e=>by injection e with e;exact absurd e h,fun _=>by simp[h,Qx,WE]⟩
    |fork t l h'=>rw[E9,E9,um];exact⟨fun e=>(by cases e),fun _=>rfl⟩
   |fork t l h'=>
    cases b with
    |leaf y=>rw[E9,E9,uo];exact⟨fun e=>(by cases e),fun _=>rfl⟩
    |fork t2 l2 h2=>
     rw[E9,E9,uq,NA,Yu,Yu,Yu]
     by_cases h1:t=t2
     ·by_cases h3:l=l2
      ·by_cases h4:h'=h2
       ·subst h1 h3 h4;exact⟨fun _=>by simp[Q7,WE,OL,NT,WC,eb,QO],fun h=>absurd rfl h⟩
       ·exact⟨fun e=>by injection e with _ _ e;exact absurd e h4,fun _=>by simp[h1,h3,show¬((h':Int)=(h2:Int)) by omega,Q7,Qx,WE]⟩
      ·exact⟨fun e=>by injection e with _ e;exact absurd e h3,fun _=>by simp[h1,show¬((l:Int)=(l2:Int)) by omega,Q7,Qx,WE]⟩
     ·exact⟨fun e=>by injection e with e;exact absurd e h1,fun _=>by simp[show¬((t:Int)=(t2:Int)) by omega,Qx,WE]⟩
  rw[e];refine⟨fun h=>?_,fun h=>?_⟩
  ·rw[e2.1 h];rfl
  ·rw[e2.2 h];rfl
def V6:Nat→UG→List (Bn×AV)
 |_,[]=>[]
 |j,n::S=>(n,.int .i64 (j:Nat))::V6 (j+1) S
theorem G3: ∀(j:Nat) (S:UG) (n:Bn),V6 j (S++[n])=V6 j S++[(n,.int .i64 (j+S.length:Nat))]
 |j,[],n=>by simp[V6]
 |j,x::S,n=>by
  rw[List.cons_append,V6,V6,G3 (j+1) S n,List.cons_append,List.length_cons,show j+1+S.length=j+(S.length+1) by omega]
theorem DN: ∀{j:Nat} {S:UG} {n:Bn} {v:AV},(n,v)∈V6 j S→ ∃i:Nat,S[i]? =some n∧v=.int .i64 (j+i:Nat)
 |j,[],n,v,h=>by cases h
 |j,x::S,n,v,h=>by
  rcases List.mem_cons.1 h with e|h
  ·injection e with e1 e2
   subst e1 e2;exact⟨0,rfl,rfl⟩
  ·obtain⟨i,h1,h2⟩:=DN h;exact⟨i+1,h1,by rw[h2];congr 2;omega⟩
theorem Dr: ∀{j:Nat} {S:UG} {n:Bn},n∈S→ ∃v,(n,v)∈V6 j S
 |j,[],n,h=>by cases h
 |j,x::S,n,h=>by
  rcases List.mem_cons.1 h with rfl|h
  ·exact⟨_,List.mem_cons_self ..⟩
  ·obtain⟨v,hv⟩:=Dr (j:=j+1) h;exact⟨v,List.mem_cons_of_mem _ hv⟩
theorem zT{S:UG}{n:Bn}(h:Yn (V6 0 S) n=none):n∉S:=fun hm=>by
 obtain⟨v,hv⟩:=Dr (j:=0) hm;exact Nn h v hv
theorem zS{S:UG}{n:Bn}{v:AV}(h:Yn (V6 0 S) n=some v): ∃i:Nat,S[i]? =some n∧v=.int .i64 (i:Nat):=by
 obtain⟨i,h1,h2⟩:=DN (Le h);exact⟨i,h1,by rw[h2,Nat.zero_add]⟩
def Xn(R:QP):Ob:=⟨fun c=> ∃m l,(c,m,l)∈R,fun h=> ∀c m l,(c,m,l)∈R→Q4 h c m l,fun h h' e H c m l hm=>(H c m l hm).frame (e c ⟨m,l,hm⟩)⟩
def Az(h:Hp)(F:Fp)(sp T:Nat)(S:UG):Prop:=
 ∃ks cm A,Q4 h sp 0 [.int .i64 (T:Nat),ks,.mp cm]∧F sp∧F cm∧sp≠cm∧(Wd cm E9 (V6 0 S)).H h∧YS A ks (S.map E9)∧ ∀c m l,(c,m,l)∈A→Q4 h c m l∧F c∧c≠sp∧c≠cm
theorem Az.frame{h h':Hp}{F:Fp}{sp T:Nat}{S:UG}(e: ∀c,F c→h' c=h c)(H:Az h F sp T S):Az h' F sp T S:=by
 obtain⟨ks,cm,A,h1,h2,h3,h4,h5,h6,h7⟩:=H;exact⟨ks,cm,A,h1.frame (e sp h2),h2,h3,h4,(Wd cm E9 (V6 0 S)).fr _ _ (fun c hc=>by have hc:c=cm:=hc;rw[hc];exact e cm h3) h5,h6,fun c m l hm=>⟨(h7 c m l hm).1.frame (e c (h7 c m l hm).2.1),(h7 c m l hm).2⟩⟩
def XA(F:Fp)(sp T:Nat)(S:UG):Ob:=⟨F,fun h=>Az h F sp T S,fun _ _ e H=>H.frame e⟩
theorem Az.rd{h:Hp}{F:Fp}{sp T:Nat}{S:UG}(H:Az h F sp T S): ∃ks cm,Q4 h sp 0 [.int .i64 (T:Nat),ks,.mp cm]∧Jk h [] 1 (S.map fun n=>[E9 n]) ks∧YB ks=some S.length∧S.length≤1000000000:=by
 obtain⟨ks,cm,A,h1,h2,h3,h4,h5,h6,h7⟩:=H;have hr:=h6.rd fun c m l hm=>(h7 c m l hm).1;have hl:=h6.len;rw[List.length_map]at hl;rw[List.map_map]at hr;refine⟨ks,cm,h1,hr,hl,?_⟩;generalize hv:S.map E9=vs at h6;have hl2:=congrArg List.length hv;rw[List.length_map]at hl2
 cases h6 with
 |none=>rw[hl2];simp
 |own hb=>rw[hl2];exact hb
section
variable {st0 st:St} {X0:Fp} {M:QP} {Os:List Ob} {F:Fp} {sp T cm:Nat} {S:UG} {ks:AV} {A:QP}
theorem Qk.eB(B:Qk st0 X0 st M (XA F sp T S::Os)): ∃ks cm A,Qk st0 X0 st (((sp,0,[.int .i64 (T:Nat),ks,.mp cm])::A)++M) (Wd cm E9 (V6 0 S)::Os)∧YS A ks (S.map E9):=by
 obtain⟨ks,cm,A,h1,h2,h3,h4,h5,h6,h7⟩:=B.at_ (k:=0) rfl;refine⟨ks,cm,A,B.vh (fun c m l hm=>?_) ?_ h5 (fun c hc=>by have hc:c=cm:=hc;rw[hc];exact h3) fun c m l hm hc=>?_,h6⟩
 ·rcases List.mem_cons.1 hm with e|hm
  ·injection e with e1 e;injection e with e2 e3;subst e1 e2 e3
   exact⟨h1,h2⟩
  ·exact⟨(h7 c m l hm).1,(h7 c m l hm).2.1⟩
 ·rw[List.map_cons];refine List.nodup_cons.2 ⟨fun hm=>?_,h6.nodup⟩;obtain⟨⟨c,m,l⟩,e1,e2⟩:=List.mem_map.1 hm;exact(h7 c m l e1).2.2.1 e2
 ·have hc:c=cm:=hc;subst hc;rcases List.mem_cons.1 hm with e|hm
  ·injection e with e1 e;exact h4 e1.symm
  ·exact(h7 _ m l hm).2.2.2 rfl
theorem Qk.RG(B:Qk st0 X0 st (((sp,0,[.int .i64 (T:Nat),ks,.mp cm])::A)++M) (Wd cm E9 (V6 0 S)::Os))(hA:YS A ks (S.map E9)): ∃F,Qk st0 X0 st M (XA F sp T S::Os):=by
 have hnd:=B.nodup;rw[List.cons_append,List.map_cons]at hnd;have hn1:=(List.nodup_cons.1 hnd).1;have hdj: ∀c m l,(c,m,l)∈((sp,0,[.int .i64 (T:Nat),ks,.mp cm])::A)++M→c≠cm:=fun c m l hm e=>B.djM (Wd cm E9 (V6 0 S)) QA c m l hm e;have B1:=B.freeze (o:=Xn ((sp,0,[.int .i64 (T:Nat),ks,.mp cm])::A)) (fun c m l hm=>B.row c m l (List.mem_append_left _ hm)) (fun c hc=>hc);refine⟨fun c=>(Xn ((sp,0,[.int .i64 (T:Nat),ks,.mp cm])::A)).F c∨c=cm,B1.join (fun h1 h2=>?_) fun c hc=>hc⟩;refine⟨ks,cm,A,h1 _ _ _ QA,.inl ⟨_,_,List.mem_cons_self ..⟩,.inr rfl,fun e=>?_,h2,hA,fun c m l hm=>⟨h1 _ _ _ (List.mem_cons_of_mem _ hm),.inl ⟨m,l,List.mem_cons_of_mem _ hm⟩,fun e=>?_,fun e=>?_⟩⟩
 ·exact hdj sp _ _ (List.mem_cons_self ..) e
 ·subst e;exact hn1 (List.mem_map.2 ⟨(_,m,l),List.mem_append_left _ hm,rfl⟩)
 ·exact hdj c m l (by simp[hm]) e
end
def XU(st st':St)(F:Fp)(sp T:Nat)(S':UG):Prop:= ∃F',Az st'.h.get F' sp T S'∧WN st st' F F'∧UR F st st'
theorem Qk.LQ{st0 st:St}{F F':Fp}{M:QP}{Os:List Ob}{sp T:Nat}{S':UG}(B:Qk st0 F st M (XA F' sp T S'::Os)):XU st0 st F sp T S':=
 ⟨F',B.at_ (k:=0) rfl,fun c hc=>⟨(B.Ld (k:=0) rfl c hc).symm,B.Yw (k:=0) rfl c hc⟩,B.JO⟩
theorem Qk.VR{st0 st st':St}{X0 F:Fp}{M:QP}{Os:List Ob}{sp T:Nat}{S S':UG}(B:Qk st0 X0 st M (XA F sp T S::Os))(h:XU st st' F sp T S'): ∃F',Qk st0 X0 st' M (XA F' sp T S'::Os):=by
 obtain⟨F',h1,h2,h3⟩:=h;exact⟨F',B.call (k:=0) rfl h3 (o':=XA F' sp T S') h1 h2⟩
theorem Cp.app{S:UG}{n:Bn}(h:n∉S):Cp S n S.length (S++[n]):=.inr ⟨h,rfl,rfl⟩
theorem BA(S:UG)(n:Bn):S.map E9++[E9 n]=(S++[n]).map E9:=by simp
end Go.Proofs.YtiknomepbklibaaGreatDoor
end
section
namespace Go.Proofs.YtiknomepbklibaaGreatDoor
open Go Go.RowKit
set_option maxHeartbeats 8000000
variable {F:Fp} {S:UG} {Tn c i sp:Nat} {st:St}

structure Z0(st:St)(F:Fp)(sp T:Nat)(S:UG):Prop where
 at_:Az st.h.get F sp T S
 hi: ∀c,F c→c<st.n
theorem Z0.q{st st':St}{F:Fp}{sp T:Nat}{S:UG}(hS:Z0 st F sp T S)(q:Qt st st'):Z0 st' F sp T S:=⟨hS.at_.frame fun c hc=>q.J8 c (hS.hi c hc),fun c hc=>Nat.lt_of_lt_of_le (hS.hi c hc) q.le⟩
theorem Qk.IW{st0:St}{X0:Fp}{M:QP}{Os:List Ob}{T:Nat}(B:Qk st0 X0 st M Os){k:Nat}(hk:Os[k]? =some (XA F sp T S)):Z0 st F sp T S:=⟨B.at_ hk,B.Yw hk⟩
def Pk:Bn→Int
 |.leaf _=>0
 |.fork t _ _=>((t:Nat):Int)
def ax:Bn→Nat
 |.leaf _=>0
 |.fork _ l _=>l
def ay:Bn→Nat
 |.leaf _=>0
 |.fork _ _ h=>h
def HY:Bn→Bool
 |.leaf _=>false
 |.fork _ _ _=>true
theorem jO{T:Nat}{n:Bn}(h:S[i]? =some n):lvl T S i=if HY n then(Pk n).toNat else T:=by
 unfold lvl;rw[h];cases n<;>simp[HY,Pk]
theorem RS(n:Bn):Km Tryz.prog (E9 n) 195 true=some (.tup [.agg [.int .i64 (Pk n),.int .i64 (ax n:Nat),.int .i64 (ay n:Nat)],.bool (HY n)]):=by
 cases n with
 |leaf v=>exact yp _
 |fork t l h=>exact yq _
def aO(F:Fp)(sp Tn:Nat)(S:UG)(c j:Nat):Prop:= ∀(st:St) (n:Bn),Qj st→Z0 st F sp Tn S→S[j]? =some n→
 ∃t u fid v st',E9 n=.ifc t u∧EP Tryz.prog t "sibyl/bdd.at" =some fid∧Ev Tryz.prog Q5 fid [u,.ptr sp 0 0,.int .i64 (c:Nat)] st v st'∧v=.int .i64 (Y8 S j c)∧Qt st st'
def I0{α:Type}(p:α→Bool):List α→Nat→Int
 |[],_=> -1
 |k::l,i=>if p k then(i:Int)else I0 p l (i+1)
theorem AH{α:Type}{p:α→Bool}{l:List α}{k:α}(h:l[i]? =some k):I0 p (l.drop i) i=if p k then(i:Int)else I0 p (l.drop (i+1)) (i+1):=by
 obtain⟨h1,h2⟩:=List.getElem?_eq_some_iff.1 h;rw[List.drop_eq_getElem_cons h1,I0,h2]
theorem DB{α:Type}{p:α→Bool}{l:List α}(h:l.length≤i):I0 p (l.drop i) i= -1:=by rw[List.drop_eq_nil_of_le h];rfl
theorem DC{α:Type}(p:α→Bool): ∀(l:List α) (i:Nat),decide (0≤I0 p l i)=l.any p:=by
 intro l
 induction l with
 |nil=>intro i;rfl
 |cons k l ih=>
  intro i;rw[I0,List.any_cons]
  cases hp:p k with
  |true=>rw[if_pos rfl];simp
  |false=>rw[if_neg QE,ih];rfl

theorem Eo(hf:Qj st)(hS:Z0 st F sp Tn S): ∃v st',Ev Tryz.prog Q5 64 [.ptr sp 0 0] st v st'∧v=iN Tn∧Qt st st':=by
 obtain⟨ks,cm,hrow,hrd,hlen,hbn⟩:=hS.at_.rd;refine JI Tryz.func64 Tryz.ntmps64 fun T K=>?_;have M:=Mem.start hf;refine Qc 2 K M ?_;intro _ K;refine p1 K (Y6 ZW rfl rfl) fun _ K=>?_;refine Qc 4 K M ?_;intro _ K;refine p1 K (Qd rfl (Q0 (M.JK QA hrow.Jf) (Qf Qr rfl))) fun _ K=>?_;refine Qc 1 K M ?_;exact⟨rfl,M.qt⟩

theorem Ty(hf:Qj st)(hS:Z0 st F sp Tn S): ∃v st',Ev Tryz.prog Q5 97 [.ptr sp 0 0] st v st'∧v=iZ (S.length:Nat)∧Qt st st':=by
 obtain⟨ks,cm,hrow,hrd,hlen,hbn⟩:=hS.at_.rd;refine JI Tryz.func97 Tryz.ntmps97 fun T K=>?_;have M:=Mem.start hf;refine Qc 2 K M ?_;intro _ K;refine p1 K (Y6 ZW rfl rfl) fun _ K=>?_;refine Qc 4 K M ?_;intro _ K;refine p1 K (Qd rfl (Q0 (M.JK QA hrow.Jf) (Qf UD rfl))) fun _ K=>p1 K (Q8 X2 rfl rfl hlen) fun _ K=>?_;refine Qc 1 K M ?_;exact⟨rfl,M.qt⟩

theorem NW(hf:Qj st)(hS:Z0 st F sp Tn S)(hi:i<S.length): ∃v st',Ev Tryz.prog Q5 73 [.ptr sp 0 0,iN i] st v st'∧v=.bool true∧Qt st st':=by
 obtain⟨ks,cm,hrow,hrd,hlen,hbn⟩:=hS.at_.rd;refine JI Tryz.func73 Tryz.ntmps73 fun T K=>?_;have M:=Mem.start hf;refine Qc 3 K M ?_;intro _ K;refine Un K (Qg rfl) rfl (fun _ e7 K=>?_) fun _ e7 K=>?_
 ·exfalso;omega
 refine Qc 2 K M ?_;intro _ K;obtain⟨v10,st10,ev10,rfl,q10⟩:=Ty M.fresh (hS.q M.qt);refine pg K rfl rfl (Qh rfl ev10) fun _ K=>?_;replace M:=M.quiet q10;refine Qc 3 K M ?_;exact⟨congrArg AV.bool (decide_eq_true Qe),M.qt⟩

theorem GB(hf:Qj st)(hS:Z0 st F sp Tn S)(hi:i<S.length)(t:Nat)(ht:t<Tn): ∃v st',Ev Tryz.prog Q5 151 [.ptr sp 0 0,iN i,iN t] st v st'∧v=.bool (decide (t<lvl Tn S i))∧Qt st st':=by
 obtain⟨ks,cm,hrow,hrd,hlen,hbn⟩:=hS.at_.rd;refine JI Tryz.func151 Tryz.ntmps151 fun T K=>?_;have M:=Mem.start hf;refine Qc 3 K M ?_;intro _ K;refine oQ K M (NW M.fresh (hS.q M.qt) hi) rfl rfl fun _ _ K M=>?_;refine Qc 5 K M ?_;intro _ K;refine p1 K (Qd rfl (Q0 (M.JK QA hrow.Jf) (Qf UD rfl))) fun _ K=>?_;refine Qc 1 K M ?_;intro _ K;obtain⟨n19,hn19⟩:=U9 S i Qe;obtain⟨x19,m19,f19,q19,_,la19,lo19,lp19⟩:=(Jk.mem M hrd QA).load (i:=i) (cs:=_) (by rw[List.getElem?_map,hn19];rfl);refine p1 K (Qb (j:=i) YF (congrArg some q19) rfl (by rw[List.length_map];omega)) fun _ K=>p1 K (Qd rfl (lo19 _ 0 _ YW rfl)) fun _ K=>p1 K (LU rfl (RS n19)) fun _ K=>?_;refine au 8 K M ?_;intro c7 _ _ K _ M;refine oB K (Qg rfl) rfl fun b26 _ e26 K=>?_;cases b26
 ·replace e26:((HY n19))=true:=by simpa using e26
  refine Qc 6 K M ?_;refine⟨?_,M.qt⟩;rw[jO hn19]
  cases n19 with
  |leaf v=>first|(cases e26;done)|(rw[if_neg (show¬HY (Bn.leaf v)=true by simp[HY]),decide_eq_true ht];rfl)
  |fork t' l h=>first|(cases e26;done)|(refine congrArg AV.bool (decide_eq_decide.2 ?_);rw[if_pos (show HY (Bn.fork t' l h)=true from rfl)];simp only[Pk];omega)
 replace e26:((HY n19))=false:=by simpa using e26
 refine Qc 6 K M ?_;refine⟨?_,M.qt⟩;rw[jO hn19]
 cases n19 with
 |leaf v=>first|(cases e26;done)|(rw[if_neg (show¬HY (Bn.leaf v)=true by simp[HY]),decide_eq_true ht];rfl)
 |fork t' l h=>first|(cases e26;done)|(refine congrArg AV.bool (decide_eq_decide.2 ?_);rw[if_pos (show HY (Bn.fork t' l h)=true from rfl)];simp only[Pk];omega)

theorem qc(hf:Qj st)(hS:Z0 st F sp Tn S)(hi:i<S.length): ∃v st',Ev Tryz.prog Q5 191 [.ptr sp 0 0,iN i] st v st'∧(∃n,S[i]? =some n∧v=iZ (if HY n then Pk n else-1))∧Qt st st':=by
 obtain⟨ks,cm,hrow,hrd,hlen,hbn⟩:=hS.at_.rd;refine JI Tryz.func191 Tryz.ntmps191 fun T K=>?_;have M:=Mem.start hf;refine Qc 3 K M ?_;intro _ K;refine oQ K M (NW M.fresh (hS.q M.qt) hi) rfl rfl fun _ _ K M=>?_;refine Qc 5 K M ?_;intro _ K;refine p1 K (Qd rfl (Q0 (M.JK QA hrow.Jf) (Qf UD rfl))) fun _ K=>?_;refine Qc 1 K M ?_;intro _ K;obtain⟨n17,hn17⟩:=U9 S i Qe;obtain⟨x17,m17,f17,q17,_,la17,lo17,lp17⟩:=(Jk.mem M hrd QA).load (i:=i) (cs:=_) (by rw[List.getElem?_map,hn17];rfl);refine p1 K (Qb (j:=i) YF (congrArg some q17) rfl (by rw[List.length_map];omega)) fun _ K=>p1 K (Qd rfl (lo17 _ 0 _ YW rfl)) fun _ K=>p1 K (LU rfl (RS n17)) fun _ K=>?_;refine au 7 K M ?_;intro c5 _ _ K _ M;refine Qq (K.QJ rfl) (fun h22=>?_) (fun h22=>?_)
 ·have hb22:=h22;refine Qc 3 K M ?_;exact⟨⟨n17,hn17,by rw[if_pos h22]⟩,M.qt⟩
 have hb22:=h22;refine Qc 1 K M ?_;exact⟨⟨n17,hn17,by rw[if_neg (by rw[h22];decide)]⟩,M.qt⟩

theorem yi(hf:Qj st)(hS:Z0 st F sp Tn S)(hi:i<S.length){t l h:Nat}(hn:S[i]? =some (.fork t l h)): ∃v st',Ev Tryz.prog Q5 192 [.ptr sp 0 0,iN i] st v st'∧v=.tup [iN l,iN h]∧Qt st st':=by
 obtain⟨ks,cm,hrow,hrd,hlen,hbn⟩:=hS.at_.rd;refine JI Tryz.func192 Tryz.ntmps192 fun T K=>?_;have M:=Mem.start hf;refine Qc 4 K M ?_;intro _ K;refine oQ K M (NW M.fresh (hS.q M.qt) hi) rfl rfl fun _ _ K M=>?_;refine Qc 5 K M ?_;intro _ K;refine p1 K (Qd rfl (Q0 (M.JK QA hrow.Jf) (Qf UD rfl))) fun _ K=>?_;refine Qc 1 K M ?_;intro _ K;obtain⟨n18,hn18⟩:=U9 S i Qe;obtain⟨x18,m18,f18,q18,_,la18,lo18,lp18⟩:=(Jk.mem M hrd QA).load (i:=i) (cs:=_) (by rw[List.getElem?_map,hn18];rfl);refine p1 K (Qb (j:=i) YF (congrArg some q18) rfl (by rw[List.length_map];omega)) fun _ K=>p1 K (Qd rfl (lo18 _ 0 _ YW rfl)) fun _ K=>p1 K (LU rfl (RS n18)) fun _ K=>?_;refine au 7 K M ?_;intro c6 _ _ K _ M;refine Qq (K.QJ rfl) (fun h23=>?_) (fun h23=>?_)
 ·have hb23:=h23;refine QD ?_;refine QF (l:=[(0,0),(1,0),(2,0),(3,0),(4,0),(5,0)]) (by kernel_rfl) ?_;refine Jc 6 K M ?_;intro _ K;refine QH ?_;show W _ _ _ _ _ _ _;refine Qc 0 K M ?_
  rw[hn]at hn18;injection hn18 with hn18;subst hn18
  exact⟨rfl,M.qt⟩
 have hb23:=h23
 (rw[hn]at hn18;injection hn18 with hn18;subst hn18;cases h23)

theorem Mx(hf:Qj st)(v0:Int)(u w:AV): ∃v st',Ev Tryz.prog Q5 211 [.agg [iZ v0],u,w] st v st'∧v=iZ v0∧Qt st st':=by
 refine JI Tryz.func211 Tryz.ntmps211 fun T K=>?_;have M:=Mem.start hf;refine au 5 K M ?_;intro c3 _ _ K _ M;refine Qc 0 K M ?_;exact⟨rfl,M.qt⟩

theorem MH(hf:Qj st)(hS:Z0 st F sp Tn S)(h6:Tn≤6)(wf:Xq Tn S){t l h:Nat}(hn:S[i]? =some (.fork t l h))(hc:c≤4611686018427387904)(ih: ∀j,j<i→aO F sp Tn S c j): ∃v st',Ev Tryz.prog Q5 212 [.agg [iN t,iN l,iN h],.ptr sp 0 0,iN c] st v st'∧v=iZ (Y8 S i c)∧Qt st st':=by
 obtain⟨ks,cm,hrow,hrd,hlen,hbn⟩:=hS.at_.rd;obtain⟨w1,w2,w3,w4,w5,w6⟩:=wf.fork _ _ _ _ hn;have hil:=(List.getElem?_eq_some_iff.1 hn).1;refine JI Tryz.func212 Tryz.ntmps212 fun T K=>?_;have M:=Mem.start hf;refine au 5 K M ?_;intro c3 _ _ K _ M;refine p1 K (X3 (a:=c) (n:=t) rfl rfl Qe) fun _ K=>p1 K (X5 (a:=(c/2^t)) rfl rfl (Nat.le_trans (Nat.div_le_self _ _) Qe)) fun _ K=>?_;refine Qc 1 K M ?_;intro _ K;refine JS K rfl (fun h12=>?_) fun h12=>?_
 ·refine QD ?_;refine QF (l:=[(0,0),(1,0),(2,0),(3,0),(4,0),(5,0),(6,0),(7,0),(8,0),(9,0),(10,0),(11,0)]) (by kernel_rfl) ?_;refine Jc 3 K M ?_;intro _ K;refine q1 rfl K (Qd rfl (Q0 (M.JK QA hrow.Jf) (Qf UD rfl))) fun _ K=>?_;refine Jc 2 K M ?_;intro _ K;obtain⟨n19,hn19⟩:=U9 S h Qe;obtain⟨x19,m19,f19,q19,_,la19,lo19,lp19⟩:=(Jk.mem M hrd QA).load (i:=h) (cs:=_) (by rw[List.getElem?_map,hn19];rfl);refine q1 rfl K (Qb (j:=h) YF (congrArg some q19) rfl (by rw[List.length_map];omega)) fun _ K=>q1 rfl K (Qd rfl (lo19 _ 0 _ YW rfl)) fun _ K=>?_;refine Jc 2 K M ?_;intro _ K;obtain⟨tt23,uu23,ff23,v23,st23,ei23,em23,ev23,rfl,q23⟩:=ih h Qe _ _ M.fresh (hS.q M.qt) hn19;refine qA rfl K (Ir (show Jb _ _ _=_ from congrArg some ei23) em23 rfl ev23) fun _ K=>?_;replace M:=M.quiet q23;refine q1 rfl K (U6 rfl) fun _ K=>QH ?_;show W _ _ _ _ _ _ _;refine Qc 0 K M ?_;exact⟨by rw[VQ wf hn,if_pos ((Ts c t).1 h12)],M.qt⟩
 refine Qc 0 K M ?_;intro _ K;refine QF (l:=[(0,0),(1,0),(2,0),(3,0),(4,0),(5,0),(6,0),(7,0),(8,0),(9,0),(10,0),(11,0)]) (by kernel_rfl) ?_;refine Jc 3 K M ?_;intro _ K;refine q1 rfl K (Qd rfl (Q0 (M.JK QA hrow.Jf) (Qf UD rfl))) fun _ K=>?_;refine Jc 2 K M ?_;intro _ K;obtain⟨n30,hn30⟩:=U9 S l Qe;obtain⟨x30,m30,f30,q30,_,la30,lo30,lp30⟩:=(Jk.mem M hrd QA).load (i:=l) (cs:=_) (by rw[List.getElem?_map,hn30];rfl);refine q1 rfl K (Qb (j:=l) YF (congrArg some q30) rfl (by rw[List.length_map];omega)) fun _ K=>q1 rfl K (Qd rfl (lo30 _ 0 _ YW rfl)) fun _ K=>?_;refine Jc 2 K M ?_;intro _ K;obtain⟨tt34,uu34,ff34,v34,st34,ei34,em34,ev34,rfl,q34⟩:=ih l Qe _ _ M.fresh (hS.q M.qt) hn30;refine qA rfl K (Ir (show Jb _ _ _=_ from congrArg some ei34) em34 rfl ev34) fun _ K=>?_;replace M:=M.quiet q34;refine q1 rfl K (U6 rfl) fun _ K=>QH ?_;show W _ _ _ _ _ _ _;refine Qc 0 K M ?_;exact⟨by rw[VQ wf hn,if_neg fun hb=>h12 ((Ts c t).2 hb)],M.qt⟩

theorem wH(h6:Tn≤6)(wf:Xq Tn S)(hc:c≤4611686018427387904): ∀j,j<S.length→aO F sp Tn S c j:=by
 intro j
 induction j using Nat.strongRecOn with
 |_ j ih=>
  intro hj st n hf hS hn
  cases n with
  |leaf v=>
   obtain⟨v',st',ev,rfl,q⟩:=Mx hf v (.ptr sp 0 0) (.int .i64 (c:Nat));exact⟨_,_,_,_,st',rfl,zP,ev,by rw[VP hn],q⟩
  |fork t l h=>
   obtain⟨v',st',ev,rfl,q⟩:=MH hf hS h6 wf hn hc fun k hk=>ih k hk Qe;exact⟨_,_,_,_,st',rfl,zQ,ev,rfl,q⟩

theorem yl(hf:Qj st)(hS:Z0 st F sp Tn S)(h6:Tn≤6)(wf:Xq Tn S)(hi:i<S.length)(hc:c<2^Tn): ∃v st',Ev Tryz.prog Q5 74 [.ptr sp 0 0,iN i,iN c] st v st'∧v=iZ (Y8 S i c)∧Qt st st':=by
 obtain⟨ks,cm,hrow,hrd,hlen,hbn⟩:=hS.at_.rd;have hp:=Db (show Tn≤62 by omega);refine JI Tryz.func74 Tryz.ntmps74 fun T K=>?_;have M:=Mem.start hf;refine Qc 3 K M ?_;intro _ K;refine oQ K M (NW M.fresh (hS.q M.qt) hi) rfl rfl fun _ _ K M=>?_;refine Qc 5 K M ?_;intro _ K;refine Un K (Qg rfl) rfl (fun _ e15 K=>?_) fun _ e15 K=>?_
 ·refine Qc 2 K M ?_;intro _ K;obtain⟨v18,st18,ev18,rfl,q18⟩:=Eo M.fresh (hS.q M.qt);refine pg K rfl rfl (Qh rfl ev18) fun _ K=>?_;replace M:=M.quiet q18;refine pg K rfl rfl (Y5 (n:=Tn) rfl rfl Qe) fun _ K=>?_;refine Qc 2 K M ?_;intro _ K;refine JS K rfl (fun h21=>?_) fun h21=>?_
  ·exfalso;omega
  refine Qc 3 K M ?_;intro _ K;refine p1 K (Qd rfl (Q0 (M.JK QA hrow.Jf) (Qf UD rfl))) fun _ K=>?_;refine Qc 1 K M ?_;intro _ K;obtain⟨n27,hn27⟩:=U9 S i Qe;obtain⟨x27,m27,f27,q27,_,la27,lo27,lp27⟩:=(Jk.mem M hrd QA).load (i:=i) (cs:=_) (by rw[List.getElem?_map,hn27];rfl);refine p1 K (Qb (j:=i) YF (congrArg some q27) rfl (by rw[List.length_map];omega)) fun _ K=>p1 K (Qd rfl (lo27 _ 0 _ YW rfl)) fun _ K=>?_;refine Qc 2 K M ?_;intro _ K;obtain⟨tt31,uu31,ff31,v31,st31,ei31,em31,ev31,rfl,q31⟩:=wH (c:=c) h6 wf Qe _ hi _ _ M.fresh (hS.q M.qt) hn27;refine p1 K (Ir (show Jb _ _ _=_ from congrArg some ei31) em31 rfl ev31) fun _ K=>?_;replace M:=M.quiet q31;refine Qc 1 K M ?_;exact⟨rfl,M.qt⟩
 exfalso;omega
end Go.Proofs.YtiknomepbklibaaGreatDoor
end
