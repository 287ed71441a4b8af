/-
  Maps by keys of some kind, as things in memory.
-/
import Derived.Test.YtildagdnomiahaaGreatDoorQvTyc
set_option linter.unusedSectionVars false
set_option linter.unusedVariables false
namespace Go.Proofs.YtildagdnomiahaaGreatDoor
section
open Go Go.RowKit
set_option maxRecDepth 100000

structure Vo(P:Program)(t:TypeId){α:Type}(key:α→AV)(z:AV):Prop where
 rule: ∃kt et d,P.underlying t=some (.map kt et)∧P.underlying kt=some d∧zeroV P et=some z∧(∀a,VD P kt d (key a)=true)∧(∀a i,UH P kt d (key a) [] i=some none)∧
  ∀a b v n es i,(a=b→UH P kt d (key a) ((key b,v,n)::es) i=some (some (i,v)))∧(a≠b→UH P kt d (key a) ((key b,v,n)::es) i=UH P kt d (key a) es (i+1))
section
variable {α:Type} {key:α→AV}
def NJ(key:α→AV)(es:List (AV×AV×Nat))(L:List (α×AV)):Prop:=es.map eD=L.map fun x=>(key x.1,x.2)
open Classical in
noncomputable def U9:List (α×AV)→α→Option AV
 |[],_=>none
 |x::L,a=>if x.1=a then some x.2 else U9 L a
theorem KK: ∀{L:List (α×AV)} {a:α} {v:AV},U9 L a=some v→(a,v)∈L
 |[],a,v,h=>by cases h
 |x::L,a,v,h=>by
  rw[U9]at h
  split at h
  ·rename_i e
   injection h with h
   subst e h;simp
  ·exact List.mem_cons_of_mem _ (KK h)
theorem LN: ∀{L:List (α×AV)} {a:α},U9 L a=none→ ∀v,(a,v)∉L
 |[],a,_,v=>by simp
 |x::L,a,h,v=>by
  rw[U9]at h
  split at h
  ·cases h
  ·rename_i e;intro hm;rcases List.mem_cons.1 hm with e'|hm
   ·exact e (by rw[←e'])
   ·exact LN h v hm
theorem NJ.snoc{es:List (AV×AV×Nat)}{L:List (α×AV)}(h:NJ key es L)(a:α)(v:AV)(n:Nat):NJ key (es++[(key a,v,n)]) (L++[(a,v)]):=by
 unfold NJ at h ⊢;rw[List.map_append,List.map_append,h];rfl
theorem Vo.find{P:Program}{t:TypeId}{z:AV}{kt et:TypeId}{d:TypeDesc}(h0: ∀a i,UH P kt d (key a) [] i=some none)(h1: ∀a b v n es i,(a=b→UH P kt d (key a) ((key b,v,n)::es) i=some (some (i,v)))∧(a≠b→UH P kt d (key a) ((key b,v,n)::es) i=UH P kt d (key a) es (i+1)))(a:α): ∀(L:List (α×AV)) (es:List (AV×AV×Nat)) (i:Nat),NJ key es L→
  (U9 L a=none→UH P kt d (key a) es i=some none)∧ ∀v,U9 L a=some v→ ∃j,UH P kt d (key a) es i=some (some (j,v))
 |[],es,i,h=>by
  cases es with
  |nil=>exact⟨fun _=>h0 a i,fun v hv=>(by cases hv)⟩
  |cons e es=>cases h
 |x::L,es,i,h=>by
  cases es with
  |nil=>cases h
  |cons e es=>
   obtain⟨e1,e2,e3⟩:=e;unfold NJ at h;rw[List.map_cons,List.map_cons]at h
   injection h with h h'
   injection h with h3 h4
   have h3:e1=key x.1:=h3;have h4:e2=x.2:=h4;subst h3 h4;obtain⟨k1,k2⟩:=h1 a x.1 x.2 e3 es i;rw[U9]
   split
   ·rename_i e;exact⟨fun h=>(by cases h),fun v hv=>(by injection hv with hv;subst hv;exact⟨i,k1 e.symm⟩)⟩
   ·rename_i e;rw[k2 fun h=>e h.symm];exact Vo.find (t:=t) (z:=z) (et:=et) h0 h1 a L es (i+1) h'
def VB(cm:Nat)(key:α→AV)(L:List (α×AV)):Ob:=⟨fun c=>c=cm,fun h=> ∃es n,h cm=some (.map es n)∧NJ key es L,fun h h' e ⟨es,n,h1,h2⟩=>⟨es,n,by rw[e cm rfl];exact h1,h2⟩⟩
theorem Wd{P:Program}{G:Env}{K:List (Nat×AV)}{st:St}{t:TypeId}{z:AV}(T:Vo P t key z){cm:Nat}{L:List (α×AV)}{a:α}{m k:Operand}(hH:(VB cm key L).H st.h.get)(hm:QG G K m=some (.mp cm))(hk:QG G K k=some (key a)):
  Us P G K (.lookup t m k true) st (.tup [(U9 L a).getD z,.bool (U9 L a).isSome]) st:=.of fun T' hT c d ty pos af g=>by
 obtain⟨kt,et,d',u1,u2,u3,u4,u5,u6⟩:=T.rule;obtain⟨es,n,hc,he⟩:=hH;show(ob (QN G T' m) fun m=>ob (QN G T' k) fun k=>ret (XC P t m k true st.h.get) st)=_;rw[hT.QN hm,hT.QN hk,Qg,Qg];unfold XC;obtain⟨f1,f2⟩:=Vo.find (P:=P) (t:=t) (z:=z) (et:=et) u5 u6 a L es 0 he;simp only[u1,u2,u4,Q7,hc,Qg]
 cases hl:U9 L a with
 |none=>rw[f1 hl];simp only[Qg,u3,Option.getD_none,Option.isSome_none];rfl
 |some v=>
  obtain⟨j,f⟩:=f2 v hl;rw[f];rfl
noncomputable def E6(st:St)(cm n:Nat)(es:List (AV×AV×Nat))(k v:AV):St:=⟨st.n,st.h.set cm (.map (es++[(k,v,n)]) (n+1))⟩
theorem S6{P:Program}{G:Env}{K:List (Nat×AV)}{st:St}{t:TypeId}{z:AV}(T:Vo P t key z){cm n:Nat}{es:List (AV×AV×Nat)}{L:List (α×AV)}{a:α}{v:AV}{m k x:Operand}(hc:st.h.get cm=some (.map es n))(he:NJ key es L)(hm:QG G K m=some (.mp cm))(hk:QG G K k=some (key a))(hx:QG G K x=some v)(hv:Qw v=true)(hn:U9 L a=none):
  Us P G K (.mapUpdate t m k x) st (.tup []) (E6 st cm n es (key a) v):=.of fun T' hT c d ty pos af g=>by
 obtain⟨kt,et,d',u1,u2,u3,u4,u5,u6⟩:=T.rule;show(ob (QN G T' m) fun m=>ob (QN G T' k) fun k=>ob (QN G T' x) fun x=>YV P t m k x st)=_;rw[hT.QN hm,hT.QN hk,hT.QN hx,Qg,Qg,Qg];unfold YV E6;obtain⟨f1,f2⟩:=Vo.find (P:=P) (t:=t) (z:=z) (et:=et) u5 u6 a L es 0 he;simp only[u1,u2,u4,Q7,hc,Qg,f1 hn,hv,Bool.true_or,J1,JD,QE,Ui]
section
variable {P:Program} {G:Env} {N:Nat} {st0 st:St} {X0:Fp} {M:QP} {Os:List Ob} {T:Tr AV} {ops rest:List Oper} {K:List (Nat×AV)} {R:Tr AV→St→Prop} {t ty:TypeId} {pos:String} {af:Array Edge} {z v:AV} {cm j:Nat} {L:List (α×AV)} {a:α} {m k x:Operand} {sn:List St} {i:Nat} {r:List (Nat×Nat)}
theorem Ql.Bo(B:Ql st0 X0 st M Os)(hj:Os[j]? =some (VB cm key L)){es:List (AV×AV×Nat)}{n:Nat}(hc:st.h.get cm=some (.map es n))(he:NJ key es L)(a:α)(v:AV):Ql st0 X0 (E6 st cm n es (key a) v) M (Os.set j (VB cm key (L++[(a,v)]))):=by
 have hg: ∀c,(E6 st cm n es (key a) v).h.get c=if c=cm then some (.map (es++[(key a,v,n)]) (n+1))else st.h.get c:=fun c=>Tr.YX _ _ _ _
 have hcm:cm<st.n:=B.VM hj cm rfl;refine B.call hj ⟨fun c hc=>?_,Nat.le_refl _,fun c hc hF=>?_⟩ ⟨_,_,(hg cm).trans (if_pos rfl),he.snoc a v n⟩ fun c hc=>⟨.inl hc,?_⟩
 ·have hc:st.n≤c:=hc;rw[hg,if_neg Qd];exact B.fresh c hc
 ·have hF: ¬c=cm:=hF;rw[hg,if_neg hF]
 ·have hc:c=cm:=hc;rw[hc];exact hcm
theorem FJ(hK:QH K T)(B:Ql st0 X0 st M Os)(hj:Os[j]? =some (VB cm key L))(Tk:Vo P t key z)(hm:QG G K m=some (.mp cm))(hk:QG G K k=some (key a))(hx:QG G K x=some v)(hv:Qw v=true)(hn:U9 L a=none)
  (hr: ∀st',Ql st0 X0 st' M (Os.set j (VB cm key (L++[(a,v)])))→WR P G N ops rest R T st'):WR P G N ops (⟨none,.mapUpdate t m k x,ty,pos,af,none⟩::rest) R T st:=by
 obtain⟨es,n,hc,he⟩:=B.at_ hj;exact Sg hK (S6 Tk hc he hm hk hx hv hn) (hr _ (B.Bo hj hc he a v))
theorem zJ(ho:ops[i]? =some ⟨none,.mapUpdate t m k x,ty,pos,af,none⟩)(hK:QH K T)(B:Ql st0 X0 st M Os)(hj:Os[j]? =some (VB cm key L))(Tk:Vo P t key z)(hm:QG G K m=some (.mp cm))(hk:QG G K k=some (key a))(hx:QG G K x=some v)(hv:Qw v=true)(hn:U9 L a=none)
  (hr: ∀st',Ql st0 X0 st' M (Os.set j (VB cm key (L++[(a,v)])))→WD P G N ops (r.map (UY ops)) R T st' (st'::sn)):WD P G N ops (((i,0)::r).map (UY ops)) R T st sn:=by
 obtain⟨es,n,hc,he⟩:=B.at_ hj;rw[YI ho];exact Vr rfl (S6 Tk hc he hm hk hx hv hn T hK _ _ _ _ _) rfl (fun e he=>by cases he) (hr _ (B.Bo hj hc he a v))
theorem jM:Us P G K (.makeMap t none) st (.mp st.n) ⟨st.n+1,st.h.set st.n (.map [] 0)⟩:=.of fun T hT c d ty pos af g=>by
 show Wj st=_;unfold Wj;rw[Wf]
theorem Ql.aG(B:Ql st0 X0 st M Os)(key:α→AV):Ql st0 X0 ⟨st.n+1,st.h.set st.n (.map [] 0)⟩ M (VB st.n key []::Os):=by
 have hg: ∀c,(st.h.set st.n (.map [] 0)).get c=if c=st.n then some (.map [] 0)else st.h.get c:=fun c=>Tr.YX _ _ _ _
 refine B.new ⟨fun c hc=>?_,Nat.le_succ _,fun c hc=>?_⟩ ⟨[],0,(hg st.n).trans (if_pos rfl),rfl⟩ fun c hc=>?_
 ·have hc:st.n+1≤c:=hc;show(st.h.set st.n _).get c=none;rw[hg,if_neg Qd];exact B.fresh c Qd
 ·show(st.h.set st.n _).get c=_;rw[hg,if_neg Qd]
 ·have hc:c=st.n:=hc;subst hc;exact⟨Nat.le_refl _,Nat.lt_succ_self _⟩
theorem VN{d:Nat}(key:α→AV)(hK:QH K T)(B:Ql st0 X0 st M Os)(hN:Nat.ble (d+1) N=true)(hr: ∀(c:Nat) T' st',QH ((d,.mp c)::K) T'→Ql st0 X0 st' M (VB c key []::Os)→WR P G N ops rest R T' st'):WR P G N ops (⟨some d,.makeMap t none,ty,pos,af,none⟩::rest) R T st:=
 WW hK jM (Nat.le_of_ble_eq_true hN) fun T' hT'=>hr _ T' _ hT' (B.aG key)
end
end
theorem zT:Tryz.prog.underlying 246=some (.map 3 3):=by kernel_rfl
theorem zS:Tryz.prog.underlying 286=some (.map 222 3):=by kernel_rfl
abbrev Ki(x:Int):AV:=.int .i64 x
theorem Hi:Vo Tryz.prog 246 Ki (.int .i64 0):=⟨3,3,.int .i64,zT,ec,by kernel_rfl,fun a=>rfl,fun a i=>rfl,fun a b v n es i=>by
 have e:UH Tryz.prog 3 (.int .i64) (Ki a) ((Ki b,v,n)::es) i=Qj (Fu a b) (some (some (i,v))) (UH Tryz.prog 3 (.int .i64) (Ki a) es (i+1)):=by
  refine(Ve (.int .i64) (Ki a) (Ki b,v,n) es i).trans ?_;show ob (Q6 (Ku .i64 .i64) (some (Fu a b))) _=_;rw[Wn,Q7,Qg];rfl
 rw[e,Yp]
 exact⟨fun h=>by rw[decide_eq_true h];rfl,fun h=>by rw[decide_eq_false h];rfl⟩⟩
abbrev IH(x:Int×Int):AV:=.agg [.int .i64 x.1,.int .i64 x.2]
theorem uE:Vo Tryz.prog 286 IH (.int .i64 0):=⟨222,3,.array 2 3,zS,Ad,by kernel_rfl,fun a=>by
 obtain⟨a1,a2⟩:=a;show fO (Yb Tryz.prog 222 [.int .i64 a1,.int .i64 a2] [.int .i64 a1,.int .i64 a2])=true
 rw[Gj,Yp,Yp,decide_eq_true rfl,decide_eq_true rfl];rfl,fun a i=>rfl,fun a b v n es i=>by
 have e:UH Tryz.prog 222 (.array 2 3) (IH a) ((IH b,v,n)::es) i=ob (Pr Tryz.prog 222 (IH a) (IH b)) fun q=>Qj q (some (some (i,v))) (UH Tryz.prog 222 (.array 2 3) (IH a) es (i+1)):=by
  exact WO _ _ _ _ _ _ _
 have e2:Pr Tryz.prog 222 (IH a) (IH b)=some (decide (a=b)):=by
  obtain⟨a1,a2⟩:=a;obtain⟨b1,b2⟩:=b;show Wo (Yb Tryz.prog 222 [.int .i64 a1,.int .i64 a2] [.int .i64 b1,.int .i64 b2]) [.int .i64 a1,.int .i64 a2] [.int .i64 b1,.int .i64 b2]=_;rw[Gj,Yp,Yp]
  by_cases h1:a1=b1<;>by_cases h2:a2=b2<;>simp[h1,h2,Qv,Qq,Wo,O5,N7,Wn,Yp,Q7]
 rw[e,e2,Qg]
 exact⟨fun h=>by rw[decide_eq_true h];rfl,fun h=>by rw[decide_eq_false h];rfl⟩⟩
end
section
variable {T h i l t:Nat}

inductive Bn where
 |leaf (v:Int)
 |fork (t l h:Nat)
abbrev Uf:=List Bn
def P2(S:Uf):Nat→Nat→Nat→Int
 |0,_,_=> -1
 |k+1,i,c=>match S[i]? with
  |some (.leaf v)=>v
  |some (.fork t l h)=>P2 S k (if c.testBit t then h else l) c
  |none=> -1
def US(S:Uf)(i c:Nat):Int:=P2 S (i+1) i c
def lvl(T:Nat)(S:Uf)(i:Nat):Nat:=match S[i]? with
 |some (.fork t _ _)=>t
 |_=>T
structure ZI(T:Nat)(S:Uf):Prop where
 nodup:S.Nodup
 fork: ∀(i t l h:Nat),S[i]? =some (.fork t l h)→t<lvl T S l∧t<lvl T S h∧l<i∧h<i∧l≠h∧t<T
 leaf: ∀(i:Nat) (v:Int),S[i]? =some (.leaf v)→0≤v∧v≤1099511627776
theorem ZI.nil(T:Nat):ZI T []:=⟨List.nodup_nil,fun i t l h e=>by simp at e,fun i v e=>by simp at e⟩
theorem DF{S:Uf}(W:ZI T S)(c:Nat): ∀i k k',i<k→i<k'→P2 S k i c=P2 S k' i c:=by
 intro i
 induction i using Nat.strongRecOn with
 |_ i ih=>
  intro k k' h1 h2;obtain⟨k,rfl⟩: ∃x,k=x+1:=⟨k-1,by omega⟩;obtain⟨k',rfl⟩: ∃x,k'=x+1:=⟨k'-1,by omega⟩;unfold P2
  cases hs:S[i]? with
  |none=>rfl
  |some n=>
   cases n with
   |leaf v=>rfl
   |fork t l h=>
    obtain⟨_,_,e1,e2,_⟩:=W.fork _ _ _ _ hs;show P2 S k (if c.testBit t then h else l) c=P2 S k' (if c.testBit t then h else l) c
    split
    ·exact ih h e2 _ _ Qd Qd
    ·exact ih l e1 _ _ Qd Qd
theorem Vz{S:Uf}{v:Int}(h:S[i]? =some (.leaf v))(c:Nat):US S i c=v:=by
 unfold US P2;rw[h]
theorem V1{S:Uf}(W:ZI T S)(e:S[i]? =some (.fork t l h))(c:Nat):US S i c=if c.testBit t then US S h c else US S l c:=by
 obtain⟨_,_,e1,e2,_⟩:=W.fork _ _ _ _ e;unfold US;rw[P2,e];show P2 S i (if c.testBit t then h else l) c=_
 split
 ·exact DF W c _ _ _ Qd Qd
 ·exact DF W c _ _ _ Qd Qd
theorem Hf{S:Uf}(X:Uf)(hi:i<S.length):lvl T (S++X) i=lvl T S i:=by
 unfold lvl;rw[List.getElem?_append_left hi]
theorem aQ{S:Uf}(W:ZI T S)(X:Uf)(hi:i<S.length)(c:Nat):US (S++X) i c=US S i c:=by
 have key: ∀k i,i<S.length→P2 (S++X) k i c=P2 S k i c:=by
  intro k
  induction k with
  |zero=>intro i _;rfl
  |succ k ih=>
   intro i hi;unfold P2;rw[List.getElem?_append_left hi]
   cases hs:S[i]? with
   |none=>rfl
   |some n=>
    cases n with
    |leaf v=>rfl
    |fork t l h=>
     obtain⟨_,_,e1,e2,_⟩:=W.fork _ _ _ _ hs;show P2 (S++X) k (if c.testBit t then h else l) c=P2 S k (if c.testBit t then h else l) c
     exact ih _ (by split<;>omega)
 exact key _ _ hi
theorem YF{S S':Uf}(W:ZI T S)(h:S<+:S')(hi:i<S.length)(c:Nat):US S' i c=US S i c:=by
 obtain⟨X,rfl⟩:=h;exact aQ W X hi c
theorem XB{S S':Uf}(h:S<+:S')(hi:i<S.length):lvl T S' i=lvl T S i:=by
 obtain⟨X,rfl⟩:=h;exact Hf X hi
theorem Bs{S:Uf}(W:ZI T S)(i:Nat):lvl T S i≤T:=by
 unfold lvl
 split
 ·rename_i t l h e;have:=W.fork _ _ _ _ e;omega
 ·exact Nat.le_refl _
theorem Nj{S:Uf}(W:ZI T S){c c':Nat}: ∀i,(∀t,lvl T S i≤t→t<T→c.testBit t=c'.testBit t)→US S i c=US S i c':=by
 intro i
 induction i using Nat.strongRecOn with
 |_ i ih=>
  intro hc
  cases hs:S[i]? with
  |none=>unfold US P2;rw[hs]
  |some n=>
   cases n with
   |leaf v=>rw[Vz hs,Vz hs]
   |fork t l h=>
    obtain⟨e1,e2,e3,e4,_,e6⟩:=W.fork _ _ _ _ hs
    have hl:lvl T S i=t:=by unfold lvl;rw[hs]
    rw[V1 W hs,V1 W hs,hc t Qd e6]
    split
    ·exact ih h e4 fun s h1 h2=>hc s Qd h2
    ·exact ih l e3 fun s h1 h2=>hc s Qd h2
theorem R7{S:Uf}(W:ZI T S)(i c:Nat):US S i (c % 2^T)=US S i c:=
 Nj W i fun t _ ht=>by rw[Nat.testBit_mod_two_pow,decide_eq_true ht,Bool.true_and]
def fQ(t c:Nat):Nat:=if c.testBit t then c^^^2^t else c
def fL(t c:Nat):Nat:=if c.testBit t then c else c^^^2^t
theorem fg(t c:Nat):(fQ t c).testBit t=false:=by
 unfold fQ
 split
 ·rename_i h;rw[Nat.testBit_xor,h,Nat.testBit_two_pow_self];rfl
 ·rename_i h;simpa using h
theorem ep(t c:Nat):(fL t c).testBit t=true:=by
 unfold fL
 split
 ·assumption
 ·rename_i h;rw[Nat.testBit_xor,Nat.testBit_two_pow_self];simp[h]
theorem ff{s:Nat}(h:s≠t)(c:Nat):(fQ t c).testBit s=c.testBit s:=by
 unfold fQ
 split
 ·rw[Nat.testBit_xor,Nat.testBit_two_pow_of_ne (Ne.symm h)];simp
 ·rfl
theorem eo{s:Nat}(h:s≠t)(c:Nat):(fL t c).testBit s=c.testBit s:=by
 unfold fL
 split
 ·rfl
 ·rw[Nat.testBit_xor,Nat.testBit_two_pow_of_ne (Ne.symm h)];simp
theorem ym{S:Uf}(W:ZI T S)(h:t<lvl T S i)(c:Nat):US S i (fQ t c)=US S i c:=Nj W i fun s h1 _=>ff Qd c
theorem yl{S:Uf}(W:ZI T S)(h:t<lvl T S i)(c:Nat):US S i (fL t c)=US S i c:=Nj W i fun s h1 _=>eo Qd c
theorem Hl{S:Uf}(W:ZI T S)(e:S[i]? =some (.fork t l h))(c:Nat):US S i (fQ t c)=US S l c:=by
 obtain⟨e1,e2,_⟩:=W.fork _ _ _ _ e;rw[V1 W e,fg,if_neg Q9,ym W e1]
theorem Az{S:Uf}(W:ZI T S)(e:S[i]? =some (.fork t l h))(c:Nat):US S i (fL t c)=US S h c:=by
 obtain⟨e1,e2,_⟩:=W.fork _ _ _ _ e;rw[V1 W e,ep,if_pos rfl,yl W e2]
theorem yn{S:Uf}(W:ZI T S): ∀n i j,i+j≤n→i<S.length→j<S.length→(∀c,US S i c=US S j c)→i=j:=by
 intro n
 induction n with
 |zero=>intro i j h _ _ _;omega
 |succ n ih=>
  intro i j hn hi hj hc;obtain⟨x,hx⟩: ∃x,S[i]? =some x:=⟨_,List.getElem?_eq_getElem hi⟩;obtain⟨y,hy⟩: ∃y,S[j]? =some y:=⟨_,List.getElem?_eq_getElem hj⟩;have same:x=y→i=j:=fun e=>(List.getElem?_inj hi W.nodup).1 (by rw[hx,hy,e])

  have off: ∀i j t l h,i+j≤n+1→i<S.length→j<S.length→S[i]? =some (.fork t l h)→t<lvl T S j→(∀c,US S i c=US S j c)→False:=by
   intro i j t l h hn hi hj e ht hc;obtain⟨e1,e2,e3,e4,e5,_⟩:=W.fork _ _ _ _ e
   have h1:l=j:=ih l j Qd Qd hj fun c=>by rw[←Hl W e,hc,ym W ht]
   have h2:h=j:=ih h j Qd Qd hj fun c=>by rw[←Az W e,hc,yl W ht]
   exact e5 (h1.trans h2.symm)
  have lv: ∀{i t l h},S[i]? =some (.fork t l h)→lvl T S i=t:=fun e=>by unfold lvl;rw[e]
  have lf: ∀{i v},S[i]? =some (.leaf v)→lvl T S i=T:=fun e=>by unfold lvl;rw[e]
  cases x with
  |leaf v=>
   cases y with
   |leaf w=>exact same (by rw[←Vz hx 0,hc,Vz hy])
   |fork t l h=>exact(off j i t l h Qd hj hi hy (by rw[lf hx];exact(W.fork _ _ _ _ hy).2.2.2.2.2) fun c=>(hc c).symm).elim
  |fork t l h=>
   cases y with
   |leaf w=>exact(off i j t l h hn hi hj hx (by rw[lf hy];exact(W.fork _ _ _ _ hx).2.2.2.2.2) hc).elim
   |fork t' l' h'=>
    rcases Nat.lt_trichotomy t t' with ht|ht|ht
    ·exact(off i j t l h hn hi hj hx (by rw[lv hy];exact ht) hc).elim
    ·subst ht;obtain⟨_,_,a3,a4,_⟩:=W.fork _ _ _ _ hx;obtain⟨_,_,b3,b4,_⟩:=W.fork _ _ _ _ hy
     have h1:l=l':=ih l l' Qd Qd Qd fun c=>by rw[←Hl W hx,hc,Hl W hy]
     have h2:h=h':=ih h h' Qd Qd Qd fun c=>by rw[←Az W hx,hc,Az W hy]
     exact same (by rw[h1,h2])
    ·exact(off j i t' l' h' Qd hj hi hy (by rw[lv hx];exact ht) fun c=>(hc c).symm).elim
theorem aO{S:Uf}(W:ZI T S){j:Nat}(hi:i<S.length)(hj:j<S.length)(hc: ∀c,c<2^T→US S i c=US S j c):i=j:=
 yn W _ i j (Nat.le_refl _) hi hj fun c=>by rw[←R7 W,←R7 W j,hc _ (Nat.mod_lt _ (Nat.two_pow_pos T))]
def Cd(S:Uf)(n:Bn)(i:Nat)(S':Uf):Prop:=(S[i]? =some n∧S'=S)∨(n∉S∧i=S.length∧S'=S++[n])
theorem Cd.pre{S S':Uf}{n:Bn}(h:Cd S n i S'):S<+:S'∧S'[i]? =some n∧S'.length≤S.length+1:=by
 rcases h with⟨h,rfl⟩|⟨_,rfl,rfl⟩
 ·exact⟨List.prefix_refl _,h,Nat.le_succ _⟩
 ·exact⟨List.prefix_append _ _,by simp,by simp⟩
theorem Cd.wf{S S':Uf}{n:Bn}(h:Cd S n i S')(W:ZI T S)(hl: ∀v,n=.leaf v→0≤v∧v≤1099511627776)(hf: ∀t l h,n=.fork t l h→t<lvl T S l∧t<lvl T S h∧l<S.length∧h<S.length∧l≠h∧t<T):ZI T S':=by
 rcases h with⟨_,rfl⟩|⟨h0,rfl,rfl⟩
 ·exact W
 ·refine⟨List.nodup_append.2 ⟨W.nodup,by simp,fun a ha b hb e=>?_⟩,fun i t l h e=>?_,fun i v e=>?_⟩
  ·rw[List.mem_singleton]at hb;subst hb e;exact h0 ha
  ·by_cases hi:i<S.length
   ·rw[List.getElem?_append_left hi]at e;obtain⟨e1,e2,e3,e4,e5,e6⟩:=W.fork _ _ _ _ e;rw[Hf _ Qd,Hf _ Qd];exact⟨e1,e2,e3,e4,e5,e6⟩
   ·have hlt:=(List.getElem?_eq_some_iff.1 e).1;rw[List.length_append,List.length_singleton]at hlt
    have hi:i=S.length:=by omega
    subst hi;rw[List.getElem?_append_right (Nat.le_refl _),Nat.sub_self]at e
    injection e with e
    obtain⟨e1,e2,e3,e4,e5,e6⟩:=hf _ _ _ e;rw[Hf _ e3,Hf _ e4];exact⟨e1,e2,e3,e4,e5,e6⟩
  ·by_cases hi:i<S.length
   ·rw[List.getElem?_append_left hi]at e;exact W.leaf _ _ e
   ·have hlt:=(List.getElem?_eq_some_iff.1 e).1;rw[List.length_append,List.length_singleton]at hlt
    have hi:i=S.length:=by omega
    subst hi;rw[List.getElem?_append_right (Nat.le_refl _),Nat.sub_self]at e
    injection e with e
    exact hl _ e
structure V7(T:Nat)(S:Uf)(k:Nat)(S':Uf)(i:Nat):Prop where
 wf:ZI T S'
 pre:S<+:S'
 lt:i<S'.length
 len:S'.length≤S.length+k
theorem vh{S S':Uf}{v:Int}(h:Cd S (.leaf v) i S')(W:ZI T S)(hv:0≤v∧v≤1099511627776):V7 T S 1 S' i∧lvl T S' i=T∧ ∀c,US S' i c=v:=by
 obtain⟨h1,h2,h3⟩:=h.pre;refine⟨⟨h.wf W (fun w e=>by injection e with e;subst e;exact hv) (fun _ _ _ e=>by cases e),h1,(List.getElem?_eq_some_iff.1 h2).1,h3⟩,?_,fun c=>Vz h2 c⟩;unfold lvl;rw[h2]
def nI(S:Uf)(t l h i:Nat)(S':Uf):Prop:=(l=h∧i=l∧S'=S)∨(l≠h∧Cd S (.fork t l h) i S')
theorem wz{S S':Uf}(H:nI S t l h i S')(W:ZI T S)(ht:t<T)(hl:l<S.length)(hh:h<S.length)(h1:t<lvl T S l)(h2:t<lvl T S h):
  V7 T S 1 S' i∧t≤lvl T S' i∧ ∀c,US S' i c=if c.testBit t then US S h c else US S l c:=by
 rcases H with⟨rfl,rfl,rfl⟩|⟨hne,H⟩
 ·exact⟨⟨W,List.prefix_refl _,hl,Nat.le_succ _⟩,by omega,fun c=>by split<;>rfl⟩
 ·obtain⟨k1,k2,k3⟩:=H.pre;have W':=H.wf W (fun _ e=>by cases e) (fun _ _ _ e=>by injection e with e1 e2 e3;subst e1 e2 e3;exact⟨h1,h2,hl,hh,hne,ht⟩);refine⟨⟨W',k1,(List.getElem?_eq_some_iff.1 k2).1,k3⟩,?_,fun c=>?_⟩
  ·unfold lvl;rw[k2];exact Nat.le_refl _
  ·rw[V1 W' k2,YF W k1 hl,YF W k1 hh]
def WB(T:Nat)(S:Uf)(i:Nat):List Int:=(List.range (2^T)).map fun c=>US S i c
theorem Lx(T:Nat)(S:Uf)(i:Nat):(WB T S i).length=2^T:=by simp[WB]
theorem CP{c:Nat}(S:Uf)(i:Nat)(h:c<2^T):(WB T S i)[c]? =some (US S i c):=by
 unfold WB;rw[List.getElem?_map,List.getElem?_range h];rfl
theorem xj{S:Uf}{row:List Int}(hl:row.length=2^T)(h: ∀c,c<2^T→row[c]? =some (US S i c)):WB T S i=row:=by
 apply List.ext_getElem?;intro c
 by_cases hc:c<2^T
 ·rw[CP S i hc,h c hc]
 ·rw[List.getElem?_eq_none (by rw[Lx];omega),List.getElem?_eq_none Qd]
end
end Go.Proofs.YtildagdnomiahaaGreatDoor
