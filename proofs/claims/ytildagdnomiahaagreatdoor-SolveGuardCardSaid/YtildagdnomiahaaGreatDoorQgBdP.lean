/-
  Maps by keys of some kind, as things in memory.
-/
import Derived.Test.YtildagdnomiahaaGreatDoorQgMo
set_option linter.unusedSectionVars false
set_option linter.unusedVariables false
namespace Go.Proofs.YtildagdnomiahaaGreatDoor
section
open Go Go.RowKit
set_option maxRecDepth 100000

structure XF(P:Program)(t:TypeId){α:Type}(key:α→AV)(z:AV):Prop where
 rule: ∃kt et d,P.underlying t=some (.map kt et)∧P.underlying kt=some d∧zeroV P et=some z∧(∀a,Va P kt d (key a)=true)∧(∀a i,U4 P kt d (key a) [] i=some none)∧
  ∀a b v n es i,(a=b→U4 P kt d (key a) ((key b,v,n)::es) i=some (some (i,v)))∧(a≠b→U4 P kt d (key a) ((key b,v,n)::es) i=U4 P kt d (key a) es (i+1))
section
variable {α:Type} {key:α→AV}
def L7(key:α→AV)(es:List (AV×AV×Nat))(L:List (α×AV)):Prop:=es.map zK=L.map fun x=>(key x.1,x.2)
open Classical in
noncomputable def Uz:List (α×AV)→α→Option AV
 |[],_=>none
 |x::L,a=>if x.1=a then some x.2 else Uz L a
theorem I5: ∀{L:List (α×AV)} {a:α} {v:AV},Uz L a=some v→(a,v)∈L
 |[],a,v,h=>by cases h
 |x::L,a,v,h=>by
  rw[Uz]at h
  split at h
  ·rename_i e
   injection h with h
   subst e h;simp
  ·exact List.mem_cons_of_mem _ (I5 h)
theorem Kz: ∀{L:List (α×AV)} {a:α},Uz L a=none→ ∀v,(a,v)∉L
 |[],a,_,v=>by simp
 |x::L,a,h,v=>by
  rw[Uz]at h
  split at h
  ·cases h
  ·rename_i e;intro hm;rcases List.mem_cons.1 hm with e'|hm
   ·exact e (by rw[←e'])
   ·exact Kz h v hm
theorem L7.snoc{es:List (AV×AV×Nat)}{L:List (α×AV)}(h:L7 key es L)(a:α)(v:AV)(n:Nat):L7 key (es++[(key a,v,n)]) (L++[(a,v)]):=by
 unfold L7 at h ⊢;rw[List.map_append,List.map_append,h];rfl
theorem XF.find{P:Program}{t:TypeId}{z:AV}{kt et:TypeId}{d:TypeDesc}(h0: ∀a i,U4 P kt d (key a) [] i=some none)(h1: ∀a b v n es i,(a=b→U4 P kt d (key a) ((key b,v,n)::es) i=some (some (i,v)))∧(a≠b→U4 P kt d (key a) ((key b,v,n)::es) i=U4 P kt d (key a) es (i+1)))(a:α): ∀(L:List (α×AV)) (es:List (AV×AV×Nat)) (i:Nat),L7 key es L→
  (Uz L a=none→U4 P kt d (key a) es i=some none)∧ ∀v,Uz L a=some v→ ∃j,U4 P kt d (key a) es i=some (some (j,v))
 |[],es,i,h=>by
  cases es with
  |nil=>exact⟨fun _=>h0 a i,fun v hv=>(by cases hv)⟩
  |cons e es=>cases h
 |x::L,es,i,h=>by
  cases es with
  |nil=>cases h
  |cons e es=>
   obtain⟨e1,e2,e3⟩:=e;unfold L7 at h;rw[List.map_cons,List.map_cons]at h
   injection h with h h'
   injection h with h3 h4
   have h3:e1=key x.1:=h3;have h4:e2=x.2:=h4;subst h3 h4;obtain⟨k1,k2⟩:=h1 a x.1 x.2 e3 es i;rw[Uz]
   split
   ·rename_i e;exact⟨fun h=>(by cases h),fun v hv=>(by injection hv with hv;subst hv;exact⟨i,k1 e.symm⟩)⟩
   ·rename_i e;rw[k2 fun h=>e h.symm];exact XF.find (t:=t) (z:=z) (et:=et) h0 h1 a L es (i+1) h'
def XZ(cm:Nat)(key:α→AV)(L:List (α×AV)):Ob:=⟨fun c=>c=cm,fun h=> ∃es n,h cm=some (.map es n)∧L7 key es L,fun h h' e ⟨es,n,h1,h2⟩=>⟨es,n,by rw[e cm rfl];exact h1,h2⟩⟩
theorem V2{P:Program}{G:Env}{K:List (Nat×AV)}{st:St}{t:TypeId}{z:AV}(T:XF P t key z){cm:Nat}{L:List (α×AV)}{a:α}{m k:Operand}(hH:(XZ cm key L).H st.h.get)(hm:QD G K m=some (.mp cm))(hk:QD G K k=some (key a)):
  Uf P G K (.lookup t m k true) st (.tup [(Uz L a).getD z,.bool (Uz L a).isSome]) st:=.of fun T' hT c d ty pos af g=>by
 obtain⟨kt,et,d',u1,u2,u3,u4,u5,u6⟩:=T.rule;obtain⟨es,n,hc,he⟩:=hH;show(ob (QU G T' m) fun m=>ob (QU G T' k) fun k=>ret (Xh P t m k true st.h.get) st)=_;rw[hT.QU hm,hT.QU hk,Qk,Qk];unfold Xh;obtain⟨f1,f2⟩:=XF.find (P:=P) (t:=t) (z:=z) (et:=et) u5 u6 a L es 0 he;simp only[u1,u2,u4,Q7,hc,Qk]
 cases hl:Uz L a with
 |none=>rw[f1 hl];simp only[Qk,u3,Option.getD_none,Option.isSome_none];rfl
 |some v=>
  obtain⟨j,f⟩:=f2 v hl;rw[f];rfl
noncomputable def WI(st:St)(cm n:Nat)(es:List (AV×AV×Nat))(k v:AV):St:=⟨st.n,st.h.set cm (.map (es++[(k,v,n)]) (n+1))⟩
theorem PN{P:Program}{G:Env}{K:List (Nat×AV)}{st:St}{t:TypeId}{z:AV}(T:XF P t key z){cm n:Nat}{es:List (AV×AV×Nat)}{L:List (α×AV)}{a:α}{v:AV}{m k x:Operand}(hc:st.h.get cm=some (.map es n))(he:L7 key es L)(hm:QD G K m=some (.mp cm))(hk:QD G K k=some (key a))(hx:QD G K x=some v)(hv:Qu v=true)(hn:Uz L a=none):
  Uf P G K (.mapUpdate t m k x) st (.tup []) (WI st cm n es (key a) v):=.of fun T' hT c d ty pos af g=>by
 obtain⟨kt,et,d',u1,u2,u3,u4,u5,u6⟩:=T.rule;show(ob (QU G T' m) fun m=>ob (QU G T' k) fun k=>ob (QU G T' x) fun x=>Y4 P t m k x st)=_;rw[hT.QU hm,hT.QU hk,hT.QU hx,Qk,Qk,Qk];unfold Y4 WI;obtain⟨f1,f2⟩:=XF.find (P:=P) (t:=t) (z:=z) (et:=et) u5 u6 a L es 0 he;simp only[u1,u2,u4,Q7,hc,Qk,f1 hn,hv,Bool.true_or,Ju,JL,QI,JX]
section
variable {P:Program} {G:Env} {N:Nat} {st0 st:St} {X0:Fp} {M:QK} {Os:List Ob} {T:Tr AV} {ops rest:List Oper} {K:List (Nat×AV)} {R:Tr AV→St→Prop} {t ty:TypeId} {pos:String} {af:Array Edge} {z v:AV} {cm j:Nat} {L:List (α×AV)} {a:α} {m k x:Operand} {sn:List St} {i:Nat} {r:List (Nat×Nat)}
theorem Qj.OT(B:Qj st0 X0 st M Os)(hj:Os[j]? =some (XZ cm key L)){es:List (AV×AV×Nat)}{n:Nat}(hc:st.h.get cm=some (.map es n))(he:L7 key es L)(a:α)(v:AV):Qj st0 X0 (WI st cm n es (key a) v) M (Os.set j (XZ cm key (L++[(a,v)]))):=by
 have hg: ∀c,(WI st cm n es (key a) v).h.get c=if c=cm then some (.map (es++[(key a,v,n)]) (n+1))else st.h.get c:=fun c=>Tr.Z3 _ _ _ _
 have hcm:cm<st.n:=B.Vj hj cm rfl;refine B.call hj ⟨fun c hc=>?_,Nat.le_refl _,fun c hc hF=>?_⟩ ⟨_,_,(hg cm).trans (if_pos rfl),he.snoc a v n⟩ fun c hc=>⟨.inl hc,?_⟩
 ·have hc:st.n≤c:=hc;rw[hg,if_neg Qe];exact B.fresh c hc
 ·have hF: ¬c=cm:=hF;rw[hg,if_neg hF]
 ·have hc:c=cm:=hc;rw[hc];exact hcm
theorem AG(hK:QE K T)(B:Qj st0 X0 st M Os)(hj:Os[j]? =some (XZ cm key L))(Tk:XF P t key z)(hm:QD G K m=some (.mp cm))(hk:QD G K k=some (key a))(hx:QD G K x=some v)(hv:Qu v=true)(hn:Uz L a=none)
  (hr: ∀st',Qj st0 X0 st' M (Os.set j (XZ cm key (L++[(a,v)])))→WR P G N ops rest R T st'):WR P G N ops (⟨none,.mapUpdate t m k x,ty,pos,af,none⟩::rest) R T st:=by
 obtain⟨es,n,hc,he⟩:=B.at_ hj;exact P4 hK (PN Tk hc he hm hk hx hv hn) (hr _ (B.OT hj hc he a v))
theorem jK(ho:ops[i]? =some ⟨none,.mapUpdate t m k x,ty,pos,af,none⟩)(hK:QE K T)(B:Qj st0 X0 st M Os)(hj:Os[j]? =some (XZ cm key L))(Tk:XF P t key z)(hm:QD G K m=some (.mp cm))(hk:QD G K k=some (key a))(hx:QD G K x=some v)(hv:Qu v=true)(hn:Uz L a=none)
  (hr: ∀st',Qj st0 X0 st' M (Os.set j (XZ cm key (L++[(a,v)])))→WD P G N ops (r.map (UI ops)) R T st' (st'::sn)):WD P G N ops (((i,0)::r).map (UI ops)) R T st sn:=by
 obtain⟨es,n,hc,he⟩:=B.at_ hj;rw[Yy ho];exact XH rfl (PN Tk hc he hm hk hx hv hn T hK _ _ _ _ _) rfl (fun e he=>by cases he) (hr _ (B.OT hj hc he a v))
theorem Mt:Uf P G K (.makeMap t none) st (.mp st.n) ⟨st.n+1,st.h.set st.n (.map [] 0)⟩:=.of fun T hT c d ty pos af g=>by
 show V7 st=_;unfold V7;rw[V3]
theorem Qj.xA(B:Qj st0 X0 st M Os)(key:α→AV):Qj st0 X0 ⟨st.n+1,st.h.set st.n (.map [] 0)⟩ M (XZ st.n key []::Os):=by
 have hg: ∀c,(st.h.set st.n (.map [] 0)).get c=if c=st.n then some (.map [] 0)else st.h.get c:=fun c=>Tr.Z3 _ _ _ _
 refine B.new ⟨fun c hc=>?_,Nat.le_succ _,fun c hc=>?_⟩ ⟨[],0,(hg st.n).trans (if_pos rfl),rfl⟩ fun c hc=>?_
 ·have hc:st.n+1≤c:=hc;show(st.h.set st.n _).get c=none;rw[hg,if_neg Qe];exact B.fresh c Qe
 ·show(st.h.set st.n _).get c=_;rw[hg,if_neg Qe]
 ·have hc:c=st.n:=hc;subst hc;exact⟨Nat.le_refl _,Nat.lt_succ_self _⟩
theorem Vm{d:Nat}(key:α→AV)(hK:QE K T)(B:Qj st0 X0 st M Os)(hN:Nat.ble (d+1) N=true)(hr: ∀(c:Nat) T' st',QE ((d,.mp c)::K) T'→Qj st0 X0 st' M (XZ c key []::Os)→WR P G N ops rest R T' st'):WR P G N ops (⟨some d,.makeMap t none,ty,pos,af,none⟩::rest) R T st:=
 Wk hK Mt (Nat.le_of_ble_eq_true hN) fun T' hT'=>hr _ T' _ hT' (B.xA key)
end
end
theorem jT:Tryz.prog.underlying 246=some (.map 3 3):=by kernel_rfl
theorem jS:Tryz.prog.underlying 286=some (.map 222 3):=by kernel_rfl
abbrev Ib(x:Int):AV:=.int .i64 x
theorem Ff:XF Tryz.prog 246 Ib (.int .i64 0):=⟨3,3,.int .i64,jT,Wz,by kernel_rfl,fun a=>rfl,fun a i=>rfl,fun a b v n es i=>by
 have e:U4 Tryz.prog 3 (.int .i64) (Ib a) ((Ib b,v,n)::es) i=Ql (Fw a b) (some (some (i,v))) (U4 Tryz.prog 3 (.int .i64) (Ib a) es (i+1)):=by
  refine(X7 (.int .i64) (Ib a) (Ib b,v,n) es i).trans ?_;show ob (Q5 (Nq .i64 .i64) (some (Fw a b))) _=_;rw[VC,Q7,Qk];rfl
 rw[e,Yb]
 exact⟨fun h=>by rw[decide_eq_true h];rfl,fun h=>by rw[decide_eq_false h];rfl⟩⟩
abbrev HA(x:Int×Int):AV:=.agg [.int .i64 x.1,.int .i64 x.2]
theorem MX:XF Tryz.prog 286 HA (.int .i64 0):=⟨222,3,.array 2 3,jS,Ek,by kernel_rfl,fun a=>by
 obtain⟨a1,a2⟩:=a;show vv (UK Tryz.prog 222 [.int .i64 a1,.int .i64 a2] [.int .i64 a1,.int .i64 a2])=true
 rw[NQ,Yb,Yb,decide_eq_true rfl,decide_eq_true rfl];rfl,fun a i=>rfl,fun a b v n es i=>by
 have e:U4 Tryz.prog 222 (.array 2 3) (HA a) ((HA b,v,n)::es) i=ob (CG Tryz.prog 222 (HA a) (HA b)) fun q=>Ql q (some (some (i,v))) (U4 Tryz.prog 222 (.array 2 3) (HA a) es (i+1)):=by
  exact Wd _ _ _ _ _ _ _
 have e2:CG Tryz.prog 222 (HA a) (HA b)=some (decide (a=b)):=by
  obtain⟨a1,a2⟩:=a;obtain⟨b1,b2⟩:=b;show VD (UK Tryz.prog 222 [.int .i64 a1,.int .i64 a2] [.int .i64 b1,.int .i64 b2]) [.int .i64 a1,.int .i64 a2] [.int .i64 b1,.int .i64 b2]=_;rw[NQ,Yb,Yb]
  by_cases h1:a1=b1<;>by_cases h2:a2=b2<;>simp[h1,h2,Qv,Qr,VD,Nt,Lu,VC,Yb,Q7]
 rw[e,e2,Qk]
 exact⟨fun h=>by rw[decide_eq_true h];rfl,fun h=>by rw[decide_eq_false h];rfl⟩⟩
end
section
variable {T h i l t:Nat}

inductive Bn where
 |leaf (v:Int)
 |fork (t l h:Nat)
abbrev JW:=List Bn
def CU(S:JW):Nat→Nat→Nat→Int
 |0,_,_=> -1
 |k+1,i,c=>match S[i]? with
  |some (.leaf v)=>v
  |some (.fork t l h)=>CU S k (if c.testBit t then h else l) c
  |none=> -1
def UF(S:JW)(i c:Nat):Int:=CU S (i+1) i c
def lvl(T:Nat)(S:JW)(i:Nat):Nat:=match S[i]? with
 |some (.fork t _ _)=>t
 |_=>T
structure Zo(T:Nat)(S:JW):Prop where
 nodup:S.Nodup
 fork: ∀(i t l h:Nat),S[i]? =some (.fork t l h)→t<lvl T S l∧t<lvl T S h∧l<i∧h<i∧l≠h∧t<T
 leaf: ∀(i:Nat) (v:Int),S[i]? =some (.leaf v)→0≤v∧v≤1099511627776
theorem Zo.nil(T:Nat):Zo T []:=⟨List.nodup_nil,fun i t l h e=>by simp at e,fun i v e=>by simp at e⟩
theorem Ce{S:JW}(W:Zo T S)(c:Nat): ∀i k k',i<k→i<k'→CU S k i c=CU S k' i c:=by
 intro i
 induction i using Nat.strongRecOn with
 |_ i ih=>
  intro k k' h1 h2;obtain⟨k,rfl⟩: ∃x,k=x+1:=⟨k-1,by omega⟩;obtain⟨k',rfl⟩: ∃x,k'=x+1:=⟨k'-1,by omega⟩;unfold CU
  cases hs:S[i]? with
  |none=>rfl
  |some n=>
   cases n with
   |leaf v=>rfl
   |fork t l h=>
    obtain⟨_,_,e1,e2,_⟩:=W.fork _ _ _ _ hs;show CU S k (if c.testBit t then h else l) c=CU S k' (if c.testBit t then h else l) c
    split
    ·exact ih h e2 _ _ Qe Qe
    ·exact ih l e1 _ _ Qe Qe
theorem XN{S:JW}{v:Int}(h:S[i]? =some (.leaf v))(c:Nat):UF S i c=v:=by
 unfold UF CU;rw[h]
theorem XO{S:JW}(W:Zo T S)(e:S[i]? =some (.fork t l h))(c:Nat):UF S i c=if c.testBit t then UF S h c else UF S l c:=by
 obtain⟨_,_,e1,e2,_⟩:=W.fork _ _ _ _ e;unfold UF;rw[CU,e];show CU S i (if c.testBit t then h else l) c=_
 split
 ·exact Ce W c _ _ _ Qe Qe
 ·exact Ce W c _ _ _ Qe Qe
theorem Fa{S:JW}(X:JW)(hi:i<S.length):lvl T (S++X) i=lvl T S i:=by
 unfold lvl;rw[List.getElem?_append_left hi]
theorem xJ{S:JW}(W:Zo T S)(X:JW)(hi:i<S.length)(c:Nat):UF (S++X) i c=UF S i c:=by
 have key: ∀k i,i<S.length→CU (S++X) k i c=CU S k i c:=by
  intro k
  induction k with
  |zero=>intro i _;rfl
  |succ k ih=>
   intro i hi;unfold CU;rw[List.getElem?_append_left hi]
   cases hs:S[i]? with
   |none=>rfl
   |some n=>
    cases n with
    |leaf v=>rfl
    |fork t l h=>
     obtain⟨_,_,e1,e2,_⟩:=W.fork _ _ _ _ hs;show CU (S++X) k (if c.testBit t then h else l) c=CU S k (if c.testBit t then h else l) c
     exact ih _ (by split<;>omega)
 exact key _ _ hi
theorem Yx{S S':JW}(W:Zo T S)(h:S<+:S')(hi:i<S.length)(c:Nat):UF S' i c=UF S i c:=by
 obtain⟨X,rfl⟩:=h;exact xJ W X hi c
theorem Xg{S S':JW}(h:S<+:S')(hi:i<S.length):lvl T S' i=lvl T S i:=by
 obtain⟨X,rfl⟩:=h;exact Fa X hi
theorem OV{S:JW}(W:Zo T S)(i:Nat):lvl T S i≤T:=by
 unfold lvl
 split
 ·rename_i t l h e;have:=W.fork _ _ _ _ e;omega
 ·exact Nat.le_refl _
theorem KT{S:JW}(W:Zo T S){c c':Nat}: ∀i,(∀t,lvl T S i≤t→t<T→c.testBit t=c'.testBit t)→UF S i c=UF S i c':=by
 intro i
 induction i using Nat.strongRecOn with
 |_ i ih=>
  intro hc
  cases hs:S[i]? with
  |none=>unfold UF CU;rw[hs]
  |some n=>
   cases n with
   |leaf v=>rw[XN hs,XN hs]
   |fork t l h=>
    obtain⟨e1,e2,e3,e4,_,e6⟩:=W.fork _ _ _ _ hs
    have hl:lvl T S i=t:=by unfold lvl;rw[hs]
    rw[XO W hs,XO W hs,hc t Qe e6]
    split
    ·exact ih h e4 fun s h1 h2=>hc s Qe h2
    ·exact ih l e3 fun s h1 h2=>hc s Qe h2
theorem DW{S:JW}(W:Zo T S)(i c:Nat):UF S i (c % 2^T)=UF S i c:=
 KT W i fun t _ ht=>by rw[Nat.testBit_mod_two_pow,decide_eq_true ht,Bool.true_and]
def vw(t c:Nat):Nat:=if c.testBit t then c^^^2^t else c
def vp(t c:Nat):Nat:=if c.testBit t then c else c^^^2^t
theorem xU(t c:Nat):(vw t c).testBit t=false:=by
 unfold vw
 split
 ·rename_i h;rw[Nat.testBit_xor,h,Nat.testBit_two_pow_self];rfl
 ·rename_i h;simpa using h
theorem zI(t c:Nat):(vp t c).testBit t=true:=by
 unfold vp
 split
 ·assumption
 ·rename_i h;rw[Nat.testBit_xor,Nat.testBit_two_pow_self];simp[h]
theorem xT{s:Nat}(h:s≠t)(c:Nat):(vw t c).testBit s=c.testBit s:=by
 unfold vw
 split
 ·rw[Nat.testBit_xor,Nat.testBit_two_pow_of_ne (Ne.symm h)];simp
 ·rfl
theorem zH{s:Nat}(h:s≠t)(c:Nat):(vp t c).testBit s=c.testBit s:=by
 unfold vp
 split
 ·rfl
 ·rw[Nat.testBit_xor,Nat.testBit_two_pow_of_ne (Ne.symm h)];simp
theorem qB{S:JW}(W:Zo T S)(h:t<lvl T S i)(c:Nat):UF S i (vw t c)=UF S i c:=KT W i fun s h1 _=>xT Qe c
theorem q6{S:JW}(W:Zo T S)(h:t<lvl T S i)(c:Nat):UF S i (vp t c)=UF S i c:=KT W i fun s h1 _=>zH Qe c
theorem Fi{S:JW}(W:Zo T S)(e:S[i]? =some (.fork t l h))(c:Nat):UF S i (vw t c)=UF S l c:=by
 obtain⟨e1,e2,_⟩:=W.fork _ _ _ _ e;rw[XO W e,xU,if_neg Q8,qB W e1]
theorem Ey{S:JW}(W:Zo T S)(e:S[i]? =some (.fork t l h))(c:Nat):UF S i (vp t c)=UF S h c:=by
 obtain⟨e1,e2,_⟩:=W.fork _ _ _ _ e;rw[XO W e,zI,if_pos rfl,q6 W e2]
theorem qC{S:JW}(W:Zo T S): ∀n i j,i+j≤n→i<S.length→j<S.length→(∀c,UF S i c=UF S j c)→i=j:=by
 intro n
 induction n with
 |zero=>intro i j h _ _ _;omega
 |succ n ih=>
  intro i j hn hi hj hc;obtain⟨x,hx⟩: ∃x,S[i]? =some x:=⟨_,List.getElem?_eq_getElem hi⟩;obtain⟨y,hy⟩: ∃y,S[j]? =some y:=⟨_,List.getElem?_eq_getElem hj⟩;have same:x=y→i=j:=fun e=>(List.getElem?_inj hi W.nodup).1 (by rw[hx,hy,e])

  have off: ∀i j t l h,i+j≤n+1→i<S.length→j<S.length→S[i]? =some (.fork t l h)→t<lvl T S j→(∀c,UF S i c=UF S j c)→False:=by
   intro i j t l h hn hi hj e ht hc;obtain⟨e1,e2,e3,e4,e5,_⟩:=W.fork _ _ _ _ e
   have h1:l=j:=ih l j Qe Qe hj fun c=>by rw[←Fi W e,hc,qB W ht]
   have h2:h=j:=ih h j Qe Qe hj fun c=>by rw[←Ey W e,hc,q6 W ht]
   exact e5 (h1.trans h2.symm)
  have lv: ∀{i t l h},S[i]? =some (.fork t l h)→lvl T S i=t:=fun e=>by unfold lvl;rw[e]
  have lf: ∀{i v},S[i]? =some (.leaf v)→lvl T S i=T:=fun e=>by unfold lvl;rw[e]
  cases x with
  |leaf v=>
   cases y with
   |leaf w=>exact same (by rw[←XN hx 0,hc,XN hy])
   |fork t l h=>exact(off j i t l h Qe hj hi hy (by rw[lf hx];exact(W.fork _ _ _ _ hy).2.2.2.2.2) fun c=>(hc c).symm).elim
  |fork t l h=>
   cases y with
   |leaf w=>exact(off i j t l h hn hi hj hx (by rw[lf hy];exact(W.fork _ _ _ _ hx).2.2.2.2.2) hc).elim
   |fork t' l' h'=>
    rcases Nat.lt_trichotomy t t' with ht|ht|ht
    ·exact(off i j t l h hn hi hj hx (by rw[lv hy];exact ht) hc).elim
    ·subst ht;obtain⟨_,_,a3,a4,_⟩:=W.fork _ _ _ _ hx;obtain⟨_,_,b3,b4,_⟩:=W.fork _ _ _ _ hy
     have h1:l=l':=ih l l' Qe Qe Qe fun c=>by rw[←Fi W hx,hc,Fi W hy]
     have h2:h=h':=ih h h' Qe Qe Qe fun c=>by rw[←Ey W hx,hc,Ey W hy]
     exact same (by rw[h1,h2])
    ·exact(off j i t' l' h' Qe hj hi hy (by rw[lv hx];exact ht) fun c=>(hc c).symm).elim
theorem xH{S:JW}(W:Zo T S){j:Nat}(hi:i<S.length)(hj:j<S.length)(hc: ∀c,c<2^T→UF S i c=UF S j c):i=j:=
 qC W _ i j (Nat.le_refl _) hi hj fun c=>by rw[←DW W,←DW W j,hc _ (Nat.mod_lt _ (Nat.two_pow_pos T))]
def G4(S:JW)(n:Bn)(i:Nat)(S':JW):Prop:=(S[i]? =some n∧S'=S)∨(n∉S∧i=S.length∧S'=S++[n])
theorem G4.pre{S S':JW}{n:Bn}(h:G4 S n i S'):S<+:S'∧S'[i]? =some n∧S'.length≤S.length+1:=by
 rcases h with⟨h,rfl⟩|⟨_,rfl,rfl⟩
 ·exact⟨List.prefix_refl _,h,Nat.le_succ _⟩
 ·exact⟨List.prefix_append _ _,by simp,by simp⟩
theorem G4.wf{S S':JW}{n:Bn}(h:G4 S n i S')(W:Zo T S)(hl: ∀v,n=.leaf v→0≤v∧v≤1099511627776)(hf: ∀t l h,n=.fork t l h→t<lvl T S l∧t<lvl T S h∧l<S.length∧h<S.length∧l≠h∧t<T):Zo T S':=by
 rcases h with⟨_,rfl⟩|⟨h0,rfl,rfl⟩
 ·exact W
 ·refine⟨List.nodup_append.2 ⟨W.nodup,by simp,fun a ha b hb e=>?_⟩,fun i t l h e=>?_,fun i v e=>?_⟩
  ·rw[List.mem_singleton]at hb;subst hb e;exact h0 ha
  ·by_cases hi:i<S.length
   ·rw[List.getElem?_append_left hi]at e;obtain⟨e1,e2,e3,e4,e5,e6⟩:=W.fork _ _ _ _ e;rw[Fa _ Qe,Fa _ Qe];exact⟨e1,e2,e3,e4,e5,e6⟩
   ·have hlt:=(List.getElem?_eq_some_iff.1 e).1;rw[List.length_append,List.length_singleton]at hlt
    have hi:i=S.length:=by omega
    subst hi;rw[List.getElem?_append_right (Nat.le_refl _),Nat.sub_self]at e
    injection e with e
    obtain⟨e1,e2,e3,e4,e5,e6⟩:=hf _ _ _ e;rw[Fa _ e3,Fa _ e4];exact⟨e1,e2,e3,e4,e5,e6⟩
  ·by_cases hi:i<S.length
   ·rw[List.getElem?_append_left hi]at e;exact W.leaf _ _ e
   ·have hlt:=(List.getElem?_eq_some_iff.1 e).1;rw[List.length_append,List.length_singleton]at hlt
    have hi:i=S.length:=by omega
    subst hi;rw[List.getElem?_append_right (Nat.le_refl _),Nat.sub_self]at e
    injection e with e
    exact hl _ e
structure XT(T:Nat)(S:JW)(k:Nat)(S':JW)(i:Nat):Prop where
 wf:Zo T S'
 pre:S<+:S'
 lt:i<S'.length
 len:S'.length≤S.length+k
theorem yd{S S':JW}{v:Int}(h:G4 S (.leaf v) i S')(W:Zo T S)(hv:0≤v∧v≤1099511627776):XT T S 1 S' i∧lvl T S' i=T∧ ∀c,UF S' i c=v:=by
 obtain⟨h1,h2,h3⟩:=h.pre;refine⟨⟨h.wf W (fun w e=>by injection e with e;subst e;exact hv) (fun _ _ _ e=>by cases e),h1,(List.getElem?_eq_some_iff.1 h2).1,h3⟩,?_,fun c=>XN h2 c⟩;unfold lvl;rw[h2]
def eS(S:JW)(t l h i:Nat)(S':JW):Prop:=(l=h∧i=l∧S'=S)∨(l≠h∧G4 S (.fork t l h) i S')
theorem zf{S S':JW}(H:eS S t l h i S')(W:Zo T S)(ht:t<T)(hl:l<S.length)(hh:h<S.length)(h1:t<lvl T S l)(h2:t<lvl T S h):
  XT T S 1 S' i∧t≤lvl T S' i∧ ∀c,UF S' i c=if c.testBit t then UF S h c else UF S l c:=by
 rcases H with⟨rfl,rfl,rfl⟩|⟨hne,H⟩
 ·exact⟨⟨W,List.prefix_refl _,hl,Nat.le_succ _⟩,by omega,fun c=>by split<;>rfl⟩
 ·obtain⟨k1,k2,k3⟩:=H.pre;have W':=H.wf W (fun _ e=>by cases e) (fun _ _ _ e=>by injection e with e1 e2 e3;subst e1 e2 e3;exact⟨h1,h2,hl,hh,hne,ht⟩);refine⟨⟨W',k1,(List.getElem?_eq_some_iff.1 k2).1,k3⟩,?_,fun c=>?_⟩
  ·unfold lvl;rw[k2];exact Nat.le_refl _
  ·rw[XO W' k2,Yx W k1 hl,Yx W k1 hh]
def VQ(T:Nat)(S:JW)(i:Nat):List Int:=(List.range (2^T)).map fun c=>UF S i c
theorem Ke(T:Nat)(S:JW)(i:Nat):(VQ T S i).length=2^T:=by simp[VQ]
theorem Bg{c:Nat}(S:JW)(i:Nat)(h:c<2^T):(VQ T S i)[c]? =some (UF S i c):=by
 unfold VQ;rw[List.getElem?_map,List.getElem?_range h];rfl
theorem uj{S:JW}{row:List Int}(hl:row.length=2^T)(h: ∀c,c<2^T→row[c]? =some (UF S i c)):VQ T S i=row:=by
 apply List.ext_getElem?;intro c
 by_cases hc:c<2^T
 ·rw[Bg S i hc,h c hc]
 ·rw[List.getElem?_eq_none (by rw[Ke];omega),List.getElem?_eq_none Qe]
end
end Go.Proofs.YtildagdnomiahaaGreatDoor
