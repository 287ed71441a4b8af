/-
  Maps by keys of some kind, as things in memory.
-/
import Derived.Test.YtildagdnomiahaaGreatDoorQkMo
set_option linter.unusedSectionVars false
set_option linter.unusedVariables false
namespace Go.Proofs.YtildagdnomiahaaGreatDoor
section
open Go Go.RowKit
set_option maxRecDepth 100000

structure XQ(P:Program)(t:TypeId){α:Type}(key:α→AV)(z:AV):Prop where
 rule: ∃kt et d,P.underlying t=some (.map kt et)∧P.underlying kt=some d∧zeroV P et=some z∧(∀a,Vo P kt d (key a)=true)∧(∀a i,U7 P kt d (key a) [] i=some none)∧
  ∀a b v n es i,(a=b→U7 P kt d (key a) ((key b,v,n)::es) i=some (some (i,v)))∧(a≠b→U7 P kt d (key a) ((key b,v,n)::es) i=U7 P kt d (key a) es (i+1))
section
variable {α:Type} {key:α→AV}
def LW(key:α→AV)(es:List (AV×AV×Nat))(L:List (α×AV)):Prop:=es.map wL=L.map fun x=>(key x.1,x.2)
open Classical in
noncomputable def U1:List (α×AV)→α→Option AV
 |[],_=>none
 |x::L,a=>if x.1=a then some x.2 else U1 L a
theorem IL: ∀{L:List (α×AV)} {a:α} {v:AV},U1 L a=some v→(a,v)∈L
 |[],a,v,h=>by cases h
 |x::L,a,v,h=>by
  rw[U1]at h
  split at h
  ·rename_i e
   injection h with h
   subst e h;simp
  ·exact List.mem_cons_of_mem _ (IL h)
theorem KZ: ∀{L:List (α×AV)} {a:α},U1 L a=none→ ∀v,(a,v)∉L
 |[],a,_,v=>by simp
 |x::L,a,h,v=>by
  rw[U1]at h
  split at h
  ·cases h
  ·rename_i e;intro hm;rcases List.mem_cons.1 hm with e'|hm
   ·exact e (by rw[←e'])
   ·exact KZ h v hm
theorem LW.snoc{es:List (AV×AV×Nat)}{L:List (α×AV)}(h:LW key es L)(a:α)(v:AV)(n:Nat):LW key (es++[(key a,v,n)]) (L++[(a,v)]):=by
 unfold LW at h ⊢;rw[List.map_append,List.map_append,h];rfl
theorem XQ.find{P:Program}{t:TypeId}{z:AV}{kt et:TypeId}{d:TypeDesc}(h0: ∀a i,U7 P kt d (key a) [] i=some none)(h1: ∀a b v n es i,(a=b→U7 P kt d (key a) ((key b,v,n)::es) i=some (some (i,v)))∧(a≠b→U7 P kt d (key a) ((key b,v,n)::es) i=U7 P kt d (key a) es (i+1)))(a:α): ∀(L:List (α×AV)) (es:List (AV×AV×Nat)) (i:Nat),LW key es L→
  (U1 L a=none→U7 P kt d (key a) es i=some none)∧ ∀v,U1 L a=some v→ ∃j,U7 P kt d (key a) es i=some (some (j,v))
 |[],es,i,h=>by
  cases es with
  |nil=>exact⟨fun _=>h0 a i,fun v hv=>(by cases hv)⟩
  |cons e es=>cases h
 |x::L,es,i,h=>by
  cases es with
  |nil=>cases h
  |cons e es=>
   obtain⟨e1,e2,e3⟩:=e;unfold LW at h;rw[List.map_cons,List.map_cons]at h
   injection h with h h'
   injection h with h3 h4
   have h3:e1=key x.1:=h3;have h4:e2=x.2:=h4;subst h3 h4;obtain⟨k1,k2⟩:=h1 a x.1 x.2 e3 es i;rw[U1]
   split
   ·rename_i e;exact⟨fun h=>(by cases h),fun v hv=>(by injection hv with hv;subst hv;exact⟨i,k1 e.symm⟩)⟩
   ·rename_i e;rw[k2 fun h=>e h.symm];exact XQ.find (t:=t) (z:=z) (et:=et) h0 h1 a L es (i+1) h'
def Vn(cm:Nat)(key:α→AV)(L:List (α×AV)):Ob:=⟨fun c=>c=cm,fun h=> ∃es n,h cm=some (.map es n)∧LW key es L,fun h h' e ⟨es,n,h1,h2⟩=>⟨es,n,by rw[e cm rfl];exact h1,h2⟩⟩
theorem VD{P:Program}{G:Env}{K:List (Nat×AV)}{st:St}{t:TypeId}{z:AV}(T:XQ P t key z){cm:Nat}{L:List (α×AV)}{a:α}{m k:Operand}(hH:(Vn cm key L).H st.h.get)(hm:QE G K m=some (.mp cm))(hk:QE G K k=some (key a)):
  Uk P G K (.lookup t m k true) st (.tup [(U1 L a).getD z,.bool (U1 L a).isSome]) st:=.of fun T' hT c d ty pos af g=>by
 obtain⟨kt,et,d',u1,u2,u3,u4,u5,u6⟩:=T.rule;obtain⟨es,n,hc,he⟩:=hH;show(ob (QI G T' m) fun m=>ob (QI G T' k) fun k=>ret (Xp P t m k true st.h.get) st)=_;rw[hT.QI hm,hT.QI hk,Qf,Qf];unfold Xp;obtain⟨f1,f2⟩:=XQ.find (P:=P) (t:=t) (z:=z) (et:=et) u5 u6 a L es 0 he;simp only[u1,u2,u4,Q6,hc,Qf]
 cases hl:U1 L a with
 |none=>rw[f1 hl];simp only[Qf,u3,Option.getD_none,Option.isSome_none];rfl
 |some v=>
  obtain⟨j,f⟩:=f2 v hl;rw[f];rfl
noncomputable def WT(st:St)(cm n:Nat)(es:List (AV×AV×Nat))(k v:AV):St:=⟨st.n,st.h.set cm (.map (es++[(k,v,n)]) (n+1))⟩
theorem RF{P:Program}{G:Env}{K:List (Nat×AV)}{st:St}{t:TypeId}{z:AV}(T:XQ P t key z){cm n:Nat}{es:List (AV×AV×Nat)}{L:List (α×AV)}{a:α}{v:AV}{m k x:Operand}(hc:st.h.get cm=some (.map es n))(he:LW key es L)(hm:QE G K m=some (.mp cm))(hk:QE G K k=some (key a))(hx:QE G K x=some v)(hv:Qw v=true)(hn:U1 L a=none):
  Uk P G K (.mapUpdate t m k x) st (.tup []) (WT st cm n es (key a) v):=.of fun T' hT c d ty pos af g=>by
 obtain⟨kt,et,d',u1,u2,u3,u4,u5,u6⟩:=T.rule;show(ob (QI G T' m) fun m=>ob (QI G T' k) fun k=>ob (QI G T' x) fun x=>YC P t m k x st)=_;rw[hT.QI hm,hT.QI hk,hT.QI hx,Qf,Qf,Qf];unfold YC WT;obtain⟨f1,f2⟩:=XQ.find (P:=P) (t:=t) (z:=z) (et:=et) u5 u6 a L es 0 he;simp only[u1,u2,u4,Q6,hc,Qf,f1 hn,hv,Bool.true_or,Ju,J9,QC,JY]
section
variable {P:Program} {G:Env} {N:Nat} {st0 st:St} {X0:Fp} {M:QK} {Os:List Ob} {T:Tr AV} {ops rest:List Oper} {K:List (Nat×AV)} {R:Tr AV→St→Prop} {t ty:TypeId} {pos:String} {af:Array Edge} {z v:AV} {cm j:Nat} {L:List (α×AV)} {a:α} {m k x:Operand} {sn:List St} {i:Nat} {r:List (Nat×Nat)}
theorem Ql.G7(B:Ql st0 X0 st M Os)(hj:Os[j]? =some (Vn cm key L)){es:List (AV×AV×Nat)}{n:Nat}(hc:st.h.get cm=some (.map es n))(he:LW key es L)(a:α)(v:AV):Ql st0 X0 (WT st cm n es (key a) v) M (Os.set j (Vn cm key (L++[(a,v)]))):=by
 have hg: ∀c,(WT st cm n es (key a) v).h.get c=if c=cm then some (.map (es++[(key a,v,n)]) (n+1))else st.h.get c:=fun c=>Tr.ZD _ _ _ _
 have hcm:cm<st.n:=B.Vx hj cm rfl;refine B.call hj ⟨fun c hc=>?_,Nat.le_refl _,fun c hc hF=>?_⟩ ⟨_,_,(hg cm).trans (if_pos rfl),he.snoc a v n⟩ fun c hc=>⟨.inl hc,?_⟩
 ·have hc:st.n≤c:=hc;rw[hg,if_neg Qe];exact B.fresh c hc
 ·have hF: ¬c=cm:=hF;rw[hg,if_neg hF]
 ·have hc:c=cm:=hc;rw[hc];exact hcm
theorem AT(hK:QG K T)(B:Ql st0 X0 st M Os)(hj:Os[j]? =some (Vn cm key L))(Tk:XQ P t key z)(hm:QE G K m=some (.mp cm))(hk:QE G K k=some (key a))(hx:QE G K x=some v)(hv:Qw v=true)(hn:U1 L a=none)
  (hr: ∀st',Ql st0 X0 st' M (Os.set j (Vn cm key (L++[(a,v)])))→WR P G N ops rest R T st'):WR P G N ops (⟨none,.mapUpdate t m k x,ty,pos,af,none⟩::rest) R T st:=by
 obtain⟨es,n,hc,he⟩:=B.at_ hj;exact Rr hK (RF Tk hc he hm hk hx hv hn) (hr _ (B.G7 hj hc he a v))
theorem yZ(ho:ops[i]? =some ⟨none,.mapUpdate t m k x,ty,pos,af,none⟩)(hK:QG K T)(B:Ql st0 X0 st M Os)(hj:Os[j]? =some (Vn cm key L))(Tk:XQ P t key z)(hm:QE G K m=some (.mp cm))(hk:QE G K k=some (key a))(hx:QE G K x=some v)(hv:Qw v=true)(hn:U1 L a=none)
  (hr: ∀st',Ql st0 X0 st' M (Os.set j (Vn cm key (L++[(a,v)])))→WD P G N ops (r.map (UK ops)) R T st' (st'::sn)):WD P G N ops (((i,0)::r).map (UK ops)) R T st sn:=by
 obtain⟨es,n,hc,he⟩:=B.at_ hj;rw[Y3 ho];exact XU rfl (RF Tk hc he hm hk hx hv hn T hK _ _ _ _ _) rfl (fun e he=>by cases he) (hr _ (B.G7 hj hc he a v))
theorem ja:Uk P G K (.makeMap t none) st (.mp st.n) ⟨st.n+1,st.h.set st.n (.map [] 0)⟩:=.of fun T hT c d ty pos af g=>by
 show VJ st=_;unfold VJ;rw[VF]
theorem Ql.eN(B:Ql st0 X0 st M Os)(key:α→AV):Ql st0 X0 ⟨st.n+1,st.h.set st.n (.map [] 0)⟩ M (Vn st.n key []::Os):=by
 have hg: ∀c,(st.h.set st.n (.map [] 0)).get c=if c=st.n then some (.map [] 0)else st.h.get c:=fun c=>Tr.ZD _ _ _ _
 refine B.new ⟨fun c hc=>?_,Nat.le_succ _,fun c hc=>?_⟩ ⟨[],0,(hg st.n).trans (if_pos rfl),rfl⟩ fun c hc=>?_
 ·have hc:st.n+1≤c:=hc;show(st.h.set st.n _).get c=none;rw[hg,if_neg Qe];exact B.fresh c Qe
 ·show(st.h.set st.n _).get c=_;rw[hg,if_neg Qe]
 ·have hc:c=st.n:=hc;subst hc;exact⟨Nat.le_refl _,Nat.lt_succ_self _⟩
theorem Vy{d:Nat}(key:α→AV)(hK:QG K T)(B:Ql st0 X0 st M Os)(hN:Nat.ble (d+1) N=true)(hr: ∀(c:Nat) T' st',QG ((d,.mp c)::K) T'→Ql st0 X0 st' M (Vn c key []::Os)→WR P G N ops rest R T' st'):WR P G N ops (⟨some d,.makeMap t none,ty,pos,af,none⟩::rest) R T st:=
 Wv hK ja (Nat.le_of_ble_eq_true hN) fun T' hT'=>hr _ T' _ hT' (B.eN key)
end
end
theorem zj:Tryz.prog.underlying 246=some (.map 3 3):=by kernel_rfl
theorem zi:Tryz.prog.underlying 286=some (.map 222 3):=by kernel_rfl
abbrev Iw(x:Int):AV:=.int .i64 x
theorem Fz:XQ Tryz.prog 246 Iw (.int .i64 0):=⟨3,3,.int .i64,zj,wz,by kernel_rfl,fun a=>rfl,fun a i=>rfl,fun a b v n es i=>by
 have e:U7 Tryz.prog 3 (.int .i64) (Iw a) ((Iw b,v,n)::es) i=Qj (A5 a b) (some (some (i,v))) (U7 Tryz.prog 3 (.int .i64) (Iw a) es (i+1)):=by
  refine(XH (.int .i64) (Iw a) (Iw b,v,n) es i).trans ?_;show ob (Q4 (I8 .i64 .i64) (some (A5 a b))) _=_;rw[VN,Q6,Qf];rfl
 rw[e,Ye]
 exact⟨fun h=>by rw[decide_eq_true h];rfl,fun h=>by rw[decide_eq_false h];rfl⟩⟩
abbrev HV(x:Int×Int):AV:=.agg [.int .i64 x.1,.int .i64 x.2]
theorem jJ:XQ Tryz.prog 286 HV (.int .i64 0):=⟨222,3,.array 2 3,zi,E0,by kernel_rfl,fun a=>by
 obtain⟨a1,a2⟩:=a;show aY (UO Tryz.prog 222 [.int .i64 a1,.int .i64 a2] [.int .i64 a1,.int .i64 a2])=true
 rw[Ow,Ye,Ye,decide_eq_true rfl,decide_eq_true rfl];rfl,fun a i=>rfl,fun a b v n es i=>by
 have e:U7 Tryz.prog 222 (.array 2 3) (HV a) ((HV b,v,n)::es) i=ob (D5 Tryz.prog 222 (HV a) (HV b)) fun q=>Qj q (some (some (i,v))) (U7 Tryz.prog 222 (.array 2 3) (HV a) es (i+1)):=by
  exact Wp _ _ _ _ _ _ _
 have e2:D5 Tryz.prog 222 (HV a) (HV b)=some (decide (a=b)):=by
  obtain⟨a1,a2⟩:=a;obtain⟨b1,b2⟩:=b;show VO (UO Tryz.prog 222 [.int .i64 a1,.int .i64 a2] [.int .i64 b1,.int .i64 b2]) [.int .i64 a1,.int .i64 a2] [.int .i64 b1,.int .i64 b2]=_;rw[Ow,Ye,Ye]
  by_cases h1:a1=b1<;>by_cases h2:a2=b2<;>simp[h1,h2,Qs,Qp,VO,NG,LK,VN,Ye,Q6]
 rw[e,e2,Qf]
 exact⟨fun h=>by rw[decide_eq_true h];rfl,fun h=>by rw[decide_eq_false h];rfl⟩⟩
end
section
variable {T h i l t:Nat}

inductive Bn where
 |leaf (v:Int)
 |fork (t l h:Nat)
abbrev JW:=List Bn
def DH(S:JW):Nat→Nat→Nat→Int
 |0,_,_=> -1
 |k+1,i,c=>match S[i]? with
  |some (.leaf v)=>v
  |some (.fork t l h)=>DH S k (if c.testBit t then h else l) c
  |none=> -1
def UH(S:JW)(i c:Nat):Int:=DH S (i+1) i c
def lvl(T:Nat)(S:JW)(i:Nat):Nat:=match S[i]? with
 |some (.fork t _ _)=>t
 |_=>T
structure Zy(T:Nat)(S:JW):Prop where
 nodup:S.Nodup
 fork: ∀(i t l h:Nat),S[i]? =some (.fork t l h)→t<lvl T S l∧t<lvl T S h∧l<i∧h<i∧l≠h∧t<T
 leaf: ∀(i:Nat) (v:Int),S[i]? =some (.leaf v)→0≤v∧v≤1099511627776
theorem Zy.nil(T:Nat):Zy T []:=⟨List.nodup_nil,fun i t l h e=>by simp at e,fun i v e=>by simp at e⟩
theorem CT{S:JW}(W:Zy T S)(c:Nat): ∀i k k',i<k→i<k'→DH S k i c=DH S k' i c:=by
 intro i
 induction i using Nat.strongRecOn with
 |_ i ih=>
  intro k k' h1 h2;obtain⟨k,rfl⟩: ∃x,k=x+1:=⟨k-1,by omega⟩;obtain⟨k',rfl⟩: ∃x,k'=x+1:=⟨k'-1,by omega⟩;unfold DH
  cases hs:S[i]? with
  |none=>rfl
  |some n=>
   cases n with
   |leaf v=>rfl
   |fork t l h=>
    obtain⟨_,_,e1,e2,_⟩:=W.fork _ _ _ _ hs;show DH S k (if c.testBit t then h else l) c=DH S k' (if c.testBit t then h else l) c
    split
    ·exact ih h e2 _ _ Qe Qe
    ·exact ih l e1 _ _ Qe Qe
theorem Vb{S:JW}{v:Int}(h:S[i]? =some (.leaf v))(c:Nat):UH S i c=v:=by
 unfold UH DH;rw[h]
theorem Vc{S:JW}(W:Zy T S)(e:S[i]? =some (.fork t l h))(c:Nat):UH S i c=if c.testBit t then UH S h c else UH S l c:=by
 obtain⟨_,_,e1,e2,_⟩:=W.fork _ _ _ _ e;unfold UH;rw[DH,e];show DH S i (if c.testBit t then h else l) c=_
 split
 ·exact CT W c _ _ _ Qe Qe
 ·exact CT W c _ _ _ Qe Qe
theorem Fw{S:JW}(X:JW)(hi:i<S.length):lvl T (S++X) i=lvl T S i:=by
 unfold lvl;rw[List.getElem?_append_left hi]
theorem eZ{S:JW}(W:Zy T S)(X:JW)(hi:i<S.length)(c:Nat):UH (S++X) i c=UH S i c:=by
 have key: ∀k i,i<S.length→DH (S++X) k i c=DH S k i c:=by
  intro k
  induction k with
  |zero=>intro i _;rfl
  |succ k ih=>
   intro i hi;unfold DH;rw[List.getElem?_append_left hi]
   cases hs:S[i]? with
   |none=>rfl
   |some n=>
    cases n with
    |leaf v=>rfl
    |fork t l h=>
     obtain⟨_,_,e1,e2,_⟩:=W.fork _ _ _ _ hs;show DH (S++X) k (if c.testBit t then h else l) c=DH S k (if c.testBit t then h else l) c
     exact ih _ (by split<;>omega)
 exact key _ _ hi
theorem Y1{S S':JW}(W:Zy T S)(h:S<+:S')(hi:i<S.length)(c:Nat):UH S' i c=UH S i c:=by
 obtain⟨X,rfl⟩:=h;exact eZ W X hi c
theorem Xo{S S':JW}(h:S<+:S')(hi:i<S.length):lvl T S' i=lvl T S i:=by
 obtain⟨X,rfl⟩:=h;exact Fw X hi
theorem G9{S:JW}(W:Zy T S)(i:Nat):lvl T S i≤T:=by
 unfold lvl
 split
 ·rename_i t l h e;have:=W.fork _ _ _ _ e;omega
 ·exact Nat.le_refl _
theorem Ls{S:JW}(W:Zy T S){c c':Nat}: ∀i,(∀t,lvl T S i≤t→t<T→c.testBit t=c'.testBit t)→UH S i c=UH S i c':=by
 intro i
 induction i using Nat.strongRecOn with
 |_ i ih=>
  intro hc
  cases hs:S[i]? with
  |none=>unfold UH DH;rw[hs]
  |some n=>
   cases n with
   |leaf v=>rw[Vb hs,Vb hs]
   |fork t l h=>
    obtain⟨e1,e2,e3,e4,_,e6⟩:=W.fork _ _ _ _ hs
    have hl:lvl T S i=t:=by unfold lvl;rw[hs]
    rw[Vc W hs,Vc W hs,hc t Qe e6]
    split
    ·exact ih h e4 fun s h1 h2=>hc s Qe h2
    ·exact ih l e3 fun s h1 h2=>hc s Qe h2
theorem PI{S:JW}(W:Zy T S)(i c:Nat):UH S i (c % 2^T)=UH S i c:=
 Ls W i fun t _ ht=>by rw[Nat.testBit_mod_two_pow,decide_eq_true ht,Bool.true_and]
def aZ(t c:Nat):Nat:=if c.testBit t then c^^^2^t else c
def aU(t c:Nat):Nat:=if c.testBit t then c else c^^^2^t
theorem aw(t c:Nat):(aZ t c).testBit t=false:=by
 unfold aZ
 split
 ·rename_i h;rw[Nat.testBit_xor,h,Nat.testBit_two_pow_self];rfl
 ·rename_i h;simpa using h
theorem wE(t c:Nat):(aU t c).testBit t=true:=by
 unfold aU
 split
 ·assumption
 ·rename_i h;rw[Nat.testBit_xor,Nat.testBit_two_pow_self];simp[h]
theorem av{s:Nat}(h:s≠t)(c:Nat):(aZ t c).testBit s=c.testBit s:=by
 unfold aZ
 split
 ·rw[Nat.testBit_xor,Nat.testBit_two_pow_of_ne (Ne.symm h)];simp
 ·rfl
theorem wD{s:Nat}(h:s≠t)(c:Nat):(aU t c).testBit s=c.testBit s:=by
 unfold aU
 split
 ·rfl
 ·rw[Nat.testBit_xor,Nat.testBit_two_pow_of_ne (Ne.symm h)];simp
theorem uy{S:JW}(W:Zy T S)(h:t<lvl T S i)(c:Nat):UH S i (aZ t c)=UH S i c:=Ls W i fun s h1 _=>av Qe c
theorem ux{S:JW}(W:Zy T S)(h:t<lvl T S i)(c:Nat):UH S i (aU t c)=UH S i c:=Ls W i fun s h1 _=>wD Qe c
theorem F6{S:JW}(W:Zy T S)(e:S[i]? =some (.fork t l h))(c:Nat):UH S i (aZ t c)=UH S l c:=by
 obtain⟨e1,e2,_⟩:=W.fork _ _ _ _ e;rw[Vc W e,aw,if_neg QA,uy W e1]
theorem EA{S:JW}(W:Zy T S)(e:S[i]? =some (.fork t l h))(c:Nat):UH S i (aU t c)=UH S h c:=by
 obtain⟨e1,e2,_⟩:=W.fork _ _ _ _ e;rw[Vc W e,wE,if_pos rfl,ux W e2]
theorem uz{S:JW}(W:Zy T S): ∀n i j,i+j≤n→i<S.length→j<S.length→(∀c,UH S i c=UH S j c)→i=j:=by
 intro n
 induction n with
 |zero=>intro i j h _ _ _;omega
 |succ n ih=>
  intro i j hn hi hj hc;obtain⟨x,hx⟩: ∃x,S[i]? =some x:=⟨_,List.getElem?_eq_getElem hi⟩;obtain⟨y,hy⟩: ∃y,S[j]? =some y:=⟨_,List.getElem?_eq_getElem hj⟩;have same:x=y→i=j:=fun e=>(List.getElem?_inj hi W.nodup).1 (by rw[hx,hy,e])

  have off: ∀i j t l h,i+j≤n+1→i<S.length→j<S.length→S[i]? =some (.fork t l h)→t<lvl T S j→(∀c,UH S i c=UH S j c)→False:=by
   intro i j t l h hn hi hj e ht hc;obtain⟨e1,e2,e3,e4,e5,_⟩:=W.fork _ _ _ _ e
   have h1:l=j:=ih l j Qe Qe hj fun c=>by rw[←F6 W e,hc,uy W ht]
   have h2:h=j:=ih h j Qe Qe hj fun c=>by rw[←EA W e,hc,ux W ht]
   exact e5 (h1.trans h2.symm)
  have lv: ∀{i t l h},S[i]? =some (.fork t l h)→lvl T S i=t:=fun e=>by unfold lvl;rw[e]
  have lf: ∀{i v},S[i]? =some (.leaf v)→lvl T S i=T:=fun e=>by unfold lvl;rw[e]
  cases x with
  |leaf v=>
   cases y with
   |leaf w=>exact same (by rw[←Vb hx 0,hc,Vb hy])
   |fork t l h=>exact(off j i t l h Qe hj hi hy (by rw[lf hx];exact(W.fork _ _ _ _ hy).2.2.2.2.2) fun c=>(hc c).symm).elim
  |fork t l h=>
   cases y with
   |leaf w=>exact(off i j t l h hn hi hj hx (by rw[lf hy];exact(W.fork _ _ _ _ hx).2.2.2.2.2) hc).elim
   |fork t' l' h'=>
    rcases Nat.lt_trichotomy t t' with ht|ht|ht
    ·exact(off i j t l h hn hi hj hx (by rw[lv hy];exact ht) hc).elim
    ·subst ht;obtain⟨_,_,a3,a4,_⟩:=W.fork _ _ _ _ hx;obtain⟨_,_,b3,b4,_⟩:=W.fork _ _ _ _ hy
     have h1:l=l':=ih l l' Qe Qe Qe fun c=>by rw[←F6 W hx,hc,F6 W hy]
     have h2:h=h':=ih h h' Qe Qe Qe fun c=>by rw[←EA W hx,hc,EA W hy]
     exact same (by rw[h1,h2])
    ·exact(off j i t' l' h' Qe hj hi hy (by rw[lv hx];exact ht) fun c=>(hc c).symm).elim
theorem eX{S:JW}(W:Zy T S){j:Nat}(hi:i<S.length)(hj:j<S.length)(hc: ∀c,c<2^T→UH S i c=UH S j c):i=j:=
 uz W _ i j (Nat.le_refl _) hi hj fun c=>by rw[←PI W,←PI W j,hc _ (Nat.mod_lt _ (Nat.two_pow_pos T))]
def Bo(S:JW)(n:Bn)(i:Nat)(S':JW):Prop:=(S[i]? =some n∧S'=S)∨(n∉S∧i=S.length∧S'=S++[n])
theorem Bo.pre{S S':JW}{n:Bn}(h:Bo S n i S'):S<+:S'∧S'[i]? =some n∧S'.length≤S.length+1:=by
 rcases h with⟨h,rfl⟩|⟨_,rfl,rfl⟩
 ·exact⟨List.prefix_refl _,h,Nat.le_succ _⟩
 ·exact⟨List.prefix_append _ _,by simp,by simp⟩
theorem Bo.wf{S S':JW}{n:Bn}(h:Bo S n i S')(W:Zy T S)(hl: ∀v,n=.leaf v→0≤v∧v≤1099511627776)(hf: ∀t l h,n=.fork t l h→t<lvl T S l∧t<lvl T S h∧l<S.length∧h<S.length∧l≠h∧t<T):Zy T S':=by
 rcases h with⟨_,rfl⟩|⟨h0,rfl,rfl⟩
 ·exact W
 ·refine⟨List.nodup_append.2 ⟨W.nodup,by simp,fun a ha b hb e=>?_⟩,fun i t l h e=>?_,fun i v e=>?_⟩
  ·rw[List.mem_singleton]at hb;subst hb e;exact h0 ha
  ·by_cases hi:i<S.length
   ·rw[List.getElem?_append_left hi]at e;obtain⟨e1,e2,e3,e4,e5,e6⟩:=W.fork _ _ _ _ e;rw[Fw _ Qe,Fw _ Qe];exact⟨e1,e2,e3,e4,e5,e6⟩
   ·have hlt:=(List.getElem?_eq_some_iff.1 e).1;rw[List.length_append,List.length_singleton]at hlt
    have hi:i=S.length:=by omega
    subst hi;rw[List.getElem?_append_right (Nat.le_refl _),Nat.sub_self]at e
    injection e with e
    obtain⟨e1,e2,e3,e4,e5,e6⟩:=hf _ _ _ e;rw[Fw _ e3,Fw _ e4];exact⟨e1,e2,e3,e4,e5,e6⟩
  ·by_cases hi:i<S.length
   ·rw[List.getElem?_append_left hi]at e;exact W.leaf _ _ e
   ·have hlt:=(List.getElem?_eq_some_iff.1 e).1;rw[List.length_append,List.length_singleton]at hlt
    have hi:i=S.length:=by omega
    subst hi;rw[List.getElem?_append_right (Nat.le_refl _),Nat.sub_self]at e
    injection e with e
    exact hl _ e
structure Vj(T:Nat)(S:JW)(k:Nat)(S':JW)(i:Nat):Prop where
 wf:Zy T S'
 pre:S<+:S'
 lt:i<S'.length
 len:S'.length≤S.length+k
theorem xw{S S':JW}{v:Int}(h:Bo S (.leaf v) i S')(W:Zy T S)(hv:0≤v∧v≤1099511627776):Vj T S 1 S' i∧lvl T S' i=T∧ ∀c,UH S' i c=v:=by
 obtain⟨h1,h2,h3⟩:=h.pre;refine⟨⟨h.wf W (fun w e=>by injection e with e;subst e;exact hv) (fun _ _ _ e=>by cases e),h1,(List.getElem?_eq_some_iff.1 h2).1,h3⟩,?_,fun c=>Vb h2 c⟩;unfold lvl;rw[h2]
def lC(S:JW)(t l h i:Nat)(S':JW):Prop:=(l=h∧i=l∧S'=S)∨(l≠h∧Bo S (.fork t l h) i S')
theorem vL{S S':JW}(H:lC S t l h i S')(W:Zy T S)(ht:t<T)(hl:l<S.length)(hh:h<S.length)(h1:t<lvl T S l)(h2:t<lvl T S h):
  Vj T S 1 S' i∧t≤lvl T S' i∧ ∀c,UH S' i c=if c.testBit t then UH S h c else UH S l c:=by
 rcases H with⟨rfl,rfl,rfl⟩|⟨hne,H⟩
 ·exact⟨⟨W,List.prefix_refl _,hl,Nat.le_succ _⟩,by omega,fun c=>by split<;>rfl⟩
 ·obtain⟨k1,k2,k3⟩:=H.pre;have W':=H.wf W (fun _ e=>by cases e) (fun _ _ _ e=>by injection e with e1 e2 e3;subst e1 e2 e3;exact⟨h1,h2,hl,hh,hne,ht⟩);refine⟨⟨W',k1,(List.getElem?_eq_some_iff.1 k2).1,k3⟩,?_,fun c=>?_⟩
  ·unfold lvl;rw[k2];exact Nat.le_refl _
  ·rw[Vc W' k2,Y1 W k1 hl,Y1 W k1 hh]
def Wg(T:Nat)(S:JW)(i:Nat):List Int:=(List.range (2^T)).map fun c=>UH S i c
theorem KC(T:Nat)(S:JW)(i:Nat):(Wg T S i).length=2^T:=by simp[Wg]
theorem BU{c:Nat}(S:JW)(i:Nat)(h:c<2^T):(Wg T S i)[c]? =some (UH S i c):=by
 unfold Wg;rw[List.getElem?_map,List.getElem?_range h];rfl
theorem zA{S:JW}{row:List Int}(hl:row.length=2^T)(h: ∀c,c<2^T→row[c]? =some (UH S i c)):Wg T S i=row:=by
 apply List.ext_getElem?;intro c
 by_cases hc:c<2^T
 ·rw[BU S i hc,h c hc]
 ·rw[List.getElem?_eq_none (by rw[KC];omega),List.getElem?_eq_none Qe]
end
end Go.Proofs.YtildagdnomiahaaGreatDoor
