/-
  Maps by keys of some kind, as things in memory.
-/
import Derived.Test.YtiknomepbklibaaGreatDoorFzMo
set_option linter.unusedSectionVars false
set_option linter.unusedVariables false
section
namespace Go.Proofs.YtiknomepbklibaaGreatDoor
open Go Go.RowKit
set_option maxRecDepth 100000

structure VE(P:Program)(t:TypeId){α:Type}(key:α→AV)(z:AV):Prop where
 rule: ∃kt et d,P.underlying t=some (.map kt et)∧P.underlying kt=some d∧zeroV P et=some z∧(∀a,VZ P kt d (key a)=true)∧(∀a i,Yv P kt d (key a) [] i=some none)∧
  ∀a b v n es i,(a=b→Yv P kt d (key a) ((key b,v,n)::es) i=some (some (i,v)))∧(a≠b→Yv P kt d (key a) ((key b,v,n)::es) i=Yv P kt d (key a) es (i+1))
section
variable {α:Type} {key:α→AV}
def NM(key:α→AV)(es:List (AV×AV×Nat))(L:List (α×AV)):Prop:=es.map va=L.map fun x=>(key x.1,x.2)
open Classical in
noncomputable def Yk:List (α×AV)→α→Option AV
 |[],_=>none
 |x::L,a=>if x.1=a then some x.2 else Yk L a
theorem KU: ∀{L:List (α×AV)} {a:α} {v:AV},Yk L a=some v→(a,v)∈L
 |[],a,v,h=>by cases h
 |x::L,a,v,h=>by
  rw[Yk]at h
  split at h
  ·rename_i e
   injection h with h
   subst e h;simp
  ·exact List.mem_cons_of_mem _ (KU h)
theorem LY: ∀{L:List (α×AV)} {a:α},Yk L a=none→ ∀v,(a,v)∉L
 |[],a,_,v=>by simp
 |x::L,a,h,v=>by
  rw[Yk]at h
  split at h
  ·cases h
  ·rename_i e;intro hm;rcases List.mem_cons.1 hm with e'|hm
   ·exact e (by rw[←e'])
   ·exact LY h v hm
theorem NM.snoc{es:List (AV×AV×Nat)}{L:List (α×AV)}(h:NM key es L)(a:α)(v:AV)(n:Nat):NM key (es++[(key a,v,n)]) (L++[(a,v)]):=by
 unfold NM at h ⊢;rw[List.map_append,List.map_append,h];rfl
theorem VE.find{P:Program}{t:TypeId}{z:AV}{kt et:TypeId}{d:TypeDesc}(h0: ∀a i,Yv P kt d (key a) [] i=some none)(h1: ∀a b v n es i,(a=b→Yv P kt d (key a) ((key b,v,n)::es) i=some (some (i,v)))∧(a≠b→Yv P kt d (key a) ((key b,v,n)::es) i=Yv P kt d (key a) es (i+1)))(a:α): ∀(L:List (α×AV)) (es:List (AV×AV×Nat)) (i:Nat),NM key es L→
  (Yk L a=none→Yv P kt d (key a) es i=some none)∧ ∀v,Yk L a=some v→ ∃j,Yv P kt d (key a) es i=some (some (j,v))
 |[],es,i,h=>by
  cases es with
  |nil=>exact⟨fun _=>h0 a i,fun v hv=>(by cases hv)⟩
  |cons e es=>cases h
 |x::L,es,i,h=>by
  cases es with
  |nil=>cases h
  |cons e es=>
   obtain⟨e1,e2,e3⟩:=e;unfold NM at h;rw[List.map_cons,List.map_cons]at h
   injection h with h h'
   injection h with h3 h4
   have h3:e1=key x.1:=h3;have h4:e2=x.2:=h4;subst h3 h4;obtain⟨k1,k2⟩:=h1 a x.1 x.2 e3 es i;rw[Yk]
   split
   ·rename_i e;exact⟨fun h=>(by cases h),fun v hv=>(by injection hv with hv;subst hv;exact⟨i,k1 e.symm⟩)⟩
   ·rename_i e;rw[k2 fun h=>e h.symm];exact VE.find (t:=t) (z:=z) (et:=et) h0 h1 a L es (i+1) h'
def VY(cm:Nat)(key:α→AV)(L:List (α×AV)):Ob:=⟨fun c=>c=cm,fun h=> ∃es n,h cm=some (.map es n)∧NM key es L,fun h h' e ⟨es,n,h1,h2⟩=>⟨es,n,by rw[e cm rfl];exact h1,h2⟩⟩
theorem Wz{P:Program}{G:Env}{K:List (Nat×AV)}{st:St}{t:TypeId}{z:AV}(T:VE P t key z){cm:Nat}{L:List (α×AV)}{a:α}{m k:Operand}(hH:(VY cm key L).H st.h.get)(hm:QX G K m=some (.mp cm))(hk:QX G K k=some (key a)):
  U3 P G K (.lookup t m k true) st (.tup [(Yk L a).getD z,.bool (Yk L a).isSome]) st:=.of fun T' hT c d ty pos af g=>by
 obtain⟨kt,et,d',u1,u2,u3,u4,u5,u6⟩:=T.rule;obtain⟨es,n,hc,he⟩:=hH;show(ob (QI G T' m) fun m=>ob (QI G T' k) fun k=>ret (Vb P t m k true st.h.get) st)=_;rw[hT.QI hm,hT.QI hk,Ql,Ql];unfold Vb;obtain⟨f1,f2⟩:=VE.find (P:=P) (t:=t) (z:=z) (et:=et) u5 u6 a L es 0 he;simp only[u1,u2,u4,QO,hc,Ql]
 cases hl:Yk L a with
 |none=>rw[f1 hl];simp only[Ql,u3,Option.getD_none,Option.isSome_none];rfl
 |some v=>
  obtain⟨j,f⟩:=f2 v hl;rw[f];rfl
noncomputable def EP(st:St)(cm n:Nat)(es:List (AV×AV×Nat))(k v:AV):St:=⟨st.n,st.h.set cm (.map (es++[(k,v,n)]) (n+1))⟩
theorem Sq{P:Program}{G:Env}{K:List (Nat×AV)}{st:St}{t:TypeId}{z:AV}(T:VE P t key z){cm n:Nat}{es:List (AV×AV×Nat)}{L:List (α×AV)}{a:α}{v:AV}{m k x:Operand}(hc:st.h.get cm=some (.map es n))(he:NM key es L)(hm:QX G K m=some (.mp cm))(hk:QX G K k=some (key a))(hx:QX G K x=some v)(hv:Qu v=true)(hn:Yk L a=none):
  U3 P G K (.mapUpdate t m k x) st (.tup []) (EP st cm n es (key a) v):=.of fun T' hT c d ty pos af g=>by
 obtain⟨kt,et,d',u1,u2,u3,u4,u5,u6⟩:=T.rule;show(ob (QI G T' m) fun m=>ob (QI G T' k) fun k=>ob (QI G T' x) fun x=>Zv P t m k x st)=_;rw[hT.QI hm,hT.QI hk,hT.QI hx,Ql,Ql,Ql];unfold Zv EP;obtain⟨f1,f2⟩:=VE.find (P:=P) (t:=t) (z:=z) (et:=et) u5 u6 a L es 0 he;simp only[u1,u2,u4,QO,hc,Ql,f1 hn,hv,Bool.true_or,JX,U6,Jg,UJ]
section
variable {P:Program} {G:Env} {N:Nat} {st0 st:St} {X0:Fp} {M:QU} {Os:List Ob} {T:Tr AV} {ops rest:List Oper} {K:List (Nat×AV)} {R:Tr AV→St→Prop} {t ty:TypeId} {pos:String} {af:Array Edge} {z v:AV} {cm j:Nat} {L:List (α×AV)} {a:α} {m k x:Operand} {sn:List St} {i:Nat} {r:List (Nat×Nat)}
theorem Qk.Bm(B:Qk st0 X0 st M Os)(hj:Os[j]? =some (VY cm key L)){es:List (AV×AV×Nat)}{n:Nat}(hc:st.h.get cm=some (.map es n))(he:NM key es L)(a:α)(v:AV):Qk st0 X0 (EP st cm n es (key a) v) M (Os.set j (VY cm key (L++[(a,v)]))):=by
 have hg: ∀c,(EP st cm n es (key a) v).h.get c=if c=cm then some (.map (es++[(key a,v,n)]) (n+1))else st.h.get c:=fun c=>Tr.VK _ _ _ _
 have hcm:cm<st.n:=B.Yu hj cm rfl;refine B.call hj ⟨fun c hc=>?_,Nat.le_refl _,fun c hc hF=>?_⟩ ⟨_,_,(hg cm).trans (if_pos rfl),he.snoc a v n⟩ fun c hc=>⟨.inl hc,?_⟩
 ·have hc:st.n≤c:=hc;rw[hg,if_neg Qe];exact B.fresh c hc
 ·have hF: ¬c=cm:=hF;rw[hg,if_neg hF]
 ·have hc:c=cm:=hc;rw[hc];exact hcm
theorem Hb(hK:QY K T)(B:Qk st0 X0 st M Os)(hj:Os[j]? =some (VY cm key L))(Tk:VE P t key z)(hm:QX G K m=some (.mp cm))(hk:QX G K k=some (key a))(hx:QX G K x=some v)(hv:Qu v=true)(hn:Yk L a=none)
  (hr: ∀st',Qk st0 X0 st' M (Os.set j (VY cm key (L++[(a,v)])))→WR P G N ops rest R T st'):WR P G N ops (⟨none,.mapUpdate t m k x,ty,pos,af,none⟩::rest) R T st:=by
 obtain⟨es,n,hc,he⟩:=B.at_ hj;exact RH hK (Sq Tk hc he hm hk hx hv hn) (hr _ (B.Bm hj hc he a v))
theorem y5(ho:ops[i]? =some ⟨none,.mapUpdate t m k x,ty,pos,af,none⟩)(hK:QY K T)(B:Qk st0 X0 st M Os)(hj:Os[j]? =some (VY cm key L))(Tk:VE P t key z)(hm:QX G K m=some (.mp cm))(hk:QX G K k=some (key a))(hx:QX G K x=some v)(hv:Qu v=true)(hn:Yk L a=none)
  (hr: ∀st',Qk st0 X0 st' M (Os.set j (VY cm key (L++[(a,v)])))→WD P G N ops (r.map (Yl ops)) R T st' (st'::sn)):WD P G N ops (((i,0)::r).map (Yl ops)) R T st sn:=by
 obtain⟨es,n,hc,he⟩:=B.at_ hj;rw[Y9 ho];exact Xq rfl (Sq Tk hc he hm hk hx hv hn T hK _ _ _ _ _) rfl (fun e he=>by cases he) (hr _ (B.Bm hj hc he a v))
theorem qX:U3 P G K (.makeMap t none) st (.mp st.n) ⟨st.n+1,st.h.set st.n (.map [] 0)⟩:=.of fun T hT c d ty pos af g=>by
 show W7 st=_;unfold W7;rw[W3]
theorem Qk.vK(B:Qk st0 X0 st M Os)(key:α→AV):Qk st0 X0 ⟨st.n+1,st.h.set st.n (.map [] 0)⟩ M (VY st.n key []::Os):=by
 have hg: ∀c,(st.h.set st.n (.map [] 0)).get c=if c=st.n then some (.map [] 0)else st.h.get c:=fun c=>Tr.VK _ _ _ _
 refine B.new ⟨fun c hc=>?_,Nat.le_succ _,fun c hc=>?_⟩ ⟨[],0,(hg st.n).trans (if_pos rfl),rfl⟩ fun c hc=>?_
 ·have hc:st.n+1≤c:=hc;show(st.h.set st.n _).get c=none;rw[hg,if_neg Qe];exact B.fresh c Qe
 ·show(st.h.set st.n _).get c=_;rw[hg,if_neg Qe]
 ·have hc:c=st.n:=hc;subst hc;exact⟨Nat.le_refl _,Nat.lt_succ_self _⟩
theorem Wn{d:Nat}(key:α→AV)(hK:QY K T)(B:Qk st0 X0 st M Os)(hN:Nat.ble (d+1) N=true)(hr: ∀(c:Nat) T' st',QY ((d,.mp c)::K) T'→Qk st0 X0 st' M (VY c key []::Os)→WR P G N ops rest R T' st'):WR P G N ops (⟨some d,.makeMap t none,ty,pos,af,none⟩::rest) R T st:=
 Eo hK qX (Nat.le_of_ble_eq_true hN) fun T' hT'=>hr _ T' _ hT' (B.vK key)
end
end
theorem yD:Tryz.prog.underlying 141=some (.map 3 3):=by kernel_rfl
theorem yC:Tryz.prog.underlying 172=some (.map 177 3):=by kernel_rfl
abbrev Kr(x:Int):AV:=.int .i64 x
theorem H3:VE Tryz.prog 141 Kr (.int .i64 0):=⟨3,3,.int .i64,yD,Yg,by kernel_rfl,fun a=>rfl,fun a i=>rfl,fun a b v n es i=>by
 have e:Yv Tryz.prog 3 (.int .i64) (Kr a) ((Kr b,v,n)::es) i=Qo (F9 a b) (some (some (i,v))) (Yv Tryz.prog 3 (.int .i64) (Kr a) es (i+1)):=by
  refine(Vz (.int .i64) (Kr a) (Kr b,v,n) es i).trans ?_;show ob (QN (O4 .i64 .i64) (some (F9 a b))) _=_;rw[WA,QO,Ql];rfl
 rw[e,Yr]
 exact⟨fun h=>by rw[decide_eq_true h];rfl,fun h=>by rw[decide_eq_false h];rfl⟩⟩
abbrev IN(x:Int×Int):AV:=.agg [.int .i64 x.1,.int .i64 x.2]
theorem jK:VE Tryz.prog 172 IN (.int .i64 0):=⟨177,3,.array 2 3,yC,A4,by kernel_rfl,fun a=>by
 obtain⟨a1,a2⟩:=a;show wD (Yw Tryz.prog 177 [.int .i64 a1,.int .i64 a2] [.int .i64 a1,.int .i64 a2])=true
 rw[Gm,Yr,Yr,decide_eq_true rfl,decide_eq_true rfl];rfl,fun a i=>rfl,fun a b v n es i=>by
 have e:Yv Tryz.prog 177 (.array 2 3) (IN a) ((IN b,v,n)::es) i=ob (DT Tryz.prog 177 (IN a) (IN b)) fun q=>Qo q (some (some (i,v))) (Yv Tryz.prog 177 (.array 2 3) (IN a) es (i+1)):=by
  exact Ee _ _ _ _ _ _ _
 have e2:DT Tryz.prog 177 (IN a) (IN b)=some (decide (a=b)):=by
  obtain⟨a1,a2⟩:=a;obtain⟨b1,b2⟩:=b;show WB (Yw Tryz.prog 177 [.int .i64 a1,.int .i64 a2] [.int .i64 b1,.int .i64 b2]) [.int .i64 a1,.int .i64 a2] [.int .i64 b1,.int .i64 b2]=_;rw[Gm,Yr,Yr]
  by_cases h1:a1=b1<;>by_cases h2:a2=b2<;>simp[h1,h2,Q6,Qx,WB,O7,NF,WA,Yr,QO]
 rw[e,e2,Ql]
 exact⟨fun h=>by rw[decide_eq_true h];rfl,fun h=>by rw[decide_eq_false h];rfl⟩⟩
end Go.Proofs.YtiknomepbklibaaGreatDoor
end
section
namespace Go.Proofs.YtiknomepbklibaaGreatDoor
variable {T h i l t:Nat}

inductive Bn where
 |leaf (v:Int)
 |fork (t l h:Nat)
abbrev UG:=List Bn
def Pk(S:UG):Nat→Nat→Nat→Int
 |0,_,_=> -1
 |k+1,i,c=>match S[i]? with
  |some (.leaf v)=>v
  |some (.fork t l h)=>Pk S k (if c.testBit t then h else l) c
  |none=> -1
def Y6(S:UG)(i c:Nat):Int:=Pk S (i+1) i c
def lvl(T:Nat)(S:UG)(i:Nat):Nat:=match S[i]? with
 |some (.fork t _ _)=>t
 |_=>T
structure Xg(T:Nat)(S:UG):Prop where
 nodup:S.Nodup
 fork: ∀(i t l h:Nat),S[i]? =some (.fork t l h)→t<lvl T S l∧t<lvl T S h∧l<i∧h<i∧l≠h∧t<T
 leaf: ∀(i:Nat) (v:Int),S[i]? =some (.leaf v)→0≤v∧v≤1099511627776
theorem Xg.nil(T:Nat):Xg T []:=⟨List.nodup_nil,fun i t l h e=>by simp at e,fun i v e=>by simp at e⟩
theorem Dx{S:UG}(W:Xg T S)(c:Nat): ∀i k k',i<k→i<k'→Pk S k i c=Pk S k' i c:=by
 intro i
 induction i using Nat.strongRecOn with
 |_ i ih=>
  intro k k' h1 h2;obtain⟨k,rfl⟩: ∃x,k=x+1:=⟨k-1,by omega⟩;obtain⟨k',rfl⟩: ∃x,k'=x+1:=⟨k'-1,by omega⟩;unfold Pk
  cases hs:S[i]? with
  |none=>rfl
  |some n=>
   cases n with
   |leaf v=>rfl
   |fork t l h=>
    obtain⟨_,_,e1,e2,_⟩:=W.fork _ _ _ _ hs;show Pk S k (if c.testBit t then h else l) c=Pk S k' (if c.testBit t then h else l) c
    split
    ·exact ih h e2 _ _ Qe Qe
    ·exact ih l e1 _ _ Qe Qe
theorem VM{S:UG}{v:Int}(h:S[i]? =some (.leaf v))(c:Nat):Y6 S i c=v:=by
 unfold Y6 Pk;rw[h]
theorem VN{S:UG}(W:Xg T S)(e:S[i]? =some (.fork t l h))(c:Nat):Y6 S i c=if c.testBit t then Y6 S h c else Y6 S l c:=by
 obtain⟨_,_,e1,e2,_⟩:=W.fork _ _ _ _ e;unfold Y6;rw[Pk,e];show Pk S i (if c.testBit t then h else l) c=_
 split
 ·exact Dx W c _ _ _ Qe Qe
 ·exact Dx W c _ _ _ Qe Qe
theorem Hw{S:UG}(X:UG)(hi:i<S.length):lvl T (S++X) i=lvl T S i:=by
 unfold lvl;rw[List.getElem?_append_left hi]
theorem vR{S:UG}(W:Xg T S)(X:UG)(hi:i<S.length)(c:Nat):Y6 (S++X) i c=Y6 S i c:=by
 have key: ∀k i,i<S.length→Pk (S++X) k i c=Pk S k i c:=by
  intro k
  induction k with
  |zero=>intro i _;rfl
  |succ k ih=>
   intro i hi;unfold Pk;rw[List.getElem?_append_left hi]
   cases hs:S[i]? with
   |none=>rfl
   |some n=>
    cases n with
    |leaf v=>rfl
    |fork t l h=>
     obtain⟨_,_,e1,e2,_⟩:=W.fork _ _ _ _ hs;show Pk (S++X) k (if c.testBit t then h else l) c=Pk S k (if c.testBit t then h else l) c
     exact ih _ (by split<;>omega)
 exact key _ _ hi
theorem Zm{S S':UG}(W:Xg T S)(h:S<+:S')(hi:i<S.length)(c:Nat):Y6 S' i c=Y6 S i c:=by
 obtain⟨X,rfl⟩:=h;exact vR W X hi c
theorem Va{S S':UG}(h:S<+:S')(hi:i<S.length):lvl T S' i=lvl T S i:=by
 obtain⟨X,rfl⟩:=h;exact Hw X hi
theorem Bs{S:UG}(W:Xg T S)(i:Nat):lvl T S i≤T:=by
 unfold lvl
 split
 ·rename_i t l h e;have:=W.fork _ _ _ _ e;omega
 ·exact Nat.le_refl _
theorem Nt{S:UG}(W:Xg T S){c c':Nat}: ∀i,(∀t,lvl T S i≤t→t<T→c.testBit t=c'.testBit t)→Y6 S i c=Y6 S i c':=by
 intro i
 induction i using Nat.strongRecOn with
 |_ i ih=>
  intro hc
  cases hs:S[i]? with
  |none=>unfold Y6 Pk;rw[hs]
  |some n=>
   cases n with
   |leaf v=>rw[VM hs,VM hs]
   |fork t l h=>
    obtain⟨e1,e2,e3,e4,_,e6⟩:=W.fork _ _ _ _ hs
    have hl:lvl T S i=t:=by unfold lvl;rw[hs]
    rw[VN W hs,VN W hs,hc t Qe e6]
    split
    ·exact ih h e4 fun s h1 h2=>hc s Qe h2
    ·exact ih l e3 fun s h1 h2=>hc s Qe h2
theorem Ri{S:UG}(W:Xg T S)(i c:Nat):Y6 S i (c % 2^T)=Y6 S i c:=
 Nt W i fun t _ ht=>by rw[Nat.testBit_mod_two_pow,decide_eq_true ht,Bool.true_and]
def wE(t c:Nat):Nat:=if c.testBit t then c^^^2^t else c
def wA(t c:Nat):Nat:=if c.testBit t then c else c^^^2^t
theorem wa(t c:Nat):(wE t c).testBit t=false:=by
 unfold wE
 split
 ·rename_i h;rw[Nat.testBit_xor,h,Nat.testBit_two_pow_self];rfl
 ·rename_i h;simpa using h
theorem xX(t c:Nat):(wA t c).testBit t=true:=by
 unfold wA
 split
 ·assumption
 ·rename_i h;rw[Nat.testBit_xor,Nat.testBit_two_pow_self];simp[h]
theorem vZ{s:Nat}(h:s≠t)(c:Nat):(wE t c).testBit s=c.testBit s:=by
 unfold wE
 split
 ·rw[Nat.testBit_xor,Nat.testBit_two_pow_of_ne (Ne.symm h)];simp
 ·rfl
theorem xW{s:Nat}(h:s≠t)(c:Nat):(wA t c).testBit s=c.testBit s:=by
 unfold wA
 split
 ·rfl
 ·rw[Nat.testBit_xor,Nat.testBit_two_pow_of_ne (Ne.symm h)];simp
theorem uo{S:UG}(W:Xg T S)(h:t<lvl T S i)(c:Nat):Y6 S i (wE t c)=Y6 S i c:=Nt W i fun s h1 _=>vZ Qe c
theorem um{S:UG}(W:Xg T S)(h:t<lvl T S i)(c:Nat):Y6 S i (wA t c)=Y6 S i c:=Nt W i fun s h1 _=>xW Qe c
theorem H8{S:UG}(W:Xg T S)(e:S[i]? =some (.fork t l h))(c:Nat):Y6 S i (wE t c)=Y6 S l c:=by
 obtain⟨e1,e2,_⟩:=W.fork _ _ _ _ e;rw[VN W e,wa,if_neg QE,uo W e1]
theorem AF{S:UG}(W:Xg T S)(e:S[i]? =some (.fork t l h))(c:Nat):Y6 S i (wA t c)=Y6 S h c:=by
 obtain⟨e1,e2,_⟩:=W.fork _ _ _ _ e;rw[VN W e,xX,if_pos rfl,um W e2]
theorem uq{S:UG}(W:Xg T S): ∀n i j,i+j≤n→i<S.length→j<S.length→(∀c,Y6 S i c=Y6 S j c)→i=j:=by
 intro n
 induction n with
 |zero=>intro i j h _ _ _;omega
 |succ n ih=>
  intro i j hn hi hj hc;obtain⟨x,hx⟩: ∃x,S[i]? =some x:=⟨_,List.getElem?_eq_getElem hi⟩;obtain⟨y,hy⟩: ∃y,S[j]? =some y:=⟨_,List.getElem?_eq_getElem hj⟩;have same:x=y→i=j:=fun e=>(List.getElem?_inj hi W.nodup).1 (by rw[hx,hy,e])

  have off: ∀i j t l h,i+j≤n+1→i<S.length→j<S.length→S[i]? =some (.fork t l h)→t<lvl T S j→(∀c,Y6 S i c=Y6 S j c)→False:=by
   intro i j t l h hn hi hj e ht hc;obtain⟨e1,e2,e3,e4,e5,_⟩:=W.fork _ _ _ _ e
   have h1:l=j:=ih l j Qe Qe hj fun c=>by rw[←H8 W e,hc,uo W ht]
   have h2:h=j:=ih h j Qe Qe hj fun c=>by rw[←AF W e,hc,um W ht]
   exact e5 (h1.trans h2.symm)
  have lv: ∀{i t l h},S[i]? =some (.fork t l h)→lvl T S i=t:=fun e=>by unfold lvl;rw[e]
  have lf: ∀{i v},S[i]? =some (.leaf v)→lvl T S i=T:=fun e=>by unfold lvl;rw[e]
  cases x with
  |leaf v=>
   cases y with
   |leaf w=>exact same (by rw[←VM hx 0,hc,VM hy])
   |fork t l h=>exact(off j i t l h Qe hj hi hy (by rw[lf hx];exact(W.fork _ _ _ _ hy).2.2.2.2.2) fun c=>(hc c).symm).elim
  |fork t l h=>
   cases y with
   |leaf w=>exact(off i j t l h hn hi hj hx (by rw[lf hy];exact(W.fork _ _ _ _ hx).2.2.2.2.2) hc).elim
   |fork t' l' h'=>
    rcases Nat.lt_trichotomy t t' with ht|ht|ht
    ·exact(off i j t l h hn hi hj hx (by rw[lv hy];exact ht) hc).elim
    ·subst ht;obtain⟨_,_,a3,a4,_⟩:=W.fork _ _ _ _ hx;obtain⟨_,_,b3,b4,_⟩:=W.fork _ _ _ _ hy
     have h1:l=l':=ih l l' Qe Qe Qe fun c=>by rw[←H8 W hx,hc,H8 W hy]
     have h2:h=h':=ih h h' Qe Qe Qe fun c=>by rw[←AF W hx,hc,AF W hy]
     exact same (by rw[h1,h2])
    ·exact(off j i t' l' h' Qe hj hi hy (by rw[lv hx];exact ht) fun c=>(hc c).symm).elim
theorem vQ{S:UG}(W:Xg T S){j:Nat}(hi:i<S.length)(hj:j<S.length)(hc: ∀c,c<2^T→Y6 S i c=Y6 S j c):i=j:=
 uq W _ i j (Nat.le_refl _) hi hj fun c=>by rw[←Ri W,←Ri W j,hc _ (Nat.mod_lt _ (Nat.two_pow_pos T))]
def BU(S:UG)(n:Bn)(i:Nat)(S':UG):Prop:=(S[i]? =some n∧S'=S)∨(n∉S∧i=S.length∧S'=S++[n])
theorem BU.pre{S S':UG}{n:Bn}(h:BU S n i S'):S<+:S'∧S'[i]? =some n∧S'.length≤S.length+1:=by
 rcases h with⟨h,rfl⟩|⟨_,rfl,rfl⟩
 ·exact⟨List.prefix_refl _,h,Nat.le_succ _⟩
 ·exact⟨List.prefix_append _ _,by simp,by simp⟩
theorem BU.wf{S S':UG}{n:Bn}(h:BU S n i S')(W:Xg T S)(hl: ∀v,n=.leaf v→0≤v∧v≤1099511627776)(hf: ∀t l h,n=.fork t l h→t<lvl T S l∧t<lvl T S h∧l<S.length∧h<S.length∧l≠h∧t<T):Xg T S':=by
 rcases h with⟨_,rfl⟩|⟨h0,rfl,rfl⟩
 ·exact W
 ·refine⟨List.nodup_append.2 ⟨W.nodup,by simp,fun a ha b hb e=>?_⟩,fun i t l h e=>?_,fun i v e=>?_⟩
  ·rw[List.mem_singleton]at hb;subst hb e;exact h0 ha
  ·by_cases hi:i<S.length
   ·rw[List.getElem?_append_left hi]at e;obtain⟨e1,e2,e3,e4,e5,e6⟩:=W.fork _ _ _ _ e;rw[Hw _ Qe,Hw _ Qe];exact⟨e1,e2,e3,e4,e5,e6⟩
   ·have hlt:=(List.getElem?_eq_some_iff.1 e).1;rw[List.length_append,List.length_singleton]at hlt
    have hi:i=S.length:=by omega
    subst hi;rw[List.getElem?_append_right (Nat.le_refl _),Nat.sub_self]at e
    injection e with e
    obtain⟨e1,e2,e3,e4,e5,e6⟩:=hf _ _ _ e;rw[Hw _ e3,Hw _ e4];exact⟨e1,e2,e3,e4,e5,e6⟩
  ·by_cases hi:i<S.length
   ·rw[List.getElem?_append_left hi]at e;exact W.leaf _ _ e
   ·have hlt:=(List.getElem?_eq_some_iff.1 e).1;rw[List.length_append,List.length_singleton]at hlt
    have hi:i=S.length:=by omega
    subst hi;rw[List.getElem?_append_right (Nat.le_refl _),Nat.sub_self]at e
    injection e with e
    exact hl _ e
structure VQ(T:Nat)(S:UG)(k:Nat)(S':UG)(i:Nat):Prop where
 wf:Xg T S'
 pre:S<+:S'
 lt:i<S'.length
 len:S'.length≤S.length+k
theorem zF{S S':UG}{v:Int}(h:BU S (.leaf v) i S')(W:Xg T S)(hv:0≤v∧v≤1099511627776):VQ T S 1 S' i∧lvl T S' i=T∧ ∀c,Y6 S' i c=v:=by
 obtain⟨h1,h2,h3⟩:=h.pre;refine⟨⟨h.wf W (fun w e=>by injection e with e;subst e;exact hv) (fun _ _ _ e=>by cases e),h1,(List.getElem?_eq_some_iff.1 h2).1,h3⟩,?_,fun c=>VM h2 c⟩;unfold lvl;rw[h2]
def aE(S:UG)(t l h i:Nat)(S':UG):Prop:=(l=h∧i=l∧S'=S)∨(l≠h∧BU S (.fork t l h) i S')
theorem xz{S S':UG}(H:aE S t l h i S')(W:Xg T S)(ht:t<T)(hl:l<S.length)(hh:h<S.length)(h1:t<lvl T S l)(h2:t<lvl T S h):
  VQ T S 1 S' i∧t≤lvl T S' i∧ ∀c,Y6 S' i c=if c.testBit t then Y6 S h c else Y6 S l c:=by
 rcases H with⟨rfl,rfl,rfl⟩|⟨hne,H⟩
 ·exact⟨⟨W,List.prefix_refl _,hl,Nat.le_succ _⟩,by omega,fun c=>by split<;>rfl⟩
 ·obtain⟨k1,k2,k3⟩:=H.pre;have W':=H.wf W (fun _ e=>by cases e) (fun _ _ _ e=>by injection e with e1 e2 e3;subst e1 e2 e3;exact⟨h1,h2,hl,hh,hne,ht⟩);refine⟨⟨W',k1,(List.getElem?_eq_some_iff.1 k2).1,k3⟩,?_,fun c=>?_⟩
  ·unfold lvl;rw[k2];exact Nat.le_refl _
  ·rw[VN W' k2,Zm W k1 hl,Zm W k1 hh]
def WQ(T:Nat)(S:UG)(i:Nat):List Int:=(List.range (2^T)).map fun c=>Y6 S i c
theorem Ly(T:Nat)(S:UG)(i:Nat):(WQ T S i).length=2^T:=by simp[WQ]
theorem CA{c:Nat}(S:UG)(i:Nat)(h:c<2^T):(WQ T S i)[c]? =some (Y6 S i c):=by
 unfold WQ;rw[List.getElem?_map,List.getElem?_range h];rfl
theorem yU{S:UG}{row:List Int}(hl:row.length=2^T)(h: ∀c,c<2^T→row[c]? =some (Y6 S i c)):WQ T S i=row:=by
 apply List.ext_getElem?;intro c
 by_cases hc:c<2^T
 ·rw[CA S i hc,h c hc]
 ·rw[List.getElem?_eq_none (by rw[Ly];omega),List.getElem?_eq_none Qe]
end Go.Proofs.YtiknomepbklibaaGreatDoor
end
