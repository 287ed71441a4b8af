/-
  A function by a table (chapter 17).
-/
import Derived.Test.YtiknomepbklibaaGreatDoorFzEnt
namespace Go.Proofs.YtiknomepbklibaaGreatDoor
open Go Go.RowKit
set_option maxHeartbeats 8000000
set_option linter.unusedVariables false
set_option linter.unusedSimpArgs false
set_option linter.unnecessarySimpa false
set_option linter.unusedSectionVars false
set_option maxRecDepth 100000
variable {Tn c3 c5 xm:Nat} {kt:AV}

structure XC(T:Nat)(S:UG)(cl:List Int)(i r:Nat):Prop where
 lt:r<S.length
 lv:lvl T S i≤lvl T S r
 ev: ∀c,Y6 S r c=cv cl (Y6 S i c).toNat
section
variable {T:Nat} {S S':UG} {cl:List Int} {L:List ((Nat×Nat)×AV)} {i r:Nat}
theorem XC.pre(H:XC T S cl i r)(W:Xg T S)(h:S<+:S')(hi:i<S.length):XC T S' cl i r:=
 ⟨Nat.lt_of_lt_of_le H.lt h.length_le,by rw[Va h hi,Va h H.lt];exact H.lv,fun c=>by rw[Zm W h H.lt,Zm W h hi];exact H.ev c⟩
def Wk(T:Nat)(S:UG)(cl:List Int)(L:List ((Nat×Nat)×AV)):Prop:= ∀a b v,((a,b),v)∈L→a=b∧a<S.length∧ ∃r:Nat,v=.int .i64 (r:Nat)∧XC T S cl a r
theorem Wk.pre(H:Wk T S cl L)(W:Xg T S)(h:S<+:S'):Wk T S' cl L:=fun a b v hm=>by
 obtain⟨h1,h2,r,h3,h4⟩:=H a b v hm;exact⟨h1,Nat.lt_of_lt_of_le h2 h.length_le,r,h3,h4.pre W h h2⟩
theorem Wk.put(H:Wk T S cl L)(hi:i<S.length)(h:XC T S cl i r):Wk T S cl (L++[((i,i),.int .i64 (r:Nat))]):=fun a b v hm=>by
 rcases List.mem_append.1 hm with hm|hm
 ·exact H a b v hm
 ·have e:=List.mem_singleton.1 hm
  injection e with e1 e2
  injection e1 with e1 e3
  subst e1 e3;exact⟨rfl,hi,r,e2,h⟩
theorem Wk.found(H:Wk T S cl L){v:AV}(h:Yk L (i,i)=some v): ∃r:Nat,v=.int .i64 (r:Nat)∧XC T S cl i r:=(H _ _ _ (KU h)).2.2
theorem XC.leaf(W:Xg T S){v x:Int}(hi:S[i]? =some (.leaf v))(hx:x=cv cl v.toNat)(hr:r<S'.length)(h:S<+:S')(hl:lvl T S' r=T)(he: ∀c,Y6 S' r c=x):XC T S' cl i r:=by
 have hlt:=(List.getElem?_eq_some_iff.1 hi).1;refine⟨hr,?_,fun c=>?_⟩
 ·rw[hl,Va h hlt];exact Bs W i
 ·rw[he,Zm W h hlt,VM hi,hx]
theorem XC.fork(W:Xg T S){t l k rl rk:Nat}(hi:S[i]? =some (.fork t l k))(h:S<+:S')(hr:r<S'.length)(h1:XC T S' cl l rl)(h2:XC T S' cl k rk)(hl:t≤lvl T S' r)(he: ∀c,Y6 S' r c=if c.testBit t then Y6 S' rk c else Y6 S' rl c):XC T S' cl i r:=by
 have hlt:=(List.getElem?_eq_some_iff.1 hi).1;obtain⟨a1,a2,a3,a4,_⟩:=W.fork _ _ _ _ hi;refine⟨hr,?_,fun c=>?_⟩
 ·rw[Va h hlt];refine Nat.le_trans ?_ hl;unfold lvl;rw[hi];exact Nat.le_refl _
 ·rw[he,Zm W h hlt,VN W hi,h1.ev,h2.ev,Zm W h (Nat.lt_trans a3 hlt),Zm W h (Nat.lt_trans a4 hlt)]
  split<;>rfl
end
def eG(st:St)(X:Fp)(Q:Hp→Prop):Prop:= ∀h':Hp,(∀c,c<st.n→ ¬X c→h' c=st.h.get c)→Q h'
theorem eG.step{st st':St}{X X':Fp}{Q:Hp→Prop}(h:eG st X Q)(C:UH X st st')(m:WK st st' X X'):eG st' X' Q:=fun h' e=>h h' fun c hc hx=>by
 rw[e c (Nat.lt_of_lt_of_le hc C.le) fun hx'=>by
  rcases(m c hx').1 with h1|h1
  ·exact hx h1
  ·omega]
 exact C.J6 c hc hx
structure MU(h:Hp)(F:Fp)(sp cm T:Nat)(S:UG)(L:List ((Nat×Nat)×AV)):Prop where
 IK:Ap h F sp T S
 map:(VY cm Xd L).H h
 d: ¬F cm
def vb(F:Fp)(cm:Nat):Fp:=fun c=>F c∨c=cm
def xx(F:Fp)(sp cm T:Nat)(S:UG)(L:List ((Nat×Nat)×AV)):Ob:=⟨vb F cm,fun h=>MU h F sp cm T S L,fun h h' e H=>⟨H.IK.frame fun c hc=>e c (.inl hc),(VY cm Xd L).fr _ _ (fun c hc=>e c (.inr hc)) H.map,H.d⟩⟩
def yn(st st':St)(F:Fp)(sp cm T:Nat)(S':UG)(L':List ((Nat×Nat)×AV)):Prop:= ∃F',MU st'.h.get F' sp cm T S' L'∧WK st st' (vb F cm) (vb F' cm)∧UH (vb F cm) st st'
section
variable {st0 st st':St} {X0 F:Fp} {M:QU} {Os:List Ob} {sp cm T:Nat} {S S':UG} {L L':List ((Nat×Nat)×AV)}
theorem Qk.split{o o1 o2:Ob}(B:Qk st0 X0 st M (o::Os))(h1:o1.H st.h.get)(h2:o2.H st.h.get)(hF1: ∀c,o1.F c→o.F c)(hF2: ∀c,o2.F c→o.F c)(hd: ∀c,o1.F c→ ¬o2.F c):Qk st0 X0 st M (o1::o2::Os):=by
 have hp:=List.pairwise_cons.1 B.dj;refine⟨B.fresh,B.le,B.row,B.nodup,B.lo,fun p hp'=>?_,fun p hp' c hc=>?_,List.pairwise_cons.2 ⟨fun p hp' c k1 k2=>?_,List.pairwise_cons.2 ⟨fun p hp' c k1 k2=>hp.1 p hp' c (hF2 c k1) k2,hp.2⟩⟩,fun p hp' c m l hm hc=>?_,B.J6⟩
 ·rcases List.mem_cons.1 hp' with rfl|hp'
  ·exact h1
  rcases List.mem_cons.1 hp' with rfl|hp'
  ·exact h2
  ·exact B.obj p (List.mem_cons_of_mem _ hp')
 ·rcases List.mem_cons.1 hp' with rfl|hp'
  ·exact B.hi o (List.mem_cons_self ..) c (hF1 c hc)
  rcases List.mem_cons.1 hp' with rfl|hp'
  ·exact B.hi o (List.mem_cons_self ..) c (hF2 c hc)
  ·exact B.hi p (List.mem_cons_of_mem _ hp') c hc
 ·rcases List.mem_cons.1 hp' with rfl|hp'
  ·exact hd c k1 k2
  ·exact hp.1 p hp' c (hF1 c k1) k2
 ·rcases List.mem_cons.1 hp' with rfl|hp'
  ·exact B.djM o (List.mem_cons_self ..) c m l hm (hF1 c hc)
  rcases List.mem_cons.1 hp' with rfl|hp'
  ·exact B.djM o (List.mem_cons_self ..) c m l hm (hF2 c hc)
  ·exact B.djM p (List.mem_cons_of_mem _ hp') c m l hm hc
theorem Qk.P1{o:Ob}(B:Qk st0 X0 st M Os){c m:Nat}{l:List AV}(k:Nat)(hk:M[k]? =some (c,m,l))(j:Nat)(hj:Os[j]? =some o){h':Hp}(e: ∀c,c<st.n→ ¬o.F c→h' c=st.h.get c):Q0 h' c m l:=by
 have hm:=List.mem_of_getElem? hk;have hr:=B.row c m l hm;exact hr.frame (e c (hr.lt B.fresh) (B.djM o (List.mem_of_getElem? hj) c m l hm))
theorem Qk.wQ{o:Ob}(B:Qk st0 X0 st M Os)(hf:Qj st0){z:Nat}{ls:List (List AV)}{ks:AV}(r:Ji st0.h.get [] z ls ks)(hX: ∀c m o n y,ks=.sl c m o n y→ ¬X0 c)(j:Nat)(hj:Os[j]? =some o){h':Hp}(e: ∀c,c<st.n→ ¬o.F c→h' c=st.h.get c):Ji h' [] z ls ks:=
 (B.rd hf r hX).frame fun c m p n y e2=>e c (by obtain⟨_,cells,k2,_⟩:=(B.rd hf r hX).alive c m p n y e2;exact k2.lt B.fresh) (B.off hj hf r hX c m p n y e2)
theorem Qk.Lq(B:Qk st0 X0 st M (xx F sp cm T S L::Os)):Qk st0 X0 st M (X2 F sp T S::VY cm Xd L::Os):=by
 have H:MU st.h.get F sp cm T S L:=B.at_ (k:=0) rfl;exact B.split H.IK H.map (fun c hc=>.inl hc) (fun c hc=>.inr hc) fun c h1 h2=>H.d ((show c=cm from h2)▸h1)
theorem Qk.Dm(B:Qk st0 X0 st M (X2 F sp T S::VY cm Xd L::Os)):Qk st0 X0 st M (xx F sp cm T S L::Os):=
 B.join (fun h1 h2=>⟨h1,h2,fun h=>(List.pairwise_cons.1 B.dj).1 (VY cm Xd L) QA cm h rfl⟩) fun c hc=>hc
theorem Qk.ve{F':Fp}(B:Qk st0 (vb F cm) st M (xx F' sp cm T S' L'::Os)):yn st0 st F sp cm T S' L':=
 ⟨F',B.at_ (k:=0) rfl,fun c hc=>⟨(B.KT (k:=0) rfl c hc).symm,B.Yu (k:=0) rfl c hc⟩,B.JM⟩
theorem Qk.uF(B:Qk st0 X0 st M (xx F sp cm T S L::Os))(h:yn st st' F sp cm T S' L'): ∃F',Qk st0 X0 st' M (xx F' sp cm T S' L'::Os):=by
 obtain⟨F',h1,h2,h3⟩:=h;exact⟨F',B.call (k:=0) rfl h3 (o':=xx F' sp cm T S' L') h1 h2⟩
theorem Qk.wT(B:Qk st0 X0 st M (xx F sp cm T S L::Os)):Zs st F sp T S:=⟨MU.IK (B.at_ (k:=0) rfl),fun c hc=>B.Yu (k:=0) rfl c (.inl hc)⟩
end
structure eY(xm sp cm c5 c3:Nat)(kt:AV)(cl:List Int)(h:Hp):Prop where
 row:Q0 h xm 0 [.ptr sp 0 0,.fn 178 [] [.ptr c5 0 0,.ptr c3 0 0],.mp cm]
 r5:Q0 h c5 0 [kt]
 r3:Q0 h c3 0 [.ptr sp 0 0]
 kt:Ji h [] 1 (zC cl) kt
theorem B7(f c d:Nat):KD (.fn f [] [.ptr c 0 0,.ptr d 0 0]) (.fn f [] [.ptr c 0 0,.ptr d 0 0])=true:=by
 have h: ∀n:Nat,Nat.beq n n=true:=fun n=>by simp
 show Qo (Nat.beq f f) (Qo (EY [] []) (EY [.ptr c 0 0,.ptr d 0 0] [.ptr c 0 0,.ptr d 0 0]) false) false=true;rw[h,Q6,show EY [] []=true from rfl,Q6];show Qo (Rn (.ptr c 0 0) (.ptr c 0 0)) (Qo (Rn (.ptr d 0 0) (.ptr d 0 0)) true false) false=true;show Qo (Qo (Nat.beq c c) true false) (Qo (Qo (Nat.beq d d) true false) true false) false=true;rw[h,h];rfl
def wJ(n:Bn):Int:=if HS n then DO n else-1
theorem FL{st:St}(hf:Qj st){F:Fp}{sp:Nat}{S:UG}(hS:Zs st F sp Tn S){i:Nat}(hi:i<S.length){n:Bn}(hn:S[i]? =some n): ∃v st',Ev Tryz.prog Q4 191 [.ptr sp 0 0,.int .i64 (i:Nat)] st v st'∧v=.int .i64 (wJ n)∧Qt st st':=by
 obtain⟨v,st',h1,⟨m,h2,h3⟩,h4⟩:=MI hf hS hi;rw[hn]at h2
 injection h2 with h2
 subst h2;exact⟨v,st',h1,h3,h4⟩
theorem Dd{α:Type}{L:List (α×AV)}{a b:α}{v:AV}(hne:b≠a)(h:Yk L a=none):Yk (L++[(b,v)]) a=none:=by
 induction L with
 |nil=>simp[Yk,hne]
 |cons x L ih=>
  rw[List.cons_append];rw[Yk]at h ⊢
  split at h
  ·cases h
  ·rename_i hx;rw[if_neg hx];exact ih h

theorem CJ{st:St}(hf:Qj st){F:Fp}{sp:Nat}{S:UG}(hS:Zs st F sp Tn S){cm:Nat}(hx:Q0 st.h.get xm 0 [.ptr sp 0 0,.fn 178 [] [.ptr c5 0 0,.ptr c3 0 0],.mp cm])(h6:Tn≤6)(wf:Xg Tn S){i:Nat}(hi:i<S.length): ∃v st',Ev Tryz.prog Q4 185 [.ptr xm 0 0,iN i] st v st'∧v=iZ (Y6 S i 0)∧Qt st st':=by
 refine JF Tryz.func185 Tryz.ntmps185 fun T K=>?_;have M:=Mem.start hf;refine Qc 4 K M ?_;intro _ K;refine p1 K (Qd rfl (Qz (M.JG QA hx.Jd) (Qf JJ rfl))) fun _ K=>?_;refine Qc 1 K M ?_;intro _ K;refine oQ K M (uX M.fresh (hS.q M.qt) h6 wf hi (c:=0) (Nat.two_pow_pos _)) rfl rfl fun _ _ K M=>?_;refine Qc 1 K M ?_;exact⟨rfl,M.qt⟩

theorem L5{st:St}(hf:Qj st){F:Fp}{sp:Nat}{S:UG}(hS:Zs st F sp Tn S){cm:Nat}(hx:Q0 st.h.get xm 0 [.ptr sp 0 0,.fn 178 [] [.ptr c5 0 0,.ptr c3 0 0],.mp cm]){i:Nat}(hi:i<S.length){t l h:Nat}(hn:S[i]? =some (.fork t l h)): ∃v st',Ev Tryz.prog Q4 186 [.ptr xm 0 0,iN i,iN t] st v st'∧v=.tup [iN l,iN h]∧Qt st st':=by
 have htk:wJ (.fork t l h)=((t:Nat):Int):=rfl;refine JF Tryz.func186 Tryz.ntmps186 fun T K=>?_;have M:=Mem.start hf;refine Qc 5 K M ?_;intro _ K;refine p1 K (Qd rfl (Qz (M.JG QA hx.Jd) (Qf JJ rfl))) fun _ K=>?_;refine Qc 1 K M ?_;intro _ K;refine oQ K M (FL M.fresh (hS.q M.qt) hi hn) rfl rfl fun _ _ K M=>?_;refine Qc 2 K M ?_;intro _ K;refine JP K rfl (fun h15=>?_) fun h15=>?_
 ·refine Qc 3 K M ?_;intro _ K;refine p1 K (Qd rfl (Qz (M.JG QA hx.Jd) (Qf JJ rfl))) fun _ K=>?_;refine Qc 1 K M ?_;intro _ K;refine oQ K M (uU M.fresh (hS.q M.qt) hi hn) rfl rfl fun _ _ K M=>?_;refine Qc 4 K M ?_;exact⟨rfl,M.qt⟩
 exfalso;omega

theorem qJ{st:St}(hf:Qj st){F:Fp}{sp:Nat}{S:UG}(hS:Zs st F sp Tn S){cm:Nat}(hx:Q0 st.h.get xm 0 [.ptr sp 0 0,.fn 178 [] [.ptr c5 0 0,.ptr c3 0 0],.mp cm]){i:Nat}(hi:i<S.length){n:Bn}(hn:S[i]? =some n): ∃v st',Ev Tryz.prog Q4 184 [.ptr xm 0 0,iN i,iN i] st v st'∧v=iZ (wJ n)∧Qt st st':=by
 refine JF Tryz.func184 Tryz.ntmps184 fun T K=>?_;have M:=Mem.start hf;refine Qc 1 K M ?_;intro _ K;refine QD (l:=[(0,0),(1,0),(2,0),(3,0),(4,0),(5,0),(6,0),(7,0),(8,0),(9,1),(10,0),(11,0),(12,0),(13,0)]) (by kernel_rfl) ?_;have Mq:=M;refine Jf 3 K M ?_;intro _ K;refine q1 rfl K (Qd rfl (Qz (M.JG QA hx.Jd) (Qf JJ rfl))) fun _ K=>q1 rfl K (Qg rfl) fun _ K=>?_;obtain⟨v14,st14,ev14,rfl,q14⟩:=FL M.fresh (hS.q M.qt) hi hn;refine qA rfl K (Qh rfl ev14) fun _ K=>?_;replace M:=M.quiet q14;have Mp:=Mq;have Mq:=M;refine Jf 3 K M ?_;intro _ K;refine Js rfl K rfl (Qz (M.JG QA hx.Jd) (Qf JJ rfl)) (Qz (Mp.JG QA hx.Jd) (Qf JJ rfl)) (JR rfl) rfl QE fun _ K=>?_;refine q1 rfl K (Qg rfl) fun _ K=>?_;obtain⟨v20,st20,ev20,rfl,q20⟩:=FL M.fresh (hS.q M.qt) hi hn;refine qA rfl K (Qh rfl ev20) fun _ K=>?_;replace M:=M.quiet q20;have Mp:=Mq;have Mq:=M;refine Jf 2 K M ?_;intro _ K;refine QG ?_;show W _ _ _ _ _ _ _;refine Qc 2 K M ?_;intro _ K;refine Um K (Qg rfl) rfl (fun _ e23 K=>?_) fun _ e23 K=>?_
 ·refine Qc 2 K M ?_;intro _ K;refine LI K rfl rfl (Qg rfl) rfl (fun _ e26 K=>?_) fun _ e26 K=>?_
  ·refine Qc 8 K M ?_;exact⟨rfl,M.qt⟩
  refine Qc 5 K M ?_;intro _ K;refine JP K rfl (fun h31=>?_) fun h31=>?_
  ·refine Qc 2 K M ?_;exact⟨rfl,M.qt⟩
  refine Qc 2 K M ?_;exact⟨rfl,M.qt⟩
 refine Qc 11 K M ?_;exact⟨rfl,M.qt⟩

theorem TB{st:St}(hf:Qj st){F:Fp}{sp:Nat}{S:UG}(hS:Zs st F sp Tn S){cl:List Int}(h5:Q0 st.h.get c5 0 [kt])(h3:Q0 st.h.get c3 0 [.ptr sp 0 0])(hkt:Ji st.h.get [] 1 (zC cl) kt)(hcl: ∀z∈cl,0≤z∧z≤1099511627776)(wf:Xg Tn S)(hlen:S.length<1000000000){u u2:Int}(hx0:0≤u)(hx1:u<((cl.length:Nat):Int)): ∃v st',Ev Tryz.prog Q4 178 [iZ u,iZ u2,.ptr c5 0 0,.ptr c3 0 0] st v st'∧ ∃i S',v=iN i∧XM st st' F sp Tn S'∧VQ Tn S 1 S' i∧lvl Tn S' i=Tn∧ ∀c,Y6 S' i c=cv cl u.toNat:=by
 have B:=Qk.UM (o:=X2 F sp Tn S) hf hS.at_ hS.hi;have hkc:=hkt.cell
 have hbn:(cl.length:Int)≤9223372036854775807:=by have:=hkt.Ew;rw[Qn]at this;exact this
 refine JF Tryz.func178 Tryz.ntmps178 fun T K=>?_;have M:=B.mem;refine Qc 2 K M ?_;intro _ K;refine p1 K (Qd rfl (Qz (M.JG QA h5.Jd) (Qf QZ rfl))) fun _ K=>p1 K (Q8 Jp rfl rfl (hkt.len.trans (congrArg some (Qn _)))) fun _ K=>?_;refine Qc 1 K M ?_;intro _ K;refine JP K rfl (fun h10=>?_) fun h10=>?_
 ·exfalso;omega
 refine Qc 0 K M ?_;intro _ K;refine QD (l:=[(0,0),(1,0),(2,0),(3,0),(4,0),(5,0),(6,0)]) (by kernel_rfl) ?_;refine q1 rfl K (Qd rfl (Qz (M.JG QA h3.Jd) (Qf JJ rfl))) fun _ K=>q1 rfl K (Qd rfl (Qz (M.JG QA h5.Jd) (Qf QZ rfl))) fun _ K=>q1 rfl K (Qg rfl) fun _ K=>?_;obtain⟨y14,hi14⟩:=U8 cl ((u).toNat) Qe;obtain⟨x14,m14,f14,q14,_,la14,lo14,lp14⟩:=(Ji.mem M hkt QA).load (i:=(u).toNat) (cs:=_) (Jr hi14);refine q1 rfl K (Qa (j:=(u).toNat) Qw (congrArg some q14) (congrArg (fun z=>some (iZ z)) (by omega:_=(((u).toNat:Nat):Int))) (by rw[Qn];omega)) fun _ K=>q1 rfl K (Qd rfl (lo14 _ 0 _ Qr rfl)) fun _ K=>?_;replace B:=B.step M;have hcv:=hcl y14 (List.mem_of_getElem? hi14);obtain⟨v16,st16,ev16,i1,S1,rfl,hout,mb,hlv,hev⟩:=DR B.fresh (B.IK (k:=0) rfl) wf hlen hcv.1 hcv.2;refine qA rfl K (Qh rfl ev16) fun _ K=>?_;obtain⟨F',B⟩:=B.VO hout;have M:=B.mem;refine q1 rfl K (U5 rfl) fun _ K=>QG ?_;show W _ _ _ _ _ _ _;refine Qc 0 K M ?_
 have he:cv cl u.toNat=y14:=by unfold cv;rw[hi14];rfl
 exact⟨i1,S1,rfl,(B.step M).LA,mb,hlv,fun c=>by rw[he];exact hev c⟩

theorem T9{sp cm:Nat}{cl:List Int}(h6:Tn≤6)(hcl: ∀z∈cl,0≤z∧z≤1099511627776)(i:Nat): ∀(st:St),Qj st→ ∀(F:Fp) (S:UG) (L:List ((Nat×Nat)×AV)),MU st.h.get F sp cm Tn S L→(∀c,vb F cm c→c<st.n)→Xg Tn S→i<S.length→(∀c,0≤Y6 S i c∧Y6 S i c<((cl.length:Nat):Int))→Wk Tn S cl L→eG st (vb F cm) (eY xm sp cm c5 c3 kt cl)→S.length+(2^(Tn-lvl Tn S i+1)-1)≤1000000000→ ∃v st',Ev Tryz.prog Q4 179 [.ptr xm 0 0,iN i,iN i] st v st'∧ ∃r S' L',v=iN r∧yn st st' F sp cm Tn S' L'∧VQ Tn S (2^(Tn-lvl Tn S i+1)-1) S' r∧XC Tn S' cl i r∧Wk Tn S' cl L'∧(∀j,i<j→Yk L (j,j)=none→Yk L' (j,j)=none):=by
 induction i using Nat.strongRecOn with|_ i ih=>?_
 intro st hf F S L hP hhi wf hi hval hinv hRo hlen;obtain⟨n,hn⟩: ∃n,S[i]? =some n:=⟨_,List.getElem?_eq_getElem hi⟩;have hq9:2^1≤2^(Tn-lvl Tn S i+1):=Nat.pow_le_pow_right QE Qe;have B:=Qk.UM (o:=xx F sp cm Tn S L) hf hP hhi;refine JF Tryz.func179 Tryz.ntmps179 fun T K=>?_;have M:=B.mem;refine Qc 4 K M ?_;intro _ K;refine p1 K (Qd rfl (Qz (hRo _ (B.step M).J6).row.Jd (Qf Zu rfl))) fun _ K=>?_;refine Qc 2 K M ?_;intro _ K;refine p1 K (ZC A4 HX ZU Z9 rfl rfl) fun _ K=>p1 K (Wz (a:=(i,i)) W8 (MU.map ((B.step M).at_ (k:=0) rfl)) rfl rfl) fun _ K=>?_;refine Qc 6 K M ?_;intro _ K;refine Qq (K.QI rfl) (fun h27=>?_) (fun h27=>?_)
 ·have hb27:=h27;refine Qc 2 K M ?_
  obtain⟨v0,hv0⟩: ∃x,Yk L (i,i)=some x:=by cases hq:Yk L (i,i)with|none=>rw[hq]at h27;cases h27|some x=>exact⟨x,rfl⟩
  obtain⟨r,rfl,hmo⟩:=hinv.found hv0;exact⟨r,S,L,by rw[hv0];rfl,(B.step M).ve,⟨wf,List.prefix_refl _,hmo.lt,by omega⟩,hmo,hinv,fun j _ h=>h⟩
 have hb27:=h27;refine Qc 0 K M ?_;intro _ K
 have hnone:Yk L (i,i)=none:=by cases hq:Yk L (i,i)with|none=>rfl|some x=>rw[hq]at h27;cases h27
 refine Qc 3 K M ?_;intro _ K;refine oQ K M (qJ M.fresh (B.step M).wT (hRo _ (B.step M).J6).row hi hn) rfl rfl fun _ _ K M=>?_;refine Qc 3 K M ?_;intro _ K;refine JP K rfl (fun h34=>?_) fun h34=>?_
 ·obtain⟨x0,rfl⟩: ∃x,n=.leaf x:=by cases n with|leaf x=>exact⟨x,rfl⟩|fork t l h=>exact absurd h34 (by simp only[wJ,HS,DO,if_true];omega)
  refine QD (l:=[(4,0),(5,0),(6,0),(7,0),(8,0),(9,0),(0,0),(1,0),(2,0),(3,2),(10,0),(11,0)]) (by kernel_rfl) ?_;have Mq:=M;have Mz0:=M;have Bz0:=B;refine Jf 2 K M ?_;intro _ K;obtain⟨v41,st41,ev41,rfl,q41⟩:=CJ M.fresh (B.step M).wT (hRo _ (B.step M).J6).row h6 wf hi;refine qA rfl K (Qh rfl ev41) fun _ K=>?_;replace M:=M.quiet q41;have Mp:=Mq;have Mq:=M;have Mz1:=M;have Bz1:=B;refine Jf 2 K M ?_;intro _ K;obtain⟨v44,st44,ev44,rfl,q44⟩:=CJ M.fresh (B.step M).wT (hRo _ (B.step M).J6).row h6 wf hi;refine qA rfl K (Qh rfl ev44) fun _ K=>?_;replace M:=M.quiet q44;have Mp:=Mq;have Mq:=M;have Mz2:=M;have Bz2:=B;refine Jf 3 K M ?_;intro _ K
  refine Wp rfl K rfl (Qz (hRo _ (B.step M).J6).row.Jd (Qf YD rfl)) QA (by intro s hs;simp only[List.take_succ_cons,List.take_zero,List.mem_cons,List.not_mem_nil,or_false]at hs;rcases hs with rfl|rfl<;>first|exact(Qz (hRo _ (Bz1.step Mz1).J6).row.Jd (Qf YD rfl))|exact(Qz (hRo _ (Bz0.step Mz0).J6).row.Jd (Qf YD rfl))) (B7 _ _ _) rfl QE fun _ K=>?_
  replace B:=(B.step M).Lq;have hro:=hRo _ B.J6;have hv0:=hval 0;obtain⟨v45,st45,ev45,i1,S1,rfl,hout,mb,hlv,hev⟩:=TB B.fresh (B.IK (k:=0) rfl) hro.r5 hro.r3 hro.kt hcl wf Qe (u:=Y6 S i 0) (u2:=Y6 S i 0) hv0.1 hv0.2;refine qA rfl K (ZP rfl rfl ev45) fun _ K=>?_;obtain⟨F',B⟩:=B.VO hout;replace B:=B.Dm;have M:=B.mem;have hmo:XC Tn S1 cl i i1:=XC.leaf wf hn (show _=cv cl x0.toNat by rw[VM hn]) mb.lt mb.pre hlv hev;have Mp:=Mq;have Mq:=M;have Mz3:=M;have Bz3:=B;refine q1 rfl K (U5 rfl) fun _ K=>QG ?_;show W _ _ _ _ _ _ _;refine Qc 3 K M ?_;intro _ K;refine p1 K (Qd rfl (Qz (hRo _ (B.step M).J6).row.Jd (Qf Zu rfl))) fun _ K=>?_;refine Qc 2 K M ?_;intro _ K;refine p1 K (ZC A4 HX ZU Z9 rfl rfl) fun _ K=>?_;refine Qc 1 K M ?_;intro _ K;have hnn:Yk L (i,i)=none:=hnone;replace B:=(B.step M).Lq;refine Hb (j:=1) (a:=(i,i)) K B rfl W8 rfl rfl rfl rfl hnn fun _ B=>?_;replace B:=Qk.Dm (L:=L++[((i,i),iN i1)]) B;have M:=B.mem;refine Qc 2 K M ?_;have h1l:=mb.len
  have hq4:1≤2^(Tn-lvl Tn S i+1)-1:=by have:2^1≤2^(Tn-lvl Tn S i+1):=Nat.pow_le_pow_right QE Qe;omega
  have hil:=Nat.lt_of_lt_of_le hi mb.pre.length_le;exact⟨i1,S1,_,rfl,(B.step M).ve,⟨mb.wf,mb.pre,mb.lt,by omega⟩,hmo,(hinv.pre wf mb.pre).put hil hmo,fun j hj h=>Dd (fun e=>by have:=congrArg Prod.fst e;simp at this;omega) (h)⟩
 refine QC ?_
 obtain⟨t,l,h,rfl⟩: ∃t l h,n=.fork t l h:=by cases n with|leaf x=>exact absurd (show wJ (.leaf x)<0 by show(-1:Int)<0;decide) h34|fork t l h=>exact⟨t,l,h,rfl⟩
 obtain⟨a1,a2,a3,a4,a5,a6⟩:=wf.fork _ _ _ _ hn
 have hlt:lvl Tn S i=t:=by unfold lvl;rw[hn]
 have hp1:2^(Tn-lvl Tn S l+1)≤2^(Tn-t):=Nat.pow_le_pow_right QE (by have:=Bs wf l;omega);have hp2:2^(Tn-lvl Tn S h+1)≤2^(Tn-t):=Nat.pow_le_pow_right QE (by have:=Bs wf h;omega)
 have hp3:2^(Tn-t+1)=2 *2^(Tn-t):=by rw[Nat.pow_succ,Nat.mul_comm]
 have hp4:1≤2^(Tn-t):=Nat.one_le_two_pow;rw[hlt,hp3]at hlen
 have hvl: ∀c,0≤Y6 S l c∧Y6 S l c<((cl.length:Nat):Int):=fun c=>by rw[←H8 wf hn c];exact hval _
 have hvh: ∀c,0≤Y6 S h c∧Y6 S h c<((cl.length:Nat):Int):=fun c=>by rw[←AF wf hn c];exact hval _
 refine Qc 3 K M ?_;intro _ K;refine oQ K M (L5 M.fresh (B.step M).wT (hRo _ (B.step M).J6).row hi hn) rfl rfl fun _ _ K M=>?_;refine Qc 8 K M ?_;intro _ K;refine oQ K M (L5 M.fresh (B.step M).wT (hRo _ (B.step M).J6).row hi hn) rfl rfl fun _ _ K M=>?_;refine Qc 8 K M ?_;intro _ K;replace B:=B.step M;obtain⟨v63,st63,ev63,r1,S1,L1,rfl,hout1,mb1,mo1,hinv1,hnk1⟩:=ih l a3 _ B.fresh _ _ _ (B.at_ (k:=0) rfl) (B.Yu (k:=0) rfl) wf Qe hvl hinv (hRo.step B.JM (fun c hc=>⟨(B.KT (k:=0) rfl c hc).symm,B.Yu (k:=0) rfl c hc⟩)) Qe;refine p1 K (Qh rfl ev63) fun _ K=>?_;obtain⟨F1,B⟩:=B.uF hout1;have M:=B.mem;have hll:=mb1.len;have hpl:=mb1.pre.length_le;refine Qc 3 K M ?_;intro _ K;replace B:=B.step M;obtain⟨v67,st67,ev67,r2,S2,L2,rfl,hout2,mb2,mo2,hinv2,hnk2⟩:=ih h a4 _ B.fresh _ _ _ (B.at_ (k:=0) rfl) (B.Yu (k:=0) rfl) mb1.wf Qe (fun c=>by rw[Zm wf mb1.pre Qe];exact hvh c) hinv1 (hRo.step B.JM (fun c hc=>⟨(B.KT (k:=0) rfl c hc).symm,B.Yu (k:=0) rfl c hc⟩)) (by rw[Va mb1.pre Qe];omega);refine p1 K (Qh rfl ev67) fun _ K=>?_;obtain⟨F2,B⟩:=B.uF hout2;have M:=B.mem;rw[Va mb1.pre Qe]at mb2;have hll2:=mb2.len;have hpl2:=mb2.pre.length_le;have mo1':=mo1.pre mb1.wf mb2.pre Qe
 have hlS2: ∀j,j<S.length→lvl Tn S2 j=lvl Tn S j:=fun j hj=>by rw[Va mb2.pre Qe,Va mb1.pre hj]
 have hk1:=mo1'.lv;have hk2:=mo2.lv;rw[hlS2 l Qe]at hk1;rw[hlS2 h Qe]at hk2;have hnone2:Yk L2 (i,i)=none:=hnk2 i Qe (hnk1 i Qe hnone);refine Qc 5 K M ?_;intro _ K;refine Um K (Qg rfl) rfl (fun _ e70 K=>?_) fun _ e70 K=>?_
 ·exfalso;omega
 refine Qc 3 K M ?_;intro _ K;refine JP K rfl (fun h73=>?_) fun h73=>?_
 ·refine Qc 3 K M ?_;intro _ K;refine p1 K (Qd rfl (Qz (hRo _ (B.step M).J6).row.Jd (Qf JJ rfl))) fun _ K=>?_;refine Qc 3 K M ?_;intro _ K;replace B:=(B.step M).Lq;obtain⟨v81,st81,ev81,r3,S3,rfl,hout3,mb3,hlv3,hev3⟩:=uT B.fresh (B.IK (k:=0) rfl) mb2.wf Qe (t:=t) (l:=r1) (h:=r2) a6 mo1'.lt mo2.lt Qe Qe;refine p1 K (Qh rfl ev81) fun _ K=>?_;obtain⟨F3,B⟩:=B.VO hout3;replace B:=B.Dm;have M:=B.mem;have hp13:=(mb1.pre.trans mb2.pre).trans mb3.pre;have hmo:XC Tn S3 cl i r3:=XC.fork wf hn hp13 mb3.lt (mo1'.pre mb2.wf mb3.pre Qe) (mo2.pre mb2.wf mb3.pre Qe) hlv3 (fun c=>by rw[hev3,Zm mb2.wf mb3.pre mo1'.lt,Zm mb2.wf mb3.pre mo2.lt]);refine Qc 4 K M ?_;intro _ K;refine p1 K (Qd rfl (Qz (hRo _ (B.step M).J6).row.Jd (Qf Zu rfl))) fun _ K=>?_;refine Qc 2 K M ?_;intro _ K;refine p1 K (ZC A4 HX ZU Z9 rfl rfl) fun _ K=>?_;refine Qc 1 K M ?_;intro _ K;have hnn:=hnone2;replace B:=(B.step M).Lq;refine Hb (j:=1) (a:=(i,i)) K B rfl W8 rfl rfl rfl rfl hnn fun _ B=>?_;replace B:=Qk.Dm (L:=L2++[((i,i),iN r3)]) B;have M:=B.mem;refine Qc 2 K M ?_;have h3l:=mb3.len;have hil:=Nat.lt_of_lt_of_le hi hp13.length_le;exact⟨r3,S3,_,rfl,(B.step M).ve,⟨mb3.wf,hp13,mb3.lt,by rw[hlt,hp3];omega⟩,hmo,(hinv2.pre mb2.wf mb3.pre).put hil hmo,fun j hj h=>Dd (fun e=>by have:=congrArg Prod.fst e;simp at this;omega) (hnk2 j Qe (hnk1 j Qe h))⟩
 exfalso;omega

theorem za{st:St}(hf:Qj st){F:Fp}{sp:Nat}{S:UG}(hS:Zs st F sp Tn S){i:Nat}(hi:i<S.length): ∃v st',Ev Tryz.prog Q4 177 [.ptr sp 0 0,iN i] st v st'∧v=.bool true∧Qt st st':=by
 refine JF Tryz.func177 Tryz.ntmps177 fun T K=>?_;have M:=Mem.start hf;refine Qc 3 K M ?_;intro _ K;refine Um K (Qg rfl) rfl (fun _ e7 K=>?_) fun _ e7 K=>?_
 ·exfalso;omega
 refine Qc 2 K M ?_;intro _ K;obtain⟨v10,st10,ev10,rfl,q10⟩:=SY M.fresh (hS.q M.qt);refine pg K rfl rfl (Qh rfl ev10) fun _ K=>?_;replace M:=M.quiet q10;refine Qc 3 K M ?_;exact⟨congrArg AV.bool (decide_eq_true Qe),M.qt⟩

theorem qK{st:St}(hf:Qj st){F:Fp}{sp:Nat}{S:UG}(hS:Zs st F sp Tn S)(h6:Tn≤6)(wf:Xg Tn S){i:Nat}(hi:i<S.length){cl:List Int}(hkt:Ji st.h.get [] 1 (zC cl) kt)(hoff: ∀c m o n y,kt=.sl c m o n y→ ¬F c)(hcl: ∀z∈cl,0≤z∧z≤1099511627776)(hval: ∀c,0≤Y6 S i c∧Y6 S i c<((cl.length:Nat):Int))(hlen:S.length+(2^(Tn+1)-1)≤1000000000): ∃v st',Ev Tryz.prog Q4 171 [.ptr sp 0 0,iN i,kt] st v st'∧ ∃r S',v=iN r∧XM st st' F sp Tn S'∧VQ Tn S (2^(Tn+1)-1) S' r∧ ∀c,Y6 S' r c=cv cl (Y6 S i c).toNat:=by
 have B:=Qk.UM (o:=X2 F sp Tn S) hf hS.at_ hS.hi;have hkc:=hkt.cell
 have hbn:(cl.length:Int)≤9223372036854775807:=by have:=hkt.Ew;rw[Qn]at this;exact this
 refine JF Tryz.func171 Tryz.ntmps171 fun T K=>?_;have M:=B.mem;refine au 1 K M ?_;intro c3 _ _ K _ M;refine Jt K M rfl (N8 hkt.cell) QE fun c5 _ _ K M=>?_;replace M:=Mem.cast (M':=[(c5,0,[kt]),(c3,0,[.ptr sp 0 0])]) M (congrArg (fun q=>(c5,0,q)::[(c3,0,[.ptr sp 0 0])]) (Vl (hkt.cell)));refine Qc 3 K M ?_;intro _ K;refine oQ K M (za M.fresh ((B.step M).IK (k:=0) rfl) hi) rfl rfl fun _ _ K M=>?_;refine Qc 2 K M ?_;intro _ K;refine p1 K (Xt rfl rfl) fun _ K=>?_;refine Qc 3 K M ?_;intro _ K;replace B:=B.step M;refine Wn Xd K B rfl fun c16 _ _ K B=>?_;have M:=B.mem;refine au 6 K M ?_;intro c18 _ _ K _ M;replace B:=Qk.Dm ((B.step M).OO (.swap ..));have hlvi:=Bs wf i;have hpw:2^(Tn-lvl Tn S i+1)≤2^(Tn+1):=Nat.pow_le_pow_right QE Qe;obtain⟨v22,st22,ev22,r1,S1,L1,rfl,hout1,mb1,mo1,hinv1,_⟩:=T9 (xm:=c18) (cm:=c16) (c5:=c5) (c3:=c3) (kt:=kt) h6 hcl i _ B.fresh _ _ _ (B.at_ (k:=0) rfl) (B.Yu (k:=0) rfl) wf hi hval (fun a b v hm=>by cases hm) (fun h' e=>⟨B.P1 0 rfl 0 rfl e,B.P1 1 rfl 0 rfl e,B.P1 2 rfl 0 rfl e,B.wQ hf hkt hoff 0 rfl e⟩) Qe;refine p1 K (Qh rfl ev22) fun _ K=>?_;obtain⟨F1,B⟩:=B.uF hout1;have M:=B.mem;refine Qc 1 K M ?_
 have hev: ∀c,Y6 S1 r1 c=cv cl (Y6 S i c).toNat:=fun c=>by rw[mo1.ev,Zm wf mb1.pre hi]
 exact⟨r1,S1,rfl,(B.step M).Lq.LA,mb1.more Qe,hev⟩
end Go.Proofs.YtiknomepbklibaaGreatDoor
