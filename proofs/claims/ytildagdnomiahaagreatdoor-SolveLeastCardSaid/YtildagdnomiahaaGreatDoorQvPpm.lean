/-
  A function by a table (chapter 17).
-/
import Derived.Test.YtildagdnomiahaaGreatDoorQvEnt
namespace Go.Proofs.YtildagdnomiahaaGreatDoor
open Go Go.RowKit
set_option maxHeartbeats 8000000
set_option linter.unusedVariables false
set_option linter.unusedSimpArgs false
set_option linter.unnecessarySimpa false
set_option linter.unusedSectionVars false
set_option maxRecDepth 100000
variable {Tn c3 c5 xm:Nat} {kt:AV}

structure Xv(T:Nat)(S:Uf)(cl:List Int)(i r:Nat):Prop where
 lt:r<S.length
 lv:lvl T S i≤lvl T S r
 ev: ∀c,US S r c=cv cl (US S i c).toNat
section
variable {T:Nat} {S S':Uf} {cl:List Int} {L:List ((Nat×Nat)×AV)} {i r:Nat}
theorem Xv.pre(H:Xv T S cl i r)(W:ZI T S)(h:S<+:S')(hi:i<S.length):Xv T S' cl i r:=
 ⟨Nat.lt_of_lt_of_le H.lt h.length_le,by rw[XB h hi,XB h H.lt];exact H.lv,fun c=>by rw[YF W h H.lt,YF W h hi];exact H.ev c⟩
def VJ(T:Nat)(S:Uf)(cl:List Int)(L:List ((Nat×Nat)×AV)):Prop:= ∀a b v,((a,b),v)∈L→a=b∧a<S.length∧ ∃r:Nat,v=.int .i64 (r:Nat)∧Xv T S cl a r
theorem VJ.pre(H:VJ T S cl L)(W:ZI T S)(h:S<+:S'):VJ T S' cl L:=fun a b v hm=>by
 obtain⟨h1,h2,r,h3,h4⟩:=H a b v hm;exact⟨h1,Nat.lt_of_lt_of_le h2 h.length_le,r,h3,h4.pre W h h2⟩
theorem VJ.put(H:VJ T S cl L)(hi:i<S.length)(h:Xv T S cl i r):VJ T S cl (L++[((i,i),.int .i64 (r:Nat))]):=fun a b v hm=>by
 rcases List.mem_append.1 hm with hm|hm
 ·exact H a b v hm
 ·have e:=List.mem_singleton.1 hm
  injection e with e1 e2
  injection e1 with e1 e3
  subst e1 e3;exact⟨rfl,hi,r,e2,h⟩
theorem VJ.found(H:VJ T S cl L){v:AV}(h:U9 L (i,i)=some v): ∃r:Nat,v=.int .i64 (r:Nat)∧Xv T S cl i r:=(H _ _ _ (KK h)).2.2
theorem Xv.leaf(W:ZI T S){v x:Int}(hi:S[i]? =some (.leaf v))(hx:x=cv cl v.toNat)(hr:r<S'.length)(h:S<+:S')(hl:lvl T S' r=T)(he: ∀c,US S' r c=x):Xv T S' cl i r:=by
 have hlt:=(List.getElem?_eq_some_iff.1 hi).1;refine⟨hr,?_,fun c=>?_⟩
 ·rw[hl,XB h hlt];exact Bs W i
 ·rw[he,YF W h hlt,Vz hi,hx]
theorem Xv.fork(W:ZI T S){t l k rl rk:Nat}(hi:S[i]? =some (.fork t l k))(h:S<+:S')(hr:r<S'.length)(h1:Xv T S' cl l rl)(h2:Xv T S' cl k rk)(hl:t≤lvl T S' r)(he: ∀c,US S' r c=if c.testBit t then US S' rk c else US S' rl c):Xv T S' cl i r:=by
 have hlt:=(List.getElem?_eq_some_iff.1 hi).1;obtain⟨a1,a2,a3,a4,_⟩:=W.fork _ _ _ _ hi;refine⟨hr,?_,fun c=>?_⟩
 ·rw[XB h hlt];refine Nat.le_trans ?_ hl;unfold lvl;rw[hi];exact Nat.le_refl _
 ·rw[he,YF W h hlt,V1 W hi,h1.ev,h2.ev,YF W h (Nat.lt_trans a3 hlt),YF W h (Nat.lt_trans a4 hlt)]
  split<;>rfl
end
def kV(st:St)(X:Fp)(Q:Hp→Prop):Prop:= ∀h':Hp,(∀c,c<st.n→ ¬X c→h' c=st.h.get c)→Q h'
theorem kV.step{st st':St}{X X':Fp}{Q:Hp→Prop}(h:kV st X Q)(C:YA X st st')(m:EV st st' X X'):kV st' X' Q:=fun h' e=>h h' fun c hc hx=>by
 rw[e c (Nat.lt_of_lt_of_le hc C.le) fun hx'=>by
  rcases(m c hx').1 with h1|h1
  ·exact hx h1
  ·omega]
 exact C.J5 c hc hx
structure qn(h:Hp)(F:Fp)(sp cm T:Nat)(S:Uf)(L:List ((Nat×Nat)×AV)):Prop where
 ID:EU h F sp T S
 map:(VB cm ZF L).H h
 d: ¬F cm
def eE(F:Fp)(cm:Nat):Fp:=fun c=>F c∨c=cm
def wq(F:Fp)(sp cm T:Nat)(S:Uf)(L:List ((Nat×Nat)×AV)):Ob:=⟨eE F cm,fun h=>qn h F sp cm T S L,fun h h' e H=>⟨H.ID.frame fun c hc=>e c (.inl hc),(VB cm ZF L).fr _ _ (fun c hc=>e c (.inr hc)) H.map,H.d⟩⟩
def z7(st st':St)(F:Fp)(sp cm T:Nat)(S':Uf)(L':List ((Nat×Nat)×AV)):Prop:= ∃F',qn st'.h.get F' sp cm T S' L'∧EV st st' (eE F cm) (eE F' cm)∧YA (eE F cm) st st'
section
variable {st0 st st':St} {X0 F:Fp} {M:QP} {Os:List Ob} {sp cm T:Nat} {S S':Uf} {L L':List ((Nat×Nat)×AV)}
theorem Ql.split{o o1 o2:Ob}(B:Ql st0 X0 st M (o::Os))(h1:o1.H st.h.get)(h2:o2.H st.h.get)(hF1: ∀c,o1.F c→o.F c)(hF2: ∀c,o2.F c→o.F c)(hd: ∀c,o1.F c→ ¬o2.F c):Ql st0 X0 st M (o1::o2::Os):=by
 have hp:=List.pairwise_cons.1 B.dj;refine⟨B.fresh,B.le,B.row,B.nodup,B.lo,fun p hp'=>?_,fun p hp' c hc=>?_,List.pairwise_cons.2 ⟨fun p hp' c k1 k2=>?_,List.pairwise_cons.2 ⟨fun p hp' c k1 k2=>hp.1 p hp' c (hF2 c k1) k2,hp.2⟩⟩,fun p hp' c m l hm hc=>?_,B.J5⟩
 ·rcases List.mem_cons.1 hp' with rfl|hp'
  ·exact h1
  rcases List.mem_cons.1 hp' with rfl|hp'
  ·exact h2
  ·exact B.obj p (List.mem_cons_of_mem _ hp')
 ·rcases List.mem_cons.1 hp' with rfl|hp'
  ·exact B.hi o (List.mem_cons_self ..) c (hF1 c hc)
  rcases List.mem_cons.1 hp' with rfl|hp'
  ·exact B.hi o (List.mem_cons_self ..) c (hF2 c hc)
  ·exact B.hi p (List.mem_cons_of_mem _ hp') c hc
 ·rcases List.mem_cons.1 hp' with rfl|hp'
  ·exact hd c k1 k2
  ·exact hp.1 p hp' c (hF1 c k1) k2
 ·rcases List.mem_cons.1 hp' with rfl|hp'
  ·exact B.djM o (List.mem_cons_self ..) c m l hm (hF1 c hc)
  rcases List.mem_cons.1 hp' with rfl|hp'
  ·exact B.djM o (List.mem_cons_self ..) c m l hm (hF2 c hc)
  ·exact B.djM p (List.mem_cons_of_mem _ hp') c m l hm hc
theorem Ql.PR{o:Ob}(B:Ql st0 X0 st M Os){c m:Nat}{l:List AV}(k:Nat)(hk:M[k]? =some (c,m,l))(j:Nat)(hj:Os[j]? =some o){h':Hp}(e: ∀c,c<st.n→ ¬o.F c→h' c=st.h.get c):Qu h' c m l:=by
 have hm:=List.mem_of_getElem? hk;have hr:=B.row c m l hm;exact hr.frame (e c (hr.lt B.fresh) (B.djM o (List.mem_of_getElem? hj) c m l hm))
theorem Ql.iu{o:Ob}(B:Ql st0 X0 st M Os)(hf:Qh st0){z:Nat}{ls:List (List AV)}{ks:AV}(r:Jg st0.h.get [] z ls ks)(hX: ∀c m o n y,ks=.sl c m o n y→ ¬X0 c)(j:Nat)(hj:Os[j]? =some o){h':Hp}(e: ∀c,c<st.n→ ¬o.F c→h' c=st.h.get c):Jg h' [] z ls ks:=
 (B.rd hf r hX).frame fun c m p n y e2=>e c (by obtain⟨_,cells,k2,_⟩:=(B.rd hf r hX).alive c m p n y e2;exact k2.lt B.fresh) (B.off hj hf r hX c m p n y e2)
theorem Ql.Lp(B:Ql st0 X0 st M (wq F sp cm T S L::Os)):Ql st0 X0 st M (Xi F sp T S::VB cm ZF L::Os):=by
 have H:qn st.h.get F sp cm T S L:=B.at_ (k:=0) rfl;exact B.split H.ID H.map (fun c hc=>.inl hc) (fun c hc=>.inr hc) fun c h1 h2=>H.d ((show c=cm from h2)▸h1)
theorem Ql.Dz(B:Ql st0 X0 st M (Xi F sp T S::VB cm ZF L::Os)):Ql st0 X0 st M (wq F sp cm T S L::Os):=
 B.join (fun h1 h2=>⟨h1,h2,fun h=>(List.pairwise_cons.1 B.dj).1 (VB cm ZF L) Qx cm h rfl⟩) fun c hc=>hc
theorem Ql.eL{F':Fp}(B:Ql st0 (eE F cm) st M (wq F' sp cm T S' L'::Os)):z7 st0 st F sp cm T S' L':=
 ⟨F',B.at_ (k:=0) rfl,fun c hc=>⟨(B.Rm (k:=0) rfl c hc).symm,B.VM (k:=0) rfl c hc⟩,B.U7⟩
theorem Ql.yQ(B:Ql st0 X0 st M (wq F sp cm T S L::Os))(h:z7 st st' F sp cm T S' L'): ∃F',Ql st0 X0 st' M (wq F' sp cm T S' L'::Os):=by
 obtain⟨F',h1,h2,h3⟩:=h;exact⟨F',B.call (k:=0) rfl h3 (o':=wq F' sp cm T S' L') h1 h2⟩
theorem Ql.iw(B:Ql st0 X0 st M (wq F sp cm T S L::Os)):YO st F sp T S:=⟨qn.ID (B.at_ (k:=0) rfl),fun c hc=>B.VM (k:=0) rfl c (.inl hc)⟩
end
structure lU(xm sp cm c5 c3:Nat)(kt:AV)(cl:List Int)(h:Hp):Prop where
 row:Qu h xm 0 [.ptr sp 0 0,.fn 307 [] [.ptr c5 0 0,.ptr c3 0 0],.mp cm]
 r5:Qu h c5 0 [kt]
 r3:Qu h c3 0 [.ptr sp 0 0]
 kt:Jg h [] 1 (zC cl) kt
theorem B6(f c d:Nat):HI (.fn f [] [.ptr c 0 0,.ptr d 0 0]) (.fn f [] [.ptr c 0 0,.ptr d 0 0])=true:=by
 have h: ∀n:Nat,Nat.beq n n=true:=fun n=>by simp
 show Qj (Nat.beq f f) (Qj (EI [] []) (EI [.ptr c 0 0,.ptr d 0 0] [.ptr c 0 0,.ptr d 0 0]) false) false=true;rw[h,Qv,show EI [] []=true from rfl,Qv];show Qj (RC (.ptr c 0 0) (.ptr c 0 0)) (Qj (RC (.ptr d 0 0) (.ptr d 0 0)) true false) false=true;show Qj (Qj (Nat.beq c c) true false) (Qj (Qj (Nat.beq d d) true false) true false) false=true;rw[h,h];rfl
def ia(n:Bn):Int:=if HA n then Pj n else-1
theorem F5{st:St}(hf:Qh st){F:Fp}{sp:Nat}{S:Uf}(hS:YO st F sp Tn S){i:Nat}(hi:i<S.length){n:Bn}(hn:S[i]? =some n): ∃v st',QV 341 [.ptr sp 0 0,.int .i64 (i:Nat)] st v st'∧v=.int .i64 (ia n)∧Qt st st':=by
 obtain⟨v,st',h1,⟨m,h2,h3⟩,h4⟩:=qc hf hS hi;rw[hn]at h2
 injection h2 with h2
 subst h2;exact⟨v,st',h1,h3,h4⟩
theorem Dp{α:Type}{L:List (α×AV)}{a b:α}{v:AV}(hne:b≠a)(h:U9 L a=none):U9 (L++[(b,v)]) a=none:=by
 induction L with
 |nil=>simp[U9,hne]
 |cons x L ih=>
  rw[List.cons_append];rw[U9]at h ⊢
  split at h
  ·cases h
  ·rename_i hx;rw[if_neg hx];exact ih h

theorem CW{st:St}(hf:Qh st){F:Fp}{sp:Nat}{S:Uf}(hS:YO st F sp Tn S){cm:Nat}(hx:Qu st.h.get xm 0 [.ptr sp 0 0,.fn 307 [] [.ptr c5 0 0,.ptr c3 0 0],.mp cm])(h6:Tn≤6)(wf:ZI Tn S){i:Nat}(hi:i<S.length): ∃v st',QV 327 [.ptr xm 0 0,iN i] st v st'∧v=iZ (US S i 0)∧Qt st st':=by
 refine Jv Tryz.func327 Tryz.ntmps327 fun T K=>?_;have M:=Mem.start hf;refine Qb 4 K M fun _ K=>?_;refine p1 K (Qi rfl (Qr (M.Jf Qx hx.QI) (Qc Jo rfl))) fun _ K=>?_;refine Qb 1 K M fun _ K=>?_;refine oQ K M (zg M.fresh (hS.q M.qt) h6 wf hi (c:=0) (Nat.two_pow_pos _)) rfl rfl fun _ _ K M=>?_;refine Qb 1 K M ?_;exact⟨rfl,M.qt⟩

theorem L0{st:St}(hf:Qh st){F:Fp}{sp:Nat}{S:Uf}(hS:YO st F sp Tn S){cm:Nat}(hx:Qu st.h.get xm 0 [.ptr sp 0 0,.fn 307 [] [.ptr c5 0 0,.ptr c3 0 0],.mp cm]){i:Nat}(hi:i<S.length){t l h:Nat}(hn:S[i]? =some (.fork t l h)): ∃v st',QV 328 [.ptr xm 0 0,iN i,iN t] st v st'∧v=.tup [iN l,iN h]∧Qt st st':=by
 have htk:ia (.fork t l h)=((t:Nat):Int):=rfl;refine Jv Tryz.func328 Tryz.ntmps328 fun T K=>?_;have M:=Mem.start hf;refine Qb 5 K M fun _ K=>?_;refine p1 K (Qi rfl (Qr (M.Jf Qx hx.QI) (Qc Jo rfl))) fun _ K=>?_;refine Qb 1 K M fun _ K=>?_;refine oQ K M (F5 M.fresh (hS.q M.qt) hi hn) rfl rfl fun _ _ K M=>?_;refine Qb 2 K M fun _ K=>?_;refine U8 K rfl (fun h15=>?_) fun h15=>?_
 ·refine Qb 3 K M fun _ K=>?_;refine p1 K (Qi rfl (Qr (M.Jf Qx hx.QI) (Qc Jo rfl))) fun _ K=>?_;refine Qb 1 K M fun _ K=>?_;refine oQ K M (ze M.fresh (hS.q M.qt) hi hn) rfl rfl fun _ _ K M=>?_;refine Qb 4 K M ?_;exact⟨rfl,M.qt⟩
 exfalso;omega

theorem jv{st:St}(hf:Qh st){F:Fp}{sp:Nat}{S:Uf}(hS:YO st F sp Tn S){cm:Nat}(hx:Qu st.h.get xm 0 [.ptr sp 0 0,.fn 307 [] [.ptr c5 0 0,.ptr c3 0 0],.mp cm]){i:Nat}(hi:i<S.length){n:Bn}(hn:S[i]? =some n): ∃v st',QV 326 [.ptr xm 0 0,iN i,iN i] st v st'∧v=iZ (ia n)∧Qt st st':=by
 refine Jv Tryz.func326 Tryz.ntmps326 fun T K=>?_;have M:=Mem.start hf;refine Qb 1 K M fun _ K=>?_;refine QT (l:=[(0,0),(1,0),(2,0),(3,0),(4,0),(5,0),(6,0),(7,0),(8,0),(9,1),(10,0),(11,0),(12,0),(13,0)]) (by kernel_rfl) ?_;have Mq:=M;refine UT 3 K M fun _ K=>?_;refine q1 rfl K (Qi rfl (Qr (M.Jf Qx hx.QI) (Qc Jo rfl))) fun _ K=>q1 rfl K (Q8 rfl) fun _ K=>?_;obtain⟨v14,st14,ev14,rfl,q14⟩:=F5 M.fresh (hS.q M.qt) hi hn;refine qA rfl K (Qf rfl ev14) fun _ K=>?_;replace M:=M.quiet q14;have Mp:=Mq;have Mq:=M;refine UT 3 K M fun _ K=>?_;refine JE rfl K rfl (Qr (M.Jf Qx hx.QI) (Qc Jo rfl)) (Qr (Mp.Jf Qx hx.QI) (Qc Jo rfl)) (Ul rfl) rfl Q9 fun _ K=>?_;refine q1 rfl K (Q8 rfl) fun _ K=>?_;obtain⟨v20,st20,ev20,rfl,q20⟩:=F5 M.fresh (hS.q M.qt) hi hn;refine qA rfl K (Qf rfl ev20) fun _ K=>?_;replace M:=M.quiet q20;have Mp:=Mq;have Mq:=M;refine UT 2 K M fun _ K=>?_;refine Jd ?_;show W _ _ _ _ _ _ _;refine Qb 2 K M fun _ K=>?_;refine U5 K rfl (fun _ e23 K=>?_) fun _ e23 K=>?_
 ·refine Qb 2 K M fun _ K=>?_;refine xU K rfl rfl (Q8 rfl) rfl (fun _ e26 K=>?_) fun _ e26 K=>?_
  ·refine Qb 8 K M ?_;exact⟨rfl,M.qt⟩
  refine Qb 5 K M fun _ K=>?_;refine U8 K rfl (fun h31=>?_) fun h31=>?_
  ·refine Qb 2 K M ?_;exact⟨rfl,M.qt⟩
  refine Qb 2 K M ?_;exact⟨rfl,M.qt⟩
 refine Qb 11 K M ?_;exact⟨rfl,M.qt⟩

theorem TY{st:St}(hf:Qh st){F:Fp}{sp:Nat}{S:Uf}(hS:YO st F sp Tn S){cl:List Int}(h5:Qu st.h.get c5 0 [kt])(h3:Qu st.h.get c3 0 [.ptr sp 0 0])(hkt:Jg st.h.get [] 1 (zC cl) kt)(hcl: ∀z∈cl,0≤z∧z≤1099511627776)(wf:ZI Tn S)(hlen:S.length<1000000000){u u2:Int}(hx0:0≤u)(hx1:u<((cl.length:Nat):Int)): ∃v st',QV 307 [iZ u,iZ u2,.ptr c5 0 0,.ptr c3 0 0] st v st'∧ ∃i S',v=iN i∧X2 st st' F sp Tn S'∧V7 Tn S 1 S' i∧lvl Tn S' i=Tn∧ ∀c,US S' i c=cv cl u.toNat:=by
 have B:=Ql.UD (o:=Xi F sp Tn S) hf hS.at_ hS.hi;have hkc:=hkt.cell
 have hbn:(cl.length:Int)≤9223372036854775807:=by have:=hkt.AW;rw[Qy]at this;exact this
 refine Jv Tryz.func307 Tryz.ntmps307 fun T K=>?_;have M:=B.mem;refine Qb 2 K M fun _ K=>?_;refine p1 K (Qi rfl (Qr (M.Jf Qx h5.QI) (Qc Jn rfl))) fun _ K=>p1 K (Q0 Jm rfl rfl (hkt.len.trans (congrArg some (Qy _)))) fun _ K=>?_;refine Qb 1 K M fun _ K=>?_;refine U8 K rfl (fun h10=>?_) fun h10=>?_
 ·exfalso;omega
 refine Qb 0 K M fun _ K=>?_;refine QT (l:=[(0,0),(1,0),(2,0),(3,0),(4,0),(5,0),(6,0)]) (by kernel_rfl) ?_;refine q1 rfl K (Qi rfl (Qr (M.Jf Qx h3.QI) (Qc Jo rfl))) fun _ K=>q1 rfl K (Qi rfl (Qr (M.Jf Qx h5.QI) (Qc Jn rfl))) fun _ K=>q1 rfl K (Q8 rfl) fun _ K=>?_;obtain⟨y14,hi14⟩:=YL cl ((u).toNat) Qd;obtain⟨x14,m14,f14,q14,_,la14,lo14,lp14⟩:=(Jg.mem M hkt Qx).load (i:=(u).toNat) (cs:=_) (JG hi14);refine q1 rfl K (Qn (j:=(u).toNat) QD (congrArg some q14) (congrArg (fun z=>some (iZ z)) (by omega:_=(((u).toNat:Nat):Int))) (by rw[Qy];omega)) fun _ K=>q1 rfl K (Qi rfl (lo14 _ 0 _ Qs rfl)) fun _ K=>?_;replace B:=B.step M;have hcv:=hcl y14 (List.mem_of_getElem? hi14);obtain⟨v16,st16,ev16,i1,S1,rfl,hout,mb,hlv,hev⟩:=Pn B.fresh (B.ID (k:=0) rfl) wf hlen hcv.1 hcv.2;refine qA rfl K (Qf rfl ev16) fun _ K=>?_;obtain⟨F',B⟩:=B.V2 hout;have M:=B.mem;refine q1 rfl K (Uu rfl) fun _ K=>Jd ?_;show W _ _ _ _ _ _ _;refine Qb 0 K M ?_
 have he:cv cl u.toNat=y14:=by unfold cv;rw[hi14];rfl
 exact⟨i1,S1,rfl,(B.step M).L7,mb,hlv,fun c=>by rw[he];exact hev c⟩

theorem TX{sp cm:Nat}{cl:List Int}(h6:Tn≤6)(hcl: ∀z∈cl,0≤z∧z≤1099511627776)(i:Nat): ∀(st:St),Qh st→ ∀(F:Fp) (S:Uf) (L:List ((Nat×Nat)×AV)),qn st.h.get F sp cm Tn S L→(∀c,eE F cm c→c<st.n)→ZI Tn S→i<S.length→(∀c,0≤US S i c∧US S i c<((cl.length:Nat):Int))→VJ Tn S cl L→kV st (eE F cm) (lU xm sp cm c5 c3 kt cl)→S.length+(2^(Tn-lvl Tn S i+1)-1)≤1000000000→ ∃v st',QV 308 [.ptr xm 0 0,iN i,iN i] st v st'∧ ∃r S' L',v=iN r∧z7 st st' F sp cm Tn S' L'∧V7 Tn S (2^(Tn-lvl Tn S i+1)-1) S' r∧Xv Tn S' cl i r∧VJ Tn S' cl L'∧(∀j,i<j→U9 L (j,j)=none→U9 L' (j,j)=none):=by
 induction i using Nat.strongRecOn with|_ i ih=>?_
 intro st hf F S L hP hhi wf hi hval hinv hRo hlen;obtain⟨n,hn⟩: ∃n,S[i]? =some n:=⟨_,List.getElem?_eq_getElem hi⟩;have hq9:2^1≤2^(Tn-lvl Tn S i+1):=Nat.pow_le_pow_right Q9 Qd;have B:=Ql.UD (o:=wq F sp cm Tn S L) hf hP hhi;refine Jv Tryz.func308 Tryz.ntmps308 fun T K=>?_;have M:=B.mem;refine Qb 4 K M fun _ K=>?_;refine p1 K (Qi rfl (Qr (hRo _ (B.step M).J5).row.QI (Qc YS rfl))) fun _ K=>?_;refine Qb 2 K M fun _ K=>?_;refine p1 K (Zr Ad HO Z6 Zo rfl rfl) fun _ K=>p1 K (Wd (a:=(i,i)) Wk (qn.map ((B.step M).at_ (k:=0) rfl)) rfl rfl) fun _ K=>?_;refine Qb 6 K M fun _ K=>?_;refine UJ K rfl (fun h27=>?_) fun h27=>?_
 ·have hb27:=h27;refine Qb 2 K M ?_
  obtain⟨v0,hv0⟩: ∃x,U9 L (i,i)=some x:=by cases hq:U9 L (i,i)with|none=>rw[hq]at h27;cases h27|some x=>exact⟨x,rfl⟩
  obtain⟨r,rfl,hmo⟩:=hinv.found hv0;exact⟨r,S,L,by rw[hv0];rfl,(B.step M).eL,⟨wf,List.prefix_refl _,hmo.lt,by omega⟩,hmo,hinv,fun j _ h=>h⟩
 have hb27:=h27;refine Qb 0 K M fun _ K=>?_
 have hnone:U9 L (i,i)=none:=by cases hq:U9 L (i,i)with|none=>rfl|some x=>rw[hq]at h27;cases h27
 refine Qb 3 K M fun _ K=>?_;refine oQ K M (jv M.fresh (B.step M).iw (hRo _ (B.step M).J5).row hi hn) rfl rfl fun _ _ K M=>?_;refine Qb 3 K M fun _ K=>?_;refine U8 K rfl (fun h34=>?_) fun h34=>?_
 ·obtain⟨x0,rfl⟩: ∃x,n=.leaf x:=by cases n with|leaf x=>exact⟨x,rfl⟩|fork t l h=>exact absurd h34 (by simp only[ia,HA,Pj,if_true];omega)
  refine QT (l:=[(4,0),(5,0),(6,0),(7,0),(8,0),(9,0),(0,0),(1,0),(2,0),(3,2),(10,0),(11,0)]) (by kernel_rfl) ?_;have Mq:=M;have Mz0:=M;have Bz0:=B;refine UT 2 K M fun _ K=>?_;obtain⟨v41,st41,ev41,rfl,q41⟩:=CW M.fresh (B.step M).iw (hRo _ (B.step M).J5).row h6 wf hi;refine qA rfl K (Qf rfl ev41) fun _ K=>?_;replace M:=M.quiet q41;have Mp:=Mq;have Mq:=M;have Mz1:=M;have Bz1:=B;refine UT 2 K M fun _ K=>?_;obtain⟨v44,st44,ev44,rfl,q44⟩:=CW M.fresh (B.step M).iw (hRo _ (B.step M).J5).row h6 wf hi;refine qA rfl K (Qf rfl ev44) fun _ K=>?_;replace M:=M.quiet q44;have Mp:=Mq;have Mq:=M;have Mz2:=M;have Bz2:=B;refine UT 3 K M fun _ K=>?_
  refine VQ rfl K rfl (Qr (hRo _ (B.step M).J5).row.QI (Qc Yh rfl)) Qx (by intro s hs;simp only[List.take_succ_cons,List.take_zero,List.mem_cons,List.not_mem_nil,or_false]at hs;rcases hs with rfl|rfl<;>first|exact(Qr (hRo _ (Bz1.step Mz1).J5).row.QI (Qc Yh rfl))|exact(Qr (hRo _ (Bz0.step Mz0).J5).row.QI (Qc Yh rfl))) (B6 _ _ _) rfl Q9 fun _ K=>?_
  replace B:=(B.step M).Lp;have hro:=hRo _ B.J5;have hv0:=hval 0;obtain⟨v45,st45,ev45,i1,S1,rfl,hout,mb,hlv,hev⟩:=TY B.fresh (B.ID (k:=0) rfl) hro.r5 hro.r3 hro.kt hcl wf Qd (u:=US S i 0) (u2:=US S i 0) hv0.1 hv0.2;refine qA rfl K (Z2 rfl rfl ev45) fun _ K=>?_;obtain⟨F',B⟩:=B.V2 hout;replace B:=B.Dz;have M:=B.mem;have hmo:Xv Tn S1 cl i i1:=Xv.leaf wf hn (show _=cv cl x0.toNat by rw[Vz hn]) mb.lt mb.pre hlv hev;have Mp:=Mq;have Mq:=M;have Mz3:=M;have Bz3:=B;refine q1 rfl K (Uu rfl) fun _ K=>Jd ?_;show W _ _ _ _ _ _ _;refine Qb 3 K M fun _ K=>?_;refine p1 K (Qi rfl (Qr (hRo _ (B.step M).J5).row.QI (Qc YS rfl))) fun _ K=>?_;refine Qb 2 K M fun _ K=>?_;refine p1 K (Zr Ad HO Z6 Zo rfl rfl) fun _ K=>?_;refine Qb 1 K M fun _ K=>?_;have hnn:U9 L (i,i)=none:=hnone;replace B:=(B.step M).Lp;refine FJ (j:=1) (a:=(i,i)) K B rfl Wk rfl rfl rfl rfl hnn fun _ B=>?_;replace B:=Ql.Dz (L:=L++[((i,i),iN i1)]) B;have M:=B.mem;refine Qb 2 K M ?_;have h1l:=mb.len
  have hq4:1≤2^(Tn-lvl Tn S i+1)-1:=by have:2^1≤2^(Tn-lvl Tn S i+1):=Nat.pow_le_pow_right Q9 Qd;omega
  have hil:=Nat.lt_of_lt_of_le hi mb.pre.length_le;exact⟨i1,S1,_,rfl,(B.step M).eL,⟨mb.wf,mb.pre,mb.lt,by omega⟩,hmo,(hinv.pre wf mb.pre).put hil hmo,fun j hj h=>Dp (fun e=>by have:=congrArg Prod.fst e;simp at this;omega) (h)⟩
 refine Xc ?_
 obtain⟨t,l,h,rfl⟩: ∃t l h,n=.fork t l h:=by cases n with|leaf x=>exact absurd (show ia (.leaf x)<0 by show(-1:Int)<0;decide) h34|fork t l h=>exact⟨t,l,h,rfl⟩
 obtain⟨a1,a2,a3,a4,a5,a6⟩:=wf.fork _ _ _ _ hn
 have hlt:lvl Tn S i=t:=by unfold lvl;rw[hn]
 have hp1:2^(Tn-lvl Tn S l+1)≤2^(Tn-t):=Nat.pow_le_pow_right Q9 (by have:=Bs wf l;omega);have hp2:2^(Tn-lvl Tn S h+1)≤2^(Tn-t):=Nat.pow_le_pow_right Q9 (by have:=Bs wf h;omega)
 have hp3:2^(Tn-t+1)=2 *2^(Tn-t):=by rw[Nat.pow_succ,Nat.mul_comm]
 have hp4:1≤2^(Tn-t):=Nat.one_le_two_pow;rw[hlt,hp3]at hlen
 have hvl: ∀c,0≤US S l c∧US S l c<((cl.length:Nat):Int):=fun c=>by rw[←Hl wf hn c];exact hval _
 have hvh: ∀c,0≤US S h c∧US S h c<((cl.length:Nat):Int):=fun c=>by rw[←Az wf hn c];exact hval _
 refine Qb 3 K M fun _ K=>?_;refine oQ K M (L0 M.fresh (B.step M).iw (hRo _ (B.step M).J5).row hi hn) rfl rfl fun _ _ K M=>?_;refine Qb 8 K M fun _ K=>?_;refine oQ K M (L0 M.fresh (B.step M).iw (hRo _ (B.step M).J5).row hi hn) rfl rfl fun _ _ K M=>?_;refine Qb 8 K M fun _ K=>?_;replace B:=B.step M;obtain⟨v63,st63,ev63,r1,S1,L1,rfl,hout1,mb1,mo1,hinv1,hnk1⟩:=ih l a3 _ B.fresh _ _ _ (B.at_ (k:=0) rfl) (B.VM (k:=0) rfl) wf Qd hvl hinv (hRo.step B.U7 (fun c hc=>⟨(B.Rm (k:=0) rfl c hc).symm,B.VM (k:=0) rfl c hc⟩)) Qd;refine p1 K (Qf rfl ev63) fun _ K=>?_;obtain⟨F1,B⟩:=B.yQ hout1;have M:=B.mem;have hll:=mb1.len;have hpl:=mb1.pre.length_le;refine Qb 3 K M fun _ K=>?_;replace B:=B.step M;obtain⟨v67,st67,ev67,r2,S2,L2,rfl,hout2,mb2,mo2,hinv2,hnk2⟩:=ih h a4 _ B.fresh _ _ _ (B.at_ (k:=0) rfl) (B.VM (k:=0) rfl) mb1.wf Qd (fun c=>by rw[YF wf mb1.pre Qd];exact hvh c) hinv1 (hRo.step B.U7 (fun c hc=>⟨(B.Rm (k:=0) rfl c hc).symm,B.VM (k:=0) rfl c hc⟩)) (by rw[XB mb1.pre Qd];omega);refine p1 K (Qf rfl ev67) fun _ K=>?_;obtain⟨F2,B⟩:=B.yQ hout2;have M:=B.mem;rw[XB mb1.pre Qd]at mb2;have hll2:=mb2.len;have hpl2:=mb2.pre.length_le;have mo1':=mo1.pre mb1.wf mb2.pre Qd
 have hlS2: ∀j,j<S.length→lvl Tn S2 j=lvl Tn S j:=fun j hj=>by rw[XB mb2.pre Qd,XB mb1.pre hj]
 have hk1:=mo1'.lv;have hk2:=mo2.lv;rw[hlS2 l Qd]at hk1;rw[hlS2 h Qd]at hk2;have hnone2:U9 L2 (i,i)=none:=hnk2 i Qd (hnk1 i Qd hnone);refine Qb 5 K M fun _ K=>?_;refine U5 K rfl (fun _ e70 K=>?_) fun _ e70 K=>?_
 ·exfalso;omega
 refine Qb 3 K M fun _ K=>?_;refine U8 K rfl (fun h73=>?_) fun h73=>?_
 ·refine Qb 3 K M fun _ K=>?_;refine p1 K (Qi rfl (Qr (hRo _ (B.step M).J5).row.QI (Qc Jo rfl))) fun _ K=>?_;refine Qb 3 K M fun _ K=>?_;replace B:=(B.step M).Lp;obtain⟨v81,st81,ev81,r3,S3,rfl,hout3,mb3,hlv3,hev3⟩:=zd B.fresh (B.ID (k:=0) rfl) mb2.wf Qd (t:=t) (l:=r1) (h:=r2) a6 mo1'.lt mo2.lt Qd Qd;refine p1 K (Qf rfl ev81) fun _ K=>?_;obtain⟨F3,B⟩:=B.V2 hout3;replace B:=B.Dz;have M:=B.mem;have hp13:=(mb1.pre.trans mb2.pre).trans mb3.pre;have hmo:Xv Tn S3 cl i r3:=Xv.fork wf hn hp13 mb3.lt (mo1'.pre mb2.wf mb3.pre Qd) (mo2.pre mb2.wf mb3.pre Qd) hlv3 (fun c=>by rw[hev3,YF mb2.wf mb3.pre mo1'.lt,YF mb2.wf mb3.pre mo2.lt]);refine Qb 4 K M fun _ K=>?_;refine p1 K (Qi rfl (Qr (hRo _ (B.step M).J5).row.QI (Qc YS rfl))) fun _ K=>?_;refine Qb 2 K M fun _ K=>?_;refine p1 K (Zr Ad HO Z6 Zo rfl rfl) fun _ K=>?_;refine Qb 1 K M fun _ K=>?_;have hnn:=hnone2;replace B:=(B.step M).Lp;refine FJ (j:=1) (a:=(i,i)) K B rfl Wk rfl rfl rfl rfl hnn fun _ B=>?_;replace B:=Ql.Dz (L:=L2++[((i,i),iN r3)]) B;have M:=B.mem;refine Qb 2 K M ?_;have h3l:=mb3.len;have hil:=Nat.lt_of_lt_of_le hi hp13.length_le;exact⟨r3,S3,_,rfl,(B.step M).eL,⟨mb3.wf,hp13,mb3.lt,by rw[hlt,hp3];omega⟩,hmo,(hinv2.pre mb2.wf mb3.pre).put hil hmo,fun j hj h=>Dp (fun e=>by have:=congrArg Prod.fst e;simp at this;omega) (hnk2 j Qd (hnk1 j Qd h))⟩
 exfalso;omega

theorem xr{st:St}(hf:Qh st){F:Fp}{sp:Nat}{S:Uf}(hS:YO st F sp Tn S){i:Nat}(hi:i<S.length): ∃v st',QV 306 [.ptr sp 0 0,iN i] st v st'∧v=.bool true∧Qt st st':=by
 refine Jv Tryz.func306 Tryz.ntmps306 fun T K=>?_;have M:=Mem.start hf;refine Qb 3 K M fun _ K=>?_;refine U5 K rfl (fun _ e7 K=>?_) fun _ e7 K=>?_
 ·exfalso;omega
 refine Qb 2 K M fun _ K=>?_;obtain⟨v10,st10,ev10,rfl,q10⟩:=Tv M.fresh (hS.q M.qt);refine pg K rfl rfl (Qf rfl ev10) fun _ K=>?_;replace M:=M.quiet q10;refine Qb 3 K M ?_;exact⟨congrArg AV.bool (decide_eq_true Qd),M.qt⟩

theorem jw{st:St}(hf:Qh st){F:Fp}{sp:Nat}{S:Uf}(hS:YO st F sp Tn S)(h6:Tn≤6)(wf:ZI Tn S){i:Nat}(hi:i<S.length){cl:List Int}(hkt:Jg st.h.get [] 1 (zC cl) kt)(hoff: ∀c m o n y,kt=.sl c m o n y→ ¬F c)(hcl: ∀z∈cl,0≤z∧z≤1099511627776)(hval: ∀c,0≤US S i c∧US S i c<((cl.length:Nat):Int))(hlen:S.length+(2^(Tn+1)-1)≤1000000000): ∃v st',QV 287 [.ptr sp 0 0,iN i,kt] st v st'∧ ∃r S',v=iN r∧X2 st st' F sp Tn S'∧V7 Tn S (2^(Tn+1)-1) S' r∧ ∀c,US S' r c=cv cl (US S i c).toNat:=by
 have B:=Ql.UD (o:=Xi F sp Tn S) hf hS.at_ hS.hi;have hkc:=hkt.cell
 have hbn:(cl.length:Int)≤9223372036854775807:=by have:=hkt.AW;rw[Qy]at this;exact this
 refine Jv Tryz.func287 Tryz.ntmps287 fun T K=>?_;have M:=B.mem;refine au 1 K M ?_;intro c3 _ _ K _ M;refine JK K M rfl (N1 hkt.cell) Q9 fun c5 _ _ K M=>?_;replace M:=Mem.cast (M':=[(c5,0,[kt]),(c3,0,[.ptr sp 0 0])]) M (congrArg (fun q=>(c5,0,q)::[(c3,0,[.ptr sp 0 0])]) (XN (hkt.cell)));refine Qb 3 K M fun _ K=>?_;refine oQ K M (xr M.fresh ((B.step M).ID (k:=0) rfl) hi) rfl rfl fun _ _ K M=>?_;refine Qb 2 K M fun _ K=>?_;refine p1 K (Y6 rfl rfl) fun _ K=>?_;refine Qb 3 K M fun _ K=>?_;replace B:=B.step M;refine VN ZF K B rfl fun c16 _ _ K B=>?_;have M:=B.mem;refine au 6 K M ?_;intro c18 _ _ K _ M;replace B:=Ql.Dz ((B.step M).jB (.swap ..));have hlvi:=Bs wf i;have hpw:2^(Tn-lvl Tn S i+1)≤2^(Tn+1):=Nat.pow_le_pow_right Q9 Qd;obtain⟨v22,st22,ev22,r1,S1,L1,rfl,hout1,mb1,mo1,hinv1,_⟩:=TX (xm:=c18) (cm:=c16) (c5:=c5) (c3:=c3) (kt:=kt) h6 hcl i _ B.fresh _ _ _ (B.at_ (k:=0) rfl) (B.VM (k:=0) rfl) wf hi hval (fun a b v hm=>by cases hm) (fun h' e=>⟨B.PR 0 rfl 0 rfl e,B.PR 1 rfl 0 rfl e,B.PR 2 rfl 0 rfl e,B.iu hf hkt hoff 0 rfl e⟩) Qd;refine p1 K (Qf rfl ev22) fun _ K=>?_;obtain⟨F1,B⟩:=B.yQ hout1;have M:=B.mem;refine Qb 1 K M ?_
 have hev: ∀c,US S1 r1 c=cv cl (US S i c).toNat:=fun c=>by rw[mo1.ev,YF wf mb1.pre hi]
 exact⟨r1,S1,rfl,(B.step M).Lp.L7,mb1.more Qd,hev⟩
end Go.Proofs.YtildagdnomiahaaGreatDoor
