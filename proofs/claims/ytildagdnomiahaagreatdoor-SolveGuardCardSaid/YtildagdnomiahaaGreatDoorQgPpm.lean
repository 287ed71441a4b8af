/-
  A function by a table (chapter 17).
-/
import Derived.Test.YtildagdnomiahaaGreatDoorQgEnt
namespace Go.Proofs.YtildagdnomiahaaGreatDoor
open Go Go.RowKit
set_option maxHeartbeats 8000000
set_option linter.unusedVariables false
set_option linter.unusedSimpArgs false
set_option linter.unnecessarySimpa false
set_option linter.unusedSectionVars false
set_option maxRecDepth 100000
variable {Tn c3 c5 xm:Nat} {kt:AV}

structure ZR(T:Nat)(S:JW)(cl:List Int)(i r:Nat):Prop where
 lt:r<S.length
 lv:lvl T S i≤lvl T S r
 ev: ∀c,UF S r c=cv cl (UF S i c).toNat
section
variable {T:Nat} {S S':JW} {cl:List Int} {L:List ((Nat×Nat)×AV)} {i r:Nat}
theorem ZR.pre(H:ZR T S cl i r)(W:Zo T S)(h:S<+:S')(hi:i<S.length):ZR T S' cl i r:=
 ⟨Nat.lt_of_lt_of_le H.lt h.length_le,by rw[Xg h hi,Xg h H.lt];exact H.lv,fun c=>by rw[Yx W h H.lt,Yx W h hi];exact H.ev c⟩
def Vh(T:Nat)(S:JW)(cl:List Int)(L:List ((Nat×Nat)×AV)):Prop:= ∀a b v,((a,b),v)∈L→a=b∧a<S.length∧ ∃r:Nat,v=.int .i64 (r:Nat)∧ZR T S cl a r
theorem Vh.pre(H:Vh T S cl L)(W:Zo T S)(h:S<+:S'):Vh T S' cl L:=fun a b v hm=>by
 obtain⟨h1,h2,r,h3,h4⟩:=H a b v hm;exact⟨h1,Nat.lt_of_lt_of_le h2 h.length_le,r,h3,h4.pre W h h2⟩
theorem Vh.put(H:Vh T S cl L)(hi:i<S.length)(h:ZR T S cl i r):Vh T S cl (L++[((i,i),.int .i64 (r:Nat))]):=fun a b v hm=>by
 rcases List.mem_append.1 hm with hm|hm
 ·exact H a b v hm
 ·have e:=List.mem_singleton.1 hm
  injection e with e1 e2
  injection e1 with e1 e3
  subst e1 e3;exact⟨rfl,hi,r,e2,h⟩
theorem Vh.found(H:Vh T S cl L){v:AV}(h:Uz L (i,i)=some v): ∃r:Nat,v=.int .i64 (r:Nat)∧ZR T S cl i r:=(H _ _ _ (I5 h)).2.2
theorem ZR.leaf(W:Zo T S){v x:Int}(hi:S[i]? =some (.leaf v))(hx:x=cv cl v.toNat)(hr:r<S'.length)(h:S<+:S')(hl:lvl T S' r=T)(he: ∀c,UF S' r c=x):ZR T S' cl i r:=by
 have hlt:=(List.getElem?_eq_some_iff.1 hi).1;refine⟨hr,?_,fun c=>?_⟩
 ·rw[hl,Xg h hlt];exact OV W i
 ·rw[he,Yx W h hlt,XN hi,hx]
theorem ZR.fork(W:Zo T S){t l k rl rk:Nat}(hi:S[i]? =some (.fork t l k))(h:S<+:S')(hr:r<S'.length)(h1:ZR T S' cl l rl)(h2:ZR T S' cl k rk)(hl:t≤lvl T S' r)(he: ∀c,UF S' r c=if c.testBit t then UF S' rk c else UF S' rl c):ZR T S' cl i r:=by
 have hlt:=(List.getElem?_eq_some_iff.1 hi).1;obtain⟨a1,a2,a3,a4,_⟩:=W.fork _ _ _ _ hi;refine⟨hr,?_,fun c=>?_⟩
 ·rw[Xg h hlt];refine Nat.le_trans ?_ hl;unfold lvl;rw[hi];exact Nat.le_refl _
 ·rw[he,Yx W h hlt,XO W hi,h1.ev,h2.ev,Yx W h (Nat.lt_trans a3 hlt),Yx W h (Nat.lt_trans a4 hlt)]
  split<;>rfl
end
def wN(st:St)(X:Fp)(Q:Hp→Prop):Prop:= ∀h':Hp,(∀c,c<st.n→ ¬X c→h' c=st.h.get c)→Q h'
theorem wN.step{st st':St}{X X':Fp}{Q:Hp→Prop}(h:wN st X Q)(C:YI X st st')(m:Eg st st' X X'):wN st' X' Q:=fun h' e=>h h' fun c hc hx=>by
 rw[e c (Nat.lt_of_lt_of_le hc C.le) fun hx'=>by
  rcases(m c hx').1 with h1|h1
  ·exact hx h1
  ·omega]
 exact C.J0 c hc hx
structure Ty(h:Hp)(F:Fp)(sp cm T:Nat)(S:JW)(L:List ((Nat×Nat)×AV)):Prop where
 H6:Ef h F sp T S
 map:(XZ cm Zm L).H h
 d: ¬F cm
def zL(F:Fp)(cm:Nat):Fp:=fun c=>F c∨c=cm
def zd(F:Fp)(sp cm T:Nat)(S:JW)(L:List ((Nat×Nat)×AV)):Ob:=⟨zL F cm,fun h=>Ty h F sp cm T S L,fun h h' e H=>⟨H.H6.frame fun c hc=>e c (.inl hc),(XZ cm Zm L).fr _ _ (fun c hc=>e c (.inr hc)) H.map,H.d⟩⟩
def jz(st st':St)(F:Fp)(sp cm T:Nat)(S':JW)(L':List ((Nat×Nat)×AV)):Prop:= ∃F',Ty st'.h.get F' sp cm T S' L'∧Eg st st' (zL F cm) (zL F' cm)∧YI (zL F cm) st st'
section
variable {st0 st st':St} {X0 F:Fp} {M:QK} {Os:List Ob} {sp cm T:Nat} {S S':JW} {L L':List ((Nat×Nat)×AV)}
theorem Qj.split{o o1 o2:Ob}(B:Qj st0 X0 st M (o::Os))(h1:o1.H st.h.get)(h2:o2.H st.h.get)(hF1: ∀c,o1.F c→o.F c)(hF2: ∀c,o2.F c→o.F c)(hd: ∀c,o1.F c→ ¬o2.F c):Qj st0 X0 st M (o1::o2::Os):=by
 have hp:=List.pairwise_cons.1 B.dj;refine⟨B.fresh,B.le,B.row,B.nodup,B.lo,fun p hp'=>?_,fun p hp' c hc=>?_,List.pairwise_cons.2 ⟨fun p hp' c k1 k2=>?_,List.pairwise_cons.2 ⟨fun p hp' c k1 k2=>hp.1 p hp' c (hF2 c k1) k2,hp.2⟩⟩,fun p hp' c m l hm hc=>?_,B.J0⟩
 ·rcases List.mem_cons.1 hp' with rfl|hp'
  ·exact h1
  rcases List.mem_cons.1 hp' with rfl|hp'
  ·exact h2
  ·exact B.obj p (List.mem_cons_of_mem _ hp')
 ·rcases List.mem_cons.1 hp' with rfl|hp'
  ·exact B.hi o (List.mem_cons_self ..) c (hF1 c hc)
  rcases List.mem_cons.1 hp' with rfl|hp'
  ·exact B.hi o (List.mem_cons_self ..) c (hF2 c hc)
  ·exact B.hi p (List.mem_cons_of_mem _ hp') c hc
 ·rcases List.mem_cons.1 hp' with rfl|hp'
  ·exact hd c k1 k2
  ·exact hp.1 p hp' c (hF1 c k1) k2
 ·rcases List.mem_cons.1 hp' with rfl|hp'
  ·exact B.djM o (List.mem_cons_self ..) c m l hm (hF1 c hc)
  rcases List.mem_cons.1 hp' with rfl|hp'
  ·exact B.djM o (List.mem_cons_self ..) c m l hm (hF2 c hc)
  ·exact B.djM p (List.mem_cons_of_mem _ hp') c m l hm hc
theorem Qj.Dl{o:Ob}(B:Qj st0 X0 st M Os){c m:Nat}{l:List AV}(k:Nat)(hk:M[k]? =some (c,m,l))(j:Nat)(hj:Os[j]? =some o){h':Hp}(e: ∀c,c<st.n→ ¬o.F c→h' c=st.h.get c):Qw h' c m l:=by
 have hm:=List.mem_of_getElem? hk;have hr:=B.row c m l hm;exact hr.frame (e c (hr.lt B.fresh) (B.djM o (List.mem_of_getElem? hj) c m l hm))
theorem Qj.vM{o:Ob}(B:Qj st0 X0 st M Os)(hf:Qg st0){z:Nat}{ls:List (List AV)}{ks:AV}(r:Je st0.h.get [] z ls ks)(hX: ∀c m o n y,ks=.sl c m o n y→ ¬X0 c)(j:Nat)(hj:Os[j]? =some o){h':Hp}(e: ∀c,c<st.n→ ¬o.F c→h' c=st.h.get c):Je h' [] z ls ks:=
 (B.rd hf r hX).frame fun c m p n y e2=>e c (by obtain⟨_,cells,k2,_⟩:=(B.rd hf r hX).alive c m p n y e2;exact k2.lt B.fresh) (B.off hj hf r hX c m p n y e2)
theorem Qj.IZ(B:Qj st0 X0 st M (zd F sp cm T S L::Os)):Qj st0 X0 st M (ZC F sp T S::XZ cm Zm L::Os):=by
 have H:Ty st.h.get F sp cm T S L:=B.at_ (k:=0) rfl;exact B.split H.H6 H.map (fun c hc=>.inl hc) (fun c hc=>.inr hc) fun c h1 h2=>H.d ((show c=cm from h2)▸h1)
theorem Qj.BN(B:Qj st0 X0 st M (ZC F sp T S::XZ cm Zm L::Os)):Qj st0 X0 st M (zd F sp cm T S L::Os):=
 B.join (fun h1 h2=>⟨h1,h2,fun h=>(List.pairwise_cons.1 B.dj).1 (XZ cm Zm L) Qx cm h rfl⟩) fun c hc=>hc
theorem Qj.zT{F':Fp}(B:Qj st0 (zL F cm) st M (zd F' sp cm T S' L'::Os)):jz st0 st F sp cm T S' L':=
 ⟨F',B.at_ (k:=0) rfl,fun c hc=>⟨(B.DC (k:=0) rfl c hc).symm,B.Vj (k:=0) rfl c hc⟩,B.U7⟩
theorem Qj.qS(B:Qj st0 X0 st M (zd F sp cm T S L::Os))(h:jz st st' F sp cm T S' L'): ∃F',Qj st0 X0 st' M (zd F' sp cm T S' L'::Os):=by
 obtain⟨F',h1,h2,h3⟩:=h;exact⟨F',B.call (k:=0) rfl h3 (o':=zd F' sp cm T S' L') h1 h2⟩
theorem Qj.vO(B:Qj st0 X0 st M (zd F sp cm T S L::Os)):Y0 st F sp T S:=⟨Ty.H6 (B.at_ (k:=0) rfl),fun c hc=>B.Vj (k:=0) rfl c (.inl hc)⟩
end
structure ey(xm sp cm c5 c3:Nat)(kt:AV)(cl:List Int)(h:Hp):Prop where
 row:Qw h xm 0 [.ptr sp 0 0,.fn 307 [] [.ptr c5 0 0,.ptr c3 0 0],.mp cm]
 r5:Qw h c5 0 [kt]
 r3:Qw h c3 0 [.ptr sp 0 0]
 kt:Je h [] 1 (zC cl) kt
theorem Ge(f c d:Nat):Np (.fn f [] [.ptr c 0 0,.ptr d 0 0]) (.fn f [] [.ptr c 0 0,.ptr d 0 0])=true:=by
 have h: ∀n:Nat,Nat.beq n n=true:=fun n=>by simp
 show Ql (Nat.beq f f) (Ql (WW [] []) (WW [.ptr c 0 0,.ptr d 0 0] [.ptr c 0 0,.ptr d 0 0]) false) false=true;rw[h,Qv,show WW [] []=true from rfl,Qv];show Ql (Pb (.ptr c 0 0) (.ptr c 0 0)) (Ql (Pb (.ptr d 0 0) (.ptr d 0 0)) true false) false=true;show Ql (Ql (Nat.beq c c) true false) (Ql (Ql (Nat.beq d d) true false) true false) false=true;rw[h,h];rfl
def vC(n:Bn):Int:=if F8 n then C9 n else-1
theorem Ay{st:St}(hf:Qg st){F:Fp}{sp:Nat}{S:JW}(hS:Y0 st F sp Tn S){i:Nat}(hi:i<S.length){n:Bn}(hn:S[i]? =some n): ∃v st',QR 341 [.ptr sp 0 0,.int .i64 (i:Nat)] st v st'∧v=.int .i64 (vC n)∧Qt st st':=by
 obtain⟨v,st',h1,⟨m,h2,h3⟩,h4⟩:=Ti hf hS hi;rw[hn]at h2
 injection h2 with h2
 subst h2;exact⟨v,st',h1,h3,h4⟩
theorem BD{α:Type}{L:List (α×AV)}{a b:α}{v:AV}(hne:b≠a)(h:Uz L a=none):Uz (L++[(b,v)]) a=none:=by
 induction L with
 |nil=>simp[Uz,hne]
 |cons x L ih=>
  rw[List.cons_append];rw[Uz]at h ⊢
  split at h
  ·cases h
  ·rename_i hx;rw[if_neg hx];exact ih h

theorem Bm{st:St}(hf:Qg st){F:Fp}{sp:Nat}{S:JW}(hS:Y0 st F sp Tn S){cm:Nat}(hx:Qw st.h.get xm 0 [.ptr sp 0 0,.fn 307 [] [.ptr c5 0 0,.ptr c3 0 0],.mp cm])(h6:Tn≤6)(wf:Zo Tn S){i:Nat}(hi:i<S.length): ∃v st',QR 327 [.ptr xm 0 0,iN i] st v st'∧v=iZ (UF S i 0)∧Qt st st':=by
 refine Jq Tryz.func327 Tryz.ntmps327 fun T K=>?_;have M:=Mem.start hf;refine Qb 4 K M fun _ K=>?_;refine p1 K (Qh rfl (Qp (M.QY Qx hx.QF) (Qc Jh rfl))) fun _ K=>?_;refine Qb 1 K M fun _ K=>?_;refine oQ K M (ji M.fresh (hS.q M.qt) h6 wf hi (c:=0) (Nat.two_pow_pos _)) rfl rfl fun _ _ K M=>?_;refine Qb 1 K M ?_;exact⟨rfl,M.qt⟩

theorem Kg{st:St}(hf:Qg st){F:Fp}{sp:Nat}{S:JW}(hS:Y0 st F sp Tn S){cm:Nat}(hx:Qw st.h.get xm 0 [.ptr sp 0 0,.fn 307 [] [.ptr c5 0 0,.ptr c3 0 0],.mp cm]){i:Nat}(hi:i<S.length){t l h:Nat}(hn:S[i]? =some (.fork t l h)): ∃v st',QR 328 [.ptr xm 0 0,iN i,iN t] st v st'∧v=.tup [iN l,iN h]∧Qt st st':=by
 have htk:vC (.fork t l h)=((t:Nat):Int):=rfl;refine Jq Tryz.func328 Tryz.ntmps328 fun T K=>?_;have M:=Mem.start hf;refine Qb 5 K M fun _ K=>?_;refine p1 K (Qh rfl (Qp (M.QY Qx hx.QF) (Qc Jh rfl))) fun _ K=>?_;refine Qb 1 K M fun _ K=>?_;refine oQ K M (Ay M.fresh (hS.q M.qt) hi hn) rfl rfl fun _ _ K M=>?_;refine Qb 2 K M fun _ K=>?_;refine Uk K rfl (fun h15=>?_) fun h15=>?_
 ·refine Qb 3 K M fun _ K=>?_;refine p1 K (Qh rfl (Qp (M.QY Qx hx.QF) (Qc Jh rfl))) fun _ K=>?_;refine Qb 1 K M fun _ K=>?_;refine oQ K M (jg M.fresh (hS.q M.qt) hi hn) rfl rfl fun _ _ K M=>?_;refine Qb 4 K M ?_;exact⟨rfl,M.qt⟩
 exfalso;omega

theorem Me{st:St}(hf:Qg st){F:Fp}{sp:Nat}{S:JW}(hS:Y0 st F sp Tn S){cm:Nat}(hx:Qw st.h.get xm 0 [.ptr sp 0 0,.fn 307 [] [.ptr c5 0 0,.ptr c3 0 0],.mp cm]){i:Nat}(hi:i<S.length){n:Bn}(hn:S[i]? =some n): ∃v st',QR 326 [.ptr xm 0 0,iN i,iN i] st v st'∧v=iZ (vC n)∧Qt st st':=by
 refine Jq Tryz.func326 Tryz.ntmps326 fun T K=>?_;have M:=Mem.start hf;refine Qb 1 K M fun _ K=>?_;refine QQ (l:=[(0,0),(1,0),(2,0),(3,0),(4,0),(5,0),(6,0),(7,0),(8,0),(9,1),(10,0),(11,0),(12,0),(13,0)]) (by kernel_rfl) ?_;have Mq:=M;refine Yd 3 K M fun _ K=>?_;refine q1 rfl K (Qh rfl (Qp (M.QY Qx hx.QF) (Qc Jh rfl))) fun _ K=>q1 rfl K (QA rfl) fun _ K=>?_;obtain⟨v14,st14,ev14,rfl,q14⟩:=Ay M.fresh (hS.q M.qt) hi hn;refine qA rfl K (Qf rfl ev14) fun _ K=>?_;replace M:=M.quiet q14;have Mp:=Mq;have Mq:=M;refine Yd 3 K M fun _ K=>?_;refine JC rfl K rfl (Qp (M.QY Qx hx.QF) (Qc Jh rfl)) (Qp (Mp.QY Qx hx.QF) (Qc Jh rfl)) (Ua rfl) rfl Q8 fun _ K=>?_;refine q1 rfl K (QA rfl) fun _ K=>?_;obtain⟨v20,st20,ev20,rfl,q20⟩:=Ay M.fresh (hS.q M.qt) hi hn;refine qA rfl K (Qf rfl ev20) fun _ K=>?_;replace M:=M.quiet q20;have Mp:=Mq;have Mq:=M;refine Yd 2 K M fun _ K=>?_;refine Jf ?_;show W _ _ _ _ _ _ _;refine Qb 2 K M fun _ K=>?_;refine Uv K rfl (fun _ e23 K=>?_) fun _ e23 K=>?_
 ·refine Qb 2 K M fun _ K=>?_;refine uQ K rfl rfl (QA rfl) rfl (fun _ e26 K=>?_) fun _ e26 K=>?_
  ·refine Qb 8 K M ?_;exact⟨rfl,M.qt⟩
  refine Qb 5 K M fun _ K=>?_;refine Uk K rfl (fun h31=>?_) fun h31=>?_
  ·refine Qb 2 K M ?_;exact⟨rfl,M.qt⟩
  refine Qb 2 K M ?_;exact⟨rfl,M.qt⟩
 refine Qb 11 K M ?_;exact⟨rfl,M.qt⟩

theorem RZ{st:St}(hf:Qg st){F:Fp}{sp:Nat}{S:JW}(hS:Y0 st F sp Tn S){cl:List Int}(h5:Qw st.h.get c5 0 [kt])(h3:Qw st.h.get c3 0 [.ptr sp 0 0])(hkt:Je st.h.get [] 1 (zC cl) kt)(hcl: ∀z∈cl,0≤z∧z≤1099511627776)(wf:Zo Tn S)(hlen:S.length<1000000000){u u2:Int}(hx0:0≤u)(hx1:u<((cl.length:Nat):Int)): ∃v st',QR 307 [iZ u,iZ u2,.ptr c5 0 0,.ptr c3 0 0] st v st'∧ ∃i S',v=iN i∧ZW st st' F sp Tn S'∧XT Tn S 1 S' i∧lvl Tn S' i=Tn∧ ∀c,UF S' i c=cv cl u.toNat:=by
 have B:=Qj.UR (o:=ZC F sp Tn S) hf hS.at_ hS.hi;have hkc:=hkt.cell
 have hbn:(cl.length:Int)≤9223372036854775807:=by have:=hkt.EA;rw[Q0]at this;exact this
 refine Jq Tryz.func307 Tryz.ntmps307 fun T K=>?_;have M:=B.mem;refine Qb 2 K M fun _ K=>?_;refine p1 K (Qh rfl (Qp (M.QY Qx h5.QF) (Qc Jg rfl))) fun _ K=>p1 K (Q4 Js rfl rfl (hkt.len.trans (congrArg some (Q0 _)))) fun _ K=>?_;refine Qb 1 K M fun _ K=>?_;refine Uk K rfl (fun h10=>?_) fun h10=>?_
 ·exfalso;omega
 refine Qb 0 K M fun _ K=>?_;refine QQ (l:=[(0,0),(1,0),(2,0),(3,0),(4,0),(5,0),(6,0)]) (by kernel_rfl) ?_;refine q1 rfl K (Qh rfl (Qp (M.QY Qx h3.QF) (Qc Jh rfl))) fun _ K=>q1 rfl K (Qh rfl (Qp (M.QY Qx h5.QF) (Qc Jg rfl))) fun _ K=>q1 rfl K (QA rfl) fun _ K=>?_;obtain⟨y14,hi14⟩:=YP cl ((u).toNat) Qe;obtain⟨x14,m14,f14,q14,_,la14,lo14,lp14⟩:=(Je.mem M hkt Qx).load (i:=(u).toNat) (cs:=_) (JA hi14);refine q1 rfl K (Qs (j:=(u).toNat) QG (congrArg some q14) (congrArg (fun z=>some (iZ z)) (by omega:_=(((u).toNat:Nat):Int))) (by rw[Q0];omega)) fun _ K=>q1 rfl K (Qh rfl (lo14 _ 0 _ Qq rfl)) fun _ K=>?_;replace B:=B.step M;have hcv:=hcl y14 (List.mem_of_getElem? hi14);obtain⟨v16,st16,ev16,i1,S1,rfl,hout,mb,hlv,hev⟩:=CC B.fresh (B.H6 (k:=0) rfl) wf hlen hcv.1 hcv.2;refine qA rfl K (Qf rfl ev16) fun _ K=>?_;obtain⟨F',B⟩:=B.XP hout;have M:=B.mem;refine q1 rfl K (Yo rfl) fun _ K=>Jf ?_;show W _ _ _ _ _ _ _;refine Qb 0 K M ?_
 have he:cv cl u.toNat=y14:=by unfold cv;rw[hi14];rfl
 exact⟨i1,S1,rfl,(B.step M).Kk,mb,hlv,fun c=>by rw[he];exact hev c⟩

theorem RY{sp cm:Nat}{cl:List Int}(h6:Tn≤6)(hcl: ∀z∈cl,0≤z∧z≤1099511627776)(i:Nat): ∀(st:St),Qg st→ ∀(F:Fp) (S:JW) (L:List ((Nat×Nat)×AV)),Ty st.h.get F sp cm Tn S L→(∀c,zL F cm c→c<st.n)→Zo Tn S→i<S.length→(∀c,0≤UF S i c∧UF S i c<((cl.length:Nat):Int))→Vh Tn S cl L→wN st (zL F cm) (ey xm sp cm c5 c3 kt cl)→S.length+(2^(Tn-lvl Tn S i+1)-1)≤1000000000→ ∃v st',QR 308 [.ptr xm 0 0,iN i,iN i] st v st'∧ ∃r S' L',v=iN r∧jz st st' F sp cm Tn S' L'∧XT Tn S (2^(Tn-lvl Tn S i+1)-1) S' r∧ZR Tn S' cl i r∧Vh Tn S' cl L'∧(∀j,i<j→Uz L (j,j)=none→Uz L' (j,j)=none):=by
 induction i using Nat.strongRecOn with|_ i ih=>?_
 intro st hf F S L hP hhi wf hi hval hinv hRo hlen;obtain⟨n,hn⟩: ∃n,S[i]? =some n:=⟨_,List.getElem?_eq_getElem hi⟩;have hq9:2^1≤2^(Tn-lvl Tn S i+1):=Nat.pow_le_pow_right Q8 Qe;have B:=Qj.UR (o:=zd F sp cm Tn S L) hf hP hhi;refine Jq Tryz.func308 Tryz.ntmps308 fun T K=>?_;have M:=B.mem;refine Qb 4 K M fun _ K=>?_;refine p1 K (Qh rfl (Qp (hRo _ (B.step M).J0).row.QF (Qc Y2 rfl))) fun _ K=>?_;refine Qb 2 K M fun _ K=>?_;refine p1 K (YM Ek FJ Zf YL rfl rfl) fun _ K=>p1 K (V2 (a:=(i,i)) V8 (Ty.map ((B.step M).at_ (k:=0) rfl)) rfl rfl) fun _ K=>?_;refine Qb 6 K M fun _ K=>?_;refine YU K rfl (fun h27=>?_) fun h27=>?_
 ·have hb27:=h27;refine Qb 2 K M ?_
  obtain⟨v0,hv0⟩: ∃x,Uz L (i,i)=some x:=by cases hq:Uz L (i,i)with|none=>rw[hq]at h27;cases h27|some x=>exact⟨x,rfl⟩
  obtain⟨r,rfl,hmo⟩:=hinv.found hv0;exact⟨r,S,L,by rw[hv0];rfl,(B.step M).zT,⟨wf,List.prefix_refl _,hmo.lt,by omega⟩,hmo,hinv,fun j _ h=>h⟩
 have hb27:=h27;refine Qb 0 K M fun _ K=>?_
 have hnone:Uz L (i,i)=none:=by cases hq:Uz L (i,i)with|none=>rfl|some x=>rw[hq]at h27;cases h27
 refine Qb 3 K M fun _ K=>?_;refine oQ K M (Me M.fresh (B.step M).vO (hRo _ (B.step M).J0).row hi hn) rfl rfl fun _ _ K M=>?_;refine Qb 3 K M fun _ K=>?_;refine Uk K rfl (fun h34=>?_) fun h34=>?_
 ·obtain⟨x0,rfl⟩: ∃x,n=.leaf x:=by cases n with|leaf x=>exact⟨x,rfl⟩|fork t l h=>exact absurd h34 (by simp only[vC,F8,C9,if_true];omega)
  refine QQ (l:=[(4,0),(5,0),(6,0),(7,0),(8,0),(9,0),(0,0),(1,0),(2,0),(3,2),(10,0),(11,0)]) (by kernel_rfl) ?_;have Mq:=M;have Mz0:=M;have Bz0:=B;refine Yd 2 K M fun _ K=>?_;obtain⟨v41,st41,ev41,rfl,q41⟩:=Bm M.fresh (B.step M).vO (hRo _ (B.step M).J0).row h6 wf hi;refine qA rfl K (Qf rfl ev41) fun _ K=>?_;replace M:=M.quiet q41;have Mp:=Mq;have Mq:=M;have Mz1:=M;have Bz1:=B;refine Yd 2 K M fun _ K=>?_;obtain⟨v44,st44,ev44,rfl,q44⟩:=Bm M.fresh (B.step M).vO (hRo _ (B.step M).J0).row h6 wf hi;refine qA rfl K (Qf rfl ev44) fun _ K=>?_;replace M:=M.quiet q44;have Mp:=Mq;have Mq:=M;have Mz2:=M;have Bz2:=B;refine Yd 3 K M fun _ K=>?_
  refine Vp rfl K rfl (Qp (hRo _ (B.step M).J0).row.QF (Qc UQ rfl)) Qx (by intro s hs;simp only[List.take_succ_cons,List.take_zero,List.mem_cons,List.not_mem_nil,or_false]at hs;rcases hs with rfl|rfl<;>first|exact(Qp (hRo _ (Bz1.step Mz1).J0).row.QF (Qc UQ rfl))|exact(Qp (hRo _ (Bz0.step Mz0).J0).row.QF (Qc UQ rfl))) (Ge _ _ _) rfl Q8 fun _ K=>?_
  replace B:=(B.step M).IZ;have hro:=hRo _ B.J0;have hv0:=hval 0;obtain⟨v45,st45,ev45,i1,S1,rfl,hout,mb,hlv,hev⟩:=RZ B.fresh (B.H6 (k:=0) rfl) hro.r5 hro.r3 hro.kt hcl wf Qe (u:=UF S i 0) (u2:=UF S i 0) hv0.1 hv0.2;refine qA rfl K (YZ rfl rfl ev45) fun _ K=>?_;obtain⟨F',B⟩:=B.XP hout;replace B:=B.BN;have M:=B.mem;have hmo:ZR Tn S1 cl i i1:=ZR.leaf wf hn (show _=cv cl x0.toNat by rw[XN hn]) mb.lt mb.pre hlv hev;have Mp:=Mq;have Mq:=M;have Mz3:=M;have Bz3:=B;refine q1 rfl K (Yo rfl) fun _ K=>Jf ?_;show W _ _ _ _ _ _ _;refine Qb 3 K M fun _ K=>?_;refine p1 K (Qh rfl (Qp (hRo _ (B.step M).J0).row.QF (Qc Y2 rfl))) fun _ K=>?_;refine Qb 2 K M fun _ K=>?_;refine p1 K (YM Ek FJ Zf YL rfl rfl) fun _ K=>?_;refine Qb 1 K M fun _ K=>?_;have hnn:Uz L (i,i)=none:=hnone;replace B:=(B.step M).IZ;refine AG (j:=1) (a:=(i,i)) K B rfl V8 rfl rfl rfl rfl hnn fun _ B=>?_;replace B:=Qj.BN (L:=L++[((i,i),iN i1)]) B;have M:=B.mem;refine Qb 2 K M ?_;have h1l:=mb.len
  have hq4:1≤2^(Tn-lvl Tn S i+1)-1:=by have:2^1≤2^(Tn-lvl Tn S i+1):=Nat.pow_le_pow_right Q8 Qe;omega
  have hil:=Nat.lt_of_lt_of_le hi mb.pre.length_le;exact⟨i1,S1,_,rfl,(B.step M).zT,⟨mb.wf,mb.pre,mb.lt,by omega⟩,hmo,(hinv.pre wf mb.pre).put hil hmo,fun j hj h=>BD (fun e=>by have:=congrArg Prod.fst e;simp at this;omega) (h)⟩
 refine Z7 ?_
 obtain⟨t,l,h,rfl⟩: ∃t l h,n=.fork t l h:=by cases n with|leaf x=>exact absurd (show vC (.leaf x)<0 by show(-1:Int)<0;decide) h34|fork t l h=>exact⟨t,l,h,rfl⟩
 obtain⟨a1,a2,a3,a4,a5,a6⟩:=wf.fork _ _ _ _ hn
 have hlt:lvl Tn S i=t:=by unfold lvl;rw[hn]
 have hp1:2^(Tn-lvl Tn S l+1)≤2^(Tn-t):=Nat.pow_le_pow_right Q8 (by have:=OV wf l;omega);have hp2:2^(Tn-lvl Tn S h+1)≤2^(Tn-t):=Nat.pow_le_pow_right Q8 (by have:=OV wf h;omega)
 have hp3:2^(Tn-t+1)=2 *2^(Tn-t):=by rw[Nat.pow_succ,Nat.mul_comm]
 have hp4:1≤2^(Tn-t):=Nat.one_le_two_pow;rw[hlt,hp3]at hlen
 have hvl: ∀c,0≤UF S l c∧UF S l c<((cl.length:Nat):Int):=fun c=>by rw[←Fi wf hn c];exact hval _
 have hvh: ∀c,0≤UF S h c∧UF S h c<((cl.length:Nat):Int):=fun c=>by rw[←Ey wf hn c];exact hval _
 refine Qb 3 K M fun _ K=>?_;refine oQ K M (Kg M.fresh (B.step M).vO (hRo _ (B.step M).J0).row hi hn) rfl rfl fun _ _ K M=>?_;refine Qb 8 K M fun _ K=>?_;refine oQ K M (Kg M.fresh (B.step M).vO (hRo _ (B.step M).J0).row hi hn) rfl rfl fun _ _ K M=>?_;refine Qb 8 K M fun _ K=>?_;replace B:=B.step M;obtain⟨v63,st63,ev63,r1,S1,L1,rfl,hout1,mb1,mo1,hinv1,hnk1⟩:=ih l a3 _ B.fresh _ _ _ (B.at_ (k:=0) rfl) (B.Vj (k:=0) rfl) wf Qe hvl hinv (hRo.step B.U7 (fun c hc=>⟨(B.DC (k:=0) rfl c hc).symm,B.Vj (k:=0) rfl c hc⟩)) Qe;refine p1 K (Qf rfl ev63) fun _ K=>?_;obtain⟨F1,B⟩:=B.qS hout1;have M:=B.mem;have hll:=mb1.len;have hpl:=mb1.pre.length_le;refine Qb 3 K M fun _ K=>?_;replace B:=B.step M;obtain⟨v67,st67,ev67,r2,S2,L2,rfl,hout2,mb2,mo2,hinv2,hnk2⟩:=ih h a4 _ B.fresh _ _ _ (B.at_ (k:=0) rfl) (B.Vj (k:=0) rfl) mb1.wf Qe (fun c=>by rw[Yx wf mb1.pre Qe];exact hvh c) hinv1 (hRo.step B.U7 (fun c hc=>⟨(B.DC (k:=0) rfl c hc).symm,B.Vj (k:=0) rfl c hc⟩)) (by rw[Xg mb1.pre Qe];omega);refine p1 K (Qf rfl ev67) fun _ K=>?_;obtain⟨F2,B⟩:=B.qS hout2;have M:=B.mem;rw[Xg mb1.pre Qe]at mb2;have hll2:=mb2.len;have hpl2:=mb2.pre.length_le;have mo1':=mo1.pre mb1.wf mb2.pre Qe
 have hlS2: ∀j,j<S.length→lvl Tn S2 j=lvl Tn S j:=fun j hj=>by rw[Xg mb2.pre Qe,Xg mb1.pre hj]
 have hk1:=mo1'.lv;have hk2:=mo2.lv;rw[hlS2 l Qe]at hk1;rw[hlS2 h Qe]at hk2;have hnone2:Uz L2 (i,i)=none:=hnk2 i Qe (hnk1 i Qe hnone);refine Qb 5 K M fun _ K=>?_;refine Uv K rfl (fun _ e70 K=>?_) fun _ e70 K=>?_
 ·exfalso;omega
 refine Qb 3 K M fun _ K=>?_;refine Uk K rfl (fun h73=>?_) fun h73=>?_
 ·refine Qb 3 K M fun _ K=>?_;refine p1 K (Qh rfl (Qp (hRo _ (B.step M).J0).row.QF (Qc Jh rfl))) fun _ K=>?_;refine Qb 3 K M fun _ K=>?_;replace B:=(B.step M).IZ;obtain⟨v81,st81,ev81,r3,S3,rfl,hout3,mb3,hlv3,hev3⟩:=jf B.fresh (B.H6 (k:=0) rfl) mb2.wf Qe (t:=t) (l:=r1) (h:=r2) a6 mo1'.lt mo2.lt Qe Qe;refine p1 K (Qf rfl ev81) fun _ K=>?_;obtain⟨F3,B⟩:=B.XP hout3;replace B:=B.BN;have M:=B.mem;have hp13:=(mb1.pre.trans mb2.pre).trans mb3.pre;have hmo:ZR Tn S3 cl i r3:=ZR.fork wf hn hp13 mb3.lt (mo1'.pre mb2.wf mb3.pre Qe) (mo2.pre mb2.wf mb3.pre Qe) hlv3 (fun c=>by rw[hev3,Yx mb2.wf mb3.pre mo1'.lt,Yx mb2.wf mb3.pre mo2.lt]);refine Qb 4 K M fun _ K=>?_;refine p1 K (Qh rfl (Qp (hRo _ (B.step M).J0).row.QF (Qc Y2 rfl))) fun _ K=>?_;refine Qb 2 K M fun _ K=>?_;refine p1 K (YM Ek FJ Zf YL rfl rfl) fun _ K=>?_;refine Qb 1 K M fun _ K=>?_;have hnn:=hnone2;replace B:=(B.step M).IZ;refine AG (j:=1) (a:=(i,i)) K B rfl V8 rfl rfl rfl rfl hnn fun _ B=>?_;replace B:=Qj.BN (L:=L2++[((i,i),iN r3)]) B;have M:=B.mem;refine Qb 2 K M ?_;have h3l:=mb3.len;have hil:=Nat.lt_of_lt_of_le hi hp13.length_le;exact⟨r3,S3,_,rfl,(B.step M).zT,⟨mb3.wf,hp13,mb3.lt,by rw[hlt,hp3];omega⟩,hmo,(hinv2.pre mb2.wf mb3.pre).put hil hmo,fun j hj h=>BD (fun e=>by have:=congrArg Prod.fst e;simp at this;omega) (hnk2 j Qe (hnk1 j Qe h))⟩
 exfalso;omega

theorem uv{st:St}(hf:Qg st){F:Fp}{sp:Nat}{S:JW}(hS:Y0 st F sp Tn S){i:Nat}(hi:i<S.length): ∃v st',QR 306 [.ptr sp 0 0,iN i] st v st'∧v=.bool true∧Qt st st':=by
 refine Jq Tryz.func306 Tryz.ntmps306 fun T K=>?_;have M:=Mem.start hf;refine Qb 3 K M fun _ K=>?_;refine Uv K rfl (fun _ e7 K=>?_) fun _ e7 K=>?_
 ·exfalso;omega
 refine Qb 2 K M fun _ K=>?_;obtain⟨v10,st10,ev10,rfl,q10⟩:=R3 M.fresh (hS.q M.qt);refine pg K rfl rfl (Qf rfl ev10) fun _ K=>?_;replace M:=M.quiet q10;refine Qb 3 K M ?_;exact⟨congrArg AV.bool (decide_eq_true Qe),M.qt⟩

theorem Mf{st:St}(hf:Qg st){F:Fp}{sp:Nat}{S:JW}(hS:Y0 st F sp Tn S)(h6:Tn≤6)(wf:Zo Tn S){i:Nat}(hi:i<S.length){cl:List Int}(hkt:Je st.h.get [] 1 (zC cl) kt)(hoff: ∀c m o n y,kt=.sl c m o n y→ ¬F c)(hcl: ∀z∈cl,0≤z∧z≤1099511627776)(hval: ∀c,0≤UF S i c∧UF S i c<((cl.length:Nat):Int))(hlen:S.length+(2^(Tn+1)-1)≤1000000000): ∃v st',QR 287 [.ptr sp 0 0,iN i,kt] st v st'∧ ∃r S',v=iN r∧ZW st st' F sp Tn S'∧XT Tn S (2^(Tn+1)-1) S' r∧ ∀c,UF S' r c=cv cl (UF S i c).toNat:=by
 have B:=Qj.UR (o:=ZC F sp Tn S) hf hS.at_ hS.hi;have hkc:=hkt.cell
 have hbn:(cl.length:Int)≤9223372036854775807:=by have:=hkt.EA;rw[Q0]at this;exact this
 refine Jq Tryz.func287 Tryz.ntmps287 fun T K=>?_;have M:=B.mem;refine au 1 K M ?_;intro c3 _ _ K _ M;refine J3 K M rfl (Ln hkt.cell) Q8 fun c5 _ _ K M=>?_;replace M:=Mem.cast (M':=[(c5,0,[kt]),(c3,0,[.ptr sp 0 0])]) M (congrArg (fun q=>(c5,0,q)::[(c3,0,[.ptr sp 0 0])]) (Xr (hkt.cell)));refine Qb 3 K M fun _ K=>?_;refine oQ K M (uv M.fresh ((B.step M).H6 (k:=0) rfl) hi) rfl rfl fun _ _ K M=>?_;refine Qb 2 K M fun _ K=>?_;refine p1 K (Yn rfl rfl) fun _ K=>?_;refine Qb 3 K M fun _ K=>?_;replace B:=B.step M;refine Vm Zm K B rfl fun c16 _ _ K B=>?_;have M:=B.mem;refine au 6 K M ?_;intro c18 _ _ K _ M;replace B:=Qj.BN ((B.step M).Mi (.swap ..));have hlvi:=OV wf i;have hpw:2^(Tn-lvl Tn S i+1)≤2^(Tn+1):=Nat.pow_le_pow_right Q8 Qe;obtain⟨v22,st22,ev22,r1,S1,L1,rfl,hout1,mb1,mo1,hinv1,_⟩:=RY (xm:=c18) (cm:=c16) (c5:=c5) (c3:=c3) (kt:=kt) h6 hcl i _ B.fresh _ _ _ (B.at_ (k:=0) rfl) (B.Vj (k:=0) rfl) wf hi hval (fun a b v hm=>by cases hm) (fun h' e=>⟨B.Dl 0 rfl 0 rfl e,B.Dl 1 rfl 0 rfl e,B.Dl 2 rfl 0 rfl e,B.vM hf hkt hoff 0 rfl e⟩) Qe;refine p1 K (Qf rfl ev22) fun _ K=>?_;obtain⟨F1,B⟩:=B.qS hout1;have M:=B.mem;refine Qb 1 K M ?_
 have hev: ∀c,UF S1 r1 c=cv cl (UF S i c).toNat:=fun c=>by rw[mo1.ev,Yx wf mb1.pre hi]
 exact⟨r1,S1,rfl,(B.step M).IZ.Kk,mb1.more Qe,hev⟩
end Go.Proofs.YtildagdnomiahaaGreatDoor
