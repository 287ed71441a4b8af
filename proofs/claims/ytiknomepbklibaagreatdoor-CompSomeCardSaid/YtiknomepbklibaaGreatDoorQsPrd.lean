/-
  A function by a table (chapter 17).
-/
import Derived.Test.YtiknomepbklibaaGreatDoorQsEnt
set_option maxHeartbeats 8000000
set_option maxRecDepth 100000
set_option linter.unnecessarySimpa false
set_option linter.unusedSectionVars false
set_option linter.unusedSimpArgs false
set_option linter.unusedVariables false
namespace Go.Proofs.YtiknomepbklibaaGreatDoor
open Go Go.RowKit
section
variable {Tn c3 c5 xm:Nat} {kt:AV}

structure XS(T:Nat)(S:U7)(cl:List Int)(i r:Nat):Prop where
 lt:r<S.length
 lv:lvl T S i≤lvl T S r
 ev: ∀c,Y4 S r c=cv cl (Y4 S i c).toNat
section
variable {T:Nat} {S S':U7} {cl:List Int} {L:List ((Nat×Nat)×AV)} {i r:Nat}
theorem XS.pre(H:XS T S cl i r)(W:Xn T S)(h:S<+:S')(hi:i<S.length):XS T S' cl i r:=
 ⟨Nat.lt_of_lt_of_le H.lt h.length_le,by rw[Vq h hi,Vq h H.lt];exact H.lv,fun c=>by rw[Zs W h H.lt,Zs W h hi];exact H.ev c⟩
def W0(T:Nat)(S:U7)(cl:List Int)(L:List ((Nat×Nat)×AV)):Prop:= ∀a b v,((a,b),v)∈L→a=b∧a<S.length∧ ∃r:Nat,v=.int .i64 (r:Nat)∧XS T S cl a r
theorem W0.pre(H:W0 T S cl L)(W:Xn T S)(h:S<+:S'):W0 T S' cl L:=fun a b v hm=>by
 obtain⟨h1,h2,r,h3,h4⟩:=H a b v hm;exact⟨h1,Nat.lt_of_lt_of_le h2 h.length_le,r,h3,h4.pre W h h2⟩
theorem W0.put(H:W0 T S cl L)(hi:i<S.length)(h:XS T S cl i r):W0 T S cl (L++[((i,i),.int .i64 (r:Nat))]):=fun a b v hm=>by
 rcases List.mem_append.1 hm with hm|hm
 ·exact H a b v hm
 ·have e:=List.mem_singleton.1 hm
  injection e with e1 e2
  injection e1 with e1 e3
  subst e1 e3;exact⟨rfl,hi,r,e2,h⟩
theorem W0.found(H:W0 T S cl L){v:AV}(h:Yp L (i,i)=some v): ∃r:Nat,v=.int .i64 (r:Nat)∧XS T S cl i r:=(H _ _ _ (L8 h)).2.2
theorem XS.leaf(W:Xn T S){v x:Int}(hi:S[i]? =some (.leaf v))(hx:x=cv cl v.toNat)(hr:r<S'.length)(h:S<+:S')(hl:lvl T S' r=T)(he: ∀c,Y4 S' r c=x):XS T S' cl i r:=by
 have hlt:=(List.getElem?_eq_some_iff.1 hi).1;refine⟨hr,?_,fun c=>?_⟩
 ·rw[hl,Vq h hlt];exact Cc W i
 ·rw[he,Zs W h hlt,Wd hi,hx]
theorem XS.fork(W:Xn T S){t l k rl rk:Nat}(hi:S[i]? =some (.fork t l k))(h:S<+:S')(hr:r<S'.length)(h1:XS T S' cl l rl)(h2:XS T S' cl k rk)(hl:t≤lvl T S' r)(he: ∀c,Y4 S' r c=if c.testBit t then Y4 S' rk c else Y4 S' rl c):XS T S' cl i r:=by
 have hlt:=(List.getElem?_eq_some_iff.1 hi).1;obtain⟨a1,a2,a3,a4,_⟩:=W.fork _ _ _ _ hi;refine⟨hr,?_,fun c=>?_⟩
 ·rw[Vq h hlt];refine Nat.le_trans ?_ hl;unfold lvl;rw[hi];exact Nat.le_refl _
 ·rw[he,Zs W h hlt,We W hi,h1.ev,h2.ev,Zs W h (Nat.lt_trans a3 hlt),Zs W h (Nat.lt_trans a4 hlt)]
  split<;>rfl
end
def fZ(st:St)(X:Fp)(Q:Hp→Prop):Prop:= ∀h':Hp,(∀c,c<st.n→ ¬X c→h' c=st.h.get c)→Q h'
theorem fZ.step{st st':St}{X X':Fp}{Q:Hp→Prop}(h:fZ st X Q)(C:UQ X st st')(m:Ee st st' X X'):fZ st' X' Q:=fun h' e=>h h' fun c hc hx=>by
 rw[e c (Nat.lt_of_lt_of_le hc C.le) fun hx'=>by
  rcases(m c hx').1 with h1|h1
  ·exact hx h1
  ·omega]
 exact C.J9 c hc hx
structure qQ(h:Hp)(F:Fp)(sp cm T:Nat)(S:U7)(L:List ((Nat×Nat)×AV)):Prop where
 Kx:AO h F sp T S
 map:(Wp cm Xt L).H h
 d: ¬F cm
def wO(F:Fp)(cm:Nat):Fp:=fun c=>F c∨c=cm
def vZ(F:Fp)(sp cm T:Nat)(S:U7)(L:List ((Nat×Nat)×AV)):Ob:=⟨wO F cm,fun h=>qQ h F sp cm T S L,fun h h' e H=>⟨H.Kx.frame fun c hc=>e c (.inl hc),(Wp cm Xt L).fr _ _ (fun c hc=>e c (.inr hc)) H.map,H.d⟩⟩
def zD(st st':St)(F:Fp)(sp cm T:Nat)(S':U7)(L':List ((Nat×Nat)×AV)):Prop:= ∃F',qQ st'.h.get F' sp cm T S' L'∧Ee st st' (wO F cm) (wO F' cm)∧UQ (wO F cm) st st'
section
variable {st0 st st':St} {X0 F:Fp} {M:QM} {Os:List Ob} {sp cm T:Nat} {S S':U7} {L L':List ((Nat×Nat)×AV)}
theorem Qk.split{o o1 o2:Ob}(B:Qk st0 X0 st M (o::Os))(h1:o1.H st.h.get)(h2:o2.H st.h.get)(hF1: ∀c,o1.F c→o.F c)(hF2: ∀c,o2.F c→o.F c)(hd: ∀c,o1.F c→ ¬o2.F c):Qk st0 X0 st M (o1::o2::Os):=by
 have hp:=List.pairwise_cons.1 B.dj;refine⟨B.fresh,B.le,B.row,B.nodup,B.lo,fun p hp'=>?_,fun p hp' c hc=>?_,List.pairwise_cons.2 ⟨fun p hp' c k1 k2=>?_,List.pairwise_cons.2 ⟨fun p hp' c k1 k2=>hp.1 p hp' c (hF2 c k1) k2,hp.2⟩⟩,fun p hp' c m l hm hc=>?_,B.J9⟩
 ·rcases List.mem_cons.1 hp' with rfl|hp'
  ·exact h1
  rcases List.mem_cons.1 hp' with rfl|hp'
  ·exact h2
  ·exact B.obj p (List.mem_cons_of_mem _ hp')
 ·rcases List.mem_cons.1 hp' with rfl|hp'
  ·exact B.hi o (List.mem_cons_self ..) c (hF1 c hc)
  rcases List.mem_cons.1 hp' with rfl|hp'
  ·exact B.hi o (List.mem_cons_self ..) c (hF2 c hc)
  ·exact B.hi p (List.mem_cons_of_mem _ hp') c hc
 ·rcases List.mem_cons.1 hp' with rfl|hp'
  ·exact hd c k1 k2
  ·exact hp.1 p hp' c (hF1 c k1) k2
 ·rcases List.mem_cons.1 hp' with rfl|hp'
  ·exact B.djM o (List.mem_cons_self ..) c m l hm (hF1 c hc)
  rcases List.mem_cons.1 hp' with rfl|hp'
  ·exact B.djM o (List.mem_cons_self ..) c m l hm (hF2 c hc)
  ·exact B.djM p (List.mem_cons_of_mem _ hp') c m l hm hc
theorem Qk.Rt{o:Ob}(B:Qk st0 X0 st M Os){c m:Nat}{l:List AV}(k:Nat)(hk:M[k]? =some (c,m,l))(j:Nat)(hj:Os[j]? =some o){h':Hp}(e: ∀c,c<st.n→ ¬o.F c→h' c=st.h.get c):Qx h' c m l:=by
 have hm:=List.mem_of_getElem? hk;have hr:=B.row c m l hm;exact hr.frame (e c (hr.lt B.fresh) (B.djM o (List.mem_of_getElem? hj) c m l hm))
theorem Qk.fg{o:Ob}(B:Qk st0 X0 st M Os)(hf:Qi st0){z:Nat}{ls:List (List AV)}{ks:AV}(r:Jg st0.h.get [] z ls ks)(hX: ∀c m o n y,ks=.sl c m o n y→ ¬X0 c)(j:Nat)(hj:Os[j]? =some o){h':Hp}(e: ∀c,c<st.n→ ¬o.F c→h' c=st.h.get c):Jg h' [] z ls ks:=
 (B.rd hf r hX).frame fun c m p n y e2=>e c (by obtain⟨_,cells,k2,_⟩:=(B.rd hf r hX).alive c m p n y e2;exact k2.lt B.fresh) (B.off hj hf r hX c m p n y e2)
theorem Qk.LW(B:Qk st0 X0 st M (vZ F sp cm T S L::Os)):Qk st0 X0 st M (XG F sp T S::Wp cm Xt L::Os):=by
 have H:qQ st.h.get F sp cm T S L:=B.at_ (k:=0) rfl;exact B.split H.Kx H.map (fun c hc=>.inl hc) (fun c hc=>.inr hc) fun c h1 h2=>H.d ((show c=cm from h2)▸h1)
theorem Qk.DT(B:Qk st0 X0 st M (XG F sp T S::Wp cm Xt L::Os)):Qk st0 X0 st M (vZ F sp cm T S L::Os):=
 B.join (fun h1 h2=>⟨h1,h2,fun h=>(List.pairwise_cons.1 B.dj).1 (Wp cm Xt L) Q4 cm h rfl⟩) fun c hc=>hc
theorem Qk.wW{F':Fp}(B:Qk st0 (wO F cm) st M (vZ F' sp cm T S' L'::Os)):zD st0 st F sp cm T S' L':=
 ⟨F',B.at_ (k:=0) rfl,fun c hc=>⟨(B.L7 (k:=0) rfl c hc).symm,B.Y3 (k:=0) rfl c hc⟩,B.JM⟩
theorem Qk.yP(B:Qk st0 X0 st M (vZ F sp cm T S L::Os))(h:zD st st' F sp cm T S' L'): ∃F',Qk st0 X0 st' M (vZ F' sp cm T S' L'::Os):=by
 obtain⟨F',h1,h2,h3⟩:=h;exact⟨F',B.call (k:=0) rfl h3 (o':=vZ F' sp cm T S' L') h1 h2⟩
theorem Qk.fi(B:Qk st0 X0 st M (vZ F sp cm T S L::Os)):Zm st F sp T S:=⟨qQ.Kx (B.at_ (k:=0) rfl),fun c hc=>B.Y3 (k:=0) rfl c (.inl hc)⟩
end
structure iC(xm sp cm c5 c3:Nat)(kt:AV)(cl:List Int)(h:Hp):Prop where
 row:Qx h xm 0 [.ptr sp 0 0,.fn 178 [] [.ptr c5 0 0,.ptr c3 0 0],.mp cm]
 r5:Qx h c5 0 [kt]
 r3:Qx h c3 0 [.ptr sp 0 0]
 kt:Jg h [] 1 (zC cl) kt
theorem Cn(f c d:Nat):Gi (.fn f [] [.ptr c 0 0,.ptr d 0 0]) (.fn f [] [.ptr c 0 0,.ptr d 0 0])=true:=by
 have h: ∀n:Nat,Nat.beq n n=true:=fun n=>by simp
 show Qj (Nat.beq f f) (Qj (AG [] []) (AG [.ptr c 0 0,.ptr d 0 0] [.ptr c 0 0,.ptr d 0 0]) false) false=true;rw[h,Q0,show AG [] []=true from rfl,Q0];show Qj (Se (.ptr c 0 0) (.ptr c 0 0)) (Qj (Se (.ptr d 0 0) (.ptr d 0 0)) true false) false=true;show Qj (Qj (Nat.beq c c) true false) (Qj (Qj (Nat.beq d d) true false) true false) false=true;rw[h,h];rfl
def aU(n:Bn):Int:=if I3 n then P7 n else-1
theorem Hs{st:St}(hf:Qi st){F:Fp}{sp:Nat}{S:U7}(hS:Zm st F sp Tn S){i:Nat}(hi:i<S.length){n:Bn}(hn:S[i]? =some n): ∃v st',Jf 191 [.ptr sp 0 0,.int .i64 (i:Nat)] st v st'∧v=.int .i64 (aU n)∧Qt st st':=by
 obtain⟨v,st',h1,⟨m,h2,h3⟩,h4⟩:=qC hf hS hi;rw[hn]at h2
 injection h2 with h2
 subst h2;exact⟨v,st',h1,h3,h4⟩
theorem DJ{α:Type}{L:List (α×AV)}{a b:α}{v:AV}(hne:b≠a)(h:Yp L a=none):Yp (L++[(b,v)]) a=none:=by
 induction L with
 |nil=>simp[Yp,hne]
 |cons x L ih=>
  rw[List.cons_append];rw[Yp]at h ⊢
  split at h
  ·cases h
  ·rename_i hx;rw[if_neg hx];exact ih h

theorem Dz{st:St}(hf:Qi st){F:Fp}{sp:Nat}{S:U7}(hS:Zm st F sp Tn S){cm:Nat}(hx:Qx st.h.get xm 0 [.ptr sp 0 0,.fn 178 [] [.ptr c5 0 0,.ptr c3 0 0],.mp cm])(h6:Tn≤6)(wf:Xn Tn S){i:Nat}(hi:i<S.length): ∃v st',Jf 185 [.ptr xm 0 0,iN i] st v st'∧v=iZ (Y4 S i 0)∧Qt st st':=by
 refine J7 Tryz.func185 Tryz.ntmps185 fun T K=>?_;have M:=Mem.start hf;refine Qb 4 K M fun _ K=>?_;refine p1 K (Qg rfl (Qw (M.JF Q4 hx.Jb) (Qd JJ rfl))) fun _ K=>?_;refine Qb 1 K M fun _ K=>?_;refine oQ K M (Sy M.fresh (hS.q M.qt) h6 wf hi (c:=0) (Nat.two_pow_pos _)) rfl rfl fun _ _ K M=>?_;refine Qb 1 K M ?_;exact⟨rfl,M.qt⟩

theorem No{st:St}(hf:Qi st){F:Fp}{sp:Nat}{S:U7}(hS:Zm st F sp Tn S){cm:Nat}(hx:Qx st.h.get xm 0 [.ptr sp 0 0,.fn 178 [] [.ptr c5 0 0,.ptr c3 0 0],.mp cm]){i:Nat}(hi:i<S.length){t l h:Nat}(hn:S[i]? =some (.fork t l h)): ∃v st',Jf 186 [.ptr xm 0 0,iN i,iN t] st v st'∧v=.tup [iN l,iN h]∧Qt st st':=by
 have htk:aU (.fork t l h)=((t:Nat):Int):=rfl;refine J7 Tryz.func186 Tryz.ntmps186 fun T K=>?_;have M:=Mem.start hf;refine Qb 5 K M fun _ K=>?_;refine p1 K (Qg rfl (Qw (M.JF Q4 hx.Jb) (Qd JJ rfl))) fun _ K=>?_;refine Qb 1 K M fun _ K=>?_;refine oQ K M (Hs M.fresh (hS.q M.qt) hi hn) rfl rfl fun _ _ K M=>?_;refine Qb 2 K M fun _ K=>?_;refine Jt K rfl (fun h15=>?_) fun h15=>?_
 ·refine Qb 3 K M fun _ K=>?_;refine p1 K (Qg rfl (Qw (M.JF Q4 hx.Jb) (Qd JJ rfl))) fun _ K=>?_;refine Qb 1 K M fun _ K=>?_;refine oQ K M (ze M.fresh (hS.q M.qt) hi hn) rfl rfl fun _ _ K M=>?_;refine Qb 4 K M ?_;exact⟨rfl,M.qt⟩
 exfalso;omega

theorem jI{st:St}(hf:Qi st){F:Fp}{sp:Nat}{S:U7}(hS:Zm st F sp Tn S){cm:Nat}(hx:Qx st.h.get xm 0 [.ptr sp 0 0,.fn 178 [] [.ptr c5 0 0,.ptr c3 0 0],.mp cm]){i:Nat}(hi:i<S.length){n:Bn}(hn:S[i]? =some n): ∃v st',Jf 184 [.ptr xm 0 0,iN i,iN i] st v st'∧v=iZ (aU n)∧Qt st st':=by
 refine J7 Tryz.func184 Tryz.ntmps184 fun T K=>?_;have M:=Mem.start hf;refine Qb 1 K M fun _ K=>?_;refine QA (l:=[(0,0),(1,0),(2,0),(3,0),(4,0),(5,0),(6,0),(7,0),(8,0),(9,1),(10,0),(11,0),(12,0),(13,0)]) (by kernel_rfl) ?_;have Mq:=M;refine Jo 3 K M fun _ K=>?_;refine q1 rfl K (Qg rfl (Qw (M.JF Q4 hx.Jb) (Qd JJ rfl))) fun _ K=>q1 rfl K (Qy rfl) fun _ K=>?_;obtain⟨v14,st14,ev14,rfl,q14⟩:=Hs M.fresh (hS.q M.qt) hi hn;refine qA rfl K (Qf rfl ev14) fun _ K=>?_;replace M:=M.quiet q14;have Mp:=Mq;have Mq:=M;refine Jo 3 K M fun _ K=>?_;refine Ju rfl K rfl (Qw (M.JF Q4 hx.Jb) (Qd JJ rfl)) (Qw (Mp.JF Q4 hx.Jb) (Qd JJ rfl)) (JI rfl) rfl Q8 fun _ K=>?_;refine q1 rfl K (Qy rfl) fun _ K=>?_;obtain⟨v20,st20,ev20,rfl,q20⟩:=Hs M.fresh (hS.q M.qt) hi hn;refine qA rfl K (Qf rfl ev20) fun _ K=>?_;replace M:=M.quiet q20;have Mp:=Mq;have Mq:=M;refine Jo 2 K M fun _ K=>?_;refine QF ?_;show W _ _ _ _ _ _ _;refine Qb 2 K M fun _ K=>?_;refine Ug K rfl (fun _ e23 K=>?_) fun _ e23 K=>?_
 ·refine Qb 2 K M fun _ K=>?_;refine N2 K rfl rfl (Qy rfl) rfl (fun _ e26 K=>?_) fun _ e26 K=>?_
  ·refine Qb 8 K M ?_;exact⟨rfl,M.qt⟩
  refine Qb 5 K M fun _ K=>?_;refine Jt K rfl (fun h31=>?_) fun h31=>?_
  ·refine Qb 2 K M ?_;exact⟨rfl,M.qt⟩
  refine Qb 2 K M ?_;exact⟨rfl,M.qt⟩
 refine Qb 11 K M ?_;exact⟨rfl,M.qt⟩

theorem Mv{st:St}(hf:Qi st){F:Fp}{sp:Nat}{S:U7}(hS:Zm st F sp Tn S){cl:List Int}(h5:Qx st.h.get c5 0 [kt])(h3:Qx st.h.get c3 0 [.ptr sp 0 0])(hkt:Jg st.h.get [] 1 (zC cl) kt)(hcl: ∀z∈cl,0≤z∧z≤1099511627776)(wf:Xn Tn S)(hlen:S.length<1000000000){u u2:Int}(hx0:0≤u)(hx1:u<((cl.length:Nat):Int)): ∃v st',Jf 178 [iZ u,iZ u2,.ptr c5 0 0,.ptr c3 0 0] st v st'∧ ∃i S',v=iN i∧Vb st st' F sp Tn S'∧Wh Tn S 1 S' i∧lvl Tn S' i=Tn∧ ∀c,Y4 S' i c=cv cl u.toNat:=by
 have B:=Qk.UK (o:=XG F sp Tn S) hf hS.at_ hS.hi;have hkc:=hkt.cell
 have hbn:(cl.length:Int)≤9223372036854775807:=by have:=hkt.W3;rw[Qp]at this;exact this
 refine J7 Tryz.func178 Tryz.ntmps178 fun T K=>?_;have M:=B.mem;refine Qb 2 K M fun _ K=>?_;refine p1 K (Qg rfl (Qw (M.JF Q4 h5.Jb) (Qd Ja rfl))) fun _ K=>p1 K (Q5 Je rfl rfl (hkt.len.trans (congrArg some (Qp _)))) fun _ K=>?_;refine Qb 1 K M fun _ K=>?_;refine Jt K rfl (fun h10=>?_) fun h10=>?_
 ·exfalso;omega
 refine Qb 0 K M fun _ K=>?_;refine QA (l:=[(0,0),(1,0),(2,0),(3,0),(4,0),(5,0),(6,0)]) (by kernel_rfl) ?_;refine q1 rfl K (Qg rfl (Qw (M.JF Q4 h3.Jb) (Qd JJ rfl))) fun _ K=>q1 rfl K (Qg rfl (Qw (M.JF Q4 h5.Jb) (Qd Ja rfl))) fun _ K=>q1 rfl K (Qy rfl) fun _ K=>?_;obtain⟨y14,hi14⟩:=Uy cl ((u).toNat) Qc;obtain⟨x14,m14,f14,q14,_,la14,lo14,lp14⟩:=(Jg.mem M hkt Q4).load (i:=(u).toNat) (cs:=_) (Jm hi14);refine q1 rfl K (Qe (j:=(u).toNat) Qo (congrArg some q14) (congrArg (fun z=>some (iZ z)) (by omega:_=(((u).toNat:Nat):Int))) (by rw[Qp];omega)) fun _ K=>q1 rfl K (Qg rfl (lo14 _ 0 _ Qn rfl)) fun _ K=>?_;replace B:=B.step M;have hcv:=hcl y14 (List.mem_of_getElem? hi14);obtain⟨v16,st16,ev16,i1,S1,rfl,hout,mb,hlv,hev⟩:=PB B.fresh (B.Kx (k:=0) rfl) wf hlen hcv.1 hcv.2;refine qA rfl K (Qf rfl ev16) fun _ K=>?_;obtain⟨F',B⟩:=B.Wf hout;have M:=B.mem;refine q1 rfl K (JV rfl) fun _ K=>QF ?_;show W _ _ _ _ _ _ _;refine Qb 0 K M ?_
 have he:cv cl u.toNat=y14:=by unfold cv;rw[hi14];rfl
 exact⟨i1,S1,rfl,(B.step M).Nv,mb,hlv,fun c=>by rw[he];exact hev c⟩

theorem Mu{sp cm:Nat}{cl:List Int}(h6:Tn≤6)(hcl: ∀z∈cl,0≤z∧z≤1099511627776)(i:Nat): ∀(st:St),Qi st→ ∀(F:Fp) (S:U7) (L:List ((Nat×Nat)×AV)),qQ st.h.get F sp cm Tn S L→(∀c,wO F cm c→c<st.n)→Xn Tn S→i<S.length→(∀c,0≤Y4 S i c∧Y4 S i c<((cl.length:Nat):Int))→W0 Tn S cl L→fZ st (wO F cm) (iC xm sp cm c5 c3 kt cl)→S.length+(2^(Tn-lvl Tn S i+1)-1)≤1000000000→ ∃v st',Jf 179 [.ptr xm 0 0,iN i,iN i] st v st'∧ ∃r S' L',v=iN r∧zD st st' F sp cm Tn S' L'∧Wh Tn S (2^(Tn-lvl Tn S i+1)-1) S' r∧XS Tn S' cl i r∧W0 Tn S' cl L'∧(∀j,i<j→Yp L (j,j)=none→Yp L' (j,j)=none):=by
 induction i using Nat.strongRecOn with|_ i ih=>?_
 intro st hf F S L hP hhi wf hi hval hinv hRo hlen;obtain⟨n,hn⟩: ∃n,S[i]? =some n:=⟨_,List.getElem?_eq_getElem hi⟩;have hq9:2^1≤2^(Tn-lvl Tn S i+1):=Nat.pow_le_pow_right Q8 Qc;have B:=Qk.UK (o:=vZ F sp cm Tn S L) hf hP hhi;refine J7 Tryz.func179 Tryz.ntmps179 fun T K=>?_;have M:=B.mem;refine Qb 4 K M fun _ K=>?_;refine p1 K (Qg rfl (Qw (hRo _ (B.step M).J9).row.Jb (Qd Zz rfl))) fun _ K=>?_;refine Qb 2 K M fun _ K=>?_;refine p1 K (ZK AT IB Xe ZI rfl rfl) fun _ K=>p1 K (WI (a:=(i,i)) WS (qQ.map ((B.step M).at_ (k:=0) rfl)) rfl rfl) fun _ K=>?_;refine Qb 6 K M fun _ K=>?_;refine Uq K rfl (fun h27=>?_) fun h27=>?_
 ·have hb27:=h27;refine Qb 2 K M ?_
  obtain⟨v0,hv0⟩: ∃x,Yp L (i,i)=some x:=by cases hq:Yp L (i,i)with|none=>rw[hq]at h27;cases h27|some x=>exact⟨x,rfl⟩
  obtain⟨r,rfl,hmo⟩:=hinv.found hv0;exact⟨r,S,L,by rw[hv0];rfl,(B.step M).wW,⟨wf,List.prefix_refl _,hmo.lt,by omega⟩,hmo,hinv,fun j _ h=>h⟩
 have hb27:=h27;refine Qb 0 K M fun _ K=>?_
 have hnone:Yp L (i,i)=none:=by cases hq:Yp L (i,i)with|none=>rfl|some x=>rw[hq]at h27;cases h27
 refine Qb 3 K M fun _ K=>?_;refine oQ K M (jI M.fresh (B.step M).fi (hRo _ (B.step M).J9).row hi hn) rfl rfl fun _ _ K M=>?_;refine Qb 3 K M fun _ K=>?_;refine Jt K rfl (fun h34=>?_) fun h34=>?_
 ·obtain⟨x0,rfl⟩: ∃x,n=.leaf x:=by cases n with|leaf x=>exact⟨x,rfl⟩|fork t l h=>exact absurd h34 (by simp only[aU,I3,P7,if_true];omega)
  refine QA (l:=[(4,0),(5,0),(6,0),(7,0),(8,0),(9,0),(0,0),(1,0),(2,0),(3,2),(10,0),(11,0)]) (by kernel_rfl) ?_;have Mq:=M;have Mz0:=M;have Bz0:=B;refine Jo 2 K M fun _ K=>?_;obtain⟨v41,st41,ev41,rfl,q41⟩:=Dz M.fresh (B.step M).fi (hRo _ (B.step M).J9).row h6 wf hi;refine qA rfl K (Qf rfl ev41) fun _ K=>?_;replace M:=M.quiet q41;have Mp:=Mq;have Mq:=M;have Mz1:=M;have Bz1:=B;refine Jo 2 K M fun _ K=>?_;obtain⟨v44,st44,ev44,rfl,q44⟩:=Dz M.fresh (B.step M).fi (hRo _ (B.step M).J9).row h6 wf hi;refine qA rfl K (Qf rfl ev44) fun _ K=>?_;replace M:=M.quiet q44;have Mp:=Mq;have Mq:=M;have Mz2:=M;have Bz2:=B;refine Jo 3 K M fun _ K=>?_
  refine XD rfl K rfl (Qw (hRo _ (B.step M).J9).row.Jb (Qd YJ rfl)) Q4 (by intro s hs;simp only[List.take_succ_cons,List.take_zero,List.mem_cons,List.not_mem_nil,or_false]at hs;rcases hs with rfl|rfl<;>first|exact(Qw (hRo _ (Bz1.step Mz1).J9).row.Jb (Qd YJ rfl))|exact(Qw (hRo _ (Bz0.step Mz0).J9).row.Jb (Qd YJ rfl))) (Cn _ _ _) rfl Q8 fun _ K=>?_
  replace B:=(B.step M).LW;have hro:=hRo _ B.J9;have hv0:=hval 0;obtain⟨v45,st45,ev45,i1,S1,rfl,hout,mb,hlv,hev⟩:=Mv B.fresh (B.Kx (k:=0) rfl) hro.r5 hro.r3 hro.kt hcl wf Qc (u:=Y4 S i 0) (u2:=Y4 S i 0) hv0.1 hv0.2;refine qA rfl K (ZZ rfl rfl ev45) fun _ K=>?_;obtain⟨F',B⟩:=B.Wf hout;replace B:=B.DT;have M:=B.mem;have hmo:XS Tn S1 cl i i1:=XS.leaf wf hn (show _=cv cl x0.toNat by rw[Wd hn]) mb.lt mb.pre hlv hev;have Mp:=Mq;have Mq:=M;have Mz3:=M;have Bz3:=B;refine q1 rfl K (JV rfl) fun _ K=>QF ?_;show W _ _ _ _ _ _ _;refine Qb 3 K M fun _ K=>?_;refine p1 K (Qg rfl (Qw (hRo _ (B.step M).J9).row.Jb (Qd Zz rfl))) fun _ K=>?_;refine Qb 2 K M fun _ K=>?_;refine p1 K (ZK AT IB Xe ZI rfl rfl) fun _ K=>?_;refine Qb 1 K M fun _ K=>?_;have hnn:Yp L (i,i)=none:=hnone;replace B:=(B.step M).LW;refine H8 (j:=1) (a:=(i,i)) K B rfl WS rfl rfl rfl rfl hnn fun _ B=>?_;replace B:=Qk.DT (L:=L++[((i,i),iN i1)]) B;have M:=B.mem;refine Qb 2 K M ?_;have h1l:=mb.len
  have hq4:1≤2^(Tn-lvl Tn S i+1)-1:=by have:2^1≤2^(Tn-lvl Tn S i+1):=Nat.pow_le_pow_right Q8 Qc;omega
  have hil:=Nat.lt_of_lt_of_le hi mb.pre.length_le;exact⟨i1,S1,_,rfl,(B.step M).wW,⟨mb.wf,mb.pre,mb.lt,by omega⟩,hmo,(hinv.pre wf mb.pre).put hil hmo,fun j hj h=>DJ (fun e=>by have:=congrArg Prod.fst e;simp at this;omega) (h)⟩
 refine Jy ?_
 obtain⟨t,l,h,rfl⟩: ∃t l h,n=.fork t l h:=by cases n with|leaf x=>exact absurd (show aU (.leaf x)<0 by show(-1:Int)<0;decide) h34|fork t l h=>exact⟨t,l,h,rfl⟩
 obtain⟨a1,a2,a3,a4,a5,a6⟩:=wf.fork _ _ _ _ hn
 have hlt:lvl Tn S i=t:=by unfold lvl;rw[hn]
 have hp1:2^(Tn-lvl Tn S l+1)≤2^(Tn-t):=Nat.pow_le_pow_right Q8 (by have:=Cc wf l;omega);have hp2:2^(Tn-lvl Tn S h+1)≤2^(Tn-t):=Nat.pow_le_pow_right Q8 (by have:=Cc wf h;omega)
 have hp3:2^(Tn-t+1)=2 *2^(Tn-t):=by rw[Nat.pow_succ,Nat.mul_comm]
 have hp4:1≤2^(Tn-t):=Nat.one_le_two_pow;rw[hlt,hp3]at hlen
 have hvl: ∀c,0≤Y4 S l c∧Y4 S l c<((cl.length:Nat):Int):=fun c=>by rw[←Im wf hn c];exact hval _
 have hvh: ∀c,0≤Y4 S h c∧Y4 S h c<((cl.length:Nat):Int):=fun c=>by rw[←Fh wf hn c];exact hval _
 refine Qb 3 K M fun _ K=>?_;refine oQ K M (No M.fresh (B.step M).fi (hRo _ (B.step M).J9).row hi hn) rfl rfl fun _ _ K M=>?_;refine Qb 8 K M fun _ K=>?_;refine oQ K M (No M.fresh (B.step M).fi (hRo _ (B.step M).J9).row hi hn) rfl rfl fun _ _ K M=>?_;refine Qb 8 K M fun _ K=>?_;replace B:=B.step M;obtain⟨v63,st63,ev63,r1,S1,L1,rfl,hout1,mb1,mo1,hinv1,hnk1⟩:=ih l a3 _ B.fresh _ _ _ (B.at_ (k:=0) rfl) (B.Y3 (k:=0) rfl) wf Qc hvl hinv (hRo.step B.JM (fun c hc=>⟨(B.L7 (k:=0) rfl c hc).symm,B.Y3 (k:=0) rfl c hc⟩)) Qc;refine p1 K (Qf rfl ev63) fun _ K=>?_;obtain⟨F1,B⟩:=B.yP hout1;have M:=B.mem;have hll:=mb1.len;have hpl:=mb1.pre.length_le;refine Qb 3 K M fun _ K=>?_;replace B:=B.step M;obtain⟨v67,st67,ev67,r2,S2,L2,rfl,hout2,mb2,mo2,hinv2,hnk2⟩:=ih h a4 _ B.fresh _ _ _ (B.at_ (k:=0) rfl) (B.Y3 (k:=0) rfl) mb1.wf Qc (fun c=>by rw[Zs wf mb1.pre Qc];exact hvh c) hinv1 (hRo.step B.JM (fun c hc=>⟨(B.L7 (k:=0) rfl c hc).symm,B.Y3 (k:=0) rfl c hc⟩)) (by rw[Vq mb1.pre Qc];omega);refine p1 K (Qf rfl ev67) fun _ K=>?_;obtain⟨F2,B⟩:=B.yP hout2;have M:=B.mem;rw[Vq mb1.pre Qc]at mb2;have hll2:=mb2.len;have hpl2:=mb2.pre.length_le;have mo1':=mo1.pre mb1.wf mb2.pre Qc
 have hlS2: ∀j,j<S.length→lvl Tn S2 j=lvl Tn S j:=fun j hj=>by rw[Vq mb2.pre Qc,Vq mb1.pre hj]
 have hk1:=mo1'.lv;have hk2:=mo2.lv;rw[hlS2 l Qc]at hk1;rw[hlS2 h Qc]at hk2;have hnone2:Yp L2 (i,i)=none:=hnk2 i Qc (hnk1 i Qc hnone);refine Qb 5 K M fun _ K=>?_;refine Ug K rfl (fun _ e70 K=>?_) fun _ e70 K=>?_
 ·exfalso;omega
 refine Qb 3 K M fun _ K=>?_;refine Jt K rfl (fun h73=>?_) fun h73=>?_
 ·refine Qb 3 K M fun _ K=>?_;refine p1 K (Qg rfl (Qw (hRo _ (B.step M).J9).row.Jb (Qd JJ rfl))) fun _ K=>?_;refine Qb 3 K M fun _ K=>?_;replace B:=(B.step M).LW;obtain⟨v81,st81,ev81,r3,S3,rfl,hout3,mb3,hlv3,hev3⟩:=zd B.fresh (B.Kx (k:=0) rfl) mb2.wf Qc (t:=t) (l:=r1) (h:=r2) a6 mo1'.lt mo2.lt Qc Qc;refine p1 K (Qf rfl ev81) fun _ K=>?_;obtain⟨F3,B⟩:=B.Wf hout3;replace B:=B.DT;have M:=B.mem;have hp13:=(mb1.pre.trans mb2.pre).trans mb3.pre;have hmo:XS Tn S3 cl i r3:=XS.fork wf hn hp13 mb3.lt (mo1'.pre mb2.wf mb3.pre Qc) (mo2.pre mb2.wf mb3.pre Qc) hlv3 (fun c=>by rw[hev3,Zs mb2.wf mb3.pre mo1'.lt,Zs mb2.wf mb3.pre mo2.lt]);refine Qb 4 K M fun _ K=>?_;refine p1 K (Qg rfl (Qw (hRo _ (B.step M).J9).row.Jb (Qd Zz rfl))) fun _ K=>?_;refine Qb 2 K M fun _ K=>?_;refine p1 K (ZK AT IB Xe ZI rfl rfl) fun _ K=>?_;refine Qb 1 K M fun _ K=>?_;have hnn:=hnone2;replace B:=(B.step M).LW;refine H8 (j:=1) (a:=(i,i)) K B rfl WS rfl rfl rfl rfl hnn fun _ B=>?_;replace B:=Qk.DT (L:=L2++[((i,i),iN r3)]) B;have M:=B.mem;refine Qb 2 K M ?_;have h3l:=mb3.len;have hil:=Nat.lt_of_lt_of_le hi hp13.length_le;exact⟨r3,S3,_,rfl,(B.step M).wW,⟨mb3.wf,hp13,mb3.lt,by rw[hlt,hp3];omega⟩,hmo,(hinv2.pre mb2.wf mb3.pre).put hil hmo,fun j hj h=>DJ (fun e=>by have:=congrArg Prod.fst e;simp at this;omega) (hnk2 j Qc (hnk1 j Qc h))⟩
 exfalso;omega

theorem xA{st:St}(hf:Qi st){F:Fp}{sp:Nat}{S:U7}(hS:Zm st F sp Tn S){i:Nat}(hi:i<S.length): ∃v st',Jf 177 [.ptr sp 0 0,iN i] st v st'∧v=.bool true∧Qt st st':=by
 refine J7 Tryz.func177 Tryz.ntmps177 fun T K=>?_;have M:=Mem.start hf;refine Qb 3 K M fun _ K=>?_;refine Ug K rfl (fun _ e7 K=>?_) fun _ e7 K=>?_
 ·exfalso;omega
 refine Qb 2 K M fun _ K=>?_;obtain⟨v10,st10,ev10,rfl,q10⟩:=TN M.fresh (hS.q M.qt);refine pg K rfl rfl (Qf rfl ev10) fun _ K=>?_;replace M:=M.quiet q10;refine Qb 3 K M ?_;exact⟨congrArg AV.bool (decide_eq_true Qc),M.qt⟩

theorem jJ{st:St}(hf:Qi st){F:Fp}{sp:Nat}{S:U7}(hS:Zm st F sp Tn S)(h6:Tn≤6)(wf:Xn Tn S){i:Nat}(hi:i<S.length){cl:List Int}(hkt:Jg st.h.get [] 1 (zC cl) kt)(hoff: ∀c m o n y,kt=.sl c m o n y→ ¬F c)(hcl: ∀z∈cl,0≤z∧z≤1099511627776)(hval: ∀c,0≤Y4 S i c∧Y4 S i c<((cl.length:Nat):Int))(hlen:S.length+(2^(Tn+1)-1)≤1000000000): ∃v st',Jf 171 [.ptr sp 0 0,iN i,kt] st v st'∧ ∃r S',v=iN r∧Vb st st' F sp Tn S'∧Wh Tn S (2^(Tn+1)-1) S' r∧ ∀c,Y4 S' r c=cv cl (Y4 S i c).toNat:=by
 have B:=Qk.UK (o:=XG F sp Tn S) hf hS.at_ hS.hi;have hkc:=hkt.cell
 have hbn:(cl.length:Int)≤9223372036854775807:=by have:=hkt.W3;rw[Qp]at this;exact this
 refine J7 Tryz.func171 Tryz.ntmps171 fun T K=>?_;have M:=B.mem;refine au 1 K M ?_;intro c3 _ _ K _ M;refine Jv K M rfl (Ou hkt.cell) Q8 fun c5 _ _ K M=>?_;replace M:=Mem.cast (M':=[(c5,0,[kt]),(c3,0,[.ptr sp 0 0])]) M (congrArg (fun q=>(c5,0,q)::[(c3,0,[.ptr sp 0 0])]) (Vz (hkt.cell)));refine Qb 3 K M fun _ K=>?_;refine oQ K M (xA M.fresh ((B.step M).Kx (k:=0) rfl) hi) rfl rfl fun _ _ K M=>?_;refine Qb 2 K M fun _ K=>?_;refine p1 K (X9 rfl rfl) fun _ K=>?_;refine Qb 3 K M fun _ K=>?_;replace B:=B.step M;refine W4 Xt K B rfl fun c16 _ _ K B=>?_;have M:=B.mem;refine au 6 K M ?_;intro c18 _ _ K _ M;replace B:=Qk.DT ((B.step M).G5 (.swap ..));have hlvi:=Cc wf i;have hpw:2^(Tn-lvl Tn S i+1)≤2^(Tn+1):=Nat.pow_le_pow_right Q8 Qc;obtain⟨v22,st22,ev22,r1,S1,L1,rfl,hout1,mb1,mo1,hinv1,_⟩:=Mu (xm:=c18) (cm:=c16) (c5:=c5) (c3:=c3) (kt:=kt) h6 hcl i _ B.fresh _ _ _ (B.at_ (k:=0) rfl) (B.Y3 (k:=0) rfl) wf hi hval (fun a b v hm=>by cases hm) (fun h' e=>⟨B.Rt 0 rfl 0 rfl e,B.Rt 1 rfl 0 rfl e,B.Rt 2 rfl 0 rfl e,B.fg hf hkt hoff 0 rfl e⟩) Qc;refine p1 K (Qf rfl ev22) fun _ K=>?_;obtain⟨F1,B⟩:=B.yP hout1;have M:=B.mem;refine Qb 1 K M ?_
 have hev: ∀c,Y4 S1 r1 c=cv cl (Y4 S i c).toNat:=fun c=>by rw[mo1.ev,Zs wf mb1.pre hi]
 exact⟨r1,S1,rfl,(B.step M).LW.Nv,mb1.more Qc,hev⟩
end
section

structure Lo(h:Hp)(F:Fp)(xp cm mp:Nat)(kl:AV)(lp:List (Nat×Nat))(l:Nat):Prop where
 acc:UZ h F 2 kl (KZ lp)
 map:(Wp cm Xt (UU 0 lp)).H h
 met:(Yr mp l false).H h
 row:Qx h xp 0 [.mp cm,kl,.ptr mp 0 0]
 d1: ¬F xp
 d2: ¬F cm
 d3: ¬F mp
 d4:xp≠cm
 d5:xp≠mp
 d6:cm≠mp
def PW(F:Fp)(xp cm mp:Nat):Fp:=fun c=>F c∨c=cm∨c=mp∨c=xp
section
variable {st0 st st':St} {X0 F F':Fp} {M A:QM} {Os:List Ob} {xp cm mp l l':Nat} {kl kl':AV} {lp lp':List (Nat×Nat)}
theorem Lo.frame{h h':Hp}(e: ∀c,PW F xp cm mp c→h' c=h c)(H:Lo h F xp cm mp kl lp l):Lo h' F xp cm mp kl lp l:=
 ⟨(Wz F 2 kl (KZ lp)).fr _ _ (fun c hc=>e c (.inl hc)) H.acc,(Wp cm Xt (UU 0 lp)).fr _ _ (fun c hc=>e c (.inr (.inl hc))) H.map,(Yr mp l false).fr _ _ (fun c hc=>e c (.inr (.inr (.inl hc)))) H.met,H.row.frame (e xp (.inr (.inr (.inr rfl)))),H.d1,H.d2,H.d3,H.d4,H.d5,H.d6⟩
def fh(F:Fp)(xp cm mp:Nat)(kl:AV)(lp:List (Nat×Nat))(l:Nat):Ob:=⟨PW F xp cm mp,fun h=>Lo h F xp cm mp kl lp l,fun _ _ e H=>H.frame e⟩
theorem Qk.xj(hf:Qi st)(H:Lo st.h.get F xp cm mp kl lp l)(hi: ∀c,PW F xp cm mp c→c<st.n):Qk st (PW F xp cm mp) st [(xp,0,[.mp cm,kl,.ptr mp 0 0])] [Wz F 2 kl (KZ lp),Wp cm Xt (UU 0 lp),Yr mp l false]:=by
 refine⟨hf,Nat.le_refl _,fun c m x h=>?_,by simp,fun c m x h=>?_,fun o h=>?_,fun o h c hc=>?_,?_,fun o h c m x hm hc=>?_,fun _ _ _=>rfl⟩
 ·simp at h;obtain⟨rfl,rfl,rfl⟩:=h;exact H.row
 ·simp at h;obtain⟨rfl,rfl,rfl⟩:=h;exact .inr (.inr (.inr (.inr rfl)))
 ·simp at h;rcases h with rfl|rfl|rfl
  ·exact H.acc
  ·exact H.map
  ·exact H.met
 ·simp at h;rcases h with rfl|rfl|rfl
  ·exact⟨hi c (.inl hc),.inr (.inl hc)⟩
  ·exact⟨hi c (.inr (.inl hc)),.inr (.inr (.inl hc))⟩
  ·exact⟨hi c (.inr (.inr (.inl hc))),.inr (.inr (.inr (.inl hc)))⟩
 ·refine List.pairwise_cons.2 ⟨fun o h c h1 h2=>?_,List.pairwise_cons.2 ⟨fun o h c h1 h2=>?_,List.pairwise_singleton _ _⟩⟩
  ·simp at h;rcases h with rfl|rfl
   ·exact H.d2 ((show c=cm from h2)▸h1)
   ·exact H.d3 ((show c=mp from h2)▸h1)
  ·rw[List.mem_singleton.1 h]at h2;exact H.d6 ((show c=cm from h1).symm.trans (show c=mp from h2))
 ·simp at hm;obtain⟨rfl,rfl,rfl⟩:=hm
  simp at h;rcases h with rfl|rfl|rfl
  ·exact H.d1 hc
  ·exact H.d4 hc
  ·exact H.d5 hc
theorem Qk.y7(B:Qk st (PW F xp cm mp) st' [(xp,0,[.mp cm,kl',.ptr mp 0 0])] [Wz F' 2 kl' (KZ lp'),Wp cm Xt (UU 0 lp'),Yr mp l' false]): ∃F',Lo st'.h.get F' xp cm mp kl' lp' l'∧Ee st st' (PW F xp cm mp) (PW F' xp cm mp)∧UQ (PW F xp cm mp) st st':=by
 have hp:=List.pairwise_cons.1 B.dj;have hp2:=(List.pairwise_cons.1 hp.2).1 (Yr mp l' false) Q4;have hr:=fun o ho=>B.djM o ho xp 0 _ (List.mem_singleton.2 rfl);refine⟨F',⟨B.at_ (k:=0) rfl,B.at_ (k:=1) rfl,B.at_ (k:=2) rfl,B.row _ _ _ (List.mem_singleton.2 rfl),hr (Wz F' 2 kl' (KZ lp')) Q4,fun h=>hp.1 (Wp cm Xt (UU 0 lp')) Q4 cm h rfl,fun h=>hp.1 (Yr mp l' false) Q4 mp h rfl,fun e=>hr (Wp cm Xt (UU 0 lp')) Q4 e,fun e=>hr (Yr mp l' false) Q4 e,fun e=>hp2 cm rfl e⟩,fun c hc=>?_,B.JM⟩;rcases hc with hc|hc|hc|hc
 ·exact⟨(B.L7 (k:=0) rfl c hc).symm,B.Y3 (k:=0) rfl c hc⟩
 ·exact⟨(B.L7 (k:=1) rfl c hc).symm,B.Y3 (k:=1) rfl c hc⟩
 ·exact⟨(B.L7 (k:=2) rfl c hc).symm,B.Y3 (k:=2) rfl c hc⟩
 ·subst hc;exact⟨.inl (.inr (.inr (.inr rfl))),(B.row c 0 _ (List.mem_singleton.2 rfl)).lt B.fresh⟩
theorem Qk.ir(B:Qk st0 X0 st ((xp,0,[.mp cm,.nils,.ptr mp 0 0])::M) (Wp cm Xt []::Yr mp l false::Os)):Qk st0 X0 st M (fh ZQ xp cm mp .nils [] l::Os):=by
 have d1:=B.djM (Wp cm Xt []) Q4 xp 0 _ (List.mem_cons_self ..);have d2:=B.djM (Yr mp l false) Q4 xp 0 _ (List.mem_cons_self ..);have d3:=(List.pairwise_cons.1 B.dj).1 (Yr mp l false) Q4;have B1:=Qk.freeze (R:=[(xp,0,[.mp cm,.nils,.ptr mp 0 0])]) (o:=Xs [(xp,0,[.mp cm,.nils,.ptr mp 0 0])]) (M:=M) B (fun c m x h=>B.row c m x (by rw[List.mem_singleton.1 h];exact List.mem_cons_self ..)) (fun c hc=>hc)
 have B2:=B1.join (o:=⟨fun c=>c=xp∨c=cm,fun h=>Qx h xp 0 [.mp cm,.nils,.ptr mp 0 0]∧(Wp cm Xt []).H h,fun h h' e H=>⟨H.1.frame (e xp (.inl rfl)),(Wp cm Xt []).fr _ _ (fun c hc=>e c (.inr hc)) H.2⟩⟩) (fun h1 h2=>⟨h1 xp 0 _ (List.mem_singleton.2 rfl),h2⟩) (fun c hc=>by
  rcases hc with hc|hc
  ·exact .inl ⟨0,_,by rw[hc];exact List.mem_singleton.2 rfl⟩
  ·exact .inr hc)
 refine B2.join (fun h1 h2=>⟨⟨[],.none,fun c m l h=>by cases h⟩,h1.2,h2,h1.1,id,id,id,fun e=>d1 e,fun e=>d2 e,fun e=>d3 cm rfl e⟩) (fun c hc=>?_);rcases hc with hc|hc|hc|hc
 ·exact hc.elim
 ·exact .inl (.inr hc)
 ·exact .inr hc
 ·exact .inl (.inl hc)
end
theorem X3.row{h:Hp}{F:Fp}{kn:AV}{vs:List AV}{LL:List (List Int)}(H:X3 h F kn vs LL){i:Nat}{s:List Int}{w:AV}(hi:LL[i]? =some s)(hv:vs[i]? =some w):Jg h [] 1 (zC s) w:=by
 obtain⟨w',k1,k2,_⟩:=H.vs.at_ _ _ hi;rw[hv]at k1
 injection k1 with k1
 rw[k1];exact k2
def EC(b:Bool):Nat:=if b then 1 else 0
theorem TI(b:Bool):EC b≤1:=by cases b<;>decide
theorem xe(t:Nat)(x y:Bool):CR t x y=decide (((t/2^(2 *EC x+EC y) % 2:Nat):Int)=1):=by
 rw[←HC];cases x<;>cases y<;>rfl
theorem xH{P:Program}{G:Env}{K:List (Nat×AV)}{st:St}{t yt:TypeId}{x y:Operand}{n:Nat}(hx:QT G K x=some (.int .i64 2))(hy:QT G K y=some (.int .i64 (n:Nat)))(h1:n≤1):U2 P G K (.binOp .mul t x y yt) st (.int .i64 (2 *n:Nat)) st:=by
 rw[show((2 *n:Nat):Int)=2 *((n:Nat):Int) by omega];exact Tb hx hy (IntWalk.i64_in _ Qc)
def fS(st st':St)(a b:Au)(t:Nat)(v:AV):Prop:=
 (∃dp F lp m,v=.tup [.ptr dp 0 0,.int .i64 0]∧I6 a b t lp m∧UX st' F dp m∧ZP st st' F)∨
 (v=.tup [.nilp,.int .i64 8]∧ ∃(lp:List (Nat×Nat)),lp.length=401∧lp.Nodup∧ ∀(Q:Nat×Nat→Prop),Q (0,0)→(∀p c,Q p→c<2^a.tr→Q (OA a b p c))→ ∀p∈lp,Q p)

theorem xD{st:St}(hf:Qi st){F:Fp}{dp:Nat}{a:Au}(hD:UX st F dp a): ∃v st',Jf 107 [.ptr dp 0 0] st v st'∧ ∃dp2 F2,v=.tup [.ptr dp2 0 0,iZ 0]∧UX st' F2 dp2 a.neg∧ZP st st' F2∧Qt st st':=by
 have wf:=hD.wf;have hps:=wf.pos;have hmo:=wf.most;have hln:=wf.len;have hen:a.n=a.acc.length:=rfl;have htr:=wf.tr;have B:=Qk.start hf;refine J7 Tryz.func107 Tryz.ntmps107 fun T K=>?_;have M:=B.mem;refine Qb 3 K M fun _ K=>?_;refine p1 K (Yg JX rfl rfl) fun _ K=>?_;refine Qb 2 K M fun _ K=>?_;replace B:=B.step M;obtain⟨v10,st10,ev10,nau10,q10⟩:=Oi B.fresh (hD.q B.qt);refine p1 K (Qf rfl ev10) fun _ K=>?_;obtain⟨_,kn,vs,_,Fn,rfl,hAa,B⟩:=B.KE q10 nau10;obtain⟨ca,ma,rfl,rfl⟩:=Acc.ua (f:=AV.bool) (L:=a.acc) hAa Qc;have hnc:Qr kn=true:=(B.at_ (k:=0) rfl).rd.cell;replace B:=B.cast (M':=[(ca,ma,(a.acc.map AV.bool))]) Q4;have M:=B.mem;refine au 1 K M ?_;intro c4 _ _ K _ M;refine QU (k:=0) K M rfl rfl rfl Q9 rfl (Qa rfl (Qa rfl (Qa hnc Qz))) rfl fun _ M=>?_;refine Qb 4 K M fun _ K=>?_;refine QX (fun mm1 T st9=> ∃(i:Nat) (cur:List Bool),mm1=a.acc.length-i∧QS [(2,.nilp),(3,iZ 0),(4,.ptr c4 0 0),(12,.sl ca ma 0 a.acc.length 1),(13,iZ (a.acc.length:Nat)),(14,iN i)] T∧Qk st ZQ st9 [(c4,0,[iZ (a.tr:Nat),.sl ca ma 0 a.acc.length 1,kn]),(ca,ma,(cur.map AV.bool))] [Ce Fn kn vs a.nx]∧cur.length=a.acc.length∧(∀(j:Nat) (y:Bool),a.acc[j]? =some y→cur[j]? =some (if j<i then !y else y))∧i≤a.acc.length) (fun mm1 T st9 hI=>?_) _ _ _ ⟨0,_,rfl,(K.sub rfl),(B.step M).less (.refl _),rfl,(fun j y h=>h),(Nat.zero_le _)⟩;obtain⟨i,cur,rfl,K,B,hcl,hcu,hil⟩:=hI;have M:=B.mem;refine Qb 1 K M fun _ K=>?_;refine Jt K rfl (fun h15=>?_) fun h15=>?_
 ·refine Qb 1 K M fun _ K=>?_;obtain⟨y17,hi17⟩:=Uy cur i Qc;refine p1 K (Qe (j:=i) J4 rfl rfl Qc) fun _ K=>p1 K (Qg rfl (M.load (k:=1) rfl (Qd J6 (Wo AV.bool hi17)))) fun _ K=>?_;refine Qb 7 K M fun _ K=>?_;obtain⟨y24,hi24⟩:=Uy cur i Qc;refine p1 K (Qe (j:=i) J4 rfl rfl Qc) fun _ K=>?_;refine Jk (k:=1) K M rfl rfl rfl AU rfl (Eo AV.bool (!(y17)) Qc) fun _ M=>?_;refine Qb 2 K M fun _ K=>?_;obtain⟨y0,hy0⟩:=Uy a.acc i Qc;have hy1:=hcu i y0 hy0;rw[if_neg Qc,hi17]at hy1
  injection hy1 with hy1
  exact⟨_,Qc,i+1,(cur.set i (!(y17))),rfl,(K.sub rfl),(B.step M).less (.refl _),(by rw[List.length_set];exact hcl),(fun j y h=>by
  rw[List.getElem?_set]
  by_cases e:i=j
  ·subst e;rw[if_pos rfl,if_pos Qc,if_pos Qc,hy1];rw[hy0]at h;injection h with h;rw[h]
  ·rw[if_neg e,hcu j y h];by_cases h2:j<i
   ·rw[if_pos h2,if_pos Qc]
   ·rw[if_neg h2,if_neg Qc]),Qc⟩
 refine QK ?_;show W _ _ _ _ _ _ _;refine Qb 1 K M fun _ K=>?_;replace B:=B.step M
 have hcur:cur=a.acc.map (!·):=by
  apply List.ext_getElem?;intro j
  by_cases hj:j<a.acc.length
  ·obtain⟨y,hy⟩: ∃x,a.acc[j]? =some x:=⟨_,List.getElem?_eq_getElem hj⟩;rw[hcu j y hy,List.getElem?_map,hy,if_pos Qc];rfl
  ·rw[List.getElem?_eq_none Qc,List.getElem?_eq_none (by rw[List.length_map];omega)]
 subst hcur;obtain⟨v27,st27,ev27,dp2,F2,rfl,hD2,nf2,q27⟩:=Ed (a:=a.neg) B.fresh (uq wf) (Qx.iI (f:=AV.bool) (L:=a.acc.map (!·)) (B.row ca ma _ Q4) Qc Qc) (B.at_ (k:=0) rfl).r;refine p1 K (Qf rfl ev27) fun _ K=>?_;replace B:=B.new (o:=Iv F2 dp2 a.neg) q27 hD2.at_ nf2;have M:=B.mem;refine Qb 4 K M ?_;exact⟨dp2,F2,rfl,B.qS (k:=0) rfl,(B.step M).uA (k:=0) rfl,(B.step M).qt⟩

theorem yW{st:St}(hf:Qi st)(b:Bool): ∃v st',Jf 137 [.bool b] st v st'∧v=iZ (EC b:Nat)∧Qt st st':=by
 refine J7 Tryz.func137 Tryz.ntmps137 fun T K=>?_;have M:=Mem.start hf;refine Qb 2 K M fun _ K=>?_;refine Uq K rfl (fun h3=>?_) fun h3=>?_
 ·have hb3:=h3;refine Qb 1 K M ?_;refine⟨?_,M.qt⟩
  first|(rw[show b=true by simp_all];rfl)|(rw[show b=false by simp_all];rfl)
 have hb3:=h3;refine Qb 1 K M ?_;refine⟨?_,M.qt⟩
 first|(rw[show b=true by simp_all];rfl)|(rw[show b=false by simp_all];rfl)

theorem Ta{st:St}(hf:Qi st){F:Fp}{xp cm mp:Nat}{kl:AV}{lp:List (Nat×Nat)}{l:Nat}(H:Lo st.h.get F xp cm mp kl lp l)(hi: ∀c,PW F xp cm mp c→c<st.n)(hL:lp.length≤400)(hl1:1≤l)(hl:l≤9223372036854775807)(p:Nat×Nat): ∃v st',Jf 136 [.ptr xp 0 0,.agg [iZ (p.1:Nat),iZ (p.2:Nat)]] st v st'∧ ∃k was lp' kl',v=.tup [iN k,.bool (decide ((lp'.length:Int)≤400))]∧KS lp p lp' k was∧ ∃F',Lo st'.h.get F' xp cm mp kl' lp' (l-(lp'.length-lp.length))∧Ee st st' (PW F xp cm mp) (PW F' xp cm mp)∧UQ (PW F xp cm mp) st st':=by
 have B:=Qk.xj hf H hi;have hkc:=H.acc.cell;refine J7 Tryz.func136 Tryz.ntmps136 fun T K=>?_;have M:=B.mem;refine au 3 K M ?_;intro c3 _ _ K _ M;refine QA (l:=[(0,0),(1,0),(2,0),(3,0),(4,0),(5,0),(6,0),(7,0),(8,0),(9,0),(10,0)]) (by kernel_rfl) ?_;refine Jo 5 K M fun _ K=>?_;refine qA rfl K (WI (a:=p) WS ((B.step M).at_ (k:=1) rfl) rfl rfl) fun _ K=>?_;refine Jo 5 K M fun _ K=>?_;refine QF ?_;show W _ _ _ _ _ _ _;refine Qb 1 K M fun _ K=>?_;refine Uq K rfl (fun h18=>?_) fun h18=>?_
 ·have hb18:=h18;refine Qb 3 K M ?_
  obtain⟨v0,hv0⟩: ∃x,Yp (UU 0 lp) p=some x:=by cases hq:Yp (UU 0 lp) p with|none=>rw[hq]at h18;cases h18|some x=>exact⟨x,rfl⟩
  obtain⟨i,hi,rfl⟩:=NH hv0;refine⟨i,true,lp,kl,?_,.inl ⟨rfl,rfl,hi⟩,?_⟩
  ·rw[hv0,decide_eq_true (show(lp.length:Int)≤400 by omega)];rfl
  ·rw[show l-(lp.length-lp.length)=l by omega];exact((B.step M).less (.cons _ (.cons_cons _ (.refl _)))).y7
 have hb18:=h18;refine Qb 0 K M fun _ K=>?_
 have hnone:Yp (UU 0 lp) p=none:=by cases hq:Yp (UU 0 lp) p with|none=>rfl|some x=>rw[hq]at h18;cases h18
 refine Qb 4 K M fun _ K=>?_;refine p1 K (Q5 XF rfl rfl ((UZ.len ((B.step M).at_ (k:=0) rfl)).trans (congrArg some (YN _)))) fun _ K=>?_;refine Qb 1 K M fun _ K=>?_;refine QA (l:=[(0,0),(1,0),(2,0),(3,0),(4,0),(5,0),(6,0)]) (by kernel_rfl) ?_;refine Jo 6 K M fun _ K=>?_;replace B:=B.step M;refine zQ (j:=1) (a:=p) rfl K B rfl WS rfl rfl rfl rfl hnone fun _ B=>?_;rw[show UU 0 lp++[(p,iZ (lp.length:Nat))]=UU 0 (lp++[p]) by rw[Fu,Nat.zero_add]]at B;have M:=B.mem;refine QF ?_;show W _ _ _ _ _ _ _;refine Jy ?_;replace B:=B.step M;obtain⟨Al,hAl,B⟩:=B.BO
 replace B:=(B.perm List.perm_append_comm).cast (M':=((c3,0,[iZ (p.1:Nat),iZ (p.2:Nat)])::(xp,0,[.mp cm,kl,.ptr mp 0 0])::(Al++[]))) (by simp<;>rfl)
 have M:=B.mem;refine QA (l:=[(1,0),(2,0),(3,0),(4,0),(5,0),(6,0),(7,0),(0,0),(8,0),(9,0),(10,0)]) (by kernel_rfl) ?_;refine Jo 5 K M fun _ K=>?_;refine Xp rfl K M Af ZI rfl rfl rfl rfl rfl fun c37 _ _ K M=>?_;refine ZT (k2:=0) (L:=[(c37,0,[iZ (p.1:Nat),iZ (p.2:Nat)]),(c3,0,[iZ (p.1:Nat),iZ (p.2:Nat)]),(xp,0,[.mp cm,kl,.ptr mp 0 0])]) (B:=[]) rfl K M hAl Af rfl rfl rfl rfl (by rw[YN];omega) rfl fun ks38 A38 _ _ K hA38 M=>?_;refine Jo 3 K M fun _ K=>?_;refine Ze (k:=2) rfl K M rfl rfl rfl Kw (hA38.cell) rfl fun _ M=>?_;refine QF ?_;show W _ _ _ _ _ _ _;refine Jy ?_;replace B:=B.step M
 obtain⟨F2,B⟩:=Qk.VK (M:=[(c37,0,[iZ (p.1:Nat),iZ (p.2:Nat)]),(c3,0,[iZ (p.1:Nat),iZ (p.2:Nat)]),(xp,0,[.mp cm,ks38,.ptr mp 0 0])]) (A:=A38) (ks:=ks38) (z:=2) (ls:=KZ (lp++[p])) ((B.cast (M':=[(c37,0,[iZ (p.1:Nat),iZ (p.2:Nat)]),(c3,0,[iZ (p.1:Nat),iZ (p.2:Nat)]),(xp,0,[.mp cm,ks38,.ptr mp 0 0])]++A38) (by simp<;>rfl)).perm List.perm_append_comm) (by rw[Dy];exact hA38)
 have M:=B.mem;refine QA (l:=[(1,0),(2,0),(3,0),(4,0),(5,0),(0,0),(6,0),(7,0),(8,0),(9,0),(10,0),(11,0),(12,0),(13,0),(14,0),(15,0)]) (by kernel_rfl) ?_;refine Jo 4 K M fun _ K=>?_;replace B:=B.step M;obtain⟨v46,st46,ev46,rfl,hm3,Q3⟩:=NB B.fresh (show Qx _ mp 0 [iN l,.bool false]from B.at_ (k:=2) rfl) hl 1 hl1;refine qA rfl K (Qf rfl ev46) fun _ K=>?_;replace B:=B.call (k:=2) (o':=Yr mp (l-1) false) rfl Q3 hm3 (fun c hc=>⟨.inl hc,Nat.lt_of_lt_of_le (B.Y3 (k:=2) rfl c hc) Q3.le⟩);have M:=B.mem;refine Jo 6 K M fun _ K=>?_;refine dg rfl K rfl rfl (Q5 XF rfl rfl ((UZ.len ((B.step M).at_ (k:=0) rfl)).trans (congrArg some (YN _)))) rfl rfl fun _ K=>?_;refine Jo 4 K M fun _ K=>?_;refine QF ?_;show W _ _ _ _ _ _ _;refine Qb 0 K M ?_
 have e8:(lp++[p]).length=lp.length+1:=by simp
 refine⟨lp.length,false,lp++[p],ks38,rfl,.inr ⟨rfl,NI hnone,rfl,rfl⟩,?_⟩;rw[show l-((lp++[p]).length-lp.length)=l-1 by omega];exact((B.step M).less (.cons _ (.cons _ (.cons_cons _ (.refl _))))).y7

theorem jH{st:St}(hf:Qi st){xp cm mp:Nat}{l:Nat}(H:Lo st.h.get ZQ xp cm mp .nils [] l)(hi: ∀c,PW ZQ xp cm mp c→c<st.n)(hl1:1≤l)(hl:l≤9223372036854775807): ∃v st',Jf 136 [.ptr xp 0 0,.agg [.int .i64 0,.int .i64 0]] st v st'∧
  v=.tup [.int .i64 0,.bool true]∧ ∃F' kl',Lo st'.h.get F' xp cm mp kl' [(0,0)] (l-1)∧Ee st st' (PW ZQ xp cm mp) (PW F' xp cm mp)∧UQ (PW ZQ xp cm mp) st st':=by
 obtain⟨v,st',h1,k,was,lp',kl',h2,h3,F',h4⟩:=Ta hf H hi Q8 hl1 hl (0,0);rcases h3 with⟨_,_,h⟩|⟨rfl,_,rfl,rfl⟩
 ·simp at h
 ·exact⟨v,st',h1,h2,F',kl',h4⟩

theorem Mt{st:St}(hf:Qi st){FA FB:Fp}{da db:Nat}{a b:Au}(hDA:UX st FA da a)(hDB:UX st FB db b)(ht:b.tr=a.tr){t:Nat}(ht15:t≤15){mp l:Nat}(hm:Qx st.h.get mp 0 [iN l,.bool false])(hmA: ¬FA mp)(hmB: ¬FB mp)(hl1:401≤l)(hl:l≤9223372036854775807): ∃v st',Jf 108 [.ptr da 0 0,.ptr db 0 0,iN t,.ptr mp 0 0] st v st'∧fS st st' a b t v∧UQ (fun c=>c=mp) st st':=by
 have wfa:=hDA.wf;have wfb:=hDB.wf;have htr:=wfa.tr;have hp6:=JG htr;have hp0:0<2^a.tr:=Nat.two_pow_pos _;have hlna:=wfa.len;have hlnb:=wfb.len;have hena:a.n=a.acc.length:=rfl;have henb:b.n=b.acc.length:=rfl
 have htp:2^b.tr=2^a.tr:=by rw[ht]
 have hdA: ∀c,FA c→ ¬(Yr mp l false).F c:=fun c hc e=>hmA ((show c=mp from e)▸hc);have hdB: ∀c,FB c→ ¬(Yr mp l false).F c:=fun c hc e=>hmB ((show c=mp from e)▸hc);have B:=Qk.UK (o:=Yr mp l false) hf hm (fun c hc=>(show c=mp from hc)▸hm.lt hf);refine J7 Tryz.func108 Tryz.ntmps108 fun T K=>?_;have M:=B.mem;refine Qb 3 K M fun _ K=>?_;refine p1 K (Yg JX rfl rfl) fun _ K=>?_;refine Qb 2 K M fun _ K=>?_;refine pg K rfl rfl (Yg JX rfl rfl) fun _ K=>?_;refine Qb 3 K M fun _ K=>?_;obtain⟨v31,st31,ev31,rfl,q31⟩:=X1 M.fresh (hDA.OB (B.step M).JM hdA);refine pg K rfl rfl (Qf rfl ev31) fun _ K=>?_;replace M:=M.quiet q31;refine Qb 1 K M fun _ K=>?_;obtain⟨v33,st33,ev33,rfl,q33⟩:=X1 M.fresh (hDB.OB (B.step M).JM hdB);refine pg K rfl rfl (Qf rfl ev33) fun _ K=>?_;replace M:=M.quiet q33;refine Qb 2 K M fun _ K=>?_;refine qR K rfl (fun _ e36 K=>?_) fun _ e36 K=>?_
 ·refine Qb 3 K M fun _ K=>?_;refine Ug K rfl (fun _ e40 K=>?_) fun _ e40 K=>?_
  ·refine Qb 3 K M fun _ K=>?_;refine Jt K rfl (fun h43=>?_) fun h43=>?_
   ·exfalso;omega
   refine Qb 0 K M fun _ K=>?_;replace B:=B.step M;refine W4 Xt K B rfl fun c44 _ _ K B=>?_;have M:=B.mem;refine au 4 K M ?_;intro c47 _ _ K _ M;replace B:=(B.step M).ir;have M:=B.mem;refine Qb 1 K M fun _ K=>?_;refine oQ K M (X1 M.fresh (hDA.OB (B.step M).JM hdA)) rfl rfl fun _ _ K M=>?_;refine au 4 K M ?_;intro c11 _ _ K _ M;refine p1 K (ZK AT IB Xe ZI rfl rfl) fun _ K=>?_;replace B:=B.step M;obtain⟨v54,st54,ev54,rfl,F1,kl1,hP1,mf1,Q1⟩:=jH B.fresh (B.at_ (k:=0) rfl) (B.Y3 (k:=0) rfl) Qc hl;refine p1 K (Qf rfl ev54) fun _ K=>?_;replace B:=B.call (k:=0) (o':=fh F1 c47 c44 mp kl1 [(0,0)] (l-1)) rfl Q1 hP1 mf1;have M:=B.mem;refine Qb 9 K M fun _ K=>?_;replace B:=B.step M;obtain⟨v60,st60,ev60,nau,q60⟩:=Oi B.fresh (hDA.OB B.JM hdA);refine p1 K (Qf rfl ev60) fun _ K=>?_;obtain⟨kaA,knA,vsA,Ato,FA,rfl,hAto,B⟩:=B.KE q60 nau;replace B:=B.less (List.sublist_append_left _ _);have hknA:Qr knA=true:=(X3.rd (B.at_ (k:=0) rfl)).cell;have hkaA:=hAto.cell;have M:=B.mem;refine p1 K (Ap rfl ((Zw _).trans (Qd Q7 rfl))) fun _ K=>?_;refine Qb 1 K M fun _ K=>?_;replace B:=B.step M;obtain⟨v63,st63,ev63,nau,q63⟩:=Oi B.fresh (hDB.OB B.JM hdB);refine p1 K (Qf rfl ev63) fun _ K=>?_;obtain⟨kaB,knB,vsB,Ato,FB,rfl,hAto,B⟩:=B.KE q63 nau;replace B:=B.less (List.sublist_append_left _ _);have hknB:Qr knB=true:=(X3.rd (B.at_ (k:=0) rfl)).cell;have hkaB:=hAto.cell;have M:=B.mem;refine p1 K (Ap rfl ((Zw _).trans (Qd Q7 rfl))) fun _ K=>?_;refine Qb 2 K M fun _ K=>?_;replace B:=(B.step M).V9;have M:=B.mem;refine Qb 1 K M fun _ K=>?_;refine QX (fun mm1 T st9=> ∃(i:Nat) (lp:List (Nat×Nat)) (kl:AV) (Fl:Fp) (rows:List (List Int)) (vs:List AV) (Fr:Fp) (ka:AV) (Aa:QM) (kr:AV) (Ar:QM),mm1=400-i∧QS [(0,.ptr da 0 0),(1,.ptr db 0 0),(2,iN t),(10,.ptr c47 0 0),(11,.ptr c11 0 0),(14,knA),(15,knB),(16,iN i)] T∧Qk st (Yr mp l false).F st9 ((c11,0,[iZ (a.tr:Nat),ka,kr])::(Aa++(Ar++[]))) [EX Fr vs rows,Ce FB knB vsB b.nx,Ce FA knA vsA a.nx,fh Fl c47 c44 mp kl lp (l-lp.length)]∧V1 (OA a b) (0,0) (2^a.tr) lp rows []∧rows.length=i∧i≤lp.length∧lp.length≤400∧Acc 0 1 Aa ka (bC ((lp.take i).map (I7 a b t)))∧YS Ar kr vs) (fun mm1 T st9 hI=>?_) _ _ _ ⟨0,[(0,0)],kl1,F1,[],[],_,.nils,[],.nils,[],rfl,(K.sub rfl),(B.step M).less (.refl _),(V1.start _ _ _),rfl,Q8,Q8,.none,.none⟩;obtain⟨i,lp,kl,Fl,rows,vs,Fr,ka,Aa,kr,Ar,rfl,K,B,hP,hrl,hil,hlp,hAa,hAr⟩:=hI;have M:=B.mem;have hall:=hP.jN wfa wfb ht;refine Qb 4 K M fun _ K=>?_;refine p1 K (Qg rfl (Qw (Lo.row ((B.step M).at_ (k:=3) rfl)).Jb (Qd EZ rfl))) fun _ K=>p1 K (Q5 XF rfl rfl ((UZ.len ((B.step M).at_ (k:=3) rfl).acc).trans (congrArg some (YN _)))) fun _ K=>?_;refine Qb 1 K M fun _ K=>?_;refine Jt K rfl (fun h71=>?_) fun h71=>?_
   ·refine Qb 3 K M fun _ K=>?_;refine p1 K (Qg rfl (Qw (Lo.row ((B.step M).at_ (k:=3) rfl)).Jb (Qd EZ rfl))) fun _ K=>?_;refine Qb 1 K M fun _ K=>?_;obtain⟨pr79,hi79⟩:=Uy lp i Qc;have hpb79:=hall pr79 (List.mem_of_getElem? hi79);refine Te (UZ.rd ((B.step M).at_ (k:=3) rfl).acc) (El hi79) K Pp Gv rfl rfl fun _ _ _ _ K=>?_;refine au 4 K M ?_;intro c17 _ _ K _ M;refine p1 K (Fb (j:=0) LF Xe rfl rfl Q8) fun _ K=>?_;refine Qb 1 K M fun _ K=>?_;obtain⟨s84,hi84⟩:=Uy a.nx (pr79.1) Qc;obtain⟨w84,hv84,hr84,hz84,hf84⟩:=((B.step M).at_ (k:=2) rfl).vs.at_ _ _ hi84;have hw84:=wfa.row s84 (List.mem_of_getElem? hi84);have hl84:s84.length=2^a.tr:=hw84.1;refine oI ((B.step M).at_ (k:=2) rfl).rd (by rw[List.getElem?_map,hv84];rfl) K QY Ja rfl rfl rfl fun _ _ _ _ K=>?_;refine p1 K (Q5 Je rfl rfl (hr84.len.trans (congrArg some (Qp _)))) fun _ K=>?_;refine Qb 1 K M fun _ K=>?_;refine QX (fun mm2 T st9=> ∃(c:Nat) (lp2:List (Nat×Nat)) (kl2:AV) (Fl2:Fp) (row:List Int) (kw:AV) (Aw:QM),mm2=2^a.tr-c∧QS [(0,.ptr da 0 0),(1,.ptr db 0 0),(2,iN t),(10,.ptr c47 0 0),(11,.ptr c11 0 0),(14,knA),(15,knB),(16,iN i),(17,.ptr c17 0 0),(18,kw),(71,.bool (decide (((i:Nat):Int)<((lp.length:Nat):Int)))),(85,w84),(86,iZ (s84.length:Nat)),(87,iN c)] T∧Qk st (Yr mp l false).F st9 ((c17,0,[iZ (pr79.1:Nat),iZ (pr79.2:Nat)])::(c11,0,[iZ (a.tr:Nat),ka,kr])::(Aa++(Ar++(Aw++[])))) [EX Fr vs rows,Ce FB knB vsB b.nx,Ce FA knA vsA a.nx,fh Fl2 c47 c44 mp kl2 lp2 (l-lp2.length)]∧V1 (OA a b) (0,0) (2^a.tr) lp2 rows row∧row.length=c∧c≤2^a.tr∧lp2.length≤400∧lp2.take (i+1)=lp.take (i+1)∧Acc 0 1 Aw kw (zC row)) (fun mm2 T st9 hI=>?_) _ _ _ ⟨0,lp,kl,Fl,[],.nils,[],rfl,(K.sub rfl),(B.step M).less (.refl _),hP,rfl,(Nat.zero_le _),hlp,rfl,.none⟩;obtain⟨c,lp2,kl2,Fl2,row,kw,Aw,rfl,K,B,hP2,hrow,hcK,hl2,htk,hAw⟩:=hI;have M:=B.mem;have hi2:=Uu htk Qc;refine Qb 1 K M fun _ K=>?_;refine Jt K rfl (fun h88=>?_) fun h88=>?_
    ·refine Qb 1 K M fun _ K=>?_;obtain⟨y90,hi90⟩:=Uy s84 c Qc;have hb90:=hw84.2 y90 (List.mem_of_getElem? hi90);obtain⟨z90,rfl⟩: ∃m:Nat,y90=((m:Nat):Int):=⟨_,(Int.toNat_of_nonneg hb90.1).symm⟩;refine oI (X3.row ((B.step M).at_ (k:=2) rfl) hi84 hv84) (Jm hi90) K Qo Qn rfl rfl rfl fun _ _ _ _ K=>?_;refine Qb 5 K M fun _ K=>?_;refine p1 K (Fb (j:=1) LF Xe rfl rfl Q8) fun _ K=>?_;refine Qb 1 K M fun _ K=>?_;obtain⟨s98,hi98⟩:=Uy b.nx (pr79.2) Qc;obtain⟨w98,hv98,hr98,hz98,hf98⟩:=((B.step M).at_ (k:=1) rfl).vs.at_ _ _ hi98;have hw98:=wfb.row s98 (List.mem_of_getElem? hi98);have hl98:s98.length=2^b.tr:=hw98.1;refine oI ((B.step M).at_ (k:=1) rfl).rd (by rw[List.getElem?_map,hv98];rfl) K QY Ja rfl rfl rfl fun _ _ _ _ K=>?_;refine Qb 1 K M fun _ K=>?_;obtain⟨y101,hi101⟩:=Uy s98 c Qc;have hb101:=hw98.2 y101 (List.mem_of_getElem? hi101);obtain⟨z101,rfl⟩: ∃m:Nat,y101=((m:Nat):Int):=⟨_,(Int.toNat_of_nonneg hb101.1).symm⟩;refine oI (X3.row ((B.step M).at_ (k:=1) rfl) hi98 hv98) (Jm hi101) K Qo Qn rfl rfl rfl fun _ _ _ _ K=>?_;refine p1 K (ZK AT IB Xe ZI rfl rfl) fun _ K=>?_;replace B:=B.step M;obtain⟨v104,st104,ev104,k3,was3,lp3,kl3,rfl,hnum,F3,hP3m,mf3,Q3⟩:=Ta B.fresh (B.at_ (k:=3) rfl) (B.Y3 (k:=3) rfl) hl2 Qc Qc (z90,z101);refine p1 K (Qf rfl ev104) fun _ K=>?_;have hnl:=hnum.len;rw[show l-lp2.length-(lp3.length-lp2.length)=l-lp3.length by omega]at hP3m;replace B:=B.call (k:=3) (o':=fh F3 c47 c44 mp kl3 lp3 (l-lp3.length)) rfl Q3 hP3m mf3;have M:=B.mem;refine Qb 7 K M fun _ K=>?_;refine Uq K rfl (fun h108=>?_) fun h108=>?_
     ·have hb108:=h108
      replace h108: ¬((lp3.length:Int)≤400):=by first|exact of_decide_eq_false h108|exact yF h108|simpa using h108
      refine Qb 2 K M ?_
      have hgo:OA a b pr79 row.length=(z90,z101):=by unfold OA;rw[hrow,JH hi84 hi90,JH hi98 hi101];rfl
      have hP3:=hnum.pr hP2 Qc (show lp2[rows.length]? =some pr79 by rw[hrl];exact Vn htk hi79) hgo
      have h401:lp3.length=401:=by omega
      exact⟨.inr ⟨rfl,lp3,h401,hP3.nodup,fun Q h0 hs p hp=>hP3.all h0 hs (Nat.two_pow_pos _) hp⟩,(B.step M).JM⟩
     have hb108:=h108
     replace h108:((lp3.length:Int)≤400):=by first|exact of_decide_eq_true h108|exact yT h108|simpa using h108
     refine au 3 K M ?_;intro c111 _ _ K _ M;refine QZ (k2:=0) (L:=((c111,0,[iN k3])::(c17,0,[iZ (pr79.1:Nat),iZ (pr79.2:Nat)])::(c11,0,[iZ (a.tr:Nat),ka,kr])::(Aa++(Ar++[])))) (B:=[]) K (Mem.cast M Ux) hAw QD rfl rfl rfl rfl (by rw[Qp];omega) rfl fun ks112 A112 _ _ K hA112 M=>?_;simp only[XB]at M;refine Qb 3 K M fun _ K=>?_
     have hgo:OA a b pr79 row.length=(z90,z101):=by unfold OA;rw[hrow,JH hi84 hi90,JH hi98 hi101];rfl
     have hP3:=hnum.pr hP2 Qc (show lp2[rows.length]? =some pr79 by rw[hrl];exact Vn htk hi79) hgo;exact⟨_,Qc,c+1,lp3,kl3,F3,(row++[((k3:Nat):Int)]),ks112,A112,rfl,(K.sub rfl),(B.step M).less (.cons _ (.refl _)),hP3,(by rw[List.length_append,hrow];rfl),Qc,Qc,(by rw[hnum.take hi2,htk]),(by rw[JW];exact hA112)⟩
    refine QK ?_;show W _ _ _ _ _ _ _;refine Qb 1 K M fun _ K=>?_;refine p1 K (Qg rfl (M.load (k:=1) rfl (Qd Q7 rfl))) fun _ K=>?_;refine Qb 1 K M fun _ K=>?_;refine Xo K M QQ Ut rfl ((JB rfl hAw.cell rfl).trans rfl) (Qa hAw.cell Qz) rfl rfl fun c117 _ _ K M=>?_;refine YL (k2:=0) (L:=((c117,0,[kw])::(c17,0,[iZ (pr79.1:Nat),iZ (pr79.2:Nat)])::(c11,0,[iZ (a.tr:Nat),ka,kr])::(Aa++[]))) (B:=(Aw++[])) K (Mem.cast M Ux) hAr QQ rfl rfl rfl (by have:=Zl.ln ((B.step M).at_ (k:=0) rfl);omega) rfl fun ks118 A118 _ _ K hA118 _ M=>?_;simp only[XB]at M;refine Qb 1 K M fun _ K=>?_;refine Jk (k:=2) K M rfl rfl rfl Uv (hA118.cell) rfl fun _ M=>?_;refine Qb 0 K M fun _ K=>?_;refine QA (l:=[(3,0),(4,0),(5,0),(6,0),(7,0),(9,0),(10,0),(11,2),(12,0),(13,0),(0,0),(1,4),(2,0),(8,0),(14,0),(15,0),(16,0),(17,0),(18,0),(19,0),(20,0),(21,0)]) (by kernel_rfl) ?_;have Mq:=M;have Mz0:=M;have Bz0:=B;refine q1 rfl K (Qy rfl) fun _ K=>q1 rfl K (Fb (j:=0) LF Xe rfl rfl Q8) fun _ K=>?_;refine Jo 1 K M fun _ K=>?_;obtain⟨v126,st126,ev126,rfl,q126⟩:=VG M.fresh (hDA.OB (B.step M).JM hdA) (s:=pr79.1) Qc;refine qA rfl K (Qf rfl ev126) fun _ K=>?_;replace M:=M.quiet q126;have Mp:=Mq;have Mq:=M;have Mz1:=M;have Bz1:=B;obtain⟨v127,st127,ev127,rfl,q127⟩:=yW M.fresh (a.ok pr79.1);refine qA rfl K (Qf rfl ev127) fun _ K=>?_;have hbt127:=TI (a.ok pr79.1);replace M:=M.quiet q127;have Mp:=Mq;have Mq:=M;have Mz2:=M;have Bz2:=B;refine q1 rfl K (Qy rfl) fun _ K=>q1 rfl K (Fb (j:=1) LF Xe rfl rfl Q8) fun _ K=>?_
    refine XD rfl K rfl (M.load (k:=1) rfl (Qd Qn rfl)) Q4 (by intro s hs;simp only[List.take_succ_cons,List.take_zero,List.mem_cons,List.not_mem_nil,or_false]at hs;rcases hs with rfl|rfl<;>first|exact(Mz1.load (k:=1) rfl (Qd Qn rfl))|exact(Mz0.load (k:=1) rfl (Qd Qn rfl))) (JI rfl) rfl Q8 fun _ K=>?_
    obtain⟨v132,st132,ev132,rfl,q132⟩:=VG M.fresh (hDB.OB (B.step M).JM hdB) (s:=pr79.2) Qc;refine qA rfl K (Qf rfl ev132) fun _ K=>?_;replace M:=M.quiet q132;have Mp:=Mq;have Mq:=M;have Mz3:=M;have Bz3:=B;obtain⟨v133,st133,ev133,rfl,q133⟩:=yW M.fresh (b.ok pr79.2);refine qA rfl K (Qf rfl ev133) fun _ K=>?_;have hbt133:=TI (b.ok pr79.2);replace M:=M.quiet q133;have Mp:=Mq;have Mq:=M;have Mz4:=M;have Bz4:=B;refine Jo 1 K M fun _ K=>?_
    refine XD rfl K rfl (M.load (k:=2) rfl (Qd Um rfl)) Q4 (by intro s hs;simp only[List.take_succ_cons,List.take_zero,List.mem_cons,List.not_mem_nil,or_false]at hs;rcases hs with rfl|rfl|rfl|rfl<;>first|exact(Mz3.load (k:=2) rfl (Qd Um rfl))|exact(Mz2.load (k:=2) rfl (Qd Um rfl))|exact(Mz1.load (k:=2) rfl (Qd Um rfl))|exact(Mz0.load (k:=2) rfl (Qd Um rfl))) (JI (Ub hAa.len)) rfl Q8 fun _ K=>?_
    refine q1 rfl K (Qy rfl) fun _ K=>q1 rfl K (xH (n:=(EC (a.ok pr79.1))) rfl rfl Qc) fun _ K=>?_;refine Jo 1 K M fun _ K=>?_;refine q1 rfl K (ZX (a:=t) (n:=((2 *(EC (a.ok pr79.1)))+(EC (b.ok pr79.2)))) rfl rfl Qc) fun _ K=>q1 rfl K (Z0 (a:=(t/2^(((2 *(EC (a.ok pr79.1)))+(EC (b.ok pr79.2)))))) rfl rfl (Nat.le_trans (Nat.div_le_self _ _) Qc)) fun _ K=>q1 rfl K (jZ rfl rfl) fun _ K=>?_;refine Xp rfl K M J3 Vk rfl rfl rfl rfl rfl fun c138 _ _ K M=>?_;refine ZT (k2:=0) (L:=[(c138,0,[.bool (decide (((((t/2^(((2 *(EC (a.ok pr79.1)))+(EC (b.ok pr79.2))))) % 2):Nat):Int)=1))]),(c117,0,[kw]),(c17,0,[iZ (pr79.1:Nat),iZ (pr79.2:Nat)]),(c11,0,[iZ (a.tr:Nat),ka,ks118])]) (B:=(A118++(Aw++[]))) rfl K M hAa J3 rfl rfl rfl rfl (by rw[Up,List.length_map,List.length_take];omega) rfl fun ks139 A139 _ _ K hA139 M=>?_;have Mp:=Mq;have Mq:=M;have Mz5:=M;have Bz5:=B;refine Jo 1 K M fun _ K=>?_;refine Ze (k:=3) rfl K M rfl rfl rfl UG (hA139.cell) rfl fun _ M=>?_;have Mp:=Mq;have Mq:=M;have Mz6:=M;have Bz6:=B;refine QF ?_;show W _ _ _ _ _ _ _;refine Qb 3 K M fun _ K=>?_;replace B:=B.step M;obtain⟨Fr,B⟩:=Qk.ZD (L:=((c138,0,[.bool (decide (((((t/2^(((2 *(EC (a.ok pr79.1)))+(EC (b.ok pr79.2))))) % 2):Nat):Int)=1))])::(c117,0,[kw])::(c17,0,[iZ (pr79.1:Nat),iZ (pr79.2:Nat)])::(c11,0,[iZ (a.tr:Nat),ks139,ks118])::(A139++(A118++[])))) (B:=[]) (B.cast Ux) hAw (hP2.F7 hl2);replace B:=B.cast (M':=((c138,0,[.bool (decide (((((t/2^(((2 *(EC (a.ok pr79.1)))+(EC (b.ok pr79.2))))) % 2):Nat):Int)=1))])::(c117,0,[kw])::(c17,0,[iZ (pr79.1:Nat),iZ (pr79.2:Nat)])::(c11,0,[iZ (a.tr:Nat),ks139,ks118])::(A139++(A118++[])))) Ux;have M:=B.mem;have hi2:=Uu htk Qc
    have htq:lp.take (i+1)=lp.take i++[pr79]:=by rw[List.take_add_one,hi79];rfl
    exact⟨_,Qc,i+1,lp2,kl2,Fl2,(rows++[row]),_,_,ks139,A139,ks118,A118,rfl,(K.sub rfl),(B.step M).less (.cons _ (.cons _ (.cons _ (.refl _)))),(hP2.whole Qc),(by rw[List.length_append,hrl];rfl),hi2,hl2,(by rw[htk,htq,List.map_append,XZ,show bC ([pr79].map (I7 a b t))=[[AV.bool (I7 a b t pr79)]]from rfl,show I7 a b t pr79=_ from xe t _ _];exact hA139),hA118⟩
   refine QK ?_;show W _ _ _ _ _ _ _;refine Qb 1 K M fun _ K=>?_;replace B:=B.step M;have hlt:lp.take i=lp:=List.take_of_length_le Qc;rw[hlt]at hAa;have hMd:=hP.made (p:=I7 a b t) (m:=⟨a.tr,lp.map (I7 a b t),rows⟩) (by show rows.length=_;omega) rfl htr hlp;obtain⟨Fo,B⟩:=Qk.B6 (L:=((c11,0,[iZ (a.tr:Nat),ka,kr])::(Aa++[]))) (B:=[]) (B.cast Ux) hAr;replace B:=B.cast (M':=((c11,0,[iZ (a.tr:Nat),ka,kr])::(Aa++[]))) Ux;have M:=B.mem;obtain⟨v142,st142,ev142,dp2,F2,rfl,hD2,nf2,q142⟩:=Ed (a:=⟨a.tr,lp.map (I7 a b t),rows⟩) B.fresh hMd.wf (Mem.Ys (L:=[(c11,0,[iZ (a.tr:Nat),ka,kr])]) (B:=[]) M hAa) (X3.r (B.at_ (k:=0) rfl));refine p1 K (Qf rfl ev142) fun _ K=>?_;have hle0:=B.le;replace B:=B.quiet q142;have M:=B.mem;refine Qb 4 K M ?_;exact⟨.inl ⟨dp2,F2,lp,_,rfl,⟨hMd,rfl⟩,hD2,fun c hc=>⟨Nat.le_trans hle0 (nf2 c hc).1,(nf2 c hc).2⟩⟩,(B.step M).JM⟩
  exfalso;omega
 exfalso;omega
end
end Go.Proofs.YtiknomepbklibaaGreatDoor
