/-
  A function by a table (chapter 17).
-/
import Derived.Test.YtiknomepbklibaaGreatDoorQhEnt
namespace Go.Proofs.YtiknomepbklibaaGreatDoor
open Go Go.RowKit
set_option maxHeartbeats 8000000
set_option linter.unusedVariables false
set_option linter.unusedSimpArgs false
set_option linter.unnecessarySimpa false
set_option linter.unusedSectionVars false
set_option maxRecDepth 100000
variable {Tn c3 c5 xm:Nat} {kt:AV}

structure XK(T:Nat)(S:U8)(cl:List Int)(i r:Nat):Prop where
 lt:r<S.length
 lv:lvl T S i≤lvl T S r
 ev: ∀c,Y5 S r c=cv cl (Y5 S i c).toNat
section
variable {T:Nat} {S S':U8} {cl:List Int} {L:List ((Nat×Nat)×AV)} {i r:Nat}
theorem XK.pre(H:XK T S cl i r)(W:Xk T S)(h:S<+:S')(hi:i<S.length):XK T S' cl i r:=
 ⟨Nat.lt_of_lt_of_le H.lt h.length_le,by rw[Vm h hi,Vm h H.lt];exact H.lv,fun c=>by rw[Zq W h H.lt,Zq W h hi];exact H.ev c⟩
def W0(T:Nat)(S:U8)(cl:List Int)(L:List ((Nat×Nat)×AV)):Prop:= ∀a b v,((a,b),v)∈L→a=b∧a<S.length∧ ∃r:Nat,v=.int .i64 (r:Nat)∧XK T S cl a r
theorem W0.pre(H:W0 T S cl L)(W:Xk T S)(h:S<+:S'):W0 T S' cl L:=fun a b v hm=>by
 obtain⟨h1,h2,r,h3,h4⟩:=H a b v hm;exact⟨h1,Nat.lt_of_lt_of_le h2 h.length_le,r,h3,h4.pre W h h2⟩
theorem W0.put(H:W0 T S cl L)(hi:i<S.length)(h:XK T S cl i r):W0 T S cl (L++[((i,i),.int .i64 (r:Nat))]):=fun a b v hm=>by
 rcases List.mem_append.1 hm with hm|hm
 ·exact H a b v hm
 ·have e:=List.mem_singleton.1 hm
  injection e with e1 e2
  injection e1 with e1 e3
  subst e1 e3;exact⟨rfl,hi,r,e2,h⟩
theorem W0.found(H:W0 T S cl L){v:AV}(h:Yr L (i,i)=some v): ∃r:Nat,v=.int .i64 (r:Nat)∧XK T S cl i r:=(H _ _ _ (Ly h)).2.2
theorem XK.leaf(W:Xk T S){v x:Int}(hi:S[i]? =some (.leaf v))(hx:x=cv cl v.toNat)(hr:r<S'.length)(h:S<+:S')(hl:lvl T S' r=T)(he: ∀c,Y5 S' r c=x):XK T S' cl i r:=by
 have hlt:=(List.getElem?_eq_some_iff.1 hi).1;refine⟨hr,?_,fun c=>?_⟩
 ·rw[hl,Vm h hlt];exact BW W i
 ·rw[he,Zq W h hlt,Wc hi,hx]
theorem XK.fork(W:Xk T S){t l k rl rk:Nat}(hi:S[i]? =some (.fork t l k))(h:S<+:S')(hr:r<S'.length)(h1:XK T S' cl l rl)(h2:XK T S' cl k rk)(hl:t≤lvl T S' r)(he: ∀c,Y5 S' r c=if c.testBit t then Y5 S' rk c else Y5 S' rl c):XK T S' cl i r:=by
 have hlt:=(List.getElem?_eq_some_iff.1 hi).1;obtain⟨a1,a2,a3,a4,_⟩:=W.fork _ _ _ _ hi;refine⟨hr,?_,fun c=>?_⟩
 ·rw[Vm h hlt];refine Nat.le_trans ?_ hl;unfold lvl;rw[hi];exact Nat.le_refl _
 ·rw[he,Zq W h hlt,Wd W hi,h1.ev,h2.ev,Zq W h (Nat.lt_trans a3 hlt),Zq W h (Nat.lt_trans a4 hlt)]
  split<;>rfl
end
def fE(st:St)(X:Fp)(Q:Hp→Prop):Prop:= ∀h':Hp,(∀c,c<st.n→ ¬X c→h' c=st.h.get c)→Q h'
theorem fE.step{st st':St}{X X':Fp}{Q:Hp→Prop}(h:fE st X Q)(C:US X st st')(m:Ef st st' X X'):fE st' X' Q:=fun h' e=>h h' fun c hc hx=>by
 rw[e c (Nat.lt_of_lt_of_le hc C.le) fun hx'=>by
  rcases(m c hx').1 with h1|h1
  ·exact hx h1
  ·omega]
 exact C.JB c hc hx
structure qZ(h:Hp)(F:Fp)(sp cm T:Nat)(S:U8)(L:List ((Nat×Nat)×AV)):Prop where
 Kq:AJ h F sp T S
 map:(Wo cm Xo L).H h
 d: ¬F cm
def wK(F:Fp)(cm:Nat):Fp:=fun c=>F c∨c=cm
def vW(F:Fp)(sp cm T:Nat)(S:U8)(L:List ((Nat×Nat)×AV)):Ob:=⟨wK F cm,fun h=>qZ h F sp cm T S L,fun h h' e H=>⟨H.Kq.frame fun c hc=>e c (.inl hc),(Wo cm Xo L).fr _ _ (fun c hc=>e c (.inr hc)) H.map,H.d⟩⟩
def zD(st st':St)(F:Fp)(sp cm T:Nat)(S':U8)(L':List ((Nat×Nat)×AV)):Prop:= ∃F',qZ st'.h.get F' sp cm T S' L'∧Ef st st' (wK F cm) (wK F' cm)∧US (wK F cm) st st'
section
variable {st0 st st':St} {X0 F:Fp} {M:QS} {Os:List Ob} {sp cm T:Nat} {S S':U8} {L L':List ((Nat×Nat)×AV)}
theorem Qk.split{o o1 o2:Ob}(B:Qk st0 X0 st M (o::Os))(h1:o1.H st.h.get)(h2:o2.H st.h.get)(hF1: ∀c,o1.F c→o.F c)(hF2: ∀c,o2.F c→o.F c)(hd: ∀c,o1.F c→ ¬o2.F c):Qk st0 X0 st M (o1::o2::Os):=by
 have hp:=List.pairwise_cons.1 B.dj;refine⟨B.fresh,B.le,B.row,B.nodup,B.lo,fun p hp'=>?_,fun p hp' c hc=>?_,List.pairwise_cons.2 ⟨fun p hp' c k1 k2=>?_,List.pairwise_cons.2 ⟨fun p hp' c k1 k2=>hp.1 p hp' c (hF2 c k1) k2,hp.2⟩⟩,fun p hp' c m l hm hc=>?_,B.JB⟩
 ·rcases List.mem_cons.1 hp' with rfl|hp'
  ·exact h1
  rcases List.mem_cons.1 hp' with rfl|hp'
  ·exact h2
  ·exact B.obj p (List.mem_cons_of_mem _ hp')
 ·rcases List.mem_cons.1 hp' with rfl|hp'
  ·exact B.hi o (List.mem_cons_self ..) c (hF1 c hc)
  rcases List.mem_cons.1 hp' with rfl|hp'
  ·exact B.hi o (List.mem_cons_self ..) c (hF2 c hc)
  ·exact B.hi p (List.mem_cons_of_mem _ hp') c hc
 ·rcases List.mem_cons.1 hp' with rfl|hp'
  ·exact hd c k1 k2
  ·exact hp.1 p hp' c (hF1 c k1) k2
 ·rcases List.mem_cons.1 hp' with rfl|hp'
  ·exact B.djM o (List.mem_cons_self ..) c m l hm (hF1 c hc)
  rcases List.mem_cons.1 hp' with rfl|hp'
  ·exact B.djM o (List.mem_cons_self ..) c m l hm (hF2 c hc)
  ·exact B.djM p (List.mem_cons_of_mem _ hp') c m l hm hc
theorem Qk.Rm{o:Ob}(B:Qk st0 X0 st M Os){c m:Nat}{l:List AV}(k:Nat)(hk:M[k]? =some (c,m,l))(j:Nat)(hj:Os[j]? =some o){h':Hp}(e: ∀c,c<st.n→ ¬o.F c→h' c=st.h.get c):Qy h' c m l:=by
 have hm:=List.mem_of_getElem? hk;have hr:=B.row c m l hm;exact hr.frame (e c (hr.lt B.fresh) (B.djM o (List.mem_of_getElem? hj) c m l hm))
theorem Qk.aU{o:Ob}(B:Qk st0 X0 st M Os)(hf:Qi st0){z:Nat}{ls:List (List AV)}{ks:AV}(r:Jj st0.h.get [] z ls ks)(hX: ∀c m o n y,ks=.sl c m o n y→ ¬X0 c)(j:Nat)(hj:Os[j]? =some o){h':Hp}(e: ∀c,c<st.n→ ¬o.F c→h' c=st.h.get c):Jj h' [] z ls ks:=
 (B.rd hf r hX).frame fun c m p n y e2=>e c (by obtain⟨_,cells,k2,_⟩:=(B.rd hf r hX).alive c m p n y e2;exact k2.lt B.fresh) (B.off hj hf r hX c m p n y e2)
theorem Qk.LR(B:Qk st0 X0 st M (vW F sp cm T S L::Os)):Qk st0 X0 st M (X9 F sp T S::Wo cm Xo L::Os):=by
 have H:qZ st.h.get F sp cm T S L:=B.at_ (k:=0) rfl;exact B.split H.Kq H.map (fun c hc=>.inl hc) (fun c hc=>.inr hc) fun c h1 h2=>H.d ((show c=cm from h2)▸h1)
theorem Qk.DO(B:Qk st0 X0 st M (X9 F sp T S::Wo cm Xo L::Os)):Qk st0 X0 st M (vW F sp cm T S L::Os):=
 B.join (fun h1 h2=>⟨h1,h2,fun h=>(List.pairwise_cons.1 B.dj).1 (Wo cm Xo L) Q7 cm h rfl⟩) fun c hc=>hc
theorem Qk.wN{F':Fp}(B:Qk st0 (wK F cm) st M (vW F' sp cm T S' L'::Os)):zD st0 st F sp cm T S' L':=
 ⟨F',B.at_ (k:=0) rfl,fun c hc=>⟨(B.Lx (k:=0) rfl c hc).symm,B.Y4 (k:=0) rfl c hc⟩,B.JN⟩
theorem Qk.yU(B:Qk st0 X0 st M (vW F sp cm T S L::Os))(h:zD st st' F sp cm T S' L'): ∃F',Qk st0 X0 st' M (vW F' sp cm T S' L'::Os):=by
 obtain⟨F',h1,h2,h3⟩:=h;exact⟨F',B.call (k:=0) rfl h3 (o':=vW F' sp cm T S' L') h1 h2⟩
theorem Qk.aW(B:Qk st0 X0 st M (vW F sp cm T S L::Os)):Zm st F sp T S:=⟨qZ.Kq (B.at_ (k:=0) rfl),fun c hc=>B.Y4 (k:=0) rfl c (.inl hc)⟩
end
structure fY(xm sp cm c5 c3:Nat)(kt:AV)(cl:List Int)(h:Hp):Prop where
 row:Qy h xm 0 [.ptr sp 0 0,.fn 178 [] [.ptr c5 0 0,.ptr c3 0 0],.mp cm]
 r5:Qy h c5 0 [kt]
 r3:Qy h c3 0 [.ptr sp 0 0]
 kt:Jj h [] 1 (zC cl) kt
theorem Cj(f c d:Nat):Gc (.fn f [] [.ptr c 0 0,.ptr d 0 0]) (.fn f [] [.ptr c 0 0,.ptr d 0 0])=true:=by
 have h: ∀n:Nat,Nat.beq n n=true:=fun n=>by simp
 show Qj (Nat.beq f f) (Qj (AA [] []) (AA [.ptr c 0 0,.ptr d 0 0] [.ptr c 0 0,.ptr d 0 0]) false) false=true;rw[h,Qz,show AA [] []=true from rfl,Qz];show Qj (Sa (.ptr c 0 0) (.ptr c 0 0)) (Qj (Sa (.ptr d 0 0) (.ptr d 0 0)) true false) false=true;show Qj (Qj (Nat.beq c c) true false) (Qj (Qj (Nat.beq d d) true false) true false) false=true;rw[h,h];rfl
def aM(n:Bn):Int:=if Ix n then P0 n else-1
theorem Hj{st:St}(hf:Qi st){F:Fp}{sp:Nat}{S:U8}(hS:Zm st F sp Tn S){i:Nat}(hi:i<S.length){n:Bn}(hn:S[i]? =some n): ∃v st',Jh 191 [.ptr sp 0 0,.int .i64 (i:Nat)] st v st'∧v=.int .i64 (aM n)∧Qt st st':=by
 obtain⟨v,st',h1,⟨m,h2,h3⟩,h4⟩:=qL hf hS hi;rw[hn]at h2
 injection h2 with h2
 subst h2;exact⟨v,st',h1,h3,h4⟩
theorem DE{α:Type}{L:List (α×AV)}{a b:α}{v:AV}(hne:b≠a)(h:Yr L a=none):Yr (L++[(b,v)]) a=none:=by
 induction L with
 |nil=>simp[Yr,hne]
 |cons x L ih=>
  rw[List.cons_append];rw[Yr]at h ⊢
  split at h
  ·cases h
  ·rename_i hx;rw[if_neg hx];exact ih h

theorem Dw{st:St}(hf:Qi st){F:Fp}{sp:Nat}{S:U8}(hS:Zm st F sp Tn S){cm:Nat}(hx:Qy st.h.get xm 0 [.ptr sp 0 0,.fn 178 [] [.ptr c5 0 0,.ptr c3 0 0],.mp cm])(h6:Tn≤6)(wf:Xk Tn S){i:Nat}(hi:i<S.length): ∃v st',Jh 185 [.ptr xm 0 0,iN i] st v st'∧v=iZ (Y5 S i 0)∧Qt st st':=by
 refine JA Tryz.func185 Tryz.ntmps185 fun T K=>?_;have M:=Mem.start hf;refine Qb 4 K M fun _ K=>?_;refine p1 K (Qf rfl (Qx (M.JH Q7 hx.Jd) (Qd JK rfl))) fun _ K=>?_;refine Qb 1 K M fun _ K=>?_;refine oQ K M (Su M.fresh (hS.q M.qt) h6 wf hi (c:=0) (Nat.two_pow_pos _)) rfl rfl fun _ _ K M=>?_;refine Qb 1 K M ?_;exact⟨rfl,M.qt⟩

theorem Nj{st:St}(hf:Qi st){F:Fp}{sp:Nat}{S:U8}(hS:Zm st F sp Tn S){cm:Nat}(hx:Qy st.h.get xm 0 [.ptr sp 0 0,.fn 178 [] [.ptr c5 0 0,.ptr c3 0 0],.mp cm]){i:Nat}(hi:i<S.length){t l h:Nat}(hn:S[i]? =some (.fork t l h)): ∃v st',Jh 186 [.ptr xm 0 0,iN i,iN t] st v st'∧v=.tup [iN l,iN h]∧Qt st st':=by
 have htk:aM (.fork t l h)=((t:Nat):Int):=rfl;refine JA Tryz.func186 Tryz.ntmps186 fun T K=>?_;have M:=Mem.start hf;refine Qb 5 K M fun _ K=>?_;refine p1 K (Qf rfl (Qx (M.JH Q7 hx.Jd) (Qd JK rfl))) fun _ K=>?_;refine Qb 1 K M fun _ K=>?_;refine oQ K M (Hj M.fresh (hS.q M.qt) hi hn) rfl rfl fun _ _ K M=>?_;refine Qb 2 K M fun _ K=>?_;refine Jy K rfl (fun h15=>?_) fun h15=>?_
 ·refine Qb 3 K M fun _ K=>?_;refine p1 K (Qf rfl (Qx (M.JH Q7 hx.Jd) (Qd JK rfl))) fun _ K=>?_;refine Qb 1 K M fun _ K=>?_;refine oQ K M (zi M.fresh (hS.q M.qt) hi hn) rfl rfl fun _ _ K M=>?_;refine Qb 4 K M ?_;exact⟨rfl,M.qt⟩
 exfalso;omega

theorem jQ{st:St}(hf:Qi st){F:Fp}{sp:Nat}{S:U8}(hS:Zm st F sp Tn S){cm:Nat}(hx:Qy st.h.get xm 0 [.ptr sp 0 0,.fn 178 [] [.ptr c5 0 0,.ptr c3 0 0],.mp cm]){i:Nat}(hi:i<S.length){n:Bn}(hn:S[i]? =some n): ∃v st',Jh 184 [.ptr xm 0 0,iN i,iN i] st v st'∧v=iZ (aM n)∧Qt st st':=by
 refine JA Tryz.func184 Tryz.ntmps184 fun T K=>?_;have M:=Mem.start hf;refine Qb 1 K M fun _ K=>?_;refine QC (l:=[(0,0),(1,0),(2,0),(3,0),(4,0),(5,0),(6,0),(7,0),(8,0),(9,1),(10,0),(11,0),(12,0),(13,0)]) (by kernel_rfl) ?_;have Mq:=M;refine Jo 3 K M fun _ K=>?_;refine q1 rfl K (Qf rfl (Qx (M.JH Q7 hx.Jd) (Qd JK rfl))) fun _ K=>q1 rfl K (Q0 rfl) fun _ K=>?_;obtain⟨v14,st14,ev14,rfl,q14⟩:=Hj M.fresh (hS.q M.qt) hi hn;refine qA rfl K (Qg rfl ev14) fun _ K=>?_;replace M:=M.quiet q14;have Mp:=Mq;have Mq:=M;refine Jo 3 K M fun _ K=>?_;refine Jt rfl K rfl (Qx (M.JH Q7 hx.Jd) (Qd JK rfl)) (Qx (Mp.JH Q7 hx.Jd) (Qd JK rfl)) (JQ rfl) rfl Q9 fun _ K=>?_;refine q1 rfl K (Q0 rfl) fun _ K=>?_;obtain⟨v20,st20,ev20,rfl,q20⟩:=Hj M.fresh (hS.q M.qt) hi hn;refine qA rfl K (Qg rfl ev20) fun _ K=>?_;replace M:=M.quiet q20;have Mp:=Mq;have Mq:=M;refine Jo 2 K M fun _ K=>?_;refine QF ?_;show W _ _ _ _ _ _ _;refine Qb 2 K M fun _ K=>?_;refine Uj K rfl (fun _ e23 K=>?_) fun _ e23 K=>?_
 ·refine Qb 2 K M fun _ K=>?_;refine Nx K rfl rfl (Q0 rfl) rfl (fun _ e26 K=>?_) fun _ e26 K=>?_
  ·refine Qb 8 K M ?_;exact⟨rfl,M.qt⟩
  refine Qb 5 K M fun _ K=>?_;refine Jy K rfl (fun h31=>?_) fun h31=>?_
  ·refine Qb 2 K M ?_;exact⟨rfl,M.qt⟩
  refine Qb 2 K M ?_;exact⟨rfl,M.qt⟩
 refine Qb 11 K M ?_;exact⟨rfl,M.qt⟩

theorem M6{st:St}(hf:Qi st){F:Fp}{sp:Nat}{S:U8}(hS:Zm st F sp Tn S){cl:List Int}(h5:Qy st.h.get c5 0 [kt])(h3:Qy st.h.get c3 0 [.ptr sp 0 0])(hkt:Jj st.h.get [] 1 (zC cl) kt)(hcl: ∀z∈cl,0≤z∧z≤1099511627776)(wf:Xk Tn S)(hlen:S.length<1000000000){u u2:Int}(hx0:0≤u)(hx1:u<((cl.length:Nat):Int)): ∃v st',Jh 178 [iZ u,iZ u2,.ptr c5 0 0,.ptr c3 0 0] st v st'∧ ∃i S',v=iN i∧XU st st' F sp Tn S'∧Wg Tn S 1 S' i∧lvl Tn S' i=Tn∧ ∀c,Y5 S' i c=cv cl u.toNat:=by
 have B:=Qk.UN (o:=X9 F sp Tn S) hf hS.at_ hS.hi;have hkc:=hkt.cell
 have hbn:(cl.length:Int)≤9223372036854775807:=by have:=hkt.Wv;rw[Qq]at this;exact this
 refine JA Tryz.func178 Tryz.ntmps178 fun T K=>?_;have M:=B.mem;refine Qb 2 K M fun _ K=>?_;refine p1 K (Qf rfl (Qx (M.JH Q7 h5.Jd) (Qd Jb rfl))) fun _ K=>p1 K (Q5 Ja rfl rfl (hkt.len.trans (congrArg some (Qq _)))) fun _ K=>?_;refine Qb 1 K M fun _ K=>?_;refine Jy K rfl (fun h10=>?_) fun h10=>?_
 ·exfalso;omega
 refine Qb 0 K M fun _ K=>?_;refine QC (l:=[(0,0),(1,0),(2,0),(3,0),(4,0),(5,0),(6,0)]) (by kernel_rfl) ?_;refine q1 rfl K (Qf rfl (Qx (M.JH Q7 h3.Jd) (Qd JK rfl))) fun _ K=>q1 rfl K (Qf rfl (Qx (M.JH Q7 h5.Jd) (Qd Jb rfl))) fun _ K=>q1 rfl K (Q0 rfl) fun _ K=>?_;obtain⟨y14,hi14⟩:=Uw cl ((u).toNat) Qc;obtain⟨x14,m14,f14,q14,_,la14,lo14,lp14⟩:=(Jj.mem M hkt Q7).load (i:=(u).toNat) (cs:=_) (Jm hi14);refine q1 rfl K (Qe (j:=(u).toNat) Qo (congrArg some q14) (congrArg (fun z=>some (iZ z)) (by omega:_=(((u).toNat:Nat):Int))) (by rw[Qq];omega)) fun _ K=>q1 rfl K (Qf rfl (lo14 _ 0 _ Qn rfl)) fun _ K=>?_;replace B:=B.step M;have hcv:=hcl y14 (List.mem_of_getElem? hi14);obtain⟨v16,st16,ev16,i1,S1,rfl,hout,mb,hlv,hev⟩:=P3 B.fresh (B.Kq (k:=0) rfl) wf hlen hcv.1 hcv.2;refine qA rfl K (Qg rfl ev16) fun _ K=>?_;obtain⟨F',B⟩:=B.We hout;have M:=B.mem;refine q1 rfl K (JW rfl) fun _ K=>QF ?_;show W _ _ _ _ _ _ _;refine Qb 0 K M ?_
 have he:cv cl u.toNat=y14:=by unfold cv;rw[hi14];rfl
 exact⟨i1,S1,rfl,(B.step M).Nq,mb,hlv,fun c=>by rw[he];exact hev c⟩

theorem M5{sp cm:Nat}{cl:List Int}(h6:Tn≤6)(hcl: ∀z∈cl,0≤z∧z≤1099511627776)(i:Nat): ∀(st:St),Qi st→ ∀(F:Fp) (S:U8) (L:List ((Nat×Nat)×AV)),qZ st.h.get F sp cm Tn S L→(∀c,wK F cm c→c<st.n)→Xk Tn S→i<S.length→(∀c,0≤Y5 S i c∧Y5 S i c<((cl.length:Nat):Int))→W0 Tn S cl L→fE st (wK F cm) (fY xm sp cm c5 c3 kt cl)→S.length+(2^(Tn-lvl Tn S i+1)-1)≤1000000000→ ∃v st',Jh 179 [.ptr xm 0 0,iN i,iN i] st v st'∧ ∃r S' L',v=iN r∧zD st st' F sp cm Tn S' L'∧Wg Tn S (2^(Tn-lvl Tn S i+1)-1) S' r∧XK Tn S' cl i r∧W0 Tn S' cl L'∧(∀j,i<j→Yr L (j,j)=none→Yr L' (j,j)=none):=by
 induction i using Nat.strongRecOn with|_ i ih=>?_
 intro st hf F S L hP hhi wf hi hval hinv hRo hlen;obtain⟨n,hn⟩: ∃n,S[i]? =some n:=⟨_,List.getElem?_eq_getElem hi⟩;have hq9:2^1≤2^(Tn-lvl Tn S i+1):=Nat.pow_le_pow_right Q9 Qc;have B:=Qk.UN (o:=vW F sp cm Tn S L) hf hP hhi;refine JA Tryz.func179 Tryz.ntmps179 fun T K=>?_;have M:=B.mem;refine Qb 4 K M fun _ K=>?_;refine p1 K (Qf rfl (Qx (hRo _ (B.step M).JB).row.Jd (Qd Zy rfl))) fun _ K=>?_;refine Qb 2 K M fun _ K=>?_;refine p1 K (ZK AQ I3 Xb ZI rfl rfl) fun _ K=>p1 K (WI (a:=(i,i)) WS (qZ.map ((B.step M).at_ (k:=0) rfl)) rfl rfl) fun _ K=>?_;refine Qb 6 K M fun _ K=>?_;refine Qp (K.QG rfl) (fun h27=>?_) (fun h27=>?_)
 ·have hb27:=h27;refine Qb 2 K M ?_
  obtain⟨v0,hv0⟩: ∃x,Yr L (i,i)=some x:=by cases hq:Yr L (i,i)with|none=>rw[hq]at h27;cases h27|some x=>exact⟨x,rfl⟩
  obtain⟨r,rfl,hmo⟩:=hinv.found hv0;exact⟨r,S,L,by rw[hv0];rfl,(B.step M).wN,⟨wf,List.prefix_refl _,hmo.lt,by omega⟩,hmo,hinv,fun j _ h=>h⟩
 have hb27:=h27;refine Qb 0 K M fun _ K=>?_
 have hnone:Yr L (i,i)=none:=by cases hq:Yr L (i,i)with|none=>rfl|some x=>rw[hq]at h27;cases h27
 refine Qb 3 K M fun _ K=>?_;refine oQ K M (jQ M.fresh (B.step M).aW (hRo _ (B.step M).JB).row hi hn) rfl rfl fun _ _ K M=>?_;refine Qb 3 K M fun _ K=>?_;refine Jy K rfl (fun h34=>?_) fun h34=>?_
 ·obtain⟨x0,rfl⟩: ∃x,n=.leaf x:=by cases n with|leaf x=>exact⟨x,rfl⟩|fork t l h=>exact absurd h34 (by simp only[aM,Ix,P0,if_true];omega)
  refine QC (l:=[(4,0),(5,0),(6,0),(7,0),(8,0),(9,0),(0,0),(1,0),(2,0),(3,2),(10,0),(11,0)]) (by kernel_rfl) ?_;have Mq:=M;have Mz0:=M;have Bz0:=B;refine Jo 2 K M fun _ K=>?_;obtain⟨v41,st41,ev41,rfl,q41⟩:=Dw M.fresh (B.step M).aW (hRo _ (B.step M).JB).row h6 wf hi;refine qA rfl K (Qg rfl ev41) fun _ K=>?_;replace M:=M.quiet q41;have Mp:=Mq;have Mq:=M;have Mz1:=M;have Bz1:=B;refine Jo 2 K M fun _ K=>?_;obtain⟨v44,st44,ev44,rfl,q44⟩:=Dw M.fresh (B.step M).aW (hRo _ (B.step M).JB).row h6 wf hi;refine qA rfl K (Qg rfl ev44) fun _ K=>?_;replace M:=M.quiet q44;have Mp:=Mq;have Mq:=M;have Mz2:=M;have Bz2:=B;refine Jo 3 K M fun _ K=>?_
  refine W5 rfl K rfl (Qx (hRo _ (B.step M).JB).row.Jd (Qd YJ rfl)) Q7 (by intro s hs;simp only[List.take_succ_cons,List.take_zero,List.mem_cons,List.not_mem_nil,or_false]at hs;rcases hs with rfl|rfl<;>first|exact(Qx (hRo _ (Bz1.step Mz1).JB).row.Jd (Qd YJ rfl))|exact(Qx (hRo _ (Bz0.step Mz0).JB).row.Jd (Qd YJ rfl))) (Cj _ _ _) rfl Q9 fun _ K=>?_
  replace B:=(B.step M).LR;have hro:=hRo _ B.JB;have hv0:=hval 0;obtain⟨v45,st45,ev45,i1,S1,rfl,hout,mb,hlv,hev⟩:=M6 B.fresh (B.Kq (k:=0) rfl) hro.r5 hro.r3 hro.kt hcl wf Qc (u:=Y5 S i 0) (u2:=Y5 S i 0) hv0.1 hv0.2;refine qA rfl K (ZW rfl rfl ev45) fun _ K=>?_;obtain⟨F',B⟩:=B.We hout;replace B:=B.DO;have M:=B.mem;have hmo:XK Tn S1 cl i i1:=XK.leaf wf hn (show _=cv cl x0.toNat by rw[Wc hn]) mb.lt mb.pre hlv hev;have Mp:=Mq;have Mq:=M;have Mz3:=M;have Bz3:=B;refine q1 rfl K (JW rfl) fun _ K=>QF ?_;show W _ _ _ _ _ _ _;refine Qb 3 K M fun _ K=>?_;refine p1 K (Qf rfl (Qx (hRo _ (B.step M).JB).row.Jd (Qd Zy rfl))) fun _ K=>?_;refine Qb 2 K M fun _ K=>?_;refine p1 K (ZK AQ I3 Xb ZI rfl rfl) fun _ K=>?_;refine Qb 1 K M fun _ K=>?_;have hnn:Yr L (i,i)=none:=hnone;replace B:=(B.step M).LR;refine Hy (j:=1) (a:=(i,i)) K B rfl WS rfl rfl rfl rfl hnn fun _ B=>?_;replace B:=Qk.DO (L:=L++[((i,i),iN i1)]) B;have M:=B.mem;refine Qb 2 K M ?_;have h1l:=mb.len
  have hq4:1≤2^(Tn-lvl Tn S i+1)-1:=by have:2^1≤2^(Tn-lvl Tn S i+1):=Nat.pow_le_pow_right Q9 Qc;omega
  have hil:=Nat.lt_of_lt_of_le hi mb.pre.length_le;exact⟨i1,S1,_,rfl,(B.step M).wN,⟨mb.wf,mb.pre,mb.lt,by omega⟩,hmo,(hinv.pre wf mb.pre).put hil hmo,fun j hj h=>DE (fun e=>by have:=congrArg Prod.fst e;simp at this;omega) (h)⟩
 refine Jz ?_
 obtain⟨t,l,h,rfl⟩: ∃t l h,n=.fork t l h:=by cases n with|leaf x=>exact absurd (show aM (.leaf x)<0 by show(-1:Int)<0;decide) h34|fork t l h=>exact⟨t,l,h,rfl⟩
 obtain⟨a1,a2,a3,a4,a5,a6⟩:=wf.fork _ _ _ _ hn
 have hlt:lvl Tn S i=t:=by unfold lvl;rw[hn]
 have hp1:2^(Tn-lvl Tn S l+1)≤2^(Tn-t):=Nat.pow_le_pow_right Q9 (by have:=BW wf l;omega);have hp2:2^(Tn-lvl Tn S h+1)≤2^(Tn-t):=Nat.pow_le_pow_right Q9 (by have:=BW wf h;omega)
 have hp3:2^(Tn-t+1)=2 *2^(Tn-t):=by rw[Nat.pow_succ,Nat.mul_comm]
 have hp4:1≤2^(Tn-t):=Nat.one_le_two_pow;rw[hlt,hp3]at hlen
 have hvl: ∀c,0≤Y5 S l c∧Y5 S l c<((cl.length:Nat):Int):=fun c=>by rw[←Ie wf hn c];exact hval _
 have hvh: ∀c,0≤Y5 S h c∧Y5 S h c<((cl.length:Nat):Int):=fun c=>by rw[←Fb wf hn c];exact hval _
 refine Qb 3 K M fun _ K=>?_;refine oQ K M (Nj M.fresh (B.step M).aW (hRo _ (B.step M).JB).row hi hn) rfl rfl fun _ _ K M=>?_;refine Qb 8 K M fun _ K=>?_;refine oQ K M (Nj M.fresh (B.step M).aW (hRo _ (B.step M).JB).row hi hn) rfl rfl fun _ _ K M=>?_;refine Qb 8 K M fun _ K=>?_;replace B:=B.step M;obtain⟨v63,st63,ev63,r1,S1,L1,rfl,hout1,mb1,mo1,hinv1,hnk1⟩:=ih l a3 _ B.fresh _ _ _ (B.at_ (k:=0) rfl) (B.Y4 (k:=0) rfl) wf Qc hvl hinv (hRo.step B.JN (fun c hc=>⟨(B.Lx (k:=0) rfl c hc).symm,B.Y4 (k:=0) rfl c hc⟩)) Qc;refine p1 K (Qg rfl ev63) fun _ K=>?_;obtain⟨F1,B⟩:=B.yU hout1;have M:=B.mem;have hll:=mb1.len;have hpl:=mb1.pre.length_le;refine Qb 3 K M fun _ K=>?_;replace B:=B.step M;obtain⟨v67,st67,ev67,r2,S2,L2,rfl,hout2,mb2,mo2,hinv2,hnk2⟩:=ih h a4 _ B.fresh _ _ _ (B.at_ (k:=0) rfl) (B.Y4 (k:=0) rfl) mb1.wf Qc (fun c=>by rw[Zq wf mb1.pre Qc];exact hvh c) hinv1 (hRo.step B.JN (fun c hc=>⟨(B.Lx (k:=0) rfl c hc).symm,B.Y4 (k:=0) rfl c hc⟩)) (by rw[Vm mb1.pre Qc];omega);refine p1 K (Qg rfl ev67) fun _ K=>?_;obtain⟨F2,B⟩:=B.yU hout2;have M:=B.mem;rw[Vm mb1.pre Qc]at mb2;have hll2:=mb2.len;have hpl2:=mb2.pre.length_le;have mo1':=mo1.pre mb1.wf mb2.pre Qc
 have hlS2: ∀j,j<S.length→lvl Tn S2 j=lvl Tn S j:=fun j hj=>by rw[Vm mb2.pre Qc,Vm mb1.pre hj]
 have hk1:=mo1'.lv;have hk2:=mo2.lv;rw[hlS2 l Qc]at hk1;rw[hlS2 h Qc]at hk2;have hnone2:Yr L2 (i,i)=none:=hnk2 i Qc (hnk1 i Qc hnone);refine Qb 5 K M fun _ K=>?_;refine Uj K rfl (fun _ e70 K=>?_) fun _ e70 K=>?_
 ·exfalso;omega
 refine Qb 3 K M fun _ K=>?_;refine Jy K rfl (fun h73=>?_) fun h73=>?_
 ·refine Qb 3 K M fun _ K=>?_;refine p1 K (Qf rfl (Qx (hRo _ (B.step M).JB).row.Jd (Qd JK rfl))) fun _ K=>?_;refine Qb 3 K M fun _ K=>?_;replace B:=(B.step M).LR;obtain⟨v81,st81,ev81,r3,S3,rfl,hout3,mb3,hlv3,hev3⟩:=zh B.fresh (B.Kq (k:=0) rfl) mb2.wf Qc (t:=t) (l:=r1) (h:=r2) a6 mo1'.lt mo2.lt Qc Qc;refine p1 K (Qg rfl ev81) fun _ K=>?_;obtain⟨F3,B⟩:=B.We hout3;replace B:=B.DO;have M:=B.mem;have hp13:=(mb1.pre.trans mb2.pre).trans mb3.pre;have hmo:XK Tn S3 cl i r3:=XK.fork wf hn hp13 mb3.lt (mo1'.pre mb2.wf mb3.pre Qc) (mo2.pre mb2.wf mb3.pre Qc) hlv3 (fun c=>by rw[hev3,Zq mb2.wf mb3.pre mo1'.lt,Zq mb2.wf mb3.pre mo2.lt]);refine Qb 4 K M fun _ K=>?_;refine p1 K (Qf rfl (Qx (hRo _ (B.step M).JB).row.Jd (Qd Zy rfl))) fun _ K=>?_;refine Qb 2 K M fun _ K=>?_;refine p1 K (ZK AQ I3 Xb ZI rfl rfl) fun _ K=>?_;refine Qb 1 K M fun _ K=>?_;have hnn:=hnone2;replace B:=(B.step M).LR;refine Hy (j:=1) (a:=(i,i)) K B rfl WS rfl rfl rfl rfl hnn fun _ B=>?_;replace B:=Qk.DO (L:=L2++[((i,i),iN r3)]) B;have M:=B.mem;refine Qb 2 K M ?_;have h3l:=mb3.len;have hil:=Nat.lt_of_lt_of_le hi hp13.length_le;exact⟨r3,S3,_,rfl,(B.step M).wN,⟨mb3.wf,hp13,mb3.lt,by rw[hlt,hp3];omega⟩,hmo,(hinv2.pre mb2.wf mb3.pre).put hil hmo,fun j hj h=>DE (fun e=>by have:=congrArg Prod.fst e;simp at this;omega) (hnk2 j Qc (hnk1 j Qc h))⟩
 exfalso;omega

theorem xA{st:St}(hf:Qi st){F:Fp}{sp:Nat}{S:U8}(hS:Zm st F sp Tn S){i:Nat}(hi:i<S.length): ∃v st',Jh 177 [.ptr sp 0 0,iN i] st v st'∧v=.bool true∧Qt st st':=by
 refine JA Tryz.func177 Tryz.ntmps177 fun T K=>?_;have M:=Mem.start hf;refine Qb 3 K M fun _ K=>?_;refine Uj K rfl (fun _ e7 K=>?_) fun _ e7 K=>?_
 ·exfalso;omega
 refine Qb 2 K M fun _ K=>?_;obtain⟨v10,st10,ev10,rfl,q10⟩:=TX M.fresh (hS.q M.qt);refine pg K rfl rfl (Qg rfl ev10) fun _ K=>?_;replace M:=M.quiet q10;refine Qb 3 K M ?_;exact⟨congrArg AV.bool (decide_eq_true Qc),M.qt⟩

theorem jR{st:St}(hf:Qi st){F:Fp}{sp:Nat}{S:U8}(hS:Zm st F sp Tn S)(h6:Tn≤6)(wf:Xk Tn S){i:Nat}(hi:i<S.length){cl:List Int}(hkt:Jj st.h.get [] 1 (zC cl) kt)(hoff: ∀c m o n y,kt=.sl c m o n y→ ¬F c)(hcl: ∀z∈cl,0≤z∧z≤1099511627776)(hval: ∀c,0≤Y5 S i c∧Y5 S i c<((cl.length:Nat):Int))(hlen:S.length+(2^(Tn+1)-1)≤1000000000): ∃v st',Jh 171 [.ptr sp 0 0,iN i,kt] st v st'∧ ∃r S',v=iN r∧XU st st' F sp Tn S'∧Wg Tn S (2^(Tn+1)-1) S' r∧ ∀c,Y5 S' r c=cv cl (Y5 S i c).toNat:=by
 have B:=Qk.UN (o:=X9 F sp Tn S) hf hS.at_ hS.hi;have hkc:=hkt.cell
 have hbn:(cl.length:Int)≤9223372036854775807:=by have:=hkt.Wv;rw[Qq]at this;exact this
 refine JA Tryz.func171 Tryz.ntmps171 fun T K=>?_;have M:=B.mem;refine au 1 K M ?_;intro c3 _ _ K _ M;refine Ju K M rfl (Ol hkt.cell) Q9 fun c5 _ _ K M=>?_;replace M:=Mem.cast (M':=[(c5,0,[kt]),(c3,0,[.ptr sp 0 0])]) M (congrArg (fun q=>(c5,0,q)::[(c3,0,[.ptr sp 0 0])]) (Vv (hkt.cell)));refine Qb 3 K M fun _ K=>?_;refine oQ K M (xA M.fresh ((B.step M).Kq (k:=0) rfl) hi) rfl rfl fun _ _ K M=>?_;refine Qb 2 K M fun _ K=>?_;refine p1 K (X1 rfl rfl) fun _ K=>?_;refine Qb 3 K M fun _ K=>?_;replace B:=B.step M;refine W3 Xo K B rfl fun c16 _ _ K B=>?_;have M:=B.mem;refine au 6 K M ?_;intro c18 _ _ K _ M;replace B:=Qk.DO ((B.step M).G0 (.swap ..));have hlvi:=BW wf i;have hpw:2^(Tn-lvl Tn S i+1)≤2^(Tn+1):=Nat.pow_le_pow_right Q9 Qc;obtain⟨v22,st22,ev22,r1,S1,L1,rfl,hout1,mb1,mo1,hinv1,_⟩:=M5 (xm:=c18) (cm:=c16) (c5:=c5) (c3:=c3) (kt:=kt) h6 hcl i _ B.fresh _ _ _ (B.at_ (k:=0) rfl) (B.Y4 (k:=0) rfl) wf hi hval (fun a b v hm=>by cases hm) (fun h' e=>⟨B.Rm 0 rfl 0 rfl e,B.Rm 1 rfl 0 rfl e,B.Rm 2 rfl 0 rfl e,B.aU hf hkt hoff 0 rfl e⟩) Qc;refine p1 K (Qg rfl ev22) fun _ K=>?_;obtain⟨F1,B⟩:=B.yU hout1;have M:=B.mem;refine Qb 1 K M ?_
 have hev: ∀c,Y5 S1 r1 c=cv cl (Y5 S i c).toNat:=fun c=>by rw[mo1.ev,Zq wf mb1.pre hi]
 exact⟨r1,S1,rfl,(B.step M).LR.Nq,mb1.more Qc,hev⟩
end Go.Proofs.YtiknomepbklibaaGreatDoor
