/-
  A function by a table (chapter 17).
-/
import Derived.Test.YtildagdnomiahaaGreatDoorQkTyk
namespace Go.Proofs.YtildagdnomiahaaGreatDoor
open Go Go.RowKit
set_option maxHeartbeats 8000000
set_option linter.unusedVariables false
set_option linter.unusedSimpArgs false
set_option linter.unnecessarySimpa false
set_option linter.unusedSectionVars false
set_option maxRecDepth 100000
variable {Tn c3 c5 xm:Nat} {kt:AV}

structure ZY(T:Nat)(S:JW)(cl:List Int)(i r:Nat):Prop where
 lt:r<S.length
 lv:lvl T S i≤lvl T S r
 ev: ∀c,UH S r c=cv cl (UH S i c).toNat
section
variable {T:Nat} {S S':JW} {cl:List Int} {L:List ((Nat×Nat)×AV)} {i r:Nat}
theorem ZY.pre(H:ZY T S cl i r)(W:Zy T S)(h:S<+:S')(hi:i<S.length):ZY T S' cl i r:=
 ⟨Nat.lt_of_lt_of_le H.lt h.length_le,by rw[Xo h hi,Xo h H.lt];exact H.lv,fun c=>by rw[Y1 W h H.lt,Y1 W h hi];exact H.ev c⟩
def Vu(T:Nat)(S:JW)(cl:List Int)(L:List ((Nat×Nat)×AV)):Prop:= ∀a b v,((a,b),v)∈L→a=b∧a<S.length∧ ∃r:Nat,v=.int .i64 (r:Nat)∧ZY T S cl a r
theorem Vu.pre(H:Vu T S cl L)(W:Zy T S)(h:S<+:S'):Vu T S' cl L:=fun a b v hm=>by
 obtain⟨h1,h2,r,h3,h4⟩:=H a b v hm;exact⟨h1,Nat.lt_of_lt_of_le h2 h.length_le,r,h3,h4.pre W h h2⟩
theorem Vu.put(H:Vu T S cl L)(hi:i<S.length)(h:ZY T S cl i r):Vu T S cl (L++[((i,i),.int .i64 (r:Nat))]):=fun a b v hm=>by
 rcases List.mem_append.1 hm with hm|hm
 ·exact H a b v hm
 ·have e:=List.mem_singleton.1 hm
  injection e with e1 e2
  injection e1 with e1 e3
  subst e1 e3;exact⟨rfl,hi,r,e2,h⟩
theorem Vu.found(H:Vu T S cl L){v:AV}(h:U1 L (i,i)=some v): ∃r:Nat,v=.int .i64 (r:Nat)∧ZY T S cl i r:=(H _ _ _ (IL h)).2.2
theorem ZY.leaf(W:Zy T S){v x:Int}(hi:S[i]? =some (.leaf v))(hx:x=cv cl v.toNat)(hr:r<S'.length)(h:S<+:S')(hl:lvl T S' r=T)(he: ∀c,UH S' r c=x):ZY T S' cl i r:=by
 have hlt:=(List.getElem?_eq_some_iff.1 hi).1;refine⟨hr,?_,fun c=>?_⟩
 ·rw[hl,Xo h hlt];exact G9 W i
 ·rw[he,Y1 W h hlt,Vb hi,hx]
theorem ZY.fork(W:Zy T S){t l k rl rk:Nat}(hi:S[i]? =some (.fork t l k))(h:S<+:S')(hr:r<S'.length)(h1:ZY T S' cl l rl)(h2:ZY T S' cl k rk)(hl:t≤lvl T S' r)(he: ∀c,UH S' r c=if c.testBit t then UH S' rk c else UH S' rl c):ZY T S' cl i r:=by
 have hlt:=(List.getElem?_eq_some_iff.1 hi).1;obtain⟨a1,a2,a3,a4,_⟩:=W.fork _ _ _ _ hi;refine⟨hr,?_,fun c=>?_⟩
 ·rw[Xo h hlt];refine Nat.le_trans ?_ hl;unfold lvl;rw[hi];exact Nat.le_refl _
 ·rw[he,Y1 W h hlt,Vc W hi,h1.ev,h2.ev,Y1 W h (Nat.lt_trans a3 hlt),Y1 W h (Nat.lt_trans a4 hlt)]
  split<;>rfl
end
def iQ(st:St)(X:Fp)(Q:Hp→Prop):Prop:= ∀h':Hp,(∀c,c<st.n→ ¬X c→h' c=st.h.get c)→Q h'
theorem iQ.step{st st':St}{X X':Fp}{Q:Hp→Prop}(h:iQ st X Q)(C:YR X st st')(m:Es st st' X X'):iQ st' X' Q:=fun h' e=>h h' fun c hc hx=>by
 rw[e c (Nat.lt_of_lt_of_le hc C.le) fun hx'=>by
  rcases(m c hx').1 with h1|h1
  ·exact hx h1
  ·omega]
 exact C.Jx c hc hx
structure MC(h:Hp)(F:Fp)(sp cm T:Nat)(S:JW)(L:List ((Nat×Nat)×AV)):Prop where
 HQ:Er h F sp T S
 map:(Vn cm Zw L).H h
 d: ¬F cm
def wM(F:Fp)(cm:Nat):Fp:=fun c=>F c∨c=cm
def vI(F:Fp)(sp cm T:Nat)(S:JW)(L:List ((Nat×Nat)×AV)):Ob:=⟨wM F cm,fun h=>MC h F sp cm T S L,fun h h' e H=>⟨H.HQ.frame fun c hc=>e c (.inl hc),(Vn cm Zw L).fr _ _ (fun c hc=>e c (.inr hc)) H.map,H.d⟩⟩
def yN(st st':St)(F:Fp)(sp cm T:Nat)(S':JW)(L':List ((Nat×Nat)×AV)):Prop:= ∃F',MC st'.h.get F' sp cm T S' L'∧Es st st' (wM F cm) (wM F' cm)∧YR (wM F cm) st st'
section
variable {st0 st st':St} {X0 F:Fp} {M:QK} {Os:List Ob} {sp cm T:Nat} {S S':JW} {L L':List ((Nat×Nat)×AV)}
theorem Ql.split{o o1 o2:Ob}(B:Ql st0 X0 st M (o::Os))(h1:o1.H st.h.get)(h2:o2.H st.h.get)(hF1: ∀c,o1.F c→o.F c)(hF2: ∀c,o2.F c→o.F c)(hd: ∀c,o1.F c→ ¬o2.F c):Ql st0 X0 st M (o1::o2::Os):=by
 have hp:=List.pairwise_cons.1 B.dj;refine⟨B.fresh,B.le,B.row,B.nodup,B.lo,fun p hp'=>?_,fun p hp' c hc=>?_,List.pairwise_cons.2 ⟨fun p hp' c k1 k2=>?_,List.pairwise_cons.2 ⟨fun p hp' c k1 k2=>hp.1 p hp' c (hF2 c k1) k2,hp.2⟩⟩,fun p hp' c m l hm hc=>?_,B.Jx⟩
 ·rcases List.mem_cons.1 hp' with rfl|hp'
  ·exact h1
  rcases List.mem_cons.1 hp' with rfl|hp'
  ·exact h2
  ·exact B.obj p (List.mem_cons_of_mem _ hp')
 ·rcases List.mem_cons.1 hp' with rfl|hp'
  ·exact B.hi o (List.mem_cons_self ..) c (hF1 c hc)
  rcases List.mem_cons.1 hp' with rfl|hp'
  ·exact B.hi o (List.mem_cons_self ..) c (hF2 c hc)
  ·exact B.hi p (List.mem_cons_of_mem _ hp') c hc
 ·rcases List.mem_cons.1 hp' with rfl|hp'
  ·exact hd c k1 k2
  ·exact hp.1 p hp' c (hF1 c k1) k2
 ·rcases List.mem_cons.1 hp' with rfl|hp'
  ·exact B.djM o (List.mem_cons_self ..) c m l hm (hF1 c hc)
  rcases List.mem_cons.1 hp' with rfl|hp'
  ·exact B.djM o (List.mem_cons_self ..) c m l hm (hF2 c hc)
  ·exact B.djM p (List.mem_cons_of_mem _ hp') c m l hm hc
theorem Ql.Pf{o:Ob}(B:Ql st0 X0 st M Os){c m:Nat}{l:List AV}(k:Nat)(hk:M[k]? =some (c,m,l))(j:Nat)(hj:Os[j]? =some o){h':Hp}(e: ∀c,c<st.n→ ¬o.F c→h' c=st.h.get c):Qu h' c m l:=by
 have hm:=List.mem_of_getElem? hk;have hr:=B.row c m l hm;exact hr.frame (e c (hr.lt B.fresh) (B.djM o (List.mem_of_getElem? hj) c m l hm))
theorem Ql.fC{o:Ob}(B:Ql st0 X0 st M Os)(hf:Qh st0){z:Nat}{ls:List (List AV)}{ks:AV}(r:Jb st0.h.get [] z ls ks)(hX: ∀c m o n y,ks=.sl c m o n y→ ¬X0 c)(j:Nat)(hj:Os[j]? =some o){h':Hp}(e: ∀c,c<st.n→ ¬o.F c→h' c=st.h.get c):Jb h' [] z ls ks:=
 (B.rd hf r hX).frame fun c m p n y e2=>e c (by obtain⟨_,cells,k2,_⟩:=(B.rd hf r hX).alive c m p n y e2;exact k2.lt B.fresh) (B.off hj hf r hX c m p n y e2)
theorem Ql.Ku(B:Ql st0 X0 st M (vI F sp cm T S L::Os)):Ql st0 X0 st M (ZL F sp T S::Vn cm Zw L::Os):=by
 have H:MC st.h.get F sp cm T S L:=B.at_ (k:=0) rfl;exact B.split H.HQ H.map (fun c hc=>.inl hc) (fun c hc=>.inr hc) fun c h1 h2=>H.d ((show c=cm from h2)▸h1)
theorem Ql.CA(B:Ql st0 X0 st M (ZL F sp T S::Vn cm Zw L::Os)):Ql st0 X0 st M (vI F sp cm T S L::Os):=
 B.join (fun h1 h2=>⟨h1,h2,fun h=>(List.pairwise_cons.1 B.dj).1 (Vn cm Zw L) Q0 cm h rfl⟩) fun c hc=>hc
theorem Ql.wU{F':Fp}(B:Ql st0 (wM F cm) st M (vI F' sp cm T S' L'::Os)):yN st0 st F sp cm T S' L':=
 ⟨F',B.at_ (k:=0) rfl,fun c hc=>⟨(B.P2 (k:=0) rfl c hc).symm,B.Vx (k:=0) rfl c hc⟩,B.U9⟩
theorem Ql.yh(B:Ql st0 X0 st M (vI F sp cm T S L::Os))(h:yN st st' F sp cm T S' L'): ∃F',Ql st0 X0 st' M (vI F' sp cm T S' L'::Os):=by
 obtain⟨F',h1,h2,h3⟩:=h;exact⟨F',B.call (k:=0) rfl h3 (o':=vI F' sp cm T S' L') h1 h2⟩
theorem Ql.fE(B:Ql st0 X0 st M (vI F sp cm T S L::Os)):Y6 st F sp T S:=⟨MC.HQ (B.at_ (k:=0) rfl),fun c hc=>B.Vx (k:=0) rfl c (.inl hc)⟩
end
structure kS(xm sp cm c5 c3:Nat)(kt:AV)(cl:List Int)(h:Hp):Prop where
 row:Qu h xm 0 [.ptr sp 0 0,.fn 307 [] [.ptr c5 0 0,.ptr c3 0 0],.mp cm]
 r5:Qu h c5 0 [kt]
 r3:Qu h c3 0 [.ptr sp 0 0]
 kt:Jb h [] 1 (zC cl) kt
theorem GI(f c d:Nat):FY (.fn f [] [.ptr c 0 0,.ptr d 0 0]) (.fn f [] [.ptr c 0 0,.ptr d 0 0])=true:=by
 have h: ∀n:Nat,Nat.beq n n=true:=fun n=>by simp
 show Qj (Nat.beq f f) (Qj (Ef [] []) (Ef [.ptr c 0 0,.ptr d 0 0] [.ptr c 0 0,.ptr d 0 0]) false) false=true;rw[h,Qs,show Ef [] []=true from rfl,Qs];show Qj (PN (.ptr c 0 0) (.ptr c 0 0)) (Qj (PN (.ptr d 0 0) (.ptr d 0 0)) true false) false=true;show Qj (Qj (Nat.beq c c) true false) (Qj (Qj (Nat.beq d d) true false) true false) false=true;rw[h,h];rfl
def fu(n:Bn):Int:=if FQ n then Dx n else-1
theorem AF{st:St}(hf:Qh st){F:Fp}{sp:Nat}{S:JW}(hS:Y6 st F sp Tn S){i:Nat}(hi:i<S.length){n:Bn}(hn:S[i]? =some n): ∃v st',QP 341 [.ptr sp 0 0,.int .i64 (i:Nat)] st v st'∧v=.int .i64 (fu n)∧Qt st st':=by
 obtain⟨v,st',h1,⟨m,h2,h3⟩,h4⟩:=My hf hS hi;rw[hn]at h2
 injection h2 with h2
 subst h2;exact⟨v,st',h1,h3,h4⟩
theorem Cw{α:Type}{L:List (α×AV)}{a b:α}{v:AV}(hne:b≠a)(h:U1 L a=none):U1 (L++[(b,v)]) a=none:=by
 induction L with
 |nil=>simp[U1,hne]
 |cons x L ih=>
  rw[List.cons_append];rw[U1]at h ⊢
  split at h
  ·cases h
  ·rename_i hx;rw[if_neg hx];exact ih h

theorem Cd{st:St}(hf:Qh st){F:Fp}{sp:Nat}{S:JW}(hS:Y6 st F sp Tn S){cm:Nat}(hx:Qu st.h.get xm 0 [.ptr sp 0 0,.fn 307 [] [.ptr c5 0 0,.ptr c3 0 0],.mp cm])(h6:Tn≤6)(wf:Zy Tn S){i:Nat}(hi:i<S.length): ∃v st',QP 327 [.ptr xm 0 0,iN i] st v st'∧v=iZ (UH S i 0)∧Qt st st':=by
 refine Jy Tryz.func327 Tryz.ntmps327 fun T K=>?_;have M:=Mem.start hf;refine Qa 4 K M fun _ K=>?_;refine p1 K (Qi rfl (Qq (M.QX Q0 hx.QH) (Qb Je rfl))) fun _ K=>?_;refine Qa 1 K M fun _ K=>?_;refine oQ K M (yx M.fresh (hS.q M.qt) h6 wf hi (c:=0) (Nat.two_pow_pos _)) rfl rfl fun _ _ K M=>?_;refine Qa 1 K M ?_;exact⟨rfl,M.qt⟩

theorem KF{st:St}(hf:Qh st){F:Fp}{sp:Nat}{S:JW}(hS:Y6 st F sp Tn S){cm:Nat}(hx:Qu st.h.get xm 0 [.ptr sp 0 0,.fn 307 [] [.ptr c5 0 0,.ptr c3 0 0],.mp cm]){i:Nat}(hi:i<S.length){t l h:Nat}(hn:S[i]? =some (.fork t l h)): ∃v st',QP 328 [.ptr xm 0 0,iN i,iN t] st v st'∧v=.tup [iN l,iN h]∧Qt st st':=by
 have htk:fu (.fork t l h)=((t:Nat):Int):=rfl;refine Jy Tryz.func328 Tryz.ntmps328 fun T K=>?_;have M:=Mem.start hf;refine Qa 5 K M fun _ K=>?_;refine p1 K (Qi rfl (Qq (M.QX Q0 hx.QH) (Qb Je rfl))) fun _ K=>?_;refine Qa 1 K M fun _ K=>?_;refine oQ K M (AF M.fresh (hS.q M.qt) hi hn) rfl rfl fun _ _ K M=>?_;refine Qa 2 K M fun _ K=>?_;refine UA K rfl (fun h15=>?_) fun h15=>?_
 ·refine Qa 3 K M fun _ K=>?_;refine p1 K (Qi rfl (Qq (M.QX Q0 hx.QH) (Qb Je rfl))) fun _ K=>?_;refine Qa 1 K M fun _ K=>?_;refine oQ K M (yv M.fresh (hS.q M.qt) hi hn) rfl rfl fun _ _ K M=>?_;refine Qa 4 K M ?_;exact⟨rfl,M.qt⟩
 exfalso;omega

theorem qI{st:St}(hf:Qh st){F:Fp}{sp:Nat}{S:JW}(hS:Y6 st F sp Tn S){cm:Nat}(hx:Qu st.h.get xm 0 [.ptr sp 0 0,.fn 307 [] [.ptr c5 0 0,.ptr c3 0 0],.mp cm]){i:Nat}(hi:i<S.length){n:Bn}(hn:S[i]? =some n): ∃v st',QP 326 [.ptr xm 0 0,iN i,iN i] st v st'∧v=iZ (fu n)∧Qt st st':=by
 refine Jy Tryz.func326 Tryz.ntmps326 fun T K=>?_;have M:=Mem.start hf;refine Qa 1 K M fun _ K=>?_;refine QU (l:=[(0,0),(1,0),(2,0),(3,0),(4,0),(5,0),(6,0),(7,0),(8,0),(9,1),(10,0),(11,0),(12,0),(13,0)]) (by kernel_rfl) ?_;have Mq:=M;refine Yq 3 K M fun _ K=>?_;refine q1 rfl K (Qi rfl (Qq (M.QX Q0 hx.QH) (Qb Je rfl))) fun _ K=>q1 rfl K (Q8 rfl) fun _ K=>?_;obtain⟨v14,st14,ev14,rfl,q14⟩:=AF M.fresh (hS.q M.qt) hi hn;refine qA rfl K (Qg rfl ev14) fun _ K=>?_;replace M:=M.quiet q14;have Mp:=Mq;have Mq:=M;refine Yq 3 K M fun _ K=>?_;refine JL rfl K rfl (Qq (M.QX Q0 hx.QH) (Qb Je rfl)) (Qq (Mp.QX Q0 hx.QH) (Qb Je rfl)) (Ub rfl) rfl QA fun _ K=>?_;refine q1 rfl K (Q8 rfl) fun _ K=>?_;obtain⟨v20,st20,ev20,rfl,q20⟩:=AF M.fresh (hS.q M.qt) hi hn;refine qA rfl K (Qg rfl ev20) fun _ K=>?_;replace M:=M.quiet q20;have Mp:=Mq;have Mq:=M;refine Yq 2 K M fun _ K=>?_;refine Ji ?_;show W _ _ _ _ _ _ _;refine Qa 2 K M fun _ K=>?_;refine Uz K rfl (fun _ e23 K=>?_) fun _ e23 K=>?_
 ·refine Qa 2 K M fun _ K=>?_;refine xe K rfl rfl (Q8 rfl) rfl (fun _ e26 K=>?_) fun _ e26 K=>?_
  ·refine Qa 8 K M ?_;exact⟨rfl,M.qt⟩
  refine Qa 5 K M fun _ K=>?_;refine UA K rfl (fun h31=>?_) fun h31=>?_
  ·refine Qa 2 K M ?_;exact⟨rfl,M.qt⟩
  refine Qa 2 K M ?_;exact⟨rfl,M.qt⟩
 refine Qa 11 K M ?_;exact⟨rfl,M.qt⟩

theorem Tm{st:St}(hf:Qh st){F:Fp}{sp:Nat}{S:JW}(hS:Y6 st F sp Tn S){cl:List Int}(h5:Qu st.h.get c5 0 [kt])(h3:Qu st.h.get c3 0 [.ptr sp 0 0])(hkt:Jb st.h.get [] 1 (zC cl) kt)(hcl: ∀z∈cl,0≤z∧z≤1099511627776)(wf:Zy Tn S)(hlen:S.length<1000000000){u u2:Int}(hx0:0≤u)(hx1:u<((cl.length:Nat):Int)): ∃v st',QP 307 [iZ u,iZ u2,.ptr c5 0 0,.ptr c3 0 0] st v st'∧ ∃i S',v=iN i∧Xc st st' F sp Tn S'∧Vj Tn S 1 S' i∧lvl Tn S' i=Tn∧ ∀c,UH S' i c=cv cl u.toNat:=by
 have B:=Ql.UU (o:=ZL F sp Tn S) hf hS.at_ hS.hi;have hkc:=hkt.cell
 have hbn:(cl.length:Int)≤9223372036854775807:=by have:=hkt.FP;rw[Qz]at this;exact this
 refine Jy Tryz.func307 Tryz.ntmps307 fun T K=>?_;have M:=B.mem;refine Qa 2 K M fun _ K=>?_;refine p1 K (Qi rfl (Qq (M.QX Q0 h5.QH) (Qb Jd rfl))) fun _ K=>p1 K (Q7 Jr rfl rfl (hkt.len.trans (congrArg some (Qz _)))) fun _ K=>?_;refine Qa 1 K M fun _ K=>?_;refine UA K rfl (fun h10=>?_) fun h10=>?_
 ·exfalso;omega
 refine Qa 0 K M fun _ K=>?_;refine QU (l:=[(0,0),(1,0),(2,0),(3,0),(4,0),(5,0),(6,0)]) (by kernel_rfl) ?_;refine q1 rfl K (Qi rfl (Qq (M.QX Q0 h3.QH) (Qb Je rfl))) fun _ K=>q1 rfl K (Qi rfl (Qq (M.QX Q0 h5.QH) (Qb Jd rfl))) fun _ K=>q1 rfl K (Q8 rfl) fun _ K=>?_;obtain⟨y14,hi14⟩:=YY cl ((u).toNat) Qe;obtain⟨x14,m14,f14,q14,_,la14,lo14,lp14⟩:=(Jb.mem M hkt Q0).load (i:=(u).toNat) (cs:=_) (JB hi14);refine q1 rfl K (Qv (j:=(u).toNat) QF (congrArg some q14) (congrArg (fun z=>some (iZ z)) (by omega:_=(((u).toNat:Nat):Int))) (by rw[Qz];omega)) fun _ K=>q1 rfl K (Qi rfl (lo14 _ 0 _ Qr rfl)) fun _ K=>?_;replace B:=B.step M;have hcv:=hcl y14 (List.mem_of_getElem? hi14);obtain⟨v16,st16,ev16,i1,S1,rfl,hout,mb,hlv,hev⟩:=D1 B.fresh (B.HQ (k:=0) rfl) wf hlen hcv.1 hcv.2;refine qA rfl K (Qg rfl ev16) fun _ K=>?_;obtain⟨F',B⟩:=B.Vd hout;have M:=B.mem;refine q1 rfl K (Ys rfl) fun _ K=>Ji ?_;show W _ _ _ _ _ _ _;refine Qa 0 K M ?_
 have he:cv cl u.toNat=y14:=by unfold cv;rw[hi14];rfl
 exact⟨i1,S1,rfl,(B.step M).KJ,mb,hlv,fun c=>by rw[he];exact hev c⟩

theorem Tl{sp cm:Nat}{cl:List Int}(h6:Tn≤6)(hcl: ∀z∈cl,0≤z∧z≤1099511627776)(i:Nat): ∀(st:St),Qh st→ ∀(F:Fp) (S:JW) (L:List ((Nat×Nat)×AV)),MC st.h.get F sp cm Tn S L→(∀c,wM F cm c→c<st.n)→Zy Tn S→i<S.length→(∀c,0≤UH S i c∧UH S i c<((cl.length:Nat):Int))→Vu Tn S cl L→iQ st (wM F cm) (kS xm sp cm c5 c3 kt cl)→S.length+(2^(Tn-lvl Tn S i+1)-1)≤1000000000→ ∃v st',QP 308 [.ptr xm 0 0,iN i,iN i] st v st'∧ ∃r S' L',v=iN r∧yN st st' F sp cm Tn S' L'∧Vj Tn S (2^(Tn-lvl Tn S i+1)-1) S' r∧ZY Tn S' cl i r∧Vu Tn S' cl L'∧(∀j,i<j→U1 L (j,j)=none→U1 L' (j,j)=none):=by
 induction i using Nat.strongRecOn with|_ i ih=>?_
 intro st hf F S L hP hhi wf hi hval hinv hRo hlen;obtain⟨n,hn⟩: ∃n,S[i]? =some n:=⟨_,List.getElem?_eq_getElem hi⟩;have hq9:2^1≤2^(Tn-lvl Tn S i+1):=Nat.pow_le_pow_right QA Qe;have B:=Ql.UU (o:=vI F sp cm Tn S L) hf hP hhi;refine Jy Tryz.func308 Tryz.ntmps308 fun T K=>?_;have M:=B.mem;refine Qa 4 K M fun _ K=>?_;refine p1 K (Qi rfl (Qq (hRo _ (B.step M).Jx).row.QH (Qb YA rfl))) fun _ K=>?_;refine Qa 2 K M fun _ K=>?_;refine p1 K (YW E0 Hc Zn YU rfl rfl) fun _ K=>p1 K (VD (a:=(i,i)) VK (MC.map ((B.step M).at_ (k:=0) rfl)) rfl rfl) fun _ K=>?_;refine Qa 6 K M fun _ K=>?_;refine Ze K rfl (fun h27=>?_) fun h27=>?_
 ·have hb27:=h27;refine Qa 2 K M ?_
  obtain⟨v0,hv0⟩: ∃x,U1 L (i,i)=some x:=by cases hq:U1 L (i,i)with|none=>rw[hq]at h27;cases h27|some x=>exact⟨x,rfl⟩
  obtain⟨r,rfl,hmo⟩:=hinv.found hv0;exact⟨r,S,L,by rw[hv0];rfl,(B.step M).wU,⟨wf,List.prefix_refl _,hmo.lt,by omega⟩,hmo,hinv,fun j _ h=>h⟩
 have hb27:=h27;refine Qa 0 K M fun _ K=>?_
 have hnone:U1 L (i,i)=none:=by cases hq:U1 L (i,i)with|none=>rfl|some x=>rw[hq]at h27;cases h27
 refine Qa 3 K M fun _ K=>?_;refine oQ K M (qI M.fresh (B.step M).fE (hRo _ (B.step M).Jx).row hi hn) rfl rfl fun _ _ K M=>?_;refine Qa 3 K M fun _ K=>?_;refine UA K rfl (fun h34=>?_) fun h34=>?_
 ·obtain⟨x0,rfl⟩: ∃x,n=.leaf x:=by cases n with|leaf x=>exact⟨x,rfl⟩|fork t l h=>exact absurd h34 (by simp only[fu,FQ,Dx,if_true];omega)
  refine QU (l:=[(4,0),(5,0),(6,0),(7,0),(8,0),(9,0),(0,0),(1,0),(2,0),(3,2),(10,0),(11,0)]) (by kernel_rfl) ?_;have Mq:=M;have Mz0:=M;have Bz0:=B;refine Yq 2 K M fun _ K=>?_;obtain⟨v41,st41,ev41,rfl,q41⟩:=Cd M.fresh (B.step M).fE (hRo _ (B.step M).Jx).row h6 wf hi;refine qA rfl K (Qg rfl ev41) fun _ K=>?_;replace M:=M.quiet q41;have Mp:=Mq;have Mq:=M;have Mz1:=M;have Bz1:=B;refine Yq 2 K M fun _ K=>?_;obtain⟨v44,st44,ev44,rfl,q44⟩:=Cd M.fresh (B.step M).fE (hRo _ (B.step M).Jx).row h6 wf hi;refine qA rfl K (Qg rfl ev44) fun _ K=>?_;replace M:=M.quiet q44;have Mp:=Mq;have Mq:=M;have Mz2:=M;have Bz2:=B;refine Yq 3 K M fun _ K=>?_
  refine V1 rfl K rfl (Qq (hRo _ (B.step M).Jx).row.QH (Qb UT rfl)) Q0 (by intro s hs;simp only[List.take_succ_cons,List.take_zero,List.mem_cons,List.not_mem_nil,or_false]at hs;rcases hs with rfl|rfl<;>first|exact(Qq (hRo _ (Bz1.step Mz1).Jx).row.QH (Qb UT rfl))|exact(Qq (hRo _ (Bz0.step Mz0).Jx).row.QH (Qb UT rfl))) (GI _ _ _) rfl QA fun _ K=>?_
  replace B:=(B.step M).Ku;have hro:=hRo _ B.Jx;have hv0:=hval 0;obtain⟨v45,st45,ev45,i1,S1,rfl,hout,mb,hlv,hev⟩:=Tm B.fresh (B.HQ (k:=0) rfl) hro.r5 hro.r3 hro.kt hcl wf Qe (u:=UH S i 0) (u2:=UH S i 0) hv0.1 hv0.2;refine qA rfl K (Zj rfl rfl ev45) fun _ K=>?_;obtain⟨F',B⟩:=B.Vd hout;replace B:=B.CA;have M:=B.mem;have hmo:ZY Tn S1 cl i i1:=ZY.leaf wf hn (show _=cv cl x0.toNat by rw[Vb hn]) mb.lt mb.pre hlv hev;have Mp:=Mq;have Mq:=M;have Mz3:=M;have Bz3:=B;refine q1 rfl K (Ys rfl) fun _ K=>Ji ?_;show W _ _ _ _ _ _ _;refine Qa 3 K M fun _ K=>?_;refine p1 K (Qi rfl (Qq (hRo _ (B.step M).Jx).row.QH (Qb YA rfl))) fun _ K=>?_;refine Qa 2 K M fun _ K=>?_;refine p1 K (YW E0 Hc Zn YU rfl rfl) fun _ K=>?_;refine Qa 1 K M fun _ K=>?_;have hnn:U1 L (i,i)=none:=hnone;replace B:=(B.step M).Ku;refine AT (j:=1) (a:=(i,i)) K B rfl VK rfl rfl rfl rfl hnn fun _ B=>?_;replace B:=Ql.CA (L:=L++[((i,i),iN i1)]) B;have M:=B.mem;refine Qa 2 K M ?_;have h1l:=mb.len
  have hq4:1≤2^(Tn-lvl Tn S i+1)-1:=by have:2^1≤2^(Tn-lvl Tn S i+1):=Nat.pow_le_pow_right QA Qe;omega
  have hil:=Nat.lt_of_lt_of_le hi mb.pre.length_le;exact⟨i1,S1,_,rfl,(B.step M).wU,⟨mb.wf,mb.pre,mb.lt,by omega⟩,hmo,(hinv.pre wf mb.pre).put hil hmo,fun j hj h=>Cw (fun e=>by have:=congrArg Prod.fst e;simp at this;omega) (h)⟩
 refine ZG ?_
 obtain⟨t,l,h,rfl⟩: ∃t l h,n=.fork t l h:=by cases n with|leaf x=>exact absurd (show fu (.leaf x)<0 by show(-1:Int)<0;decide) h34|fork t l h=>exact⟨t,l,h,rfl⟩
 obtain⟨a1,a2,a3,a4,a5,a6⟩:=wf.fork _ _ _ _ hn
 have hlt:lvl Tn S i=t:=by unfold lvl;rw[hn]
 have hp1:2^(Tn-lvl Tn S l+1)≤2^(Tn-t):=Nat.pow_le_pow_right QA (by have:=G9 wf l;omega);have hp2:2^(Tn-lvl Tn S h+1)≤2^(Tn-t):=Nat.pow_le_pow_right QA (by have:=G9 wf h;omega)
 have hp3:2^(Tn-t+1)=2 *2^(Tn-t):=by rw[Nat.pow_succ,Nat.mul_comm]
 have hp4:1≤2^(Tn-t):=Nat.one_le_two_pow;rw[hlt,hp3]at hlen
 have hvl: ∀c,0≤UH S l c∧UH S l c<((cl.length:Nat):Int):=fun c=>by rw[←F6 wf hn c];exact hval _
 have hvh: ∀c,0≤UH S h c∧UH S h c<((cl.length:Nat):Int):=fun c=>by rw[←EA wf hn c];exact hval _
 refine Qa 3 K M fun _ K=>?_;refine oQ K M (KF M.fresh (B.step M).fE (hRo _ (B.step M).Jx).row hi hn) rfl rfl fun _ _ K M=>?_;refine Qa 8 K M fun _ K=>?_;refine oQ K M (KF M.fresh (B.step M).fE (hRo _ (B.step M).Jx).row hi hn) rfl rfl fun _ _ K M=>?_;refine Qa 8 K M fun _ K=>?_;replace B:=B.step M;obtain⟨v63,st63,ev63,r1,S1,L1,rfl,hout1,mb1,mo1,hinv1,hnk1⟩:=ih l a3 _ B.fresh _ _ _ (B.at_ (k:=0) rfl) (B.Vx (k:=0) rfl) wf Qe hvl hinv (hRo.step B.U9 (fun c hc=>⟨(B.P2 (k:=0) rfl c hc).symm,B.Vx (k:=0) rfl c hc⟩)) Qe;refine p1 K (Qg rfl ev63) fun _ K=>?_;obtain⟨F1,B⟩:=B.yh hout1;have M:=B.mem;have hll:=mb1.len;have hpl:=mb1.pre.length_le;refine Qa 3 K M fun _ K=>?_;replace B:=B.step M;obtain⟨v67,st67,ev67,r2,S2,L2,rfl,hout2,mb2,mo2,hinv2,hnk2⟩:=ih h a4 _ B.fresh _ _ _ (B.at_ (k:=0) rfl) (B.Vx (k:=0) rfl) mb1.wf Qe (fun c=>by rw[Y1 wf mb1.pre Qe];exact hvh c) hinv1 (hRo.step B.U9 (fun c hc=>⟨(B.P2 (k:=0) rfl c hc).symm,B.Vx (k:=0) rfl c hc⟩)) (by rw[Xo mb1.pre Qe];omega);refine p1 K (Qg rfl ev67) fun _ K=>?_;obtain⟨F2,B⟩:=B.yh hout2;have M:=B.mem;rw[Xo mb1.pre Qe]at mb2;have hll2:=mb2.len;have hpl2:=mb2.pre.length_le;have mo1':=mo1.pre mb1.wf mb2.pre Qe
 have hlS2: ∀j,j<S.length→lvl Tn S2 j=lvl Tn S j:=fun j hj=>by rw[Xo mb2.pre Qe,Xo mb1.pre hj]
 have hk1:=mo1'.lv;have hk2:=mo2.lv;rw[hlS2 l Qe]at hk1;rw[hlS2 h Qe]at hk2;have hnone2:U1 L2 (i,i)=none:=hnk2 i Qe (hnk1 i Qe hnone);refine Qa 5 K M fun _ K=>?_;refine Uz K rfl (fun _ e70 K=>?_) fun _ e70 K=>?_
 ·exfalso;omega
 refine Qa 3 K M fun _ K=>?_;refine UA K rfl (fun h73=>?_) fun h73=>?_
 ·refine Qa 3 K M fun _ K=>?_;refine p1 K (Qi rfl (Qq (hRo _ (B.step M).Jx).row.QH (Qb Je rfl))) fun _ K=>?_;refine Qa 3 K M fun _ K=>?_;replace B:=(B.step M).Ku;obtain⟨v81,st81,ev81,r3,S3,rfl,hout3,mb3,hlv3,hev3⟩:=yu B.fresh (B.HQ (k:=0) rfl) mb2.wf Qe (t:=t) (l:=r1) (h:=r2) a6 mo1'.lt mo2.lt Qe Qe;refine p1 K (Qg rfl ev81) fun _ K=>?_;obtain⟨F3,B⟩:=B.Vd hout3;replace B:=B.CA;have M:=B.mem;have hp13:=(mb1.pre.trans mb2.pre).trans mb3.pre;have hmo:ZY Tn S3 cl i r3:=ZY.fork wf hn hp13 mb3.lt (mo1'.pre mb2.wf mb3.pre Qe) (mo2.pre mb2.wf mb3.pre Qe) hlv3 (fun c=>by rw[hev3,Y1 mb2.wf mb3.pre mo1'.lt,Y1 mb2.wf mb3.pre mo2.lt]);refine Qa 4 K M fun _ K=>?_;refine p1 K (Qi rfl (Qq (hRo _ (B.step M).Jx).row.QH (Qb YA rfl))) fun _ K=>?_;refine Qa 2 K M fun _ K=>?_;refine p1 K (YW E0 Hc Zn YU rfl rfl) fun _ K=>?_;refine Qa 1 K M fun _ K=>?_;have hnn:=hnone2;replace B:=(B.step M).Ku;refine AT (j:=1) (a:=(i,i)) K B rfl VK rfl rfl rfl rfl hnn fun _ B=>?_;replace B:=Ql.CA (L:=L2++[((i,i),iN r3)]) B;have M:=B.mem;refine Qa 2 K M ?_;have h3l:=mb3.len;have hil:=Nat.lt_of_lt_of_le hi hp13.length_le;exact⟨r3,S3,_,rfl,(B.step M).wU,⟨mb3.wf,hp13,mb3.lt,by rw[hlt,hp3];omega⟩,hmo,(hinv2.pre mb2.wf mb3.pre).put hil hmo,fun j hj h=>Cw (fun e=>by have:=congrArg Prod.fst e;simp at this;omega) (hnk2 j Qe (hnk1 j Qe h))⟩
 exfalso;omega

theorem zG{st:St}(hf:Qh st){F:Fp}{sp:Nat}{S:JW}(hS:Y6 st F sp Tn S){i:Nat}(hi:i<S.length): ∃v st',QP 306 [.ptr sp 0 0,iN i] st v st'∧v=.bool true∧Qt st st':=by
 refine Jy Tryz.func306 Tryz.ntmps306 fun T K=>?_;have M:=Mem.start hf;refine Qa 3 K M fun _ K=>?_;refine Uz K rfl (fun _ e7 K=>?_) fun _ e7 K=>?_
 ·exfalso;omega
 refine Qa 2 K M fun _ K=>?_;obtain⟨v10,st10,ev10,rfl,q10⟩:=S7 M.fresh (hS.q M.qt);refine pg K rfl rfl (Qg rfl ev10) fun _ K=>?_;replace M:=M.quiet q10;refine Qa 3 K M ?_;exact⟨congrArg AV.bool (decide_eq_true Qe),M.qt⟩

theorem qJ{st:St}(hf:Qh st){F:Fp}{sp:Nat}{S:JW}(hS:Y6 st F sp Tn S)(h6:Tn≤6)(wf:Zy Tn S){i:Nat}(hi:i<S.length){cl:List Int}(hkt:Jb st.h.get [] 1 (zC cl) kt)(hoff: ∀c m o n y,kt=.sl c m o n y→ ¬F c)(hcl: ∀z∈cl,0≤z∧z≤1099511627776)(hval: ∀c,0≤UH S i c∧UH S i c<((cl.length:Nat):Int))(hlen:S.length+(2^(Tn+1)-1)≤1000000000): ∃v st',QP 287 [.ptr sp 0 0,iN i,kt] st v st'∧ ∃r S',v=iN r∧Xc st st' F sp Tn S'∧Vj Tn S (2^(Tn+1)-1) S' r∧ ∀c,UH S' r c=cv cl (UH S i c).toNat:=by
 have B:=Ql.UU (o:=ZL F sp Tn S) hf hS.at_ hS.hi;have hkc:=hkt.cell
 have hbn:(cl.length:Int)≤9223372036854775807:=by have:=hkt.FP;rw[Qz]at this;exact this
 refine Jy Tryz.func287 Tryz.ntmps287 fun T K=>?_;have M:=B.mem;refine au 1 K M ?_;intro c3 _ _ K _ M;refine Uj K M rfl (LD hkt.cell) QA fun c5 _ _ K M=>?_;replace M:=Mem.cast (M':=[(c5,0,[kt]),(c3,0,[.ptr sp 0 0])]) M (congrArg (fun q=>(c5,0,q)::[(c3,0,[.ptr sp 0 0])]) (X1 (hkt.cell)));refine Qa 3 K M fun _ K=>?_;refine oQ K M (zG M.fresh ((B.step M).HQ (k:=0) rfl) hi) rfl rfl fun _ _ K M=>?_;refine Qa 2 K M fun _ K=>?_;refine p1 K (Yr rfl rfl) fun _ K=>?_;refine Qa 3 K M fun _ K=>?_;replace B:=B.step M;refine Vy Zw K B rfl fun c16 _ _ K B=>?_;have M:=B.mem;refine au 6 K M ?_;intro c18 _ _ K _ M;replace B:=Ql.CA ((B.step M).qP (.swap ..));have hlvi:=G9 wf i;have hpw:2^(Tn-lvl Tn S i+1)≤2^(Tn+1):=Nat.pow_le_pow_right QA Qe;obtain⟨v22,st22,ev22,r1,S1,L1,rfl,hout1,mb1,mo1,hinv1,_⟩:=Tl (xm:=c18) (cm:=c16) (c5:=c5) (c3:=c3) (kt:=kt) h6 hcl i _ B.fresh _ _ _ (B.at_ (k:=0) rfl) (B.Vx (k:=0) rfl) wf hi hval (fun a b v hm=>by cases hm) (fun h' e=>⟨B.Pf 0 rfl 0 rfl e,B.Pf 1 rfl 0 rfl e,B.Pf 2 rfl 0 rfl e,B.fC hf hkt hoff 0 rfl e⟩) Qe;refine p1 K (Qg rfl ev22) fun _ K=>?_;obtain⟨F1,B⟩:=B.yh hout1;have M:=B.mem;refine Qa 1 K M ?_
 have hev: ∀c,UH S1 r1 c=cv cl (UH S i c).toNat:=fun c=>by rw[mo1.ev,Y1 wf mb1.pre hi]
 exact⟨r1,S1,rfl,(B.step M).Ku.KJ,mb1.more Qe,hev⟩
end Go.Proofs.YtildagdnomiahaaGreatDoor
