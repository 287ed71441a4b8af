/-
  A function by a table (chapter 17).
-/
import Derived.Test.YtiknomepbklibaaGreatDoorQrEnt
set_option maxHeartbeats 8000000
set_option maxRecDepth 100000
set_option linter.unnecessarySimpa false
set_option linter.unusedSectionVars false
set_option linter.unusedSimpArgs false
set_option linter.unusedVariables false
section
namespace Go.Proofs.YtiknomepbklibaaGreatDoor
open Go Go.RowKit
variable {Tn c3 c5 xm:Nat} {kt:AV}

structure XK(T:Nat)(S:UG)(cl:List Int)(i r:Nat):Prop where
 lt:r<S.length
 lv:lvl T S i≤lvl T S r
 ev: ∀c,Y8 S r c=cv cl (Y8 S i c).toNat
section
variable {T:Nat} {S S':UG} {cl:List Int} {L:List ((Nat×Nat)×AV)} {i r:Nat}
theorem XK.pre(H:XK T S cl i r)(W:Xq T S)(h:S<+:S')(hi:i<S.length):XK T S' cl i r:=
 ⟨Nat.lt_of_lt_of_le H.lt h.length_le,by rw[Vg h hi,Vg h H.lt];exact H.lv,fun c=>by rw[Zr W h H.lt,Zr W h hi];exact H.ev c⟩
def Wn(T:Nat)(S:UG)(cl:List Int)(L:List ((Nat×Nat)×AV)):Prop:= ∀a b v,((a,b),v)∈L→a=b∧a<S.length∧ ∃r:Nat,v=.int .i64 (r:Nat)∧XK T S cl a r
theorem Wn.pre(H:Wn T S cl L)(W:Xq T S)(h:S<+:S'):Wn T S' cl L:=fun a b v hm=>by
 obtain⟨h1,h2,r,h3,h4⟩:=H a b v hm;exact⟨h1,Nat.lt_of_lt_of_le h2 h.length_le,r,h3,h4.pre W h h2⟩
theorem Wn.put(H:Wn T S cl L)(hi:i<S.length)(h:XK T S cl i r):Wn T S cl (L++[((i,i),.int .i64 (r:Nat))]):=fun a b v hm=>by
 rcases List.mem_append.1 hm with hm|hm
 ·exact H a b v hm
 ·have e:=List.mem_singleton.1 hm
  injection e with e1 e2
  injection e1 with e1 e3
  subst e1 e3;exact⟨rfl,hi,r,e2,h⟩
theorem Wn.found(H:Wn T S cl L){v:AV}(h:Yn L (i,i)=some v): ∃r:Nat,v=.int .i64 (r:Nat)∧XK T S cl i r:=(H _ _ _ (Le h)).2.2
theorem XK.leaf(W:Xq T S){v x:Int}(hi:S[i]? =some (.leaf v))(hx:x=cv cl v.toNat)(hr:r<S'.length)(h:S<+:S')(hl:lvl T S' r=T)(he: ∀c,Y8 S' r c=x):XK T S' cl i r:=by
 have hlt:=(List.getElem?_eq_some_iff.1 hi).1;refine⟨hr,?_,fun c=>?_⟩
 ·rw[hl,Vg h hlt];exact BE W i
 ·rw[he,Zr W h hlt,VP hi,hx]
theorem XK.fork(W:Xq T S){t l k rl rk:Nat}(hi:S[i]? =some (.fork t l k))(h:S<+:S')(hr:r<S'.length)(h1:XK T S' cl l rl)(h2:XK T S' cl k rk)(hl:t≤lvl T S' r)(he: ∀c,Y8 S' r c=if c.testBit t then Y8 S' rk c else Y8 S' rl c):XK T S' cl i r:=by
 have hlt:=(List.getElem?_eq_some_iff.1 hi).1;obtain⟨a1,a2,a3,a4,_⟩:=W.fork _ _ _ _ hi;refine⟨hr,?_,fun c=>?_⟩
 ·rw[Vg h hlt];refine Nat.le_trans ?_ hl;unfold lvl;rw[hi];exact Nat.le_refl _
 ·rw[he,Zr W h hlt,VQ W hi,h1.ev,h2.ev,Zr W h (Nat.lt_trans a3 hlt),Zr W h (Nat.lt_trans a4 hlt)]
  split<;>rfl
end
def eX(st:St)(X:Fp)(Q:Hp→Prop):Prop:= ∀h':Hp,(∀c,c<st.n→ ¬X c→h' c=st.h.get c)→Q h'
theorem eX.step{st st':St}{X X':Fp}{Q:Hp→Prop}(h:eX st X Q)(C:UR X st st')(m:WN st st' X X'):eX st' X' Q:=fun h' e=>h h' fun c hc hx=>by
 rw[e c (Nat.lt_of_lt_of_le hc C.le) fun hx'=>by
  rcases(m c hx').1 with h1|h1
  ·exact hx h1
  ·omega]
 exact C.J8 c hc hx
structure qn(h:Hp)(F:Fp)(sp cm T:Nat)(S:UG)(L:List ((Nat×Nat)×AV)):Prop where
 IW:Az h F sp T S
 map:(Wd cm Xo L).H h
 d: ¬F cm
def vt(F:Fp)(cm:Nat):Fp:=fun c=>F c∨c=cm
def xJ(F:Fp)(sp cm T:Nat)(S:UG)(L:List ((Nat×Nat)×AV)):Ob:=⟨vt F cm,fun h=>qn h F sp cm T S L,fun h h' e H=>⟨H.IW.frame fun c hc=>e c (.inl hc),(Wd cm Xo L).fr _ _ (fun c hc=>e c (.inr hc)) H.map,H.d⟩⟩
def yA(st st':St)(F:Fp)(sp cm T:Nat)(S':UG)(L':List ((Nat×Nat)×AV)):Prop:= ∃F',qn st'.h.get F' sp cm T S' L'∧WN st st' (vt F cm) (vt F' cm)∧UR (vt F cm) st st'
section
variable {st0 st st':St} {X0 F:Fp} {M:QP} {Os:List Ob} {sp cm T:Nat} {S S':UG} {L L':List ((Nat×Nat)×AV)}
theorem Qk.split{o o1 o2:Ob}(B:Qk st0 X0 st M (o::Os))(h1:o1.H st.h.get)(h2:o2.H st.h.get)(hF1: ∀c,o1.F c→o.F c)(hF2: ∀c,o2.F c→o.F c)(hd: ∀c,o1.F c→ ¬o2.F c):Qk st0 X0 st M (o1::o2::Os):=by
 have hp:=List.pairwise_cons.1 B.dj;refine⟨B.fresh,B.le,B.row,B.nodup,B.lo,fun p hp'=>?_,fun p hp' c hc=>?_,List.pairwise_cons.2 ⟨fun p hp' c k1 k2=>?_,List.pairwise_cons.2 ⟨fun p hp' c k1 k2=>hp.1 p hp' c (hF2 c k1) k2,hp.2⟩⟩,fun p hp' c m l hm hc=>?_,B.J8⟩
 ·rcases List.mem_cons.1 hp' with rfl|hp'
  ·exact h1
  rcases List.mem_cons.1 hp' with rfl|hp'
  ·exact h2
  ·exact B.obj p (List.mem_cons_of_mem _ hp')
 ·rcases List.mem_cons.1 hp' with rfl|hp'
  ·exact B.hi o (List.mem_cons_self ..) c (hF1 c hc)
  rcases List.mem_cons.1 hp' with rfl|hp'
  ·exact B.hi o (List.mem_cons_self ..) c (hF2 c hc)
  ·exact B.hi p (List.mem_cons_of_mem _ hp') c hc
 ·rcases List.mem_cons.1 hp' with rfl|hp'
  ·exact hd c k1 k2
  ·exact hp.1 p hp' c (hF1 c k1) k2
 ·rcases List.mem_cons.1 hp' with rfl|hp'
  ·exact B.djM o (List.mem_cons_self ..) c m l hm (hF1 c hc)
  rcases List.mem_cons.1 hp' with rfl|hp'
  ·exact B.djM o (List.mem_cons_self ..) c m l hm (hF2 c hc)
  ·exact B.djM p (List.mem_cons_of_mem _ hp') c m l hm hc
theorem Qk.PL{o:Ob}(B:Qk st0 X0 st M Os){c m:Nat}{l:List AV}(k:Nat)(hk:M[k]? =some (c,m,l))(j:Nat)(hj:Os[j]? =some o){h':Hp}(e: ∀c,c<st.n→ ¬o.F c→h' c=st.h.get c):Q4 h' c m l:=by
 have hm:=List.mem_of_getElem? hk;have hr:=B.row c m l hm;exact hr.frame (e c (hr.lt B.fresh) (B.djM o (List.mem_of_getElem? hj) c m l hm))
theorem Qk.eu{o:Ob}(B:Qk st0 X0 st M Os)(hf:Qj st0){z:Nat}{ls:List (List AV)}{ks:AV}(r:Jk st0.h.get [] z ls ks)(hX: ∀c m o n y,ks=.sl c m o n y→ ¬X0 c)(j:Nat)(hj:Os[j]? =some o){h':Hp}(e: ∀c,c<st.n→ ¬o.F c→h' c=st.h.get c):Jk h' [] z ls ks:=
 (B.rd hf r hX).frame fun c m p n y e2=>e c (by obtain⟨_,cells,k2,_⟩:=(B.rd hf r hX).alive c m p n y e2;exact k2.lt B.fresh) (B.off hj hf r hX c m p n y e2)
theorem Qk.L8(B:Qk st0 X0 st M (xJ F sp cm T S L::Os)):Qk st0 X0 st M (XA F sp T S::Wd cm Xo L::Os):=by
 have H:qn st.h.get F sp cm T S L:=B.at_ (k:=0) rfl;exact B.split H.IW H.map (fun c hc=>.inl hc) (fun c hc=>.inr hc) fun c h1 h2=>H.d ((show c=cm from h2)▸h1)
theorem Qk.D7(B:Qk st0 X0 st M (XA F sp T S::Wd cm Xo L::Os)):Qk st0 X0 st M (xJ F sp cm T S L::Os):=
 B.join (fun h1 h2=>⟨h1,h2,fun h=>(List.pairwise_cons.1 B.dj).1 (Wd cm Xo L) QA cm h rfl⟩) fun c hc=>hc
theorem Qk.vw{F':Fp}(B:Qk st0 (vt F cm) st M (xJ F' sp cm T S' L'::Os)):yA st0 st F sp cm T S' L':=
 ⟨F',B.at_ (k:=0) rfl,fun c hc=>⟨(B.Ld (k:=0) rfl c hc).symm,B.Yw (k:=0) rfl c hc⟩,B.JO⟩
theorem Qk.uV(B:Qk st0 X0 st M (xJ F sp cm T S L::Os))(h:yA st st' F sp cm T S' L'): ∃F',Qk st0 X0 st' M (xJ F' sp cm T S' L'::Os):=by
 obtain⟨F',h1,h2,h3⟩:=h;exact⟨F',B.call (k:=0) rfl h3 (o':=xJ F' sp cm T S' L') h1 h2⟩
theorem Qk.ey(B:Qk st0 X0 st M (xJ F sp cm T S L::Os)):Z0 st F sp T S:=⟨qn.IW (B.at_ (k:=0) rfl),fun c hc=>B.Yw (k:=0) rfl c (.inl hc)⟩
end
structure aB(xm sp cm c5 c3:Nat)(kt:AV)(cl:List Int)(h:Hp):Prop where
 row:Q4 h xm 0 [.ptr sp 0 0,.fn 178 [] [.ptr c5 0 0,.ptr c3 0 0],.mp cm]
 r5:Q4 h c5 0 [kt]
 r3:Q4 h c3 0 [.ptr sp 0 0]
 kt:Jk h [] 1 (zC cl) kt
theorem BP(f c d:Nat):KL (.fn f [] [.ptr c 0 0,.ptr d 0 0]) (.fn f [] [.ptr c 0 0,.ptr d 0 0])=true:=by
 have h: ∀n:Nat,Nat.beq n n=true:=fun n=>by simp
 show Qo (Nat.beq f f) (Qo (Ah [] []) (Ah [.ptr c 0 0,.ptr d 0 0] [.ptr c 0 0,.ptr d 0 0]) false) false=true;rw[h,Q7,show Ah [] []=true from rfl,Q7];show Qo (R9 (.ptr c 0 0) (.ptr c 0 0)) (Qo (R9 (.ptr d 0 0) (.ptr d 0 0)) true false) false=true;show Qo (Qo (Nat.beq c c) true false) (Qo (Qo (Nat.beq d d) true false) true false) false=true;rw[h,h];rfl
def ef(n:Bn):Int:=if HY n then Pk n else-1
theorem FU{st:St}(hf:Qj st){F:Fp}{sp:Nat}{S:UG}(hS:Z0 st F sp Tn S){i:Nat}(hi:i<S.length){n:Bn}(hn:S[i]? =some n): ∃v st',Ev Tryz.prog Q5 191 [.ptr sp 0 0,.int .i64 (i:Nat)] st v st'∧v=.int .i64 (ef n)∧Qt st st':=by
 obtain⟨v,st',h1,⟨m,h2,h3⟩,h4⟩:=qc hf hS hi;rw[hn]at h2
 injection h2 with h2
 subst h2;exact⟨v,st',h1,h3,h4⟩
theorem Dy{α:Type}{L:List (α×AV)}{a b:α}{v:AV}(hne:b≠a)(h:Yn L a=none):Yn (L++[(b,v)]) a=none:=by
 induction L with
 |nil=>simp[Yn,hne]
 |cons x L ih=>
  rw[List.cons_append];rw[Yn]at h ⊢
  split at h
  ·cases h
  ·rename_i hx;rw[if_neg hx];exact ih h

theorem Dc{st:St}(hf:Qj st){F:Fp}{sp:Nat}{S:UG}(hS:Z0 st F sp Tn S){cm:Nat}(hx:Q4 st.h.get xm 0 [.ptr sp 0 0,.fn 178 [] [.ptr c5 0 0,.ptr c3 0 0],.mp cm])(h6:Tn≤6)(wf:Xq Tn S){i:Nat}(hi:i<S.length): ∃v st',Ev Tryz.prog Q5 185 [.ptr xm 0 0,iN i] st v st'∧v=iZ (Y8 S i 0)∧Qt st st':=by
 refine JI Tryz.func185 Tryz.ntmps185 fun T K=>?_;have M:=Mem.start hf;refine Qc 4 K M ?_;intro _ K;refine p1 K (Qd rfl (Q0 (M.JK QA hx.Jf) (Qf JM rfl))) fun _ K=>?_;refine Qc 1 K M ?_;intro _ K;refine oQ K M (yl M.fresh (hS.q M.qt) h6 wf hi (c:=0) (Nat.two_pow_pos _)) rfl rfl fun _ _ K M=>?_;refine Qc 1 K M ?_;exact⟨rfl,M.qt⟩

theorem LK{st:St}(hf:Qj st){F:Fp}{sp:Nat}{S:UG}(hS:Z0 st F sp Tn S){cm:Nat}(hx:Q4 st.h.get xm 0 [.ptr sp 0 0,.fn 178 [] [.ptr c5 0 0,.ptr c3 0 0],.mp cm]){i:Nat}(hi:i<S.length){t l h:Nat}(hn:S[i]? =some (.fork t l h)): ∃v st',Ev Tryz.prog Q5 186 [.ptr xm 0 0,iN i,iN t] st v st'∧v=.tup [iN l,iN h]∧Qt st st':=by
 have htk:ef (.fork t l h)=((t:Nat):Int):=rfl;refine JI Tryz.func186 Tryz.ntmps186 fun T K=>?_;have M:=Mem.start hf;refine Qc 5 K M ?_;intro _ K;refine p1 K (Qd rfl (Q0 (M.JK QA hx.Jf) (Qf JM rfl))) fun _ K=>?_;refine Qc 1 K M ?_;intro _ K;refine oQ K M (FU M.fresh (hS.q M.qt) hi hn) rfl rfl fun _ _ K M=>?_;refine Qc 2 K M ?_;intro _ K;refine JS K rfl (fun h15=>?_) fun h15=>?_
 ·refine Qc 3 K M ?_;intro _ K;refine p1 K (Qd rfl (Q0 (M.JK QA hx.Jf) (Qf JM rfl))) fun _ K=>?_;refine Qc 1 K M ?_;intro _ K;refine oQ K M (yi M.fresh (hS.q M.qt) hi hn) rfl rfl fun _ _ K M=>?_;refine Qc 4 K M ?_;exact⟨rfl,M.qt⟩
 exfalso;omega

theorem ja{st:St}(hf:Qj st){F:Fp}{sp:Nat}{S:UG}(hS:Z0 st F sp Tn S){cm:Nat}(hx:Q4 st.h.get xm 0 [.ptr sp 0 0,.fn 178 [] [.ptr c5 0 0,.ptr c3 0 0],.mp cm]){i:Nat}(hi:i<S.length){n:Bn}(hn:S[i]? =some n): ∃v st',Ev Tryz.prog Q5 184 [.ptr xm 0 0,iN i,iN i] st v st'∧v=iZ (ef n)∧Qt st st':=by
 refine JI Tryz.func184 Tryz.ntmps184 fun T K=>?_;have M:=Mem.start hf;refine Qc 1 K M ?_;intro _ K;refine QF (l:=[(0,0),(1,0),(2,0),(3,0),(4,0),(5,0),(6,0),(7,0),(8,0),(9,1),(10,0),(11,0),(12,0),(13,0)]) (by kernel_rfl) ?_;have Mq:=M;refine Jc 3 K M ?_;intro _ K;refine q1 rfl K (Qd rfl (Q0 (M.JK QA hx.Jf) (Qf JM rfl))) fun _ K=>q1 rfl K (Qg rfl) fun _ K=>?_;obtain⟨v14,st14,ev14,rfl,q14⟩:=FU M.fresh (hS.q M.qt) hi hn;refine qA rfl K (Qh rfl ev14) fun _ K=>?_;replace M:=M.quiet q14;have Mp:=Mq;have Mq:=M;refine Jc 3 K M ?_;intro _ K;refine Jl rfl K rfl (Q0 (M.JK QA hx.Jf) (Qf JM rfl)) (Q0 (Mp.JK QA hx.Jf) (Qf JM rfl)) (JU rfl) rfl QE fun _ K=>?_;refine q1 rfl K (Qg rfl) fun _ K=>?_;obtain⟨v20,st20,ev20,rfl,q20⟩:=FU M.fresh (hS.q M.qt) hi hn;refine qA rfl K (Qh rfl ev20) fun _ K=>?_;replace M:=M.quiet q20;have Mp:=Mq;have Mq:=M;refine Jc 2 K M ?_;intro _ K;refine QH ?_;show W _ _ _ _ _ _ _;refine Qc 2 K M ?_;intro _ K;refine Un K (Qg rfl) rfl (fun _ e23 K=>?_) fun _ e23 K=>?_
 ·refine Qc 2 K M ?_;intro _ K;refine LX K rfl rfl (Qg rfl) rfl (fun _ e26 K=>?_) fun _ e26 K=>?_
  ·refine Qc 8 K M ?_;exact⟨rfl,M.qt⟩
  refine Qc 5 K M ?_;intro _ K;refine JS K rfl (fun h31=>?_) fun h31=>?_
  ·refine Qc 2 K M ?_;exact⟨rfl,M.qt⟩
  refine Qc 2 K M ?_;exact⟨rfl,M.qt⟩
 refine Qc 11 K M ?_;exact⟨rfl,M.qt⟩

theorem TX{st:St}(hf:Qj st){F:Fp}{sp:Nat}{S:UG}(hS:Z0 st F sp Tn S){cl:List Int}(h5:Q4 st.h.get c5 0 [kt])(h3:Q4 st.h.get c3 0 [.ptr sp 0 0])(hkt:Jk st.h.get [] 1 (zC cl) kt)(hcl: ∀z∈cl,0≤z∧z≤1099511627776)(wf:Xq Tn S)(hlen:S.length<1000000000){u u2:Int}(hx0:0≤u)(hx1:u<((cl.length:Nat):Int)): ∃v st',Ev Tryz.prog Q5 178 [iZ u,iZ u2,.ptr c5 0 0,.ptr c3 0 0] st v st'∧ ∃i S',v=iN i∧XU st st' F sp Tn S'∧VT Tn S 1 S' i∧lvl Tn S' i=Tn∧ ∀c,Y8 S' i c=cv cl u.toNat:=by
 have B:=Qk.UM (o:=XA F sp Tn S) hf hS.at_ hS.hi;have hkc:=hkt.cell
 have hbn:(cl.length:Int)≤9223372036854775807:=by have:=hkt.E0;rw[Qn]at this;exact this
 refine JI Tryz.func178 Tryz.ntmps178 fun T K=>?_;have M:=B.mem;refine Qc 2 K M ?_;intro _ K;refine p1 K (Qd rfl (Q0 (M.JK QA h5.Jf) (Qf Ja rfl))) fun _ K=>p1 K (Q8 Jr rfl rfl (hkt.len.trans (congrArg some (Qn _)))) fun _ K=>?_;refine Qc 1 K M ?_;intro _ K;refine JS K rfl (fun h10=>?_) fun h10=>?_
 ·exfalso;omega
 refine Qc 0 K M ?_;intro _ K;refine QF (l:=[(0,0),(1,0),(2,0),(3,0),(4,0),(5,0),(6,0)]) (by kernel_rfl) ?_;refine q1 rfl K (Qd rfl (Q0 (M.JK QA h3.Jf) (Qf JM rfl))) fun _ K=>q1 rfl K (Qd rfl (Q0 (M.JK QA h5.Jf) (Qf Ja rfl))) fun _ K=>q1 rfl K (Qg rfl) fun _ K=>?_;obtain⟨y14,hi14⟩:=U9 cl ((u).toNat) Qe;obtain⟨x14,m14,f14,q14,_,la14,lo14,lp14⟩:=(Jk.mem M hkt QA).load (i:=(u).toNat) (cs:=_) (Jt hi14);refine q1 rfl K (Qb (j:=(u).toNat) Qw (congrArg some q14) (congrArg (fun z=>some (iZ z)) (by omega:_=(((u).toNat:Nat):Int))) (by rw[Qn];omega)) fun _ K=>q1 rfl K (Qd rfl (lo14 _ 0 _ Qr rfl)) fun _ K=>?_;replace B:=B.step M;have hcv:=hcl y14 (List.mem_of_getElem? hi14);obtain⟨v16,st16,ev16,i1,S1,rfl,hout,mb,hlv,hev⟩:=Po B.fresh (B.IW (k:=0) rfl) wf hlen hcv.1 hcv.2;refine qA rfl K (Qh rfl ev16) fun _ K=>?_;obtain⟨F',B⟩:=B.VR hout;have M:=B.mem;refine q1 rfl K (U6 rfl) fun _ K=>QH ?_;show W _ _ _ _ _ _ _;refine Qc 0 K M ?_
 have he:cv cl u.toNat=y14:=by unfold cv;rw[hi14];rfl
 exact⟨i1,S1,rfl,(B.step M).LQ,mb,hlv,fun c=>by rw[he];exact hev c⟩

theorem TW{sp cm:Nat}{cl:List Int}(h6:Tn≤6)(hcl: ∀z∈cl,0≤z∧z≤1099511627776)(i:Nat): ∀(st:St),Qj st→ ∀(F:Fp) (S:UG) (L:List ((Nat×Nat)×AV)),qn st.h.get F sp cm Tn S L→(∀c,vt F cm c→c<st.n)→Xq Tn S→i<S.length→(∀c,0≤Y8 S i c∧Y8 S i c<((cl.length:Nat):Int))→Wn Tn S cl L→eX st (vt F cm) (aB xm sp cm c5 c3 kt cl)→S.length+(2^(Tn-lvl Tn S i+1)-1)≤1000000000→ ∃v st',Ev Tryz.prog Q5 179 [.ptr xm 0 0,iN i,iN i] st v st'∧ ∃r S' L',v=iN r∧yA st st' F sp cm Tn S' L'∧VT Tn S (2^(Tn-lvl Tn S i+1)-1) S' r∧XK Tn S' cl i r∧Wn Tn S' cl L'∧(∀j,i<j→Yn L (j,j)=none→Yn L' (j,j)=none):=by
 induction i using Nat.strongRecOn with|_ i ih=>?_
 intro st hf F S L hP hhi wf hi hval hinv hRo hlen;obtain⟨n,hn⟩: ∃n,S[i]? =some n:=⟨_,List.getElem?_eq_getElem hi⟩;have hq9:2^1≤2^(Tn-lvl Tn S i+1):=Nat.pow_le_pow_right QE Qe;have B:=Qk.UM (o:=xJ F sp cm Tn S L) hf hP hhi;refine JI Tryz.func179 Tryz.ntmps179 fun T K=>?_;have M:=B.mem;refine Qc 4 K M ?_;intro _ K;refine p1 K (Qd rfl (Q0 (hRo _ (B.step M).J8).row.Jf (Qf Z2 rfl))) fun _ K=>?_;refine Qc 2 K M ?_;intro _ K;refine p1 K (ZN A8 Ig Xf ZJ rfl rfl) fun _ K=>p1 K (W2 (a:=(i,i)) WA (qn.map ((B.step M).at_ (k:=0) rfl)) rfl rfl) fun _ K=>?_;refine Qc 6 K M ?_;intro _ K;refine Qq (K.QJ rfl) (fun h27=>?_) (fun h27=>?_)
 ·have hb27:=h27;refine Qc 2 K M ?_
  obtain⟨v0,hv0⟩: ∃x,Yn L (i,i)=some x:=by cases hq:Yn L (i,i)with|none=>rw[hq]at h27;cases h27|some x=>exact⟨x,rfl⟩
  obtain⟨r,rfl,hmo⟩:=hinv.found hv0;exact⟨r,S,L,by rw[hv0];rfl,(B.step M).vw,⟨wf,List.prefix_refl _,hmo.lt,by omega⟩,hmo,hinv,fun j _ h=>h⟩
 have hb27:=h27;refine Qc 0 K M ?_;intro _ K
 have hnone:Yn L (i,i)=none:=by cases hq:Yn L (i,i)with|none=>rfl|some x=>rw[hq]at h27;cases h27
 refine Qc 3 K M ?_;intro _ K;refine oQ K M (ja M.fresh (B.step M).ey (hRo _ (B.step M).J8).row hi hn) rfl rfl fun _ _ K M=>?_;refine Qc 3 K M ?_;intro _ K;refine JS K rfl (fun h34=>?_) fun h34=>?_
 ·obtain⟨x0,rfl⟩: ∃x,n=.leaf x:=by cases n with|leaf x=>exact⟨x,rfl⟩|fork t l h=>exact absurd h34 (by simp only[ef,HY,Pk,if_true];omega)
  refine QF (l:=[(4,0),(5,0),(6,0),(7,0),(8,0),(9,0),(0,0),(1,0),(2,0),(3,2),(10,0),(11,0)]) (by kernel_rfl) ?_;have Mq:=M;have Mz0:=M;have Bz0:=B;refine Jc 2 K M ?_;intro _ K;obtain⟨v41,st41,ev41,rfl,q41⟩:=Dc M.fresh (B.step M).ey (hRo _ (B.step M).J8).row h6 wf hi;refine qA rfl K (Qh rfl ev41) fun _ K=>?_;replace M:=M.quiet q41;have Mp:=Mq;have Mq:=M;have Mz1:=M;have Bz1:=B;refine Jc 2 K M ?_;intro _ K;obtain⟨v44,st44,ev44,rfl,q44⟩:=Dc M.fresh (B.step M).ey (hRo _ (B.step M).J8).row h6 wf hi;refine qA rfl K (Qh rfl ev44) fun _ K=>?_;replace M:=M.quiet q44;have Mp:=Mq;have Mq:=M;have Mz2:=M;have Bz2:=B;refine Jc 3 K M ?_;intro _ K
  refine Ws rfl K rfl (Q0 (hRo _ (B.step M).J8).row.Jf (Qf YG rfl)) QA (by intro s hs;simp only[List.take_succ_cons,List.take_zero,List.mem_cons,List.not_mem_nil,or_false]at hs;rcases hs with rfl|rfl<;>first|exact(Q0 (hRo _ (Bz1.step Mz1).J8).row.Jf (Qf YG rfl))|exact(Q0 (hRo _ (Bz0.step Mz0).J8).row.Jf (Qf YG rfl))) (BP _ _ _) rfl QE fun _ K=>?_
  replace B:=(B.step M).L8;have hro:=hRo _ B.J8;have hv0:=hval 0;obtain⟨v45,st45,ev45,i1,S1,rfl,hout,mb,hlv,hev⟩:=TX B.fresh (B.IW (k:=0) rfl) hro.r5 hro.r3 hro.kt hcl wf Qe (u:=Y8 S i 0) (u2:=Y8 S i 0) hv0.1 hv0.2;refine qA rfl K (Xa rfl rfl ev45) fun _ K=>?_;obtain⟨F',B⟩:=B.VR hout;replace B:=B.D7;have M:=B.mem;have hmo:XK Tn S1 cl i i1:=XK.leaf wf hn (show _=cv cl x0.toNat by rw[VP hn]) mb.lt mb.pre hlv hev;have Mp:=Mq;have Mq:=M;have Mz3:=M;have Bz3:=B;refine q1 rfl K (U6 rfl) fun _ K=>QH ?_;show W _ _ _ _ _ _ _;refine Qc 3 K M ?_;intro _ K;refine p1 K (Qd rfl (Q0 (hRo _ (B.step M).J8).row.Jf (Qf Z2 rfl))) fun _ K=>?_;refine Qc 2 K M ?_;intro _ K;refine p1 K (ZN A8 Ig Xf ZJ rfl rfl) fun _ K=>?_;refine Qc 1 K M ?_;intro _ K;have hnn:Yn L (i,i)=none:=hnone;replace B:=(B.step M).L8;refine Hg (j:=1) (a:=(i,i)) K B rfl WA rfl rfl rfl rfl hnn fun _ B=>?_;replace B:=Qk.D7 (L:=L++[((i,i),iN i1)]) B;have M:=B.mem;refine Qc 2 K M ?_;have h1l:=mb.len
  have hq4:1≤2^(Tn-lvl Tn S i+1)-1:=by have:2^1≤2^(Tn-lvl Tn S i+1):=Nat.pow_le_pow_right QE Qe;omega
  have hil:=Nat.lt_of_lt_of_le hi mb.pre.length_le;exact⟨i1,S1,_,rfl,(B.step M).vw,⟨mb.wf,mb.pre,mb.lt,by omega⟩,hmo,(hinv.pre wf mb.pre).put hil hmo,fun j hj h=>Dy (fun e=>by have:=congrArg Prod.fst e;simp at this;omega) (h)⟩
 refine QD ?_
 obtain⟨t,l,h,rfl⟩: ∃t l h,n=.fork t l h:=by cases n with|leaf x=>exact absurd (show ef (.leaf x)<0 by show(-1:Int)<0;decide) h34|fork t l h=>exact⟨t,l,h,rfl⟩
 obtain⟨a1,a2,a3,a4,a5,a6⟩:=wf.fork _ _ _ _ hn
 have hlt:lvl Tn S i=t:=by unfold lvl;rw[hn]
 have hp1:2^(Tn-lvl Tn S l+1)≤2^(Tn-t):=Nat.pow_le_pow_right QE (by have:=BE wf l;omega);have hp2:2^(Tn-lvl Tn S h+1)≤2^(Tn-t):=Nat.pow_le_pow_right QE (by have:=BE wf h;omega)
 have hp3:2^(Tn-t+1)=2 *2^(Tn-t):=by rw[Nat.pow_succ,Nat.mul_comm]
 have hp4:1≤2^(Tn-t):=Nat.one_le_two_pow;rw[hlt,hp3]at hlen
 have hvl: ∀c,0≤Y8 S l c∧Y8 S l c<((cl.length:Nat):Int):=fun c=>by rw[←HE wf hn c];exact hval _
 have hvh: ∀c,0≤Y8 S h c∧Y8 S h c<((cl.length:Nat):Int):=fun c=>by rw[←AI wf hn c];exact hval _
 refine Qc 3 K M ?_;intro _ K;refine oQ K M (LK M.fresh (B.step M).ey (hRo _ (B.step M).J8).row hi hn) rfl rfl fun _ _ K M=>?_;refine Qc 8 K M ?_;intro _ K;refine oQ K M (LK M.fresh (B.step M).ey (hRo _ (B.step M).J8).row hi hn) rfl rfl fun _ _ K M=>?_;refine Qc 8 K M ?_;intro _ K;replace B:=B.step M;obtain⟨v63,st63,ev63,r1,S1,L1,rfl,hout1,mb1,mo1,hinv1,hnk1⟩:=ih l a3 _ B.fresh _ _ _ (B.at_ (k:=0) rfl) (B.Yw (k:=0) rfl) wf Qe hvl hinv (hRo.step B.JO (fun c hc=>⟨(B.Ld (k:=0) rfl c hc).symm,B.Yw (k:=0) rfl c hc⟩)) Qe;refine p1 K (Qh rfl ev63) fun _ K=>?_;obtain⟨F1,B⟩:=B.uV hout1;have M:=B.mem;have hll:=mb1.len;have hpl:=mb1.pre.length_le;refine Qc 3 K M ?_;intro _ K;replace B:=B.step M;obtain⟨v67,st67,ev67,r2,S2,L2,rfl,hout2,mb2,mo2,hinv2,hnk2⟩:=ih h a4 _ B.fresh _ _ _ (B.at_ (k:=0) rfl) (B.Yw (k:=0) rfl) mb1.wf Qe (fun c=>by rw[Zr wf mb1.pre Qe];exact hvh c) hinv1 (hRo.step B.JO (fun c hc=>⟨(B.Ld (k:=0) rfl c hc).symm,B.Yw (k:=0) rfl c hc⟩)) (by rw[Vg mb1.pre Qe];omega);refine p1 K (Qh rfl ev67) fun _ K=>?_;obtain⟨F2,B⟩:=B.uV hout2;have M:=B.mem;rw[Vg mb1.pre Qe]at mb2;have hll2:=mb2.len;have hpl2:=mb2.pre.length_le;have mo1':=mo1.pre mb1.wf mb2.pre Qe
 have hlS2: ∀j,j<S.length→lvl Tn S2 j=lvl Tn S j:=fun j hj=>by rw[Vg mb2.pre Qe,Vg mb1.pre hj]
 have hk1:=mo1'.lv;have hk2:=mo2.lv;rw[hlS2 l Qe]at hk1;rw[hlS2 h Qe]at hk2;have hnone2:Yn L2 (i,i)=none:=hnk2 i Qe (hnk1 i Qe hnone);refine Qc 5 K M ?_;intro _ K;refine Un K (Qg rfl) rfl (fun _ e70 K=>?_) fun _ e70 K=>?_
 ·exfalso;omega
 refine Qc 3 K M ?_;intro _ K;refine JS K rfl (fun h73=>?_) fun h73=>?_
 ·refine Qc 3 K M ?_;intro _ K;refine p1 K (Qd rfl (Q0 (hRo _ (B.step M).J8).row.Jf (Qf JM rfl))) fun _ K=>?_;refine Qc 3 K M ?_;intro _ K;replace B:=(B.step M).L8;obtain⟨v81,st81,ev81,r3,S3,rfl,hout3,mb3,hlv3,hev3⟩:=yh B.fresh (B.IW (k:=0) rfl) mb2.wf Qe (t:=t) (l:=r1) (h:=r2) a6 mo1'.lt mo2.lt Qe Qe;refine p1 K (Qh rfl ev81) fun _ K=>?_;obtain⟨F3,B⟩:=B.VR hout3;replace B:=B.D7;have M:=B.mem;have hp13:=(mb1.pre.trans mb2.pre).trans mb3.pre;have hmo:XK Tn S3 cl i r3:=XK.fork wf hn hp13 mb3.lt (mo1'.pre mb2.wf mb3.pre Qe) (mo2.pre mb2.wf mb3.pre Qe) hlv3 (fun c=>by rw[hev3,Zr mb2.wf mb3.pre mo1'.lt,Zr mb2.wf mb3.pre mo2.lt]);refine Qc 4 K M ?_;intro _ K;refine p1 K (Qd rfl (Q0 (hRo _ (B.step M).J8).row.Jf (Qf Z2 rfl))) fun _ K=>?_;refine Qc 2 K M ?_;intro _ K;refine p1 K (ZN A8 Ig Xf ZJ rfl rfl) fun _ K=>?_;refine Qc 1 K M ?_;intro _ K;have hnn:=hnone2;replace B:=(B.step M).L8;refine Hg (j:=1) (a:=(i,i)) K B rfl WA rfl rfl rfl rfl hnn fun _ B=>?_;replace B:=Qk.D7 (L:=L2++[((i,i),iN r3)]) B;have M:=B.mem;refine Qc 2 K M ?_;have h3l:=mb3.len;have hil:=Nat.lt_of_lt_of_le hi hp13.length_le;exact⟨r3,S3,_,rfl,(B.step M).vw,⟨mb3.wf,hp13,mb3.lt,by rw[hlt,hp3];omega⟩,hmo,(hinv2.pre mb2.wf mb3.pre).put hil hmo,fun j hj h=>Dy (fun e=>by have:=congrArg Prod.fst e;simp at this;omega) (hnk2 j Qe (hnk1 j Qe h))⟩
 exfalso;omega

theorem zr{st:St}(hf:Qj st){F:Fp}{sp:Nat}{S:UG}(hS:Z0 st F sp Tn S){i:Nat}(hi:i<S.length): ∃v st',Ev Tryz.prog Q5 177 [.ptr sp 0 0,iN i] st v st'∧v=.bool true∧Qt st st':=by
 refine JI Tryz.func177 Tryz.ntmps177 fun T K=>?_;have M:=Mem.start hf;refine Qc 3 K M ?_;intro _ K;refine Un K (Qg rfl) rfl (fun _ e7 K=>?_) fun _ e7 K=>?_
 ·exfalso;omega
 refine Qc 2 K M ?_;intro _ K;obtain⟨v10,st10,ev10,rfl,q10⟩:=Ty M.fresh (hS.q M.qt);refine pg K rfl rfl (Qh rfl ev10) fun _ K=>?_;replace M:=M.quiet q10;refine Qc 3 K M ?_;exact⟨congrArg AV.bool (decide_eq_true Qe),M.qt⟩

theorem jb{st:St}(hf:Qj st){F:Fp}{sp:Nat}{S:UG}(hS:Z0 st F sp Tn S)(h6:Tn≤6)(wf:Xq Tn S){i:Nat}(hi:i<S.length){cl:List Int}(hkt:Jk st.h.get [] 1 (zC cl) kt)(hoff: ∀c m o n y,kt=.sl c m o n y→ ¬F c)(hcl: ∀z∈cl,0≤z∧z≤1099511627776)(hval: ∀c,0≤Y8 S i c∧Y8 S i c<((cl.length:Nat):Int))(hlen:S.length+(2^(Tn+1)-1)≤1000000000): ∃v st',Ev Tryz.prog Q5 171 [.ptr sp 0 0,iN i,kt] st v st'∧ ∃r S',v=iN r∧XU st st' F sp Tn S'∧VT Tn S (2^(Tn+1)-1) S' r∧ ∀c,Y8 S' r c=cv cl (Y8 S i c).toNat:=by
 have B:=Qk.UM (o:=XA F sp Tn S) hf hS.at_ hS.hi;have hkc:=hkt.cell
 have hbn:(cl.length:Int)≤9223372036854775807:=by have:=hkt.E0;rw[Qn]at this;exact this
 refine JI Tryz.func171 Tryz.ntmps171 fun T K=>?_;have M:=B.mem;refine au 1 K M ?_;intro c3 _ _ K _ M;refine Jv K M rfl (NN hkt.cell) QE fun c5 _ _ K M=>?_;replace M:=Mem.cast (M':=[(c5,0,[kt]),(c3,0,[.ptr sp 0 0])]) M (congrArg (fun q=>(c5,0,q)::[(c3,0,[.ptr sp 0 0])]) (Vq (hkt.cell)));refine Qc 3 K M ?_;intro _ K;refine oQ K M (zr M.fresh ((B.step M).IW (k:=0) rfl) hi) rfl rfl fun _ _ K M=>?_;refine Qc 2 K M ?_;intro _ K;refine p1 K (X4 rfl rfl) fun _ K=>?_;refine Qc 3 K M ?_;intro _ K;replace B:=B.step M;refine Wq Xo K B rfl fun c16 _ _ K B=>?_;have M:=B.mem;refine au 6 K M ?_;intro c18 _ _ K _ M;replace B:=Qk.D7 ((B.step M).Gd (.swap ..));have hlvi:=BE wf i;have hpw:2^(Tn-lvl Tn S i+1)≤2^(Tn+1):=Nat.pow_le_pow_right QE Qe;obtain⟨v22,st22,ev22,r1,S1,L1,rfl,hout1,mb1,mo1,hinv1,_⟩:=TW (xm:=c18) (cm:=c16) (c5:=c5) (c3:=c3) (kt:=kt) h6 hcl i _ B.fresh _ _ _ (B.at_ (k:=0) rfl) (B.Yw (k:=0) rfl) wf hi hval (fun a b v hm=>by cases hm) (fun h' e=>⟨B.PL 0 rfl 0 rfl e,B.PL 1 rfl 0 rfl e,B.PL 2 rfl 0 rfl e,B.eu hf hkt hoff 0 rfl e⟩) Qe;refine p1 K (Qh rfl ev22) fun _ K=>?_;obtain⟨F1,B⟩:=B.uV hout1;have M:=B.mem;refine Qc 1 K M ?_
 have hev: ∀c,Y8 S1 r1 c=cv cl (Y8 S i c).toNat:=fun c=>by rw[mo1.ev,Zr wf mb1.pre hi]
 exact⟨r1,S1,rfl,(B.step M).L8.LQ,mb1.more Qe,hev⟩
end Go.Proofs.YtiknomepbklibaaGreatDoor
end
section
namespace Go.Proofs.YtiknomepbklibaaGreatDoor
open Go Go.RowKit

structure KN(h:Hp)(F:Fp)(xp cm mp:Nat)(kl:AV)(lp:List (Nat×Nat))(l:Nat):Prop where
 acc:UX h F 2 kl (Kx lp)
 map:(Wd cm Xo (UT 0 lp)).H h
 met:(UZ mp l false).H h
 row:Q4 h xp 0 [.mp cm,kl,.ptr mp 0 0]
 d1: ¬F xp
 d2: ¬F cm
 d3: ¬F mp
 d4:xp≠cm
 d5:xp≠mp
 d6:cm≠mp
def P4(F:Fp)(xp cm mp:Nat):Fp:=fun c=>F c∨c=cm∨c=mp∨c=xp
section
variable {st0 st st':St} {X0 F F':Fp} {M A:QP} {Os:List Ob} {xp cm mp l l':Nat} {kl kl':AV} {lp lp':List (Nat×Nat)}
theorem KN.frame{h h':Hp}(e: ∀c,P4 F xp cm mp c→h' c=h c)(H:KN h F xp cm mp kl lp l):KN h' F xp cm mp kl lp l:=
 ⟨(Wm F 2 kl (Kx lp)).fr _ _ (fun c hc=>e c (.inl hc)) H.acc,(Wd cm Xo (UT 0 lp)).fr _ _ (fun c hc=>e c (.inr (.inl hc))) H.map,(UZ mp l false).fr _ _ (fun c hc=>e c (.inr (.inr (.inl hc)))) H.met,H.row.frame (e xp (.inr (.inr (.inr rfl)))),H.d1,H.d2,H.d3,H.d4,H.d5,H.d6⟩
def ew(F:Fp)(xp cm mp:Nat)(kl:AV)(lp:List (Nat×Nat))(l:Nat):Ob:=⟨P4 F xp cm mp,fun h=>KN h F xp cm mp kl lp l,fun _ _ e H=>H.frame e⟩
theorem Qk.zd(hf:Qj st)(H:KN st.h.get F xp cm mp kl lp l)(hi: ∀c,P4 F xp cm mp c→c<st.n):Qk st (P4 F xp cm mp) st [(xp,0,[.mp cm,kl,.ptr mp 0 0])] [Wm F 2 kl (Kx lp),Wd cm Xo (UT 0 lp),UZ mp l false]:=by
 refine⟨hf,Nat.le_refl _,fun c m x h=>?_,by simp,fun c m x h=>?_,fun o h=>?_,fun o h c hc=>?_,?_,fun o h c m x hm hc=>?_,fun _ _ _=>rfl⟩
 ·simp at h;obtain⟨rfl,rfl,rfl⟩:=h;exact H.row
 ·simp at h;obtain⟨rfl,rfl,rfl⟩:=h;exact .inr (.inr (.inr (.inr rfl)))
 ·simp at h;rcases h with rfl|rfl|rfl
  ·exact H.acc
  ·exact H.map
  ·exact H.met
 ·simp at h;rcases h with rfl|rfl|rfl
  ·exact⟨hi c (.inl hc),.inr (.inl hc)⟩
  ·exact⟨hi c (.inr (.inl hc)),.inr (.inr (.inl hc))⟩
  ·exact⟨hi c (.inr (.inr (.inl hc))),.inr (.inr (.inr (.inl hc)))⟩
 ·refine List.pairwise_cons.2 ⟨fun o h c h1 h2=>?_,List.pairwise_cons.2 ⟨fun o h c h1 h2=>?_,List.pairwise_singleton _ _⟩⟩
  ·simp at h;rcases h with rfl|rfl
   ·exact H.d2 ((show c=cm from h2)▸h1)
   ·exact H.d3 ((show c=mp from h2)▸h1)
  ·rw[List.mem_singleton.1 h]at h2;exact H.d6 ((show c=cm from h1).symm.trans (show c=mp from h2))
 ·simp at hm;obtain⟨rfl,rfl,rfl⟩:=hm
  simp at h;rcases h with rfl|rfl|rfl
  ·exact H.d1 hc
  ·exact H.d4 hc
  ·exact H.d5 hc
theorem Qk.uI(B:Qk st (P4 F xp cm mp) st' [(xp,0,[.mp cm,kl',.ptr mp 0 0])] [Wm F' 2 kl' (Kx lp'),Wd cm Xo (UT 0 lp'),UZ mp l' false]): ∃F',KN st'.h.get F' xp cm mp kl' lp' l'∧WN st st' (P4 F xp cm mp) (P4 F' xp cm mp)∧UR (P4 F xp cm mp) st st':=by
 have hp:=List.pairwise_cons.1 B.dj;have hp2:=(List.pairwise_cons.1 hp.2).1 (UZ mp l' false) QA;have hr:=fun o ho=>B.djM o ho xp 0 _ (List.mem_singleton.2 rfl);refine⟨F',⟨B.at_ (k:=0) rfl,B.at_ (k:=1) rfl,B.at_ (k:=2) rfl,B.row _ _ _ (List.mem_singleton.2 rfl),hr (Wm F' 2 kl' (Kx lp')) QA,fun h=>hp.1 (Wd cm Xo (UT 0 lp')) QA cm h rfl,fun h=>hp.1 (UZ mp l' false) QA mp h rfl,fun e=>hr (Wd cm Xo (UT 0 lp')) QA e,fun e=>hr (UZ mp l' false) QA e,fun e=>hp2 cm rfl e⟩,fun c hc=>?_,B.JO⟩;rcases hc with hc|hc|hc|hc
 ·exact⟨(B.Ld (k:=0) rfl c hc).symm,B.Yw (k:=0) rfl c hc⟩
 ·exact⟨(B.Ld (k:=1) rfl c hc).symm,B.Yw (k:=1) rfl c hc⟩
 ·exact⟨(B.Ld (k:=2) rfl c hc).symm,B.Yw (k:=2) rfl c hc⟩
 ·subst hc;exact⟨.inl (.inr (.inr (.inr rfl))),(B.row c 0 _ (List.mem_singleton.2 rfl)).lt B.fresh⟩
theorem Qk.ao(B:Qk st0 X0 st ((xp,0,[.mp cm,.nils,.ptr mp 0 0])::M) (Wd cm Xo []::UZ mp l false::Os)):Qk st0 X0 st M (ew Xu xp cm mp .nils [] l::Os):=by
 have d1:=B.djM (Wd cm Xo []) QA xp 0 _ (List.mem_cons_self ..);have d2:=B.djM (UZ mp l false) QA xp 0 _ (List.mem_cons_self ..);have d3:=(List.pairwise_cons.1 B.dj).1 (UZ mp l false) QA;have B1:=Qk.freeze (R:=[(xp,0,[.mp cm,.nils,.ptr mp 0 0])]) (o:=Xn [(xp,0,[.mp cm,.nils,.ptr mp 0 0])]) (M:=M) B (fun c m x h=>B.row c m x (by rw[List.mem_singleton.1 h];exact List.mem_cons_self ..)) (fun c hc=>hc)
 have B2:=B1.join (o:=⟨fun c=>c=xp∨c=cm,fun h=>Q4 h xp 0 [.mp cm,.nils,.ptr mp 0 0]∧(Wd cm Xo []).H h,fun h h' e H=>⟨H.1.frame (e xp (.inl rfl)),(Wd cm Xo []).fr _ _ (fun c hc=>e c (.inr hc)) H.2⟩⟩) (fun h1 h2=>⟨h1 xp 0 _ (List.mem_singleton.2 rfl),h2⟩) (fun c hc=>by
  rcases hc with hc|hc
  ·exact .inl ⟨0,_,by rw[hc];exact List.mem_singleton.2 rfl⟩
  ·exact .inr hc)
 refine B2.join (fun h1 h2=>⟨⟨[],.none,fun c m l h=>by cases h⟩,h1.2,h2,h1.1,id,id,id,fun e=>d1 e,fun e=>d2 e,fun e=>d3 cm rfl e⟩) (fun c hc=>?_);rcases hc with hc|hc|hc|hc
 ·exact hc.elim
 ·exact .inl (.inr hc)
 ·exact .inr hc
 ·exact .inl (.inl hc)
end
theorem Xy.row{h:Hp}{F:Fp}{kn:AV}{vs:List AV}{LL:List (List Int)}(H:Xy h F kn vs LL){i:Nat}{s:List Int}{w:AV}(hi:LL[i]? =some s)(hv:vs[i]? =some w):Jk h [] 1 (zC s) w:=by
 obtain⟨w',k1,k2,_⟩:=H.vs.at_ _ _ hi;rw[hv]at k1
 injection k1 with k1
 rw[k1];exact k2
def En(b:Bool):Nat:=if b then 1 else 0
theorem Tu(b:Bool):En b≤1:=by cases b<;>decide
theorem yY(t:Nat)(x y:Bool):Lw t x y=decide (((t/2^(2 *En x+En y) % 2:Nat):Int)=1):=by
 rw[←Hk];cases x<;>cases y<;>rfl
theorem zy{P:Program}{G:Env}{K:List (Nat×AV)}{st:St}{t yt:TypeId}{x y:Operand}{n:Nat}(hx:Jb G K x=some (.int .i64 2))(hy:Jb G K y=some (.int .i64 (n:Nat)))(h1:n≤1):U4 P G K (.binOp .mul t x y yt) st (.int .i64 (2 *n:Nat)) st:=by
 rw[show((2 *n:Nat):Int)=2 *((n:Nat):Int) by omega];exact SD hx hy (IntWalk.i64_in _ Qe)
def eR(st st':St)(a b:Au)(t:Nat)(v:AV):Prop:=
 (∃dp F lp m,v=.tup [.ptr dp 0 0,.int .i64 0]∧E5 a b t lp m∧Ya st' F dp m∧ZT st st' F)∨
 (v=.tup [.nilp,.int .i64 8]∧ ∃(lp:List (Nat×Nat)),lp.length=401∧lp.Nodup∧ ∀(Q:Nat×Nat→Prop),Q (0,0)→(∀p c,Q p→c<2^a.tr→Q (Oe a b p c))→ ∀p∈lp,Q p)

theorem zu{st:St}(hf:Qj st){F:Fp}{dp:Nat}{a:Au}(hD:Ya st F dp a): ∃v st',Ev Tryz.prog Q5 107 [.ptr dp 0 0] st v st'∧ ∃dp2 F2,v=.tup [.ptr dp2 0 0,iZ 0]∧Ya st' F2 dp2 a.neg∧ZT st st' F2∧Qt st st':=by
 have wf:=hD.wf;have hps:=wf.pos;have hmo:=wf.most;have hln:=wf.len;have hen:a.n=a.acc.length:=rfl;have htr:=wf.tr;have B:=Qk.start hf;refine JI Tryz.func107 Tryz.ntmps107 fun T K=>?_;have M:=B.mem;refine Qc 3 K M ?_;intro _ K;refine p1 K (Y6 JP rfl rfl) fun _ K=>?_;refine Qc 2 K M ?_;intro _ K;replace B:=B.step M;obtain⟨v10,st10,ev10,nau10,q10⟩:=Ft B.fresh (hD.q B.qt);refine p1 K (Qh rfl ev10) fun _ K=>?_;obtain⟨_,kn,vs,_,Fn,rfl,hAa,B⟩:=B.EO q10 nau10;obtain⟨ca,ma,rfl,rfl⟩:=Acc.jv (f:=AV.bool) (L:=a.acc) hAa Qe;have hnc:Qu kn=true:=(B.at_ (k:=0) rfl).rd.cell;replace B:=B.cast (M':=[(ca,ma,(a.acc.map AV.bool))]) QA;have M:=B.mem;refine au 1 K M ?_;intro c4 _ _ K _ M;refine QS (k:=0) K M rfl rfl rfl QC rfl (Qa rfl (Qa rfl (Qa hnc Qz))) rfl fun _ M=>?_;refine Qc 4 K M ?_;intro _ K;refine Je (fun mm1 T st9=> ∃(i:Nat) (cur:List Bool),mm1=a.acc.length-i∧QZ [(2,.nilp),(3,iZ 0),(4,.ptr c4 0 0),(12,.sl ca ma 0 a.acc.length 1),(13,iZ (a.acc.length:Nat)),(14,iN i)] T∧Qk st Xu st9 [(c4,0,[iZ (a.tr:Nat),.sl ca ma 0 a.acc.length 1,kn]),(ca,ma,(cur.map AV.bool))] [BG Fn kn vs a.nx]∧cur.length=a.acc.length∧(∀(j:Nat) (y:Bool),a.acc[j]? =some y→cur[j]? =some (if j<i then !y else y))∧i≤a.acc.length) (fun mm1 T st9 hI=>?_) _ _ _ ⟨0,_,rfl,(K.sub rfl),(B.step M).less (.refl _),rfl,(fun j y h=>h),(Nat.zero_le _)⟩;obtain⟨i,cur,rfl,K,B,hcl,hcu,hil⟩:=hI;have M:=B.mem;refine Qc 1 K M ?_;intro _ K;refine JS K rfl (fun h15=>?_) fun h15=>?_
 ·refine Qc 1 K M ?_;intro _ K;obtain⟨y17,hi17⟩:=U9 cur i Qe;refine p1 K (Qb (j:=i) Jx rfl rfl Qe) fun _ K=>p1 K (Qd rfl (M.load (k:=1) rfl (Qf J0 (Wc AV.bool hi17)))) fun _ K=>?_;refine Qc 7 K M ?_;intro _ K;obtain⟨y24,hi24⟩:=U9 cur i Qe;refine p1 K (Qb (j:=i) Jx rfl rfl Qe) fun _ K=>?_;refine Jj (k:=1) K M rfl rfl rfl A9 rfl (WY AV.bool (!(y17)) Qe) fun _ M=>?_;refine Qc 2 K M ?_;intro _ K;obtain⟨y0,hy0⟩:=U9 a.acc i Qe;have hy1:=hcu i y0 hy0;rw[if_neg Qe,hi17]at hy1
  injection hy1 with hy1
  exact⟨_,Qe,i+1,(cur.set i (!(y17))),rfl,(K.sub rfl),(B.step M).less (.refl _),(by rw[List.length_set];exact hcl),(fun j y h=>by
  rw[List.getElem?_set]
  by_cases e:i=j
  ·subst e;rw[if_pos rfl,if_pos Qe,if_pos Qe,hy1];rw[hy0]at h;injection h with h;rw[h]
  ·rw[if_neg e,hcu j y h];by_cases h2:j<i
   ·rw[if_pos h2,if_pos Qe]
   ·rw[if_neg h2,if_neg Qe]),Qe⟩
 refine QW ?_;show W _ _ _ _ _ _ _;refine Qc 1 K M ?_;intro _ K;replace B:=B.step M
 have hcur:cur=a.acc.map (!·):=by
  apply List.ext_getElem?;intro j
  by_cases hj:j<a.acc.length
  ·obtain⟨y,hy⟩: ∃x,a.acc[j]? =some x:=⟨_,List.getElem?_eq_getElem hj⟩;rw[hcu j y hy,List.getElem?_map,hy,if_pos Qe];rfl
  ·rw[List.getElem?_eq_none Qe,List.getElem?_eq_none (by rw[List.length_map];omega)]
 subst hcur;obtain⟨v27,st27,ev27,dp2,F2,rfl,hD2,nf2,q27⟩:=WL (a:=a.neg) B.fresh (Rj wf) (Q4.aI (f:=AV.bool) (L:=a.acc.map (!·)) (B.row ca ma _ QA) Qe Qe) (B.at_ (k:=0) rfl).r;refine p1 K (Qh rfl ev27) fun _ K=>?_;replace B:=B.new (o:=AW F2 dp2 a.neg) q27 hD2.at_ nf2;have M:=B.mem;refine Qc 4 K M ?_;exact⟨dp2,F2,rfl,B.Tl (k:=0) rfl,(B.step M).jP (k:=0) rfl,(B.step M).qt⟩

theorem yb{st:St}(hf:Qj st)(b:Bool): ∃v st',Ev Tryz.prog Q5 137 [.bool b] st v st'∧v=iZ (En b:Nat)∧Qt st st':=by
 refine JI Tryz.func137 Tryz.ntmps137 fun T K=>?_;have M:=Mem.start hf;refine Qc 2 K M ?_;intro _ K;refine Qq (K.QJ rfl) (fun h3=>?_) (fun h3=>?_)
 ·have hb3:=h3;refine Qc 1 K M ?_;refine⟨?_,M.qt⟩
  first|(rw[show b=true by simp_all];rfl)|(rw[show b=false by simp_all];rfl)
 have hb3:=h3;refine Qc 1 K M ?_;refine⟨?_,M.qt⟩
 first|(rw[show b=true by simp_all];rfl)|(rw[show b=false by simp_all];rfl)

theorem Su{st:St}(hf:Qj st){F:Fp}{xp cm mp:Nat}{kl:AV}{lp:List (Nat×Nat)}{l:Nat}(H:KN st.h.get F xp cm mp kl lp l)(hi: ∀c,P4 F xp cm mp c→c<st.n)(hL:lp.length≤400)(hl1:1≤l)(hl:l≤9223372036854775807)(p:Nat×Nat): ∃v st',Ev Tryz.prog Q5 136 [.ptr xp 0 0,.agg [iZ (p.1:Nat),iZ (p.2:Nat)]] st v st'∧ ∃k was lp' kl',v=.tup [iN k,.bool (decide ((lp'.length:Int)≤400))]∧Kp lp p lp' k was∧ ∃F',KN st'.h.get F' xp cm mp kl' lp' (l-(lp'.length-lp.length))∧WN st st' (P4 F xp cm mp) (P4 F' xp cm mp)∧UR (P4 F xp cm mp) st st':=by
 have B:=Qk.zd hf H hi;have hkc:=H.acc.cell;refine JI Tryz.func136 Tryz.ntmps136 fun T K=>?_;have M:=B.mem;refine au 3 K M ?_;intro c3 _ _ K _ M;refine QF (l:=[(0,0),(1,0),(2,0),(3,0),(4,0),(5,0),(6,0),(7,0),(8,0),(9,0),(10,0)]) (by kernel_rfl) ?_;refine Jc 5 K M ?_;intro _ K;refine qA rfl K (W2 (a:=p) WA ((B.step M).at_ (k:=1) rfl) rfl rfl) fun _ K=>?_;refine Jc 5 K M ?_;intro _ K;refine QH ?_;show W _ _ _ _ _ _ _;refine Qc 1 K M ?_;intro _ K;refine Qq (K.QJ rfl) (fun h18=>?_) (fun h18=>?_)
 ·have hb18:=h18;refine Qc 3 K M ?_
  obtain⟨v0,hv0⟩: ∃x,Yn (UT 0 lp) p=some x:=by cases hq:Yn (UT 0 lp) p with|none=>rw[hq]at h18;cases h18|some x=>exact⟨x,rfl⟩
  obtain⟨i,hi,rfl⟩:=No hv0;refine⟨i,true,lp,kl,?_,.inl ⟨rfl,rfl,hi⟩,?_⟩
  ·rw[hv0,decide_eq_true (show(lp.length:Int)≤400 by omega)];rfl
  ·rw[show l-(lp.length-lp.length)=l by omega];exact((B.step M).less (.cons _ (.cons_cons _ (.refl _)))).uI
 have hb18:=h18;refine Qc 0 K M ?_;intro _ K
 have hnone:Yn (UT 0 lp) p=none:=by cases hq:Yn (UT 0 lp) p with|none=>rfl|some x=>rw[hq]at h18;cases h18
 refine Qc 4 K M ?_;intro _ K;refine p1 K (Q8 X9 rfl rfl ((UX.len ((B.step M).at_ (k:=0) rfl)).trans (congrArg some (Ys _)))) fun _ K=>?_;refine Qc 1 K M ?_;intro _ K;refine QF (l:=[(0,0),(1,0),(2,0),(3,0),(4,0),(5,0),(6,0)]) (by kernel_rfl) ?_;refine Jc 6 K M ?_;intro _ K;replace B:=B.step M;refine yM (j:=1) (a:=p) rfl K B rfl WA rfl rfl rfl rfl hnone fun _ B=>?_;rw[show UT 0 lp++[(p,iZ (lp.length:Nat))]=UT 0 (lp++[p]) by rw[AM,Nat.zero_add]]at B;have M:=B.mem;refine QH ?_;show W _ _ _ _ _ _ _;refine QD ?_;replace B:=B.step M;obtain⟨Al,hAl,B⟩:=B.Bv
 replace B:=(B.perm List.perm_append_comm).cast (M':=((c3,0,[iZ (p.1:Nat),iZ (p.2:Nat)])::(xp,0,[.mp cm,kl,.ptr mp 0 0])::(Al++[]))) (by simp<;>rfl)
 have M:=B.mem;refine QF (l:=[(1,0),(2,0),(3,0),(4,0),(5,0),(6,0),(7,0),(0,0),(8,0),(9,0),(10,0)]) (by kernel_rfl) ?_;refine Jc 5 K M ?_;intro _ K;refine Xk rfl K M EH ZJ rfl rfl rfl rfl rfl fun c37 _ _ K M=>?_;refine X8 (k2:=0) (L:=[(c37,0,[iZ (p.1:Nat),iZ (p.2:Nat)]),(c3,0,[iZ (p.1:Nat),iZ (p.2:Nat)]),(xp,0,[.mp cm,kl,.ptr mp 0 0])]) (A:=Al) (B:=[]) rfl K M hAl EH rfl rfl rfl rfl (by rw[Ys];omega) rfl fun ks38 A38 _ _ K hA38 M=>?_;refine Jc 3 K M ?_;intro _ K;refine Zi (k:=2) rfl K M rfl rfl rfl IV (hA38.cell) rfl fun _ M=>?_;refine QH ?_;show W _ _ _ _ _ _ _;refine QD ?_;replace B:=B.step M
 obtain⟨F2,B⟩:=Qk.VC (M:=[(c37,0,[iZ (p.1:Nat),iZ (p.2:Nat)]),(c3,0,[iZ (p.1:Nat),iZ (p.2:Nat)]),(xp,0,[.mp cm,ks38,.ptr mp 0 0])]) (A:=A38) (ks:=ks38) (z:=2) (ls:=Kx (lp++[p])) ((B.cast (M':=[(c37,0,[iZ (p.1:Nat),iZ (p.2:Nat)]),(c3,0,[iZ (p.1:Nat),iZ (p.2:Nat)]),(xp,0,[.mp cm,ks38,.ptr mp 0 0])]++A38) (by simp<;>rfl)).perm List.perm_append_comm) (by rw[Da];exact hA38)
 have M:=B.mem;refine QF (l:=[(1,0),(2,0),(3,0),(4,0),(5,0),(0,0),(6,0),(7,0),(8,0),(9,0),(10,0),(11,0),(12,0),(13,0),(14,0),(15,0)]) (by kernel_rfl) ?_;refine Jc 4 K M ?_;intro _ K;replace B:=B.step M;obtain⟨v46,st46,ev46,rfl,hm3,Q3⟩:=Nh B.fresh (show Q4 _ mp 0 [iN l,.bool false]from B.at_ (k:=2) rfl) hl 1 hl1;refine qA rfl K (Qh rfl ev46) fun _ K=>?_;replace B:=B.call (k:=2) (o':=UZ mp (l-1) false) rfl Q3 hm3 (fun c hc=>⟨.inl hc,Nat.lt_of_lt_of_le (B.Yw (k:=2) rfl c hc) Q3.le⟩);have M:=B.mem;refine Jc 6 K M ?_;intro _ K;refine dg rfl K rfl rfl (Q8 X9 rfl rfl ((UX.len ((B.step M).at_ (k:=0) rfl)).trans (congrArg some (Ys _)))) rfl rfl fun _ K=>?_;refine Jc 4 K M ?_;intro _ K;refine QH ?_;show W _ _ _ _ _ _ _;refine Qc 0 K M ?_
 have e8:(lp++[p]).length=lp.length+1:=by simp
 refine⟨lp.length,false,lp++[p],ks38,rfl,.inr ⟨rfl,Np hnone,rfl,rfl⟩,?_⟩;rw[show l-((lp++[p]).length-lp.length)=l-1 by omega];exact((B.step M).less (.cons _ (.cons _ (.cons_cons _ (.refl _))))).uI

theorem qZ{st:St}(hf:Qj st){xp cm mp:Nat}{l:Nat}(H:KN st.h.get Xu xp cm mp .nils [] l)(hi: ∀c,P4 Xu xp cm mp c→c<st.n)(hl1:1≤l)(hl:l≤9223372036854775807): ∃v st',Ev Tryz.prog Q5 136 [.ptr xp 0 0,.agg [.int .i64 0,.int .i64 0]] st v st'∧
  v=.tup [.int .i64 0,.bool true]∧ ∃F' kl',KN st'.h.get F' xp cm mp kl' [(0,0)] (l-1)∧WN st st' (P4 Xu xp cm mp) (P4 F' xp cm mp)∧UR (P4 Xu xp cm mp) st st':=by
 obtain⟨v,st',h1,k,was,lp',kl',h2,h3,F',h4⟩:=Su hf H hi QE hl1 hl (0,0);rcases h3 with⟨_,_,h⟩|⟨rfl,_,rfl,rfl⟩
 ·simp at h
 ·exact⟨v,st',h1,h2,F',kl',h4⟩

theorem TV{st:St}(hf:Qj st){FA FB:Fp}{da db:Nat}{a b:Au}(hDA:Ya st FA da a)(hDB:Ya st FB db b)(ht:b.tr=a.tr){t:Nat}(ht15:t≤15){mp l:Nat}(hm:Q4 st.h.get mp 0 [iN l,.bool false])(hmA: ¬FA mp)(hmB: ¬FB mp)(hl1:401≤l)(hl:l≤9223372036854775807): ∃v st',Ev Tryz.prog Q5 108 [.ptr da 0 0,.ptr db 0 0,iN t,.ptr mp 0 0] st v st'∧eR st st' a b t v∧UR (fun c=>c=mp) st st':=by
 have wfa:=hDA.wf;have wfb:=hDB.wf;have htr:=wfa.tr;have hp6:=JH htr;have hp0:0<2^a.tr:=Nat.two_pow_pos _;have hlna:=wfa.len;have hlnb:=wfb.len;have hena:a.n=a.acc.length:=rfl;have henb:b.n=b.acc.length:=rfl
 have htp:2^b.tr=2^a.tr:=by rw[ht]
 have hdA: ∀c,FA c→ ¬(UZ mp l false).F c:=fun c hc e=>hmA ((show c=mp from e)▸hc);have hdB: ∀c,FB c→ ¬(UZ mp l false).F c:=fun c hc e=>hmB ((show c=mp from e)▸hc);have B:=Qk.UM (o:=UZ mp l false) hf hm (fun c hc=>(show c=mp from hc)▸hm.lt hf);refine JI Tryz.func108 Tryz.ntmps108 fun T K=>?_;have M:=B.mem;refine Qc 3 K M ?_;intro _ K;refine p1 K (Y6 JP rfl rfl) fun _ K=>?_;refine Qc 2 K M ?_;intro _ K;refine pg K rfl rfl (Y6 JP rfl rfl) fun _ K=>?_;refine Qc 3 K M ?_;intro _ K;obtain⟨v31,st31,ev31,rfl,q31⟩:=Xw M.fresh (hDA.Of (B.step M).JO hdA);refine pg K rfl rfl (Qh rfl ev31) fun _ K=>?_;replace M:=M.quiet q31;refine Qc 1 K M ?_;intro _ K;obtain⟨v33,st33,ev33,rfl,q33⟩:=Xw M.fresh (hDB.Of (B.step M).JO hdB);refine pg K rfl rfl (Qh rfl ev33) fun _ K=>?_;replace M:=M.quiet q33;refine Qc 2 K M ?_;intro _ K;refine xK K (Qg rfl) rfl (fun _ e36 K=>?_) fun _ e36 K=>?_
 ·refine Qc 3 K M ?_;intro _ K;refine Un K (Qg rfl) rfl (fun _ e40 K=>?_) fun _ e40 K=>?_
  ·refine Qc 3 K M ?_;intro _ K;refine JS K rfl (fun h43=>?_) fun h43=>?_
   ·exfalso;omega
   refine Qc 0 K M ?_;intro _ K;replace B:=B.step M;refine Wq Xo K B rfl fun c44 _ _ K B=>?_;have M:=B.mem;refine au 4 K M ?_;intro c47 _ _ K _ M;replace B:=(B.step M).ao;have M:=B.mem;refine Qc 1 K M ?_;intro _ K;refine oQ K M (Xw M.fresh (hDA.Of (B.step M).JO hdA)) rfl rfl fun _ _ K M=>?_;refine au 4 K M ?_;intro c11 _ _ K _ M;refine p1 K (ZN A8 Ig Xf ZJ rfl rfl) fun _ K=>?_;replace B:=B.step M;obtain⟨v54,st54,ev54,rfl,F1,kl1,hP1,mf1,Q1⟩:=qZ B.fresh (B.at_ (k:=0) rfl) (B.Yw (k:=0) rfl) Qe hl;refine p1 K (Qh rfl ev54) fun _ K=>?_;replace B:=B.call (k:=0) (o':=ew F1 c47 c44 mp kl1 [(0,0)] (l-1)) rfl Q1 hP1 mf1;have M:=B.mem;refine Qc 9 K M ?_;intro _ K;replace B:=B.step M;obtain⟨v60,st60,ev60,nau,q60⟩:=Ft B.fresh (hDA.Of B.JO hdA);refine p1 K (Qh rfl ev60) fun _ K=>?_;obtain⟨kaA,knA,vsA,Ato,FA,rfl,hAto,B⟩:=B.EO q60 nau;replace B:=B.less (List.sublist_append_left _ _);have hknA:Qu knA=true:=(Xy.rd (B.at_ (k:=0) rfl)).cell;have hkaA:=hAto.cell;have M:=B.mem;refine p1 K (EM rfl ((Zy _).trans (Qf Q6 rfl))) fun _ K=>?_;refine Qc 1 K M ?_;intro _ K;replace B:=B.step M;obtain⟨v63,st63,ev63,nau,q63⟩:=Ft B.fresh (hDB.Of B.JO hdB);refine p1 K (Qh rfl ev63) fun _ K=>?_;obtain⟨kaB,knB,vsB,Ato,FB,rfl,hAto,B⟩:=B.EO q63 nau;replace B:=B.less (List.sublist_append_left _ _);have hknB:Qu knB=true:=(Xy.rd (B.at_ (k:=0) rfl)).cell;have hkaB:=hAto.cell;have M:=B.mem;refine p1 K (EM rfl ((Zy _).trans (Qf Q6 rfl))) fun _ K=>?_;refine Qc 2 K M ?_;intro _ K;replace B:=(B.step M).V1;have M:=B.mem;refine Qc 1 K M ?_;intro _ K;refine Je (fun mm1 T st9=> ∃(i:Nat) (lp:List (Nat×Nat)) (kl:AV) (Fl:Fp) (rows:List (List Int)) (vs:List AV) (Fr:Fp) (ka:AV) (Aa:QP) (kr:AV) (Ar:QP),mm1=400-i∧QZ [(0,.ptr da 0 0),(1,.ptr db 0 0),(2,iN t),(10,.ptr c47 0 0),(11,.ptr c11 0 0),(14,knA),(15,knB),(16,iN i)] T∧Qk st (UZ mp l false).F st9 ((c11,0,[iZ (a.tr:Nat),ka,kr])::(Aa++(Ar++[]))) [EC Fr vs rows,BG FB knB vsB b.nx,BG FA knA vsA a.nx,ew Fl c47 c44 mp kl lp (l-lp.length)]∧Vr (Oe a b) (0,0) (2^a.tr) lp rows []∧rows.length=i∧i≤lp.length∧lp.length≤400∧Acc 0 1 Aa ka (bC ((lp.take i).map (Ib a b t)))∧YS Ar kr vs) (fun mm1 T st9 hI=>?_) _ _ _ ⟨0,[(0,0)],kl1,F1,[],[],_,.nils,[],.nils,[],rfl,(K.sub rfl),(B.step M).less (.refl _),(Vr.start _ _ _),rfl,QE,QE,.none,.none⟩;obtain⟨i,lp,kl,Fl,rows,vs,Fr,ka,Aa,kr,Ar,rfl,K,B,hP,hrl,hil,hlp,hAa,hAr⟩:=hI;have M:=B.mem;have hall:=hP.jf wfa wfb ht;refine Qc 4 K M ?_;intro _ K;refine p1 K (Qd rfl (Q0 (KN.row ((B.step M).at_ (k:=3) rfl)).Jf (Qf EE rfl))) fun _ K=>p1 K (Q8 X9 rfl rfl ((UX.len ((B.step M).at_ (k:=3) rfl).acc).trans (congrArg some (Ys _)))) fun _ K=>?_;refine Qc 1 K M ?_;intro _ K;refine JS K rfl (fun h71=>?_) fun h71=>?_
   ·refine Qc 3 K M ?_;intro _ K;refine p1 K (Qd rfl (Q0 (KN.row ((B.step M).at_ (k:=3) rfl)).Jf (Qf EE rfl))) fun _ K=>?_;refine Qc 1 K M ?_;intro _ K;obtain⟨pr79,hi79⟩:=U9 lp i Qe;have hpb79:=hall pr79 (List.mem_of_getElem? hi79);obtain⟨x79,m79,f79,q79,_,la79,lo79,lp79⟩:=(UX.rd ((B.step M).at_ (k:=3) rfl).acc).load (i:=i) (cs:=_) (WW hi79);refine p1 K (Qb (j:=i) DQ (congrArg some q79) rfl (by rw[Ys];omega)) fun _ K=>p1 K (Qd rfl (la79 _ OU)) fun _ K=>?_;refine au 4 K M ?_;intro c17 _ _ K _ M;refine p1 K (AF (j:=0) Lj Xf rfl rfl QE) fun _ K=>?_;refine Qc 1 K M ?_;intro _ K;obtain⟨s84,hi84⟩:=U9 a.nx (pr79.1) Qe;obtain⟨w84,hv84,hr84,hz84,hf84⟩:=((B.step M).at_ (k:=2) rfl).vs.at_ _ _ hi84;have hw84:=wfa.row s84 (List.mem_of_getElem? hi84);have hl84:s84.length=2^a.tr:=hw84.1;obtain⟨x84,m84,f84,q84,_,la84,lo84,lp84⟩:=((B.step M).at_ (k:=2) rfl).rd.load (i:=pr79.1) (cs:=_) (by rw[List.getElem?_map,hv84];rfl);refine p1 K (Qb (j:=pr79.1) QY (congrArg some q84) rfl (by rw[List.length_map,((B.step M).at_ (k:=2) rfl).vs.ln];omega)) fun _ K=>p1 K (Qd rfl (lo84 _ 0 _ Ja rfl)) fun _ K=>p1 K (Q8 Jr rfl rfl (hr84.len.trans (congrArg some (Qn _)))) fun _ K=>?_;refine Qc 1 K M ?_;intro _ K;refine Je (fun mm2 T st9=> ∃(c:Nat) (lp2:List (Nat×Nat)) (kl2:AV) (Fl2:Fp) (row:List Int) (kw:AV) (Aw:QP),mm2=2^a.tr-c∧QZ [(0,.ptr da 0 0),(1,.ptr db 0 0),(2,iN t),(10,.ptr c47 0 0),(11,.ptr c11 0 0),(14,knA),(15,knB),(16,iN i),(17,.ptr c17 0 0),(18,kw),(71,.bool (decide (((i:Nat):Int)<((lp.length:Nat):Int)))),(85,w84),(86,iZ (s84.length:Nat)),(87,iN c)] T∧Qk st (UZ mp l false).F st9 ((c17,0,[iZ (pr79.1:Nat),iZ (pr79.2:Nat)])::(c11,0,[iZ (a.tr:Nat),ka,kr])::(Aa++(Ar++(Aw++[])))) [EC Fr vs rows,BG FB knB vsB b.nx,BG FA knA vsA a.nx,ew Fl2 c47 c44 mp kl2 lp2 (l-lp2.length)]∧Vr (Oe a b) (0,0) (2^a.tr) lp2 rows row∧row.length=c∧c≤2^a.tr∧lp2.length≤400∧lp2.take (i+1)=lp.take (i+1)∧Acc 0 1 Aw kw (zC row)) (fun mm2 T st9 hI=>?_) _ _ _ ⟨0,lp,kl,Fl,[],.nils,[],rfl,(K.sub rfl),(B.step M).less (.refl _),hP,rfl,(Nat.zero_le _),hlp,rfl,.none⟩;obtain⟨c,lp2,kl2,Fl2,row,kw,Aw,rfl,K,B,hP2,hrow,hcK,hl2,htk,hAw⟩:=hI;have M:=B.mem;have hi2:=Uy htk Qe;refine Qc 1 K M ?_;intro _ K;refine JS K rfl (fun h88=>?_) fun h88=>?_
    ·refine Qc 1 K M ?_;intro _ K;obtain⟨y90,hi90⟩:=U9 s84 c Qe;have hb90:=hw84.2 y90 (List.mem_of_getElem? hi90);obtain⟨z90,rfl⟩: ∃m:Nat,y90=((m:Nat):Int):=⟨_,(Int.toNat_of_nonneg hb90.1).symm⟩;obtain⟨x90,m90,f90,q90,_,la90,lo90,lp90⟩:=(Xy.row ((B.step M).at_ (k:=2) rfl) hi84 hv84).load (i:=c) (cs:=_) (Jt hi90);refine p1 K (Qb (j:=c) Qw (congrArg some q90) rfl (by rw[Qn];omega)) fun _ K=>p1 K (Qd rfl (lo90 _ 0 _ Qr rfl)) fun _ K=>?_;refine Qc 5 K M ?_;intro _ K;refine p1 K (AF (j:=1) Lj Xf rfl rfl QE) fun _ K=>?_;refine Qc 1 K M ?_;intro _ K;obtain⟨s98,hi98⟩:=U9 b.nx (pr79.2) Qe;obtain⟨w98,hv98,hr98,hz98,hf98⟩:=((B.step M).at_ (k:=1) rfl).vs.at_ _ _ hi98;have hw98:=wfb.row s98 (List.mem_of_getElem? hi98);have hl98:s98.length=2^b.tr:=hw98.1;obtain⟨x98,m98,f98,q98,_,la98,lo98,lp98⟩:=((B.step M).at_ (k:=1) rfl).rd.load (i:=pr79.2) (cs:=_) (by rw[List.getElem?_map,hv98];rfl);refine p1 K (Qb (j:=pr79.2) QY (congrArg some q98) rfl (by rw[List.length_map,((B.step M).at_ (k:=1) rfl).vs.ln];omega)) fun _ K=>p1 K (Qd rfl (lo98 _ 0 _ Ja rfl)) fun _ K=>?_;refine Qc 1 K M ?_;intro _ K;obtain⟨y101,hi101⟩:=U9 s98 c Qe;have hb101:=hw98.2 y101 (List.mem_of_getElem? hi101);obtain⟨z101,rfl⟩: ∃m:Nat,y101=((m:Nat):Int):=⟨_,(Int.toNat_of_nonneg hb101.1).symm⟩;obtain⟨x101,m101,f101,q101,_,la101,lo101,lp101⟩:=(Xy.row ((B.step M).at_ (k:=1) rfl) hi98 hv98).load (i:=c) (cs:=_) (Jt hi101);refine p1 K (Qb (j:=c) Qw (congrArg some q101) rfl (by rw[Qn];omega)) fun _ K=>p1 K (Qd rfl (lo101 _ 0 _ Qr rfl)) fun _ K=>p1 K (ZN A8 Ig Xf ZJ rfl rfl) fun _ K=>?_;replace B:=B.step M;obtain⟨v104,st104,ev104,k3,was3,lp3,kl3,rfl,hnum,F3,hP3m,mf3,Q3⟩:=Su B.fresh (B.at_ (k:=3) rfl) (B.Yw (k:=3) rfl) hl2 Qe Qe (z90,z101);refine p1 K (Qh rfl ev104) fun _ K=>?_;have hnl:=hnum.len;rw[show l-lp2.length-(lp3.length-lp2.length)=l-lp3.length by omega]at hP3m;replace B:=B.call (k:=3) (o':=ew F3 c47 c44 mp kl3 lp3 (l-lp3.length)) rfl Q3 hP3m mf3;have M:=B.mem;refine Qc 7 K M ?_;intro _ K;refine Qq (K.QJ rfl) (fun h108=>?_) (fun h108=>?_)
     ·have hb108:=h108
      replace h108: ¬((lp3.length:Int)≤400):=by first|exact of_decide_eq_false h108|exact yF h108|simpa using h108
      refine Qc 2 K M ?_
      have hgo:Oe a b pr79 row.length=(z90,z101):=by unfold Oe;rw[hrow,JJ hi84 hi90,JJ hi98 hi101];rfl
      have hP3:=hnum.pr hP2 Qe (show lp2[rows.length]? =some pr79 by rw[hrl];exact Vc htk hi79) hgo
      have h401:lp3.length=401:=by omega
      exact⟨.inr ⟨rfl,lp3,h401,hP3.nodup,fun Q h0 hs p hp=>hP3.all h0 hs (Nat.two_pow_pos _) hp⟩,(B.step M).JO⟩
     have hb108:=h108
     replace h108:((lp3.length:Int)≤400):=by first|exact of_decide_eq_true h108|exact yT h108|simpa using h108
     refine au 3 K M ?_;intro c111 _ _ K _ M;refine Jg (k2:=0) (L:=((c111,0,[iN k3])::(c17,0,[iZ (pr79.1:Nat),iZ (pr79.2:Nat)])::(c11,0,[iZ (a.tr:Nat),ka,kr])::(Aa++(Ar++[])))) (A:=Aw) (B:=[]) K (Mem.cast (M:=((c111,0,[iN k3])::(c17,0,[iZ (pr79.1:Nat),iZ (pr79.2:Nat)])::(c11,0,[iZ (a.tr:Nat),ka,kr])::(Aa++(Ar++(Aw++[]))))) (M':=((c111,0,[iN k3])::(c17,0,[iZ (pr79.1:Nat),iZ (pr79.2:Nat)])::(c11,0,[iZ (a.tr:Nat),ka,kr])::(Aa++(Ar++[])))++(Aw++[])) M Uu) hAw QM rfl rfl rfl rfl (by rw[Qn];omega) rfl fun ks112 A112 _ _ K hA112 M=>?_;simp only[List.append_assoc,List.cons_append,List.nil_append,List.set_cons_zero,List.set_cons_succ]at M;refine Qc 3 K M ?_;intro _ K
     have hgo:Oe a b pr79 row.length=(z90,z101):=by unfold Oe;rw[hrow,JJ hi84 hi90,JJ hi98 hi101];rfl
     have hP3:=hnum.pr hP2 Qe (show lp2[rows.length]? =some pr79 by rw[hrl];exact Vc htk hi79) hgo;exact⟨_,Qe,c+1,lp3,kl3,F3,(row++[((k3:Nat):Int)]),ks112,A112,rfl,(K.sub rfl),(B.step M).less (.cons _ (.refl _)),hP3,(by rw[List.length_append,hrow];rfl),Qe,Qe,(by rw[hnum.take hi2,htk]),(by rw[JY];exact hA112)⟩
    refine QW ?_;show W _ _ _ _ _ _ _;refine Qc 1 K M ?_;intro _ K;refine p1 K (Qd rfl (M.load (k:=1) rfl (Qf Q6 rfl))) fun _ K=>?_;refine Qc 1 K M ?_;intro _ K;refine ZV K M QU Uv rfl ((JC rfl hAw.cell rfl).trans rfl) (Qa hAw.cell Qz) rfl rfl fun c117 _ _ K M=>?_;refine YL (k2:=0) (L:=((c117,0,[kw])::(c17,0,[iZ (pr79.1:Nat),iZ (pr79.2:Nat)])::(c11,0,[iZ (a.tr:Nat),ka,kr])::(Aa++[]))) (A:=Ar) (B:=(Aw++[])) K (Mem.cast (M:=((c117,0,[kw])::(c17,0,[iZ (pr79.1:Nat),iZ (pr79.2:Nat)])::(c11,0,[iZ (a.tr:Nat),ka,kr])::(Aa++(Ar++(Aw++[]))))) (M':=((c117,0,[kw])::(c17,0,[iZ (pr79.1:Nat),iZ (pr79.2:Nat)])::(c11,0,[iZ (a.tr:Nat),ka,kr])::(Aa++[]))++(Ar++(Aw++[]))) M Uu) hAr QU rfl rfl rfl (by have:=YR.ln ((B.step M).at_ (k:=0) rfl);omega) rfl fun ks118 A118 _ _ K hA118 _ M=>?_;simp only[List.append_assoc,List.cons_append,List.nil_append,List.set_cons_zero,List.set_cons_succ]at M;refine Qc 1 K M ?_;intro _ K;refine Jj (k:=2) K M rfl rfl rfl Uz (hA118.cell) rfl fun _ M=>?_;refine Uo ?_;show W _ _ _ _ _ _ _;refine QF (l:=[(3,0),(4,0),(5,0),(6,0),(7,0),(9,0),(10,0),(11,2),(12,0),(13,0),(0,0),(1,4),(2,0),(8,0),(14,0),(15,0),(16,0),(17,0),(18,0),(19,0),(20,0),(21,0)]) (by kernel_rfl) ?_;have Mq:=M;have Mz0:=M;have Bz0:=B;refine q1 rfl K (Qg rfl) fun _ K=>q1 rfl K (AF (j:=0) Lj Xf rfl rfl QE) fun _ K=>?_;refine Jc 1 K M ?_;intro _ K;obtain⟨v126,st126,ev126,rfl,q126⟩:=V8 M.fresh (hDA.Of (B.step M).JO hdA) (s:=pr79.1) Qe;refine qA rfl K (Qh rfl ev126) fun _ K=>?_;replace M:=M.quiet q126;have Mp:=Mq;have Mq:=M;have Mz1:=M;have Bz1:=B;obtain⟨v127,st127,ev127,rfl,q127⟩:=yb M.fresh (a.ok pr79.1);refine qA rfl K (Qh rfl ev127) fun _ K=>?_;have hbt127:=Tu (a.ok pr79.1);replace M:=M.quiet q127;have Mp:=Mq;have Mq:=M;have Mz2:=M;have Bz2:=B;refine q1 rfl K (Qg rfl) fun _ K=>q1 rfl K (AF (j:=1) Lj Xf rfl rfl QE) fun _ K=>?_
    refine Ws rfl K rfl (M.load (k:=1) rfl (Qf Qr rfl)) QA (by intro s hs;simp only[List.take_succ_cons,List.take_zero,List.mem_cons,List.not_mem_nil,or_false]at hs;rcases hs with rfl|rfl<;>first|exact(Mz1.load (k:=1) rfl (Qf Qr rfl))|exact(Mz0.load (k:=1) rfl (Qf Qr rfl))) (JU rfl) rfl QE fun _ K=>?_
    obtain⟨v132,st132,ev132,rfl,q132⟩:=V8 M.fresh (hDB.Of (B.step M).JO hdB) (s:=pr79.2) Qe;refine qA rfl K (Qh rfl ev132) fun _ K=>?_;replace M:=M.quiet q132;have Mp:=Mq;have Mq:=M;have Mz3:=M;have Bz3:=B;obtain⟨v133,st133,ev133,rfl,q133⟩:=yb M.fresh (b.ok pr79.2);refine qA rfl K (Qh rfl ev133) fun _ K=>?_;have hbt133:=Tu (b.ok pr79.2);replace M:=M.quiet q133;have Mp:=Mq;have Mq:=M;have Mz4:=M;have Bz4:=B;refine Jc 1 K M ?_;intro _ K
    refine Ws rfl K rfl (M.load (k:=2) rfl (Qf Us rfl)) QA (by intro s hs;simp only[List.take_succ_cons,List.take_zero,List.mem_cons,List.not_mem_nil,or_false]at hs;rcases hs with rfl|rfl|rfl|rfl<;>first|exact(Mz3.load (k:=2) rfl (Qf Us rfl))|exact(Mz2.load (k:=2) rfl (Qf Us rfl))|exact(Mz1.load (k:=2) rfl (Qf Us rfl))|exact(Mz0.load (k:=2) rfl (Qf Us rfl))) (JU (Ju hAa.len)) rfl QE fun _ K=>?_
    refine q1 rfl K (Qg rfl) fun _ K=>q1 rfl K (zy (n:=(En (a.ok pr79.1))) rfl rfl Qe) fun _ K=>?_;refine Jc 1 K M ?_;intro _ K;refine q1 rfl K (X3 (a:=t) (n:=((2 *(En (a.ok pr79.1)))+(En (b.ok pr79.2)))) rfl rfl Qe) fun _ K=>q1 rfl K (X5 (a:=(t/2^(((2 *(En (a.ok pr79.1)))+(En (b.ok pr79.2)))))) rfl rfl (Nat.le_trans (Nat.div_le_self _ _) Qe)) fun _ K=>q1 rfl K (ju rfl rfl) fun _ K=>?_;refine Xk rfl K M J5 XZ rfl rfl rfl rfl rfl fun c138 _ _ K M=>?_;refine X8 (k2:=0) (L:=[(c138,0,[.bool (decide (((((t/2^(((2 *(En (a.ok pr79.1)))+(En (b.ok pr79.2))))) % 2):Nat):Int)=1))]),(c117,0,[kw]),(c17,0,[iZ (pr79.1:Nat),iZ (pr79.2:Nat)]),(c11,0,[iZ (a.tr:Nat),ka,ks118])]) (A:=Aa) (B:=(A118++(Aw++[]))) rfl K M hAa J5 rfl rfl rfl rfl (by rw[Jy,List.length_map,List.length_take];omega) rfl fun ks139 A139 _ _ K hA139 M=>?_;have Mp:=Mq;have Mq:=M;have Mz5:=M;have Bz5:=B;refine Jc 1 K M ?_;intro _ K;refine Zi (k:=3) rfl K M rfl rfl rfl UF (hA139.cell) rfl fun _ M=>?_;have Mp:=Mq;have Mq:=M;have Mz6:=M;have Bz6:=B;refine QH ?_;show W _ _ _ _ _ _ _;refine Qc 3 K M ?_;intro _ K;replace B:=B.step M;obtain⟨Fr,B⟩:=Qk.ZF (L:=((c138,0,[.bool (decide (((((t/2^(((2 *(En (a.ok pr79.1)))+(En (b.ok pr79.2))))) % 2):Nat):Int)=1))])::(c117,0,[kw])::(c17,0,[iZ (pr79.1:Nat),iZ (pr79.2:Nat)])::(c11,0,[iZ (a.tr:Nat),ks139,ks118])::(A139++(A118++[])))) (A:=Aw) (B:=[]) (B.cast Uu) hAw (hP2.AU hl2);replace B:=B.cast (M':=((c138,0,[.bool (decide (((((t/2^(((2 *(En (a.ok pr79.1)))+(En (b.ok pr79.2))))) % 2):Nat):Int)=1))])::(c117,0,[kw])::(c17,0,[iZ (pr79.1:Nat),iZ (pr79.2:Nat)])::(c11,0,[iZ (a.tr:Nat),ks139,ks118])::(A139++(A118++[])))) Uu;have M:=B.mem;have hi2:=Uy htk Qe
    have htq:lp.take (i+1)=lp.take i++[pr79]:=by rw[List.take_add_one,hi79];rfl
    exact⟨_,Qe,i+1,lp2,kl2,Fl2,(rows++[row]),_,_,ks139,A139,ks118,A118,rfl,(K.sub rfl),(B.step M).less (.cons _ (.cons _ (.cons _ (.refl _)))),(hP2.whole Qe),(by rw[List.length_append,hrl];rfl),hi2,hl2,(by rw[htk,htq,List.map_append,XS,show bC ([pr79].map (Ib a b t))=[[AV.bool (Ib a b t pr79)]]from rfl,show Ib a b t pr79=_ from yY t _ _];exact hA139),hA118⟩
   refine QW ?_;show W _ _ _ _ _ _ _;refine Qc 1 K M ?_;intro _ K;replace B:=B.step M;have hlt:lp.take i=lp:=List.take_of_length_le Qe;rw[hlt]at hAa;have hMd:=hP.made (p:=Ib a b t) (m:=⟨a.tr,lp.map (Ib a b t),rows⟩) (by show rows.length=_;omega) rfl htr hlp;obtain⟨Fo,B⟩:=Qk.GR (L:=((c11,0,[iZ (a.tr:Nat),ka,kr])::(Aa++[]))) (A:=Ar) (B:=[]) (B.cast Uu) hAr;replace B:=B.cast (M':=((c11,0,[iZ (a.tr:Nat),ka,kr])::(Aa++[]))) Uu;have M:=B.mem;obtain⟨v142,st142,ev142,dp2,F2,rfl,hD2,nf2,q142⟩:=WL (a:=⟨a.tr,lp.map (Ib a b t),rows⟩) B.fresh hMd.wf (Mem.Yl (L:=[(c11,0,[iZ (a.tr:Nat),ka,kr])]) (A:=Aa) (B:=[]) M hAa) (Xy.r (B.at_ (k:=0) rfl));refine p1 K (Qh rfl ev142) fun _ K=>?_;have hle0:=B.le;replace B:=B.quiet q142;have M:=B.mem;refine Qc 4 K M ?_;exact⟨.inl ⟨dp2,F2,lp,_,rfl,⟨hMd,rfl⟩,hD2,fun c hc=>⟨Nat.le_trans hle0 (nf2 c hc).1,(nf2 c hc).2⟩⟩,(B.step M).JO⟩
  exfalso;omega
 exfalso;omega
end Go.Proofs.YtiknomepbklibaaGreatDoor
end
