/-
  A formula's automaton by the reference: the law's of.
-/
import Derived.Test.YtiknomepbklibaaGreatDoorCeR26B
set_option maxHeartbeats 8000000
set_option maxRecDepth 100000
set_option linter.unnecessarySimpa false
set_option linter.unusedSectionVars false
set_option linter.unusedSimpArgs false
set_option linter.unusedVariables false
section
namespace Go.Proofs.YtiknomepbklibaaGreatDoor
open Go Go.RowKit
variable {R:E8} {a b g n:Int} {cs:List AV} {l:List Cr} {o:List Nat} {st:St}

theorem wc(x:Cr):RZ x:=IG (M:=RZ) (fun o a b g n l ih R st cs cp mp lf k E O hf hR hr hRm hcm hmn hcr hl hk6 hc hsz=>xa hf hR hr ih hRm hcm hmn hcr hl hk6 hc hsz) x
def wH(x:Cr)(m:Int):Bool:=decide (0≤m)&&decide (m≤6)&&decide (XS x≤2000)&&Je x m
theorem qV(hf:Qj st)(hR:YN R st.h.get)(hr:Xc R (.mk o a b g n l) cs)(m:Int): ∃v st',Ev Tryz.prog Q0 33 [.agg cs,.int .i64 m] st v st'∧v=.bool (wH (.mk o a b g n l) m)∧Qt st st':=Ss hf hR hr m
theorem uq{x:Cr}{m:Int}(h:wH x m=true): ∃k:Nat,m=((k:Nat):Int)∧k≤6∧XS x≤2000∧Je x ((k:Nat):Int)=true:=by
 unfold wH at h;simp only[Bool.and_eq_true,decide_eq_true_eq]at h;obtain⟨⟨⟨h1,h2⟩,h3⟩,h4⟩:=h;refine⟨m.toNat,(Int.toNat_of_nonneg h1).symm,by omega,h3,?_⟩;rw[Int.toNat_of_nonneg h1];exact h4
theorem Qk.aR{st0:St}{X0:Fp}{M:QT}{Os:List Ob}{cp mp l:Nat}(B:Qk st0 X0 st ((cp,0,[.ptr mp 0 0,.bool false,.bool false])::M) (Yl mp l false::Os)):Qk st0 X0 st M (Ia cp mp false false l::Os):=by
 have B2:=Qk.freeze (R:=[(cp,0,[.ptr mp 0 0,.bool false,.bool false])]) (o:=Xf [(cp,0,[.ptr mp 0 0,.bool false,.bool false])]) (M:=M) B (fun c m x h=>B.row c m x (by rw[List.mem_singleton.1 h];exact List.mem_cons_self ..)) (fun c hc=>hc)
 exact B2.join (o:=Ia cp mp false false l) (fun h1 h2=>⟨h1 cp 0 _ (List.mem_singleton.2 rfl),fun _=>h2⟩) (fun c hc=>by
  rcases hc with hc|hc
  ·exact .inl ⟨0,_,by rw[hc];exact List.mem_singleton.2 rfl⟩
  ·exact .inr hc)
theorem YN.lt(hR:YN R st.h.get)(hf:Qj st){c m:Nat}{r:List AV}(h:R c m r):c<st.n:=by
 obtain⟨ro,e,vs,ms,h2,h3⟩:=hR c m r h
 exact Nat.lt_of_not_le fun hle=>by rw[hf c hle]at h2;cases h2
def aY(st st':St)(x:Cr)(m:Int)(lf:Nat)(v:AV):Prop:= ∃t ka kn ev ok F au s,v=.tup [.agg [.int .i64 t,ka,kn],.int .i64 ev,.bool ok]∧Qu ka=true∧Qu kn=true∧ZK st st' F∧(ok=true→ev=0→wH x m=true∧ZZ st'.h.get F au ka kn∧J4 x m.toNat au s∧s≤lf∧t=((au.tr:Nat):Int))
def aX(st st':St)(x:Cr)(m:Int)(v:AV):Prop:= ∃t ka kn ok F au s,v=.tup [.agg [.int .i64 t,ka,kn],.bool ok]∧Qu ka=true∧Qu kn=true∧ZK st st' F∧(ok=true→XS x≤20∧wH x m=true∧ZZ st'.h.get F au ka kn∧J4 x m.toNat au s∧s≤1073741824∧t=((au.tr:Nat):Int))

theorem Ce(hf:Qj st)(hR:YN R st.h.get){mp lf:Nat}(hr:Xc R (.mk o a b g n l) cs)(hRm: ∀c m r,R c m r→c≠mp)(hm:Q4 st.h.get mp 0 [iN lf,.bool false])(hl:lf≤9223372036854775807)(m:Int): ∃v st',Ev Tryz.prog Q0 52 [.agg cs,iZ m,.ptr mp 0 0] st v st'∧aY st st' (.mk o a b g n l) m lf v∧UO (fun c=>c=mp) st st':=by
 have hr0:=hr;obtain⟨kc,ls,rfl,hK⟩:=hr.Yu;have hln:=hK.ln;have hbn:=hK.Ey;have B:=Qk.UI (o:=Yl mp lf false) hf hm (fun c hc=>(show c=mp from hc)▸hm.lt hf);refine JB Tryz.func52 Tryz.ntmps52 fun T K=>?_;have M:=B.mem;refine QC<|Qw ?_;refine J1 K M rfl (Qb rfl (Qb rfl (Qb rfl (Qb rfl (Qb rfl (Qb hK.cell Q6)))))) QD fun c3 _ _ K M=>?_;refine au 5 K M ?_;intro c6 _ _ K _ M;refine oQ K M (qV M.fresh (fun c m r hr=>(B.step M).YA hf (hR c m r hr) (hRm c m r hr)) hr0 m) rfl rfl fun _ _ K M=>?_;refine Qc 1 K M ?_;intro _ K;refine Qq (K.QH rfl) (fun h14=>?_) (fun h14=>?_)
 ·have hb14:=h14
  replace h14:(wH (.mk o a b g n l) m)=false:=by simpa using h14
  refine au 4 K M ?_;intro _ _ K _ M;refine Ju ⟨.inr rfl,_,(Jt (JD K rfl (M.load (k:=0) rfl (QO Jg rfl))) (Q8 K rfl) (Q8 K rfl)),?_⟩;replace B:=B.step M;exact⟨⟨0,.nils,.nils,1,true,Xv,⟨0,[],[]⟩,0,rfl,rfl,rfl,fun c hc=>hc.elim,fun h1 h2=>by simp at h1 h2⟩,B.JM⟩
 have hb14:=h14
 replace h14:(wH (.mk o a b g n l) m)=true:=by simpa using h14
 refine Qc 0 K M ?_;intro _ K;obtain⟨k,rfl,hk6,hsz,hc⟩:=uq h14;refine au 7 K M ?_;intro c18 _ _ K _ M;replace B:=(B.step M);have hcm:c18≠mp:=fun e=>B.djM (Yl mp lf false) Q7 c18 0 _ (List.mem_cons_self ..) e;have h18:st.n≤c18:=(B.lo c18 0 _ (List.mem_cons_self ..)).resolve_right (fun e=>hcm e);replace B:=Qk.aR (M:=[(c6,0,[iZ 0,.nils,.nils]),(c3,0,[.str o,iZ a,iZ b,iZ g,iZ n,kc])]) B;have B0:=B;obtain⟨v22,st22,ev22,hof,QB⟩:=wc (.mk o a b g n l) R _ _ c18 mp lf k false false B.fresh (fun c m r hr=>B.YA hf (hR c m r hr) (hRm c m r hr)) hr0 (fun c m r hr hc=>by rcases hc with hc|hc;have:=hR.lt hf hr;omega;exact hRm c m r hr hc) hcm (B.Y1 (k:=0) rfl mp (.inr rfl)) (B.at_ (k:=0) rfl) hl hk6 hc hsz;refine p1 K (Qh rfl ev22) fun _ K=>?_;obtain⟨t1,ka1,kn1,E1,O1,F1,m1,s1,rfl,hka1,hkn1,hnf1,hcm1,hq1⟩:=hof;replace B:=B.call (k:=0) (o':=Ia c18 mp E1 O1 (lf-s1)) rfl QB hcm1 (UA fun c hc=>Nat.lt_of_lt_of_le (B.Y1 (k:=0) rfl c hc) QB.le);replace B:=B0.Zq (k:=0) (o:=Hd F1 (E1||O1) m1 ka1 kn1) (om':=Ia c18 mp E1 O1 (lf-s1)) rfl rfl (B.ZV Q7) (fun hb=>(hq1 hb).2.1) hnf1;have M:=B.mem;refine au 1 K M ?_;intro c10 _ _ K _ M;refine QV (k:=0) K M rfl rfl rfl QE rfl (Qb rfl (Qb hka1 (Qb hkn1 Q6))) rfl fun _ M=>?_;refine Qc 3 K M ?_;intro _ K;refine p1 K (Qd rfl (Qz (Q4.Jb ((B.step M).at_ (k:=1) rfl).1) (Qf J3 rfl))) fun _ K=>Up ?_;show W _ _ _ _ _ _ _;refine Qq (K.QH rfl) (fun h26=>?_) (fun h26=>?_)
 ·have hb26:=h26;refine au 4 K M ?_;intro _ _ K _ M;refine Ju ⟨.inr rfl,_,(Jt (JD K rfl (M.load (k:=1) rfl (QO Jg rfl))) (Q8 K rfl) (Q8 K rfl)),?_⟩;replace B:=B.step M;exact⟨⟨0,.nils,.nils,0,false,Xv,⟨0,[],[]⟩,0,rfl,rfl,rfl,fun c hc=>hc.elim,fun h1 h2=>by simp at h1 h2⟩,B.JM⟩
 have hb26:=h26;refine Qc 3 K M ?_;intro _ K;refine p1 K (Qd rfl (Qz (Q4.Jb ((B.step M).at_ (k:=1) rfl).1) (Qf J3 rfl))) fun _ K=>Up ?_;show W _ _ _ _ _ _ _;refine Qq (K.QH rfl) (fun h31=>?_) (fun h31=>?_)
 ·have hb31:=h31;refine au 4 K M ?_;intro _ _ K _ M;refine Ju ⟨.inr rfl,_,(Jt (JD K rfl (M.load (k:=1) rfl (QO Jg rfl))) (Q8 K rfl) (Q8 K rfl)),?_⟩;replace B:=B.step M;exact⟨⟨0,.nils,.nils,8,true,Xv,⟨0,[],[]⟩,0,rfl,rfl,rfl,fun c hc=>hc.elim,fun h1 h2=>by simp at h1 h2⟩,B.JM⟩
 have hb31:=h31;refine Qc 1 K M ?_;intro _ K;refine QV (k:=1) K M rfl rfl rfl QE rfl (Qb rfl (Qb hka1 (Qb hkn1 Q6))) rfl fun _ M=>?_;refine Qc 2 K M ?_;intro _ K;refine Ju ⟨.inr rfl,_,(Jt (JD K rfl (M.load (k:=1) rfl (QO Jg rfl))) (Q8 K rfl) (Q8 K rfl)),?_⟩;replace B:=B.step M;have he1:(E1||O1)=false:=(by simp_all);exact⟨⟨_,ka1,kn1,0,true,F1,m1,s1,rfl,hka1,hkn1,fun c hc=>⟨(B.Li (k:=0) rfl c hc).resolve_right fun e=>B.Jy (j:=0) (k:=1) rfl rfl QD c hc (.inr e),B.Y1 (k:=0) rfl c hc⟩,fun _ _=>⟨h14,B.at_ (k:=0) rfl he1,(hq1 he1).2.2.1,(hq1 he1).2.2.2.1,(hq1 he1).2.2.2.2⟩⟩,B.JM⟩

theorem jY(hf:Qj st)(hR:YN R st.h.get)(hr:Xc R (.mk o a b g n l) cs)(m:Int): ∃v st',Ev Tryz.prog Q0 19 [.agg cs,iZ m] st v st'∧aX st st' (.mk o a b g n l) m v∧Qt st st':=by
 have hr0:=hr;obtain⟨kc,ls,rfl,hK⟩:=hr.Yu;have hln:=hK.ln;have hbn:=hK.Ey;have B:=Qk.start hf;refine JB Tryz.func19 Tryz.ntmps19 fun T K=>?_;have M:=B.mem;refine QC<|Qw ?_;refine J1 K M rfl (Qb rfl (Qb rfl (Qb rfl (Qb rfl (Qb rfl (Qb hK.cell Q6)))))) QD fun c2 _ _ K M=>?_;refine au 3 K M ?_;intro c4 _ _ K _ M;refine oQ K M (Gj M.fresh (M.YN hR) hr0) rfl rfl fun _ _ K M=>?_;refine Qc 1 K M ?_;intro _ K;refine JN K rfl (fun h11=>?_) fun h11=>?_
 ·refine au 3 K M ?_;intro _ _ K _ M;refine Ju ⟨.inr rfl,_,(Ub (JD K rfl (M.load (k:=0) rfl (QO Jg rfl))) (Q8 K rfl)),?_⟩;replace B:=B.step M;exact⟨⟨0,.nils,.nils,false,Xv,⟨0,[],[]⟩,0,rfl,rfl,rfl,fun c hc=>hc.elim,fun h=>by cases h⟩,B.qt⟩
 refine Qc 0 K M ?_;intro _ K;refine QF (l:=[(2,0),(0,1),(1,0),(3,0),(4,0),(5,0),(8,0),(9,0),(6,0),(7,0),(10,0),(11,0)]) (by kernel_rfl) ?_;have Mq:=M;have Bq:=B;replace B:=B.step M;obtain⟨v16,st16,ev16,mp,rfl,hmp,hmr,q16⟩:=CV B.fresh 1073741824;refine qA rfl K (Qh rfl ev16) fun _ K=>?_;have hmp0:=Nat.le_trans B.le hmp;replace B:=B.new (o:=Yl mp 1073741824 false) q16 hmr (fun c hc=>by rw[show c=mp from hc];exact⟨hmp,hmr.lt q16.fresh⟩);have M:=B.mem;have Mp:=Mq;have Mq:=M;have Bp:=Bq;have Bq:=B;refine Js rfl K rfl (M.load (k:=1) rfl (QO Jq rfl)) (Mp.load (k:=1) rfl (QO Jq rfl)) (HQ (by simp[Aj,Ak,WB,Ul hK.len])) rfl QD fun _ K=>?_;refine q1 rfl K (Qg rfl) fun _ K=>?_;replace B:=B.step M;have B0:=B;obtain⟨v17,st17,ev17,hof,QB⟩:=Ce B.fresh (fun c m r hr=>B.YA hf (hR c m r hr) (fun h=>h)) hr0 (fun c m r hr=>by have:=hR.lt hf hr;omega) (show Q4 _ mp 0 [iZ ((1073741824:Nat):Int),.bool false]from B.at_ (k:=0) rfl) QD m;refine qA rfl K (Qh rfl ev17) fun _ K=>?_;obtain⟨t1,ka1,kn1,ev,ok,F1,m1,s1,rfl,hka1,hkn1,hnf1,hq1⟩:=hof
 have hq2:(!(ok&&decide (ev=0)))=false→ok=true∧ev=0:=fun h=>by simpa using h
 replace B:=B.call (k:=0) (o':=FU mp) rfl QB trivial (UA fun c hc=>Nat.lt_of_lt_of_le (B.Y1 (k:=0) rfl c hc) QB.le);replace B:=B0.Zq (k:=0) (o:=Hd F1 (!(ok&&decide (ev=0))) m1 ka1 kn1) (om':=FU mp) rfl rfl (B.ZV Q7) (fun hb=>(hq1 (hq2 hb).1 (hq2 hb).2).2.1) hnf1;have M:=B.mem;have Mp:=Mq;have Mq:=M;have Bp:=Bq;have Bq:=B;refine Jn 2 K M ?_;intro _ K;refine Wr rfl K M Y3 QD fun c6 _ _ K M=>?_;refine Vq (k:=0) rfl K M rfl rfl rfl QE rfl (Qb rfl (Qb hka1 (Qb hkn1 Q6))) rfl fun _ M=>?_;have Mp:=Mq;have Mq:=M;have Bp:=Bq;have Bq:=B;refine Jn 4 K M ?_;intro _ K;refine QI ?_;show W _ _ _ _ _ _ _;refine Qc 2 K M ?_;intro _ K;refine oB K (Qg rfl) rfl fun b23 _ e23 K=>?_;cases b23
 ·refine Qc 3 K M ?_;intro _ K;refine QV (k:=1) K M rfl rfl rfl QE rfl (Qb rfl (Qb hka1 (Qb hkn1 Q6))) rfl fun _ M=>?_;refine Qc 1 K M ?_;intro _ K;refine Ju ⟨.inr rfl,_,(Ub (JD K rfl (M.load (k:=1) rfl (QO Jg rfl))) (Q8 K rfl)),?_⟩;replace B:=B.step M;refine⟨⟨_,ka1,kn1,_,F1,m1,s1,rfl,hka1,hkn1,fun c hc=>⟨B.jS (k:=0) rfl c hc|>.1,B.Y1 (k:=0) rfl c hc⟩,fun h=>?_⟩,B.qt⟩;have hok:ok=true∧ev=0:=(by simp_all);have hq3:=hq1 hok.1 hok.2;exact⟨by omega,hq3.1,B.at_ (k:=0) rfl (by simp[hok]),hq3.2.2.1,hq3.2.2.2.1,hq3.2.2.2.2⟩
 refine Qc 3 K M ?_;intro _ K;refine QV (k:=1) K M rfl rfl rfl QE rfl (Qb rfl (Qb hka1 (Qb hkn1 Q6))) rfl fun _ M=>?_;refine Qc 1 K M ?_;intro _ K;refine Ju ⟨.inr rfl,_,(Ub (JD K rfl (M.load (k:=1) rfl (QO Jg rfl))) (Q8 K rfl)),?_⟩;replace B:=B.step M;refine⟨⟨_,ka1,kn1,_,F1,m1,s1,rfl,hka1,hkn1,fun c hc=>⟨B.jS (k:=0) rfl c hc|>.1,B.Y1 (k:=0) rfl c hc⟩,fun h=>?_⟩,B.qt⟩;have hok:ok=true∧ev=0:=(by simp_all);have hq3:=hq1 hok.1 hok.2;exact⟨by omega,hq3.1,B.at_ (k:=0) rfl (by simp[hok]),hq3.2.2.1,hq3.2.2.2.1,hq3.2.2.2.2⟩
end Go.Proofs.YtiknomepbklibaaGreatDoor
end
section
namespace Go.Proofs.YtiknomepbklibaaGreatDoor
open Go Go.RowKit

section
variable {R:E8} {st:St} {o:List Nat} {a b g n:Int} {l:List Cr} {cs:List AV} {mp lf k s:Nat} {m:Au}
theorem MT(hf:Qj st)(hR:YN R st.h.get)(hr:Xc R (.mk o a b g n l) cs)(hRm: ∀c m r,R c m r→c≠mp)(hm:Q4 st.h.get mp 0 [.int .i64 (lf:Nat),.bool false])(hl:lf≤9223372036854775807)(hk6:k≤6)(hc:Je (.mk o a b g n l) ((k:Nat):Int)=true)(hsz:XS (.mk o a b g n l)≤2000)(hA:J4 (.mk o a b g n l) k m s)(hs:s≤lf):
  ∃v st',Ev Tryz.prog Q0 20 [.agg cs,.int .i64 (k:Nat),.ptr mp 0 0] st v st'∧ ∃dp F,v=.tup [.ptr dp 0 0,.int .i64 0]∧UT st' F dp m∧ZK st st' F∧Q4 st'.h.get mp 0 [.int .i64 (lf-s:Nat),.bool false]∧UO (fun c=>c=mp) st st':=by
 obtain⟨v,st',h1,h2,h3⟩:=NO hf hR hr hRm hm hl hk6 hc hsz;rcases h2 with⟨dp,F,m',s',h4,h5,h6,h7,h8,h9⟩|⟨h4,h5⟩
 ·obtain⟨rfl,rfl⟩:=hA.uniq h5;exact⟨v,st',h1,dp,F,h4,h7,h8,h9,h3⟩
 ·have:=h5 m s hA;omega
end
theorem jQ{st:St}(hf:Qj st)(n:Nat): ∃v st',Ev Tryz.prog Q0 11 [.int .i64 (n:Nat)] st v st'∧ ∃mp,v=.ptr mp 0 0∧st.n≤mp∧Q4 st'.h.get mp 0 [.int .i64 (n:Nat),.bool false]∧Qt st st':=SR hf ((n:Nat):Int)
end Go.Proofs.YtiknomepbklibaaGreatDoor
end
section
namespace Go.Proofs.YtiknomepbklibaaGreatDoor
open Go Go.RowKit
variable {k:Nat} {m:Au} {o:List Nat} {x:Cr}

def P0(m:Au):Prop:= ∀w,Vj m.K w→m.ok (m.run 0 (w++[0]))=m.ok (m.run 0 w)
theorem H9{K:Nat}{v w:List Nat}(h:Vj K v)(h':Vj K w):Vj K (v++w):=fun c hc=>(List.mem_append.1 hc).elim (h c) (h' c)
theorem EY{K:Nat}(hK:0<K):Vj K [0]:=fun c hc=>by rw[List.mem_singleton.1 hc];exact hK
theorem JS.ends{r:Au}(h:JS r m)(e:P0 r):P0 m:=fun w hw=>by
 have hr:=VJ h.tr hw;rw[h.like w hw,h.like _ (H9 hw (EY (Nat.two_pow_pos _))),e w hr]
theorem qc{a b d n:Nat}(hn:n≤20)(hk:k≤6):P0 (ZI o a b d n k):=fun w hw=>by
 have hl:(ZI o a b d n k).run 0 w<31:=by
  have:=(NZ (o:=o) (a:=a) (b:=b) (d:=d) (n:=n) hk).Iu w (s:=0) (by rw[Ig];decide) hw
  rwa [Ig]at this
 rw[Au.KZ,Au.LF,Au.z6,Pn hl (Nat.two_pow_pos k),Oa (Hn _ _),Oa hl];exact y8 hn hl
theorem xC{p:Au}{acc:List Bool}(W:Zl p)(hk:k<p.tr)(hc:WO p k acc)(e:P0 p){w:List Nat}(hw:Vj (2^(p.tr-1)) w):anyS acc ((w++[0]).foldl (JK p k) [0])=anyS acc (w.foldl (JK p k) [0]):=by
 have hw0:Vj (2^(p.tr-1)) (w++[0]):=H9 hw (EY (Nat.two_pow_pos _));rw[Bool.eq_iff_iff,Pt W hk hc hw0,Pt W hk hc hw];constructor
 ·rintro⟨us,h1,h2,r,h3,h4⟩
  obtain⟨vs,u,rfl⟩: ∃vs u,us=vs++[u]:=by
   rcases List.eq_nil_or_concat us with rfl|⟨vs,u,h⟩
   ·simp at h1
   ·exact⟨vs,u,by rw[h,List.concat_eq_append]⟩
  have hl:vs.length=w.length:=by simpa using h1
  have hu:u≤1:=h2 u Q7;refine⟨vs,hl,fun x hx=>h2 x (by simp[hx]),UQ k 0 u::r,fun c hc=>?_,?_⟩
  ·rcases List.mem_cons.1 hc with rfl|hc
   ·exact vB k hu
   ·exact h3 c hc
  ·rw[List.zipWith_append (by rw[hl])]at h4;rw[List.append_assoc]at h4;exact h4
 ·rintro⟨us,h1,h2,r,h3,h4⟩
  have hz:Vj p.K (List.zipWith (UQ k) w us):=KW hk hw h2
  have ext: ∀u,u≤1→(us++[u]).length=(w++[0]).length∧(∀x∈us++[u],x≤1)∧List.zipWith (UQ k) (w++[0]) (us++[u])=List.zipWith (UQ k) w us++[UQ k 0 u]:=fun u hu=>
   ⟨by simp[h1],fun x hx=>by
    rcases List.mem_append.1 hx with hx|hx
    ·exact h2 x hx
    ·rw[List.mem_singleton.1 hx];exact hu,by rw[List.zipWith_append h1.symm];rfl⟩
  cases r with
  |nil=>
   obtain⟨k1,k2,k3⟩:=ext 0 QD;refine⟨us++[0],k1,k2,[],(fun c hc=>nomatch hc),?_⟩;rw[k3,AH,Nat.zero_mul,List.append_nil,e _ hz];rw[List.append_nil]at h4;exact h4
  |cons c r=>
   obtain⟨u,hu,rfl⟩: ∃u,u≤1∧c=UQ k 0 u:=by
    rcases h3 c Q7 with rfl|rfl
    ·exact⟨0,by decide,by rw[AH,Nat.zero_mul]⟩
    ·exact⟨1,by decide,by rw[AH,Nat.one_mul]⟩
   obtain⟨k1,k2,k3⟩:=ext u hu;refine⟨us++[u],k1,k2,r,fun c hc=>h3 c (by simp[hc]),?_⟩;rw[k3,List.append_assoc];exact h4
theorem wQ{a b g n m:Int}{l:List Cr}(h:Je (.mk o a b g n l) m=true):n.toNat≤20:=by
 rw[Je]at h;simp only[Bool.and_eq_true]at h;have:=h.2.2.1;unfold Ug at this
 split at this<;>simp at this<;>omega
theorem HV{a b g n m:Int}{l:List Cr}(h:Je (.mk o a b g n l) m=true)(hx:x∈l):Je x (if o=[101,120]then m+1 else m)=true∧(o=[101,120]→m<6):=by
 rw[Je]at h;simp only[Bool.and_eq_true]at h;have h4:=h.2.2.2
 by_cases e:o=[101,120]
 ·rw[if_pos e]at h4 ⊢;simp only[Bool.and_eq_true,decide_eq_true_eq]at h4;exact⟨WJ h4.2.2.2.2 hx,fun _=>h4.2.1⟩
 ·rw[if_neg e]at h4 ⊢;simp only[Bool.and_eq_true]at h4;exact⟨WJ h4.2.2.2 hx,fun h=>absurd h e⟩
theorem J4.ends{x:Cr}{k s:Nat}{m:Au}(h:J4 x k m s):k≤6→Je x ((k:Nat):Int)=true→P0 m:=by
 induction h with
 |atom _ _ _ h=>intro hk hc;exact h.ends (qc (wQ hc) hk)
 |not ho hx h ih=>
  intro hk hc;subst ho;have e:=ih hk (HV hc Q7).1;refine h.ends fun w hw=>?_;have hw0:Vj _ (w++[0]):=H9 hw (EY (Nat.two_pow_pos _));rw[SN hx.wf hw0 hx.wf.pos,SN hx.wf hw hx.wf.pos,e w hw]
 |and ho hx hy hb h ih1 ih2=>
  intro hk hc;subst ho;have e1:=ih1 hk (HV hc Q7).1;have e2:=ih2 hk (HV hc Q7).1;refine h.ends fun w hw=>?_;have hp:=VJ hb.2 hw;have hq:=VJ (hx.tr.trans hy.tr.symm) hp;rw[hb.O6 (H9 hp (EY (Nat.two_pow_pos _))),hb.O6 hp,e1 w hp,e2 w hq]
 | @ex o a b d n x k s p r m acc L ho hx hc hm ht h ih=>
  intro hk hcb;subst ho;obtain⟨h1,h2⟩:=HV hcb (List.mem_singleton.2 rfl);rw[if_pos rfl]at h1;have h6:=h2 rfl;have e:=ih Qe (by simpa using h1);refine h.ends fun w hw=>?_;have hpt:=hx.tr
  have hw':Vj (2^(p.tr-1)) w:=fun c hc'=>by rw[hpt,Nat.add_sub_cancel,←ht];exact hw c hc'
  rw[hm.O6 (H9 hw (EY (Nat.two_pow_pos _))),hm.O6 hw];exact xC hx.wf (by rw[hpt];omega) hc e hw'
theorem CS(a:Au): ∀(v w:List Int) (s:Nat),X7 a s (v++w)=(X7 a s v).bind fun t=>X7 a t w
 |[],w,s=>rfl
 |c::v,w,s=>by
  rw[List.cons_append,X7,X7]
  split
  ·exact CS a v w _
  ·rfl
theorem Gf{a:Au}: ∀{w:List Int} {s t:Nat},X7 a s w=some t→ ∃wn,w=zN wn∧Vj a.K wn∧t=a.run s wn
 |[],s,t,h=>by injection h with h;exact⟨[],rfl,fun c hc=>(by cases hc),h.symm⟩
 |c::w,s,t,h=>by
  rw[X7]at h
  split at h
  ·next hc=>
   obtain⟨wn,rfl,h1,h2⟩:=Gf h;refine⟨c.toNat::wn,?_,fun x hx=>?_,h2⟩
   ·show _=((c.toNat:Nat):Int)::_;rw[Int.toNat_of_nonneg hc.1]
   ·rcases List.mem_cons.1 hx with rfl|hx
    ·unfold Au.K;have h1:=hc.1;have h2:=hc.2
     have e:((2:Int)^a.tr)=((2^a.tr:Nat):Int):=by simp
     rw[e]at h2;omega
    ·exact h1 x hx
  ·cases h
theorem J4.uP{s:Nat}(h:J4 x k m s)(hk:k≤6)(hc:Je x ((k:Nat):Int)=true)(w:List Int):(X7 m 0 w=none∧X7 m 0 (w++[0])=none)∨ ∃s t,X7 m 0 w=some s∧X7 m 0 (w++[0])=some t∧m.ok t=m.ok s:=by
 rw[CS]
 cases e:X7 m 0 w with
 |none=>exact .inl ⟨rfl,rfl⟩
 |some s=>
  obtain⟨wn,rfl,h1,rfl⟩:=Gf e;refine .inr ⟨_,_,rfl,?_,h.ends hk hc wn h1⟩
  have h0:(0:Int)<2^m.tr:=by
   have:(2^m.tr:Int)=((2^m.tr:Nat):Int):=by simp
   rw[this];exact_mod_cast Nat.two_pow_pos _
  show X7 m _ [0]=_;rw[X7,if_pos ⟨Int.le_refl 0,h0⟩,Au.KZ];rfl
def eQ:Option Nat→Int
 |some s=>((s:Nat):Int)
 |none=> -1
def vK(a:Au):Option Nat→Bool
 |some s=>a.ok s
 |none=>false
theorem Sm(a:Au)(o:Option Nat):vJ a o=.tup [.int .i64 (eQ o),.bool (vK a o)]:=by cases o<;>rfl
theorem J4.uQ{s:Nat}(h:J4 x k m s)(hk:k≤6)(hc:Je x ((k:Nat):Int)=true)(w:List Int):eQ (X7 m 0 (w++[0]))<0∨vK m (X7 m 0 w)=vK m (X7 m 0 (w++[0])):=by
 rcases h.uP hk hc w with⟨e1,e2⟩|⟨s,t,e1,e2,e3⟩
 ·rw[e2];exact .inl QD
 ·rw[e1,e2];exact .inr e3.symm
end Go.Proofs.YtiknomepbklibaaGreatDoor
end
section
namespace Go.Proofs.YtiknomepbklibaaGreatDoor
open Go Go.RowKit

theorem DY{R:E8}{st:St}(hf:Qj st)(hR:YN R st.h.get){o:List Nat}{a b g n:Int}{l:List Cr}{cs:List AV}(hr:Xc R (.mk o a b g n l) cs)(m:Int){w:List Int}{kw:AV}(hw:Jj st.h.get [] 1 (zC w) kw): ∃v st',Ev Tryz.prog Q0 8 [.agg cs,iZ m,kw] st v st'∧v=.bool true:=by
 have hr0:=hr;obtain⟨kc,ls,rfl,hK⟩:=hr.Yu;have hln:=hK.ln;have hbn:=hK.Ey
 have hbnw:(w.length:Int)≤9223372036854775807:=by have:=hw.Ey;rw[Ql]at this;exact this
 have hwc:=hw.cell;have B:=Qk.start hf;refine JB Tryz.func8 Tryz.ntmps8 fun T K=>?_;have M:=B.mem;refine QC<|Qw ?_;refine J1 K M rfl (Qb rfl (Qb rfl (Qb rfl (Qb rfl (Qb rfl (Qb hK.cell Q6)))))) QD fun c3 _ _ K M=>?_;refine Qc 3 K M ?_;intro _ K;replace B:=B.step M;obtain⟨v18,st18,ev18,hof1,q18⟩:=jY B.fresh (fun c m r hr=>B.YA hf (hR c m r hr) (fun h=>h)) hr0 m;refine p1 K (Qh rfl ev18) fun _ K=>?_;obtain⟨t1,ka1,kn1,ok1,F1,m1,s1,rfl,hka1,hkn1,hnf1,hq1⟩:=hof1;replace B:=B.new (o:=Hd F1 (!ok1) m1 ka1 kn1) q18 (fun hb=>(hq1 (by simpa using hb)).2.2.1) hnf1;have M:=B.mem;refine au 4 K M ?_;intro c7 _ _ K _ M;refine QV (k:=0) K M rfl rfl rfl QE rfl (Qb rfl (Qb hka1 (Qb hkn1 Q6))) rfl fun _ M=>?_;refine Qc 3 K M ?_;intro _ K;refine oB K (Qg rfl) rfl fun b23 _ e23 K=>?_;cases b23
 · replace e23:(ok1)=true:=by simpa using e23
   refine Qc 1 K M ?_;intro _ K;refine pg K rfl rfl (QA Jh rfl rfl (hw.len.trans (congrArg some (Ql _)))) fun _ K=>?_;refine Qc 2 K M ?_;intro _ K;refine JN K rfl (fun h27=>?_) fun h27=>?_
   · refine Qc 1 K M ?_
     first
      |rfl
      |(exfalso;omega)
      |(exfalso;simp_all;done)
      |(simp;omega)
   refine Qc 0 K M ?_;intro _ K;obtain⟨hsz1,his1,-,hA1,hs1,rfl⟩:=hq1 (by simp_all);obtain⟨k,rfl,hk6,-,hc1⟩:=uq his1;rw[Int.toNat_natCast]at hA1;replace B:=(B.step M).view (k:=0) (o':=Hd F1 false m1 ka1 kn1) rfl (fun _=>(B.step M).at_ (k:=0) rfl (by simp_all)) (fun c hc=>hc);have hkl1:=ZZ.len (B.at_ (k:=0) rfl rfl);have hknl1:=ZZ.jU (B.at_ (k:=0) rfl rfl);have M:=B.mem;have wf1:=hA1.wf;have htr1:=hA1.tr;have hge1:=hA1.ge;have hps1:=hA1.pos;have hmn1:=wf1.most;have hacl1:m1.acc.length=m1.n:=rfl;refine QF (l:=[(2,0),(0,1),(1,0),(3,0),(4,0),(5,0),(6,0),(7,0),(8,0)]) (by kernel_rfl) ?_;have Mq:=M;have Bq:=B;replace B:=B.step M;obtain⟨v31,st31,ev31,mp31,rfl,hmp31,hrmp31,q31⟩:=jQ B.fresh 1073741824;refine qA rfl K (Qh rfl ev31) fun _ K=>?_;have hzmp31:st.n≤mp31:=Nat.le_trans B.le hmp31;replace B:=B.new (o:=Yl mp31 1073741824 false) q31 hrmp31 (fun c hc=>by rw[show c=mp31 from hc];exact⟨hmp31,hrmp31.lt q31.fresh⟩);have M:=B.mem;have Mp:=Mq;have Mq:=M;have Bp:=Bq;have Bq:=B;refine Js rfl K rfl (M.load (k:=1) rfl (QO Jq rfl)) (Mp.load (k:=1) rfl (QO Jq rfl)) (HQ (by simp[Aj,Ak,WB,Ul hK.len])) rfl QD fun _ K=>?_;refine q1 rfl K (Qg rfl) fun _ K=>?_;replace B:=B.step M;have B0:=B;obtain⟨v32,st32,ev32,dp32,Fd32,rfl,hDd32,hNd32,hRd32,QB⟩:=MT B.fresh (fun c m r hr=>B.YA hf (hR c m r hr) (fun h=>h)) hr0 (fun c m r hr=>by have:=hR.lt hf hr;omega) (show Q4 _ mp31 0 [iZ ((1073741824:Nat):Int),.bool false]from B.at_ (k:=0) rfl) Qe hk6 hc1 Qe hA1 Qe;refine qA rfl K (Qh rfl ev32) fun _ K=>?_;replace B:=B.call (k:=0) (o':=Yl mp31 (1073741824-s1) false) rfl QB hRd32 (UA fun c hc=>Nat.lt_of_lt_of_le (B.Y1 (k:=0) rfl c hc) QB.le);replace B:=B0.Zq (k:=0) (o:=HU Fd32 dp32 m1) (om':=Yl mp31 (1073741824-s1) false) rfl rfl (B.ZV Q7) hDd32.at_ hNd32;have M:=B.mem;have Mp:=Mq;have Mq:=M;have Bp:=Bq;have Bq:=B;refine Jn 5 K M ?_;intro _ K;refine QI ?_;show W _ _ _ _ _ _ _;refine Qc 2 K M ?_;intro _ K;refine xc K (Qg rfl) rfl (fun _ e37 K=>?_) fun _ e37 K=>?_
   · refine Qc 1 K M ?_;intro _ K;refine pg K rfl rfl (Yc JX rfl rfl) fun _ K=>?_;refine Qc 2 K M ?_;intro _ K;have hE:=hA1.uQ hk6 hc1 w;refine Qc 2 K M ?_;intro _ K;obtain⟨v44,st44,ev44,hv44,q44⟩:=uX M.fresh ((B.step M).MO (k:=0) rfl) ((B.step M).Ov hf hw);refine p1 K (Qh rfl ev44) fun _ K=>?_;rw[Sm]at hv44;subst hv44;replace M:=M.quiet q44;refine au 8 K M ?_;intro c49 _ _ K _ M;replace M:=Mem.cast (M':=((c7,0,[iZ (m1.tr:Nat),ka1,kn1])::(c3,0,[.str o,iZ a,iZ b,iZ g,iZ n,kc])::([(c49,0,[])]++[]))) (Mem.perm M (List.perm_append_comm (α:=Nat×Nat×List AV) (l₁:=[(c49,0,[])]) (l₂:=[(c7,0,[iZ (m1.tr:Nat),ka1,kn1]),(c3,0,[.str o,iZ a,iZ b,iZ g,iZ n,kc])]))) Ux;have hA0c49:Acc _ 1 [(c49,0,[])] (.sl c49 0 0 0 1) []:=Acc.own (z:=1) (c:=c49) (m:=0) (ls:=[]) ((M.own c49 0 [] Q7).resolve_right (fun h=>by have hq:=M.nodup;simp at h hq;omega)) Q7 Q7;refine GX (L:=[(c7,0,[iZ (m1.tr:Nat),ka1,kn1]),(c3,0,[.str o,iZ a,iZ b,iZ g,iZ n,kc])]) (A:=[(c49,0,[])]) (B:=[]) K M hA0c49 QL rfl rfl ((B.step M).Ov hf hw) (EC _) (by(simp only[List.length_append,List.length_nil,Ql];omega)) rfl fun ks51 A51 _ _ K hA51 M=>?_;replace hA51:=hA51.z0;refine au 1 K M ?_;intro c52 _ _ K _ M;refine QZ (k2:=0) (L:=[(c52,0,[iZ 0]),(c7,0,[iZ (m1.tr:Nat),ka1,kn1]),(c3,0,[.str o,iZ a,iZ b,iZ g,iZ n,kc])]) (A:=A51) (B:=[]) K M hA51 QL rfl rfl rfl rfl (by(simp only[List.length_append,List.length_nil,Ql];omega)) rfl fun ks53 A53 _ _ K hA53 M=>?_;obtain⟨v54,st54,ev54,hv54,q54⟩:=uX M.fresh ((B.step M).MO (k:=0) rfl) (show Jj _ [] 1 (zC (w++[0])) _ by rw[JT];exact(Mem.Yx (L:=[(c52,0,[iZ 0]),(c7,0,[iZ (m1.tr:Nat),ka1,kn1]),(c3,0,[.str o,iZ a,iZ b,iZ g,iZ n,kc])]) (A:=A53) (B:=[]) M hA53));refine p1 K (Qh rfl ev54) fun _ K=>?_;rw[Sm]at hv54;subst hv54;replace M:=M.quiet q54;refine Qc 7 K M ?_;intro _ K;refine Un K (Qg rfl) rfl (fun _ e59 K=>?_) fun _ e59 K=>?_
     · refine Qc 2 K M ?_;intro _ K;refine pg K rfl rfl (Z0 Yn rfl rfl) fun _ K=>?_;refine Qc 1 K M ?_;intro _ K;refine oB K (Qg rfl) rfl fun b64 _ e64 K=>?_;cases b64
       · refine Qc 3 K M ?_
         first
          |rfl
          |(exfalso;omega)
          |(exfalso;simp_all;done)
          |(simp;omega)
       have ev65:=Nt;refine pg K rfl rfl (Qh rfl (ev65 _)) fun _ K=>?_;refine Qc 2 K M ?_
       first
        |rfl
        |(exfalso;omega)
        |(exfalso;simp_all;done)
        |(simp;omega)
     refine Qc 5 K M ?_;intro _ K;have ev65:=Nt;refine pg K rfl rfl (Qh rfl (ev65 _)) fun _ K=>?_;refine Qc 2 K M ?_
     first
      |rfl
      |(exfalso;omega)
      |(exfalso;simp_all;done)
      |(simp;omega)
   refine Qc 5 K M ?_
   first
    |rfl
    |(exfalso;omega)
    |(exfalso;simp_all;done)
    |(simp;omega)
 replace e23:(ok1)=false:=by simpa using e23
 refine Qc 6 K M ?_
 first
  |rfl
  |(exfalso;omega)
  |(exfalso;simp_all;done)
  |(simp;omega)
end Go.Proofs.YtiknomepbklibaaGreatDoor
end
section
namespace Go.Proofs.YtiknomepbklibaaGreatDoor
open Go Go.RowKit
variable {h:Hp} {xs:List AV}

theorem vA:Tryz.prog.underlying 42=some (.slice 44):=by kernel_rfl
theorem vp:Tryz.prog.cellsOf 44=6:=by kernel_rfl
theorem eJ: ∃f0 f1 f2 f3 f4 f5:Field,Tryz.prog.underlying 44=some (.struct #[f0,f1,f2,f3,f4,f5])∧(f0.type=9∧f0.offset=0)∧(f1.type=3∧f1.offset=1)∧(f2.type=3∧f2.offset=2)∧(f3.type=3∧f3.offset=3)∧(f4.type=3∧f4.offset=4)∧(f5.type=42∧f5.offset=5):=
 ⟨_,_,_,_,_,_,Tryz.underlying44,⟨rfl,rfl⟩,⟨rfl,rfl⟩,⟨rfl,rfl⟩,⟨rfl,rfl⟩,⟨rfl,rfl⟩,⟨rfl,rfl⟩⟩
theorem fz:Tryz.prog.cellsOf 9=1∧Tryz.prog.cellsOf 3=1∧Tryz.prog.cellsOf 42=1:=⟨by kernel_rfl,by kernel_rfl,by kernel_rfl⟩
theorem zB{H:Type}{d:DataW H}(r:Rd Tryz.prog h 9 xs d): ∃s,xs=[.str s]:=by
 have u:Tryz.prog.underlying 9=some .string:=by kernel_rfl
 cases r with
 |bool ht=>rw[u]at ht;cases ht
 |int ht hw=>rw[u]at ht;cases ht
 |str ht hs=>exact⟨_,rfl⟩
 |nil ht=>rw[u]at ht;cases ht
 |none ht=>rw[u]at ht;cases ht
 |row ht hz hr hl' he hm hd=>rw[u]at ht;cases ht
 |agg ht hl' hp hd=>rw[u]at ht;cases ht
theorem qT{H:Type}{t:TypeId}{d:DataW H}(r:Rd Tryz.prog h t xs d):
  (t=44→ ∃k,Xc (Ym h) k xs)∧(t=42→ ∃ks,xs=[ks]∧ ∀o a b g n,∃kids,Xc (Ym h) (.mk o a b g n kids) [.str o,.int .i64 a,.int .i64 b,.int .i64 g,.int .i64 n,ks]):=by
 obtain⟨f0,f1,f2,f3,f4,f5,uN,⟨t0,o0⟩,⟨t1,o1⟩,⟨t2,o2⟩,⟨t3,o3⟩,⟨t4,o4⟩,⟨t5,o5⟩⟩:=eJ;have uK:=vA
 induction r with
 |bool ht=>exact⟨fun e=>(by subst e;rw[uN]at ht;cases ht),fun e=>(by subst e;rw[uK]at ht;cases ht)⟩
 |int ht hw=>exact⟨fun e=>(by subst e;rw[uN]at ht;cases ht),fun e=>(by subst e;rw[uK]at ht;cases ht)⟩
 |str ht hs=>exact⟨fun e=>(by subst e;rw[uN]at ht;cases ht),fun e=>(by subst e;rw[uK]at ht;cases ht)⟩
 |nil ht=>exact⟨fun e=>(by subst e;rw[uN]at ht;cases ht),fun _=>⟨_,rfl,fun o a b g n=>⟨[],.leaf rfl rfl⟩⟩⟩
 |none ht=>exact⟨fun e=>(by subst e;rw[uN]at ht;cases ht),fun _=>⟨_,rfl,fun o a b g n=>⟨[],.leaf rfl rfl⟩⟩⟩
 |row ht hz hr hl he hm hd ih=>
  rename_i t e c m len cells elems rest;refine⟨fun e=>(by subst e;rw[uN]at ht;cases ht),fun e2=>⟨_,rfl,fun o a b g n=>?_⟩⟩;subst e2;rw[uK]at ht
  injection ht with ht
  injection ht with ht
  subst ht;rw[vp]at hl ih ⊢
  have hk: ∀i,∃k,i<len→Xc (Ym h) k ((cells.drop (i *6)).take 6):=fun i=>by
   by_cases hi:i<len
   ·obtain⟨k,hk⟩:=(ih i elems[i] (List.getElem?_eq_getElem (he▸hi))).1 rfl;exact⟨k,fun _=>hk⟩
   ·exact⟨.mk [] 0 0 0 0 [],fun h=>absurd h hi⟩
  obtain⟨f,hf⟩:=Classical.axiomOfChoice hk
  have hlen:((List.range len).map f).length=len:=by simp
  have hmx:(len:Int)≤9223372036854775807:=by
   have h1:(maxLen:Int)≤9223372036854775807:=by decide
   omega
  refine⟨(List.range len).map f,?_⟩
  have:=Xc.node (R:=Ym h) (o:=o) (a:=a) (b:=b) (c:=g) (n:=n) (kids:=(List.range len).map f) (off:=0) hr (by rw[hlen];exact hmx) (by rw[hlen];omega) (fun i k hi=>by
   rw[List.getElem?_map]at hi
   have hlt:i<len:=by
    by_cases hi':i<len
    ·exact hi'
    ·rw[List.getElem?_eq_none (by simp;omega)]at hi;cases hi
   rw[List.getElem?_range hlt]at hi
   injection hi with hi
   rw[←hi,Nat.zero_add]
   exact hf i hlt)
  rw[hlen]at this;exact this
 |agg ht hl hp hd ih=>
  rename_i t fs xs parts;refine⟨fun e=>?_,fun e=>(by subst e;rw[uK]at ht;cases ht)⟩;subst e;rw[uN]at ht
  injection ht with ht
  injection ht with ht
  subst ht;rw[vp]at hl
  obtain⟨a0,a1,a2,a3,a4,a5,rfl⟩: ∃a0 a1 a2 a3 a4 a5,xs=[a0,a1,a2,a3,a4,a5]:=by
   match xs,hl with
   |[a0,a1,a2,a3,a4,a5],_=>exact⟨_,_,_,_,_,_,rfl⟩
  obtain⟨d0,d1,d2,d3,d4,d5,rfl⟩: ∃a0 a1 a2 a3 a4 a5,parts=[a0,a1,a2,a3,a4,a5]:=by
   match parts,hp with
   |[a0,a1,a2,a3,a4,a5],_=>exact⟨_,_,_,_,_,_,rfl⟩
  obtain⟨cs,ci,ck⟩:=fz;have r0:=hd 0 f0 d0 rfl rfl;have r1:=hd 1 f1 d1 rfl rfl;have r2:=hd 2 f2 d2 rfl rfl;have r3:=hd 3 f3 d3 rfl rfl;have r4:=hd 4 f4 d4 rfl rfl;have r5:=(ih 5 f5 d5 rfl rfl).2 t5;rw[t0,o0,cs]at r0;rw[t1,o1,ci]at r1;rw[t2,o2,ci]at r2;rw[t3,o3,ci]at r3;rw[t4,o4,ci]at r4;rw[o5,t5,ck]at r5;obtain⟨s0,e0⟩:=zB r0;obtain⟨s1,e1,_⟩:=Hv r1;obtain⟨s2,e2,_⟩:=Hv r2;obtain⟨s3,e3,_⟩:=Hv r3;obtain⟨s4,e4,_⟩:=Hv r4;obtain⟨ks,e5,hk⟩:=r5
  injection e0 with e0;injection e1 with e1;injection e2 with e2;injection e3 with e3;injection e4 with e4;injection e5 with e5
  subst e0 e1 e2 e3 e4 e5;obtain⟨kids,hk⟩:=hk s0 s1 s2 s3 s4;exact⟨_,hk⟩
theorem qS{H:Type}{d:DataW H}(r:Rd Tryz.prog h 44 xs d): ∃k,Xc (Ym h) k xs:=(qT r).1 rfl
theorem xu(h:Hp):YN (Ym h) h:=fun _ _ _ r=>r
theorem Xc.later{h':Hp}(hl:yM h h'){k:Cr}{cs:List AV}(r:Xc (Ym h) k cs):Xc (Ym h') k cs:=r.mono hl
theorem PZ:LN Tryz.prog [44,9,3,42]=true:=by kernel_rfl
theorem ME{H:Type}{enc:TypeId×Value→H}{W:World}{ml:IT}(hM:ZY W ml){v:Value}{d:DataW H}{p:List MemPlace}(h:DataW.Trod enc Tryz.prog W 0 (fun _=>true) true 44 v d p):
  ∃ml' cs k,ml<+:ml'∧ZY W ml'∧Xc (Ym (Fa ml')) k cs∧WF (Fa ml') (.agg cs)∧Qi (LP ml') (.agg cs)=v:=by
 obtain⟨fuel,h⟩:=h;obtain⟨ml',cs,h1,h2,h3,h4,h5,h6⟩:=lift _ PZ fuel 44 _ d p ml Q7 h hM;obtain⟨k,hk⟩:=qS h6;refine⟨ml',cs,k,h1,h2,hk,h4,?_⟩;obtain⟨e1,e2⟩:=Fy h3 h5
 by_cases hv: ∃cs,v=.agg cs
 ·exact e1 hv
 ·obtain⟨a,rfl,_⟩:=e2 fun cs e=>hv ⟨cs,e⟩;obtain⟨o,a',b,g,n,l⟩:=k;obtain⟨kc,ls,e,_⟩:=hk.Yu;cases e
end Go.Proofs.YtiknomepbklibaaGreatDoor
end
section
namespace Go.Proofs.YtiknomepbklibaaGreatDoor
open Go Go.RowKit

theorem Oj{H:Type}{enc:TypeId×Value→H}{W:World}{v0 v2:Value}{d0 d2:DataW H}{p0 p2:List MemPlace}(h0:DataW.Trod enc Tryz.prog W 0 (fun _=>true) true 44 v0 d0 p0)(k:Int)(h2:DataW.Trod enc Tryz.prog W 0 (fun _=>true) true 54 v2 d2 p2)(n2: ∀cs,v2≠ .agg cs)(hk: -9223372036854775808≤k∧k≤9223372036854775807)(hT:Ez W):
  Calls Tryz.prog 8 #[v0,.int .i64 k,v2] W fun e w'=>e=.returned (.bool true)∧Below W.heap.size W w':=by
 obtain⟨ml1,cs,⟨o,a,b,g,n,l⟩,_,hM1,hr,hw,hc⟩:=ME ZY.nil h0;obtain⟨ml2,kb,b,p12,hM2,hb,hzb,hwb,hcb⟩:=R1 hM1 h2 n2;have hr2:=Xc.later (La p12) hr
 have:=Mg (G:=Q0) (fun _=>rfl) xB mixed (f:=8) (args:=[.agg cs,.int .i64 k,kb]) hM2 ⟨WF.grow (HC p12) _ hw,trivial,hwb,trivial⟩
  (DY (Gb ml2) (R:=Ym (Fa ml2)) (by rw[Hq];exact xu _) hr2 k (by rw[Hq];exact hb)) hT
 rw[show Qs (LP ml2) [.agg cs,.int .i64 k,kb]=[v0,.int .i64 k,v2] by rw[←hc,←hcb,←yb p12 hw];rfl]at this;exact this
end Go.Proofs.YtiknomepbklibaaGreatDoor
end
