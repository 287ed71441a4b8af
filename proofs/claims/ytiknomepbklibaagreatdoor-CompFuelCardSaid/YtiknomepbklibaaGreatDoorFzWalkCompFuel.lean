/-
  A formula's automaton by the reference: the law's of.
-/
import Derived.Test.YtiknomepbklibaaGreatDoorFzR26B
set_option maxHeartbeats 8000000
set_option maxRecDepth 100000
set_option linter.unnecessarySimpa false
set_option linter.unusedSectionVars false
set_option linter.unusedSimpArgs false
set_option linter.unusedVariables false
section
namespace Go.Proofs.YtiknomepbklibaaGreatDoor
open Go Go.RowKit
variable {R:Aq} {a b g n:Int} {cs:List AV} {l:List Cr} {o:List Nat} {st:St}

theorem vt(x:Cr):RE x:=I0 (M:=RE) (fun o a b g n l ih R st cs cp mp lf k E O hf hR hr hRm hcm hmn hcr hl hk6 hc hsz=>zw hf hR hr ih hRm hcm hmn hcr hl hk6 hc hsz) x
def vN(x:Cr)(m:Int):Bool:=decide (0≤m)&&decide (m≤6)&&decide (XE x≤2000)&&Jm x m
theorem qC(hf:Qj st)(hR:YJ R st.h.get)(hr:XN R (.mk o a b g n l) cs)(m:Int): ∃v st',Ev Tryz.prog Q4 33 [.agg cs,.int .i64 m] st v st'∧v=.bool (vN (.mk o a b g n l) m)∧Qt st st':=RV hf hR hr m
theorem jT{x:Cr}{m:Int}(h:vN x m=true): ∃k:Nat,m=((k:Nat):Int)∧k≤6∧XE x≤2000∧Jm x ((k:Nat):Int)=true:=by
 unfold vN at h;simp only[Bool.and_eq_true,decide_eq_true_eq]at h;obtain⟨⟨⟨h1,h2⟩,h3⟩,h4⟩:=h;refine⟨m.toNat,(Int.toNat_of_nonneg h1).symm,by omega,h3,?_⟩;rw[Int.toNat_of_nonneg h1];exact h4
theorem Qk.eT{st0:St}{X0:Fp}{M:QU}{Os:List Ob}{cp mp l:Nat}(B:Qk st0 X0 st ((cp,0,[.ptr mp 0 0,.bool false,.bool false])::M) (Yd mp l false::Os)):Qk st0 X0 st M (HO cp mp false false l::Os):=by
 have B2:=Qk.freeze (R:=[(cp,0,[.ptr mp 0 0,.bool false,.bool false])]) (o:=Xc [(cp,0,[.ptr mp 0 0,.bool false,.bool false])]) (M:=M) B (fun c m x h=>B.row c m x (by rw[List.mem_singleton.1 h];exact List.mem_cons_self ..)) (fun c hc=>hc)
 exact B2.join (o:=HO cp mp false false l) (fun h1 h2=>⟨h1 cp 0 _ (List.mem_singleton.2 rfl),fun _=>h2⟩) (fun c hc=>by
  rcases hc with hc|hc
  ·exact .inl ⟨0,_,by rw[hc];exact List.mem_singleton.2 rfl⟩
  ·exact .inr hc)
theorem YJ.lt(hR:YJ R st.h.get)(hf:Qj st){c m:Nat}{r:List AV}(h:R c m r):c<st.n:=by
 obtain⟨ro,e,vs,ms,h2,h3⟩:=hR c m r h
 exact Nat.lt_of_not_le fun hle=>by rw[hf c hle]at h2;cases h2
def ae(st st':St)(x:Cr)(m:Int)(lf:Nat)(v:AV):Prop:= ∃t ka kn ev ok F au s,v=.tup [.agg [.int .i64 t,ka,kn],.int .i64 ev,.bool ok]∧Qu ka=true∧Qu kn=true∧ZJ st st' F∧(ok=true→ev=0→vN x m=true∧ZX st'.h.get F au ka kn∧JN x m.toNat au s∧s≤lf∧t=((au.tr:Nat):Int))
def eZ(st st':St)(x:Cr)(m:Int)(v:AV):Prop:= ∃t ka kn ok F au s,v=.tup [.agg [.int .i64 t,ka,kn],.bool ok]∧Qu ka=true∧Qu kn=true∧ZJ st st' F∧(ok=true→XE x≤20∧vN x m=true∧ZX st'.h.get F au ka kn∧JN x m.toNat au s∧s≤1073741824∧t=((au.tr:Nat):Int))

theorem BG(hf:Qj st)(hR:YJ R st.h.get){mp lf:Nat}(hr:XN R (.mk o a b g n l) cs)(hRm: ∀c m r,R c m r→c≠mp)(hm:Q0 st.h.get mp 0 [iN lf,.bool false])(hl:lf≤9223372036854775807)(m:Int): ∃v st',Ev Tryz.prog Q4 52 [.agg cs,iZ m,.ptr mp 0 0] st v st'∧ae st st' (.mk o a b g n l) m lf v∧UH (fun c=>c=mp) st st':=by
 have hr0:=hr;obtain⟨kc,ls,rfl,hK⟩:=hr.Yt;have hln:=hK.ln;have hbn:=hK.Ew;have B:=Qk.UM (o:=Yd mp lf false) hf hm (fun c hc=>(show c=mp from hc)▸hm.lt hf);refine JF Tryz.func52 Tryz.ntmps52 fun T K=>?_;have M:=B.mem;refine QC<|Qv ?_;refine Jt K M rfl (Qb rfl (Qb rfl (Qb rfl (Qb rfl (Qb rfl (Qb hK.cell Q7)))))) QE fun c3 _ _ K M=>?_;refine au 5 K M ?_;intro c6 _ _ K _ M;refine oQ K M (qC M.fresh (fun c m r hr=>(B.step M).Yz hf (hR c m r hr) (hRm c m r hr)) hr0 m) rfl rfl fun _ _ K M=>?_;refine Qc 1 K M ?_;intro _ K;refine Qq (K.QI rfl) (fun h14=>?_) (fun h14=>?_)
 ·have hb14:=h14
  replace h14:(vN (.mk o a b g n l) m)=false:=by simpa using h14
  refine au 4 K M ?_;intro _ _ K _ M;refine Jx ⟨.inr rfl,_,(Ju (JD K rfl (M.load (k:=0) rfl (QL Jb rfl))) (Q9 K rfl) (Q9 K rfl)),?_⟩;replace B:=B.step M;exact⟨⟨0,.nils,.nils,1,true,Xv,⟨0,[],[]⟩,0,rfl,rfl,rfl,fun c hc=>hc.elim,fun h1 h2=>by simp at h1 h2⟩,B.JM⟩
 have hb14:=h14
 replace h14:(vN (.mk o a b g n l) m)=true:=by simpa using h14
 refine Qc 0 K M ?_;intro _ K;obtain⟨k,rfl,hk6,hsz,hc⟩:=jT h14;refine au 7 K M ?_;intro c18 _ _ K _ M;replace B:=(B.step M);have hcm:c18≠mp:=fun e=>B.djM (Yd mp lf false) QA c18 0 _ (List.mem_cons_self ..) e;have h18:st.n≤c18:=(B.lo c18 0 _ (List.mem_cons_self ..)).resolve_right (fun e=>hcm e);replace B:=Qk.eT (M:=[(c6,0,[iZ 0,.nils,.nils]),(c3,0,[.str o,iZ a,iZ b,iZ g,iZ n,kc])]) B;have B0:=B;obtain⟨v22,st22,ev22,hof,QB⟩:=vt (.mk o a b g n l) R _ _ c18 mp lf k false false B.fresh (fun c m r hr=>B.Yz hf (hR c m r hr) (hRm c m r hr)) hr0 (fun c m r hr hc=>by rcases hc with hc|hc;have:=hR.lt hf hr;omega;exact hRm c m r hr hc) hcm (B.Yu (k:=0) rfl mp (.inr rfl)) (B.at_ (k:=0) rfl) hl hk6 hc hsz;refine p1 K (Qh rfl ev22) fun _ K=>?_;obtain⟨t1,ka1,kn1,E1,O1,F1,m1,s1,rfl,hka1,hkn1,hnf1,hcm1,hq1⟩:=hof;replace B:=B.call (k:=0) (o':=HO c18 mp E1 O1 (lf-s1)) rfl QB hcm1 (U1 fun c hc=>Nat.lt_of_lt_of_le (B.Yu (k:=0) rfl c hc) QB.le);replace B:=B0.Za (k:=0) (o:=FX F1 (E1||O1) m1 ka1 kn1) (om':=HO c18 mp E1 O1 (lf-s1)) rfl rfl (B.ZG QA) (fun hb=>(hq1 hb).2.1) hnf1;have M:=B.mem;refine au 1 K M ?_;intro c10 _ _ K _ M;refine QW (k:=0) K M rfl rfl rfl QF rfl (Qb rfl (Qb hka1 (Qb hkn1 Q7))) rfl fun _ M=>?_;refine Qc 3 K M ?_;intro _ K;refine p1 K (Qd rfl (Qz (Q0.Jd ((B.step M).at_ (k:=1) rfl).1) (Qf Jy rfl))) fun _ K=>Un ?_;show W _ _ _ _ _ _ _;refine Qq (K.QI rfl) (fun h26=>?_) (fun h26=>?_)
 ·have hb26:=h26;refine au 4 K M ?_;intro _ _ K _ M;refine Jx ⟨.inr rfl,_,(Ju (JD K rfl (M.load (k:=1) rfl (QL Jb rfl))) (Q9 K rfl) (Q9 K rfl)),?_⟩;replace B:=B.step M;exact⟨⟨0,.nils,.nils,0,false,Xv,⟨0,[],[]⟩,0,rfl,rfl,rfl,fun c hc=>hc.elim,fun h1 h2=>by simp at h1 h2⟩,B.JM⟩
 have hb26:=h26;refine Qc 3 K M ?_;intro _ K;refine p1 K (Qd rfl (Qz (Q0.Jd ((B.step M).at_ (k:=1) rfl).1) (Qf Jy rfl))) fun _ K=>Un ?_;show W _ _ _ _ _ _ _;refine Qq (K.QI rfl) (fun h31=>?_) (fun h31=>?_)
 ·have hb31:=h31;refine au 4 K M ?_;intro _ _ K _ M;refine Jx ⟨.inr rfl,_,(Ju (JD K rfl (M.load (k:=1) rfl (QL Jb rfl))) (Q9 K rfl) (Q9 K rfl)),?_⟩;replace B:=B.step M;exact⟨⟨0,.nils,.nils,8,true,Xv,⟨0,[],[]⟩,0,rfl,rfl,rfl,fun c hc=>hc.elim,fun h1 h2=>by simp at h1 h2⟩,B.JM⟩
 have hb31:=h31;refine Qc 1 K M ?_;intro _ K;refine QW (k:=1) K M rfl rfl rfl QF rfl (Qb rfl (Qb hka1 (Qb hkn1 Q7))) rfl fun _ M=>?_;refine Qc 2 K M ?_;intro _ K;refine Jx ⟨.inr rfl,_,(Ju (JD K rfl (M.load (k:=1) rfl (QL Jb rfl))) (Q9 K rfl) (Q9 K rfl)),?_⟩;replace B:=B.step M;have he1:(E1||O1)=false:=(by simp_all);exact⟨⟨_,ka1,kn1,0,true,F1,m1,s1,rfl,hka1,hkn1,fun c hc=>⟨(B.KT (k:=0) rfl c hc).resolve_right fun e=>B.J2 (j:=0) (k:=1) rfl rfl QE c hc (.inr e),B.Yu (k:=0) rfl c hc⟩,fun _ _=>⟨h14,B.at_ (k:=0) rfl he1,(hq1 he1).2.2.1,(hq1 he1).2.2.2.1,(hq1 he1).2.2.2.2⟩⟩,B.JM⟩

theorem jF(hf:Qj st)(hR:YJ R st.h.get)(hr:XN R (.mk o a b g n l) cs)(m:Int): ∃v st',Ev Tryz.prog Q4 19 [.agg cs,iZ m] st v st'∧eZ st st' (.mk o a b g n l) m v∧Qt st st':=by
 have hr0:=hr;obtain⟨kc,ls,rfl,hK⟩:=hr.Yt;have hln:=hK.ln;have hbn:=hK.Ew;have B:=Qk.start hf;refine JF Tryz.func19 Tryz.ntmps19 fun T K=>?_;have M:=B.mem;refine QC<|Qv ?_;refine Jt K M rfl (Qb rfl (Qb rfl (Qb rfl (Qb rfl (Qb rfl (Qb hK.cell Q7)))))) QE fun c2 _ _ K M=>?_;refine au 3 K M ?_;intro c4 _ _ K _ M;refine oQ K M (ON M.fresh (M.YJ hR) hr0) rfl rfl fun _ _ K M=>?_;refine Qc 1 K M ?_;intro _ K;refine JP K rfl (fun h11=>?_) fun h11=>?_
 ·refine au 3 K M ?_;intro _ _ K _ M;refine Jx ⟨.inr rfl,_,(JZ (JD K rfl (M.load (k:=0) rfl (QL Jb rfl))) (Q9 K rfl)),?_⟩;replace B:=B.step M;exact⟨⟨0,.nils,.nils,false,Xv,⟨0,[],[]⟩,0,rfl,rfl,rfl,fun c hc=>hc.elim,fun h=>by cases h⟩,B.qt⟩
 refine Qc 0 K M ?_;intro _ K;refine QD (l:=[(2,0),(0,1),(1,0),(3,0),(4,0),(5,0),(8,0),(9,0),(6,0),(7,0),(10,0),(11,0)]) (by kernel_rfl) ?_;have Mq:=M;have Bq:=B;replace B:=B.step M;obtain⟨v16,st16,ev16,mp,rfl,hmp,hmr,q16⟩:=CC B.fresh 1073741824;refine qA rfl K (Qh rfl ev16) fun _ K=>?_;have hmp0:=Nat.le_trans B.le hmp;replace B:=B.new (o:=Yd mp 1073741824 false) q16 hmr (fun c hc=>by rw[show c=mp from hc];exact⟨hmp,hmr.lt q16.fresh⟩);have M:=B.mem;have Mp:=Mq;have Mq:=M;have Bp:=Bq;have Bq:=B;refine Js rfl K rfl (M.load (k:=1) rfl (QL Jj rfl)) (Mp.load (k:=1) rfl (QL Jj rfl)) (Eg (by simp[V1,V2,Xl,JL hK.len])) rfl QE fun _ K=>?_;refine q1 rfl K (Qg rfl) fun _ K=>?_;replace B:=B.step M;have B0:=B;obtain⟨v17,st17,ev17,hof,QB⟩:=BG B.fresh (fun c m r hr=>B.Yz hf (hR c m r hr) (fun h=>h)) hr0 (fun c m r hr=>by have:=hR.lt hf hr;omega) (show Q0 _ mp 0 [iZ ((1073741824:Nat):Int),.bool false]from B.at_ (k:=0) rfl) QE m;refine qA rfl K (Qh rfl ev17) fun _ K=>?_;obtain⟨t1,ka1,kn1,ev,ok,F1,m1,s1,rfl,hka1,hkn1,hnf1,hq1⟩:=hof
 have hq2:(!(ok&&decide (ev=0)))=false→ok=true∧ev=0:=fun h=>by simpa using h
 replace B:=B.call (k:=0) (o':=AR mp) rfl QB trivial (U1 fun c hc=>Nat.lt_of_lt_of_le (B.Yu (k:=0) rfl c hc) QB.le);replace B:=B0.Za (k:=0) (o:=FX F1 (!(ok&&decide (ev=0))) m1 ka1 kn1) (om':=AR mp) rfl rfl (B.ZG QA) (fun hb=>(hq1 (hq2 hb).1 (hq2 hb).2).2.1) hnf1;have M:=B.mem;have Mp:=Mq;have Mq:=M;have Bp:=Bq;have Bq:=B;refine Jf 2 K M ?_;intro _ K;refine Wq rfl K M Y1 QE fun c6 _ _ K M=>?_;refine Vo (k:=0) rfl K M rfl rfl rfl QF rfl (Qb rfl (Qb hka1 (Qb hkn1 Q7))) rfl fun _ M=>?_;have Mp:=Mq;have Mq:=M;have Bp:=Bq;have Bq:=B;refine Jf 4 K M ?_;intro _ K;refine QG ?_;show W _ _ _ _ _ _ _;refine Qc 2 K M ?_;intro _ K;refine oB K (Qg rfl) rfl fun b23 _ e23 K=>?_;cases b23
 ·refine Qc 3 K M ?_;intro _ K;refine QW (k:=1) K M rfl rfl rfl QF rfl (Qb rfl (Qb hka1 (Qb hkn1 Q7))) rfl fun _ M=>?_;refine Qc 1 K M ?_;intro _ K;refine Jx ⟨.inr rfl,_,(JZ (JD K rfl (M.load (k:=1) rfl (QL Jb rfl))) (Q9 K rfl)),?_⟩;replace B:=B.step M;refine⟨⟨_,ka1,kn1,_,F1,m1,s1,rfl,hka1,hkn1,fun c hc=>⟨B.jz (k:=0) rfl c hc|>.1,B.Yu (k:=0) rfl c hc⟩,fun h=>?_⟩,B.qt⟩;have hok:ok=true∧ev=0:=(by simp_all);have hq3:=hq1 hok.1 hok.2;exact⟨by omega,hq3.1,B.at_ (k:=0) rfl (by simp[hok]),hq3.2.2.1,hq3.2.2.2.1,hq3.2.2.2.2⟩
 refine Qc 3 K M ?_;intro _ K;refine QW (k:=1) K M rfl rfl rfl QF rfl (Qb rfl (Qb hka1 (Qb hkn1 Q7))) rfl fun _ M=>?_;refine Qc 1 K M ?_;intro _ K;refine Jx ⟨.inr rfl,_,(JZ (JD K rfl (M.load (k:=1) rfl (QL Jb rfl))) (Q9 K rfl)),?_⟩;replace B:=B.step M;refine⟨⟨_,ka1,kn1,_,F1,m1,s1,rfl,hka1,hkn1,fun c hc=>⟨B.jz (k:=0) rfl c hc|>.1,B.Yu (k:=0) rfl c hc⟩,fun h=>?_⟩,B.qt⟩;have hok:ok=true∧ev=0:=(by simp_all);have hq3:=hq1 hok.1 hok.2;exact⟨by omega,hq3.1,B.at_ (k:=0) rfl (by simp[hok]),hq3.2.2.1,hq3.2.2.2.1,hq3.2.2.2.2⟩
end Go.Proofs.YtiknomepbklibaaGreatDoor
end
section
namespace Go.Proofs.YtiknomepbklibaaGreatDoor
open Go Go.RowKit

section
variable {R:Aq} {st:St} {o:List Nat} {a b g n:Int} {l:List Cr} {cs:List AV} {mp lf k s:Nat} {m:Au}
theorem Gs(hf:Qj st)(hR:YJ R st.h.get)(hr:XN R (.mk o a b g n l) cs)(hRm: ∀c m r,R c m r→c≠mp)(hm:Q0 st.h.get mp 0 [.int .i64 (lf:Nat),.bool false])(hl:lf≤9223372036854775807)(hk6:k≤6)(hc:Jm (.mk o a b g n l) ((k:Nat):Int)=true)(hsz:XE (.mk o a b g n l)≤2000)(hA:JN (.mk o a b g n l) k m s)(hs:s≤lf):
  ∃v st',Ev Tryz.prog Q4 20 [.agg cs,.int .i64 (k:Nat),.ptr mp 0 0] st v st'∧ ∃dp F,v=.tup [.ptr dp 0 0,.int .i64 0]∧UY st' F dp m∧ZJ st st' F∧Q0 st'.h.get mp 0 [.int .i64 (lf-s:Nat),.bool false]∧UH (fun c=>c=mp) st st':=by
 obtain⟨v,st',h1,h2,h3⟩:=Ae hf hR hr hRm hm hl hk6 hc hsz;rcases h2 with⟨dp,F,m',s',h4,h5,h6,h7,h8,h9⟩|⟨h4,h5⟩
 ·obtain⟨rfl,rfl⟩:=hA.uniq h5;exact⟨v,st',h1,dp,F,h4,h7,h8,h9,h3⟩
 ·have:=h5 m s hA;omega
theorem MA(hf:Qj st)(hR:YJ R st.h.get)(hr:XN R (.mk o a b g n l) cs)(hRm: ∀c m r,R c m r→c≠mp)(hm:Q0 st.h.get mp 0 [.int .i64 (lf:Nat),.bool false])(hl:lf≤9223372036854775807)(hk6:k≤6)(hc:Jm (.mk o a b g n l) ((k:Nat):Int)=true)(hsz:XE (.mk o a b g n l)≤2000)(hA:JN (.mk o a b g n l) k m s)(hs:lf<s):
  ∃v st',Ev Tryz.prog Q4 20 [.agg cs,.int .i64 (k:Nat),.ptr mp 0 0] st v st'∧v=.tup [.nilp,.int .i64 8]∧UH (fun c=>c=mp) st st':=by
 obtain⟨v,st',h1,h2,h3⟩:=Ae hf hR hr hRm hm hl hk6 hc hsz;rcases h2 with⟨dp,F,m',s',h4,h5,h6,_⟩|⟨h4,h5⟩
 ·obtain⟨_,rfl⟩:=hA.uniq h5;omega
 ·exact⟨v,st',h1,h4,h3⟩
end
theorem LU{st:St}(hf:Qj st)(n:Nat): ∃v st',Ev Tryz.prog Q4 11 [.int .i64 (n:Nat)] st v st'∧ ∃mp,v=.ptr mp 0 0∧st.n≤mp∧Q0 st'.h.get mp 0 [.int .i64 (n:Nat),.bool false]∧Qt st st':=S0 hf ((n:Nat):Int)
theorem zo{P:Program}{G:Env}{K:List (Nat×AV)}{st:St}{t yt:TypeId}{x y:Operand}{s:Nat}(h:s≤1073741824)(hx:QX G K x=some (.int .i64 1073741824))(hy:QX G K y=some (.int .i64 (1073741824-s:Nat))):U3 P G K (.binOp .sub t x y yt) st (.int .i64 (s:Nat)) st:=by
 rw[show((s:Nat):Int)=1073741824-((1073741824-s:Nat):Int) by omega];exact PF hx hy Qe Qe

theorem jx{st:St}(hf:Qj st){mp lf:Nat}{o:Bool}(hm:Q0 st.h.get mp 0 [iN lf,.bool o]): ∃v st',Ev Tryz.prog Q4 29 [.ptr mp 0 0] st v st'∧v=iN lf∧Qt st st':=by
 refine JF Tryz.func29 Tryz.ntmps29 fun T K=>?_;have M:=Mem.start hf;refine Qc 2 K M ?_;intro _ K;refine p1 K (Yp Ws rfl rfl) fun _ K=>?_;refine Qc 4 K M ?_;intro _ K;refine p1 K (Qd rfl (Qz (M.JG QA hm.Jd) (Qf Qr rfl))) fun _ K=>?_;refine Qc 1 K M ?_;exact⟨rfl,M.qt⟩
end Go.Proofs.YtiknomepbklibaaGreatDoor
end
section
namespace Go.Proofs.YtiknomepbklibaaGreatDoor
open Go Go.RowKit

theorem DE{R:Aq}{st:St}(hf:Qj st)(hR:YJ R st.h.get){o:List Nat}{a b g n:Int}{l:List Cr}{cs:List AV}(hr:XN R (.mk o a b g n l) cs)(m:Int): ∃v st',Ev Tryz.prog Q4 6 [.agg cs,iZ m] st v st'∧v=.bool true:=by
 have hr0:=hr;obtain⟨kc,ls,rfl,hK⟩:=hr.Yt;have hln:=hK.ln;have hbn:=hK.Ew;have B:=Qk.start hf;refine JF Tryz.func6 Tryz.ntmps6 fun T K=>?_;have M:=B.mem;refine QC<|Qv ?_;refine Jt K M rfl (Qb rfl (Qb rfl (Qb rfl (Qb rfl (Qb rfl (Qb hK.cell Q7)))))) QE fun c2 _ _ K M=>?_;refine Qc 3 K M ?_;intro _ K;replace B:=B.step M;obtain⟨v18,st18,ev18,hof1,q18⟩:=jF B.fresh (fun c m r hr=>B.Yz hf (hR c m r hr) (fun h=>h)) hr0 m;refine p1 K (Qh rfl ev18) fun _ K=>?_;obtain⟨t1,ka1,kn1,ok1,F1,m1,s1,rfl,hka1,hkn1,hnf1,hq1⟩:=hof1;replace B:=B.new (o:=FX F1 (!ok1) m1 ka1 kn1) q18 (fun hb=>(hq1 (by simpa using hb)).2.2.1) hnf1;have M:=B.mem;refine au 4 K M ?_;intro c5 _ _ K _ M;refine QW (k:=0) K M rfl rfl rfl QF rfl (Qb rfl (Qb hka1 (Qb hkn1 Q7))) rfl fun _ M=>?_;refine Qc 3 K M ?_;intro _ K;refine Qq (K.QI rfl) (fun h22=>?_) (fun h22=>?_)
 · have hb22:=h22
   replace h22:(ok1)=false:=by simpa using h22
   refine Qc 1 K M ?_
   first
    |rfl
    |(exfalso;omega)
    |(exfalso;simp_all;done)
    |(simp;omega)
 have hb22:=h22
 replace h22:(ok1)=true:=by simpa using h22
 refine Qc 0 K M ?_;intro _ K;obtain⟨hsz1,his1,-,hA1,hs1,rfl⟩:=hq1 (by simp_all);obtain⟨k,rfl,hk6,-,hc1⟩:=jT his1;rw[Int.toNat_natCast]at hA1;replace B:=(B.step M).view (k:=0) (o':=FX F1 false m1 ka1 kn1) rfl (fun _=>(B.step M).at_ (k:=0) rfl (by simp_all)) (fun c hc=>hc);have hkl1:=ZX.len (B.at_ (k:=0) rfl rfl);have hknl1:=ZX.jB (B.at_ (k:=0) rfl rfl);have M:=B.mem;have wf1:=hA1.wf;have htr1:=hA1.tr;have hge1:=hA1.ge;have hps1:=hA1.pos;have hmn1:=wf1.most;have hacl1:m1.acc.length=m1.n:=rfl;replace B:=B.step M;obtain⟨v23,st23,ev23,mp23,rfl,hmp23,hrmp23,q23⟩:=LU B.fresh 1073741824;refine p1 K (Qh rfl ev23) fun _ K=>?_;have hzmp23:st.n≤mp23:=Nat.le_trans B.le hmp23;replace B:=B.new (o:=Yd mp23 1073741824 false) q23 hrmp23 (fun c hc=>by rw[show c=mp23 from hc];exact⟨hmp23,hrmp23.lt q23.fresh⟩);have M:=B.mem;refine Qc 4 K M ?_;intro _ K;replace B:=B.step M;have B0:=B;obtain⟨v28,st28,ev28,dp28,Fd28,rfl,hDd28,hNd28,hRd28,QB⟩:=Gs B.fresh (fun c m r hr=>B.Yz hf (hR c m r hr) (fun h=>h)) hr0 (fun c m r hr=>by have:=hR.lt hf hr;omega) (show Q0 _ mp23 0 [iZ ((1073741824:Nat):Int),.bool false]from B.at_ (k:=0) rfl) Qe hk6 hc1 Qe hA1 Qe;refine p1 K (Qh rfl ev28) fun _ K=>?_;replace B:=B.call (k:=0) (o':=Yd mp23 (1073741824-s1) false) rfl QB hRd28 (U1 fun c hc=>Nat.lt_of_lt_of_le (B.Yu (k:=0) rfl c hc) QB.le);replace B:=B0.Za (k:=0) (o:=FG Fd28 dp28 m1) (om':=Yd mp23 (1073741824-s1) false) rfl rfl (B.ZG QA) hDd28.at_ hNd28;have M:=B.mem;refine Qc 6 K M ?_;intro _ K;refine oQ K M (jx M.fresh (show Q0 _ mp23 0 [iZ (1073741824-s1:Nat),.bool false]from(B.step M).at_ (k:=1) rfl)) rfl rfl fun _ _ K M=>?_;refine p1 K (zo hs1 rfl rfl) fun _ K=>?_;refine Qc 1 K M ?_;intro _ K;refine QD (l:=[(2,0),(3,0),(0,1),(1,0),(4,0),(5,0),(6,0),(7,0),(8,0),(9,0)]) (by kernel_rfl) ?_;have Mq:=M;have Bq:=B;refine q1 rfl K (Qg rfl) fun _ K=>?_;replace B:=B.step M;obtain⟨v38,st38,ev38,mp38,rfl,hmp38,hrmp38,q38⟩:=LU B.fresh s1;refine qA rfl K (Qh rfl ev38) fun _ K=>?_;have hzmp38:st.n≤mp38:=Nat.le_trans B.le hmp38;replace B:=B.new (o:=Yd mp38 s1 false) q38 hrmp38 (fun c hc=>by rw[show c=mp38 from hc];exact⟨hmp38,hrmp38.lt q38.fresh⟩);have M:=B.mem;have Mp:=Mq;have Mq:=M;have Bp:=Bq;have Bq:=B;refine Js rfl K rfl (M.load (k:=1) rfl (QL Jj rfl)) (Mp.load (k:=1) rfl (QL Jj rfl)) (Eg (by simp[V1,V2,Xl,JL hK.len])) rfl QE fun _ K=>?_;refine q1 rfl K (Qg rfl) fun _ K=>?_;replace B:=B.step M;have B0:=B;obtain⟨v39,st39,ev39,dp39,Fd39,rfl,hDd39,hNd39,hRd39,QB⟩:=Gs B.fresh (fun c m r hr=>B.Yz hf (hR c m r hr) (fun h=>h)) hr0 (fun c m r hr=>by have:=hR.lt hf hr;omega) (show Q0 _ mp38 0 [iN s1,.bool false]from B.at_ (k:=0) rfl) Qe hk6 hc1 Qe hA1 Qe;refine qA rfl K (Qh rfl ev39) fun _ K=>?_;replace B:=B.call (k:=0) (o':=Yd mp38 (s1-s1) false) rfl QB hRd39 (U1 fun c hc=>Nat.lt_of_lt_of_le (B.Yu (k:=0) rfl c hc) QB.le);replace B:=B0.Za (k:=0) (o:=FG Fd39 dp39 m1) (om':=Yd mp38 (s1-s1) false) rfl rfl (B.ZG QA) hDd39.at_ hNd39;have M:=B.mem;have Mp:=Mq;have Mq:=M;have Bp:=Bq;have Bq:=B;refine Jf 5 K M ?_;intro _ K;refine QG ?_;show W _ _ _ _ _ _ _;refine QC ?_;refine QD (l:=[(2,0),(3,0),(4,0),(0,1),(1,0),(5,0),(6,0),(7,0),(8,0),(9,0),(10,0)]) (by kernel_rfl) ?_;have Mq:=M;have Bq:=B;refine q1 rfl K (Qg rfl) fun _ K=>q1 rfl K (LB rfl rfl hps1 Qe) fun _ K=>?_;replace B:=B.step M;obtain⟨v47,st47,ev47,mp47,rfl,hmp47,hrmp47,q47⟩:=LU B.fresh (s1-1);refine qA rfl K (Qh rfl ev47) fun _ K=>?_;have hzmp47:st.n≤mp47:=Nat.le_trans B.le hmp47;replace B:=B.new (o:=Yd mp47 (s1-1) false) q47 hrmp47 (fun c hc=>by rw[show c=mp47 from hc];exact⟨hmp47,hrmp47.lt q47.fresh⟩);have M:=B.mem;have Mp:=Mq;have Mq:=M;have Bp:=Bq;have Bq:=B;refine Js rfl K rfl (M.load (k:=1) rfl (QL Jj rfl)) (Mp.load (k:=1) rfl (QL Jj rfl)) (Eg (by simp[V1,V2,Xl,JL hK.len])) rfl QE fun _ K=>?_;refine q1 rfl K (Qg rfl) fun _ K=>?_;replace B:=B.step M;have B0:=B;obtain⟨v48,st48,ev48,rfl,QB⟩:=MA B.fresh (fun c m r hr=>B.Yz hf (hR c m r hr) (fun h=>h)) hr0 (fun c m r hr=>by have:=hR.lt hf hr;omega) (show Q0 _ mp47 0 [iZ (s1-1:Nat),.bool false]from B.at_ (k:=0) rfl) Qe hk6 hc1 Qe hA1 Qe;refine qA rfl K (Qh rfl ev48) fun _ K=>?_;replace B:=B.call (k:=0) (o':=AR mp47) rfl QB trivial (U1 fun c hc=>Nat.lt_of_lt_of_le (B.Yu (k:=0) rfl c hc) QB.le);have M:=B.mem;have Mp:=Mq;have Mq:=M;have Bp:=Bq;have Bq:=B;refine Jf 5 K M ?_;intro _ K;refine QG ?_;show W _ _ _ _ _ _ _;refine QC ?_;refine QD (l:=[(0,0),(1,0),(2,0),(3,0),(4,0),(5,0),(6,0),(7,0),(8,0),(9,0),(10,0),(11,0),(12,0),(13,1),(14,0),(15,0),(16,0),(17,0),(18,0),(19,0),(20,0),(21,0),(22,0),(23,0),(24,0),(25,0),(26,0),(27,0),(28,0),(29,0),(30,0)]) (by kernel_rfl) ?_;have Mq:=M;have Bq:=B;refine Jf 2 K M ?_;intro _ K;refine eD rfl K (Qg rfl) rfl rfl (fun _ e53 K=>?_) fun _ e53 K=>?_
 · refine Ut rfl K rfl rfl rfl rfl fun _ _ K=>Ut rfl K rfl rfl rfl rfl fun _ _ K=>?_;refine Jf 2 K M ?_;intro _ K;refine Ut rfl K rfl rfl rfl rfl fun _ _ K=>Ut rfl K rfl rfl rfl rfl fun _ _ K=>?_;refine Jf 2 K M ?_;intro _ K;refine Ut rfl K rfl rfl rfl rfl fun _ _ K=>Ut rfl K rfl rfl rfl rfl fun _ _ K=>Ut rfl K rfl rfl rfl rfl fun _ _ K=>Ut rfl K rfl rfl rfl rfl fun _ _ K=>?_;refine Jf 2 K M ?_;intro _ K;refine Ut rfl K rfl rfl rfl rfl fun _ _ K=>Ut rfl K rfl rfl rfl rfl fun _ _ K=>?_;refine Jf 2 K M ?_;intro _ K;refine Ut rfl K rfl rfl rfl rfl fun _ _ K=>Ut rfl K rfl rfl rfl rfl fun _ _ K=>Ut rfl K rfl rfl rfl rfl fun _ _ K=>Ut rfl K rfl rfl rfl rfl fun _ _ K=>Ut rfl K rfl rfl rfl rfl fun _ _ K=>?_;refine Jf 2 K M ?_;intro _ K;refine Ut rfl K rfl rfl rfl rfl fun _ _ K=>?_;refine Jf 2 K M ?_;intro _ K;refine QG ?_;show W _ _ _ _ _ _ _;refine Qc 0 K M ?_
   first
    |rfl
    |(exfalso;omega)
    |(exfalso;simp_all;done)
    |(simp;omega)
 refine Jf 3 K M ?_;intro _ K;refine eD rfl K (Qg rfl) rfl rfl (fun _ e57 K=>?_) fun _ e57 K=>?_
 · refine Ut rfl K rfl rfl rfl rfl fun _ _ K=>Ut rfl K rfl rfl rfl rfl fun _ _ K=>?_;refine Jf 2 K M ?_;intro _ K;refine Ut rfl K rfl rfl rfl rfl fun _ _ K=>Ut rfl K rfl rfl rfl rfl fun _ _ K=>Ut rfl K rfl rfl rfl rfl fun _ _ K=>Ut rfl K rfl rfl rfl rfl fun _ _ K=>?_;refine Jf 2 K M ?_;intro _ K;refine Ut rfl K rfl rfl rfl rfl fun _ _ K=>Ut rfl K rfl rfl rfl rfl fun _ _ K=>?_;refine Jf 2 K M ?_;intro _ K;refine Ut rfl K rfl rfl rfl rfl fun _ _ K=>Ut rfl K rfl rfl rfl rfl fun _ _ K=>Ut rfl K rfl rfl rfl rfl fun _ _ K=>Ut rfl K rfl rfl rfl rfl fun _ _ K=>Ut rfl K rfl rfl rfl rfl fun _ _ K=>?_;refine Jf 2 K M ?_;intro _ K;refine Ut rfl K rfl rfl rfl rfl fun _ _ K=>?_;refine Jf 2 K M ?_;intro _ K;refine QG ?_;show W _ _ _ _ _ _ _;refine Qc 0 K M ?_
   first
    |rfl
    |(exfalso;omega)
    |(exfalso;simp_all;done)
    |(simp;omega)
 refine Jf 1 K M ?_;intro _ K;refine dg rfl K rfl rfl (Sn Ul rfl rfl) rfl rfl fun _ K=>?_;refine Jf 3 K M ?_;intro _ K;replace B:=B.step M;obtain⟨v63,st63,ev63,nau63,q63⟩:=Kb B.fresh (B.MV (k:=1) rfl);refine eC rfl K rfl rfl (Qh rfl ev63) rfl rfl fun _ K=>?_;obtain⟨kat63,knt63,vst63,At63,Ft63,rfl,hAt63,B⟩:=B.Hu q63 nau63;replace B:=B.cast (M':=((c5,0,[iZ (m1.tr:Nat),ka1,kn1])::(c2,0,[.str o,iZ a,iZ b,iZ g,iZ n,kc])::(At63++[]))) Uz;have M:=B.mem;have Mp:=Mq;have Mq:=M;have Bp:=Bq;have Bq:=B;refine Td rfl K rfl rfl rfl (M.load (k:=0) rfl (QL Jb rfl)) (Mp.load (k:=0) rfl (QL Jb rfl)) (Eg (by simp[V1,V2,Xl,JL hkl1,JL hknl1])) rfl QE fun _ K=>?_;obtain⟨lq65,hrq65⟩:=(B.step M).at_ (k:=6) rfl rfl;obtain⟨v65,st65,ev65,rfl,q65⟩:=P9 M.fresh (Mem.Yx (L:=[(c5,0,[iZ (m1.tr:Nat),ka1,kn1]),(c2,0,[.str o,iZ a,iZ b,iZ g,iZ n,kc])]) (A:=At63) (B:=[]) M hAt63) ((B.step M).at_ (k:=0) rfl).r (hrq65 _ fun _ _=>rfl).1 (hrq65 _ fun _ _=>rfl).2;refine eC rfl K rfl rfl (Qh rfl ev65) rfl rfl fun _ K=>?_;replace M:=M.quiet q65;have Mp:=Mq;have Mq:=M;have Bp:=Bq;have Bq:=B;refine Jf 5 K M ?_;intro _ K;refine eD rfl K (Qg rfl) rfl rfl (fun _ e71 K=>?_) fun _ e71 K=>?_
 · refine Ut rfl K rfl rfl rfl rfl fun _ _ K=>Ut rfl K rfl rfl rfl rfl fun _ _ K=>Ut rfl K rfl rfl rfl rfl fun _ _ K=>Ut rfl K rfl rfl rfl rfl fun _ _ K=>Ut rfl K rfl rfl rfl rfl fun _ _ K=>?_;refine Jf 2 K M ?_;intro _ K;refine Ut rfl K rfl rfl rfl rfl fun _ _ K=>?_;refine Jf 2 K M ?_;intro _ K;refine QG ?_;show W _ _ _ _ _ _ _;refine Qc 0 K M ?_
   first
    |rfl
    |(exfalso;omega)
    |(exfalso;simp_all;done)
    |(simp;omega)
 refine Jf 3 K M ?_;intro _ K;refine dg rfl K rfl rfl (Q8 Ur rfl rfl hkl1) rfl rfl fun _ K=>?_;refine Jf 2 K M ?_;intro _ K;refine eD rfl K (Qg rfl) rfl rfl (fun _ e78 K=>?_) fun _ e78 K=>?_
 · refine Ut rfl K rfl rfl rfl rfl fun _ _ K=>?_;refine Jf 2 K M ?_;intro _ K;refine QG ?_;show W _ _ _ _ _ _ _;refine Qc 0 K M ?_
   first
    |rfl
    |(exfalso;omega)
    |(exfalso;simp_all;done)
    |(simp;omega)
 have ev79:=PU;refine eC rfl K rfl rfl (Qh rfl (ev79 _)) rfl rfl fun _ K=>?_;have Mp:=Mq;have Mq:=M;have Bp:=Bq;have Bq:=B;refine Jf 2 K M ?_;intro _ K;refine QG ?_;show W _ _ _ _ _ _ _;refine Qc 0 K M ?_
 first
  |rfl
  |(exfalso;omega)
  |(exfalso;simp_all;done)
  |(simp;omega)
end Go.Proofs.YtiknomepbklibaaGreatDoor
end
section
namespace Go.Proofs.YtiknomepbklibaaGreatDoor
open Go Go.RowKit
variable {h:Hp} {xs:List AV}

theorem xR:Tryz.prog.underlying 42=some (.slice 44):=by kernel_rfl
theorem xE:Tryz.prog.cellsOf 44=6:=by kernel_rfl
theorem wI: ∃f0 f1 f2 f3 f4 f5:Field,Tryz.prog.underlying 44=some (.struct #[f0,f1,f2,f3,f4,f5])∧(f0.type=9∧f0.offset=0)∧(f1.type=3∧f1.offset=1)∧(f2.type=3∧f2.offset=2)∧(f3.type=3∧f3.offset=3)∧(f4.type=3∧f4.offset=4)∧(f5.type=42∧f5.offset=5):=
 ⟨_,_,_,_,_,_,Tryz.underlying44,⟨rfl,rfl⟩,⟨rfl,rfl⟩,⟨rfl,rfl⟩,⟨rfl,rfl⟩,⟨rfl,rfl⟩,⟨rfl,rfl⟩⟩
theorem aD:Tryz.prog.cellsOf 9=1∧Tryz.prog.cellsOf 3=1∧Tryz.prog.cellsOf 42=1:=⟨by kernel_rfl,by kernel_rfl,by kernel_rfl⟩
theorem yV{H:Type}{d:DataW H}(r:Rd Tryz.prog h 9 xs d): ∃s,xs=[.str s]:=by
 have u:Tryz.prog.underlying 9=some .string:=by kernel_rfl
 cases r with
 |bool ht=>rw[u]at ht;cases ht
 |int ht hw=>rw[u]at ht;cases ht
 |str ht hs=>exact⟨_,rfl⟩
 |nil ht=>rw[u]at ht;cases ht
 |none ht=>rw[u]at ht;cases ht
 |row ht hz hr hl' he hm hd=>rw[u]at ht;cases ht
 |agg ht hl' hp hd=>rw[u]at ht;cases ht
theorem q7{H:Type}{t:TypeId}{d:DataW H}(r:Rd Tryz.prog h t xs d):
  (t=44→ ∃k,XN (Y0 h) k xs)∧(t=42→ ∃ks,xs=[ks]∧ ∀o a b g n,∃kids,XN (Y0 h) (.mk o a b g n kids) [.str o,.int .i64 a,.int .i64 b,.int .i64 g,.int .i64 n,ks]):=by
 obtain⟨f0,f1,f2,f3,f4,f5,uN,⟨t0,o0⟩,⟨t1,o1⟩,⟨t2,o2⟩,⟨t3,o3⟩,⟨t4,o4⟩,⟨t5,o5⟩⟩:=wI;have uK:=xR
 induction r with
 |bool ht=>exact⟨fun e=>(by subst e;rw[uN]at ht;cases ht),fun e=>(by subst e;rw[uK]at ht;cases ht)⟩
 |int ht hw=>exact⟨fun e=>(by subst e;rw[uN]at ht;cases ht),fun e=>(by subst e;rw[uK]at ht;cases ht)⟩
 |str ht hs=>exact⟨fun e=>(by subst e;rw[uN]at ht;cases ht),fun e=>(by subst e;rw[uK]at ht;cases ht)⟩
 |nil ht=>exact⟨fun e=>(by subst e;rw[uN]at ht;cases ht),fun _=>⟨_,rfl,fun o a b g n=>⟨[],.leaf rfl rfl⟩⟩⟩
 |none ht=>exact⟨fun e=>(by subst e;rw[uN]at ht;cases ht),fun _=>⟨_,rfl,fun o a b g n=>⟨[],.leaf rfl rfl⟩⟩⟩
 |row ht hz hr hl he hm hd ih=>
  rename_i t e c m len cells elems rest;refine⟨fun e=>(by subst e;rw[uN]at ht;cases ht),fun e2=>⟨_,rfl,fun o a b g n=>?_⟩⟩;subst e2;rw[uK]at ht
  injection ht with ht
  injection ht with ht
  subst ht;rw[xE]at hl ih ⊢
  have hk: ∀i,∃k,i<len→XN (Y0 h) k ((cells.drop (i *6)).take 6):=fun i=>by
   by_cases hi:i<len
   ·obtain⟨k,hk⟩:=(ih i elems[i] (List.getElem?_eq_getElem (he▸hi))).1 rfl;exact⟨k,fun _=>hk⟩
   ·exact⟨.mk [] 0 0 0 0 [],fun h=>absurd h hi⟩
  obtain⟨f,hf⟩:=Classical.axiomOfChoice hk
  have hlen:((List.range len).map f).length=len:=by simp
  have hmx:(len:Int)≤9223372036854775807:=by
   have h1:(maxLen:Int)≤9223372036854775807:=by decide
   omega
  refine⟨(List.range len).map f,?_⟩
  have:=XN.node (R:=Y0 h) (o:=o) (a:=a) (b:=b) (c:=g) (n:=n) (kids:=(List.range len).map f) (off:=0) hr (by rw[hlen];exact hmx) (by rw[hlen];omega) (fun i k hi=>by
   rw[List.getElem?_map]at hi
   have hlt:i<len:=by
    by_cases hi':i<len
    ·exact hi'
    ·rw[List.getElem?_eq_none (by simp;omega)]at hi;cases hi
   rw[List.getElem?_range hlt]at hi
   injection hi with hi
   rw[←hi,Nat.zero_add]
   exact hf i hlt)
  rw[hlen]at this;exact this
 |agg ht hl hp hd ih=>
  rename_i t fs xs parts;refine⟨fun e=>?_,fun e=>(by subst e;rw[uK]at ht;cases ht)⟩;subst e;rw[uN]at ht
  injection ht with ht
  injection ht with ht
  subst ht;rw[xE]at hl
  obtain⟨a0,a1,a2,a3,a4,a5,rfl⟩: ∃a0 a1 a2 a3 a4 a5,xs=[a0,a1,a2,a3,a4,a5]:=by
   match xs,hl with
   |[a0,a1,a2,a3,a4,a5],_=>exact⟨_,_,_,_,_,_,rfl⟩
  obtain⟨d0,d1,d2,d3,d4,d5,rfl⟩: ∃a0 a1 a2 a3 a4 a5,parts=[a0,a1,a2,a3,a4,a5]:=by
   match parts,hp with
   |[a0,a1,a2,a3,a4,a5],_=>exact⟨_,_,_,_,_,_,rfl⟩
  obtain⟨cs,ci,ck⟩:=aD;have r0:=hd 0 f0 d0 rfl rfl;have r1:=hd 1 f1 d1 rfl rfl;have r2:=hd 2 f2 d2 rfl rfl;have r3:=hd 3 f3 d3 rfl rfl;have r4:=hd 4 f4 d4 rfl rfl;have r5:=(ih 5 f5 d5 rfl rfl).2 t5;rw[t0,o0,cs]at r0;rw[t1,o1,ci]at r1;rw[t2,o2,ci]at r2;rw[t3,o3,ci]at r3;rw[t4,o4,ci]at r4;rw[o5,t5,ck]at r5;obtain⟨s0,e0⟩:=yV r0;obtain⟨s1,e1,_⟩:=KM r1;obtain⟨s2,e2,_⟩:=KM r2;obtain⟨s3,e3,_⟩:=KM r3;obtain⟨s4,e4,_⟩:=KM r4;obtain⟨ks,e5,hk⟩:=r5
  injection e0 with e0;injection e1 with e1;injection e2 with e2;injection e3 with e3;injection e4 with e4;injection e5 with e5
  subst e0 e1 e2 e3 e4 e5;obtain⟨kids,hk⟩:=hk s0 s1 s2 s3 s4;exact⟨_,hk⟩
theorem q6{H:Type}{d:DataW H}(r:Rd Tryz.prog h 44 xs d): ∃k,XN (Y0 h) k xs:=(q7 r).1 rfl
theorem zK(h:Hp):YJ (Y0 h) h:=fun _ _ _ r=>r
theorem PC:CL Tryz.prog [44,9,3,42]=true:=by kernel_rfl
theorem Ms{H:Type}{enc:TypeId×Value→H}{W:World}{ml:Kh}(hM:XD W ml){v:Value}{d:DataW H}{p:List MemPlace}(h:DataW.Trod enc Tryz.prog W 0 (fun _=>true) true 44 v d p):
  ∃ml' cs k,ml<+:ml'∧XD W ml'∧XN (Y0 (F6 ml')) k cs∧WF (F6 ml') (.agg cs)∧Qi (NN ml') (.agg cs)=v:=by
 obtain⟨fuel,h⟩:=h;obtain⟨ml',cs,h1,h2,h3,h4,h5,h6⟩:=lift _ PC fuel 44 _ d p ml QA h hM;obtain⟨k,hk⟩:=q6 h6;refine⟨ml',cs,k,h1,h2,hk,h4,?_⟩;obtain⟨e1,e2⟩:=O5 h3 h5
 by_cases hv: ∃cs,v=.agg cs
 ·exact e1 hv
 ·obtain⟨a,rfl,_⟩:=e2 fun cs e=>hv ⟨cs,e⟩;obtain⟨o,a',b,g,n,l⟩:=k;obtain⟨kc,ls,e,_⟩:=hk.Yt;cases e
end Go.Proofs.YtiknomepbklibaaGreatDoor
end
section
namespace Go.Proofs.YtiknomepbklibaaGreatDoor
open Go Go.RowKit

theorem NQ{H:Type}{enc:TypeId×Value→H}{W:World}{v0:Value}{d0:DataW H}{p0:List MemPlace}(h0:DataW.Trod enc Tryz.prog W 0 (fun _=>true) true 44 v0 d0 p0)(k:Int)(hk: -9223372036854775808≤k∧k≤9223372036854775807)(hT:Ey W):
  Calls Tryz.prog 6 #[v0,.int .i64 k] W fun e w'=>e=.returned (.bool true)∧Below W.heap.size W w':=by
 obtain⟨ml1,cs,⟨o,a,b,g,n,l⟩,_,hM1,hr,hw,hc⟩:=Ms XD.nil h0
 have:=TL (G:=Q4) (fun _=>rfl) zU mixed (f:=6) (args:=[.agg cs,.int .i64 k]) hM1 ⟨hw,trivial,trivial⟩
  (DE (OH ml1) (R:=Y0 (F6 ml1)) (by rw[KJ];exact zK _) hr k) hT
 rw[show Qs (NN ml1) [.agg cs,.int .i64 k]=[v0,.int .i64 k] by rw[←hc];rfl]at this;exact this
end Go.Proofs.YtiknomepbklibaaGreatDoor
end
