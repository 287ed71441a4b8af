/-
  A formula's automaton by the reference: the law's of.
-/
import Derived.Test.YtiknomepbklibaaGreatDoorQhR26B
set_option maxHeartbeats 8000000
set_option maxRecDepth 100000
set_option linter.unnecessarySimpa false
set_option linter.unusedSectionVars false
set_option linter.unusedSimpArgs false
set_option linter.unusedVariables false
namespace Go.Proofs.YtiknomepbklibaaGreatDoor
section
open Go Go.RowKit
variable {R:Ee} {a b g n:Int} {cs:List AV} {l:List Cr} {o:List Nat} {st:St}

theorem ea(x:Cr):S8 x:=E7 (M:=S8) (fun o a b g n l ih R st cs cp mp lf k E O hf hR hr hRm hcm hmn hcr hl hk6 hc hsz=>xS hf hR hr ih hRm hcm hmn hcr hl hk6 hc hsz) x
def wa(x:Cr)(m:Int):Bool:=decide (0≤m)&&decide (m≤6)&&decide (XZ x≤2000)&&QX x m
theorem Du(hf:Qi st)(hR:Y8 R st.h.get)(hr:ZO R (.mk o a b g n l) cs)(m:Int): ∃v st',Jh 33 [.agg cs,.int .i64 m] st v st'∧v=.bool (wa (.mk o a b g n l) m)∧Qt st st':=SS hf hR hr m
theorem RK{x:Cr}{m:Int}(h:wa x m=true): ∃k:Nat,m=((k:Nat):Int)∧k≤6∧XZ x≤2000∧QX x ((k:Nat):Int)=true:=by
 unfold wa at h;simp only[Bool.and_eq_true,decide_eq_true_eq]at h;obtain⟨⟨⟨h1,h2⟩,h3⟩,h4⟩:=h;refine⟨m.toNat,(Int.toNat_of_nonneg h1).symm,by omega,h3,?_⟩;rw[Int.toNat_of_nonneg h1];exact h4
theorem Qk.fT{st0:St}{X0:Fp}{M:QS}{Os:List Ob}{cp mp l:Nat}(B:Qk st0 X0 st ((cp,0,[.ptr mp 0 0,.bool false,.bool false])::M) (Yt mp l false::Os)):Qk st0 X0 st M (Iu cp mp false false l::Os):=by
 have B2:=Qk.freeze (R:=[(cp,0,[.ptr mp 0 0,.bool false,.bool false])]) (o:=Xn [(cp,0,[.ptr mp 0 0,.bool false,.bool false])]) (M:=M) B (fun c m x h=>B.row c m x (by rw[List.mem_singleton.1 h];exact List.mem_cons_self ..)) (fun c hc=>hc)
 exact B2.join (o:=Iu cp mp false false l) (fun h1 h2=>⟨h1 cp 0 _ (List.mem_singleton.2 rfl),fun _=>h2⟩) (fun c hc=>by
  rcases hc with hc|hc
  ·exact .inl ⟨0,_,by rw[hc];exact List.mem_singleton.2 rfl⟩
  ·exact .inr hc)
theorem Y8.lt(hR:Y8 R st.h.get)(hf:Qi st){c m:Nat}{r:List AV}(h:R c m r):c<st.n:=by
 obtain⟨ro,e,vs,ms,h2,h3⟩:=hR c m r h
 exact Nat.lt_of_not_le fun hle=>by rw[hf c hle]at h2;cases h2
def hU(st st':St)(x:Cr)(m:Int)(lf:Nat)(v:AV):Prop:= ∃t ka kn ev ok F au s,v=.tup [.agg [.int .i64 t,ka,kn],.int .i64 ev,.bool ok]∧Qs ka=true∧Qs kn=true∧ZQ st st' F∧(ok=true→ev=0→wa x m=true∧Xh st'.h.get F au ka kn∧Jx x m.toNat au s∧s≤lf∧t=((au.tr:Nat):Int))
def fZ(st st':St)(x:Cr)(m:Int)(v:AV):Prop:= ∃t ka kn ok F au s,v=.tup [.agg [.int .i64 t,ka,kn],.bool ok]∧Qs ka=true∧Qs kn=true∧ZQ st st' F∧(ok=true→XZ x≤20∧wa x m=true∧Xh st'.h.get F au ka kn∧Jx x m.toNat au s∧s≤1073741824∧t=((au.tr:Nat):Int))

theorem Cs(hf:Qi st)(hR:Y8 R st.h.get){mp lf:Nat}(hr:ZO R (.mk o a b g n l) cs)(hRm: ∀c m r,R c m r→c≠mp)(hm:Qy st.h.get mp 0 [iN lf,.bool false])(hl:lf≤9223372036854775807)(m:Int): ∃v st',Jh 52 [.agg cs,iZ m,.ptr mp 0 0] st v st'∧hU st st' (.mk o a b g n l) m lf v∧US (fun c=>c=mp) st st':=by
 have hr0:=hr;obtain⟨kc,ls,rfl,hK⟩:=hr.U5;have hln:=hK.ln;have hbn:=hK.Wv;have B:=Qk.UN (o:=Yt mp lf false) hf hm (fun c hc=>(show c=mp from hc)▸hm.lt hf);refine JA Tryz.func52 Tryz.ntmps52 fun T K=>?_;have M:=B.mem;refine Qb 0 K M fun _ K=>?_;refine Ju K M rfl (Qa rfl (Qa rfl (Qa rfl (Qa rfl (Qa rfl (Qa hK.cell Q4)))))) Q9 fun c3 _ _ K M=>?_;refine au 5 K M ?_;intro c6 _ _ K _ M;refine oQ K M (Du M.fresh (fun c m r hr=>(B.step M).UI hf (hR c m r hr) (hRm c m r hr)) hr0 m) rfl rfl fun _ _ K M=>?_;refine Qb 1 K M fun _ K=>?_;refine Qp (K.QG rfl) (fun h14=>?_) (fun h14=>?_)
 ·have hb14:=h14
  replace h14:(wa (.mk o a b g n l) m)=false:=by simpa using h14
  refine au 4 K M ?_;intro _ _ K _ M;refine Jw ⟨.inr rfl,_,(Jv (JG K rfl (M.load (k:=0) rfl (QN Jk rfl))) (Q6 K rfl) (Q6 K rfl)),?_⟩;replace B:=B.step M;exact⟨⟨0,.nils,.nils,1,true,Xi,⟨0,[],[]⟩,0,rfl,rfl,rfl,fun c hc=>hc.elim,fun h1 h2=>by simp at h1 h2⟩,B.JN⟩
 have hb14:=h14
 replace h14:(wa (.mk o a b g n l) m)=true:=by simpa using h14
 refine Qb 0 K M fun _ K=>?_;obtain⟨k,rfl,hk6,hsz,hc⟩:=RK h14;refine au 7 K M ?_;intro c18 _ _ K _ M;replace B:=(B.step M);have hcm:c18≠mp:=fun e=>B.djM (Yt mp lf false) Q7 c18 0 _ (List.mem_cons_self ..) e;have h18:st.n≤c18:=(B.lo c18 0 _ (List.mem_cons_self ..)).resolve_right (fun e=>hcm e);replace B:=Qk.fT (M:=[(c6,0,[iZ 0,.nils,.nils]),(c3,0,[.str o,iZ a,iZ b,iZ g,iZ n,kc])]) B;have B0:=B;obtain⟨v22,st22,ev22,hof,QB⟩:=ea (.mk o a b g n l) R _ _ c18 mp lf k false false B.fresh (fun c m r hr=>B.UI hf (hR c m r hr) (hRm c m r hr)) hr0 (fun c m r hr hc=>by rcases hc with hc|hc;have:=hR.lt hf hr;omega;exact hRm c m r hr hc) hcm (B.Y4 (k:=0) rfl mp (.inr rfl)) (B.at_ (k:=0) rfl) hl hk6 hc hsz;refine p1 K (Qg rfl ev22) fun _ K=>?_;obtain⟨t1,ka1,kn1,E1,O1,F1,m1,s1,rfl,hka1,hkn1,hnf1,hcm1,hq1⟩:=hof;replace B:=B.call (k:=0) (o':=Iu c18 mp E1 O1 (lf-s1)) rfl QB hcm1 (UD fun c hc=>Nat.lt_of_lt_of_le (B.Y4 (k:=0) rfl c hc) QB.le);replace B:=B0.Zr (k:=0) (o:=FK F1 (E1||O1) m1 ka1 kn1) (om':=Iu c18 mp E1 O1 (lf-s1)) rfl rfl (B.Xc Q7) (fun hb=>(hq1 hb).2.1) hnf1;have M:=B.mem;refine au 1 K M ?_;intro c10 _ _ K _ M;refine QW (k:=0) K M rfl rfl rfl QA rfl (Qa rfl (Qa hka1 (Qa hkn1 Q4))) rfl fun _ M=>?_;refine Qb 3 K M fun _ K=>?_;refine p1 K (Qf rfl (Qx (Qy.Jd ((B.step M).at_ (k:=1) rfl).1) (Qd J7 rfl))) fun _ K=>?_;refine Qb 0 K M fun _ K=>?_;refine Qp (K.QG rfl) (fun h26=>?_) (fun h26=>?_)
 ·have hb26:=h26;refine au 4 K M ?_;intro _ _ K _ M;refine Jw ⟨.inr rfl,_,(Jv (JG K rfl (M.load (k:=1) rfl (QN Jk rfl))) (Q6 K rfl) (Q6 K rfl)),?_⟩;replace B:=B.step M;exact⟨⟨0,.nils,.nils,0,false,Xi,⟨0,[],[]⟩,0,rfl,rfl,rfl,fun c hc=>hc.elim,fun h1 h2=>by simp at h1 h2⟩,B.JN⟩
 have hb26:=h26;refine Qb 3 K M fun _ K=>?_;refine p1 K (Qf rfl (Qx (Qy.Jd ((B.step M).at_ (k:=1) rfl).1) (Qd J7 rfl))) fun _ K=>?_;refine Qb 0 K M fun _ K=>?_;refine Qp (K.QG rfl) (fun h31=>?_) (fun h31=>?_)
 ·have hb31:=h31;refine au 4 K M ?_;intro _ _ K _ M;refine Jw ⟨.inr rfl,_,(Jv (JG K rfl (M.load (k:=1) rfl (QN Jk rfl))) (Q6 K rfl) (Q6 K rfl)),?_⟩;replace B:=B.step M;exact⟨⟨0,.nils,.nils,8,true,Xi,⟨0,[],[]⟩,0,rfl,rfl,rfl,fun c hc=>hc.elim,fun h1 h2=>by simp at h1 h2⟩,B.JN⟩
 have hb31:=h31;refine Qb 1 K M fun _ K=>?_;refine QW (k:=1) K M rfl rfl rfl QA rfl (Qa rfl (Qa hka1 (Qa hkn1 Q4))) rfl fun _ M=>?_;refine Qb 2 K M fun _ K=>?_;refine Jw ⟨.inr rfl,_,(Jv (JG K rfl (M.load (k:=1) rfl (QN Jk rfl))) (Q6 K rfl) (Q6 K rfl)),?_⟩;replace B:=B.step M;have he1:(E1||O1)=false:=(by simp_all);exact⟨⟨_,ka1,kn1,0,true,F1,m1,s1,rfl,hka1,hkn1,fun c hc=>⟨(B.Lx (k:=0) rfl c hc).resolve_right fun e=>B.J3 (j:=0) (k:=1) rfl rfl Q9 c hc (.inr e),B.Y4 (k:=0) rfl c hc⟩,fun _ _=>⟨h14,B.at_ (k:=0) rfl he1,(hq1 he1).2.2.1,(hq1 he1).2.2.2.1,(hq1 he1).2.2.2.2⟩⟩,B.JN⟩

theorem uQ(hf:Qi st)(hR:Y8 R st.h.get)(hr:ZO R (.mk o a b g n l) cs)(m:Int): ∃v st',Jh 19 [.agg cs,iZ m] st v st'∧fZ st st' (.mk o a b g n l) m v∧Qt st st':=by
 have hr0:=hr;obtain⟨kc,ls,rfl,hK⟩:=hr.U5;have hln:=hK.ln;have hbn:=hK.Wv;have B:=Qk.start hf;refine JA Tryz.func19 Tryz.ntmps19 fun T K=>?_;have M:=B.mem;refine Qb 0 K M fun _ K=>?_;refine Ju K M rfl (Qa rfl (Qa rfl (Qa rfl (Qa rfl (Qa rfl (Qa hK.cell Q4)))))) Q9 fun c2 _ _ K M=>?_;refine au 3 K M ?_;intro c4 _ _ K _ M;refine oQ K M (Gz M.fresh (M.Y8 hR) hr0) rfl rfl fun _ _ K M=>?_;refine Qb 1 K M fun _ K=>?_;refine Jy K rfl (fun h11=>?_) fun h11=>?_
 ·refine au 3 K M ?_;intro _ _ K _ M;refine Jw ⟨.inr rfl,_,(Ud (JG K rfl (M.load (k:=0) rfl (QN Jk rfl))) (Q6 K rfl)),?_⟩;replace B:=B.step M;exact⟨⟨0,.nils,.nils,false,Xi,⟨0,[],[]⟩,0,rfl,rfl,rfl,fun c hc=>hc.elim,fun h=>by cases h⟩,B.qt⟩
 refine Qb 0 K M fun _ K=>?_;refine QC (l:=[(2,0),(0,1),(1,0),(3,0),(4,0),(5,0),(8,0),(9,0),(6,0),(7,0),(10,0),(11,0)]) (by kernel_rfl) ?_;have Mq:=M;have Bq:=B;replace B:=B.step M;obtain⟨v16,st16,ev16,mp,rfl,hmp,hmr,q16⟩:=Dp B.fresh 1073741824;refine qA rfl K (Qg rfl ev16) fun _ K=>?_;have hmp0:=Nat.le_trans B.le hmp;replace B:=B.new (o:=Yt mp 1073741824 false) q16 hmr (fun c hc=>by rw[show c=mp from hc];exact⟨hmp,hmr.lt q16.fresh⟩);have M:=B.mem;have Mp:=Mq;have Mq:=M;have Bp:=Bq;have Bq:=B;refine Jt rfl K rfl (M.load (k:=1) rfl (QN Jg rfl)) (Mp.load (k:=1) rfl (QN Jg rfl)) (Il (by simp[A8,A9,WU,Uo hK.len])) rfl Q9 fun _ K=>?_;refine q1 rfl K (Q0 rfl) fun _ K=>?_;replace B:=B.step M;have B0:=B;obtain⟨v17,st17,ev17,hof,QB⟩:=Cs B.fresh (fun c m r hr=>B.UI hf (hR c m r hr) (fun h=>h)) hr0 (fun c m r hr=>by have:=hR.lt hf hr;omega) (show Qy _ mp 0 [iZ ((1073741824:Nat):Int),.bool false]from B.at_ (k:=0) rfl) Q9 m;refine qA rfl K (Qg rfl ev17) fun _ K=>?_;obtain⟨t1,ka1,kn1,ev,ok,F1,m1,s1,rfl,hka1,hkn1,hnf1,hq1⟩:=hof
 have hq2:(!(ok&&decide (ev=0)))=false→ok=true∧ev=0:=fun h=>by simpa using h
 replace B:=B.call (k:=0) (o':=Hl mp) rfl QB trivial (UD fun c hc=>Nat.lt_of_lt_of_le (B.Y4 (k:=0) rfl c hc) QB.le);replace B:=B0.Zr (k:=0) (o:=FK F1 (!(ok&&decide (ev=0))) m1 ka1 kn1) (om':=Hl mp) rfl rfl (B.Xc Q7) (fun hb=>(hq1 (hq2 hb).1 (hq2 hb).2).2.1) hnf1;have M:=B.mem;have Mp:=Mq;have Mq:=M;have Bp:=Bq;have Bq:=B;refine Jo 2 K M fun _ K=>?_;refine W6 rfl K M Y7 Q9 fun c6 _ _ K M=>?_;refine Vx (k:=0) rfl K M rfl rfl rfl QA rfl (Qa rfl (Qa hka1 (Qa hkn1 Q4))) rfl fun _ M=>?_;have Mp:=Mq;have Mq:=M;have Bp:=Bq;have Bq:=B;refine Jo 4 K M fun _ K=>?_;refine QF ?_;show W _ _ _ _ _ _ _;refine Qb 2 K M fun _ K=>?_;refine oB K (Q0 rfl) rfl fun b23 _ e23 K=>?_;cases b23
 ·refine Qb 3 K M fun _ K=>?_;refine QW (k:=1) K M rfl rfl rfl QA rfl (Qa rfl (Qa hka1 (Qa hkn1 Q4))) rfl fun _ M=>?_;refine Qb 1 K M fun _ K=>?_;refine Jw ⟨.inr rfl,_,(Ud (JG K rfl (M.load (k:=1) rfl (QN Jk rfl))) (Q6 K rfl)),?_⟩;replace B:=B.step M;refine⟨⟨_,ka1,kn1,_,F1,m1,s1,rfl,hka1,hkn1,fun c hc=>⟨B.uI (k:=0) rfl c hc|>.1,B.Y4 (k:=0) rfl c hc⟩,fun h=>?_⟩,B.qt⟩;have hok:ok=true∧ev=0:=(by simp_all);have hq3:=hq1 hok.1 hok.2;exact⟨by omega,hq3.1,B.at_ (k:=0) rfl (by simp[hok]),hq3.2.2.1,hq3.2.2.2.1,hq3.2.2.2.2⟩
 refine Qb 3 K M fun _ K=>?_;refine QW (k:=1) K M rfl rfl rfl QA rfl (Qa rfl (Qa hka1 (Qa hkn1 Q4))) rfl fun _ M=>?_;refine Qb 1 K M fun _ K=>?_;refine Jw ⟨.inr rfl,_,(Ud (JG K rfl (M.load (k:=1) rfl (QN Jk rfl))) (Q6 K rfl)),?_⟩;replace B:=B.step M;refine⟨⟨_,ka1,kn1,_,F1,m1,s1,rfl,hka1,hkn1,fun c hc=>⟨B.uI (k:=0) rfl c hc|>.1,B.Y4 (k:=0) rfl c hc⟩,fun h=>?_⟩,B.qt⟩;have hok:ok=true∧ev=0:=(by simp_all);have hq3:=hq1 hok.1 hok.2;exact⟨by omega,hq3.1,B.at_ (k:=0) rfl (by simp[hok]),hq3.2.2.1,hq3.2.2.2.1,hq3.2.2.2.2⟩
end
section
open Go Go.RowKit

section
variable {R:Ee} {st:St} {o:List Nat} {a b g n:Int} {l:List Cr} {cs:List AV} {mp lf k s:Nat} {m:Au}
theorem qD(hf:Qi st)(hR:Y8 R st.h.get)(hr:ZO R (.mk o a b g n l) cs)(hRm: ∀c m r,R c m r→c≠mp)(hm:Qy st.h.get mp 0 [.int .i64 (lf:Nat),.bool false])(hl:lf≤9223372036854775807)(hk6:k≤6)(hc:QX (.mk o a b g n l) ((k:Nat):Int)=true)(hsz:XZ (.mk o a b g n l)≤2000)(hA:Jx (.mk o a b g n l) k m s)(hs:s≤lf):
  ∃v st',Jh 20 [.agg cs,.int .i64 (k:Nat),.ptr mp 0 0] st v st'∧ ∃dp F,v=.tup [.ptr dp 0 0,.int .i64 0]∧UZ st' F dp m∧ZQ st st' F∧Qy st'.h.get mp 0 [.int .i64 (lf-s:Nat),.bool false]∧US (fun c=>c=mp) st st':=by
 obtain⟨v,st',h1,h2,h3⟩:=Oj hf hR hr hRm hm hl hk6 hc hsz;rcases h2 with⟨dp,F,m',s',h4,h5,h6,h7,h8,h9⟩|⟨h4,h5⟩
 ·obtain⟨rfl,rfl⟩:=hA.uniq h5;exact⟨v,st',h1,dp,F,h4,h7,h8,h9,h3⟩
 ·have:=h5 m s hA;omega
end
theorem uG{st:St}(hf:Qi st)(n:Nat): ∃v st',Jh 11 [.int .i64 (n:Nat)] st v st'∧ ∃mp,v=.ptr mp 0 0∧st.n≤mp∧Qy st'.h.get mp 0 [.int .i64 (n:Nat),.bool false]∧Qt st st':=T0 hf ((n:Nat):Int)
end
section
open Go Go.RowKit

theorem eS{o:List Nat}{a b g n m:Int}{l:List Cr}(h:QX (.mk o a b g n l) m=true):n.toNat≤20:=by
 rw[QX]at h;simp only[Bool.and_eq_true]at h;have:=h.2.2.1;unfold JM at this
 split at this<;>simp at this<;>omega
theorem VH{o:List Nat}{a b g n m:Int}{l:List Cr}(h:QX (.mk o a b g n l) m=true){x:Cr}(hx:x∈l):QX x (if o=[101,120]then m+1 else m)=true∧(o=[101,120]→m<6):=by
 rw[QX]at h;simp only[Bool.and_eq_true]at h;have h4:=h.2.2.2
 by_cases e:o=[101,120]
 ·rw[if_pos e]at h4 ⊢;simp only[Bool.and_eq_true,decide_eq_true_eq]at h4;exact⟨Ea h4.2.2.2.2 hx,fun _=>h4.2.1⟩
 ·rw[if_neg e]at h4 ⊢;simp only[Bool.and_eq_true]at h4;exact⟨Ea h4.2.2.2 hx,fun h=>absurd h e⟩
end
section
open Go Go.RowKit
variable {a b d n s x y:Nat} {o:List Nat}

def Zt(v:Nat):List Nat→Nat
 |[]=>0
 |l::w=>Hi l v+2 *Zt v w
def Yp(a:Nat):Bool:=decide (0<a)&&decide (a&&&(a-1)=0)
def QL(o:List Nat)(n a b d:Nat):Bool:=
 if o=[115,117,98]then decide (Vc a b=0)
 else if o=[110,111,110,101]then decide (a=0)
 else if o=[117,110,105,111,110]then decide (d=a|||b)
 else if o=[105,110,116,101,114]then decide (d=a&&&b)
 else if o=[109,105,110,117,115]then decide (d=Vc a b)
 else if o=[102,108,97,103]then decide (a % 2=1)
 else if o=[115,105,110,103]then Yp a
 else if o=[110,117,109]then decide (a=2^n)
 else if o=[108,101,115,115]then Yp a&&Yp b&&decide (a<b)
 else if o=[112,108,117,115]then Yp a&&decide (a *2^n=b)
 else true
def PG(o:List Nat)(n s a b d:Nat):Prop:=
 s≠30∧(if o=[115,117,98]then Vc a b=0
 else if o=[110,111,110,101]then a=0
 else if o=[117,110,105,111,110]then d=a|||b
 else if o=[105,110,116,101,114]then d=a&&&b
 else if o=[109,105,110,117,115]then d=Vc a b
 else if o=[102,108,97,103]then s=1∨a % 2=1
 else if o=[115,105,110,103]then(s=0∧Yp a=true)∨(s=1∧a=0)
 else if o=[110,117,109]then(s≤n∧a=2^(n-s))∨(s=n+1∧a=0)
 else if o=[108,101,115,115]then(s=0∧Yp a=true∧Yp b=true∧a<b)∨(s=1∧a=0∧Yp b=true)∨(s=2∧a=0∧b=0)
 else if o=[112,108,117,115]then(s=0∧Yp a=true∧a *2^n=b)∨(1≤s∧s≤n∧a=0∧b=2^(n-s))∨(s=n+1∧a=0∧b=0)
 else True)
theorem half(x a:Nat)(hx:x≤1):(x+2 *a)/2=a:=by omega
theorem vJ(hx:x≤1)(hy:y≤1):(x+2 *a)&&&(y+2 *b)=x *y+2 *(a&&&b):=by
 have h1:((x+2 *a)&&&(y+2 *b))/2=a&&&b:=by rw[Nat.and_div_two,half x a hx,half y b hy]
 have h2:= @Nat.and_mod_two_eq_one (x+2 *a) (y+2 *b)
 obtain rfl|rfl:x=0∨x=1:=by omega
 ·have: ¬((0+2 *a)&&&(y+2 *b)) % 2=1:=fun h=>by have:=(h2.1 h).1;omega
  rw[Nat.zero_mul];omega
 ·obtain rfl|rfl:y=0∨y=1:=by omega
  ·have: ¬((1+2 *a)&&&(0+2 *b)) % 2=1:=fun h=>by have:=(h2.1 h).2;omega
   rw[Nat.mul_zero];omega
  ·have:((1+2 *a)&&&(1+2 *b)) % 2=1:=h2.2 ⟨by omega,by omega⟩;rw[Nat.mul_one];omega
theorem ir(hx:x≤1)(hy:y≤1):(x+2 *a)|||(y+2 *b)=max x y+2 *(a|||b):=by
 have h1:((x+2 *a)|||(y+2 *b))/2=a|||b:=by rw[Nat.or_div_two,half x a hx,half y b hy]
 have h2:= @Nat.or_mod_two_eq_one (x+2 *a) (y+2 *b)
 by_cases h:x=1∨y=1
 ·have:((x+2 *a)|||(y+2 *b)) % 2=1:=h2.2 Qc;omega
 ·have: ¬((x+2 *a)|||(y+2 *b)) % 2=1:=fun h'=>by have:=h2.1 h';omega
  omega
theorem fF(hx:x≤1)(hy:y≤1):(x+2 *a)^^^(y+2 *b)=(x+y) % 2+2 *(a^^^b):=by
 have h1:((x+2 *a)^^^(y+2 *b))/2=a^^^b:=by rw[Nat.xor_div_two,half x a hx,half y b hy]
 have h2:= @Nat.xor_mod_two_eq_one (x+2 *a) (y+2 *b)
 by_cases h:(x+y) % 2=1
 ·have:((x+2 *a)^^^(y+2 *b)) % 2=1:=h2.2 Qc;omega
 ·have: ¬((x+2 *a)^^^(y+2 *b)) % 2=1:=fun h'=>by have:=h2.1 h';omega
  omega
theorem wg(hx:x≤1)(hy:y≤1):Vc (x+2 *a) (y+2 *b)=(x-y)+2 *Vc a b:=by
 have hxy:x *y≤1:=Nat.le_trans (Nat.mul_le_mul hx hy) Q9;unfold Vc;rw[vJ hx hy,fF hx hxy]
 obtain rfl|rfl:x=0∨x=1:=by omega
 ·simp
 ·obtain rfl|rfl:y=0∨y=1:=by omega
  ·simp
  ·simp
theorem PZ(a:Nat):Yp (0+2 *a)=Yp a:=by
 unfold Yp
 by_cases h:a=0
 ·subst h;rfl
 ·rw[show 0+2 *a-1=1+2 *(a-1) by omega,vJ Q9 Q9,Nat.zero_mul,Bool.eq_iff_iff];simp only[Bool.and_eq_true,decide_eq_true_eq]
  constructor<;>rintro⟨h1,h2⟩<;>refine⟨by omega,by omega⟩
theorem PY(a:Nat):Yp (1+2 *a)=decide (a=0):=by
 unfold Yp;rw[show 1+2 *a-1=0+2 *a by omega,vJ Q9 Q9,Nat.mul_zero,Nat.and_self,Bool.eq_iff_iff];simp only[Bool.and_eq_true,decide_eq_true_eq];constructor
 ·rintro⟨_,h⟩;omega
 ·intro h;exact⟨by omega,by omega⟩
theorem LV(h:Yp a=true):0<a:=by
 unfold Yp at h;simp only[Bool.and_eq_true,decide_eq_true_eq]at h;exact h.1
theorem HF(n:Nat):0<2^n:=Nat.two_pow_pos n
theorem qU{z:Nat}(hn:n≤20)(hs:s≤30)(hx:x≤1)(hy:y≤1)(hz:z≤1):PG o n s (x+2 *a) (y+2 *b) (z+2 *d)↔PG o n (min (QR o n s x y z) 30) a b d:=by
 unfold PG QR
 by_cases e:s=30
 ·simp[e]
 simp only[if_neg e]
 by_cases h0:o=[115,117,98]
 ·subst h0;simp only[if_true,wg hx hy];split<;>simp<;>omega
 by_cases h1:o=[110,111,110,101]
 ·subst h1;simp;split<;>simp<;>omega
 by_cases h2:o=[117,110,105,111,110]
 ·subst h2;simp only[ir hx hy]
  have hor:x|||y=max x y:=by
   obtain rfl|rfl:x=0∨x=1:=by omega
   ·simp
   ·obtain rfl|rfl:y=0∨y=1:=by omega
    ·rfl
    ·rfl
  simp[hor];split<;>simp<;>omega
 by_cases h3:o=[105,110,116,101,114]
 ·subst h3;simp only[vJ hx hy]
  have hand:x&&&y=x *y:=by
   obtain rfl|rfl:x=0∨x=1:=by omega
   ·simp
   ·obtain rfl|rfl:y=0∨y=1:=by omega
    ·rfl
    ·rfl
  have hxy:x *y≤1:=Nat.le_trans (Nat.mul_le_mul hx hy) Q9
  simp[hand];split<;>simp<;>omega
 by_cases h4:o=[109,105,110,117,115]
 ·subst h4;simp[wg hx hy];split<;>simp<;>omega
 by_cases h5:o=[102,108,97,103]
 ·subst h5;simp;split<;>simp<;>omega
 by_cases h6:o=[115,105,110,103]
 ·subst h6;simp
  obtain rfl|rfl:x=0∨x=1:=by omega
  ·rw[PZ]
   by_cases hA:Yp a=true<;>split<;>simp[hA]<;>omega
  ·rw[PY]
   split<;>simp<;>omega
 by_cases h7:o=[110,117,109]
 ·subst h7;simp;have hp:=HF (n-s)
  have hq:s<n→2^(n-s)=2 *2^(n-(s+1)):=fun h=>by rw[show n-s=n-(s+1)+1 by omega,Nat.pow_succ,Nat.mul_comm]
  have h1:s=n→2^(n-s)=1:=fun h=>by rw[h,Nat.sub_self]
  rcases Nat.lt_trichotomy s n with h|h|h
  ·have:=hq h
   have hm:min (s+1) 30=s+1:=by omega
   split
   ·omega
   ·split<;>(try simp)<;>(try rw[hm])<;>omega
  ·have:=h1 h
   have hm:min (s+1) 30=s+1:=by omega
   split
   ·omega
   ·split<;>(try simp)<;>(try rw[hm])<;>omega
  ·split
   ·omega
   ·split<;>(try simp)<;>omega
 by_cases h8:o=[108,101,115,115]
 ·subst h8;simp;have hsa:Yp a=true→0<a:=LV;have hsb:Yp b=true→0<b:=LV
  rcases(show x=0∨x=1 by omega)with rfl|rfl<;>rcases(show y=0∨y=1 by omega)with rfl|rfl
  all_goals simp only[PZ,PY,decide_eq_true_eq]
  all_goals by_cases hA:Yp a=true
  all_goals by_cases hB:Yp b=true
  all_goals simp only[hA,hB,true_implies]at hsa hsb ⊢
  all_goals simp
  all_goals(repeat' split)
  all_goals first|omega|(simp;done)|(simp;omega)
 by_cases h9:o=[112,108,117,115]
 ·subst h9;simp;have hp:=HF (n-s);have hpn:=HF n
  have hq:s<n→2^(n-s)=2 *2^(n-(s+1)):=fun h=>by rw[show n-s=n-(s+1)+1 by omega,Nat.pow_succ,Nat.mul_comm]
  have h1:s=n→2^(n-s)=1:=fun h=>by rw[h,Nat.sub_self]
  have hqn:0<n→2^n=2 *2^(n-1):=fun h=>by rw[show n=n-1+1 by omega,Nat.pow_succ,Nat.mul_comm];simp
  have hsa:Yp a=true→0<a:=LV
  have h0n:n=0→2^n=1:=fun h=>by rw[h]
  have hm0:(0+2 *a) *2^n=2 *(a *2^n):=by rw[Nat.zero_add,Nat.mul_assoc]
  have hm1:(1+2 *a) *2^n=2^n+2 *(a *2^n):=by rw[Nat.add_mul,Nat.one_mul,Nat.mul_assoc]
  have ha0:a=0→a *2^n=0:=fun h=>by rw[h,Nat.zero_mul]
  generalize hP:a *2^n=P at *
  by_cases hs0:s=0
  ·subst hs0
   rcases(show x=0∨x=1 by omega)with rfl|rfl<;>rcases(show y=0∨y=1 by omega)with rfl|rfl
   all_goals simp only[PZ,PY,decide_eq_true_eq,hm0,hm1]
   all_goals by_cases hA:Yp a=true
   all_goals simp only[hA,true_implies]at hsa ⊢
   all_goals simp
   all_goals(repeat' split)
   all_goals first|omega|(simp;done)|(simp;omega)
  ·rcases Nat.lt_trichotomy s n with h|h|h
   ·have:=hq h
    have hm:min (s+1) 30=s+1:=by omega
    (repeat' split)<;>first|omega|(rw[hm];omega)|(simp;done)|(simp;omega)|(simp;rw[hm];omega)
   ·have:=h1 h
    have hm:min (s+1) 30=s+1:=by omega
    (repeat' split)<;>(try simp)<;>(try rw[hm])<;>omega
   ·(repeat' split)<;>first|omega|(simp;done)|(simp;omega)
 simp[h0,h1,h2,h3,h4,h5,h6,h7,h8,h9,e]
theorem zx:PG o n s 0 0 0↔Xe o n s=true:=by
 unfold PG Xe
 by_cases e:s=30
 ·simp[e]
 simp only[if_neg e];have hp:=HF (n-s)
 by_cases h0:o=[115,117,98]
 ·subst h0;simp[e,Vc]
 by_cases h1:o=[110,111,110,101]
 ·subst h1;simp[e]
 by_cases h2:o=[117,110,105,111,110]
 ·subst h2;simp[e]
 by_cases h3:o=[105,110,116,101,114]
 ·subst h3;simp[e]
 by_cases h4:o=[109,105,110,117,115]
 ·subst h4;simp[e,Vc]
 by_cases h5:o=[102,108,97,103]
 ·subst h5;simp;omega
 by_cases h6:o=[115,105,110,103]
 ·subst h6;simp[Yp];omega
 by_cases h7:o=[110,117,109]
 ·subst h7;simp;omega
 by_cases h8:o=[108,101,115,115]
 ·subst h8;simp[Yp];omega
 by_cases h9:o=[112,108,117,115]
 ·subst h9;simp[Yp];omega
 simp[h0,h1,h2,h3,h4,h5,h6,h7,h8,h9,e]
theorem L7(l v:Nat):Hi l v≤1:=by unfold Hi;omega
theorem CT{l:Nat}:VS o n a b d s l≤30:=by unfold VS;omega
theorem Dk{o:List Nat}{n a b d:Nat}(hn:n≤20): ∀(w:List Nat) {s:Nat},s≤30→(Xe o n (w.foldl (VS o n a b d) s)=true↔PG o n s (Zt a w) (Zt b w) (Zt d w))
 |[],s,hs=>by rw[List.foldl_nil,Zt,Zt,Zt];exact zx.symm
 |l::w,s,hs=>by
  rw[List.foldl_cons,Zt,Zt,Zt,qU hn hs (L7 _ _) (L7 _ _) (L7 _ _)];exact Dk hn w CT
theorem qT:PG o n 0 a b d↔QL o n a b d=true:=by
 unfold PG QL
 by_cases h0:o=[115,117,98]
 ·subst h0;simp
 by_cases h1:o=[110,111,110,101]
 ·subst h1;simp
 by_cases h2:o=[117,110,105,111,110]
 ·subst h2;simp
 by_cases h3:o=[105,110,116,101,114]
 ·subst h3;simp
 by_cases h4:o=[109,105,110,117,115]
 ·subst h4;simp
 by_cases h5:o=[102,108,97,103]
 ·subst h5;simp
 by_cases h6:o=[115,105,110,103]
 ·subst h6;simp
 by_cases h7:o=[110,117,109]
 ·subst h7;simp
 by_cases h8:o=[108,101,115,115]
 ·subst h8;simp[and_assoc]
 by_cases h9:o=[112,108,117,115]
 ·subst h9;simp
 simp[h0,h1,h2,h3,h4,h5,h6,h7,h8,h9]
theorem Sx{k:Nat}(hn:n≤20)(hk:k≤6){w:List Nat}(hw:VO (2^k) w):(Zo o a b d n k).ok ((Zo o a b d n k).run 0 w)=QL o n (Zt a w) (Zt b w) (Zt d w):=by
 have hl:w.foldl (VS o n a b d) 0≤30:=by
  rcases List.eq_nil_or_concat w with rfl|⟨v,l,rfl⟩
  ·exact Nat.zero_le _
  ·rw[List.concat_eq_append,List.foldl_append];exact CT
 rw[qN w Q9 hw,P5 Qc,Bool.eq_iff_iff,Dk hn w Q9,qT]
mutual
def Yi:Cr→Bool
 |.mk o _ _ _ _ l=>XG l&&decide (o≠[101,120])
def XG:List Cr→Bool
 |[]=>true
 |x::l=>Yi x&&XG l
end
mutual
def QD(S:Nat→Nat):Cr→Bool
 |.mk o a b d n l=>if o=[110,111,116]then !((EG S l)[0]?.getD false)else if o=[97,110,100]then(EG S l)[0]?.getD false&&(EG S l)[1]?.getD false else QL o n.toNat (S a.toNat) (S b.toNat) (S d.toNat)
def EG(S:Nat→Nat):List Cr→List Bool
 |[]=>[]
 |x::l=>QD S x::EG S l
end
theorem Jx.holds{x:Cr}{k:Nat}{m:Au}(h:Jx x k m s):k≤6→QX x ((k:Nat):Int)=true→Yi x=true→ ∀{w:List Nat},VO (2^k) w→m.ok (m.run 0 w)=QD (fun v=>Zt v w) x:=by
 induction h with
 | @atom o a b d n k m h1 h2 h3 h=>
  intro hk hc hfr w hw;rw[h.like w (VX (show(Zo o a.toNat b.toNat d.toNat n.toNat k).tr=m.tr from h.tr.symm) (show VO (2^k) w from hw)),Sx (eS hc) hk hw,QD,if_neg h1,if_neg h2]
 |not ho hx h ih=>
  intro hk hc hfr w hw;subst ho;rw[Yi,XG,XG]at hfr;rw[hx.uS (o:=[]) (a:=0) (b:=0) (d:=0) (n:=0) h hw,ih hk (VH hc Q7).1 (by simpa using hfr) hw,QD,if_pos rfl];simp[EG]
 | @and o a b d n x y k s t p q r m lp ho hx hy hb h ih1 ih2=>
  intro hk hc hfr w hw;subst ho;rw[Yi,XG,XG,XG]at hfr
  have hfr:Yi x=true∧Yi y=true:=by simpa using hfr
  rw[hx.uT hb h hw,ih1 hk (VH hc Q7).1 hfr.1 hw,ih2 hk (VH hc Q7).1 hfr.2 hw,QD,if_neg Q9,if_pos rfl];simp[EG]
 |ex ho=>
  intro hk hc hfr;subst ho;rw[Yi]at hfr;simp at hfr
theorem Gu(v:Nat): ∀(w:List Nat) (l:Nat),Zt v (w++[l])=Zt v w+Hi l v *2^w.length
 |[],l=>by simp[Zt]
 |c::w,l=>by
  rw[List.cons_append,Zt,Zt,Gu v w l,List.length_cons,Nat.pow_succ,Nat.mul_add,Nat.add_assoc]
  congr 2
  rw[Nat.mul_comm,Nat.mul_assoc]
theorem Lm(v:Nat): ∀(w:List Nat),Zt v w<2^w.length
 |[]=>by simp[Zt]
 |c::w=>by
  have h1:=Lm v w;have h2:=L7 c v;rw[Zt,List.length_cons,Nat.pow_succ];omega
theorem xo{v l:Nat}{w:List Nat}:Zt v w|||Hi l v *2^w.length=Zt v (w++[l]):=by
 rw[Gu];exact G2 (Lm v w)
end
end Go.Proofs.YtiknomepbklibaaGreatDoor
