/-
  solve.found: what a closed formula's automaton tells.
-/
import Derived.Test.YtildagdnomiahaaGreatDoorQkLk
import Derived.Test.YtildagdnomiahaaGreatDoorQkTyv
namespace Go.Proofs.YtildagdnomiahaaGreatDoor
open Go Go.RowKit
set_option maxHeartbeats 8000000
set_option linter.unusedVariables false
set_option linter.unusedSimpArgs false
set_option linter.unnecessarySimpa false
set_option linter.unusedSectionVars false
set_option maxRecDepth 100000
variable {F:Fp} {R:EM} {a:Au} {b g n:Int} {cs:List AV} {dp lf mp s:Nat} {kv:AV} {o:List Nat} {st:St} {x:Cr}

theorem Np(u:AV):Ia Tryz.prog 49 u=some (.ifc 49 u):=by kernel_rfl
theorem Xd.fq{y:Cr}{ds:List AV}{a:Int}{c m:Nat}(hx:Xd R x cs)(hy:Xd R y ds)(hr:R c m (cs++ds)):Xd R (.mk o a b g n [x,y]) [.str o,.int .i64 a,.int .i64 b,.int .i64 g,.int .i64 n,.sl c m 0 2 6]:=by
 have h6:=hx.ie;have k6:=hy.ie;refine Xd.node (kids:=[x,y]) hr Q0 (by simp[h6,k6]) fun i k hi=>?_
 match i with
 |0=>injection hi with hi;subst hi;rw[show 0+0 *6=0 by rfl,List.drop_zero,List.take_append_of_le_length Qe,List.take_of_length_le Qe];exact hx
 |1=>injection hi with hi;subst hi;rw[show 0+1 *6=6 by rfl,List.drop_append_of_le_length Qe,List.drop_of_length_le Qe,List.nil_append,List.take_of_length_le Qe];exact hy
 |i+2=>simp at hi
theorem Oy{y:Cr}{m:Int}(hx:J0 x m=true)(hy:J0 y m=true):J0 (LP x y) m=true:=by
 unfold LP;rw[J0];rw[if_neg QA];simp only[FK,hx,hy];rfl
theorem L7(m:Int):J0 V4 m=true:=by
 unfold V4;rw[J0];rw[if_neg QA];rfl
theorem Rz(x y:Cr):Wc (LP x y)=Wc x+Wc y+1:=by unfold LP;rw[Wc,Xa,Xa,Xa];omega
theorem BC:Wc V4=1:=by unfold V4;rw[Wc,Xa]
theorem Gh(hf:Qh st)(hD:JH st F dp a)(C:Canon a)(hany:a.acc.any id=false): ∃v st',QP 106 [.ptr dp 0 0] st v st'∧v=.tup [.nils,.bool false]∧Qt st st':=by
 obtain⟨v,st',h1,h2,h3⟩:=HU hf hD C (fun h=>by rw[hany]at h;cases h);refine⟨v,st',h1,?_,h3⟩;rcases h2 with⟨_,h⟩|⟨w,kw,h,_⟩
 ·exact h
 ·unfold Z2 at h;rw[if_neg (by rw[hany];decide)]at h;cases h
theorem Gg(hf:Qh st)(hD:JH st F dp a)(C:Canon a)(hs:(Z2 a).isSome=true): ∃v st',QP 106 [.ptr dp 0 0] st v st'∧(∃w kw,Z2 a=some w∧v=.tup [kw,.bool true]∧FT st st' 1 kw (zC (zN w)))∧Qt st st':=by
 obtain⟨v,st',h1,h2,h3⟩:=HU hf hD C (fun _=>hs);refine⟨v,st',h1,?_,h3⟩;rcases h2 with⟨h,_⟩|h
 ·rw[h]at hs;cases hs
 ·exact h
theorem Dn(hf:Qh st)(hR:Xx R st.h.get){k:Nat}{m:Au}(hr:Xd R x cs)(hRm: ∀c m r,R c m r→c≠mp)(hm:Qu st.h.get mp 0 [.int .i64 (lf:Nat),.bool false])(hl:lf≤9223372036854775807)(hk6:k≤6)(hc:J0 x ((k:Nat):Int)=true)(hsz:Wc x≤2000)(hA:Jn x k m s)(hs:s≤lf):
  ∃v st',QP 65 [.agg cs,.int .i64 (k:Nat),.ptr mp 0 0] st v st'∧ ∃dp F,v=.tup [.ptr dp 0 0,.int .i64 0]∧JH st' F dp m∧XP st st' F∧Qu st'.h.get mp 0 [.int .i64 (lf-s:Nat),.bool false]∧YR (fun c=>c=mp) st st':=by
 obtain⟨o,a,b,g,n,l⟩:=x;obtain⟨v,st',h1,h2,h3⟩:=LB hf hR hr hRm hm hl hk6 hc hsz;refine⟨v,st',h1,?_⟩;rcases h2 with⟨dp,F,m',s',e1,e2,e3,e4,e5,e6⟩|⟨_,e⟩
 ·obtain⟨rfl,rfl⟩:=hA.uniq e2;exact⟨dp,F,e1,e4,e5,e6,h3⟩
 ·have:=e m s hA;omega

theorem PR(hf:Qh st){w:List Int}{kw:AV}(hw:Jb st.h.get [] 1 (zC w) kw): ∃v st',QP 108 [kw,iZ 0] st v st'∧ ∃ks,v=ks∧Qw ks=true∧Qt st st':=by
 have hbnw:(w.length:Int)≤9223372036854775807:=by have:=hw.FP;rw[Qz]at this;exact this
 refine Jy Tryz.func108 Tryz.ntmps108 fun T K=>?_;have M:=Mem.start hf;refine Qa 2 K M fun _ K=>?_;refine Kb id AV.nils (n:=0) K M JC Zd rfl Qe rfl fun c10 _ _ K M=>?_;refine Qa 2 K M fun _ K=>?_;refine p1 K (Q7 Jr rfl rfl (hw.len.trans (congrArg some (Qz _)))) fun _ K=>?_;refine Qa 1 K M fun _ K=>?_;refine Jc (fun mm1 T st9=> ∃(i:Nat),mm1=w.length-i∧QG [(1,iZ 0),(4,.nils),(5,(.sl c10 0 0 0 1)),(11,kw),(12,iZ (w.length:Nat)),(13,iN i)] T∧Mem st.h.get st.n [] st9 [(c10,0,((List.replicate 0 AV.nils).map id))]∧i≤w.length) (fun mm1 T st9 hI=>?_) _ _ _ ⟨0,rfl,(K.sub rfl),M.less (.refl _),(Nat.zero_le _)⟩;obtain⟨i,rfl,K,M,hi⟩:=hI;refine Qa 1 K M fun _ K=>?_;refine UA K rfl (fun h14=>?_) fun h14=>?_
 ·refine Qa 1 K M fun _ K=>?_;obtain⟨y16,hi16⟩:=YY w i Qe;refine oI (Jb.mem M hw Q0) (JB hi16) K QF Qr rfl rfl rfl fun _ _ _ _ K=>?_;refine Qa 4 K M fun _ K=>?_;refine Jc (fun mm2 T st9=> ∃(j:Nat),mm2=0∧QG [(1,iZ 0),(4,.nils),(5,(.sl c10 0 0 0 1)),(6,iN i),(7,iZ y16),(11,kw),(12,iZ (w.length:Nat)),(13,iN i),(14,.bool (decide (((i:Nat):Int)<((w.length:Nat):Int)))),(18,iZ 0),(19,iN j)] T∧Mem st.h.get st.n [] st9 [(c10,0,((List.replicate 0 AV.nils).map id))]) (fun mm2 T st9 hI=>?_) _ _ _ ⟨0,rfl,(K.sub rfl),M.less (.refl _)⟩;obtain⟨j,rfl,K,M⟩:=hI;refine Qa 1 K M fun _ K=>?_;refine UA K rfl (fun h20=>?_) fun h20=>?_
  ·exfalso;omega
  refine QT ?_;show W _ _ _ _ _ _ _;refine Qa 2 K M fun _ K=>?_;exact⟨_,Qe,i+1,rfl,(K.sub rfl),M.less (.refl _),Qe⟩
 refine QT ?_;show W _ _ _ _ _ _ _;refine Qa 2 K M ?_;exact⟨_,rfl,rfl,M.qt⟩

theorem Tw(hf:Qh st)(hD:JH st F dp a)(C:Canon a)(hany:a.acc.any id=false)(hkv:JZ kv=some 0): ∃v st',QP 66 [.ptr dp 0 0,kv] st v st'∧v=.tup [.nils,.bool false]∧Qt st st':=by
 have B:=Ql.start hf;refine Jy Tryz.func66 Tryz.ntmps66 fun T K=>?_;have M:=B.mem;refine Qa 3 K M fun _ K=>?_;refine oQ K M (Gh M.fresh (hD.q (B.step M).qt) C hany) rfl rfl fun _ _ K M=>?_;refine Qa 17 K M ?_;exact⟨rfl,(B.step M).qt⟩

theorem Tv(hf:Qh st)(hD:JH st F dp a)(C:Canon a)(htr0:a.tr=0)(hsh:(Z2 a).isSome=true)(hkv:JZ kv=some 0): ∃v st',QP 66 [.ptr dp 0 0,kv] st v st'∧ ∃c m,v=.tup [.sl c m 0 0 3,.bool true]∧Qu st'.h.get c m []∧st.n≤c∧Qt st st':=by
 have B:=Ql.start hf;refine Jy Tryz.func66 Tryz.ntmps66 fun T K=>?_;have M:=B.mem;refine Qa 3 K M fun _ K=>?_;obtain⟨v14,st14,ev14,⟨w,kw,hsw,rfl,nrw⟩,q14⟩:=Gg M.fresh (hD.q (B.step M).qt) C hsh;refine p1 K (Qg rfl ev14) fun _ K=>?_;obtain⟨Aw,hAw,M⟩:=M.YG q14 nrw;replace hAw:=hAw.z0;simp only[AH]at M;refine Qa 9 K M fun _ K=>?_;obtain⟨v21,st21,ev21,rfl,q21⟩:=YZ M.fresh (hD.q (B.step M).qt);refine pg K rfl rfl (Qg rfl ev21) fun _ K=>?_;replace M:=M.quiet q21;refine Qa 1 K M fun _ K=>?_;refine pg K rfl rfl (Q7 JT rfl rfl hkv) fun _ K=>?_;refine Qa 2 K M fun _ K=>?_;refine Ze K rfl (fun h25=>?_) fun h25=>?_
 ·have hb25:=h25
  replace h25: ¬(((a.tr:Nat):Int)=((0:Nat):Int)):=by first|exact of_decide_eq_false h25|exact yF h25|simpa using h25
  exfalso;omega
 have hb25:=h25
 replace h25:(((a.tr:Nat):Int)=((0:Nat):Int)):=by first|exact of_decide_eq_true h25|exact yT h25|simpa using h25
 refine Qa 2 K M fun _ K=>?_;refine p1 K (Q7 JT rfl rfl hkv) fun _ K=>?_;obtain⟨v29,st29,ev29,kd,rfl,hkd,q29⟩:=PR M.fresh (Mem.Zs (L:=[]) (B:=[]) M hAw);refine p1 K (Qg rfl ev29) fun _ K=>?_;replace M:=M.quiet q29;refine Qa 1 K M fun _ K=>?_;refine AU K M Gf IZ rfl rfl rfl rfl rfl fun c30 _ _ K M=>?_;refine Qa 2 K M fun _ K=>?_;refine p1 K (Q7 JT rfl rfl hkv) fun _ K=>?_;refine Qa 1 K M fun _ K=>?_;refine Jc (fun mm1 T st9=> ∃(j:Nat),mm1=0∧QG [(4,.nils),(5,.bool false),(8,v29),(9,.sl c30 0 0 0 3),(31,kv),(32,iZ (((0:Nat):Int))),(33,iN j)] T∧Ql st WM st9 ((c30,0,[])::(Aw++[])) []) (fun mm1 T st9 hI=>?_) _ _ _ ⟨0,rfl,(K.sub rfl),(B.step M).less (.refl _)⟩;obtain⟨j,rfl,K,B⟩:=hI;have M:=B.mem;refine Qa 1 K M fun _ K=>?_;refine UA K rfl (fun h34=>?_) fun h34=>?_
 ·exfalso;omega
 refine QT ?_;show W _ _ _ _ _ _ _;refine Qa 3 K M ?_;exact⟨c30,0,rfl,M.Ue (k:=0) rfl,((B.step M).lo c30 0 _ (List.mem_of_getElem? (i:=0) rfl)).resolve_right id,(B.step M).qt⟩

theorem On(hf:Qh st)(hkv:JZ kv=some 0): ∃v st',QP 14 [kv] st v st'∧v=.agg [.str [116,114,117,101],iZ 0,iZ 0,iZ 0,iZ 0,.nils]∧Qt st st':=by
 refine Jy Tryz.func14 Tryz.ntmps14 fun T K=>?_;have M:=Mem.start hf;refine au 5 K M ?_;intro c2 c3 _ _ K _ M;refine p1 K (Q7 JT rfl rfl hkv) fun _ K=>?_;refine Qa 2 K M fun _ K=>?_;refine p1 K (Q7 JT rfl rfl hkv) fun _ K=>?_;refine Qa 1 K M fun _ K=>?_;refine Jc (fun mm1 T st9=> ∃(j:Nat),mm1=0∧QG [(2,.ptr c2 0 0),(3,.ptr c3 0 0),(4,iZ (((0:Nat):Int))),(11,kv),(12,iZ (((0:Nat):Int))),(13,iN j)] T∧Mem st.h.get st.n [] st9 [(c3,0,[.str [116,114,117,101],iZ 0,iZ 0,iZ 0,iZ 0,.nils]),(c2,0,[.str [],iZ 0,iZ 0,iZ 0,iZ 0,.nils])]) (fun mm1 T st9 hI=>?_) _ _ _ ⟨0,rfl,(K.sub rfl),M.less (.refl _)⟩;obtain⟨j,rfl,K,M⟩:=hI;refine Qa 1 K M fun _ K=>?_;refine UA K rfl (fun h14=>?_) fun h14=>?_
 ·exfalso;omega
 refine QT ?_;show W _ _ _ _ _ _ _;refine au 2 K M ?_;intro _ _ K _ M;refine Qa 0 K M ?_;exact⟨rfl,M.qt⟩

theorem S9(hf:Qh st){o7 o8:List Nat}{a7 b7 g7 n7 a8 b8 g8 n8:Int}{kc7 kc8:AV}(hk1:Qw kc7=true)(hk2:Qw kc8=true){m1 m2:Nat}(hl1:JZ kc7=some m1)(hl2:JZ kc8=some m2): ∃v st',QP 32 [.agg [.str o7,iZ a7,iZ b7,iZ g7,iZ n7,kc7],.agg [.str o8,iZ a8,iZ b8,iZ g8,iZ n8,kc8]] st v st'∧ ∃c,v=.agg [.str [97,110,100],iZ 0,iZ 0,iZ 0,iZ 0,.sl c 0 0 2 6]∧st.n≤c∧Qu st'.h.get c 0 [.str o7,iZ a7,iZ b7,iZ g7,iZ n7,kc7,.str o8,iZ a8,iZ b8,iZ g8,iZ n8,kc8]∧Qt st st':=by
 refine Jy Tryz.func32 Tryz.ntmps32 fun T K=>?_;have M:=Mem.start hf;refine au 5 K M ?_;intro c2 c3 c4 _ _ K _ M;refine AU K M EX XS rfl rfl (Qc rfl (Qc rfl (Qc rfl (Qc rfl (Qc rfl (Qc hk1 (Qc rfl (Qc rfl (Qc rfl (Qc rfl (Qc rfl (Qc hk2 QY)))))))))))) rfl rfl fun c7 _ _ K M=>?_;refine au 2 K M ?_;intro _ _ K _ M;refine Qa 0 K M ?_;exact⟨c7,rfl,(M.own c7 0 _ (List.mem_of_getElem? (i:=0) rfl)).resolve_right Q0,M.Ue (k:=0) rfl,M.qt⟩

theorem PF(hf:Qh st)(hR:Xx R st.h.get){a:Int}{l:List Cr}(hr:Xd R (.mk o a b g n l) cs)(hRm: ∀c m r,R c m r→c≠mp)(hm:Qu st.h.get mp 0 [iN lf,.bool false])(hl:lf≤9223372036854775807)(hkv:JZ kv=some 0){m1:Au}(hA:Jn (LP V4 (.mk o a b g n l)) 0 m1 s)(hs:s≤lf)(hc:J0 (.mk o a b g n l) 0=true)(hsz:Wc (.mk o a b g n l)≤1900)(hany:m1.acc.any id=false): ∃v st',QP 38 [kv,.agg cs,.ptr mp 0 0] st v st'∧yR 49 st st' mp (lf-s) false v:=by
 have hr0:=hr;obtain⟨kc,ls,rfl,hK⟩:=hr.Xg;have hln:=hK.ln;have hbn:=hK.FP;have hkc:=hK.cell;have hkl:=hK.len;have hmF: ∀c,(Zx mp lf false).F c→c<st.n:=fun c hc=>(show c=mp from hc)▸hm.lt hf;have B:=Ql.UU (o:=Zx mp lf false) hf hm hmF;refine Jy Tryz.func38 Tryz.ntmps38 fun T K=>?_;have M:=B.mem;refine Qa 0 K M fun _ K=>?_;refine Uj K M rfl (Qc rfl (Qc rfl (Qc rfl (Qc rfl (Qc rfl (Qc hK.cell QY)))))) QA fun c4 _ _ K M=>?_;refine Qa 1 K M fun _ K=>?_;refine QU (l:=[(0,0),(1,0),(2,1),(3,0),(4,0),(5,0),(6,0),(7,0),(8,0),(9,0),(10,0),(11,0),(12,0)]) (by kernel_rfl) ?_;have Mq:=M;have Bq:=B;refine q1 rfl K (Q8 rfl) fun _ K=>?_;obtain⟨v13,st13,ev13,rfl,q13⟩:=On M.fresh hkv;refine qA rfl K (Qg rfl ev13) fun _ K=>?_;replace M:=M.quiet q13;have Mp:=Mq;have Mq:=M;have Bp:=Bq;have Bq:=B;refine JL rfl K rfl (M.load (k:=0) rfl (Jh J6 rfl)) (Mp.load (k:=0) rfl (Jh J6 rfl)) (Se (by simp[CW,CX,Ou,ZV hkl])) rfl QA fun _ K=>?_;obtain⟨v15,st15,ev15,ca,rfl,hca,hra,q15⟩:=S9 M.fresh (kc7:=.nils) rfl hkc (m1:=0) rfl hkl;refine qA rfl K (Qg rfl ev15) fun _ K=>?_;replace M:=M.Sv q15 hra hca;have Mp:=Mq;have Mq:=M;have Bp:=Bq;have Bq:=B;refine q1 rfl K (Q8 rfl) fun _ K=>q1 rfl K (Q7 JT rfl rfl hkv) fun _ K=>q1 rfl K (Q8 rfl) fun _ K=>?_;replace B:=B.step M;have B0:=B;obtain⟨v19,st19,ev19,dp,Fd,rfl,hDd,hNd,hRd,QB⟩:=Dn (k:=0) B.fresh (fun c m r hr=>hr.elim (fun h=>B.ZP hf (hR c m r h) (fun e=>hRm c m r h e)) fun h=>(B.row _ _ _ (by rw[List.mem_singleton.1 h];exact List.mem_of_getElem? (i:=0) rfl)).QH) (show Xd (qK R [(ca,0,[.str [116,114,117,101],iZ 0,iZ 0,iZ 0,iZ 0,.nils,.str o,iZ a,iZ b,iZ g,iZ n,kc])]) (LP V4 (.mk o a b g n l)) _ from Xd.fq (x:=V4) jC (hr0.mono fun _ _ _=>RC) (.inr (.head _))) (fun c m r hr=>hr.elim (hRm c m r) fun h=>by injection List.mem_singleton.1 h with e1 e2;subst e1;exact fun e=>B.djM _ (List.mem_cons_self ..) _ _ _ (List.mem_of_getElem? (i:=0) rfl) e) (show Qu _ mp 0 [iN lf,.bool false]from B.at_ (k:=0) rfl) hl QA (Oy (L7 _) hc) (by rw[Rz,BC];omega) hA hs;refine qA rfl K (Qg rfl ev19) fun _ K=>?_;replace B:=B.call (k:=0) (o':=Zx mp (lf-s) false) rfl QB hRd (XA fun c hc=>by rw[show c=mp from hc];exact hRd.lt QB.fresh);replace B:=B0.H9 (k:=0) (o:=A9 Fd dp m1) (om':=Zx mp (lf-s) false) rfl rfl B hDd.at_ hNd;have M:=B.mem;have Mp:=Mq;have Mq:=M;have Bp:=Bq;have Bq:=B;refine Yq 5 K M fun _ K=>?_;refine Ji ?_;show W _ _ _ _ _ _ _;refine Qa 2 K M fun _ K=>?_;refine Ze K rfl (fun h23=>?_) fun h23=>?_
 ·have hb23:=h23
  replace h23: ¬(0=0):=by first|exact of_decide_eq_false h23|exact yF h23|simpa using h23
  exfalso;omega
 have hb23:=h23
 replace h23:(0=0):=by first|exact of_decide_eq_true h23|exact yT h23|simpa using h23
 refine Qa 2 K M fun _ K=>?_;replace B:=B.step M;obtain⟨v29,st29,ev29,rfl,q29⟩:=Tw B.fresh (B.Mk (k:=0) rfl) hA.canon hany hkv;refine p1 K (Qg rfl ev29) fun _ K=>?_;replace B:=B.quiet q29;have M:=B.mem;refine Qa 9 K M ?_;replace B:=B.step M;exact⟨B.at_ (k:=1) rfl,B.U9,.inl ⟨rfl,rfl⟩⟩

theorem CM(hf:Qh st)(hR:Xx R st.h.get){a:Int}{l:List Cr}(hr:Xd R (.mk o a b g n l) cs)(hRm: ∀c m r,R c m r→c≠mp)(hm:Qu st.h.get mp 0 [iN lf,.bool false])(hl:lf≤9223372036854775807)(hkv:JZ kv=some 0){m1:Au}(hA:Jn (LP V4 (.mk o a b g n l)) 0 m1 s)(hs:s≤lf)(hc:J0 (.mk o a b g n l) 0=true)(hsz:Wc (.mk o a b g n l)≤1900)(hsh:(Z2 m1).isSome=true): ∃v st',QP 38 [kv,.agg cs,.ptr mp 0 0] st v st'∧yR 49 st st' mp (lf-s) true v:=by
 have hr0:=hr;obtain⟨kc,ls,rfl,hK⟩:=hr.Xg;have hln:=hK.ln;have hbn:=hK.FP;have hkc:=hK.cell;have hkl:=hK.len;have hmF: ∀c,(Zx mp lf false).F c→c<st.n:=fun c hc=>(show c=mp from hc)▸hm.lt hf;have B:=Ql.UU (o:=Zx mp lf false) hf hm hmF;refine Jy Tryz.func38 Tryz.ntmps38 fun T K=>?_;have M:=B.mem;refine Qa 0 K M fun _ K=>?_;refine Uj K M rfl (Qc rfl (Qc rfl (Qc rfl (Qc rfl (Qc rfl (Qc hK.cell QY)))))) QA fun c4 _ _ K M=>?_;refine Qa 1 K M fun _ K=>?_;refine QU (l:=[(0,0),(1,0),(2,1),(3,0),(4,0),(5,0),(6,0),(7,0),(8,0),(9,0),(10,0),(11,0),(12,0)]) (by kernel_rfl) ?_;have Mq:=M;have Bq:=B;refine q1 rfl K (Q8 rfl) fun _ K=>?_;obtain⟨v13,st13,ev13,rfl,q13⟩:=On M.fresh hkv;refine qA rfl K (Qg rfl ev13) fun _ K=>?_;replace M:=M.quiet q13;have Mp:=Mq;have Mq:=M;have Bp:=Bq;have Bq:=B;refine JL rfl K rfl (M.load (k:=0) rfl (Jh J6 rfl)) (Mp.load (k:=0) rfl (Jh J6 rfl)) (Se (by simp[CW,CX,Ou,ZV hkl])) rfl QA fun _ K=>?_;obtain⟨v15,st15,ev15,ca,rfl,hca,hra,q15⟩:=S9 M.fresh (kc7:=.nils) rfl hkc (m1:=0) rfl hkl;refine qA rfl K (Qg rfl ev15) fun _ K=>?_;replace M:=M.Sv q15 hra hca;have Mp:=Mq;have Mq:=M;have Bp:=Bq;have Bq:=B;refine q1 rfl K (Q8 rfl) fun _ K=>q1 rfl K (Q7 JT rfl rfl hkv) fun _ K=>q1 rfl K (Q8 rfl) fun _ K=>?_;replace B:=B.step M;have B0:=B;obtain⟨v19,st19,ev19,dp,Fd,rfl,hDd,hNd,hRd,QB⟩:=Dn (k:=0) B.fresh (fun c m r hr=>hr.elim (fun h=>B.ZP hf (hR c m r h) (fun e=>hRm c m r h e)) fun h=>(B.row _ _ _ (by rw[List.mem_singleton.1 h];exact List.mem_of_getElem? (i:=0) rfl)).QH) (show Xd (qK R [(ca,0,[.str [116,114,117,101],iZ 0,iZ 0,iZ 0,iZ 0,.nils,.str o,iZ a,iZ b,iZ g,iZ n,kc])]) (LP V4 (.mk o a b g n l)) _ from Xd.fq (x:=V4) jC (hr0.mono fun _ _ _=>RC) (.inr (.head _))) (fun c m r hr=>hr.elim (hRm c m r) fun h=>by injection List.mem_singleton.1 h with e1 e2;subst e1;exact fun e=>B.djM _ (List.mem_cons_self ..) _ _ _ (List.mem_of_getElem? (i:=0) rfl) e) (show Qu _ mp 0 [iN lf,.bool false]from B.at_ (k:=0) rfl) hl QA (Oy (L7 _) hc) (by rw[Rz,BC];omega) hA hs;refine qA rfl K (Qg rfl ev19) fun _ K=>?_;replace B:=B.call (k:=0) (o':=Zx mp (lf-s) false) rfl QB hRd (XA fun c hc=>by rw[show c=mp from hc];exact hRd.lt QB.fresh);replace B:=B0.H9 (k:=0) (o:=A9 Fd dp m1) (om':=Zx mp (lf-s) false) rfl rfl B hDd.at_ hNd;have M:=B.mem;have Mp:=Mq;have Mq:=M;have Bp:=Bq;have Bq:=B;refine Yq 5 K M fun _ K=>?_;refine Ji ?_;show W _ _ _ _ _ _ _;refine Qa 2 K M fun _ K=>?_;refine Ze K rfl (fun h23=>?_) fun h23=>?_
 ·have hb23:=h23
  replace h23: ¬(0=0):=by first|exact of_decide_eq_false h23|exact yF h23|simpa using h23
  exfalso;omega
 have hb23:=h23
 replace h23:(0=0):=by first|exact of_decide_eq_true h23|exact yT h23|simpa using h23
 refine Qa 2 K M fun _ K=>?_;replace B:=B.step M;have hle9:=B.le;obtain⟨v29,st29,ev29,co,mo,rfl,hro,hco,q29⟩:=Tv B.fresh (B.Mk (k:=0) rfl) hA.canon hA.tr hsh hkv;refine p1 K (Qg rfl ev29) fun _ K=>?_;replace M:=B.mem.Sv q29 hro hco;refine Qa 9 K M fun _ K=>?_;refine p1 K (KK rfl (Np _)) fun _ K=>?_;refine Qa 1 K M ?_;replace B:=B.step M;exact⟨B.at_ (k:=1) rfl,B.U9,.inr ⟨rfl,co,mo,rfl,B.row _ _ _ (List.mem_of_getElem? (i:=0) rfl),Nat.le_trans hle9 hco⟩⟩
end Go.Proofs.YtildagdnomiahaaGreatDoor
