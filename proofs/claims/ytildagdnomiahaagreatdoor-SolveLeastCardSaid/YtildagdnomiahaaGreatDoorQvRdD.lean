/-
  solve.found: what a closed formula's automaton tells.
-/
import Derived.Test.YtildagdnomiahaaGreatDoorQvLk
import Derived.Test.YtildagdnomiahaaGreatDoorQvTyv
set_option maxRecDepth 100000
set_option linter.unnecessarySimpa false
set_option linter.unusedSectionVars false
set_option linter.unusedSimpArgs false
set_option linter.unusedVariables false
namespace Go.Proofs.YtildagdnomiahaaGreatDoor
open Go Go.RowKit
section
set_option maxHeartbeats 8000000
variable {F:Fp} {R:W5} {a:Au} {b g n:Int} {cs:List AV} {dp lf mp s:Nat} {kv:AV} {o:List Nat} {st:St} {x:Cr}

theorem VC(u:AV):IM Tryz.prog 49 u=some (.ifc 49 u):=by kernel_rfl
theorem Yr.hZ{y:Cr}{ds:List AV}{a:Int}{c m:Nat}(hx:Yr R x cs)(hy:Yr R y ds)(hr:R c m (cs++ds)):Yr R (.mk o a b g n [x,y]) [.str o,.int .i64 a,.int .i64 b,.int .i64 g,.int .i64 n,.sl c m 0 2 6]:=by
 have h6:=hx.uw;have k6:=hy.uw;refine Yr.node (kids:=[x,y]) hr Qx (by simp[h6,k6]) fun i k hi=>?_
 match i with
 |0=>injection hi with hi;subst hi;rw[show 0+0 *6=0 by rfl,List.drop_zero,List.take_append_of_le_length Qd,List.take_of_length_le Qd];exact hx
 |1=>injection hi with hi;subst hi;rw[show 0+1 *6=6 by rfl,List.drop_append_of_le_length Qd,List.drop_of_length_le Qd,List.nil_append,List.take_of_length_le Qd];exact hy
 |i+2=>simp at hi
theorem Iy{y:Cr}{m:Int}(hx:Ja x m=true)(hy:Ja y m=true):Ja (NB x y) m=true:=by
 unfold NB;rw[Ja];rw[if_neg Q9];simp only[H4,hx,hy];rfl
theorem Nw(m:Int):Ja VT m=true:=by
 unfold VT;rw[Ja];rw[if_neg Q9];rfl
theorem GJ(x y:Cr):Xx (NB x y)=Xx x+Xx y+1:=by unfold NB;rw[Xx,Xy,Xy,Xy];omega
theorem Cy:Xx VT=1:=by unfold VT;rw[Xx,Xy]
theorem GR(hf:Qh st)(hD:JH st F dp a)(C:Canon a)(hany:a.acc.any id=false): ∃v st',QV 106 [.ptr dp 0 0] st v st'∧v=.tup [.nils,.bool false]∧Qt st st':=by
 obtain⟨v,st',h1,h2,h3⟩:=IG hf hD C (fun h=>by rw[hany]at h;cases h);refine⟨v,st',h1,?_,h3⟩;rcases h2 with⟨_,h⟩|⟨w,kw,h,_⟩
 ·exact h
 ·unfold UE at h;rw[if_neg (by rw[hany];decide)]at h;cases h
theorem WA(hf:Qh st)(hD:JH st F dp a)(C:Canon a)(hs:(UE a).isSome=true): ∃v st',QV 106 [.ptr dp 0 0] st v st'∧(∃w kw,UE a=some w∧v=.tup [kw,.bool true]∧HB st st' 1 kw (zC (zN w)))∧Qt st st':=by
 obtain⟨v,st',h1,h2,h3⟩:=IG hf hD C (fun _=>hs);refine⟨v,st',h1,?_,h3⟩;rcases h2 with⟨h,_⟩|h
 ·rw[h]at hs;cases hs
 ·exact h
theorem H7(hf:Qh st)(hR:X1 R st.h.get){k:Nat}{m:Au}(hr:Yr R x cs)(hRm: ∀c m r,R c m r→c≠mp)(hm:Qu st.h.get mp 0 [.int .i64 (lf:Nat),.bool false])(hl:lf≤9223372036854775807)(hk6:k≤6)(hc:Ja x ((k:Nat):Int)=true)(hsz:Xx x≤2000)(hA:Jl x k m s)(hs:s≤lf):
  ∃v st',QV 65 [.agg cs,.int .i64 (k:Nat),.ptr mp 0 0] st v st'∧ ∃dp F,v=.tup [.ptr dp 0 0,.int .i64 0]∧JH st' F dp m∧Vn st st' F∧Qu st'.h.get mp 0 [.int .i64 (lf-s:Nat),.bool false]∧YA (fun c=>c=mp) st st':=by
 obtain⟨o,a,b,g,n,l⟩:=x;obtain⟨v,st',h1,h2,h3⟩:=Nz hf hR hr hRm hm hl hk6 hc hsz;refine⟨v,st',h1,?_⟩;rcases h2 with⟨dp,F,m',s',e1,e2,e3,e4,e5,e6⟩|⟨_,e⟩
 ·obtain⟨rfl,rfl⟩:=hA.uniq e2;exact⟨dp,F,e1,e4,e5,e6,h3⟩
 ·have:=e m s hA;omega

theorem RH(hf:Qh st){w:List Int}{kw:AV}(hw:Jg st.h.get [] 1 (zC w) kw): ∃v st',QV 108 [kw,iZ 0] st v st'∧ ∃ks,v=ks∧Qw ks=true∧Qt st st':=by
 have hbnw:(w.length:Int)≤9223372036854775807:=by have:=hw.AW;rw[Qy]at this;exact this
 refine Jv Tryz.func108 Tryz.ntmps108 fun T K=>?_;have M:=Mem.start hf;refine Qb 2 K M fun _ K=>?_;refine Em id AV.nils (n:=0) K M J3 Yt rfl Qd rfl fun c10 _ _ K M=>?_;refine Qb 2 K M fun _ K=>?_;refine p1 K (Q0 Jm rfl rfl (hw.len.trans (congrArg some (Qy _)))) fun _ K=>?_;refine Qb 1 K M fun _ K=>?_;refine Je (fun mm1 T st9=> ∃(i:Nat),mm1=w.length-i∧QH [(1,iZ 0),(4,.nils),(5,(.sl c10 0 0 0 1)),(11,kw),(12,iZ (w.length:Nat)),(13,iN i)] T∧Mem st.h.get st.n [] st9 [(c10,0,((List.replicate 0 AV.nils).map id))]∧i≤w.length) (fun mm1 T st9 hI=>?_) _ _ _ ⟨0,rfl,(K.sub rfl),M.less (.refl _),(Nat.zero_le _)⟩;obtain⟨i,rfl,K,M,hi⟩:=hI;refine Qb 1 K M fun _ K=>?_;refine U8 K rfl (fun h14=>?_) fun h14=>?_
 ·refine Qb 1 K M fun _ K=>?_;obtain⟨y16,hi16⟩:=YL w i Qd;refine oI (Jg.mem M hw Qx) (JG hi16) K QD Qs rfl rfl rfl fun _ _ _ _ K=>?_;refine Qb 4 K M fun _ K=>?_;refine Je (fun mm2 T st9=> ∃(j:Nat),mm2=0∧QH [(1,iZ 0),(4,.nils),(5,(.sl c10 0 0 0 1)),(6,iN i),(7,iZ y16),(11,kw),(12,iZ (w.length:Nat)),(13,iN i),(14,.bool (decide (((i:Nat):Int)<((w.length:Nat):Int)))),(18,iZ 0),(19,iN j)] T∧Mem st.h.get st.n [] st9 [(c10,0,((List.replicate 0 AV.nils).map id))]) (fun mm2 T st9 hI=>?_) _ _ _ ⟨0,rfl,(K.sub rfl),M.less (.refl _)⟩;obtain⟨j,rfl,K,M⟩:=hI;refine Qb 1 K M fun _ K=>?_;refine U8 K rfl (fun h20=>?_) fun h20=>?_
  ·exfalso;omega
  refine QM ?_;show W _ _ _ _ _ _ _;refine Qb 2 K M fun _ K=>?_;exact⟨_,Qd,i+1,rfl,(K.sub rfl),M.less (.refl _),Qd⟩
 refine QM ?_;show W _ _ _ _ _ _ _;refine Qb 2 K M ?_;exact⟨_,rfl,rfl,M.qt⟩

theorem Mf(hf:Qh st)(hD:JH st F dp a)(C:Canon a)(hany:a.acc.any id=false)(hkv:J8 kv=some 0): ∃v st',QV 66 [.ptr dp 0 0,kv] st v st'∧v=.tup [.nils,.bool false]∧Qt st st':=by
 have B:=Ql.start hf;refine Jv Tryz.func66 Tryz.ntmps66 fun T K=>?_;have M:=B.mem;refine Qb 3 K M fun _ K=>?_;refine oQ K M (GR M.fresh (hD.q (B.step M).qt) C hany) rfl rfl fun _ _ K M=>?_;refine Qb 17 K M ?_;exact⟨rfl,(B.step M).qt⟩

theorem Me(hf:Qh st)(hD:JH st F dp a)(C:Canon a)(htr0:a.tr=0)(hsh:(UE a).isSome=true)(hkv:J8 kv=some 0): ∃v st',QV 66 [.ptr dp 0 0,kv] st v st'∧ ∃c m,v=.tup [.sl c m 0 0 3,.bool true]∧Qu st'.h.get c m []∧st.n≤c∧Qt st st':=by
 have B:=Ql.start hf;refine Jv Tryz.func66 Tryz.ntmps66 fun T K=>?_;have M:=B.mem;refine Qb 3 K M fun _ K=>?_;obtain⟨v14,st14,ev14,⟨w,kw,hsw,rfl,nrw⟩,q14⟩:=WA M.fresh (hD.q (B.step M).qt) C hsh;refine p1 K (Qf rfl ev14) fun _ K=>?_;obtain⟨Aw,hAw,M⟩:=M.Yq q14 nrw;replace hAw:=hAw.z0;simp only[W4]at M;refine Qb 9 K M fun _ K=>?_;obtain⟨v21,st21,ev21,rfl,q21⟩:=Yg M.fresh (hD.q (B.step M).qt);refine pg K rfl rfl (Qf rfl ev21) fun _ K=>?_;replace M:=M.quiet q21;refine Qb 1 K M fun _ K=>?_;refine pg K rfl rfl (Q0 QJ rfl rfl hkv) fun _ K=>?_;refine Qb 2 K M fun _ K=>?_;refine UJ K rfl (fun h25=>?_) fun h25=>?_
 ·have hb25:=h25
  replace h25: ¬(((a.tr:Nat):Int)=((0:Nat):Int)):=by first|exact of_decide_eq_false h25|exact yF h25|simpa using h25
  exfalso;omega
 have hb25:=h25
 replace h25:(((a.tr:Nat):Int)=((0:Nat):Int)):=by first|exact of_decide_eq_true h25|exact yT h25|simpa using h25
 refine Qb 2 K M fun _ K=>?_;refine p1 K (Q0 QJ rfl rfl hkv) fun _ K=>?_;obtain⟨v29,st29,ev29,kd,rfl,hkd,q29⟩:=RH M.fresh (Mem.Zv (L:=[]) (B:=[]) M hAw);refine p1 K (Qf rfl ev29) fun _ K=>?_;replace M:=M.quiet q29;refine Qb 1 K M fun _ K=>?_;refine VO K M JT Ys rfl rfl rfl rfl rfl fun c30 _ _ K M=>?_;refine Qb 2 K M fun _ K=>?_;refine p1 K (Q0 QJ rfl rfl hkv) fun _ K=>?_;refine Qb 1 K M fun _ K=>?_;refine Je (fun mm1 T st9=> ∃(j:Nat),mm1=0∧QH [(4,.nils),(5,.bool false),(8,v29),(9,.sl c30 0 0 0 3),(31,kv),(32,iZ (((0:Nat):Int))),(33,iN j)] T∧Ql st Ei st9 ((c30,0,[])::(Aw++[])) []) (fun mm1 T st9 hI=>?_) _ _ _ ⟨0,rfl,(K.sub rfl),(B.step M).less (.refl _)⟩;obtain⟨j,rfl,K,B⟩:=hI;have M:=B.mem;refine Qb 1 K M fun _ K=>?_;refine U8 K rfl (fun h34=>?_) fun h34=>?_
 ·exfalso;omega
 refine QM ?_;show W _ _ _ _ _ _ _;refine Qb 3 K M ?_;exact⟨c30,0,rfl,M.Ud (k:=0) rfl,((B.step M).lo c30 0 _ (List.mem_of_getElem? (i:=0) rfl)).resolve_right id,(B.step M).qt⟩

theorem Ge(hf:Qh st)(hkv:J8 kv=some 0): ∃v st',QV 14 [kv] st v st'∧v=.agg [.str [116,114,117,101],iZ 0,iZ 0,iZ 0,iZ 0,.nils]∧Qt st st':=by
 refine Jv Tryz.func14 Tryz.ntmps14 fun T K=>?_;have M:=Mem.start hf;refine au 5 K M ?_;intro c2 c3 _ _ K _ M;refine p1 K (Q0 QJ rfl rfl hkv) fun _ K=>?_;refine Qb 2 K M fun _ K=>?_;refine p1 K (Q0 QJ rfl rfl hkv) fun _ K=>?_;refine Qb 1 K M fun _ K=>?_;refine Je (fun mm1 T st9=> ∃(j:Nat),mm1=0∧QH [(2,.ptr c2 0 0),(3,.ptr c3 0 0),(4,iZ (((0:Nat):Int))),(11,kv),(12,iZ (((0:Nat):Int))),(13,iN j)] T∧Mem st.h.get st.n [] st9 [(c3,0,[.str [116,114,117,101],iZ 0,iZ 0,iZ 0,iZ 0,.nils]),(c2,0,[.str [],iZ 0,iZ 0,iZ 0,iZ 0,.nils])]) (fun mm1 T st9 hI=>?_) _ _ _ ⟨0,rfl,(K.sub rfl),M.less (.refl _)⟩;obtain⟨j,rfl,K,M⟩:=hI;refine Qb 1 K M fun _ K=>?_;refine U8 K rfl (fun h14=>?_) fun h14=>?_
 ·exfalso;omega
 refine QM ?_;show W _ _ _ _ _ _ _;refine au 2 K M ?_;intro _ _ K _ M;refine Qb 0 K M ?_;exact⟨rfl,M.qt⟩

theorem Tx(hf:Qh st){o7 o8:List Nat}{a7 b7 g7 n7 a8 b8 g8 n8:Int}{kc7 kc8:AV}(hk1:Qw kc7=true)(hk2:Qw kc8=true){m1 m2:Nat}(hl1:J8 kc7=some m1)(hl2:J8 kc8=some m2): ∃v st',QV 32 [.agg [.str o7,iZ a7,iZ b7,iZ g7,iZ n7,kc7],.agg [.str o8,iZ a8,iZ b8,iZ g8,iZ n8,kc8]] st v st'∧ ∃c,v=.agg [.str [97,110,100],iZ 0,iZ 0,iZ 0,iZ 0,.sl c 0 0 2 6]∧st.n≤c∧Qu st'.h.get c 0 [.str o7,iZ a7,iZ b7,iZ g7,iZ n7,kc7,.str o8,iZ a8,iZ b8,iZ g8,iZ n8,kc8]∧Qt st st':=by
 refine Jv Tryz.func32 Tryz.ntmps32 fun T K=>?_;have M:=Mem.start hf;refine au 5 K M ?_;intro c2 c3 c4 _ _ K _ M;refine VO K M ZW Zn rfl rfl (Qa rfl (Qa rfl (Qa rfl (Qa rfl (Qa rfl (Qa hk1 (Qa rfl (Qa rfl (Qa rfl (Qa rfl (Qa rfl (Qa hk2 QL)))))))))))) rfl rfl fun c7 _ _ K M=>?_;refine au 2 K M ?_;intro _ _ K _ M;refine Qb 0 K M ?_;exact⟨c7,rfl,(M.own c7 0 _ (List.mem_of_getElem? (i:=0) rfl)).resolve_right Qx,M.Ud (k:=0) rfl,M.qt⟩

theorem R1(hf:Qh st)(hR:X1 R st.h.get){a:Int}{l:List Cr}(hr:Yr R (.mk o a b g n l) cs)(hRm: ∀c m r,R c m r→c≠mp)(hm:Qu st.h.get mp 0 [iN lf,.bool false])(hl:lf≤9223372036854775807)(hkv:J8 kv=some 0){m1:Au}(hA:Jl (NB VT (.mk o a b g n l)) 0 m1 s)(hs:s≤lf)(hc:Ja (.mk o a b g n l) 0=true)(hsz:Xx (.mk o a b g n l)≤1900)(hany:m1.acc.any id=false): ∃v st',QV 38 [kv,.agg cs,.ptr mp 0 0] st v st'∧zD 49 st st' mp (lf-s) false v:=by
 have hr0:=hr;obtain⟨kc,ls,rfl,hK⟩:=hr.ZG;have hln:=hK.ln;have hbn:=hK.AW;have hkc:=hK.cell;have hkl:=hK.len;have hmF: ∀c,(YH mp lf false).F c→c<st.n:=fun c hc=>(show c=mp from hc)▸hm.lt hf;have B:=Ql.UD (o:=YH mp lf false) hf hm hmF;refine Jv Tryz.func38 Tryz.ntmps38 fun T K=>?_;have M:=B.mem;refine Qb 0 K M fun _ K=>?_;refine JK K M rfl (Qa rfl (Qa rfl (Qa rfl (Qa rfl (Qa rfl (Qa hK.cell QL)))))) Q9 fun c4 _ _ K M=>?_;refine Qb 1 K M fun _ K=>?_;refine QT (l:=[(0,0),(1,0),(2,1),(3,0),(4,0),(5,0),(6,0),(7,0),(8,0),(9,0),(10,0),(11,0),(12,0)]) (by kernel_rfl) ?_;have Mq:=M;have Bq:=B;refine q1 rfl K (Q8 rfl) fun _ K=>?_;obtain⟨v13,st13,ev13,rfl,q13⟩:=Ge M.fresh hkv;refine qA rfl K (Qf rfl ev13) fun _ K=>?_;replace M:=M.quiet q13;have Mp:=Mq;have Mq:=M;have Bp:=Bq;have Bq:=B;refine JE rfl K rfl (M.load (k:=0) rfl (QZ Jh rfl)) (Mp.load (k:=0) rfl (QZ Jh rfl)) (KO (by simp[Hu,Hv,A6,YM hkl])) rfl Q9 fun _ K=>?_;obtain⟨v15,st15,ev15,ca,rfl,hca,hra,q15⟩:=Tx M.fresh (kc7:=.nils) rfl hkc (m1:=0) rfl hkl;refine qA rfl K (Qf rfl ev15) fun _ K=>?_;replace M:=M.Ti q15 hra hca;have Mp:=Mq;have Mq:=M;have Bp:=Bq;have Bq:=B;refine q1 rfl K (Q8 rfl) fun _ K=>q1 rfl K (Q0 QJ rfl rfl hkv) fun _ K=>q1 rfl K (Q8 rfl) fun _ K=>?_;replace B:=B.step M;have B0:=B;obtain⟨v19,st19,ev19,dp,Fd,rfl,hDd,hNd,hRd,QB⟩:=H7 (k:=0) B.fresh (fun c m r hr=>hr.elim (fun h=>B.ZA hf (hR c m r h) (fun e=>hRm c m r h e)) fun h=>(B.row _ _ _ (by rw[List.mem_singleton.1 h];exact List.mem_of_getElem? (i:=0) rfl)).QI) (show Yr (Yz R [(ca,0,[.str [116,114,117,101],iZ 0,iZ 0,iZ 0,iZ 0,.nils,.str o,iZ a,iZ b,iZ g,iZ n,kc])]) (NB VT (.mk o a b g n l)) _ from Yr.hZ (x:=VT) LQ (hr0.mono fun _ _ _=>KF) (.inr (.head _))) (fun c m r hr=>hr.elim (hRm c m r) fun h=>by injection List.mem_singleton.1 h with e1 e2;subst e1;exact fun e=>B.djM _ (List.mem_cons_self ..) _ _ _ (List.mem_of_getElem? (i:=0) rfl) e) (show Qu _ mp 0 [iN lf,.bool false]from B.at_ (k:=0) rfl) hl Q9 (Iy (Nw _) hc) (by rw[GJ,Cy];omega) hA hs;refine qA rfl K (Qf rfl ev19) fun _ K=>?_;replace B:=B.call (k:=0) (o':=YH mp (lf-s) false) rfl QB hRd (ZO fun c hc=>by rw[show c=mp from hc];exact hRd.lt QB.fresh);replace B:=B0.ES (k:=0) (o:=EJ Fd dp m1) (om':=YH mp (lf-s) false) rfl rfl B hDd.at_ hNd;have M:=B.mem;have Mp:=Mq;have Mq:=M;have Bp:=Bq;have Bq:=B;refine UT 5 K M fun _ K=>?_;refine Jd ?_;show W _ _ _ _ _ _ _;refine Qb 2 K M fun _ K=>?_;refine UJ K rfl (fun h23=>?_) fun h23=>?_
 ·have hb23:=h23
  replace h23: ¬(0=0):=by first|exact of_decide_eq_false h23|exact yF h23|simpa using h23
  exfalso;omega
 have hb23:=h23
 replace h23:(0=0):=by first|exact of_decide_eq_true h23|exact yT h23|simpa using h23
 refine Qb 2 K M fun _ K=>?_;replace B:=B.step M;obtain⟨v29,st29,ev29,rfl,q29⟩:=Mf B.fresh (B.RE (k:=0) rfl) hA.canon hany hkv;refine p1 K (Qf rfl ev29) fun _ K=>?_;replace B:=B.quiet q29;have M:=B.mem;refine Qb 9 K M ?_;replace B:=B.step M;exact⟨B.at_ (k:=1) rfl,B.U7,.inl ⟨rfl,rfl⟩⟩

theorem D9(hf:Qh st)(hR:X1 R st.h.get){a:Int}{l:List Cr}(hr:Yr R (.mk o a b g n l) cs)(hRm: ∀c m r,R c m r→c≠mp)(hm:Qu st.h.get mp 0 [iN lf,.bool false])(hl:lf≤9223372036854775807)(hkv:J8 kv=some 0){m1:Au}(hA:Jl (NB VT (.mk o a b g n l)) 0 m1 s)(hs:s≤lf)(hc:Ja (.mk o a b g n l) 0=true)(hsz:Xx (.mk o a b g n l)≤1900)(hsh:(UE m1).isSome=true): ∃v st',QV 38 [kv,.agg cs,.ptr mp 0 0] st v st'∧zD 49 st st' mp (lf-s) true v:=by
 have hr0:=hr;obtain⟨kc,ls,rfl,hK⟩:=hr.ZG;have hln:=hK.ln;have hbn:=hK.AW;have hkc:=hK.cell;have hkl:=hK.len;have hmF: ∀c,(YH mp lf false).F c→c<st.n:=fun c hc=>(show c=mp from hc)▸hm.lt hf;have B:=Ql.UD (o:=YH mp lf false) hf hm hmF;refine Jv Tryz.func38 Tryz.ntmps38 fun T K=>?_;have M:=B.mem;refine Qb 0 K M fun _ K=>?_;refine JK K M rfl (Qa rfl (Qa rfl (Qa rfl (Qa rfl (Qa rfl (Qa hK.cell QL)))))) Q9 fun c4 _ _ K M=>?_;refine Qb 1 K M fun _ K=>?_;refine QT (l:=[(0,0),(1,0),(2,1),(3,0),(4,0),(5,0),(6,0),(7,0),(8,0),(9,0),(10,0),(11,0),(12,0)]) (by kernel_rfl) ?_;have Mq:=M;have Bq:=B;refine q1 rfl K (Q8 rfl) fun _ K=>?_;obtain⟨v13,st13,ev13,rfl,q13⟩:=Ge M.fresh hkv;refine qA rfl K (Qf rfl ev13) fun _ K=>?_;replace M:=M.quiet q13;have Mp:=Mq;have Mq:=M;have Bp:=Bq;have Bq:=B;refine JE rfl K rfl (M.load (k:=0) rfl (QZ Jh rfl)) (Mp.load (k:=0) rfl (QZ Jh rfl)) (KO (by simp[Hu,Hv,A6,YM hkl])) rfl Q9 fun _ K=>?_;obtain⟨v15,st15,ev15,ca,rfl,hca,hra,q15⟩:=Tx M.fresh (kc7:=.nils) rfl hkc (m1:=0) rfl hkl;refine qA rfl K (Qf rfl ev15) fun _ K=>?_;replace M:=M.Ti q15 hra hca;have Mp:=Mq;have Mq:=M;have Bp:=Bq;have Bq:=B;refine q1 rfl K (Q8 rfl) fun _ K=>q1 rfl K (Q0 QJ rfl rfl hkv) fun _ K=>q1 rfl K (Q8 rfl) fun _ K=>?_;replace B:=B.step M;have B0:=B;obtain⟨v19,st19,ev19,dp,Fd,rfl,hDd,hNd,hRd,QB⟩:=H7 (k:=0) B.fresh (fun c m r hr=>hr.elim (fun h=>B.ZA hf (hR c m r h) (fun e=>hRm c m r h e)) fun h=>(B.row _ _ _ (by rw[List.mem_singleton.1 h];exact List.mem_of_getElem? (i:=0) rfl)).QI) (show Yr (Yz R [(ca,0,[.str [116,114,117,101],iZ 0,iZ 0,iZ 0,iZ 0,.nils,.str o,iZ a,iZ b,iZ g,iZ n,kc])]) (NB VT (.mk o a b g n l)) _ from Yr.hZ (x:=VT) LQ (hr0.mono fun _ _ _=>KF) (.inr (.head _))) (fun c m r hr=>hr.elim (hRm c m r) fun h=>by injection List.mem_singleton.1 h with e1 e2;subst e1;exact fun e=>B.djM _ (List.mem_cons_self ..) _ _ _ (List.mem_of_getElem? (i:=0) rfl) e) (show Qu _ mp 0 [iN lf,.bool false]from B.at_ (k:=0) rfl) hl Q9 (Iy (Nw _) hc) (by rw[GJ,Cy];omega) hA hs;refine qA rfl K (Qf rfl ev19) fun _ K=>?_;replace B:=B.call (k:=0) (o':=YH mp (lf-s) false) rfl QB hRd (ZO fun c hc=>by rw[show c=mp from hc];exact hRd.lt QB.fresh);replace B:=B0.ES (k:=0) (o:=EJ Fd dp m1) (om':=YH mp (lf-s) false) rfl rfl B hDd.at_ hNd;have M:=B.mem;have Mp:=Mq;have Mq:=M;have Bp:=Bq;have Bq:=B;refine UT 5 K M fun _ K=>?_;refine Jd ?_;show W _ _ _ _ _ _ _;refine Qb 2 K M fun _ K=>?_;refine UJ K rfl (fun h23=>?_) fun h23=>?_
 ·have hb23:=h23
  replace h23: ¬(0=0):=by first|exact of_decide_eq_false h23|exact yF h23|simpa using h23
  exfalso;omega
 have hb23:=h23
 replace h23:(0=0):=by first|exact of_decide_eq_true h23|exact yT h23|simpa using h23
 refine Qb 2 K M fun _ K=>?_;replace B:=B.step M;have hle9:=B.le;obtain⟨v29,st29,ev29,co,mo,rfl,hro,hco,q29⟩:=Me B.fresh (B.RE (k:=0) rfl) hA.canon hA.tr hsh hkv;refine p1 K (Qf rfl ev29) fun _ K=>?_;replace M:=B.mem.Ti q29 hro hco;refine Qb 9 K M fun _ K=>?_;refine p1 K (E0 rfl (VC _)) fun _ K=>?_;refine Qb 1 K M ?_;replace B:=B.step M;exact⟨B.at_ (k:=1) rfl,B.U7,.inr ⟨rfl,co,mo,rfl,B.row _ _ _ (List.mem_of_getElem? (i:=0) rfl),Nat.le_trans hle9 hco⟩⟩
end
section
variable {R:W5} {a b c n:Int} {k:Cr} {o:List Nat}

structure qm(n0:Nat)(st':St)(A:ZJ):Prop where
 row: ∀c m l,(c,m,l)∈A→Qu st'.h.get c m l
 own: ∀c m l,(c,m,l)∈A→n0≤c
 nodup:(A.map Prod.fst).Nodup
section
variable {h0:Hp} {n0:Nat} {st st':St} {M L A B:ZJ}
theorem Mem.BK(h:Mem h0 n0 [] st M)(q:Qt st st')(s:qm st.n st' A):Mem h0 n0 [] st' (M++(A++[])):=by
 rw[List.append_nil];refine h.Tj (q.KR []) (fun c hc=>by simp at hc) ?_ fun c m l hm=>?_
 ·rw[List.map_append];refine List.nodup_append.2 ⟨h.nodup,s.nodup,fun x hx y hy e=>?_⟩;subst e;obtain⟨⟨c1,m1,l1⟩,h1,rfl⟩:=List.mem_map.1 hx;obtain⟨⟨c2,m2,l2⟩,h2,e⟩:=List.mem_map.1 hy;have e:c2=c1:=e;subst e;have:=h.lt _ _ _ h1;have:=s.own _ _ _ h2;omega
 ·rcases List.mem_append.1 hm with hm|hm
  ·exact .inl ⟨hm,by simp⟩
  ·exact .inr ⟨s.row _ _ _ hm,.inr (s.own _ _ _ hm)⟩
theorem Mem.kQ{st0:St}(h:Mem st0.h.get st0.n [] st' M)(hs:A.Sublist M):qm st0.n st' A:=
 ⟨fun c m l hm=>h.row c m l (hs.subset hm),fun c m l hm=>(h.own c m l (hs.subset hm)).resolve_right Qx,h.nodup.sublist (hs.map _)⟩
end
theorem aC{A:ZJ}{kc:List AV}{x:Nat}(hr:(x,0,kc)∈A)(hk:Yr (Yz R A) k kc):Yr (Yz R A) (.mk o a b c n [k]) [.str o,.int .i64 a,.int .i64 b,.int .i64 c,.int .i64 n,.sl x 0 0 1 6]:=by
 have h6:=hk.uw;refine .node (kids:=[k]) (.inr hr) Qx (by simp;omega) fun i k' h1=>?_
 match i,h1 with
 |0,h1=>
  injection h1 with h1
  subst h1;rw[show(kc.drop (0+0 *6)).take 6=kc from List.take_of_length_le (by simp;omega)];exact hk
theorem aB{A:ZJ}{j:Cr}{kc jc:List AV}{x:Nat}(hr:(x,0,kc++jc)∈A)(hk:Yr (Yz R A) k kc)(hj:Yr (Yz R A) j jc):Yr (Yz R A) (.mk o a b c n [k,j]) [.str o,.int .i64 a,.int .i64 b,.int .i64 c,.int .i64 n,.sl x 0 0 2 6]:=by
 have h6:=hk.uw;have h7:=hj.uw;refine .node (kids:=[k,j]) (.inr hr) Qx (by simp;omega) fun i k' h1=>?_
 match i,h1 with
 |0,h1=>
  injection h1 with h1
  subst h1;rw[show((kc++jc).drop (0+0 *6)).take 6=kc by rw[Nat.zero_mul,Nat.zero_add,List.drop_zero,List.take_append_of_le_length Qd,List.take_of_length_le Qd]];exact hk
 |1,h1=>
  injection h1 with h1
  subst h1;rw[show((kc++jc).drop (0+1 *6)).take 6=jc by rw[Nat.one_mul,Nat.zero_add,List.drop_append_of_le_length Qd,List.drop_of_length_le Qd,List.nil_append,List.take_of_length_le Qd]];exact hj
def qo(R:W5)(st st':St)(k:Cr)(v:AV):Prop:= ∃o a b c n kk A,v=.agg [.str o,.int .i64 a,.int .i64 b,.int .i64 c,.int .i64 n,kk]∧qm st.n st' A∧Yr (Yz R A) k [.str o,.int .i64 a,.int .i64 b,.int .i64 c,.int .i64 n,kk]
theorem qo.of{st st':St}{A:ZJ}{kk:AV}(r:Yr (Yz R A) k [.str o,.int .i64 a,.int .i64 b,.int .i64 c,.int .i64 n,kk])(h:qm st.n st' A):qo R st st' k (.agg [.str o,.int .i64 a,.int .i64 b,.int .i64 c,.int .i64 n,kk]):=⟨_,_,_,_,_,_,A,rfl,h,r⟩
end
section

abbrev NM:=List Nat×Int×Int
def fI(d:NM)(cs:List AV):Prop:=cs=[.str d.1,.int .i64 d.2.1,.int .i64 d.2.2]
def kM(h:Hp)(l:List NM)(kk:AV)(ls:List (List AV)):Prop:=AX h 3 fI l kk ls
end
end Go.Proofs.YtildagdnomiahaaGreatDoor
