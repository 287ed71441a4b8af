/-
  solve.found: what a closed formula's automaton tells.
-/
import Derived.Test.YtildagdnomiahaaGreatDoorQgLk
import Derived.Test.YtildagdnomiahaaGreatDoorQgFnS
set_option maxRecDepth 1000000
set_option linter.unnecessarySimpa false
set_option linter.unusedSectionVars false
set_option linter.unusedSimpArgs false
set_option linter.unusedVariables false
namespace Go.Proofs.YtildagdnomiahaaGreatDoor
section
open Go Go.RowKit
set_option maxHeartbeats 8000000
variable {F:Fp} {R:Vl} {a:Au} {b g n:Int} {cs:List AV} {dp lf mp s:Nat} {kv:AV} {o:List Nat} {st:St} {x:Cr}

theorem LN(u:AV):HD Tryz.prog 49 u=some (.ifc 49 u):=by kernel_rfl
theorem Uy.vB{y:Cr}{ds:List AV}{a:Int}{c m:Nat}(hx:Uy R x cs)(hy:Uy R y ds)(hr:R c m (cs++ds)):Uy R (.mk o a b g n [x,y]) [.str o,.int .i64 a,.int .i64 b,.int .i64 g,.int .i64 n,.sl c m 0 2 6]:=by
 have h6:=hx.MP;have k6:=hy.MP;refine Uy.node (kids:=[x,y]) hr Qx (by simp[h6,k6]) fun i k hi=>?_
 match i with
 |0=>injection hi with hi;subst hi;rw[show 0+0 *6=0 by rfl,List.drop_zero,List.take_append_of_le_length Qe,List.take_of_length_le Qe];exact hx
 |1=>injection hi with hi;subst hi;rw[show 0+1 *6=6 by rfl,List.drop_append_of_le_length Qe,List.drop_of_length_le Qe,List.nil_append,List.take_of_length_le Qe];exact hy
 |i+2=>simp at hi
theorem NS{y:Cr}{m:Int}(hx:J1 x m=true)(hy:J1 y m=true):J1 (Lz x y) m=true:=by
 unfold Lz;rw[J1];rw[if_neg Q8];simp only[F0,hx,hy];rfl
theorem Lj(m:Int):J1 Vs m=true:=by
 unfold Vs;rw[J1];rw[if_neg Q8];rfl
theorem P9(x y:Cr):VN (Lz x y)=VN x+VN y+1:=by unfold Lz;rw[VN,ZU,ZU,ZU];omega
theorem GM:VN Vs=1:=by unfold Vs;rw[VN,ZU]
theorem O4(hf:Qg st)(hD:JH st F dp a)(C:Canon a)(hany:a.acc.any id=false): ∃v st',QR 106 [.ptr dp 0 0] st v st'∧v=.tup [.nils,.bool false]∧Qt st st':=by
 obtain⟨v,st',h1,h2,h3⟩:=H9 hf hD C (fun h=>by rw[hany]at h;cases h);refine⟨v,st',h1,?_,h3⟩;rcases h2 with⟨_,h⟩|⟨w,kw,h,_⟩
 ·exact h
 ·unfold Zs at h;rw[if_neg (by rw[hany];decide)]at h;cases h
theorem O3(hf:Qg st)(hD:JH st F dp a)(C:Canon a)(hs:(Zs a).isSome=true): ∃v st',QR 106 [.ptr dp 0 0] st v st'∧(∃w kw,Zs a=some w∧v=.tup [kw,.bool true]∧F9 st st' 1 kw (zC (zN w)))∧Qt st st':=by
 obtain⟨v,st',h1,h2,h3⟩:=H9 hf hD C (fun _=>hs);refine⟨v,st',h1,?_,h3⟩;rcases h2 with⟨h,_⟩|h
 ·rw[h]at hs;cases hs
 ·exact h
theorem Cv(hf:Qg st)(hR:ZL R st.h.get){k:Nat}{m:Au}(hr:Uy R x cs)(hRm: ∀c m r,R c m r→c≠mp)(hm:Qw st.h.get mp 0 [.int .i64 (lf:Nat),.bool false])(hl:lf≤9223372036854775807)(hk6:k≤6)(hc:J1 x ((k:Nat):Int)=true)(hsz:VN x≤2000)(hA:Jp x k m s)(hs:s≤lf):
  ∃v st',QR 65 [.agg cs,.int .i64 (k:Nat),.ptr mp 0 0] st v st'∧ ∃dp F,v=.tup [.ptr dp 0 0,.int .i64 0]∧JH st' F dp m∧XE st st' F∧Qw st'.h.get mp 0 [.int .i64 (lf-s:Nat),.bool false]∧YI (fun c=>c=mp) st st':=by
 obtain⟨o,a,b,g,n,l⟩:=x;obtain⟨v,st',h1,h2,h3⟩:=Ll hf hR hr hRm hm hl hk6 hc hsz;refine⟨v,st',h1,?_⟩;rcases h2 with⟨dp,F,m',s',e1,e2,e3,e4,e5,e6⟩|⟨_,e⟩
 ·obtain⟨rfl,rfl⟩:=hA.uniq e2;exact⟨dp,F,e1,e4,e5,e6,h3⟩
 ·have:=e m s hA;omega

theorem Pc(hf:Qg st){w:List Int}{kw:AV}(hw:Je st.h.get [] 1 (zC w) kw): ∃v st',QR 108 [kw,iZ 0] st v st'∧ ∃ks,v=ks∧Qu ks=true∧Qt st st':=by
 have hbnw:(w.length:Int)≤9223372036854775807:=by have:=hw.EA;rw[Q0]at this;exact this
 refine Jq Tryz.func108 Tryz.ntmps108 fun T K=>?_;have M:=Mem.start hf;refine Qb 2 K M fun _ K=>?_;refine II id AV.nils (n:=0) K M JB YT rfl Qe rfl fun c10 _ _ K M=>?_;refine Qb 2 K M fun _ K=>?_;refine p1 K (Q4 Js rfl rfl (hw.len.trans (congrArg some (Q0 _)))) fun _ K=>?_;refine Qb 1 K M fun _ K=>?_;refine QV (fun mm1 T st9=> ∃(i:Nat),mm1=w.length-i∧QE [(1,iZ 0),(4,.nils),(5,(.sl c10 0 0 0 1)),(11,kw),(12,iZ (w.length:Nat)),(13,iN i)] T∧Mem st.h.get st.n [] st9 [(c10,0,((List.replicate 0 AV.nils).map id))]∧i≤w.length) (fun mm1 T st9 hI=>?_) _ _ _ ⟨0,rfl,(K.sub rfl),M.less (.refl _),(Nat.zero_le _)⟩;obtain⟨i,rfl,K,M,hi⟩:=hI;refine Qb 1 K M fun _ K=>?_;refine Uk K rfl (fun h14=>?_) fun h14=>?_
 ·refine Qb 1 K M fun _ K=>?_;obtain⟨y16,hi16⟩:=YP w i Qe;refine oI (Je.mem M hw Qx) (JA hi16) K QG Qq rfl rfl rfl fun _ _ _ _ K=>?_;refine Qb 4 K M fun _ K=>?_;refine QV (fun mm2 T st9=> ∃(j:Nat),mm2=0∧QE [(1,iZ 0),(4,.nils),(5,(.sl c10 0 0 0 1)),(6,iN i),(7,iZ y16),(11,kw),(12,iZ (w.length:Nat)),(13,iN i),(14,.bool (decide (((i:Nat):Int)<((w.length:Nat):Int)))),(18,iZ 0),(19,iN j)] T∧Mem st.h.get st.n [] st9 [(c10,0,((List.replicate 0 AV.nils).map id))]) (fun mm2 T st9 hI=>?_) _ _ _ ⟨0,rfl,(K.sub rfl),M.less (.refl _)⟩;obtain⟨j,rfl,K,M⟩:=hI;refine Qb 1 K M fun _ K=>?_;refine Uk K rfl (fun h20=>?_) fun h20=>?_
  ·exfalso;omega
  refine QO ?_;show W _ _ _ _ _ _ _;refine Qb 2 K M fun _ K=>?_;exact⟨_,Qe,i+1,rfl,(K.sub rfl),M.less (.refl _),Qe⟩
 refine QO ?_;show W _ _ _ _ _ _ _;refine Qb 2 K M ?_;exact⟨_,rfl,rfl,M.qt⟩

theorem Sh(hf:Qg st)(hD:JH st F dp a)(C:Canon a)(hany:a.acc.any id=false)(hkv:JU kv=some 0): ∃v st',QR 66 [.ptr dp 0 0,kv] st v st'∧v=.tup [.nils,.bool false]∧Qt st st':=by
 have B:=Qj.start hf;refine Jq Tryz.func66 Tryz.ntmps66 fun T K=>?_;have M:=B.mem;refine Qb 3 K M fun _ K=>?_;refine oQ K M (O4 M.fresh (hD.q (B.step M).qt) C hany) rfl rfl fun _ _ K M=>?_;refine Qb 17 K M ?_;exact⟨rfl,(B.step M).qt⟩

theorem Sg(hf:Qg st)(hD:JH st F dp a)(C:Canon a)(htr0:a.tr=0)(hsh:(Zs a).isSome=true)(hkv:JU kv=some 0): ∃v st',QR 66 [.ptr dp 0 0,kv] st v st'∧ ∃c m,v=.tup [.sl c m 0 0 3,.bool true]∧Qw st'.h.get c m []∧st.n≤c∧Qt st st':=by
 have B:=Qj.start hf;refine Jq Tryz.func66 Tryz.ntmps66 fun T K=>?_;have M:=B.mem;refine Qb 3 K M fun _ K=>?_;obtain⟨v14,st14,ev14,⟨w,kw,hsw,rfl,nrw⟩,q14⟩:=O3 M.fresh (hD.q (B.step M).qt) C hsh;refine p1 K (Qf rfl ev14) fun _ K=>?_;obtain⟨Aw,hAw,M⟩:=M.Y7 q14 nrw;replace hAw:=hAw.z0;simp only[Vk]at M;refine Qb 9 K M fun _ K=>?_;obtain⟨v21,st21,ev21,rfl,q21⟩:=YQ M.fresh (hD.q (B.step M).qt);refine pg K rfl rfl (Qf rfl ev21) fun _ K=>?_;replace M:=M.quiet q21;refine Qb 1 K M fun _ K=>?_;refine pg K rfl rfl (Q4 QS rfl rfl hkv) fun _ K=>?_;refine Qb 2 K M fun _ K=>?_;refine YU K rfl (fun h25=>?_) fun h25=>?_
 ·have hb25:=h25
  replace h25: ¬(((a.tr:Nat):Int)=((0:Nat):Int)):=by first|exact of_decide_eq_false h25|exact yF h25|simpa using h25
  exfalso;omega
 have hb25:=h25
 replace h25:(((a.tr:Nat):Int)=((0:Nat):Int)):=by first|exact of_decide_eq_true h25|exact yT h25|simpa using h25
 refine Qb 2 K M fun _ K=>?_;refine p1 K (Q4 QS rfl rfl hkv) fun _ K=>?_;obtain⟨v29,st29,ev29,kd,rfl,hkd,q29⟩:=Pc M.fresh (Mem.Zj (L:=[]) (B:=[]) M hAw);refine p1 K (Qf rfl ev29) fun _ K=>?_;replace M:=M.quiet q29;refine Qb 1 K M fun _ K=>?_;refine Vn K M O2 IG rfl rfl rfl rfl rfl fun c30 _ _ K M=>?_;refine Qb 2 K M fun _ K=>?_;refine p1 K (Q4 QS rfl rfl hkv) fun _ K=>?_;refine Qb 1 K M fun _ K=>?_;refine QV (fun mm1 T st9=> ∃(j:Nat),mm1=0∧QE [(4,.nils),(5,.bool false),(8,v29),(9,.sl c30 0 0 0 3),(31,kv),(32,iZ (((0:Nat):Int))),(33,iN j)] T∧Qj st WA st9 ((c30,0,[])::(Aw++[])) []) (fun mm1 T st9 hI=>?_) _ _ _ ⟨0,rfl,(K.sub rfl),(B.step M).less (.refl _)⟩;obtain⟨j,rfl,K,B⟩:=hI;have M:=B.mem;refine Qb 1 K M fun _ K=>?_;refine Uk K rfl (fun h34=>?_) fun h34=>?_
 ·exfalso;omega
 refine QO ?_;show W _ _ _ _ _ _ _;refine Qb 3 K M ?_;exact⟨c30,0,rfl,M.Uc (k:=0) rfl,((B.step M).lo c30 0 _ (List.mem_of_getElem? (i:=0) rfl)).resolve_right id,(B.step M).qt⟩

theorem NK(hf:Qg st)(hkv:JU kv=some 0): ∃v st',QR 14 [kv] st v st'∧v=.agg [.str [116,114,117,101],iZ 0,iZ 0,iZ 0,iZ 0,.nils]∧Qt st st':=by
 refine Jq Tryz.func14 Tryz.ntmps14 fun T K=>?_;have M:=Mem.start hf;refine au 5 K M ?_;intro c2 c3 _ _ K _ M;refine p1 K (Q4 QS rfl rfl hkv) fun _ K=>?_;refine Qb 2 K M fun _ K=>?_;refine p1 K (Q4 QS rfl rfl hkv) fun _ K=>?_;refine Qb 1 K M fun _ K=>?_;refine QV (fun mm1 T st9=> ∃(j:Nat),mm1=0∧QE [(2,.ptr c2 0 0),(3,.ptr c3 0 0),(4,iZ (((0:Nat):Int))),(11,kv),(12,iZ (((0:Nat):Int))),(13,iN j)] T∧Mem st.h.get st.n [] st9 [(c3,0,[.str [116,114,117,101],iZ 0,iZ 0,iZ 0,iZ 0,.nils]),(c2,0,[.str [],iZ 0,iZ 0,iZ 0,iZ 0,.nils])]) (fun mm1 T st9 hI=>?_) _ _ _ ⟨0,rfl,(K.sub rfl),M.less (.refl _)⟩;obtain⟨j,rfl,K,M⟩:=hI;refine Qb 1 K M fun _ K=>?_;refine Uk K rfl (fun h14=>?_) fun h14=>?_
 ·exfalso;omega
 refine QO ?_;show W _ _ _ _ _ _ _;refine au 2 K M ?_;intro _ _ K _ M;refine Qb 0 K M ?_;exact⟨rfl,M.qt⟩

theorem R5(hf:Qg st){o7 o8:List Nat}{a7 b7 g7 n7 a8 b8 g8 n8:Int}{kc7 kc8:AV}(hk1:Qu kc7=true)(hk2:Qu kc8=true){m1 m2:Nat}(hl1:JU kc7=some m1)(hl2:JU kc8=some m2): ∃v st',QR 32 [.agg [.str o7,iZ a7,iZ b7,iZ g7,iZ n7,kc7],.agg [.str o8,iZ a8,iZ b8,iZ g8,iZ n8,kc8]] st v st'∧ ∃c,v=.agg [.str [97,110,100],iZ 0,iZ 0,iZ 0,iZ 0,.sl c 0 0 2 6]∧st.n≤c∧Qw st'.h.get c 0 [.str o7,iZ a7,iZ b7,iZ g7,iZ n7,kc7,.str o8,iZ a8,iZ b8,iZ g8,iZ n8,kc8]∧Qt st st':=by
 refine Jq Tryz.func32 Tryz.ntmps32 fun T K=>?_;have M:=Mem.start hf;refine au 5 K M ?_;intro c2 c3 c4 _ _ K _ M;refine Vn K M UN U9 rfl rfl (Qa rfl (Qa rfl (Qa rfl (Qa rfl (Qa rfl (Qa hk1 (Qa rfl (Qa rfl (Qa rfl (Qa rfl (Qa rfl (Qa hk2 Q9)))))))))))) rfl rfl fun c7 _ _ K M=>?_;refine au 2 K M ?_;intro _ _ K _ M;refine Qb 0 K M ?_;exact⟨c7,rfl,(M.own c7 0 _ (List.mem_of_getElem? (i:=0) rfl)).resolve_right Qx,M.Uc (k:=0) rfl,M.qt⟩

theorem DT(hf:Qg st)(hR:ZL R st.h.get){a:Int}{l:List Cr}(hr:Uy R (.mk o a b g n l) cs)(hRm: ∀c m r,R c m r→c≠mp)(hm:Qw st.h.get mp 0 [iN lf,.bool false])(hl:lf≤9223372036854775807)(hkv:JU kv=some 0){m1:Au}(hA:Jp (Lz Vs (.mk o a b g n l)) 0 m1 s)(hs:s≤lf)(hc:J1 (.mk o a b g n l) 0=true)(hsz:VN (.mk o a b g n l)≤1900)(hany:m1.acc.any id=false): ∃v st',QR 38 [kv,.agg cs,.ptr mp 0 0] st v st'∧jC 49 st st' mp (lf-s) false v:=by
 have hr0:=hr;obtain⟨kc,ls,rfl,hK⟩:=hr.YN;have hln:=hK.ln;have hbn:=hK.EA;have hkc:=hK.cell;have hkl:=hK.len;have hmF: ∀c,(Zn mp lf false).F c→c<st.n:=fun c hc=>(show c=mp from hc)▸hm.lt hf;have B:=Qj.UR (o:=Zn mp lf false) hf hm hmF;refine Jq Tryz.func38 Tryz.ntmps38 fun T K=>?_;have M:=B.mem;refine Qb 0 K M fun _ K=>?_;refine J3 K M rfl (Qa rfl (Qa rfl (Qa rfl (Qa rfl (Qa rfl (Qa hK.cell Q9)))))) Q8 fun c4 _ _ K M=>?_;refine Qb 1 K M fun _ K=>?_;refine QQ (l:=[(0,0),(1,0),(2,1),(3,0),(4,0),(5,0),(6,0),(7,0),(8,0),(9,0),(10,0),(11,0),(12,0)]) (by kernel_rfl) ?_;have Mq:=M;have Bq:=B;refine q1 rfl K (QA rfl) fun _ K=>?_;obtain⟨v13,st13,ev13,rfl,q13⟩:=NK M.fresh hkv;refine qA rfl K (Qf rfl ev13) fun _ K=>?_;replace M:=M.quiet q13;have Mp:=Mq;have Mq:=M;have Bp:=Bq;have Bq:=B;refine JC rfl K rfl (M.load (k:=0) rfl (Jc QZ rfl)) (Mp.load (k:=0) rfl (Jc QZ rfl)) (Gg (by simp[KU,KV,Hl,Zd hkl])) rfl Q8 fun _ K=>?_;obtain⟨v15,st15,ev15,ca,rfl,hca,hra,q15⟩:=R5 M.fresh (kc7:=.nils) rfl hkc (m1:=0) rfl hkl;refine qA rfl K (Qf rfl ev15) fun _ K=>?_;replace M:=M.Ru q15 hra hca;have Mp:=Mq;have Mq:=M;have Bp:=Bq;have Bq:=B;refine q1 rfl K (QA rfl) fun _ K=>q1 rfl K (Q4 QS rfl rfl hkv) fun _ K=>q1 rfl K (QA rfl) fun _ K=>?_;replace B:=B.step M;have B0:=B;obtain⟨v19,st19,ev19,dp,Fd,rfl,hDd,hNd,hRd,QB⟩:=Cv (k:=0) B.fresh (fun c m r hr=>hr.elim (fun h=>B.ZH hf (hR c m r h) (fun e=>hRm c m r h e)) fun h=>(B.row _ _ _ (by rw[List.mem_singleton.1 h];exact List.mem_of_getElem? (i:=0) rfl)).QF) (show Uy (Un R [(ca,0,[.str [116,114,117,101],iZ 0,iZ 0,iZ 0,iZ 0,.nils,.str o,iZ a,iZ b,iZ g,iZ n,kc])]) (Lz Vs (.mk o a b g n l)) _ from Uy.vB (x:=Vs) WL (hr0.mono fun _ _ _=>PL) (.inr (.head _))) (fun c m r hr=>hr.elim (hRm c m r) fun h=>by injection List.mem_singleton.1 h with e1 e2;subst e1;exact fun e=>B.djM _ (List.mem_cons_self ..) _ _ _ (List.mem_of_getElem? (i:=0) rfl) e) (show Qw _ mp 0 [iN lf,.bool false]from B.at_ (k:=0) rfl) hl Q8 (NS (Lj _) hc) (by rw[P9,GM];omega) hA hs;refine qA rfl K (Qf rfl ev19) fun _ K=>?_;replace B:=B.call (k:=0) (o':=Zn mp (lf-s) false) rfl QB hRd (Xz fun c hc=>by rw[show c=mp from hc];exact hRd.lt QB.fresh);replace B:=B0.Hq (k:=0) (o:=Ak Fd dp m1) (om':=Zn mp (lf-s) false) rfl rfl B hDd.at_ hNd;have M:=B.mem;have Mp:=Mq;have Mq:=M;have Bp:=Bq;have Bq:=B;refine Yd 5 K M fun _ K=>?_;refine Jf ?_;show W _ _ _ _ _ _ _;refine Qb 2 K M fun _ K=>?_;refine YU K rfl (fun h23=>?_) fun h23=>?_
 ·have hb23:=h23
  replace h23: ¬(0=0):=by first|exact of_decide_eq_false h23|exact yF h23|simpa using h23
  exfalso;omega
 have hb23:=h23
 replace h23:(0=0):=by first|exact of_decide_eq_true h23|exact yT h23|simpa using h23
 refine Qb 2 K M fun _ K=>?_;replace B:=B.step M;obtain⟨v29,st29,ev29,rfl,q29⟩:=Sh B.fresh (B.SU (k:=0) rfl) hA.canon hany hkv;refine p1 K (Qf rfl ev29) fun _ K=>?_;replace B:=B.quiet q29;have M:=B.mem;refine Qb 9 K M ?_;replace B:=B.step M;exact⟨B.at_ (k:=1) rfl,B.U7,.inl ⟨rfl,rfl⟩⟩

theorem BW(hf:Qg st)(hR:ZL R st.h.get){a:Int}{l:List Cr}(hr:Uy R (.mk o a b g n l) cs)(hRm: ∀c m r,R c m r→c≠mp)(hm:Qw st.h.get mp 0 [iN lf,.bool false])(hl:lf≤9223372036854775807)(hkv:JU kv=some 0){m1:Au}(hA:Jp (Lz Vs (.mk o a b g n l)) 0 m1 s)(hs:s≤lf)(hc:J1 (.mk o a b g n l) 0=true)(hsz:VN (.mk o a b g n l)≤1900)(hsh:(Zs m1).isSome=true): ∃v st',QR 38 [kv,.agg cs,.ptr mp 0 0] st v st'∧jC 49 st st' mp (lf-s) true v:=by
 have hr0:=hr;obtain⟨kc,ls,rfl,hK⟩:=hr.YN;have hln:=hK.ln;have hbn:=hK.EA;have hkc:=hK.cell;have hkl:=hK.len;have hmF: ∀c,(Zn mp lf false).F c→c<st.n:=fun c hc=>(show c=mp from hc)▸hm.lt hf;have B:=Qj.UR (o:=Zn mp lf false) hf hm hmF;refine Jq Tryz.func38 Tryz.ntmps38 fun T K=>?_;have M:=B.mem;refine Qb 0 K M fun _ K=>?_;refine J3 K M rfl (Qa rfl (Qa rfl (Qa rfl (Qa rfl (Qa rfl (Qa hK.cell Q9)))))) Q8 fun c4 _ _ K M=>?_;refine Qb 1 K M fun _ K=>?_;refine QQ (l:=[(0,0),(1,0),(2,1),(3,0),(4,0),(5,0),(6,0),(7,0),(8,0),(9,0),(10,0),(11,0),(12,0)]) (by kernel_rfl) ?_;have Mq:=M;have Bq:=B;refine q1 rfl K (QA rfl) fun _ K=>?_;obtain⟨v13,st13,ev13,rfl,q13⟩:=NK M.fresh hkv;refine qA rfl K (Qf rfl ev13) fun _ K=>?_;replace M:=M.quiet q13;have Mp:=Mq;have Mq:=M;have Bp:=Bq;have Bq:=B;refine JC rfl K rfl (M.load (k:=0) rfl (Jc QZ rfl)) (Mp.load (k:=0) rfl (Jc QZ rfl)) (Gg (by simp[KU,KV,Hl,Zd hkl])) rfl Q8 fun _ K=>?_;obtain⟨v15,st15,ev15,ca,rfl,hca,hra,q15⟩:=R5 M.fresh (kc7:=.nils) rfl hkc (m1:=0) rfl hkl;refine qA rfl K (Qf rfl ev15) fun _ K=>?_;replace M:=M.Ru q15 hra hca;have Mp:=Mq;have Mq:=M;have Bp:=Bq;have Bq:=B;refine q1 rfl K (QA rfl) fun _ K=>q1 rfl K (Q4 QS rfl rfl hkv) fun _ K=>q1 rfl K (QA rfl) fun _ K=>?_;replace B:=B.step M;have B0:=B;obtain⟨v19,st19,ev19,dp,Fd,rfl,hDd,hNd,hRd,QB⟩:=Cv (k:=0) B.fresh (fun c m r hr=>hr.elim (fun h=>B.ZH hf (hR c m r h) (fun e=>hRm c m r h e)) fun h=>(B.row _ _ _ (by rw[List.mem_singleton.1 h];exact List.mem_of_getElem? (i:=0) rfl)).QF) (show Uy (Un R [(ca,0,[.str [116,114,117,101],iZ 0,iZ 0,iZ 0,iZ 0,.nils,.str o,iZ a,iZ b,iZ g,iZ n,kc])]) (Lz Vs (.mk o a b g n l)) _ from Uy.vB (x:=Vs) WL (hr0.mono fun _ _ _=>PL) (.inr (.head _))) (fun c m r hr=>hr.elim (hRm c m r) fun h=>by injection List.mem_singleton.1 h with e1 e2;subst e1;exact fun e=>B.djM _ (List.mem_cons_self ..) _ _ _ (List.mem_of_getElem? (i:=0) rfl) e) (show Qw _ mp 0 [iN lf,.bool false]from B.at_ (k:=0) rfl) hl Q8 (NS (Lj _) hc) (by rw[P9,GM];omega) hA hs;refine qA rfl K (Qf rfl ev19) fun _ K=>?_;replace B:=B.call (k:=0) (o':=Zn mp (lf-s) false) rfl QB hRd (Xz fun c hc=>by rw[show c=mp from hc];exact hRd.lt QB.fresh);replace B:=B0.Hq (k:=0) (o:=Ak Fd dp m1) (om':=Zn mp (lf-s) false) rfl rfl B hDd.at_ hNd;have M:=B.mem;have Mp:=Mq;have Mq:=M;have Bp:=Bq;have Bq:=B;refine Yd 5 K M fun _ K=>?_;refine Jf ?_;show W _ _ _ _ _ _ _;refine Qb 2 K M fun _ K=>?_;refine YU K rfl (fun h23=>?_) fun h23=>?_
 ·have hb23:=h23
  replace h23: ¬(0=0):=by first|exact of_decide_eq_false h23|exact yF h23|simpa using h23
  exfalso;omega
 have hb23:=h23
 replace h23:(0=0):=by first|exact of_decide_eq_true h23|exact yT h23|simpa using h23
 refine Qb 2 K M fun _ K=>?_;replace B:=B.step M;have hle9:=B.le;obtain⟨v29,st29,ev29,co,mo,rfl,hro,hco,q29⟩:=Sg B.fresh (B.SU (k:=0) rfl) hA.canon hA.tr hsh hkv;refine p1 K (Qf rfl ev29) fun _ K=>?_;replace M:=B.mem.Ru q29 hro hco;refine Qb 9 K M fun _ K=>?_;refine p1 K (Km rfl (LN _)) fun _ K=>?_;refine Qb 1 K M ?_;replace B:=B.step M;exact⟨B.at_ (k:=1) rfl,B.U7,.inr ⟨rfl,co,mo,rfl,B.row _ _ _ (List.mem_of_getElem? (i:=0) rfl),Nat.le_trans hle9 hco⟩⟩
end
section
open Go Go.RowKit

theorem DS:Real Tryz.prog 38:=⟨_,Tryz.func38,rfl,by decide+kernel⟩
noncomputable def xN(tbl:List CO):Env:=⟨fun _=>false,BY CA,HJ ((38,GR 49 tbl)::GP),Wq⟩
theorem SI{tbl:List CO}(ht: ∀e∈tbl,e.ok=true):HT Tryz.prog (xN tbl) 38 (GR 49 tbl):=
 TG (G0:=SS) DS (fun w0 p h=>h) Rq mixed ht fun e m st R kv cs mp n h1 h2 h3 h4 h5 hf hR hr hRm hkv hns hm hl hs=>by
  obtain⟨⟨o,a,b,g,k,l⟩,r,s⟩:=e
  cases r with
  |true=>exact BW hf hR hr hRm hm hl hkv h1 hs h4 h5 (h3 rfl)
  |false=>exact DT hf hR hr hRm hm hl hkv h1 hs h4 h5 h2
theorem yx{tbl:List CO}(ht: ∀e∈tbl,e.ok=true):ER Tryz.prog (xN tbl):=⟨fun f q h=>Lv (f,q) (Hh h),fun f sm h=>by
 have h:Ql (Nat.beq f 38) (some (GR 49 tbl)) (HJ GP f)=some sm:=h
 cases hb:Nat.beq f 38 with
 |true=>
  rw[hb]at h
  injection h with h
  subst h;rw[Nat.eq_of_beq_eq_true hb];exact SI ht
 |false=>
  rw[hb]at h
  exact Rq.sums f sm h⟩
def ec(x:Cr):Cr:=.mk [110,111,116] 0 0 0 0 [x]
def core0:Cr:=.mk [110,111,116] 0 0 0 0 [.mk [101,120] 0 0 0 0 [.mk [97,110,100] 0 0 0 0 [.mk [115,105,110,103] 0 0 0 0 [],.mk [110,111,116] 0 0 0 0 [.mk [101,120] 1 0 0 0 [.mk [97,110,100] 0 0 0 0 [.mk [115,105,110,103] 1 0 0 0 [],.mk [108,101,115,115] 0 1 0 0 []]]]]]]
def vE:List CO:=[⟨core0,true,25⟩,⟨ec core0,false,26⟩]
theorem jX: ∀e∈vE,e.ok=true:=by decide+kernel
end
section
open Go

theorem Ga:isTrue (Jx Tryz.prog (xN vE) 10000 1000 16 [] ⟨0,.nil⟩)=true:=by decide+kernel
end
end Go.Proofs.YtildagdnomiahaaGreatDoor
