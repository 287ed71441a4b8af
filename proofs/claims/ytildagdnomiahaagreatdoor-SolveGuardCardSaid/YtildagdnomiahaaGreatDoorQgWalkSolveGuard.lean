/-
  SolveGuard: what any variables are.
-/
import Derived.Test.YtildagdnomiahaaGreatDoorQgSgd
set_option linter.unnecessarySimpa false
set_option linter.unusedSectionVars false
set_option linter.unusedSimpArgs false
set_option linter.unusedVariables false
namespace Go.Proofs.YtildagdnomiahaaGreatDoor
open Go Go.RowKit
section
set_option maxHeartbeats 8000000
set_option maxRecDepth 100000

def ee:Vl:=fun _ _ _=>False
theorem ZQ.mem{K:Type}{h0:Hp}{n0 z:Nat}{R:K→List AV→Prop}{l:List K}{kk:AV}{ls:List (List AV)}{st:St}{M:VL}(hM:Mem h0 n0 [] st M)(H:ZQ h0 z R l kk ls):ZQ st.h.get z R l kk ls:=⟨H.r.mem hM Qx,H.ln,H.at_⟩

theorem TP(x:Cr): ∀(R:Vl) (st:St) (cs ds:List AV),Qg st→ZL R st.h.get→Uy R x cs→Uy R x ds→ ∃v st',Ev Tryz.prog Iq 13 [.agg cs,.agg ds] st v st'∧v=.bool true∧Qt st st':=by
 refine Le (M:=fun x=> ∀(R:Vl) (st:St) (cs ds:List AV),Qg st→ZL R st.h.get→Uy R x cs→Uy R x ds→ ∃v st',Ev Tryz.prog Iq 13 [.agg cs,.agg ds] st v st'∧v=.bool true∧Qt st st') (fun o a b g n l ih=>?_) x;intro R st cs ds hf hR hr hq;have hr0:=hr;obtain⟨kc,ls,rfl,hK⟩:=hr.YN;have hln:=hK.ln;have hbn:=hK.EA;obtain⟨kc2,ls2,rfl,hK2⟩:=hq.YN;refine Jq Tryz.func13 Tryz.ntmps13 fun T K=>?_;have M:=Mem.start hf;refine Qb 0 K M fun _ K=>?_;refine J3 K M rfl (Qa rfl (Qa rfl (Qa rfl (Qa rfl (Qa rfl (Qa hK.cell Q9)))))) Q8 fun c2 _ _ K M=>?_;refine J3 K M rfl (Qa rfl (Qa rfl (Qa rfl (Qa rfl (Qa rfl (Qa hK2.cell Q9)))))) Q8 fun c3 _ _ K M=>?_;refine Qb 5 K M fun _ K=>?_;refine p1 K (u9 rfl rfl) fun _ K=>?_;refine Qb 5 K M fun _ K=>?_;refine pg K rfl rfl (AS rfl rfl) fun _ K=>?_;refine Qb 6 K M fun _ K=>?_;refine pg K rfl rfl (AS rfl rfl) fun _ K=>?_;refine Qb 6 K M fun _ K=>?_;refine pg K rfl rfl (AS rfl rfl) fun _ K=>?_;refine Qb 6 K M fun _ K=>?_;refine pg K rfl rfl (AS rfl rfl) fun _ K=>?_;refine Qb 4 K M fun _ K=>?_;refine pg K rfl rfl (Q4 Ji rfl rfl hK.len) fun _ K=>?_;refine Qb 2 K M fun _ K=>?_;refine pg K rfl rfl (Q4 Ji rfl rfl hK2.len) fun _ K=>pg K rfl rfl (AS rfl rfl) fun _ K=>?_;refine Qb 3 K M fun _ K=>?_;refine QV (fun mm1 T st9=> ∃(i:Nat),mm1=l.length-i∧QE [(2,.ptr c2 0 0),(3,.ptr c3 0 0),(5,iN i)] T∧Mem st.h.get st.n [] st9 [(c3,0,[.str o,iZ a,iZ b,iZ g,iZ n,kc2]),(c2,0,[.str o,iZ a,iZ b,iZ g,iZ n,kc])]∧i≤l.length) (fun mm1 T st9 hI=>?_) _ _ _ ⟨0,rfl,(K.sub rfl),M.less (.refl _),(Nat.zero_le _)⟩;obtain⟨i,rfl,K,M,hi⟩:=hI;refine Qb 3 K M fun _ K=>?_;refine p1 K (Q4 Ji rfl rfl hK.len) fun _ K=>?_;refine Qb 1 K M fun _ K=>?_;refine Uk K rfl (fun h52=>?_) fun h52=>?_
 ·refine Qb 0 K M fun _ K=>?_;refine QQ (l:=[(0,0),(1,0),(2,0),(3,0),(4,0),(5,0),(6,0),(7,0),(8,0),(9,0),(10,0),(11,0)]) (by kernel_rfl) ?_;refine Yd 3 K M fun _ K=>?_;obtain⟨⟨o58,a58,b58,g58,n58,l58⟩,hi58⟩: ∃k,l[i]? =some k:=⟨_,List.getElem?_eq_getElem Qe⟩;have hm58:=Pe hi58;obtain⟨_,hc58,hn58⟩:=hK.get hi58;have hp58:=hn58;obtain⟨kc58,ls58,rfl,hK58⟩:=hp58.YN;refine eH rfl rfl (hK.r (M.ZL hR)) hc58 K JV QZ rfl rfl fun _ _ _ _ K=>?_;refine Yd 3 K M fun _ K=>?_;obtain⟨_,hc63,hn63⟩:=hK2.get hi58;have hp63:=hn63;obtain⟨kc63,ls63,rfl,hK63⟩:=hp63.YN;refine eH rfl rfl (hK2.r (M.ZL hR)) hc63 K JV QZ rfl rfl fun _ _ _ _ K=>?_;obtain⟨v65,st65,ev65,rfl,q65⟩:=ih _ hm58 R _ _ _ M.fresh (M.ZL hR) hn58 hn63;refine qA rfl K (Qf rfl ev65) fun _ K=>?_;replace M:=M.quiet q65;refine q1 rfl K (D0 rfl) fun _ K=>Jf ?_;show W _ _ _ _ _ _ _;refine Qb 4 K M fun _ K=>?_;exact⟨_,Qe,i+1,rfl,(K.sub rfl),M.less (.refl _),Qe⟩
 refine QO ?_;show W _ _ _ _ _ _ _;refine Qb 1 K M ?_;exact⟨rfl,M.qt⟩

theorem LF{st:St}(hf:Qg st){ds:List yP}{kd:AV}{ld:List (List AV)}(hD:R9 st.h.get ds kd ld): ∃v st',Ev Tryz.prog Iq 4 [kd] st v st'∧v=.bool true:=by
 have hD:ZQ st.h.get 3 T0 ds kd ld:=hD;have hln:=hD.ln
 have hbn:(ds.length:Int)≤9223372036854775807:=by have:=hD.r.EA;rw[hD.ln]at this;exact this
 refine Jq Tryz.func4 Tryz.ntmps4 fun T K=>?_;have M:=Mem.start hf;refine Qb 2 K M fun _ K=>?_;refine p1 K (Q4 QS rfl rfl (hD.r.len.trans (congrArg some hD.ln))) fun _ K=>?_;refine Qb 1 K M fun _ K=>?_;refine Uk K rfl (fun h6=>?_) fun h6=>?_
 ·refine Qb 1 K M ?_;rfl
 refine Qb 1 K M fun _ K=>?_;refine QV (fun mm1 T st9=> ∃(i:Nat),mm1=ds.length-i∧QE [(0,kd),(3,iN i)] T∧Mem st.h.get st.n [] st9 []∧i≤ds.length) (fun mm1 T st9 hI=>?_) _ _ _ ⟨0,rfl,(K.sub rfl),M.less (.refl _),(Nat.zero_le _)⟩;obtain⟨i,rfl,K,M,hi⟩:=hI;refine Qb 2 K M fun _ K=>?_;refine p1 K (Q4 QS rfl rfl (hD.r.len.trans (congrArg some hD.ln))) fun _ K=>?_;refine Qb 1 K M fun _ K=>?_;refine Uk K rfl (fun h10=>?_) fun h10=>?_
 ·refine Qb 2 K M fun _ K=>?_;obtain⟨⟨dn15,do15,da15⟩,hi15⟩: ∃k,ds[i]? =some k:=⟨_,List.getElem?_eq_getElem Qe⟩;obtain⟨_,hc15,rfl⟩:=hD.at_ _ _ hi15;obtain⟨x15,m15,f15,q15,_,la15,lo15,lp15⟩:=(hD.r.mem M Qx).load (i:=i) (cs:=_) hc15;refine p1 K (Qs (j:=i) Z4 (congrArg some q15) rfl (by rw[hD.ln];omega)) fun _ K=>?_;refine Qb 1 K M fun _ K=>?_;refine p1 K (Qh rfl (lo15 _ 1 _ Qq rfl)) fun _ K=>?_;refine Qb 1 K M fun _ K=>?_;refine Uv K rfl (fun _ e19 K=>?_) fun _ e19 K=>?_
  ·refine Qb 2 K M fun _ K=>?_;obtain⟨⟨dn22,do22,da22⟩,hi22⟩: ∃k,ds[i]? =some k:=⟨_,List.getElem?_eq_getElem Qe⟩;obtain⟨_,hc22,rfl⟩:=hD.at_ _ _ hi22;obtain⟨x22,m22,f22,q22,_,la22,lo22,lp22⟩:=(hD.r.mem M Qx).load (i:=i) (cs:=_) hc22;refine pg K rfl rfl (Qs (j:=i) Z4 (congrArg some q22) rfl (by rw[hD.ln];omega)) fun _ K=>?_;refine Qb 1 K M fun _ K=>?_;refine pg K rfl rfl (Qh rfl (lo22 _ 1 _ Qq rfl)) fun _ K=>?_;refine Qb 2 K M fun _ K=>?_;refine Uk K rfl (fun h26=>?_) fun h26=>?_
   ·refine Qb 1 K M ?_;rfl
   refine Qb 3 K M fun _ K=>?_;exact⟨_,Qe,i+1,rfl,(K.sub rfl),M.less (.refl _),Qe⟩
  refine Qb 9 K M ?_;rfl
 refine QO ?_;show W _ _ _ _ _ _ _;refine Qb 1 K M fun _ K=>?_;obtain⟨v28,st28,ev28,⟨on28,an28,bn28,cn28,nn28,kkn28,A28,rfl,hS28,hN28⟩,q28⟩:=SH (R:=ee) M.fresh (ZQ.mem M hD);refine p1 K (Qf rfl ev28) fun _ K=>?_;replace M:=M.Z5 q28 hS28;simp only[Vk]at M;refine Qb 1 K M fun _ K=>?_;obtain⟨v30,st30,ev30,⟨on30,an30,bn30,cn30,nn30,kkn30,A30,rfl,hS30,hN30⟩,q30⟩:=DR (R:=ee) M.fresh (ZQ.mem M hD);refine p1 K (Qf rfl ev30) fun _ K=>?_;replace M:=M.Z5 q30 hS30;simp only[Vk]at M
 refine oQ K M (TP _ (Un ee (A28++A30)) _ _ _ M.fresh (fun c m r h=>h.elim False.elim fun h=>Qw.QF (M.row c m r (by rcases List.mem_append.1 h with h|h<;>simp[h]))) (hN28.mono (QH (fun _ _ _ h=>h) fun x h=>List.mem_append_left _ h)) (hN30.mono (QH (fun _ _ _ h=>h) fun x h=>List.mem_append_right _ h))) rfl rfl fun _ _ K M=>?_
 refine Qb 1 K M fun _ K=>?_;have ev33:=DE;refine pg K rfl rfl (Qf rfl (ev33 _)) fun _ K=>?_;refine Qb 2 K M ?_;rfl
end
section

theorem HX{H:Type}{enc:TypeId×Value→H}{W:World}{v0:Value}{d0:DataW H}{p0:List MemPlace}(h0:DataW.Trod enc Tryz.prog W 0 (fun _=>true) true 22 v0 d0 p0)(n0: ∀cs,v0≠ .agg cs)(hT:Wq W):
  Calls Tryz.prog 4 #[v0] W fun e w'=>e=.returned (.bool true)∧Below W.heap.size W w':=by
 obtain⟨ml1,kd,ds,ld,_,hM1,hD,hw,hc⟩:=DQ ZT.nil h0 n0
 have:=Sd (G:=Iq) (fun _=>rfl) yw mixed (f:=4) (args:=[kd]) hM1 ⟨hw,trivial⟩
  (LF (Nz ml1) (by rw[Iw];exact hD)) hT
 rw[show Qm (L8 ml1) [kd]=[v0] by rw[←hc];rfl]at this;exact this
end
end Go.Proofs.YtildagdnomiahaaGreatDoor
