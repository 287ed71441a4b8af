/-
  Kinds of terms: the reference's answer.
-/
import Derived.Test.YtadjjadimlkkgaaGreatDoorKtKnB
namespace Go.Proofs.YtadjjadimlkkgaaGreatDoor
open Go Go.RowKit
set_option maxHeartbeats 8000000
set_option linter.unusedVariables false
set_option linter.unusedSimpArgs false
set_option linter.unnecessarySimpa false
set_option maxRecDepth 100000

theorem Fj{sc:List Dc}{o s:List Nat}{z a:Int}{l:List Nd}(h1: ¬o=[118,97,114])(h2: ¬o=[110,117,109]){w u:Int}(hw:w=if o=[115,101,116]then 1 else if o=[112,108,117,115]then 1 else 2)(hu:u=if o=[112,108,117,115]then 1 else 2):Q0 sc (.mk o s z a l)=match Zn sc (decide (o=[112,108,117,115])) a w l with
  |some r=>(0,r.1,r.2)
  |none=>(u,0,0):=by
 have hw':(if o=[112,108,117,115]∨o=[115,101,116]then(1:Int)else 2)=w:=by
  rw[hw]
  by_cases q:o=[115,101,116]
  ·rw[if_pos q,if_pos (Or.inr q)]
  ·rw[if_neg q]
   by_cases q2:o=[112,108,117,115]
   ·rw[if_pos q2,if_pos (Or.inl q2)]
   ·rw[if_neg q2,if_neg (by simp[q,q2])]
 rw[Q0,if_neg h1,if_neg h2,hw',←hu]
 cases Zn sc (decide (o=[112,108,117,115])) a w l<;>rfl

theorem Lf{sc:List Dc}{kd:AV}{ld:List (List AV)}(x:Nd): ∀(st:St) (cs:List AV),Q3 st→Yo st.h.get sc kd ld→YW st.h.get x cs→QL x=true→ ∃v st',Ev Tryz.prog Jg 148 [kd,.agg cs] st v st'∧v=GY sc x∧Qt st st':=by
 refine VJ (M:=fun x=> ∀(st:St) (cs:List AV),Q3 st→Yo st.h.get sc kd ld→YW st.h.get x cs→QL x=true→ ∃v st',Ev Tryz.prog Jg 148 [kd,.agg cs] st v st'∧v=GY sc x∧Qt st st') (fun o s z a l ih=>?_) x;intro st cs hf hD hr ht;have hr0:=hr;obtain⟨kk,ls,rfl,hK,hb⟩:=hr.Ju;have hln:=hK.ln;have hbn:=hK.Yx;refine QG rfl Tryz.func148 rfl Tryz.ntmps148 rfl fun T hT=>?_;have K:Jk [(0,_),(1,_)] T:=(.cons (hT 0) (.cons (hT 1) .nil));have M:=Mem.start hf;refine Qw<|Qi ?_;refine JL K M rfl (Qa rfl (Qa rfl (Qa rfl (Qa rfl (Qa hK.cell QE))))) (by decide) fun c3 _ _ K M=>?_;refine Qc 5 K M ?_;intro _ K;refine o1 K (QD (b:=[118,97,114]) rfl rfl) rfl fun _ K=>?_;refine Qc 1 K M ?_;intro _ K;refine YX K rfl (fun h16=>?_) fun h16=>?_
 ·refine Qc 3 K M ?_;intro _ K;refine oQ K M (NM M.fresh (Yo.mono M.rows hD) s) rfl rfl fun _ _ K M=>?_;refine Qc 3 K M ?_;intro _ K;refine YX K rfl (fun h23=>?_) fun h23=>?_
  ·refine Qw ?_;refine Jr (l:=[(0,0),(1,0),(2,0),(3,0),(4,0)]) (by kernel_rfl) ?_;refine d1 rfl K (Qf Xk rfl) rfl rfl fun _ K=>d1 rfl K (Qq rfl (M.load (k:=0) rfl (Ql QA rfl))) rfl rfl fun _ K=>d1 rfl K (Qu rfl) rfl rfl fun _ K=>d1 rfl K (Qu rfl) rfl rfl fun _ K=>d1 rfl K (Qu rfl) rfl rfl fun _ K=>J4 ?_;show W _ _ _ _ _ _ _;refine Qd ⟨.inr rfl,_,(JN (QQ K rfl) (QQ K rfl) (QQ K rfl)),?_⟩;refine⟨congrArg kT (a₁:=(0,a,5)) (a₂:=Q0 sc (.mk o s z a l)) (Eq.symm ?_),M.qt⟩;exact(E4 (by assumption)).trans (if_pos (by omega))
  refine Qc 4 K M ?_;intro _ K;refine Qd ⟨.inr rfl,_,(JN (QQ K rfl) (QQ K rfl) (QQ K rfl)),?_⟩;refine⟨congrArg kT (a₁:=(U8 sc s,0,0)) (a₂:=Q0 sc (.mk o s z a l)) (Eq.symm ?_),M.qt⟩;exact(E4 (by assumption)).trans (if_neg (by omega))
 refine Qw<|Qi<|o1 K (QD (b:=[110,117,109]) rfl rfl) rfl fun _ K=>?_;refine Qc 1 K M ?_;intro _ K;refine YX K rfl (fun h27=>?_) fun h27=>?_
 ·refine Qc 3 K M ?_;intro _ K;refine Qd ⟨.inr rfl,_,(JN (QQ K rfl) (QQ K rfl) (QQ K rfl)),?_⟩;refine⟨congrArg kT (a₁:=(1,0,0)) (a₂:=Q0 sc (.mk o s z a l)) (Eq.symm ?_),M.qt⟩;exact IG (by assumption)
 refine QO ?_;show W _ _ _ _ _ _ _;refine Qw<|Qi<|o1 K (Qu rfl) rfl fun _ K=>o1 K (Qu rfl) rfl fun _ K=>Q5 ?_;show W _ _ _ _ _ _ _;refine X7 (J:=fun T st9=> ∃(w0:Int) (u:Int),Jk [(0,kd),(3,.ptr c3 0 0),(4,.int .i64 0),(5,.int .i64 0),(6,.int .i64 0),(8,.int .i64 w0),(9,.int .i64 u)] T∧Mem st.h.get st.n [] st9 [(c3,0,[.str o,.str s,.int .i64 z,.int .i64 a,kk])]∧w0=(if o=[112,108,117,115]then 1 else 2)∧u=(if o=[112,108,117,115]then 1 else 2)) ?_ (fun T st9 hJ=>?_)
 ·refine Qc 2 K M ?_;intro _ K;refine o1 K (QD (b:=[112,108,117,115]) rfl rfl) rfl fun _ K=>Q5 ?_;show W _ _ _ _ _ _ _;refine YX K rfl (fun h31=>?_) fun h31=>?_
  ·refine Qc 2 K M ?_;intro _ K;exact⟨_,_,(.cons (K _ _ rfl) (.cons (K _ _ rfl) (.cons (K _ _ rfl) (.cons (K _ _ rfl) (.cons (K _ _ rfl) (.cons (K _ _ rfl) (.cons (K _ _ rfl) .nil))))))),M.less (.refl _),(by simp_all),(by simp_all)⟩
  refine QO ?_;exact⟨_,_,(.cons (K _ _ rfl) (.cons (K _ _ rfl) (.cons (K _ _ rfl) (.cons (K _ _ rfl) (.cons (K _ _ rfl) (.cons (K _ _ rfl) (.cons (K _ _ rfl) .nil))))))),M.less (.refl _),(by simp_all),(by simp_all)⟩
 obtain⟨w0,u,K,M,hw0,hu⟩:=hJ;refine X7 (J:=fun T st9=> ∃(w:Int),Jk [(0,kd),(3,.ptr c3 0 0),(4,.int .i64 0),(5,.int .i64 0),(6,.int .i64 0),(8,.int .i64 w),(9,.int .i64 u)] T∧Mem st.h.get st.n [] st9 [(c3,0,[.str o,.str s,.int .i64 z,.int .i64 a,kk])]∧w=(if o=[115,101,116]then 1 else if o=[112,108,117,115]then 1 else 2)) ?_ (fun T st9 hJ=>?_)
 ·refine Qc 2 K M ?_;intro _ K;refine o1 K (QD (b:=[115,101,116]) rfl rfl) rfl fun _ K=>Q5 ?_;show W _ _ _ _ _ _ _;refine YX K rfl (fun h34=>?_) fun h34=>?_
  ·refine Qc 1 K M ?_;intro _ K;exact⟨_,(.cons (K _ _ rfl) (.cons (K _ _ rfl) (.cons (K _ _ rfl) (.cons (K _ _ rfl) (.cons (K _ _ rfl) (.cons (K _ _ rfl) (.cons (K _ _ rfl) .nil))))))),M.less (.refl _),(by simp_all)⟩
  refine QO ?_;exact⟨_,(.cons (K _ _ rfl) (.cons (K _ _ rfl) (.cons (K _ _ rfl) (.cons (K _ _ rfl) (.cons (K _ _ rfl) (.cons (K _ _ rfl) (.cons (K _ _ rfl) .nil))))))),M.less (.refl _),(by simp_all)⟩
 obtain⟨w,K,M,hw⟩:=hJ;refine Qc 1 K M ?_;intro _ K;refine JX (fun mm1 T st9=> ∃(i:Nat),mm1=l.length-i∧Jk [(0,kd),(3,.ptr c3 0 0),(8,.int .i64 w),(9,.int .i64 u),(10,.int .i64 (((i:Nat):Int)))] T∧Mem st.h.get st.n [] st9 [(c3,0,[.str o,.str s,.int .i64 z,.int .i64 a,kk])]∧i≤l.length∧Zn sc (decide (o=[112,108,117,115])) a w l=Zn sc (decide (o=[112,108,117,115])) a w (l.drop i)) (fun mm1 T st9 hI=>?_) _ _ _ ⟨0,rfl,(.cons (K _ _ rfl) (.cons (K _ _ rfl) (.cons (K _ _ rfl) (.cons (K _ _ rfl) (.cons (K _ _ rfl) .nil))))),M.less (.refl _),(Nat.zero_le _),(by rw[List.drop_zero])⟩;obtain⟨i,rfl,K,M,hi,hx⟩:=hI;refine Qc 3 K M ?_;intro _ K;refine o1 K (QP QK rfl rfl hK.len) rfl fun _ K=>?_;refine Qc 1 K M ?_;intro _ K;refine YX K rfl (fun h39=>?_) fun h39=>?_
 ·refine Qc 4 K M ?_;intro _ K;obtain⟨⟨o47,s47,z47,a47,l47⟩,hi47⟩: ∃k,l[i]? =some k:=⟨_,List.getElem?_eq_getElem (by first|omega|(have:=Uq ht (by assumption);omega))⟩;have hm47:=Ub hi47;obtain⟨_,hc47,hn47⟩:=hK.at_ _ _ hi47;have hp47:=hn47;obtain⟨kk47,ls47,rfl,hK47,hb47⟩:=hp47.Ju;obtain⟨x47,m47,f47,q47,_,la47,lo47,lp47⟩:=(hK.r.mem M (by simp)).load (i:=i) (cs:=_) hc47;refine o1 K (Qn (j:=i) QW (congrArg some q47) rfl (by rw[hK.ln];first|omega|(have:=Uq ht (by assumption);omega))) rfl fun _ K=>o1 K (Qq rfl (la47 _ Q8)) rfl fun _ K=>?_;refine oQ K M (ih _ hm47 _ _ M.fresh (Yo.mono M.rows hD) (hn47.mono M.rows) (I1 ht hm47)) rfl rfl fun _ _ K M=>?_;refine Qc 9 K M ?_;intro _ K;refine IU K rfl (fun h54=>?_) fun h54=>?_
  ·refine Qc 5 K M ?_;intro _ K;refine Qd ⟨.inr rfl,_,(JN (QQ K rfl) (QQ K rfl) (QQ K rfl)),?_⟩;refine⟨congrArg kT (a₁:=(0,(Q0 sc (.mk o47 s47 z47 a47 l47)).2.1,(Q0 sc (.mk o47 s47 z47 a47 l47)).2.2)) (a₂:=Q0 sc (.mk o s z a l)) (Eq.symm ?_),M.qt⟩;rw[Fj (by assumption) (by assumption) hw hu,hx,Vq hi47,if_pos (by omega)]
  refine Qc 3 K M ?_;intro _ K;refine IU K rfl (fun h59=>?_) fun h59=>?_
  ·refine Qc 3 K M ?_;intro _ K;obtain⟨⟨o63,s63,z63,a63,l63⟩,hi63⟩: ∃k,l[i]? =some k:=⟨_,List.getElem?_eq_getElem (by first|omega|(have:=Uq ht (by assumption);omega))⟩;have hm63:=Ub hi63;obtain⟨_,hc63,hn63⟩:=hK.at_ _ _ hi63;have hp63:=hn63;obtain⟨kk63,ls63,rfl,hK63,hb63⟩:=hp63.Ju;obtain⟨x63,m63,f63,q63,_,la63,lo63,lp63⟩:=(hK.r.mem M (by simp)).load (i:=i) (cs:=_) hc63;refine o1 K (Qn (j:=i) QW (congrArg some q63) rfl (by rw[hK.ln];first|omega|(have:=Uq ht (by assumption);omega))) rfl fun _ K=>o1 K (Qf Xk rfl) rfl fun _ K=>o1 K (Qq rfl (lo63 _ 3 _ QA rfl)) rfl fun _ K=>o1 K (Qu rfl) rfl fun _ K=>Q5 ?_;show W _ _ _ _ _ _ _;refine X7 (J:=fun T st9=> ∃(pp:Int),Jk [(9,.int .i64 u),(10,.int .i64 (((i:Nat):Int))),(12,.int .i64 pp)] T∧Mem st.h.get st.n [] st9 [(c3,0,[.str o,.str s,.int .i64 z,.int .i64 a,kk])]∧pp=(if o=[112,108,117,115]then a else a47)) ?_ (fun T st9 hJ=>?_)
   ·refine Qc 2 K M ?_;intro _ K;refine o1 K (QD (b:=[112,108,117,115]) rfl rfl) rfl fun _ K=>Q5 ?_;show W _ _ _ _ _ _ _;refine YX K rfl (fun h68=>?_) fun h68=>?_
    ·refine Qc 3 K M ?_;intro _ K;exact⟨_,(.cons (K _ _ rfl) (.cons (K _ _ rfl) (.cons (K _ _ rfl) .nil))),M.less (.refl _),(by first|(simp_all;done)|(cases Option.some.inj (hi47.symm.trans hi63);simp_all))⟩
    refine QO ?_;exact⟨_,(.cons (K _ _ rfl) (.cons (K _ _ rfl) (.cons (K _ _ rfl) .nil))),M.less (.refl _),(by first|(simp_all;done)|(cases Option.some.inj (hi47.symm.trans hi63);simp_all))⟩
   obtain⟨pp,K,M,hp⟩:=hJ;refine Qc 4 K M ?_;intro _ K;refine Qd ⟨.inr rfl,_,(JN (QQ K rfl) (QQ K rfl) (QQ K rfl)),?_⟩;refine⟨congrArg kT (a₁:=(0,pp,7)) (a₂:=Q0 sc (.mk o s z a l)) (Eq.symm ?_),M.qt⟩;rw[Fj (by assumption) (by assumption) hw hu,hx,Vq hi47,if_neg (by omega),if_pos (by omega),hp];show(0,(if decide (o=[112,108,117,115])=true then a else a47),7)=_
   by_cases q:o=[112,108,117,115]
   ·rw[if_pos q,if_pos (decide_eq_true q)]
   ·rw[if_neg q,if_neg (by simp[q])]
  refine Qc 1 K M ?_;intro _ K;refine o1 K (QV rfl rfl (by omega) (by omega)) rfl fun _ K=>o1 K (Qu rfl) rfl fun _ K=>Q5 ?_;exact⟨_,(by omega),i+1,rfl,(.cons (K _ _ rfl) (.cons (K _ _ rfl) (.cons (K _ _ rfl) (.cons (K _ _ rfl) (.cons (K _ _ rfl) .nil))))),M.less (.refl _),(by omega),(by rw[hx,Vq hi47,if_neg (by omega),if_neg (by omega)])⟩
 refine JJ ?_;show W _ _ _ _ _ _ _;refine Qc 4 K M ?_;intro _ K;refine Qd ⟨.inr rfl,_,(JN (QQ K rfl) (QQ K rfl) (QQ K rfl)),?_⟩;refine⟨congrArg kT (a₁:=(u,0,0)) (a₂:=Q0 sc (.mk o s z a l)) (Eq.symm ?_),M.qt⟩;rw[Fj (by assumption) (by assumption) hw hu,hx,Jh (by omega),Zn]
end Go.Proofs.YtadjjadimlkkgaaGreatDoor
