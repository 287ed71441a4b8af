/-
  Size, Depth, IsTerm, IsFormula: the program's answer, the reference's. TreeIs.
-/
import Derived.Test.YtadjjadimlkkgaaGreatDoorKtTrC
namespace Go.Proofs.YtadjjadimlkkgaaGreatDoor
open Go Go.RowKit
set_option maxHeartbeats 8000000
set_option linter.unusedVariables false
set_option linter.unusedSimpArgs false
set_option maxRecDepth 100000

def Yf(x:Nd)(m:Int):Bool:=decide (min ((Fe x:Nat):Int) 2001≤m)&&decide (min ((Nz x:Nat):Int) 31≤30)
theorem Xn(x:List Nat):CG (.str x)=true:=rfl
theorem Xo(k:IntKind)(x:Int):CG (.int k x)=true:=rfl
theorem Z6(b:Bool):CG (.bool b)=true:=rfl
theorem RT{o s:List Nat}{z a:Int}{l:List Nd}{st:St}{cs:List AV}(hf:Q3 st)(hr:YW st.h.get (.mk o s z a l) cs): ∃v st',Ev Tryz.prog Jg 150 [.agg cs] st v st'∧v=.int .i64 (min ((Fe (.mk o s z a l):Nat):Int) 2001)∧Qt st st':=by
 have hr0:=hr;obtain⟨kk,ls,rfl,hK,hb⟩:=hr.Ju;have hln:=hK.ln;have hbn:=hK.Yx;refine QG rfl Tryz.func150 rfl Tryz.ntmps150 rfl fun T hT=>?_;have K:Jk [(0,_)] T:=(.cons (hT 0) .nil);have M:=Mem.start hf;refine Qw<|Qi ?_;refine JL K M rfl (Qa rfl (Qa rfl (Qa rfl (Qa rfl (Qa hK.cell QE))))) (by decide) fun c1 _ _ K M=>?_;refine Qc 2 K M ?_;intro _ K;refine oQ K M (M0 _ 2001 _ _ M.fresh (hr0.mono M.rows) (by decide) (by decide)) rfl rfl fun _ _ K M=>?_;refine Qc 1 K M ?_;intro _ K;refine Qd ⟨.inr rfl,_,J7 K rfl,?_⟩;exact⟨rfl,M.qt⟩

theorem Le{o s:List Nat}{z a:Int}{l:List Nd}{st:St}{cs:List AV}(hf:Q3 st)(hr:YW st.h.get (.mk o s z a l) cs): ∃v st',Ev Tryz.prog Jg 21 [.agg cs] st v st'∧v=.int .i64 (min ((Fe (.mk o s z a l):Nat):Int) 2001)∧Qt st st':=by
 have hr0:=hr;obtain⟨kk,ls,rfl,hK,hb⟩:=hr.Ju;have hln:=hK.ln;have hbn:=hK.Yx;refine QG rfl Tryz.func21 rfl Tryz.ntmps21 rfl fun T hT=>?_;have K:Jk [(0,_)] T:=(.cons (hT 0) .nil);have M:=Mem.start hf;refine Qw<|Qi ?_;refine JL K M rfl (Qa rfl (Qa rfl (Qa rfl (Qa rfl (Qa hK.cell QE))))) (by decide) fun c1 _ _ K M=>?_;refine Qc 2 K M ?_;intro _ K;refine oQ K M (Ro _ 2001 _ _ M.fresh (hr0.mono M.rows) (by decide) (by decide)) rfl rfl fun _ _ K M=>?_;refine Qc 1 K M ?_;intro _ K;refine Qd ⟨.inr rfl,_,J7 K rfl,?_⟩;exact⟨rfl,M.qt⟩

theorem Pf{o s:List Nat}{z a:Int}{l:List Nd}{st:St}{cs:List AV}(hf:Q3 st)(hr:YW st.h.get (.mk o s z a l) cs): ∃v st',Ev Tryz.prog Jg 162 [.agg cs] st v st'∧v=.int .i64 (min ((Nz (.mk o s z a l):Nat):Int) 31)∧Qt st st':=by
 have hr0:=hr;obtain⟨kk,ls,rfl,hK,hb⟩:=hr.Ju;have hln:=hK.ln;have hbn:=hK.Yx;refine QG rfl Tryz.func162 rfl Tryz.ntmps162 rfl fun T hT=>?_;have K:Jk [(0,_)] T:=(.cons (hT 0) .nil);have M:=Mem.start hf;refine Qw<|Qi ?_;refine JL K M rfl (Qa rfl (Qa rfl (Qa rfl (Qa rfl (Qa hK.cell QE))))) (by decide) fun c1 _ _ K M=>?_;refine Qc 2 K M ?_;intro _ K;refine oQ K M (TG _ 31 _ _ M.fresh (hr0.mono M.rows) (by decide) (by decide)) rfl rfl fun _ _ K M=>?_;refine Qc 1 K M ?_;intro _ K;refine Qd ⟨.inr rfl,_,J7 K rfl,?_⟩;exact⟨rfl,M.qt⟩

theorem I6{o s:List Nat}{z a:Int}{l:List Nd}{st:St}{cs:List AV}(hf:Q3 st)(hr:YW st.h.get (.mk o s z a l) cs): ∃v st',Ev Tryz.prog Jg 22 [.agg cs] st v st'∧v=.int .i64 (min ((Nz (.mk o s z a l):Nat):Int) 31)∧Qt st st':=by
 have hr0:=hr;obtain⟨kk,ls,rfl,hK,hb⟩:=hr.Ju;have hln:=hK.ln;have hbn:=hK.Yx;refine QG rfl Tryz.func22 rfl Tryz.ntmps22 rfl fun T hT=>?_;have K:Jk [(0,_)] T:=(.cons (hT 0) .nil);have M:=Mem.start hf;refine Qw<|Qi ?_;refine JL K M rfl (Qa rfl (Qa rfl (Qa rfl (Qa rfl (Qa hK.cell QE))))) (by decide) fun c1 _ _ K M=>?_;refine Qc 2 K M ?_;intro _ K;refine oQ K M (TH _ 31 _ _ M.fresh (hr0.mono M.rows) (by decide) (by decide)) rfl rfl fun _ _ K M=>?_;refine Qc 1 K M ?_;intro _ K;refine Qd ⟨.inr rfl,_,J7 K rfl,?_⟩;exact⟨rfl,M.qt⟩

theorem jI{o s:List Nat}{z a:Int}{l:List Nd}{st:St}{cs:List AV}(hf:Q3 st)(hr:YW st.h.get (.mk o s z a l) cs): ∃v st',Ev Tryz.prog Jg 103 [.agg cs] st v st'∧v=.bool (Yf (.mk o s z a l) 2000)∧Qt st st':=by
 have hr0:=hr;obtain⟨kk,ls,rfl,hK,hb⟩:=hr.Ju;have hln:=hK.ln;have hbn:=hK.Yx;refine QG rfl Tryz.func103 rfl Tryz.ntmps103 rfl fun T hT=>?_;have K:Jk [(0,_)] T:=(.cons (hT 0) .nil);have M:=Mem.start hf;refine Qw<|Qi ?_;refine JL K M rfl (Qa rfl (Qa rfl (Qa rfl (Qa rfl (Qa hK.cell QE))))) (by decide) fun c1 _ _ K M=>?_;refine Qc 2 K M ?_;intro _ K;refine oQ K M (RT M.fresh (hr0.mono M.rows)) rfl rfl fun _ _ K M=>?_;refine o1 K (OH rfl rfl) rfl fun _ K=>?_;refine oB K (Qb rfl) rfl fun b6 _ e6 K=>?_;cases b6
 ·replace e6:=of_decide_eq_false e6;refine Qc 5 K M ?_;intro _ K;refine Qd ⟨.inr rfl,_,J7 K rfl,?_⟩;refine⟨congrArg AV.bool ?_,M.qt⟩;rw[Yf]
  simp_all<;>(intros;omega)
 replace e6:=of_decide_eq_true e6;refine Qc 1 K M ?_;intro _ K;obtain⟨v8,st8,ev8,rfl,q8⟩:=Pf M.fresh (hr0.mono M.rows);refine og K rfl rfl (Qg rfl ev8) rfl fun _ K=>?_;replace M:=M.quiet q8;refine Qc 3 K M ?_;intro _ K;refine Qd ⟨.inr rfl,_,J7 K rfl,?_⟩;refine⟨congrArg AV.bool ?_,M.qt⟩;rw[Yf]
 simp_all<;>(intros;omega)

theorem RW{o s:List Nat}{z a:Int}{l:List Nd}{st:St}{cs:List AV}(hf:Q3 st)(hr:YW st.h.get (.mk o s z a l) cs): ∃v st',Ev Tryz.prog Jg 66 [.agg cs] st v st'∧v=.bool (Yf (.mk o s z a l) 2000)∧Qt st st':=by
 have hr0:=hr;obtain⟨kk,ls,rfl,hK,hb⟩:=hr.Ju;have hln:=hK.ln;have hbn:=hK.Yx;refine QG rfl Tryz.func66 rfl Tryz.ntmps66 rfl fun T hT=>?_;have K:Jk [(0,_)] T:=(.cons (hT 0) .nil);have M:=Mem.start hf;refine Qw<|Qi ?_;refine JL K M rfl (Qa rfl (Qa rfl (Qa rfl (Qa rfl (Qa hK.cell QE))))) (by decide) fun c1 _ _ K M=>?_;refine Qc 2 K M ?_;intro _ K;refine oQ K M (I6 M.fresh (hr0.mono M.rows)) rfl rfl fun _ _ K M=>?_;refine o1 K (OH rfl rfl) rfl fun _ K=>?_;refine oB K (Qb rfl) rfl fun b6 _ e6 K=>?_;cases b6
 ·replace e6:=of_decide_eq_false e6;refine Qc 5 K M ?_;intro _ K;refine Qd ⟨.inr rfl,_,J7 K rfl,?_⟩;refine⟨congrArg AV.bool ?_,M.qt⟩;rw[Yf]
  simp_all<;>(intros;omega)
 replace e6:=of_decide_eq_true e6;refine Qc 1 K M ?_;intro _ K;obtain⟨v8,st8,ev8,rfl,q8⟩:=Le M.fresh (hr0.mono M.rows);refine og K rfl rfl (Qg rfl ev8) rfl fun _ K=>?_;replace M:=M.quiet q8;refine Qc 3 K M ?_;intro _ K;refine Qd ⟨.inr rfl,_,J7 K rfl,?_⟩;refine⟨congrArg AV.bool ?_,M.qt⟩;rw[Yf]
 simp_all<;>(intros;omega)

theorem F5{o s:List Nat}{z a:Int}{l:List Nd}{st:St}{cs:List AV}(hf:Q3 st)(hr:YW st.h.get (.mk o s z a l) cs): ∃v st',Ev Tryz.prog Jg 59 [.agg cs] st v st'∧v=.bool (Yf (.mk o s z a l) 2000&&Jm (.mk o s z a l))∧Qt st st':=by
 have hr0:=hr;obtain⟨kk,ls,rfl,hK,hb⟩:=hr.Ju;have hln:=hK.ln;have hbn:=hK.Yx;refine QG rfl Tryz.func59 rfl Tryz.ntmps59 rfl fun T hT=>?_;have K:Jk [(0,_)] T:=(.cons (hT 0) .nil);have M:=Mem.start hf;refine Qw<|Qi ?_;refine JL K M rfl (Qa rfl (Qa rfl (Qa rfl (Qa rfl (Qa hK.cell QE))))) (by decide) fun c1 _ _ K M=>?_;refine Qc 2 K M ?_;intro _ K;refine oQ K M (jI M.fresh (hr0.mono M.rows)) rfl rfl fun _ _ K M=>?_;refine oB K (Qb rfl) rfl fun b5 _ e5 K=>?_;cases b5
 ·refine Qc 4 K M ?_;intro _ K;refine Qd ⟨.inr rfl,_,J7 K rfl,?_⟩;refine⟨congrArg AV.bool ?_,M.qt⟩
  simp_all
 refine Qc 1 K M ?_;intro _ K;obtain⟨v7,st7,ev7,rfl,q7⟩:=OQ _ _ _ M.fresh (hr0.mono M.rows);refine og K rfl rfl (Qg rfl ev7) rfl fun _ K=>?_;replace M:=M.quiet q7;refine Qc 2 K M ?_;intro _ K;refine Qd ⟨.inr rfl,_,J7 K rfl,?_⟩;refine⟨congrArg AV.bool ?_,M.qt⟩
 simp_all

theorem F8{o s:List Nat}{z a:Int}{l:List Nd}{st:St}{cs:List AV}(hf:Q3 st)(hr:YW st.h.get (.mk o s z a l) cs): ∃v st',Ev Tryz.prog Jg 28 [.agg cs] st v st'∧v=.bool (Yf (.mk o s z a l) 2000&&Jm (.mk o s z a l))∧Qt st st':=by
 have hr0:=hr;obtain⟨kk,ls,rfl,hK,hb⟩:=hr.Ju;have hln:=hK.ln;have hbn:=hK.Yx;refine QG rfl Tryz.func28 rfl Tryz.ntmps28 rfl fun T hT=>?_;have K:Jk [(0,_)] T:=(.cons (hT 0) .nil);have M:=Mem.start hf;refine Qw<|Qi ?_;refine JL K M rfl (Qa rfl (Qa rfl (Qa rfl (Qa rfl (Qa hK.cell QE))))) (by decide) fun c1 _ _ K M=>?_;refine Qc 2 K M ?_;intro _ K;refine oQ K M (RW M.fresh (hr0.mono M.rows)) rfl rfl fun _ _ K M=>?_;refine oB K (Qb rfl) rfl fun b5 _ e5 K=>?_;cases b5
 ·refine Qc 4 K M ?_;intro _ K;refine Qd ⟨.inr rfl,_,J7 K rfl,?_⟩;refine⟨congrArg AV.bool ?_,M.qt⟩
  simp_all
 refine Qc 1 K M ?_;intro _ K;obtain⟨v7,st7,ev7,rfl,q7⟩:=Sp _ _ _ M.fresh (hr0.mono M.rows);refine og K rfl rfl (Qg rfl ev7) rfl fun _ K=>?_;replace M:=M.quiet q7;refine Qc 2 K M ?_;intro _ K;refine Qd ⟨.inr rfl,_,J7 K rfl,?_⟩;refine⟨congrArg AV.bool ?_,M.qt⟩
 simp_all

end Go.Proofs.YtadjjadimlkkgaaGreatDoor
