/-
  Atoms: which machine is an atom's; its automaton.
-/
import Derived.Test.YtiknomepbklibaaGreatDoorFzAtm
namespace Go.Proofs.YtiknomepbklibaaGreatDoor
open Go Go.RowKit
set_option maxHeartbeats 8000000
set_option linter.unusedVariables false
set_option linter.unusedSimpArgs false
set_option linter.unnecessarySimpa false
set_option linter.unusedSectionVars false
set_option maxRecDepth 100000
variable {c1 n:Nat} {st:St}

theorem Rq(hf:Qj st)(n:Nat)(hn:n≤20): ∃v st',Ev Tryz.prog Q4 169 [iN n] st v st'∧ ∃c1 c3,v=.agg [.fn 175 [] [.ptr c1 0 0,.ptr c3 0 0],iZ (n+1:Nat),iZ (n+2:Nat)]∧Q0 st'.h.get c1 0 [iN n]∧Q0 st'.h.get c3 0 [iZ (n+1:Nat)]∧st.n≤c1∧st.n≤c3∧c1≠c3∧Qt st st':=by
 refine JF Tryz.func169 Tryz.ntmps169 fun T K=>?_;have M:=Mem.start hf;refine au 6 K M ?_;intro c1 c2 c3 _ _ K _ M;refine p1 K (Xt rfl rfl) fun _ K=>?_;refine au 5 K M ?_;intro _ _ K _ M;refine Qc 0 K M ?_;have hnd:=M.nodup;simp at hnd;exact⟨c1,c3,rfl,M.UX (k:=2) rfl,M.UX (k:=0) rfl,M.qS (k:=2) rfl,M.qS (k:=0) rfl,by omega,M.qt⟩

theorem TN(hf:Qj st)(n:Nat)(hn:n≤20): ∃v st',Ev Tryz.prog Q4 170 [iN n] st v st'∧ ∃c1 c3,v=.agg [.fn 176 [] [.ptr c3 0 0,.ptr c1 0 0],iZ (n+1:Nat),iZ (n+2:Nat)]∧Q0 st'.h.get c1 0 [iN n]∧Q0 st'.h.get c3 0 [iZ (n+1:Nat)]∧st.n≤c1∧st.n≤c3∧c1≠c3∧Qt st st':=by
 refine JF Tryz.func170 Tryz.ntmps170 fun T K=>?_;have M:=Mem.start hf;refine au 6 K M ?_;intro c1 c2 c3 _ _ K _ M;refine p1 K (Xt rfl rfl) fun _ K=>?_;refine au 5 K M ?_;intro _ _ K _ M;refine Qc 0 K M ?_;have hnd:=M.nodup;simp at hnd;exact⟨c1,c3,rfl,M.UX (k:=2) rfl,M.UX (k:=0) rfl,M.qS (k:=2) rfl,M.qS (k:=0) rfl,by omega,M.qt⟩

theorem Py(hf:Qj st)(hr:Q0 st.h.get c1 0 [.fn 160 [] []]):FU st 174 [.ptr c1 0 0] [116,114,117,101] n:=fun st1 q s x y z hs=>by
 obtain⟨v,st2,h1,h2,h3⟩:=Ww q.fresh (hr.later hf q) vF ((s:Nat):Int) x y z;refine⟨v,st2,h1,?_,h3⟩
 have e:Jn [116,114,117,101] n s x y z=(if(true)=true then 0 else-1):=by
  unfold Jn;rw[if_pos rfl];rfl
 rw[h2,e]

theorem Px(hf:Qj st)(hr:Q0 st.h.get c1 0 [.fn 161 [] []]):FU st 174 [.ptr c1 0 0] [115,117,98] n:=fun st1 q s x y z hs=>by
 obtain⟨v,st2,h1,h2,h3⟩:=Ww q.fresh (hr.later hf q) vD ((s:Nat):Int) x y z;refine⟨v,st2,h1,?_,h3⟩
 have e:Jn [115,117,98] n s x y z=(if((!x||y))=true then 0 else-1):=by
  unfold Jn;rw[if_neg QE,if_pos rfl]
 rw[h2,e]

theorem Pw(hf:Qj st)(hr:Q0 st.h.get c1 0 [.fn 162 [] []]):FU st 174 [.ptr c1 0 0] [110,111,110,101] n:=fun st1 q s x y z hs=>by
 obtain⟨v,st2,h1,h2,h3⟩:=Ww q.fresh (hr.later hf q) vB ((s:Nat):Int) x y z;refine⟨v,st2,h1,?_,h3⟩
 have e:Jn [110,111,110,101] n s x y z=(if((!x))=true then 0 else-1):=by
  unfold Jn;rw[if_neg QE,if_neg QE,if_pos rfl]
 rw[h2,e]

theorem Pv(hf:Qj st)(hr:Q0 st.h.get c1 0 [.fn 163 [] []]):FU st 174 [.ptr c1 0 0] [117,110,105,111,110] n:=fun st1 q s x y z hs=>by
 obtain⟨v,st2,h1,h2,h3⟩:=Ww q.fresh (hr.later hf q) v7 ((s:Nat):Int) x y z;refine⟨v,st2,h1,?_,h3⟩
 have e:Jn [117,110,105,111,110] n s x y z=(if((z==(x||y)))=true then 0 else-1):=by
  unfold Jn;rw[if_neg QE,if_neg QE,if_neg QE,if_pos rfl]
 rw[h2,e]

theorem Pu(hf:Qj st)(hr:Q0 st.h.get c1 0 [.fn 164 [] []]):FU st 174 [.ptr c1 0 0] [105,110,116,101,114] n:=fun st1 q s x y z hs=>by
 obtain⟨v,st2,h1,h2,h3⟩:=Ww q.fresh (hr.later hf q) vy ((s:Nat):Int) x y z;refine⟨v,st2,h1,?_,h3⟩
 have e:Jn [105,110,116,101,114] n s x y z=(if((z==(x&&y)))=true then 0 else-1):=by
  unfold Jn;rw[if_neg QE,if_neg QE,if_neg QE,if_neg QE,if_pos rfl]
 rw[h2,e]

theorem Pt(hf:Qj st)(hr:Q0 st.h.get c1 0 [.fn 165 [] []]):FU st 174 [.ptr c1 0 0] [109,105,110,117,115] n:=fun st1 q s x y z hs=>by
 obtain⟨v,st2,h1,h2,h3⟩:=Ww q.fresh (hr.later hf q) vw ((s:Nat):Int) x y z;refine⟨v,st2,h1,?_,h3⟩
 have e:Jn [109,105,110,117,115] n s x y z=(if((z==(x&& !y)))=true then 0 else-1):=by
  unfold Jn;rw[if_neg QE,if_neg QE,if_neg QE,if_neg QE,if_neg QE,if_pos rfl]
 rw[h2,e]

theorem MJ{R:Aq}(hf:Qj st)(hR:YJ R st.h.get){o:List Nat}{an bn gn nn:Nat}{l:List Cr}{cs:List AV}(hr:XN R (.mk o ((an:Nat):Int) ((bn:Nat):Int) ((gn:Nat):Int) ((nn:Nat):Int) l) cs)(hat:Wl o)(hn:nn≤20): ∃v st',Ev Tryz.prog Q4 138 [.agg cs] st v st'∧ ∃f fc,v=.tup [.agg [.fn f [] fc,iZ (QQ o nn:Nat),iZ (Qp o nn:Nat)],.bool true]∧FU st' f fc o nn∧KD (.fn f [] fc) (.fn f [] fc)=true∧Qt st st':=by
 have hr0:=hr;obtain⟨kc,ls,rfl,hK⟩:=hr.Yt;have hln:=hK.ln;have hbn:=hK.Ew;refine JF Tryz.func138 Tryz.ntmps138 fun T K=>?_;have M:=Mem.start hf;refine QC<|Qv ?_;refine Jt K M rfl (Qb rfl (Qb rfl (Qb rfl (Qb rfl (Qb rfl (Qb hK.cell Q7)))))) QE fun c1 _ _ K M=>?_;refine au 4 K M ?_;intro c2 _ _ K _ M;refine p1 K (Jk (b:=[116,114,117,101]) rfl rfl) fun _ K=>?_;refine Qc 1 K M ?_;intro _ K;refine JP K rfl (fun h6=>?_) fun h6=>?_
 ·refine QC<|Qv ?_;obtain⟨v8,st8,ev8,c9,rfl,hr1,hn1,q8⟩:=A8 M.fresh 160;refine p1 K (Qh rfl ev8) fun _ K=>?_;replace M:=M.XB q8 hr1 hn1;refine au 2 K M ?_;intro _ _ K _ M;refine Jx ⟨.inr rfl,_,(JZ (JD K rfl (M.load (k:=0) rfl (QL Jq rfl))) (Q9 K rfl)),?_⟩
  have ho:o=[116,114,117,101]:=by assumption
  subst ho
  have hlp:QQ [116,114,117,101] nn=0:=by simp[QQ]
  refine⟨174,[.ptr c9 0 0],?_,?_,AH _ _,M.qt⟩
  ·rw[show Qp [116,114,117,101] nn=0+1 from congrArg (· +1) hlp,hlp];try rfl
  ·exact Py M.fresh (M.UX (k:=2) rfl)
 refine QC<|Qv<|p1 K (Jk (b:=[115,117,98]) rfl rfl) fun _ K=>?_;refine Qc 1 K M ?_;intro _ K;refine JP K rfl (fun h9=>?_) fun h9=>?_
 ·refine QC<|Qv ?_;obtain⟨v11,st11,ev11,c9,rfl,hr1,hn1,q11⟩:=A8 M.fresh 161;refine p1 K (Qh rfl ev11) fun _ K=>?_;replace M:=M.XB q11 hr1 hn1;refine au 2 K M ?_;intro _ _ K _ M;refine Jx ⟨.inr rfl,_,(JZ (JD K rfl (M.load (k:=0) rfl (QL Jq rfl))) (Q9 K rfl)),?_⟩
  have ho:o=[115,117,98]:=by assumption
  subst ho
  have hlp:QQ [115,117,98] nn=0:=by simp[QQ]
  refine⟨174,[.ptr c9 0 0],?_,?_,AH _ _,M.qt⟩
  ·rw[show Qp [115,117,98] nn=0+1 from congrArg (· +1) hlp,hlp];try rfl
  ·exact Px M.fresh (M.UX (k:=2) rfl)
 refine QC<|Qv<|p1 K (Jk (b:=[110,111,110,101]) rfl rfl) fun _ K=>?_;refine Qc 1 K M ?_;intro _ K;refine JP K rfl (fun h12=>?_) fun h12=>?_
 ·refine QC<|Qv ?_;obtain⟨v14,st14,ev14,c9,rfl,hr1,hn1,q14⟩:=A8 M.fresh 162;refine p1 K (Qh rfl ev14) fun _ K=>?_;replace M:=M.XB q14 hr1 hn1;refine au 2 K M ?_;intro _ _ K _ M;refine Jx ⟨.inr rfl,_,(JZ (JD K rfl (M.load (k:=0) rfl (QL Jq rfl))) (Q9 K rfl)),?_⟩
  have ho:o=[110,111,110,101]:=by assumption
  subst ho
  have hlp:QQ [110,111,110,101] nn=0:=by simp[QQ]
  refine⟨174,[.ptr c9 0 0],?_,?_,AH _ _,M.qt⟩
  ·rw[show Qp [110,111,110,101] nn=0+1 from congrArg (· +1) hlp,hlp];try rfl
  ·exact Pw M.fresh (M.UX (k:=2) rfl)
 refine QC<|Qv<|p1 K (Jk (b:=[117,110,105,111,110]) rfl rfl) fun _ K=>?_;refine Qc 1 K M ?_;intro _ K;refine JP K rfl (fun h15=>?_) fun h15=>?_
 ·refine QC<|Qv ?_;obtain⟨v17,st17,ev17,c9,rfl,hr1,hn1,q17⟩:=A8 M.fresh 163;refine p1 K (Qh rfl ev17) fun _ K=>?_;replace M:=M.XB q17 hr1 hn1;refine au 2 K M ?_;intro _ _ K _ M;refine Jx ⟨.inr rfl,_,(JZ (JD K rfl (M.load (k:=0) rfl (QL Jq rfl))) (Q9 K rfl)),?_⟩
  have ho:o=[117,110,105,111,110]:=by assumption
  subst ho
  have hlp:QQ [117,110,105,111,110] nn=0:=by simp[QQ]
  refine⟨174,[.ptr c9 0 0],?_,?_,AH _ _,M.qt⟩
  ·rw[show Qp [117,110,105,111,110] nn=0+1 from congrArg (· +1) hlp,hlp];try rfl
  ·exact Pv M.fresh (M.UX (k:=2) rfl)
 refine QC<|Qv<|p1 K (Jk (b:=[105,110,116,101,114]) rfl rfl) fun _ K=>?_;refine Qc 1 K M ?_;intro _ K;refine JP K rfl (fun h18=>?_) fun h18=>?_
 ·refine QC<|Qv ?_;obtain⟨v20,st20,ev20,c9,rfl,hr1,hn1,q20⟩:=A8 M.fresh 164;refine p1 K (Qh rfl ev20) fun _ K=>?_;replace M:=M.XB q20 hr1 hn1;refine au 2 K M ?_;intro _ _ K _ M;refine Jx ⟨.inr rfl,_,(JZ (JD K rfl (M.load (k:=0) rfl (QL Jq rfl))) (Q9 K rfl)),?_⟩
  have ho:o=[105,110,116,101,114]:=by assumption
  subst ho
  have hlp:QQ [105,110,116,101,114] nn=0:=by simp[QQ]
  refine⟨174,[.ptr c9 0 0],?_,?_,AH _ _,M.qt⟩
  ·rw[show Qp [105,110,116,101,114] nn=0+1 from congrArg (· +1) hlp,hlp];try rfl
  ·exact Pu M.fresh (M.UX (k:=2) rfl)
 refine QC<|Qv<|p1 K (Jk (b:=[109,105,110,117,115]) rfl rfl) fun _ K=>?_;refine Qc 1 K M ?_;intro _ K;refine JP K rfl (fun h21=>?_) fun h21=>?_
 ·refine QC<|Qv ?_;obtain⟨v23,st23,ev23,c9,rfl,hr1,hn1,q23⟩:=A8 M.fresh 165;refine p1 K (Qh rfl ev23) fun _ K=>?_;replace M:=M.XB q23 hr1 hn1;refine au 2 K M ?_;intro _ _ K _ M;refine Jx ⟨.inr rfl,_,(JZ (JD K rfl (M.load (k:=0) rfl (QL Jq rfl))) (Q9 K rfl)),?_⟩
  have ho:o=[109,105,110,117,115]:=by assumption
  subst ho
  have hlp:QQ [109,105,110,117,115] nn=0:=by simp[QQ]
  refine⟨174,[.ptr c9 0 0],?_,?_,AH _ _,M.qt⟩
  ·rw[show Qp [109,105,110,117,115] nn=0+1 from congrArg (· +1) hlp,hlp];try rfl
  ·exact Pt M.fresh (M.UX (k:=2) rfl)
 refine QC<|Qv<|p1 K (Jk (b:=[115,105,110,103]) rfl rfl) fun _ K=>?_;refine Qc 1 K M ?_;intro _ K;refine JP K rfl (fun h24=>?_) fun h24=>?_
 ·refine au 3 K M ?_;intro _ _ K _ M;refine Jx ⟨.inr rfl,_,(JZ (JD K rfl (M.load (k:=0) rfl (QL Jq rfl))) (Q9 K rfl)),?_⟩
  have ho:o=[115,105,110,103]:=by assumption
  subst ho
  have hlp:QQ [115,105,110,103] nn=1:=by simp[QQ]
  refine⟨166,[],?_,?_,B8 _,M.qt⟩
  ·rw[show Qp [115,105,110,103] nn=1+1 from congrArg (· +1) hlp,hlp];try rfl
  ·exact fun st1 q s x y z hs=>Tu q.fresh nn s x y z hs
 refine QC<|Qv<|p1 K (Jk (b:=[102,108,97,103]) rfl rfl) fun _ K=>?_;refine Qc 1 K M ?_;intro _ K;refine JP K rfl (fun h27=>?_) fun h27=>?_
 ·refine au 3 K M ?_;intro _ _ K _ M;refine Jx ⟨.inr rfl,_,(JZ (JD K rfl (M.load (k:=0) rfl (QL Jq rfl))) (Q9 K rfl)),?_⟩
  have ho:o=[102,108,97,103]:=by assumption
  subst ho
  have hlp:QQ [102,108,97,103] nn=1:=by simp[QQ]
  refine⟨167,[],?_,?_,B8 _,M.qt⟩
  ·rw[show Qp [102,108,97,103] nn=1+1 from congrArg (· +1) hlp,hlp];try rfl
  ·exact fun st1 q s x y z hs=>ud q.fresh nn s x y z hs
 refine QC<|Qv<|p1 K (Jk (b:=[108,101,115,115]) rfl rfl) fun _ K=>?_;refine Qc 1 K M ?_;intro _ K;refine JP K rfl (fun h30=>?_) fun h30=>?_
 ·refine au 3 K M ?_;intro _ _ K _ M;refine Jx ⟨.inr rfl,_,(JZ (JD K rfl (M.load (k:=0) rfl (QL Jq rfl))) (Q9 K rfl)),?_⟩
  have ho:o=[108,101,115,115]:=by assumption
  subst ho
  have hlp:QQ [108,101,115,115] nn=2:=by simp[QQ]
  refine⟨168,[],?_,?_,B8 _,M.qt⟩
  ·rw[show Qp [108,101,115,115] nn=2+1 from congrArg (· +1) hlp,hlp];try rfl
  ·exact fun st1 q s x y z hs=>jG q.fresh nn s x y z hs
 refine QC<|Qv<|p1 K (Jk (b:=[112,108,117,115]) rfl rfl) fun _ K=>?_;refine Qc 1 K M ?_;intro _ K;refine JP K rfl (fun h33=>?_) fun h33=>?_
 ·refine Qc 2 K M ?_;intro _ K;obtain⟨v37,st37,ev37,c8,c9,rfl,hr1,hr3,hn1,hn3,hne,q37⟩:=Rq M.fresh nn hn;refine p1 K (Qh rfl ev37) fun _ K=>?_;replace M:=M.DK q37 hr1 hr3 hn1 hn3 hne;refine au 2 K M ?_;intro _ _ K _ M;refine Jx ⟨.inr rfl,_,(JZ (JD K rfl (M.load (k:=0) rfl (QL Jq rfl))) (Q9 K rfl)),?_⟩
  have ho:o=[112,108,117,115]:=by assumption
  subst ho
  have hlp:QQ [112,108,117,115] nn=nn+1:=by simp[QQ]
  refine⟨175,[.ptr c8 0 0,.ptr c9 0 0],?_,?_,B7 _ _ _,M.qt⟩
  ·rw[show Qp [112,108,117,115] nn=nn+1+1 from congrArg (· +1) hlp,hlp];try rfl
  ·exact fun st1 q s x y z hs=>D9 q.fresh nn s x y z hs hn ((M.UX (k:=2) rfl).later M.fresh q) ((M.UX (k:=3) rfl).later M.fresh q)
 refine QC<|Qv<|p1 K (Jk (b:=[110,117,109]) rfl rfl) fun _ K=>?_;refine Qc 1 K M ?_;intro _ K;refine JP K rfl (fun h38=>?_) fun h38=>?_
 ·refine Qc 2 K M ?_;intro _ K;obtain⟨v42,st42,ev42,c8,c9,rfl,hr1,hr3,hn1,hn3,hne,q42⟩:=TN M.fresh nn hn;refine p1 K (Qh rfl ev42) fun _ K=>?_;replace M:=M.DK q42 hr1 hr3 hn1 hn3 hne;refine au 2 K M ?_;intro _ _ K _ M;refine Jx ⟨.inr rfl,_,(JZ (JD K rfl (M.load (k:=0) rfl (QL Jq rfl))) (Q9 K rfl)),?_⟩
  have ho:o=[110,117,109]:=by assumption
  subst ho
  have hlp:QQ [110,117,109] nn=nn+1:=by simp[QQ]
  refine⟨176,[.ptr c9 0 0,.ptr c8 0 0],?_,?_,B7 _ _ _,M.qt⟩
  ·rw[show Qp [110,117,109] nn=nn+1+1 from congrArg (· +1) hlp,hlp];try rfl
  ·exact fun st1 q s x y z hs=>PN q.fresh nn s x y z hs hn ((M.UX (k:=2) rfl).later M.fresh q) ((M.UX (k:=3) rfl).later M.fresh q)
 refine au 3 K M ?_;intro _ _ K _ M;refine Jx ⟨.inr rfl,_,(JZ (JD K rfl (M.load (k:=0) rfl (QL Jq rfl))) (Q9 K rfl)),?_⟩
 exfalso
 unfold Wl at hat
 simp_all

theorem ND(hf:Qj st){c11 l v1:Nat}(hr:Q0 st.h.get c11 0 [iN l])(hl:l≤64)(hv:v1≤6): ∃v st',Ev Tryz.prog Q4 139 [iN v1,.ptr c11 0 0] st v st'∧v=.bool (YE l v1)∧Qt st st':=by
 refine JF Tryz.func139 Tryz.ntmps139 fun T K=>?_;have M:=Mem.start hf;refine Qc 1 K M ?_;intro _ K;refine p1 K (Qd rfl (Qz (M.JG QA hr.Jd) (Qf Qr rfl))) fun _ K=>?_;refine Qc 1 K M ?_;intro _ K;refine p1 K (Xs (a:=l) (n:=v1) rfl rfl Qe) fun _ K=>p1 K (Xu (a:=(l/2^v1)) rfl rfl (Nat.le_trans (Nat.div_le_self _ _) Qe)) fun _ K=>?_;refine Qc 2 K M ?_;exact⟨rfl,M.qt⟩

theorem wq {R : Aq} (hf : Qj st) (hR : YJ R st.h.get) {o : List Nat} {an bn gn nn k : Nat} {l : List Cr} {cs : List AV} (hr : XN R (.mk o ((an : Nat) : Int) ((bn : Nat) : Int) ((gn : Nat) : Int) ((nn : Nat) : Int) l) cs) (hat : Wl o) (hn : nn ≤ 20) (ha6 : an ≤ 6) (hb6 : bn ≤ 6) (hg6 : gn ≤ 6) (hk6 : k ≤ 6) (hsz : XE (.mk o ((an : Nat) : Int) ((bn : Nat) : Int) ((gn : Nat) : Int) ((nn : Nat) : Int) l) ≤ 2000) (hc : Jm (.mk o ((an : Nat) : Int) ((bn : Nat) : Int) ((gn : Nat) : Int) ((nn : Nat) : Int) l) ((k : Nat) : Int) = true) : ∃ v st', Ev Tryz.prog Q4 110 [.agg cs, iN k] st v st' ∧ ∃ dp F m, v = .tup [.ptr dp 0 0, iZ 0] ∧ Ub (Xf o an bn gn nn k) m ∧ UY st' F dp m ∧ ZJ st st' F ∧ Qt st st' := by
 have hr0 := hr;obtain ⟨kc, ls, rfl, hK⟩ := hr.Yt;have hln := hK.ln;have hbn := hK.Ew;have hp6 := JE hk6;have hll := ES (o := o) nn hn;have hsp : Qp o nn = QQ o nn + 1 := rfl;refine JF Tryz.func110 Tryz.ntmps110 fun T K => ?_;have M := Mem.start hf;refine QC <| Qv ?_;refine Jt K M rfl (Qb rfl (Qb rfl (Qb rfl (Qb rfl (Qb rfl (Qb hK.cell Q7)))))) QE fun c2 _ _ K M => ?_;refine Qc 3 K M ?_;intro _ K;obtain ⟨v18, st18, ev18, f, fc, rfl, hmach, hfe, q18⟩ := MJ M.fresh (M.YJ hR) hr0 hat hn;refine p1 K (Qh rfl ev18) fun _ K => ?_;replace M := M.quiet q18;have hq0 := M.qt; have hc2 := M.UX (k := 0) rfl; have hfm := M.fresh;replace hR := M.YJ hR;obtain ⟨st, rfl⟩ : ∃ s : St, s = st18 := ⟨_, rfl⟩;have B := Qk.start hfm;replace M := B.mem;refine au 9 K M ?_;intro c6 _ _ K _ M;refine pg K rfl rfl (Qd rfl (Qz ((B.step M).Yz hfm hc2.Jd id) (QL Jj rfl))) fun _ K => ?_;refine Qc 1 K M ?_;intro _ K;obtain ⟨v26, st26, ev26, rfl, q26⟩ := SP M.fresh (fun c m l hr => (B.step M).Yz hfm (hR c m l hr) id) hr0 (m := ((k : Nat) : Int)) Qe Qe hsz hc;refine pg K rfl rfl (Qh rfl ev26) fun _ K => ?_;replace M := M.quiet q26;refine au 7 K M ?_;intro c8 _ _ K _ M;replace B := (B.step M).Vv;have M := B.mem;refine Qc 4 K M ?_;intro _ K;refine Jc (fun mm1 T st9 => ∃ (i : Nat) (vs : List AV) (Fr : Fp) (ka : AV) (Aa : QU) (kr : AV) (Ar : QU), mm1 = Qp o nn + 1 - i ∧ QY [(1, iN k), (2, .ptr c2 0 0), (4, .nilp), (5, iZ 0), (6, .ptr c6 0 0), (8, .ptr c8 0 0), (33, iZ (((((Qp o nn) : Nat) : Int) + 1))), (34, iN i)] T ∧ Qk st Xv st9 ((c8, 0, [iN k, ka, kr]) :: (c6, 0, [(.fn f [] fc), iZ (QQ o nn : Nat), iZ (Qp o nn : Nat)]) :: (Aa ++ (Ar ++ []))) [E8 Fr vs ((List.range i).map (P0 o nn an bn gn k))] ∧ i ≤ Qp o nn + 1 ∧ Acc 0 1 Aa ka (bC ((List.range i).map fun s => decide (((s : Nat) : Int) = ((QQ o nn : Nat) : Int)))) ∧ YO Ar kr vs) (fun mm1 T st9 hI => ?_) _ _ _ ⟨0, [], _, .nils, [], .nils, [], rfl, (K.sub rfl), (B.step M).less (.refl _), (Nat.zero_le _), .none, .none⟩;obtain ⟨i, vs, Fr, ka, Aa, kr, Ar, rfl, K, B, hi, hAa, hAr⟩ := hI;have M := B.mem;refine Qc 1 K M ?_;intro _ K;refine JP K rfl (fun h35 => ?_) fun h35 => ?_
 · refine Qc 4 K M ?_;intro _ K;refine p1 K (Y4 (n := k) rfl rfl Qe) fun _ K => ?_;refine Qc 1 K M ?_;intro _ K;refine Jc (fun mm2 T st9 => ∃ (c : Nat) (kw : AV) (Aw : QU), mm2 = 2 ^ k - c ∧ QY [(1, iN k), (2, .ptr c2 0 0), (4, .nilp), (5, iZ 0), (6, .ptr c6 0 0), (8, .ptr c8 0 0), (9, iN i), (10, kw), (33, iZ (((((Qp o nn) : Nat) : Int) + 1))), (34, iN i), (35, .bool (decide (((i : Nat) : Int) < ((((Qp o nn) : Nat) : Int) + 1)))), (38, iZ (2 ^ k : Nat)), (39, iN c)] T ∧ Qk st Xv st9 ((c8, 0, [iN k, ka, kr]) :: (c6, 0, [(.fn f [] fc), iZ (QQ o nn : Nat), iZ (Qp o nn : Nat)]) :: (Aa ++ (Ar ++ (Aw ++ [])))) [E8 Fr vs ((List.range i).map (P0 o nn an bn gn k))] ∧ c ≤ 2 ^ k ∧ Acc 0 1 Aw kw (zC ((List.range c).map fun l => ((Ez o nn an bn gn i l : Nat) : Int)))) (fun mm2 T st9 hI => ?_) _ _ _ ⟨0, .nils, [], rfl, (K.sub rfl), (B.step M).less (.refl _), (Nat.zero_le _), .none⟩;obtain ⟨c, kw, Aw, rfl, K, B, hcK, hAw⟩ := hI;have M := B.mem;refine Qc 1 K M ?_;intro _ K;refine JP K rfl (fun h40 => ?_) fun h40 => ?_
   · refine au 3 K M ?_;intro c11 _ _ K _ M;refine p1 K (Xt rfl rfl) fun _ K => ?_;refine Qc 6 K M ?_;intro _ K;refine JP K rfl (fun h46 => ?_) fun h46 => ?_
     · refine QD (l := [(3, 0), (4, 0), (5, 0), (6, 0), (7, 0), (8, 0), (9, 1), (10, 0), (11, 0), (12, 0), (13, 2), (14, 0), (0, 0), (1, 3), (2, 0), (15, 0), (16, 0)]) (by kernel_rfl) ?_;have Mq := M;have Mz0 := M;have Bz0 := B;refine Jf 2 K M ?_;intro _ K;refine q1 rfl K (Qd rfl (Qz ((B.step M).Yz hfm hc2.Jd id) (Qf Qr rfl))) fun _ K => ?_;have r11 := M.UX (k := 0) rfl;obtain ⟨v53, st53, ev53, rfl, q53⟩ := ND M.fresh (v1 := an) (l := c) r11 Qe Qe;refine qA rfl K (ZP rfl rfl ev53) fun _ K => ?_;replace M := M.quiet q53;have Mp := Mq;have Mq := M;have Mz1 := M;have Bz1 := B;refine Jf 2 K M ?_;intro _ K;refine Js rfl K rfl (Qz ((B.step M).Yz hfm hc2.Jd id) (Qf Qr rfl)) (Qz ((B.step Mp).Yz hfm hc2.Jd id) (Qf Qr rfl)) (JR rfl) rfl QE fun _ K => ?_;have r11 := M.UX (k := 0) rfl;obtain ⟨v57, st57, ev57, rfl, q57⟩ := ND M.fresh (v1 := bn) (l := c) r11 Qe Qe;refine qA rfl K (ZP rfl rfl ev57) fun _ K => ?_;replace M := M.quiet q57;have Mp := Mq;have Mq := M;have Mz2 := M;have Bz2 := B;refine Jf 2 K M ?_;intro _ K
       refine Wp rfl K rfl (Qz ((B.step M).Yz hfm hc2.Jd id) (Qf Qr rfl)) QA (by intro s hs; simp only [List.take_succ_cons, List.take_zero, List.mem_cons, List.not_mem_nil, or_false] at hs; rcases hs with rfl | rfl <;> first | exact (Qz ((Bz1.step Mz1).Yz hfm hc2.Jd id) (Qf Qr rfl)) | exact (Qz ((Bz0.step Mz0).Yz hfm hc2.Jd id) (Qf Qr rfl))) (JR rfl) rfl QE fun _ K => ?_
       have r11 := M.UX (k := 0) rfl;obtain ⟨v61, st61, ev61, rfl, q61⟩ := ND M.fresh (v1 := gn) (l := c) r11 Qe Qe;refine qA rfl K (ZP rfl rfl ev61) fun _ K => ?_;replace M := M.quiet q61;have Mp := Mq;have Mq := M;have Mz3 := M;have Bz3 := B;refine Jf 1 K M ?_;intro _ K
       refine Wp rfl K rfl (M.load (k := 2) rfl (Qf J5 rfl)) QA (by intro s hs; simp only [List.take_succ_cons, List.take_zero, List.mem_cons, List.not_mem_nil, or_false] at hs; rcases hs with rfl | rfl | rfl <;> first | exact (Mz2.load (k := 2) rfl (Qf J5 rfl)) | exact (Mz1.load (k := 2) rfl (Qf J5 rfl)) | exact (Mz0.load (k := 2) rfl (Qf J5 rfl))) hfe rfl QE fun _ K => ?_
       refine q1 rfl K (Qg rfl) fun _ K => ?_;obtain ⟨v62, st62, ev62, rfl, q62⟩ := hmach _ (B.step M).qt i (YE c an) (YE c bn) (YE c gn) Qe;refine qA rfl K (ZP rfl rfl ev62) fun _ K => ?_;replace M := M.quiet q62;have Mp := Mq;have Mq := M;have Mz4 := M;have Bz4 := B;refine q1 rfl K (U5 rfl) fun _ K => QG ?_;show W _ _ _ _ _ _ _;refine Qc 2 K M ?_;intro _ K;refine Qq (K.QI rfl) (fun h64 => ?_) (fun h64 => ?_)
       · have hb64 := h64;replace h64 := of_decide_eq_true h64;refine au 6 K M ?_;intro c69 _ _ K _ M;refine Je (k2 := 0) (L := ((c69, 0, [iZ (Qp o nn : Nat)]) :: (c11, 0, [iN c]) :: (c8, 0, [iN k, ka, kr]) :: (c6, 0, [(.fn f [] fc), iZ (QQ o nn : Nat), iZ (Qp o nn : Nat)]) :: (Aa ++ (Ar ++ [])))) (A := Aw) (B := []) K (Mem.cast (M := ((c69, 0, [iZ (Qp o nn : Nat)]) :: (c11, 0, [iN c]) :: (c8, 0, [iN k, ka, kr]) :: (c6, 0, [(.fn f [] fc), iZ (QQ o nn : Nat), iZ (Qp o nn : Nat)]) :: (Aa ++ (Ar ++ (Aw ++ []))))) (M' := ((c69, 0, [iZ (Qp o nn : Nat)]) :: (c11, 0, [iN c]) :: (c8, 0, [iN k, ka, kr]) :: (c6, 0, [(.fn f [] fc), iZ (QQ o nn : Nat), iZ (Qp o nn : Nat)]) :: (Aa ++ (Ar ++ []))) ++ (Aw ++ [])) M Uz) hAw QM rfl rfl rfl rfl (by rw [Qn, List.length_map, List.length_range]; omega) rfl fun ks70 A70 _ _ K hA70 M => ?_;simp only [List.append_assoc, List.cons_append, List.nil_append, List.set_cons_zero, List.set_cons_succ] at M;have Mz5 := M;have Bz5 := B;refine Qc 3 K M ?_;intro _ K
         have hnx : iZ (Ez o nn an bn gn i c : Nat) = iZ (Qp o nn : Nat) := by
           refine congrArg (AV.int .i64) ?_;unfold Ez
           first
           | exact absurd rfl h64
           | (rw [if_neg Qe]; done)
           | (rw [if_pos Qe, if_pos (by assumption)]; done)
           | (rw [if_pos Qe, if_neg (by assumption)]
              rcases qo hat hn (show i < Qp o nn by omega) (YE c an) (YE c bn) (YE c gn) with ⟨h1, _⟩ | ⟨t, h1, _⟩
              · exact absurd h1 (by assumption)
              · rw [h1]; rfl)
         have hrs : (List.range (c + 1)).map (fun l => ((Ez o nn an bn gn i l : Nat) : Int)) = (List.range c).map (fun l => ((Ez o nn an bn gn i l : Nat) : Int)) ++ [((Ez o nn an bn gn i c : Nat) : Int)] := by rw [List.range_succ, List.map_append]; rfl
         exact ⟨_, Qe, c + 1, ks70, A70, rfl, (K.sub rfl), (B.step M).less (.cons _ (.cons _ (.refl _))), Qe, (by rw [hrs, JV, show zC [((Ez o nn an bn gn i c : Nat) : Int)] = [[iZ (Ez o nn an bn gn i c : Nat)]] from rfl, hnx]; exact hA70)⟩
       have hb64 := h64;replace h64 := of_decide_eq_false h64;refine au 3 K M ?_;intro c69 _ _ K _ M;refine Je (k2 := 0) (L := ((c69, 0, [iZ ((Jn o nn i (YE c an) (YE c bn) (YE c gn)))]) :: (c11, 0, [iN c]) :: (c8, 0, [iN k, ka, kr]) :: (c6, 0, [(.fn f [] fc), iZ (QQ o nn : Nat), iZ (Qp o nn : Nat)]) :: (Aa ++ (Ar ++ [])))) (A := Aw) (B := []) K (Mem.cast (M := ((c69, 0, [iZ ((Jn o nn i (YE c an) (YE c bn) (YE c gn)))]) :: (c11, 0, [iN c]) :: (c8, 0, [iN k, ka, kr]) :: (c6, 0, [(.fn f [] fc), iZ (QQ o nn : Nat), iZ (Qp o nn : Nat)]) :: (Aa ++ (Ar ++ (Aw ++ []))))) (M' := ((c69, 0, [iZ ((Jn o nn i (YE c an) (YE c bn) (YE c gn)))]) :: (c11, 0, [iN c]) :: (c8, 0, [iN k, ka, kr]) :: (c6, 0, [(.fn f [] fc), iZ (QQ o nn : Nat), iZ (Qp o nn : Nat)]) :: (Aa ++ (Ar ++ []))) ++ (Aw ++ [])) M Uz) hAw QM rfl rfl rfl rfl (by rw [Qn, List.length_map, List.length_range]; omega) rfl fun ks70 A70 _ _ K hA70 M => ?_;simp only [List.append_assoc, List.cons_append, List.nil_append, List.set_cons_zero, List.set_cons_succ] at M;have Mz5 := M;have Bz5 := B;refine Qc 3 K M ?_;intro _ K
       have hnx : iZ (Ez o nn an bn gn i c : Nat) = iZ ((Jn o nn i (YE c an) (YE c bn) (YE c gn))) := by
         refine congrArg (AV.int .i64) ?_;unfold Ez
         first
         | exact absurd rfl h64
         | (rw [if_neg Qe]; done)
         | (rw [if_pos Qe, if_pos (by assumption)]; done)
         | (rw [if_pos Qe, if_neg (by assumption)]
            rcases qo hat hn (show i < Qp o nn by omega) (YE c an) (YE c bn) (YE c gn) with ⟨h1, _⟩ | ⟨t, h1, _⟩
            · exact absurd h1 (by assumption)
            · rw [h1]; rfl)
       have hrs : (List.range (c + 1)).map (fun l => ((Ez o nn an bn gn i l : Nat) : Int)) = (List.range c).map (fun l => ((Ez o nn an bn gn i l : Nat) : Int)) ++ [((Ez o nn an bn gn i c : Nat) : Int)] := by rw [List.range_succ, List.map_append]; rfl
       exact ⟨_, Qe, c + 1, ks70, A70, rfl, (K.sub rfl), (B.step M).less (.cons _ (.cons _ (.refl _))), Qe, (by rw [hrs, JV, show zC [((Ez o nn an bn gn i c : Nat) : Int)] = [[iZ (Ez o nn an bn gn i c : Nat)]] from rfl, hnx]; exact hA70)⟩
     refine Qc 2 K M ?_;intro _ K;refine Qq (K.QI rfl) (fun h64 => ?_) (fun h64 => ?_)
     · have hb64 := h64;replace h64 := of_decide_eq_true h64;refine au 6 K M ?_;intro c69 _ _ K _ M;refine Je (k2 := 0) (L := ((c69, 0, [iZ (Qp o nn : Nat)]) :: (c11, 0, [iN c]) :: (c8, 0, [iN k, ka, kr]) :: (c6, 0, [(.fn f [] fc), iZ (QQ o nn : Nat), iZ (Qp o nn : Nat)]) :: (Aa ++ (Ar ++ [])))) (A := Aw) (B := []) K (Mem.cast (M := ((c69, 0, [iZ (Qp o nn : Nat)]) :: (c11, 0, [iN c]) :: (c8, 0, [iN k, ka, kr]) :: (c6, 0, [(.fn f [] fc), iZ (QQ o nn : Nat), iZ (Qp o nn : Nat)]) :: (Aa ++ (Ar ++ (Aw ++ []))))) (M' := ((c69, 0, [iZ (Qp o nn : Nat)]) :: (c11, 0, [iN c]) :: (c8, 0, [iN k, ka, kr]) :: (c6, 0, [(.fn f [] fc), iZ (QQ o nn : Nat), iZ (Qp o nn : Nat)]) :: (Aa ++ (Ar ++ []))) ++ (Aw ++ [])) M Uz) hAw QM rfl rfl rfl rfl (by rw [Qn, List.length_map, List.length_range]; omega) rfl fun ks70 A70 _ _ K hA70 M => ?_;simp only [List.append_assoc, List.cons_append, List.nil_append, List.set_cons_zero, List.set_cons_succ] at M;refine Qc 3 K M ?_;intro _ K
       have hnx : iZ (Ez o nn an bn gn i c : Nat) = iZ (Qp o nn : Nat) := by
         refine congrArg (AV.int .i64) ?_;unfold Ez
         first
         | exact absurd rfl h64
         | (rw [if_neg Qe]; done)
         | (rw [if_pos Qe, if_pos (by assumption)]; done)
         | (rw [if_pos Qe, if_neg (by assumption)]
            rcases qo hat hn (show i < Qp o nn by omega) (YE c an) (YE c bn) (YE c gn) with ⟨h1, _⟩ | ⟨t, h1, _⟩
            · exact absurd h1 (by assumption)
            · rw [h1]; rfl)
       have hrs : (List.range (c + 1)).map (fun l => ((Ez o nn an bn gn i l : Nat) : Int)) = (List.range c).map (fun l => ((Ez o nn an bn gn i l : Nat) : Int)) ++ [((Ez o nn an bn gn i c : Nat) : Int)] := by rw [List.range_succ, List.map_append]; rfl
       exact ⟨_, Qe, c + 1, ks70, A70, rfl, (K.sub rfl), (B.step M).less (.cons _ (.cons _ (.refl _))), Qe, (by rw [hrs, JV, show zC [((Ez o nn an bn gn i c : Nat) : Int)] = [[iZ (Ez o nn an bn gn i c : Nat)]] from rfl, hnx]; exact hA70)⟩
     have hb64 := h64;replace h64 := of_decide_eq_false h64;refine au 3 K M ?_;intro c69 _ _ K _ M;refine Je (k2 := 0) (L := ((c69, 0, [iZ (-1)]) :: (c11, 0, [iN c]) :: (c8, 0, [iN k, ka, kr]) :: (c6, 0, [(.fn f [] fc), iZ (QQ o nn : Nat), iZ (Qp o nn : Nat)]) :: (Aa ++ (Ar ++ [])))) (A := Aw) (B := []) K (Mem.cast (M := ((c69, 0, [iZ (-1)]) :: (c11, 0, [iN c]) :: (c8, 0, [iN k, ka, kr]) :: (c6, 0, [(.fn f [] fc), iZ (QQ o nn : Nat), iZ (Qp o nn : Nat)]) :: (Aa ++ (Ar ++ (Aw ++ []))))) (M' := ((c69, 0, [iZ (-1)]) :: (c11, 0, [iN c]) :: (c8, 0, [iN k, ka, kr]) :: (c6, 0, [(.fn f [] fc), iZ (QQ o nn : Nat), iZ (Qp o nn : Nat)]) :: (Aa ++ (Ar ++ []))) ++ (Aw ++ [])) M Uz) hAw QM rfl rfl rfl rfl (by rw [Qn, List.length_map, List.length_range]; omega) rfl fun ks70 A70 _ _ K hA70 M => ?_;simp only [List.append_assoc, List.cons_append, List.nil_append, List.set_cons_zero, List.set_cons_succ] at M;refine Qc 3 K M ?_;intro _ K
     have hnx : iZ (Ez o nn an bn gn i c : Nat) = iZ (-1) := by
       refine congrArg (AV.int .i64) ?_;unfold Ez
       first
       | exact absurd rfl h64
       | (rw [if_neg Qe]; done)
       | (rw [if_pos Qe, if_pos (by assumption)]; done)
       | (rw [if_pos Qe, if_neg (by assumption)]
          rcases qo hat hn (show i < Qp o nn by omega) (YE c an) (YE c bn) (YE c gn) with ⟨h1, _⟩ | ⟨t, h1, _⟩
          · exact absurd h1 (by assumption)
          · rw [h1]; rfl)
     have hrs : (List.range (c + 1)).map (fun l => ((Ez o nn an bn gn i l : Nat) : Int)) = (List.range c).map (fun l => ((Ez o nn an bn gn i l : Nat) : Int)) ++ [((Ez o nn an bn gn i c : Nat) : Int)] := by rw [List.range_succ, List.map_append]; rfl
     exact ⟨_, Qe, c + 1, ks70, A70, rfl, (K.sub rfl), (B.step M).less (.cons _ (.cons _ (.refl _))), Qe, (by rw [hrs, JV, show zC [((Ez o nn an bn gn i c : Nat) : Int)] = [[iZ (Ez o nn an bn gn i c : Nat)]] from rfl, hnx]; exact hA70)⟩
   refine QT ?_;show W _ _ _ _ _ _ _;refine QC ?_
   have hce : c = 2 ^ k := by omega
   rw [hce] at hAw;refine Qc 1 K M ?_;intro _ K;refine p1 K (Qd rfl (M.load (k := 0) rfl (Qf Q5 rfl))) fun _ K => ?_;refine Qc 1 K M ?_;intro _ K;refine Xy K M QR Uv rfl ((J9 rfl hAw.cell rfl).trans rfl) (Qb hAw.cell Q7) rfl rfl fun c75 _ _ K M => ?_;refine YG (k2 := 0) (L := ((c75, 0, [kw]) :: (c8, 0, [iN k, ka, kr]) :: (c6, 0, [(.fn f [] fc), iZ (QQ o nn : Nat), iZ (Qp o nn : Nat)]) :: (Aa ++ []))) (A := Ar) (B := (Aw ++ [])) K (Mem.cast (M := ((c75, 0, [kw]) :: (c8, 0, [iN k, ka, kr]) :: (c6, 0, [(.fn f [] fc), iZ (QQ o nn : Nat), iZ (Qp o nn : Nat)]) :: (Aa ++ (Ar ++ (Aw ++ []))))) (M' := ((c75, 0, [kw]) :: (c8, 0, [iN k, ka, kr]) :: (c6, 0, [(.fn f [] fc), iZ (QQ o nn : Nat), iZ (Qp o nn : Nat)]) :: (Aa ++ [])) ++ (Ar ++ (Aw ++ []))) M Uz) hAr QR rfl rfl rfl (by have := YN.ln ((B.step M).at_ (k := 0) rfl); rw [List.length_map, List.length_range] at this; omega) rfl fun ks76 A76 _ _ K hA76 _ M => ?_;simp only [List.append_assoc, List.cons_append, List.nil_append, List.set_cons_zero, List.set_cons_succ] at M;refine Qc 1 K M ?_;intro _ K;refine Jh (k := 1) K M rfl rfl rfl Ux (hA76.cell) rfl fun _ M => ?_;refine au 7 K M ?_;intro c84 _ _ K _ M;refine Je (k2 := 0) (L := [(c84, 0, [.bool (decide (((i : Nat) : Int) = (((QQ o nn) : Nat) : Int)))]), (c75, 0, [kw]), (c8, 0, [iN k, ka, ks76]), (c6, 0, [(.fn f [] fc), iZ (QQ o nn : Nat), iZ (Qp o nn : Nat)])]) (A := Aa) (B := (A76 ++ (Aw ++ []))) K M hAa J3 rfl rfl rfl rfl (by rw [Jw, List.length_map, List.length_range]; omega) rfl fun ks85 A85 _ _ K hA85 M => ?_;refine Qc 1 K M ?_;intro _ K;refine Jh (k := 2) K M rfl rfl rfl UF (hA85.cell) rfl fun _ M => ?_;refine Qc 2 K M ?_;intro _ K;replace B := B.step M;obtain ⟨Fr, B⟩ := Qk.Z5 (L := ((c84, 0, [.bool (decide (((i : Nat) : Int) = (((QQ o nn) : Nat) : Int)))]) :: (c75, 0, [kw]) :: (c8, 0, [iN k, ks85, ks76]) :: (c6, 0, [(.fn f [] fc), iZ (QQ o nn : Nat), iZ (Qp o nn : Nat)]) :: (A85 ++ (A76 ++ [])))) (A := Aw) (B := []) (B.cast Uz) hAw (fun z hz => by obtain ⟨l, _, rfl⟩ := List.mem_map.1 hz; have := jf (a := an) (b := bn) (d := gn) hat hn i l; omega);replace B := B.cast (M' := ((c84, 0, [.bool (decide (((i : Nat) : Int) = (((QQ o nn) : Nat) : Int)))]) :: (c75, 0, [kw]) :: (c8, 0, [iN k, ks85, ks76]) :: (c6, 0, [(.fn f [] fc), iZ (QQ o nn : Nat), iZ (Qp o nn : Nat)]) :: (A85 ++ (A76 ++ [])))) Uz;have M := B.mem
   have hrr : (List.range (i + 1)).map (P0 o nn an bn gn k) = (List.range i).map (P0 o nn an bn gn k) ++ [(List.range (2 ^ k)).map fun l => ((Ez o nn an bn gn i l : Nat) : Int)] := by rw [List.range_succ, List.map_append]; rfl
   rw [← hrr] at B;have M := B.mem;exact ⟨_, Qe, i + 1, _, _, ks85, A85, ks76, A76, rfl, (K.sub rfl), (B.step M).less (.cons _ (.cons _ (.refl _))), Qe, (by rw [List.range_succ, List.map_append, XK]; exact hA85), hA76⟩
 refine QT ?_;show W _ _ _ _ _ _ _;refine Qc 1 K M ?_;intro _ K;replace B := B.step M
 have hie : i = Qp o nn + 1 := by omega
 subst hie;have hwf := qF (a := an) (b := bn) (d := gn) (k := k) hat hn hk6;obtain ⟨Fo, B⟩ := Qk.GC (L := ((c8, 0, [iN k, ka, kr]) :: (c6, 0, [(.fn f [] fc), iZ (QQ o nn : Nat), iZ (Qp o nn : Nat)]) :: (Aa ++ []))) (A := Ar) (B := []) (B.cast Uz) hAr;replace B := B.cast (M' := ((c8, 0, [iN k, ka, kr]) :: (c6, 0, [(.fn f [] fc), iZ (QQ o nn : Nat), iZ (Qp o nn : Nat)]) :: (Aa ++ []))) Uz;have M := B.mem;obtain ⟨v90, st90, ev90, dq2, F2, rfl, hD2, nf2, q90⟩ := WJ (a := Vr o an bn gn nn k) B.fresh hwf (Mem.Yx (L := [(c8, 0, [iN k, ka, kr]), (c6, 0, [(.fn f [] fc), iZ (QQ o nn : Nat), iZ (Qp o nn : Nat)])]) (A := Aa) (B := []) M hAa) (Xo.r (B.at_ (k := 0) rfl));refine p1 K (Qh rfl ev90) fun _ K => ?_;replace B := B.new (o := FG F2 dq2 (Vr o an bn gn nn k)) q90 hD2.at_ nf2;have M := B.mem;refine Qc 7 K M ?_;intro _ K;refine Qq (K.QI rfl) (fun h94 => ?_) (fun h94 => ?_)
 · have hb94 := h94
   replace h94 : ¬ (0 = 0) := by first | exact of_decide_eq_false h94 | exact yF h94 | simpa using h94
   exfalso; omega
 have hb94 := h94
 replace h94 : (0 = 0) := by first | exact of_decide_eq_true h94 | exact yT h94 | simpa using h94
 refine Qc 1 K M ?_;intro _ K;replace B := B.step M;obtain ⟨v97, st97, ev97, dp3, F3, m, rfl, hlm, hD3, nf3, q97⟩ := S5 B.fresh (B.MV (k := 0) rfl);refine p1 K (Qh rfl ev97) fun _ K => ?_;have hle3 := B.le;replace B := B.quiet q97;have M := B.mem;refine Qc 4 K M ?_;exact ⟨dp3, F3, m, rfl, hlm.atom hat hn, hD3, fun c hc => ⟨Nat.le_trans hq0.le (Nat.le_trans hle3 (nf3 c hc).1), (nf3 c hc).2⟩, hq0.trans (B.step M).qt⟩
end Go.Proofs.YtiknomepbklibaaGreatDoor
