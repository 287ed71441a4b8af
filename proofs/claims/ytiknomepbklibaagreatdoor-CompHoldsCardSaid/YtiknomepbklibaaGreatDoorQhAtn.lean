/-
  Atoms: which machine is an atom's; its automaton.
-/
import Derived.Test.YtiknomepbklibaaGreatDoorQhAtm
namespace Go.Proofs.YtiknomepbklibaaGreatDoor
open Go Go.RowKit
set_option maxHeartbeats 8000000
set_option linter.unusedVariables false
set_option linter.unusedSimpArgs false
set_option linter.unnecessarySimpa false
set_option linter.unusedSectionVars false
set_option maxRecDepth 100000
variable {c1 n:Nat} {st:St}

theorem Sd(hf:Qi st)(n:Nat)(hn:n≤20): ∃v st',Jh 169 [iN n] st v st'∧ ∃c1 c3,v=.agg [.fn 175 [] [.ptr c1 0 0,.ptr c3 0 0],iZ (n+1:Nat),iZ (n+2:Nat)]∧Qy st'.h.get c1 0 [iN n]∧Qy st'.h.get c3 0 [iZ (n+1:Nat)]∧st.n≤c1∧st.n≤c3∧c1≠c3∧Qt st st':=by
 refine JA Tryz.func169 Tryz.ntmps169 fun T K=>?_;have M:=Mem.start hf;refine au 6 K M ?_;intro c1 c2 c3 _ _ K _ M;refine p1 K (X1 rfl rfl) fun _ K=>?_;refine au 5 K M ?_;intro _ _ K _ M;refine Qb 0 K M ?_;have hnd:=M.nodup;simp at hnd;exact⟨c1,c3,rfl,M.Yb (k:=2) rfl,M.Yb (k:=0) rfl,M.jZ (k:=2) rfl,M.jZ (k:=0) rfl,by omega,M.qt⟩

theorem MK(hf:Qi st)(n:Nat)(hn:n≤20): ∃v st',Jh 170 [iN n] st v st'∧ ∃c1 c3,v=.agg [.fn 176 [] [.ptr c3 0 0,.ptr c1 0 0],iZ (n+1:Nat),iZ (n+2:Nat)]∧Qy st'.h.get c1 0 [iN n]∧Qy st'.h.get c3 0 [iZ (n+1:Nat)]∧st.n≤c1∧st.n≤c3∧c1≠c3∧Qt st st':=by
 refine JA Tryz.func170 Tryz.ntmps170 fun T K=>?_;have M:=Mem.start hf;refine au 6 K M ?_;intro c1 c2 c3 _ _ K _ M;refine p1 K (X1 rfl rfl) fun _ K=>?_;refine au 5 K M ?_;intro _ _ K _ M;refine Qb 0 K M ?_;have hnd:=M.nodup;simp at hnd;exact⟨c1,c3,rfl,M.Yb (k:=2) rfl,M.Yb (k:=0) rfl,M.jZ (k:=2) rfl,M.jZ (k:=0) rfl,by omega,M.qt⟩

theorem Ri(hf:Qi st)(hr:Qy st.h.get c1 0 [.fn 160 [] []]):Hr st 174 [.ptr c1 0 0] [116,114,117,101] n:=fun st1 q s x y z hs=>by
 obtain⟨v,st2,h1,h2,h3⟩:=WC q.fresh (hr.later hf q) eA ((s:Nat):Int) x y z;refine⟨v,st2,h1,?_,h3⟩
 have e:Jq [116,114,117,101] n s x y z=(if(true)=true then 0 else-1):=by
  unfold Jq;rw[if_pos rfl];rfl
 rw[h2,e]

theorem Rh(hf:Qi st)(hr:Qy st.h.get c1 0 [.fn 161 [] []]):Hr st 174 [.ptr c1 0 0] [115,117,98] n:=fun st1 q s x y z hs=>by
 obtain⟨v,st2,h1,h2,h3⟩:=WC q.fresh (hr.later hf q) ew ((s:Nat):Int) x y z;refine⟨v,st2,h1,?_,h3⟩
 have e:Jq [115,117,98] n s x y z=(if((!x||y))=true then 0 else-1):=by
  unfold Jq;rw[if_neg Q9,if_pos rfl]
 rw[h2,e]

theorem Rg(hf:Qi st)(hr:Qy st.h.get c1 0 [.fn 162 [] []]):Hr st 174 [.ptr c1 0 0] [110,111,110,101] n:=fun st1 q s x y z hs=>by
 obtain⟨v,st2,h1,h2,h3⟩:=WC q.fresh (hr.later hf q) er ((s:Nat):Int) x y z;refine⟨v,st2,h1,?_,h3⟩
 have e:Jq [110,111,110,101] n s x y z=(if((!x))=true then 0 else-1):=by
  unfold Jq;rw[if_neg Q9,if_neg Q9,if_pos rfl]
 rw[h2,e]

theorem Rf(hf:Qi st)(hr:Qy st.h.get c1 0 [.fn 163 [] []]):Hr st 174 [.ptr c1 0 0] [117,110,105,111,110] n:=fun st1 q s x y z hs=>by
 obtain⟨v,st2,h1,h2,h3⟩:=WC q.fresh (hr.later hf q) eo ((s:Nat):Int) x y z;refine⟨v,st2,h1,?_,h3⟩
 have e:Jq [117,110,105,111,110] n s x y z=(if((z==(x||y)))=true then 0 else-1):=by
  unfold Jq;rw[if_neg Q9,if_neg Q9,if_neg Q9,if_pos rfl]
 rw[h2,e]

theorem Re(hf:Qi st)(hr:Qy st.h.get c1 0 [.fn 164 [] []]):Hr st 174 [.ptr c1 0 0] [105,110,116,101,114] n:=fun st1 q s x y z hs=>by
 obtain⟨v,st2,h1,h2,h3⟩:=WC q.fresh (hr.later hf q) ei ((s:Nat):Int) x y z;refine⟨v,st2,h1,?_,h3⟩
 have e:Jq [105,110,116,101,114] n s x y z=(if((z==(x&&y)))=true then 0 else-1):=by
  unfold Jq;rw[if_neg Q9,if_neg Q9,if_neg Q9,if_neg Q9,if_pos rfl]
 rw[h2,e]

theorem Rc(hf:Qi st)(hr:Qy st.h.get c1 0 [.fn 165 [] []]):Hr st 174 [.ptr c1 0 0] [109,105,110,117,115] n:=fun st1 q s x y z hs=>by
 obtain⟨v,st2,h1,h2,h3⟩:=WC q.fresh (hr.later hf q) ef ((s:Nat):Int) x y z;refine⟨v,st2,h1,?_,h3⟩
 have e:Jq [109,105,110,117,115] n s x y z=(if((z==(x&& !y)))=true then 0 else-1):=by
  unfold Jq;rw[if_neg Q9,if_neg Q9,if_neg Q9,if_neg Q9,if_neg Q9,if_pos rfl]
 rw[h2,e]

theorem qM{R:Ee}(hf:Qi st)(hR:Y8 R st.h.get){o:List Nat}{an bn gn nn:Nat}{l:List Cr}{cs:List AV}(hr:ZO R (.mk o ((an:Nat):Int) ((bn:Nat):Int) ((gn:Nat):Int) ((nn:Nat):Int) l) cs)(hat:VP o)(hn:nn≤20): ∃v st',Jh 138 [.agg cs] st v st'∧ ∃f fc,v=.tup [.agg [.fn f [] fc,iZ (Jc o nn:Nat),iZ (Qv o nn:Nat)],.bool true]∧Hr st' f fc o nn∧Gc (.fn f [] fc) (.fn f [] fc)=true∧Qt st st':=by
 have hr0:=hr;obtain⟨kc,ls,rfl,hK⟩:=hr.U5;have hln:=hK.ln;have hbn:=hK.Wv;refine JA Tryz.func138 Tryz.ntmps138 fun T K=>?_;have M:=Mem.start hf;refine Qb 0 K M fun _ K=>?_;refine Ju K M rfl (Qa rfl (Qa rfl (Qa rfl (Qa rfl (Qa rfl (Qa hK.cell Q4)))))) Q9 fun c1 _ _ K M=>?_;refine au 4 K M ?_;intro c2 _ _ K _ M;refine p1 K (QU (b:=[116,114,117,101]) rfl rfl) fun _ K=>?_;refine Qb 1 K M fun _ K=>?_;refine Jy K rfl (fun h6=>?_) fun h6=>?_
 ·refine Qb 0 K M fun _ K=>?_;obtain⟨v8,st8,ev8,c9,rfl,hr1,hn1,q8⟩:=AT M.fresh 160;refine p1 K (Qg rfl ev8) fun _ K=>?_;replace M:=M.XJ q8 hr1 hn1;refine au 2 K M ?_;intro _ _ K _ M;refine Jw ⟨.inr rfl,_,(Ud (JG K rfl (M.load (k:=0) rfl (QN Jr rfl))) (Q6 K rfl)),?_⟩
  have ho:o=[116,114,117,101]:=by assumption
  subst ho
  have hlp:Jc [116,114,117,101] nn=0:=by simp[Jc]
  refine⟨174,[.ptr c9 0 0],?_,?_,Ff _ _,M.qt⟩
  ·rw[show Qv [116,114,117,101] nn=0+1 from congrArg (· +1) hlp,hlp];try rfl
  ·exact Ri M.fresh (M.Yb (k:=2) rfl)
 refine Qb 0 K M fun _ K=>?_;refine p1 K (QU (b:=[115,117,98]) rfl rfl) fun _ K=>?_;refine Qb 1 K M fun _ K=>?_;refine Jy K rfl (fun h9=>?_) fun h9=>?_
 ·refine Qb 0 K M fun _ K=>?_;obtain⟨v11,st11,ev11,c9,rfl,hr1,hn1,q11⟩:=AT M.fresh 161;refine p1 K (Qg rfl ev11) fun _ K=>?_;replace M:=M.XJ q11 hr1 hn1;refine au 2 K M ?_;intro _ _ K _ M;refine Jw ⟨.inr rfl,_,(Ud (JG K rfl (M.load (k:=0) rfl (QN Jr rfl))) (Q6 K rfl)),?_⟩
  have ho:o=[115,117,98]:=by assumption
  subst ho
  have hlp:Jc [115,117,98] nn=0:=by simp[Jc]
  refine⟨174,[.ptr c9 0 0],?_,?_,Ff _ _,M.qt⟩
  ·rw[show Qv [115,117,98] nn=0+1 from congrArg (· +1) hlp,hlp];try rfl
  ·exact Rh M.fresh (M.Yb (k:=2) rfl)
 refine Qb 0 K M fun _ K=>?_;refine p1 K (QU (b:=[110,111,110,101]) rfl rfl) fun _ K=>?_;refine Qb 1 K M fun _ K=>?_;refine Jy K rfl (fun h12=>?_) fun h12=>?_
 ·refine Qb 0 K M fun _ K=>?_;obtain⟨v14,st14,ev14,c9,rfl,hr1,hn1,q14⟩:=AT M.fresh 162;refine p1 K (Qg rfl ev14) fun _ K=>?_;replace M:=M.XJ q14 hr1 hn1;refine au 2 K M ?_;intro _ _ K _ M;refine Jw ⟨.inr rfl,_,(Ud (JG K rfl (M.load (k:=0) rfl (QN Jr rfl))) (Q6 K rfl)),?_⟩
  have ho:o=[110,111,110,101]:=by assumption
  subst ho
  have hlp:Jc [110,111,110,101] nn=0:=by simp[Jc]
  refine⟨174,[.ptr c9 0 0],?_,?_,Ff _ _,M.qt⟩
  ·rw[show Qv [110,111,110,101] nn=0+1 from congrArg (· +1) hlp,hlp];try rfl
  ·exact Rg M.fresh (M.Yb (k:=2) rfl)
 refine Qb 0 K M fun _ K=>?_;refine p1 K (QU (b:=[117,110,105,111,110]) rfl rfl) fun _ K=>?_;refine Qb 1 K M fun _ K=>?_;refine Jy K rfl (fun h15=>?_) fun h15=>?_
 ·refine Qb 0 K M fun _ K=>?_;obtain⟨v17,st17,ev17,c9,rfl,hr1,hn1,q17⟩:=AT M.fresh 163;refine p1 K (Qg rfl ev17) fun _ K=>?_;replace M:=M.XJ q17 hr1 hn1;refine au 2 K M ?_;intro _ _ K _ M;refine Jw ⟨.inr rfl,_,(Ud (JG K rfl (M.load (k:=0) rfl (QN Jr rfl))) (Q6 K rfl)),?_⟩
  have ho:o=[117,110,105,111,110]:=by assumption
  subst ho
  have hlp:Jc [117,110,105,111,110] nn=0:=by simp[Jc]
  refine⟨174,[.ptr c9 0 0],?_,?_,Ff _ _,M.qt⟩
  ·rw[show Qv [117,110,105,111,110] nn=0+1 from congrArg (· +1) hlp,hlp];try rfl
  ·exact Rf M.fresh (M.Yb (k:=2) rfl)
 refine Qb 0 K M fun _ K=>?_;refine p1 K (QU (b:=[105,110,116,101,114]) rfl rfl) fun _ K=>?_;refine Qb 1 K M fun _ K=>?_;refine Jy K rfl (fun h18=>?_) fun h18=>?_
 ·refine Qb 0 K M fun _ K=>?_;obtain⟨v20,st20,ev20,c9,rfl,hr1,hn1,q20⟩:=AT M.fresh 164;refine p1 K (Qg rfl ev20) fun _ K=>?_;replace M:=M.XJ q20 hr1 hn1;refine au 2 K M ?_;intro _ _ K _ M;refine Jw ⟨.inr rfl,_,(Ud (JG K rfl (M.load (k:=0) rfl (QN Jr rfl))) (Q6 K rfl)),?_⟩
  have ho:o=[105,110,116,101,114]:=by assumption
  subst ho
  have hlp:Jc [105,110,116,101,114] nn=0:=by simp[Jc]
  refine⟨174,[.ptr c9 0 0],?_,?_,Ff _ _,M.qt⟩
  ·rw[show Qv [105,110,116,101,114] nn=0+1 from congrArg (· +1) hlp,hlp];try rfl
  ·exact Re M.fresh (M.Yb (k:=2) rfl)
 refine Qb 0 K M fun _ K=>?_;refine p1 K (QU (b:=[109,105,110,117,115]) rfl rfl) fun _ K=>?_;refine Qb 1 K M fun _ K=>?_;refine Jy K rfl (fun h21=>?_) fun h21=>?_
 ·refine Qb 0 K M fun _ K=>?_;obtain⟨v23,st23,ev23,c9,rfl,hr1,hn1,q23⟩:=AT M.fresh 165;refine p1 K (Qg rfl ev23) fun _ K=>?_;replace M:=M.XJ q23 hr1 hn1;refine au 2 K M ?_;intro _ _ K _ M;refine Jw ⟨.inr rfl,_,(Ud (JG K rfl (M.load (k:=0) rfl (QN Jr rfl))) (Q6 K rfl)),?_⟩
  have ho:o=[109,105,110,117,115]:=by assumption
  subst ho
  have hlp:Jc [109,105,110,117,115] nn=0:=by simp[Jc]
  refine⟨174,[.ptr c9 0 0],?_,?_,Ff _ _,M.qt⟩
  ·rw[show Qv [109,105,110,117,115] nn=0+1 from congrArg (· +1) hlp,hlp];try rfl
  ·exact Rc M.fresh (M.Yb (k:=2) rfl)
 refine Qb 0 K M fun _ K=>?_;refine p1 K (QU (b:=[115,105,110,103]) rfl rfl) fun _ K=>?_;refine Qb 1 K M fun _ K=>?_;refine Jy K rfl (fun h24=>?_) fun h24=>?_
 ·refine au 3 K M ?_;intro _ _ K _ M;refine Jw ⟨.inr rfl,_,(Ud (JG K rfl (M.load (k:=0) rfl (QN Jr rfl))) (Q6 K rfl)),?_⟩
  have ho:o=[115,105,110,103]:=by assumption
  subst ho
  have hlp:Jc [115,105,110,103] nn=1:=by simp[Jc]
  refine⟨166,[],?_,?_,Ck _,M.qt⟩
  ·rw[show Qv [115,105,110,103] nn=1+1 from congrArg (· +1) hlp,hlp];try rfl
  ·exact fun st1 q s x y z hs=>Mn q.fresh nn s x y z hs
 refine Qb 0 K M fun _ K=>?_;refine p1 K (QU (b:=[102,108,97,103]) rfl rfl) fun _ K=>?_;refine Qb 1 K M fun _ K=>?_;refine Jy K rfl (fun h27=>?_) fun h27=>?_
 ·refine au 3 K M ?_;intro _ _ K _ M;refine Jw ⟨.inr rfl,_,(Ud (JG K rfl (M.load (k:=0) rfl (QN Jr rfl))) (Q6 K rfl)),?_⟩
  have ho:o=[102,108,97,103]:=by assumption
  subst ho
  have hlp:Jc [102,108,97,103] nn=1:=by simp[Jc]
  refine⟨167,[],?_,?_,Ck _,M.qt⟩
  ·rw[show Qv [102,108,97,103] nn=1+1 from congrArg (· +1) hlp,hlp];try rfl
  ·exact fun st1 q s x y z hs=>yr q.fresh nn s x y z hs
 refine Qb 0 K M fun _ K=>?_;refine p1 K (QU (b:=[108,101,115,115]) rfl rfl) fun _ K=>?_;refine Qb 1 K M fun _ K=>?_;refine Jy K rfl (fun h30=>?_) fun h30=>?_
 ·refine au 3 K M ?_;intro _ _ K _ M;refine Jw ⟨.inr rfl,_,(Ud (JG K rfl (M.load (k:=0) rfl (QN Jr rfl))) (Q6 K rfl)),?_⟩
  have ho:o=[108,101,115,115]:=by assumption
  subst ho
  have hlp:Jc [108,101,115,115] nn=2:=by simp[Jc]
  refine⟨168,[],?_,?_,Ck _,M.qt⟩
  ·rw[show Qv [108,101,115,115] nn=2+1 from congrArg (· +1) hlp,hlp];try rfl
  ·exact fun st1 q s x y z hs=>uR q.fresh nn s x y z hs
 refine Qb 0 K M fun _ K=>?_;refine p1 K (QU (b:=[112,108,117,115]) rfl rfl) fun _ K=>?_;refine Qb 1 K M fun _ K=>?_;refine Jy K rfl (fun h33=>?_) fun h33=>?_
 ·refine Qb 2 K M fun _ K=>?_;obtain⟨v37,st37,ev37,c8,c9,rfl,hr1,hr3,hn1,hn3,hne,q37⟩:=Sd M.fresh nn hn;refine p1 K (Qg rfl ev37) fun _ K=>?_;replace M:=M.Pw q37 hr1 hr3 hn1 hn3 hne;refine au 2 K M ?_;intro _ _ K _ M;refine Jw ⟨.inr rfl,_,(Ud (JG K rfl (M.load (k:=0) rfl (QN Jr rfl))) (Q6 K rfl)),?_⟩
  have ho:o=[112,108,117,115]:=by assumption
  subst ho
  have hlp:Jc [112,108,117,115] nn=nn+1:=by simp[Jc]
  refine⟨175,[.ptr c8 0 0,.ptr c9 0 0],?_,?_,Cj _ _ _,M.qt⟩
  ·rw[show Qv [112,108,117,115] nn=nn+1+1 from congrArg (· +1) hlp,hlp];try rfl
  ·exact fun st1 q s x y z hs=>Pn q.fresh nn s x y z hs hn ((M.Yb (k:=2) rfl).later M.fresh q) ((M.Yb (k:=3) rfl).later M.fresh q)
 refine Qb 0 K M fun _ K=>?_;refine p1 K (QU (b:=[110,117,109]) rfl rfl) fun _ K=>?_;refine Qb 1 K M fun _ K=>?_;refine Jy K rfl (fun h38=>?_) fun h38=>?_
 ·refine Qb 2 K M fun _ K=>?_;obtain⟨v42,st42,ev42,c8,c9,rfl,hr1,hr3,hn1,hn3,hne,q42⟩:=MK M.fresh nn hn;refine p1 K (Qg rfl ev42) fun _ K=>?_;replace M:=M.Pw q42 hr1 hr3 hn1 hn3 hne;refine au 2 K M ?_;intro _ _ K _ M;refine Jw ⟨.inr rfl,_,(Ud (JG K rfl (M.load (k:=0) rfl (QN Jr rfl))) (Q6 K rfl)),?_⟩
  have ho:o=[110,117,109]:=by assumption
  subst ho
  have hlp:Jc [110,117,109] nn=nn+1:=by simp[Jc]
  refine⟨176,[.ptr c9 0 0,.ptr c8 0 0],?_,?_,Cj _ _ _,M.qt⟩
  ·rw[show Qv [110,117,109] nn=nn+1+1 from congrArg (· +1) hlp,hlp];try rfl
  ·exact fun st1 q s x y z hs=>R7 q.fresh nn s x y z hs hn ((M.Yb (k:=2) rfl).later M.fresh q) ((M.Yb (k:=3) rfl).later M.fresh q)
 refine au 3 K M ?_;intro _ _ K _ M;refine Jw ⟨.inr rfl,_,(Ud (JG K rfl (M.load (k:=0) rfl (QN Jr rfl))) (Q6 K rfl)),?_⟩
 exfalso
 unfold VP at hat
 simp_all

theorem Ot(hf:Qi st){c11 l v1:Nat}(hr:Qy st.h.get c11 0 [iN l])(hl:l≤64)(hv:v1≤6): ∃v st',Jh 139 [iN v1,.ptr c11 0 0] st v st'∧v=.bool (ZA l v1)∧Qt st st':=by
 refine JA Tryz.func139 Tryz.ntmps139 fun T K=>?_;have M:=Mem.start hf;refine Qb 1 K M fun _ K=>?_;refine p1 K (Qf rfl (Qx (M.JH Q7 hr.Jd) (Qd Qn rfl))) fun _ K=>?_;refine Qb 1 K M fun _ K=>?_;refine p1 K (ZV (a:=l) (n:=v1) rfl rfl Qc) fun _ K=>p1 K (Zz (a:=(l/2^v1)) rfl rfl (Nat.le_trans (Nat.div_le_self _ _) Qc)) fun _ K=>?_;refine Qb 2 K M ?_;exact⟨rfl,M.qt⟩

theorem aq {R : Ee} (hf : Qi st) (hR : Y8 R st.h.get) {o : List Nat} {an bn gn nn k : Nat} {l : List Cr} {cs : List AV} (hr : ZO R (.mk o ((an : Nat) : Int) ((bn : Nat) : Int) ((gn : Nat) : Int) ((nn : Nat) : Int) l) cs) (hat : VP o) (hn : nn ≤ 20) (ha6 : an ≤ 6) (hb6 : bn ≤ 6) (hg6 : gn ≤ 6) (hk6 : k ≤ 6) (hsz : XZ (.mk o ((an : Nat) : Int) ((bn : Nat) : Int) ((gn : Nat) : Int) ((nn : Nat) : Int) l) ≤ 2000) (hc : QX (.mk o ((an : Nat) : Int) ((bn : Nat) : Int) ((gn : Nat) : Int) ((nn : Nat) : Int) l) ((k : Nat) : Int) = true) : ∃ v st', Jh 110 [.agg cs, iN k] st v st' ∧ ∃ dp F m, v = .tup [.ptr dp 0 0, iZ 0] ∧ JS (Zo o an bn gn nn k) m ∧ UZ st' F dp m ∧ ZQ st st' F ∧ Qt st st' := by
 have hr0 := hr;obtain ⟨kc, ls, rfl, hK⟩ := hr.U5;have hln := hK.ln;have hbn := hK.Wv;have hp6 := J9 hk6;have hll := Az (o := o) nn hn;have hsp : Qv o nn = Jc o nn + 1 := rfl;refine JA Tryz.func110 Tryz.ntmps110 fun T K => ?_;have M := Mem.start hf;refine Qb 0 K M fun _ K => ?_;refine Ju K M rfl (Qa rfl (Qa rfl (Qa rfl (Qa rfl (Qa rfl (Qa hK.cell Q4)))))) Q9 fun c2 _ _ K M => ?_;refine Qb 3 K M fun _ K => ?_;obtain ⟨v18, st18, ev18, f, fc, rfl, hmach, hfe, q18⟩ := qM M.fresh (M.Y8 hR) hr0 hat hn;refine p1 K (Qg rfl ev18) fun _ K => ?_;replace M := M.quiet q18;have hq0 := M.qt; have hc2 := M.Yb (k := 0) rfl; have hfm := M.fresh;replace hR := M.Y8 hR;obtain ⟨st, rfl⟩ : ∃ s : St, s = st18 := ⟨_, rfl⟩;have B := Qk.start hfm;replace M := B.mem;refine au 9 K M ?_;intro c6 _ _ K _ M;refine pg K rfl rfl (Qf rfl (Qx ((B.step M).UI hfm hc2.Jd id) (QN Jg rfl))) fun _ K => ?_;refine Qb 1 K M fun _ K => ?_;obtain ⟨v26, st26, ev26, rfl, q26⟩ := TO M.fresh (fun c m l hr => (B.step M).UI hfm (hR c m l hr) id) hr0 (m := ((k : Nat) : Int)) Qc Qc hsz hc;refine pg K rfl rfl (Qg rfl ev26) fun _ K => ?_;replace M := M.quiet q26;refine au 7 K M ?_;intro c8 _ _ K _ M;replace B := (B.step M).V7;have M := B.mem;refine Qb 4 K M fun _ K => ?_;refine QY (fun mm1 T st9 => ∃ (i : Nat) (vs : List AV) (Fr : Fp) (ka : AV) (Aa : QS) (kr : AV) (Ar : QS), mm1 = Qv o nn + 1 - i ∧ QT [(1, iN k), (2, .ptr c2 0 0), (4, .nilp), (5, iZ 0), (6, .ptr c6 0 0), (8, .ptr c8 0 0), (33, iZ (((((Qv o nn) : Nat) : Int) + 1))), (34, iN i)] T ∧ Qk st Xi st9 ((c8, 0, [iN k, ka, kr]) :: (c6, 0, [(.fn f [] fc), iZ (Jc o nn : Nat), iZ (Qv o nn : Nat)]) :: (Aa ++ (Ar ++ []))) [ES Fr vs ((List.range i).map (Rl o nn an bn gn k))] ∧ i ≤ Qv o nn + 1 ∧ Acc 0 1 Aa ka (bC ((List.range i).map fun s => decide (((s : Nat) : Int) = ((Jc o nn : Nat) : Int)))) ∧ YS Ar kr vs) (fun mm1 T st9 hI => ?_) _ _ _ ⟨0, [], _, .nils, [], .nils, [], rfl, (K.sub rfl), (B.step M).less (.refl _), (Nat.zero_le _), .none, .none⟩;obtain ⟨i, vs, Fr, ka, Aa, kr, Ar, rfl, K, B, hi, hAa, hAr⟩ := hI;have M := B.mem;refine Qb 1 K M fun _ K => ?_;refine Jy K rfl (fun h35 => ?_) fun h35 => ?_
 · refine Qb 4 K M fun _ K => ?_;refine p1 K (UU (n := k) rfl rfl Qc) fun _ K => ?_;refine Qb 1 K M fun _ K => ?_;refine QY (fun mm2 T st9 => ∃ (c : Nat) (kw : AV) (Aw : QS), mm2 = 2 ^ k - c ∧ QT [(1, iN k), (2, .ptr c2 0 0), (4, .nilp), (5, iZ 0), (6, .ptr c6 0 0), (8, .ptr c8 0 0), (9, iN i), (10, kw), (33, iZ (((((Qv o nn) : Nat) : Int) + 1))), (34, iN i), (35, .bool (decide (((i : Nat) : Int) < ((((Qv o nn) : Nat) : Int) + 1)))), (38, iZ (2 ^ k : Nat)), (39, iN c)] T ∧ Qk st Xi st9 ((c8, 0, [iN k, ka, kr]) :: (c6, 0, [(.fn f [] fc), iZ (Jc o nn : Nat), iZ (Qv o nn : Nat)]) :: (Aa ++ (Ar ++ (Aw ++ [])))) [ES Fr vs ((List.range i).map (Rl o nn an bn gn k))] ∧ c ≤ 2 ^ k ∧ Acc 0 1 Aw kw (zC ((List.range c).map fun l => ((EL o nn an bn gn i l : Nat) : Int)))) (fun mm2 T st9 hI => ?_) _ _ _ ⟨0, .nils, [], rfl, (K.sub rfl), (B.step M).less (.refl _), (Nat.zero_le _), .none⟩;obtain ⟨c, kw, Aw, rfl, K, B, hcK, hAw⟩ := hI;have M := B.mem;refine Qb 1 K M fun _ K => ?_;refine Jy K rfl (fun h40 => ?_) fun h40 => ?_
   · refine au 3 K M ?_;intro c11 _ _ K _ M;refine p1 K (X1 rfl rfl) fun _ K => ?_;refine Qb 6 K M fun _ K => ?_;refine Jy K rfl (fun h46 => ?_) fun h46 => ?_
     · refine QC (l := [(3, 0), (4, 0), (5, 0), (6, 0), (7, 0), (8, 0), (9, 1), (10, 0), (11, 0), (12, 0), (13, 2), (14, 0), (0, 0), (1, 3), (2, 0), (15, 0), (16, 0)]) (by kernel_rfl) ?_;have Mq := M;have Mz0 := M;have Bz0 := B;refine Jo 2 K M fun _ K => ?_;refine q1 rfl K (Qf rfl (Qx ((B.step M).UI hfm hc2.Jd id) (Qd Qn rfl))) fun _ K => ?_;have r11 := M.Yb (k := 0) rfl;obtain ⟨v53, st53, ev53, rfl, q53⟩ := Ot M.fresh (v1 := an) (l := c) r11 Qc Qc;refine qA rfl K (ZW rfl rfl ev53) fun _ K => ?_;replace M := M.quiet q53;have Mp := Mq;have Mq := M;have Mz1 := M;have Bz1 := B;refine Jo 2 K M fun _ K => ?_;refine Jt rfl K rfl (Qx ((B.step M).UI hfm hc2.Jd id) (Qd Qn rfl)) (Qx ((B.step Mp).UI hfm hc2.Jd id) (Qd Qn rfl)) (JQ rfl) rfl Q9 fun _ K => ?_;have r11 := M.Yb (k := 0) rfl;obtain ⟨v57, st57, ev57, rfl, q57⟩ := Ot M.fresh (v1 := bn) (l := c) r11 Qc Qc;refine qA rfl K (ZW rfl rfl ev57) fun _ K => ?_;replace M := M.quiet q57;have Mp := Mq;have Mq := M;have Mz2 := M;have Bz2 := B;refine Jo 2 K M fun _ K => ?_
       refine W5 rfl K rfl (Qx ((B.step M).UI hfm hc2.Jd id) (Qd Qn rfl)) Q7 (by intro s hs; simp only [List.take_succ_cons, List.take_zero, List.mem_cons, List.not_mem_nil, or_false] at hs; rcases hs with rfl | rfl <;> first | exact (Qx ((Bz1.step Mz1).UI hfm hc2.Jd id) (Qd Qn rfl)) | exact (Qx ((Bz0.step Mz0).UI hfm hc2.Jd id) (Qd Qn rfl))) (JQ rfl) rfl Q9 fun _ K => ?_
       have r11 := M.Yb (k := 0) rfl;obtain ⟨v61, st61, ev61, rfl, q61⟩ := Ot M.fresh (v1 := gn) (l := c) r11 Qc Qc;refine qA rfl K (ZW rfl rfl ev61) fun _ K => ?_;replace M := M.quiet q61;have Mp := Mq;have Mq := M;have Mz3 := M;have Bz3 := B;refine Jo 1 K M fun _ K => ?_
       refine W5 rfl K rfl (M.load (k := 2) rfl (Qd J6 rfl)) Q7 (by intro s hs; simp only [List.take_succ_cons, List.take_zero, List.mem_cons, List.not_mem_nil, or_false] at hs; rcases hs with rfl | rfl | rfl <;> first | exact (Mz2.load (k := 2) rfl (Qd J6 rfl)) | exact (Mz1.load (k := 2) rfl (Qd J6 rfl)) | exact (Mz0.load (k := 2) rfl (Qd J6 rfl))) hfe rfl Q9 fun _ K => ?_
       refine q1 rfl K (Q0 rfl) fun _ K => ?_;obtain ⟨v62, st62, ev62, rfl, q62⟩ := hmach _ (B.step M).qt i (ZA c an) (ZA c bn) (ZA c gn) Qc;refine qA rfl K (ZW rfl rfl ev62) fun _ K => ?_;replace M := M.quiet q62;have Mp := Mq;have Mq := M;have Mz4 := M;have Bz4 := B;refine q1 rfl K (JW rfl) fun _ K => QF ?_;show W _ _ _ _ _ _ _;refine Qb 2 K M fun _ K => ?_;refine Qp (K.QG rfl) (fun h64 => ?_) (fun h64 => ?_)
       · have hb64 := h64;replace h64 := of_decide_eq_true h64;refine au 6 K M ?_;intro c69 _ _ K _ M;refine Jf (k2 := 0) (L := ((c69, 0, [iZ (Qv o nn : Nat)]) :: (c11, 0, [iN c]) :: (c8, 0, [iN k, ka, kr]) :: (c6, 0, [(.fn f [] fc), iZ (Jc o nn : Nat), iZ (Qv o nn : Nat)]) :: (Aa ++ (Ar ++ [])))) (A := Aw) (B := []) K (Mem.cast M U0) hAw QJ rfl rfl rfl rfl (by rw [Qq, List.length_map, List.length_range]; omega) rfl fun ks70 A70 _ _ K hA70 M => ?_;simp only [X3] at M;have Mz5 := M;have Bz5 := B;refine Qb 3 K M fun _ K => ?_
         have hnx : iZ (EL o nn an bn gn i c : Nat) = iZ (Qv o nn : Nat) := by
           refine congrArg (AV.int .i64) ?_;unfold EL
           first
           | exact absurd rfl h64
           | (rw [if_neg Qc]; done)
           | (rw [if_pos Qc, if_pos (by assumption)]; done)
           | (rw [if_pos Qc, if_neg (by assumption)]
              rcases jw hat hn (show i < Qv o nn by omega) (ZA c an) (ZA c bn) (ZA c gn) with ⟨h1, _⟩ | ⟨t, h1, _⟩
              · exact absurd h1 (by assumption)
              · rw [h1]; rfl)
         have hrs : (List.range (c + 1)).map (fun l => ((EL o nn an bn gn i l : Nat) : Int)) = (List.range c).map (fun l => ((EL o nn an bn gn i l : Nat) : Int)) ++ [((EL o nn an bn gn i c : Nat) : Int)] := by rw [List.range_succ, List.map_append]; rfl
         exact ⟨_, Qc, c + 1, ks70, A70, rfl, (K.sub rfl), (B.step M).less (.cons _ (.cons _ (.refl _))), Qc, (by rw [hrs, JX, show zC [((EL o nn an bn gn i c : Nat) : Int)] = [[iZ (EL o nn an bn gn i c : Nat)]] from rfl, hnx]; exact hA70)⟩
       have hb64 := h64;replace h64 := of_decide_eq_false h64;refine au 3 K M ?_;intro c69 _ _ K _ M;refine Jf (k2 := 0) (L := ((c69, 0, [iZ ((Jq o nn i (ZA c an) (ZA c bn) (ZA c gn)))]) :: (c11, 0, [iN c]) :: (c8, 0, [iN k, ka, kr]) :: (c6, 0, [(.fn f [] fc), iZ (Jc o nn : Nat), iZ (Qv o nn : Nat)]) :: (Aa ++ (Ar ++ [])))) (A := Aw) (B := []) K (Mem.cast M U0) hAw QJ rfl rfl rfl rfl (by rw [Qq, List.length_map, List.length_range]; omega) rfl fun ks70 A70 _ _ K hA70 M => ?_;simp only [X3] at M;have Mz5 := M;have Bz5 := B;refine Qb 3 K M fun _ K => ?_
       have hnx : iZ (EL o nn an bn gn i c : Nat) = iZ ((Jq o nn i (ZA c an) (ZA c bn) (ZA c gn))) := by
         refine congrArg (AV.int .i64) ?_;unfold EL
         first
         | exact absurd rfl h64
         | (rw [if_neg Qc]; done)
         | (rw [if_pos Qc, if_pos (by assumption)]; done)
         | (rw [if_pos Qc, if_neg (by assumption)]
            rcases jw hat hn (show i < Qv o nn by omega) (ZA c an) (ZA c bn) (ZA c gn) with ⟨h1, _⟩ | ⟨t, h1, _⟩
            · exact absurd h1 (by assumption)
            · rw [h1]; rfl)
       have hrs : (List.range (c + 1)).map (fun l => ((EL o nn an bn gn i l : Nat) : Int)) = (List.range c).map (fun l => ((EL o nn an bn gn i l : Nat) : Int)) ++ [((EL o nn an bn gn i c : Nat) : Int)] := by rw [List.range_succ, List.map_append]; rfl
       exact ⟨_, Qc, c + 1, ks70, A70, rfl, (K.sub rfl), (B.step M).less (.cons _ (.cons _ (.refl _))), Qc, (by rw [hrs, JX, show zC [((EL o nn an bn gn i c : Nat) : Int)] = [[iZ (EL o nn an bn gn i c : Nat)]] from rfl, hnx]; exact hA70)⟩
     refine Qb 2 K M fun _ K => ?_;refine Qp (K.QG rfl) (fun h64 => ?_) (fun h64 => ?_)
     · have hb64 := h64;replace h64 := of_decide_eq_true h64;refine au 6 K M ?_;intro c69 _ _ K _ M;refine Jf (k2 := 0) (L := ((c69, 0, [iZ (Qv o nn : Nat)]) :: (c11, 0, [iN c]) :: (c8, 0, [iN k, ka, kr]) :: (c6, 0, [(.fn f [] fc), iZ (Jc o nn : Nat), iZ (Qv o nn : Nat)]) :: (Aa ++ (Ar ++ [])))) (A := Aw) (B := []) K (Mem.cast M U0) hAw QJ rfl rfl rfl rfl (by rw [Qq, List.length_map, List.length_range]; omega) rfl fun ks70 A70 _ _ K hA70 M => ?_;simp only [X3] at M;refine Qb 3 K M fun _ K => ?_
       have hnx : iZ (EL o nn an bn gn i c : Nat) = iZ (Qv o nn : Nat) := by
         refine congrArg (AV.int .i64) ?_;unfold EL
         first
         | exact absurd rfl h64
         | (rw [if_neg Qc]; done)
         | (rw [if_pos Qc, if_pos (by assumption)]; done)
         | (rw [if_pos Qc, if_neg (by assumption)]
            rcases jw hat hn (show i < Qv o nn by omega) (ZA c an) (ZA c bn) (ZA c gn) with ⟨h1, _⟩ | ⟨t, h1, _⟩
            · exact absurd h1 (by assumption)
            · rw [h1]; rfl)
       have hrs : (List.range (c + 1)).map (fun l => ((EL o nn an bn gn i l : Nat) : Int)) = (List.range c).map (fun l => ((EL o nn an bn gn i l : Nat) : Int)) ++ [((EL o nn an bn gn i c : Nat) : Int)] := by rw [List.range_succ, List.map_append]; rfl
       exact ⟨_, Qc, c + 1, ks70, A70, rfl, (K.sub rfl), (B.step M).less (.cons _ (.cons _ (.refl _))), Qc, (by rw [hrs, JX, show zC [((EL o nn an bn gn i c : Nat) : Int)] = [[iZ (EL o nn an bn gn i c : Nat)]] from rfl, hnx]; exact hA70)⟩
     have hb64 := h64;replace h64 := of_decide_eq_false h64;refine au 3 K M ?_;intro c69 _ _ K _ M;refine Jf (k2 := 0) (L := ((c69, 0, [iZ (-1)]) :: (c11, 0, [iN c]) :: (c8, 0, [iN k, ka, kr]) :: (c6, 0, [(.fn f [] fc), iZ (Jc o nn : Nat), iZ (Qv o nn : Nat)]) :: (Aa ++ (Ar ++ [])))) (A := Aw) (B := []) K (Mem.cast M U0) hAw QJ rfl rfl rfl rfl (by rw [Qq, List.length_map, List.length_range]; omega) rfl fun ks70 A70 _ _ K hA70 M => ?_;simp only [X3] at M;refine Qb 3 K M fun _ K => ?_
     have hnx : iZ (EL o nn an bn gn i c : Nat) = iZ (-1) := by
       refine congrArg (AV.int .i64) ?_;unfold EL
       first
       | exact absurd rfl h64
       | (rw [if_neg Qc]; done)
       | (rw [if_pos Qc, if_pos (by assumption)]; done)
       | (rw [if_pos Qc, if_neg (by assumption)]
          rcases jw hat hn (show i < Qv o nn by omega) (ZA c an) (ZA c bn) (ZA c gn) with ⟨h1, _⟩ | ⟨t, h1, _⟩
          · exact absurd h1 (by assumption)
          · rw [h1]; rfl)
     have hrs : (List.range (c + 1)).map (fun l => ((EL o nn an bn gn i l : Nat) : Int)) = (List.range c).map (fun l => ((EL o nn an bn gn i l : Nat) : Int)) ++ [((EL o nn an bn gn i c : Nat) : Int)] := by rw [List.range_succ, List.map_append]; rfl
     exact ⟨_, Qc, c + 1, ks70, A70, rfl, (K.sub rfl), (B.step M).less (.cons _ (.cons _ (.refl _))), Qc, (by rw [hrs, JX, show zC [((EL o nn an bn gn i c : Nat) : Int)] = [[iZ (EL o nn an bn gn i c : Nat)]] from rfl, hnx]; exact hA70)⟩
   refine QM ?_;show W _ _ _ _ _ _ _;refine Jz ?_
   have hce : c = 2 ^ k := by omega
   rw [hce] at hAw;refine Qb 1 K M fun _ K => ?_;refine p1 K (Qf rfl (M.load (k := 0) rfl (Qd Q8 rfl))) fun _ K => ?_;refine Qb 1 K M fun _ K => ?_;refine X5 K M QQ Uu rfl ((JD rfl hAw.cell rfl).trans rfl) (Qa hAw.cell Q4) rfl rfl fun c75 _ _ K M => ?_;refine YL (k2 := 0) (L := ((c75, 0, [kw]) :: (c8, 0, [iN k, ka, kr]) :: (c6, 0, [(.fn f [] fc), iZ (Jc o nn : Nat), iZ (Qv o nn : Nat)]) :: (Aa ++ []))) (A := Ar) (B := (Aw ++ [])) K (Mem.cast M U0) hAr QQ rfl rfl rfl (by have := Zl.ln ((B.step M).at_ (k := 0) rfl); rw [List.length_map, List.length_range] at this; omega) rfl fun ks76 A76 _ _ K hA76 _ M => ?_;simp only [X3] at M;refine Qb 1 K M fun _ K => ?_;refine Jl (k := 1) K M rfl rfl rfl Uy (hA76.cell) rfl fun _ M => ?_;refine au 7 K M ?_;intro c84 _ _ K _ M;refine Jf (k2 := 0) (L := [(c84, 0, [.bool (decide (((i : Nat) : Int) = (((Jc o nn) : Nat) : Int)))]), (c75, 0, [kw]), (c8, 0, [iN k, ka, ks76]), (c6, 0, [(.fn f [] fc), iZ (Jc o nn : Nat), iZ (Qv o nn : Nat)])]) (A := Aa) (B := (A76 ++ (Aw ++ []))) K M hAa J4 rfl rfl rfl rfl (by rw [Uq, List.length_map, List.length_range]; omega) rfl fun ks85 A85 _ _ K hA85 M => ?_;refine Qb 1 K M fun _ K => ?_;refine Jl (k := 2) K M rfl rfl rfl UH (hA85.cell) rfl fun _ M => ?_;refine Qb 2 K M fun _ K => ?_;replace B := B.step M;obtain ⟨Fr, B⟩ := Qk.ZD (L := ((c84, 0, [.bool (decide (((i : Nat) : Int) = (((Jc o nn) : Nat) : Int)))]) :: (c75, 0, [kw]) :: (c8, 0, [iN k, ks85, ks76]) :: (c6, 0, [(.fn f [] fc), iZ (Jc o nn : Nat), iZ (Qv o nn : Nat)]) :: (A85 ++ (A76 ++ [])))) (A := Aw) (B := []) (B.cast U0) hAw (fun z hz => by obtain ⟨l, _, rfl⟩ := List.mem_map.1 hz; have := uo (a := an) (b := bn) (d := gn) hat hn i l; omega);replace B := B.cast (M' := ((c84, 0, [.bool (decide (((i : Nat) : Int) = (((Jc o nn) : Nat) : Int)))]) :: (c75, 0, [kw]) :: (c8, 0, [iN k, ks85, ks76]) :: (c6, 0, [(.fn f [] fc), iZ (Jc o nn : Nat), iZ (Qv o nn : Nat)]) :: (A85 ++ (A76 ++ [])))) U0;have M := B.mem
   have hrr : (List.range (i + 1)).map (Rl o nn an bn gn k) = (List.range i).map (Rl o nn an bn gn k) ++ [(List.range (2 ^ k)).map fun l => ((EL o nn an bn gn i l : Nat) : Int)] := by rw [List.range_succ, List.map_append]; rfl
   rw [← hrr] at B;have M := B.mem;exact ⟨_, Qc, i + 1, _, _, ks85, A85, ks76, A76, rfl, (K.sub rfl), (B.step M).less (.cons _ (.cons _ (.refl _))), Qc, (by rw [List.range_succ, List.map_append, XS]; exact hA85), hA76⟩
 refine QM ?_;show W _ _ _ _ _ _ _;refine Qb 1 K M fun _ K => ?_;replace B := B.step M
 have hie : i = Qv o nn + 1 := by omega
 subst hie;have hwf := jM (a := an) (b := bn) (d := gn) (k := k) hat hn hk6;obtain ⟨Fo, B⟩ := Qk.Bt (L := ((c8, 0, [iN k, ka, kr]) :: (c6, 0, [(.fn f [] fc), iZ (Jc o nn : Nat), iZ (Qv o nn : Nat)]) :: (Aa ++ []))) (A := Ar) (B := []) (B.cast U0) hAr;replace B := B.cast (M' := ((c8, 0, [iN k, ka, kr]) :: (c6, 0, [(.fn f [] fc), iZ (Jc o nn : Nat), iZ (Qv o nn : Nat)]) :: (Aa ++ []))) U0;have M := B.mem;obtain ⟨v90, st90, ev90, dq2, F2, rfl, hD2, nf2, q90⟩ := Ed (a := V2 o an bn gn nn k) B.fresh hwf (Mem.Y6 (L := [(c8, 0, [iN k, ka, kr]), (c6, 0, [(.fn f [] fc), iZ (Jc o nn : Nat), iZ (Qv o nn : Nat)])]) (A := Aa) (B := []) M hAa) (Xw.r (B.at_ (k := 0) rfl));refine p1 K (Qg rfl ev90) fun _ K => ?_;replace B := B.new (o := Ip F2 dq2 (V2 o an bn gn nn k)) q90 hD2.at_ nf2;have M := B.mem;refine Qb 7 K M fun _ K => ?_;refine Qp (K.QG rfl) (fun h94 => ?_) (fun h94 => ?_)
 · have hb94 := h94
   replace h94 : ¬ (0 = 0) := by first | exact of_decide_eq_false h94 | exact yF h94 | simpa using h94
   exfalso; omega
 have hb94 := h94
 replace h94 : (0 = 0) := by first | exact of_decide_eq_true h94 | exact yT h94 | simpa using h94
 refine Qb 1 K M fun _ K => ?_;replace B := B.step M;obtain ⟨v97, st97, ev97, dp3, F3, m, rfl, hlm, hD3, nf3, q97⟩ := T4 B.fresh (B.ja (k := 0) rfl);refine p1 K (Qg rfl ev97) fun _ K => ?_;have hle3 := B.le;replace B := B.quiet q97;have M := B.mem;refine Qb 4 K M ?_;exact ⟨dp3, F3, m, rfl, hlm.atom hat hn, hD3, fun c hc => ⟨Nat.le_trans hq0.le (Nat.le_trans hle3 (nf3 c hc).1), (nf3 c hc).2⟩, hq0.trans (B.step M).qt⟩
end Go.Proofs.YtiknomepbklibaaGreatDoor
