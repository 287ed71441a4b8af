/-
  Atoms: which machine is an atom's; its automaton.
-/
import Derived.Test.YtildagdnomiahaaGreatDoorQvAtm
namespace Go.Proofs.YtildagdnomiahaaGreatDoor
open Go Go.RowKit
set_option maxHeartbeats 8000000
set_option linter.unusedVariables false
set_option linter.unusedSimpArgs false
set_option linter.unnecessarySimpa false
set_option linter.unusedSectionVars false
set_option maxRecDepth 100000
variable {c1 n:Nat} {st:St}

theorem RJ(hf:Qh st)(n:Nat)(hn:n≤20): ∃v st',QV 282 [iN n] st v st'∧ ∃c1 c3,v=.agg [.fn 302 [] [.ptr c1 0 0,.ptr c3 0 0],iZ (n+1:Nat),iZ (n+2:Nat)]∧Qu st'.h.get c1 0 [iN n]∧Qu st'.h.get c3 0 [iZ (n+1:Nat)]∧st.n≤c1∧st.n≤c3∧c1≠c3∧Qt st st':=by
 refine Jv Tryz.func282 Tryz.ntmps282 fun T K=>?_;have M:=Mem.start hf;refine au 6 K M ?_;intro c1 c2 c3 _ _ K _ M;refine p1 K (Y6 rfl rfl) fun _ K=>?_;refine au 5 K M ?_;intro _ _ K _ M;refine Qb 0 K M ?_;have hnd:=M.nodup;simp at hnd;exact⟨c1,c3,rfl,M.Ud (k:=2) rfl,M.Ud (k:=0) rfl,M.jH (k:=2) rfl,M.jH (k:=0) rfl,by omega,M.qt⟩

theorem Mh(hf:Qh st)(n:Nat)(hn:n≤20): ∃v st',QV 283 [iN n] st v st'∧ ∃c1 c3,v=.agg [.fn 303 [] [.ptr c3 0 0,.ptr c1 0 0],iZ (n+1:Nat),iZ (n+2:Nat)]∧Qu st'.h.get c1 0 [iN n]∧Qu st'.h.get c3 0 [iZ (n+1:Nat)]∧st.n≤c1∧st.n≤c3∧c1≠c3∧Qt st st':=by
 refine Jv Tryz.func283 Tryz.ntmps283 fun T K=>?_;have M:=Mem.start hf;refine au 6 K M ?_;intro c1 c2 c3 _ _ K _ M;refine p1 K (Y6 rfl rfl) fun _ K=>?_;refine au 5 K M ?_;intro _ _ K _ M;refine Qb 0 K M ?_;have hnd:=M.nodup;simp at hnd;exact⟨c1,c3,rfl,M.Ud (k:=2) rfl,M.Ud (k:=0) rfl,M.jH (k:=2) rfl,M.jH (k:=0) rfl,by omega,M.qt⟩

theorem PM(hf:Qh st)(hr:Qu st.h.get c1 0 [.fn 273 [] []]):FE st 301 [.ptr c1 0 0] [116,114,117,101] n:=fun st1 q s x y z hs=>by
 obtain⟨v,st2,h1,h2,h3⟩:=VY q.fresh (hr.later hf q) ay ((s:Nat):Int) x y z;refine⟨v,st2,h1,?_,h3⟩
 have e:QQ [116,114,117,101] n s x y z=(if(true)=true then 0 else-1):=by
  unfold QQ;rw[if_pos rfl];rfl
 rw[h2,e]

theorem PL(hf:Qh st)(hr:Qu st.h.get c1 0 [.fn 274 [] []]):FE st 301 [.ptr c1 0 0] [115,117,98] n:=fun st1 q s x y z hs=>by
 obtain⟨v,st2,h1,h2,h3⟩:=VY q.fresh (hr.later hf q) aw ((s:Nat):Int) x y z;refine⟨v,st2,h1,?_,h3⟩
 have e:QQ [115,117,98] n s x y z=(if((!x||y))=true then 0 else-1):=by
  unfold QQ;rw[if_neg Q9,if_pos rfl]
 rw[h2,e]

theorem PK(hf:Qh st)(hr:Qu st.h.get c1 0 [.fn 275 [] []]):FE st 301 [.ptr c1 0 0] [110,111,110,101] n:=fun st1 q s x y z hs=>by
 obtain⟨v,st2,h1,h2,h3⟩:=VY q.fresh (hr.later hf q) ao ((s:Nat):Int) x y z;refine⟨v,st2,h1,?_,h3⟩
 have e:QQ [110,111,110,101] n s x y z=(if((!x))=true then 0 else-1):=by
  unfold QQ;rw[if_neg Q9,if_neg Q9,if_pos rfl]
 rw[h2,e]

theorem PJ(hf:Qh st)(hr:Qu st.h.get c1 0 [.fn 276 [] []]):FE st 301 [.ptr c1 0 0] [117,110,105,111,110] n:=fun st1 q s x y z hs=>by
 obtain⟨v,st2,h1,h2,h3⟩:=VY q.fresh (hr.later hf q) ak ((s:Nat):Int) x y z;refine⟨v,st2,h1,?_,h3⟩
 have e:QQ [117,110,105,111,110] n s x y z=(if((z==(x||y)))=true then 0 else-1):=by
  unfold QQ;rw[if_neg Q9,if_neg Q9,if_neg Q9,if_pos rfl]
 rw[h2,e]

theorem PI(hf:Qh st)(hr:Qu st.h.get c1 0 [.fn 277 [] []]):FE st 301 [.ptr c1 0 0] [105,110,116,101,114] n:=fun st1 q s x y z hs=>by
 obtain⟨v,st2,h1,h2,h3⟩:=VY q.fresh (hr.later hf q) ai ((s:Nat):Int) x y z;refine⟨v,st2,h1,?_,h3⟩
 have e:QQ [105,110,116,101,114] n s x y z=(if((z==(x&&y)))=true then 0 else-1):=by
  unfold QQ;rw[if_neg Q9,if_neg Q9,if_neg Q9,if_neg Q9,if_pos rfl]
 rw[h2,e]

theorem PH(hf:Qh st)(hr:Qu st.h.get c1 0 [.fn 278 [] []]):FE st 301 [.ptr c1 0 0] [109,105,110,117,115] n:=fun st1 q s x y z hs=>by
 obtain⟨v,st2,h1,h2,h3⟩:=VY q.fresh (hr.later hf q) ag ((s:Nat):Int) x y z;refine⟨v,st2,h1,?_,h3⟩
 have e:QQ [109,105,110,117,115] n s x y z=(if((z==(x&& !y)))=true then 0 else-1):=by
  unfold QQ;rw[if_neg Q9,if_neg Q9,if_neg Q9,if_neg Q9,if_neg Q9,if_pos rfl]
 rw[h2,e]

theorem qd{R:W5}(hf:Qh st)(hR:X1 R st.h.get){o:List Nat}{an bn gn nn:Nat}{l:List Cr}{cs:List AV}(hr:Yr R (.mk o ((an:Nat):Int) ((bn:Nat):Int) ((gn:Nat):Int) ((nn:Nat):Int) l) cs)(hat:AG o)(hn:nn≤20): ∃v st',QV 252 [.agg cs] st v st'∧ ∃f fc,v=.tup [.agg [.fn f [] fc,iZ (QA o nn:Nat),iZ (Qo o nn:Nat)],.bool true]∧FE st' f fc o nn∧HI (.fn f [] fc) (.fn f [] fc)=true∧Qt st st':=by
 have hr0:=hr;obtain⟨kc,ls,rfl,hK⟩:=hr.ZG;have hln:=hK.ln;have hbn:=hK.AW;refine Jv Tryz.func252 Tryz.ntmps252 fun T K=>?_;have M:=Mem.start hf;refine Qb 0 K M fun _ K=>?_;refine JK K M rfl (Qa rfl (Qa rfl (Qa rfl (Qa rfl (Qa rfl (Qa hK.cell QL)))))) Q9 fun c1 _ _ K M=>?_;refine au 4 K M ?_;intro c2 _ _ K _ M;refine p1 K (JM (b:=[116,114,117,101]) rfl rfl) fun _ K=>?_;refine Qb 1 K M fun _ K=>?_;refine U8 K rfl (fun h6=>?_) fun h6=>?_
 ·refine Qb 0 K M fun _ K=>?_;obtain⟨v8,st8,ev8,c9,rfl,hr1,hn1,q8⟩:=Aj M.fresh 273;refine p1 K (Qf rfl ev8) fun _ K=>?_;replace M:=M.Xt q8 hr1 hn1;refine au 2 K M ?_;intro _ _ K _ M;refine Xd ⟨.inr rfl,_,(Yo (Yn K rfl (M.load (k:=0) rfl (QZ QU rfl))) (Yi K rfl)),?_⟩
  have ho:o=[116,114,117,101]:=by assumption
  subst ho
  have hlp:QA [116,114,117,101] nn=0:=by simp[QA]
  refine⟨301,[.ptr c9 0 0],?_,?_,A5 _ _,M.qt⟩
  ·rw[show Qo [116,114,117,101] nn=0+1 from congrArg (· +1) hlp,hlp];try rfl
  ·exact PM M.fresh (M.Ud (k:=2) rfl)
 refine Qb 0 K M fun _ K=>?_;refine p1 K (JM (b:=[115,117,98]) rfl rfl) fun _ K=>?_;refine Qb 1 K M fun _ K=>?_;refine U8 K rfl (fun h9=>?_) fun h9=>?_
 ·refine Qb 0 K M fun _ K=>?_;obtain⟨v11,st11,ev11,c9,rfl,hr1,hn1,q11⟩:=Aj M.fresh 274;refine p1 K (Qf rfl ev11) fun _ K=>?_;replace M:=M.Xt q11 hr1 hn1;refine au 2 K M ?_;intro _ _ K _ M;refine Xd ⟨.inr rfl,_,(Yo (Yn K rfl (M.load (k:=0) rfl (QZ QU rfl))) (Yi K rfl)),?_⟩
  have ho:o=[115,117,98]:=by assumption
  subst ho
  have hlp:QA [115,117,98] nn=0:=by simp[QA]
  refine⟨301,[.ptr c9 0 0],?_,?_,A5 _ _,M.qt⟩
  ·rw[show Qo [115,117,98] nn=0+1 from congrArg (· +1) hlp,hlp];try rfl
  ·exact PL M.fresh (M.Ud (k:=2) rfl)
 refine Qb 0 K M fun _ K=>?_;refine p1 K (JM (b:=[110,111,110,101]) rfl rfl) fun _ K=>?_;refine Qb 1 K M fun _ K=>?_;refine U8 K rfl (fun h12=>?_) fun h12=>?_
 ·refine Qb 0 K M fun _ K=>?_;obtain⟨v14,st14,ev14,c9,rfl,hr1,hn1,q14⟩:=Aj M.fresh 275;refine p1 K (Qf rfl ev14) fun _ K=>?_;replace M:=M.Xt q14 hr1 hn1;refine au 2 K M ?_;intro _ _ K _ M;refine Xd ⟨.inr rfl,_,(Yo (Yn K rfl (M.load (k:=0) rfl (QZ QU rfl))) (Yi K rfl)),?_⟩
  have ho:o=[110,111,110,101]:=by assumption
  subst ho
  have hlp:QA [110,111,110,101] nn=0:=by simp[QA]
  refine⟨301,[.ptr c9 0 0],?_,?_,A5 _ _,M.qt⟩
  ·rw[show Qo [110,111,110,101] nn=0+1 from congrArg (· +1) hlp,hlp];try rfl
  ·exact PK M.fresh (M.Ud (k:=2) rfl)
 refine Qb 0 K M fun _ K=>?_;refine p1 K (JM (b:=[117,110,105,111,110]) rfl rfl) fun _ K=>?_;refine Qb 1 K M fun _ K=>?_;refine U8 K rfl (fun h15=>?_) fun h15=>?_
 ·refine Qb 0 K M fun _ K=>?_;obtain⟨v17,st17,ev17,c9,rfl,hr1,hn1,q17⟩:=Aj M.fresh 276;refine p1 K (Qf rfl ev17) fun _ K=>?_;replace M:=M.Xt q17 hr1 hn1;refine au 2 K M ?_;intro _ _ K _ M;refine Xd ⟨.inr rfl,_,(Yo (Yn K rfl (M.load (k:=0) rfl (QZ QU rfl))) (Yi K rfl)),?_⟩
  have ho:o=[117,110,105,111,110]:=by assumption
  subst ho
  have hlp:QA [117,110,105,111,110] nn=0:=by simp[QA]
  refine⟨301,[.ptr c9 0 0],?_,?_,A5 _ _,M.qt⟩
  ·rw[show Qo [117,110,105,111,110] nn=0+1 from congrArg (· +1) hlp,hlp];try rfl
  ·exact PJ M.fresh (M.Ud (k:=2) rfl)
 refine Qb 0 K M fun _ K=>?_;refine p1 K (JM (b:=[105,110,116,101,114]) rfl rfl) fun _ K=>?_;refine Qb 1 K M fun _ K=>?_;refine U8 K rfl (fun h18=>?_) fun h18=>?_
 ·refine Qb 0 K M fun _ K=>?_;obtain⟨v20,st20,ev20,c9,rfl,hr1,hn1,q20⟩:=Aj M.fresh 277;refine p1 K (Qf rfl ev20) fun _ K=>?_;replace M:=M.Xt q20 hr1 hn1;refine au 2 K M ?_;intro _ _ K _ M;refine Xd ⟨.inr rfl,_,(Yo (Yn K rfl (M.load (k:=0) rfl (QZ QU rfl))) (Yi K rfl)),?_⟩
  have ho:o=[105,110,116,101,114]:=by assumption
  subst ho
  have hlp:QA [105,110,116,101,114] nn=0:=by simp[QA]
  refine⟨301,[.ptr c9 0 0],?_,?_,A5 _ _,M.qt⟩
  ·rw[show Qo [105,110,116,101,114] nn=0+1 from congrArg (· +1) hlp,hlp];try rfl
  ·exact PI M.fresh (M.Ud (k:=2) rfl)
 refine Qb 0 K M fun _ K=>?_;refine p1 K (JM (b:=[109,105,110,117,115]) rfl rfl) fun _ K=>?_;refine Qb 1 K M fun _ K=>?_;refine U8 K rfl (fun h21=>?_) fun h21=>?_
 ·refine Qb 0 K M fun _ K=>?_;obtain⟨v23,st23,ev23,c9,rfl,hr1,hn1,q23⟩:=Aj M.fresh 278;refine p1 K (Qf rfl ev23) fun _ K=>?_;replace M:=M.Xt q23 hr1 hn1;refine au 2 K M ?_;intro _ _ K _ M;refine Xd ⟨.inr rfl,_,(Yo (Yn K rfl (M.load (k:=0) rfl (QZ QU rfl))) (Yi K rfl)),?_⟩
  have ho:o=[109,105,110,117,115]:=by assumption
  subst ho
  have hlp:QA [109,105,110,117,115] nn=0:=by simp[QA]
  refine⟨301,[.ptr c9 0 0],?_,?_,A5 _ _,M.qt⟩
  ·rw[show Qo [109,105,110,117,115] nn=0+1 from congrArg (· +1) hlp,hlp];try rfl
  ·exact PH M.fresh (M.Ud (k:=2) rfl)
 refine Qb 0 K M fun _ K=>?_;refine p1 K (JM (b:=[115,105,110,103]) rfl rfl) fun _ K=>?_;refine Qb 1 K M fun _ K=>?_;refine U8 K rfl (fun h24=>?_) fun h24=>?_
 ·refine au 3 K M ?_;intro _ _ K _ M;refine Xd ⟨.inr rfl,_,(Yo (Yn K rfl (M.load (k:=0) rfl (QZ QU rfl))) (Yi K rfl)),?_⟩
  have ho:o=[115,105,110,103]:=by assumption
  subst ho
  have hlp:QA [115,105,110,103] nn=1:=by simp[QA]
  refine⟨279,[],?_,?_,B7 _,M.qt⟩
  ·rw[show Qo [115,105,110,103] nn=1+1 from congrArg (· +1) hlp,hlp];try rfl
  ·exact fun st1 q s x y z hs=>TM q.fresh nn s x y z hs
 refine Qb 0 K M fun _ K=>?_;refine p1 K (JM (b:=[102,108,97,103]) rfl rfl) fun _ K=>?_;refine Qb 1 K M fun _ K=>?_;refine U8 K rfl (fun h27=>?_) fun h27=>?_
 ·refine au 3 K M ?_;intro _ _ K _ M;refine Xd ⟨.inr rfl,_,(Yo (Yn K rfl (M.load (k:=0) rfl (QZ QU rfl))) (Yi K rfl)),?_⟩
  have ho:o=[102,108,97,103]:=by assumption
  subst ho
  have hlp:QA [102,108,97,103] nn=1:=by simp[QA]
  refine⟨280,[],?_,?_,B7 _,M.qt⟩
  ·rw[show Qo [102,108,97,103] nn=1+1 from congrArg (· +1) hlp,hlp];try rfl
  ·exact fun st1 q s x y z hs=>yd q.fresh nn s x y z hs
 refine Qb 0 K M fun _ K=>?_;refine p1 K (JM (b:=[108,101,115,115]) rfl rfl) fun _ K=>?_;refine Qb 1 K M fun _ K=>?_;refine U8 K rfl (fun h30=>?_) fun h30=>?_
 ·refine au 3 K M ?_;intro _ _ K _ M;refine Xd ⟨.inr rfl,_,(Yo (Yn K rfl (M.load (k:=0) rfl (QZ QU rfl))) (Yi K rfl)),?_⟩
  have ho:o=[108,101,115,115]:=by assumption
  subst ho
  have hlp:QA [108,101,115,115] nn=2:=by simp[QA]
  refine⟨281,[],?_,?_,B7 _,M.qt⟩
  ·rw[show Qo [108,101,115,115] nn=2+1 from congrArg (· +1) hlp,hlp];try rfl
  ·exact fun st1 q s x y z hs=>uz q.fresh nn s x y z hs
 refine Qb 0 K M fun _ K=>?_;refine p1 K (JM (b:=[112,108,117,115]) rfl rfl) fun _ K=>?_;refine Qb 1 K M fun _ K=>?_;refine U8 K rfl (fun h33=>?_) fun h33=>?_
 ·refine Qb 2 K M fun _ K=>?_;obtain⟨v37,st37,ev37,c8,c9,rfl,hr1,hr3,hn1,hn3,hne,q37⟩:=RJ M.fresh nn hn;refine p1 K (Qf rfl ev37) fun _ K=>?_;replace M:=M.Pe q37 hr1 hr3 hn1 hn3 hne;refine au 2 K M ?_;intro _ _ K _ M;refine Xd ⟨.inr rfl,_,(Yo (Yn K rfl (M.load (k:=0) rfl (QZ QU rfl))) (Yi K rfl)),?_⟩
  have ho:o=[112,108,117,115]:=by assumption
  subst ho
  have hlp:QA [112,108,117,115] nn=nn+1:=by simp[QA]
  refine⟨302,[.ptr c8 0 0,.ptr c9 0 0],?_,?_,B6 _ _ _,M.qt⟩
  ·rw[show Qo [112,108,117,115] nn=nn+1+1 from congrArg (· +1) hlp,hlp];try rfl
  ·exact fun st1 q s x y z hs=>DU q.fresh nn s x y z hs hn ((M.Ud (k:=2) rfl).later M.fresh q) ((M.Ud (k:=3) rfl).later M.fresh q)
 refine Qb 0 K M fun _ K=>?_;refine p1 K (JM (b:=[110,117,109]) rfl rfl) fun _ K=>?_;refine Qb 1 K M fun _ K=>?_;refine U8 K rfl (fun h38=>?_) fun h38=>?_
 ·refine Qb 2 K M fun _ K=>?_;obtain⟨v42,st42,ev42,c8,c9,rfl,hr1,hr3,hn1,hn3,hne,q42⟩:=Mh M.fresh nn hn;refine p1 K (Qf rfl ev42) fun _ K=>?_;replace M:=M.Pe q42 hr1 hr3 hn1 hn3 hne;refine au 2 K M ?_;intro _ _ K _ M;refine Xd ⟨.inr rfl,_,(Yo (Yn K rfl (M.load (k:=0) rfl (QZ QU rfl))) (Yi K rfl)),?_⟩
  have ho:o=[110,117,109]:=by assumption
  subst ho
  have hlp:QA [110,117,109] nn=nn+1:=by simp[QA]
  refine⟨303,[.ptr c9 0 0,.ptr c8 0 0],?_,?_,B6 _ _ _,M.qt⟩
  ·rw[show Qo [110,117,109] nn=nn+1+1 from congrArg (· +1) hlp,hlp];try rfl
  ·exact fun st1 q s x y z hs=>Rf q.fresh nn s x y z hs hn ((M.Ud (k:=2) rfl).later M.fresh q) ((M.Ud (k:=3) rfl).later M.fresh q)
 refine au 3 K M ?_;intro _ _ K _ M;refine Xd ⟨.inr rfl,_,(Yo (Yn K rfl (M.load (k:=0) rfl (QZ QU rfl))) (Yi K rfl)),?_⟩
 exfalso
 unfold AG at hat
 simp_all

theorem N6(hf:Qh st){c11 l v1:Nat}(hr:Qu st.h.get c11 0 [iN l])(hl:l≤64)(hv:v1≤6): ∃v st',QV 253 [iN v1,.ptr c11 0 0] st v st'∧v=.bool (Zh l v1)∧Qt st st':=by
 refine Jv Tryz.func253 Tryz.ntmps253 fun T K=>?_;have M:=Mem.start hf;refine Qb 1 K M fun _ K=>?_;refine p1 K (Qi rfl (Qr (M.Jf Qx hr.QI) (Qc Qs rfl))) fun _ K=>?_;refine Qb 1 K M fun _ K=>?_;refine p1 K (WG (a:=l) (n:=v1) rfl rfl Qd) fun _ K=>p1 K (WH (a:=(l/2^v1)) rfl rfl (Nat.le_trans (Nat.div_le_self _ _) Qd)) fun _ K=>?_;refine Qb 2 K M ?_;exact⟨rfl,M.qt⟩

theorem fC {R : W5} (hf : Qh st) (hR : X1 R st.h.get) {o : List Nat} {an bn gn nn k : Nat} {l : List Cr} {cs : List AV} (hr : Yr R (.mk o ((an : Nat) : Int) ((bn : Nat) : Int) ((gn : Nat) : Int) ((nn : Nat) : Int) l) cs) (hat : AG o) (hn : nn ≤ 20) (ha6 : an ≤ 6) (hb6 : bn ≤ 6) (hg6 : gn ≤ 6) (hk6 : k ≤ 6) (hsz : Xx (.mk o ((an : Nat) : Int) ((bn : Nat) : Int) ((gn : Nat) : Int) ((nn : Nat) : Int) l) ≤ 2000) (hc : Ja (.mk o ((an : Nat) : Int) ((bn : Nat) : Int) ((gn : Nat) : Int) ((nn : Nat) : Int) l) ((k : Nat) : Int) = true) : ∃ v st', QV 205 [.agg cs, iN k] st v st' ∧ ∃ dp F m, v = .tup [.ptr dp 0 0, iZ 0] ∧ Ju (Wx o an bn gn nn k) m ∧ JH st' F dp m ∧ Vn st st' F ∧ Qt st st' := by
 have hr0 := hr;obtain ⟨kc, ls, rfl, hK⟩ := hr.ZG;have hln := hK.ln;have hbn := hK.AW;have hp6 := JL hk6;have hll := E9 (o := o) nn hn;have hsp : Qo o nn = QA o nn + 1 := rfl;refine Jv Tryz.func205 Tryz.ntmps205 fun T K => ?_;have M := Mem.start hf;refine Qb 0 K M fun _ K => ?_;refine JK K M rfl (Qa rfl (Qa rfl (Qa rfl (Qa rfl (Qa rfl (Qa hK.cell QL)))))) Q9 fun c2 _ _ K M => ?_;refine Qb 3 K M fun _ K => ?_;obtain ⟨v18, st18, ev18, f, fc, rfl, hmach, hfe, q18⟩ := qd M.fresh (M.X1 hR) hr0 hat hn;refine p1 K (Qf rfl ev18) fun _ K => ?_;replace M := M.quiet q18;have hq0 := M.qt; have hc2 := M.Ud (k := 0) rfl; have hfm := M.fresh;replace hR := M.X1 hR;obtain ⟨st, rfl⟩ : ∃ s : St, s = st18 := ⟨_, rfl⟩;have B := Ql.start hfm;replace M := B.mem;refine au 9 K M ?_;intro c6 _ _ K _ M;refine pg K rfl rfl (Qi rfl (Qr ((B.step M).ZA hfm hc2.QI id) (QZ Jh rfl))) fun _ K => ?_;refine Qb 1 K M fun _ K => ?_;obtain ⟨v26, st26, ev26, rfl, q26⟩ := Tg M.fresh (fun c m l hr => (B.step M).ZA hfm (hR c m l hr) id) hr0 (m := ((k : Nat) : Int)) Qd Qd hsz hc;refine pg K rfl rfl (Qf rfl ev26) fun _ K => ?_;replace M := M.quiet q26;refine au 7 K M ?_;intro c8 _ _ K _ M;replace B := (B.step M).LB;have M := B.mem;refine Qb 4 K M fun _ K => ?_;refine Je (fun mm1 T st9 => ∃ (i : Nat) (vs : List AV) (Fr : Fp) (ka : AV) (Aa : QP) (kr : AV) (Ar : QP), mm1 = Qo o nn + 1 - i ∧ QH [(1, iN k), (2, .ptr c2 0 0), (4, .nilp), (5, iZ 0), (6, .ptr c6 0 0), (8, .ptr c8 0 0), (33, iZ (((((Qo o nn) : Nat) : Int) + 1))), (34, iN i)] T ∧ Ql st Ei st9 ((c8, 0, [iN k, ka, kr]) :: (c6, 0, [(.fn f [] fc), iZ (QA o nn : Nat), iZ (Qo o nn : Nat)]) :: (Aa ++ (Ar ++ []))) [T9 Fr vs ((List.range i).map (PQ o nn an bn gn k))] ∧ i ≤ Qo o nn + 1 ∧ Acc 0 1 Aa ka (bC ((List.range i).map fun s => decide (((s : Nat) : Int) = ((QA o nn : Nat) : Int)))) ∧ Zl Ar kr vs) (fun mm1 T st9 hI => ?_) _ _ _ ⟨0, [], _, .nils, [], .nils, [], rfl, (K.sub rfl), (B.step M).less (.refl _), (Nat.zero_le _), .none, .none⟩;obtain ⟨i, vs, Fr, ka, Aa, kr, Ar, rfl, K, B, hi, hAa, hAr⟩ := hI;have M := B.mem;refine Qb 1 K M fun _ K => ?_;refine U8 K rfl (fun h35 => ?_) fun h35 => ?_
 · refine Qb 4 K M fun _ K => ?_;refine p1 K (ZX (n := k) rfl rfl Qd) fun _ K => ?_;refine Qb 1 K M fun _ K => ?_;refine Je (fun mm2 T st9 => ∃ (c : Nat) (kw : AV) (Aw : QP), mm2 = 2 ^ k - c ∧ QH [(1, iN k), (2, .ptr c2 0 0), (4, .nilp), (5, iZ 0), (6, .ptr c6 0 0), (8, .ptr c8 0 0), (9, iN i), (10, kw), (33, iZ (((((Qo o nn) : Nat) : Int) + 1))), (34, iN i), (35, .bool (decide (((i : Nat) : Int) < ((((Qo o nn) : Nat) : Int) + 1)))), (38, iZ (2 ^ k : Nat)), (39, iN c)] T ∧ Ql st Ei st9 ((c8, 0, [iN k, ka, kr]) :: (c6, 0, [(.fn f [] fc), iZ (QA o nn : Nat), iZ (Qo o nn : Nat)]) :: (Aa ++ (Ar ++ (Aw ++ [])))) [T9 Fr vs ((List.range i).map (PQ o nn an bn gn k))] ∧ c ≤ 2 ^ k ∧ Acc 0 1 Aw kw (zC ((List.range c).map fun l => ((Ee o nn an bn gn i l : Nat) : Int)))) (fun mm2 T st9 hI => ?_) _ _ _ ⟨0, .nils, [], rfl, (K.sub rfl), (B.step M).less (.refl _), (Nat.zero_le _), .none⟩;obtain ⟨c, kw, Aw, rfl, K, B, hcK, hAw⟩ := hI;have M := B.mem;refine Qb 1 K M fun _ K => ?_;refine U8 K rfl (fun h40 => ?_) fun h40 => ?_
   · refine au 3 K M ?_;intro c11 _ _ K _ M;refine p1 K (Y6 rfl rfl) fun _ K => ?_;refine Qb 6 K M fun _ K => ?_;refine U8 K rfl (fun h46 => ?_) fun h46 => ?_
     · refine QT (l := [(3, 0), (4, 0), (5, 0), (6, 0), (7, 0), (8, 0), (9, 1), (10, 0), (11, 0), (12, 0), (13, 2), (14, 0), (0, 0), (1, 3), (2, 0), (15, 0), (16, 0)]) (by kernel_rfl) ?_;have Mq := M;have Mz0 := M;have Bz0 := B;refine UT 2 K M fun _ K => ?_;refine q1 rfl K (Qi rfl (Qr ((B.step M).ZA hfm hc2.QI id) (Qc Qs rfl))) fun _ K => ?_;have r11 := M.Ud (k := 0) rfl;obtain ⟨v53, st53, ev53, rfl, q53⟩ := N6 M.fresh (v1 := an) (l := c) r11 Qd Qd;refine qA rfl K (Z2 rfl rfl ev53) fun _ K => ?_;replace M := M.quiet q53;have Mp := Mq;have Mq := M;have Mz1 := M;have Bz1 := B;refine UT 2 K M fun _ K => ?_;refine JE rfl K rfl (Qr ((B.step M).ZA hfm hc2.QI id) (Qc Qs rfl)) (Qr ((B.step Mp).ZA hfm hc2.QI id) (Qc Qs rfl)) (Ul rfl) rfl Q9 fun _ K => ?_;have r11 := M.Ud (k := 0) rfl;obtain ⟨v57, st57, ev57, rfl, q57⟩ := N6 M.fresh (v1 := bn) (l := c) r11 Qd Qd;refine qA rfl K (Z2 rfl rfl ev57) fun _ K => ?_;replace M := M.quiet q57;have Mp := Mq;have Mq := M;have Mz2 := M;have Bz2 := B;refine UT 2 K M fun _ K => ?_
       refine VQ rfl K rfl (Qr ((B.step M).ZA hfm hc2.QI id) (Qc Qs rfl)) Qx (by intro s hs; simp only [List.take_succ_cons, List.take_zero, List.mem_cons, List.not_mem_nil, or_false] at hs; rcases hs with rfl | rfl <;> first | exact (Qr ((Bz1.step Mz1).ZA hfm hc2.QI id) (Qc Qs rfl)) | exact (Qr ((Bz0.step Mz0).ZA hfm hc2.QI id) (Qc Qs rfl))) (Ul rfl) rfl Q9 fun _ K => ?_
       have r11 := M.Ud (k := 0) rfl;obtain ⟨v61, st61, ev61, rfl, q61⟩ := N6 M.fresh (v1 := gn) (l := c) r11 Qd Qd;refine qA rfl K (Z2 rfl rfl ev61) fun _ K => ?_;replace M := M.quiet q61;have Mp := Mq;have Mq := M;have Mz3 := M;have Bz3 := B;refine UT 1 K M fun _ K => ?_
       refine VQ rfl K rfl (M.load (k := 2) rfl (Qc Jb rfl)) Qx (by intro s hs; simp only [List.take_succ_cons, List.take_zero, List.mem_cons, List.not_mem_nil, or_false] at hs; rcases hs with rfl | rfl | rfl <;> first | exact (Mz2.load (k := 2) rfl (Qc Jb rfl)) | exact (Mz1.load (k := 2) rfl (Qc Jb rfl)) | exact (Mz0.load (k := 2) rfl (Qc Jb rfl))) hfe rfl Q9 fun _ K => ?_
       refine q1 rfl K (Q8 rfl) fun _ K => ?_;obtain ⟨v62, st62, ev62, rfl, q62⟩ := hmach _ (B.step M).qt i (Zh c an) (Zh c bn) (Zh c gn) Qd;refine qA rfl K (Z2 rfl rfl ev62) fun _ K => ?_;replace M := M.quiet q62;have Mp := Mq;have Mq := M;have Mz4 := M;have Bz4 := B;refine q1 rfl K (Uu rfl) fun _ K => Jd ?_;show W _ _ _ _ _ _ _;refine Qb 2 K M fun _ K => ?_;refine UJ K rfl (fun h64 => ?_) fun h64 => ?_
       · have hb64 := h64;replace h64 := of_decide_eq_true h64;refine au 6 K M ?_;intro c69 _ _ K _ M;refine Jx (k2 := 0) (L := ((c69, 0, [iZ (Qo o nn : Nat)]) :: (c11, 0, [iN c]) :: (c8, 0, [iN k, ka, kr]) :: (c6, 0, [(.fn f [] fc), iZ (QA o nn : Nat), iZ (Qo o nn : Nat)]) :: (Aa ++ (Ar ++ [])))) (B := []) K (Mem.cast M Za) hAw QR rfl rfl rfl rfl (by rw [Qy, List.length_map, List.length_range]; omega) rfl fun ks70 A70 _ _ K hA70 M => ?_;simp only [W4] at M;have Mz5 := M;have Bz5 := B;refine Qb 3 K M fun _ K => ?_
         have hnx : iZ (Ee o nn an bn gn i c : Nat) = iZ (Qo o nn : Nat) := by
           refine congrArg (AV.int .i64) ?_;unfold Ee
           first
           | exact absurd rfl h64
           | (rw [if_neg Qd]; done)
           | (rw [if_pos Qd, if_pos (by assumption)]; done)
           | (rw [if_pos Qd, if_neg (by assumption)]
              rcases jd hat hn (show i < Qo o nn by omega) (Zh c an) (Zh c bn) (Zh c gn) with ⟨h1, _⟩ | ⟨t, h1, _⟩
              · exact absurd h1 (by assumption)
              · rw [h1]; rfl)
         have hrs : (List.range (c + 1)).map (fun l => ((Ee o nn an bn gn i l : Nat) : Int)) = (List.range c).map (fun l => ((Ee o nn an bn gn i l : Nat) : Int)) ++ [((Ee o nn an bn gn i c : Nat) : Int)] := by rw [List.range_succ, List.map_append]; rfl
         exact ⟨_, Qd, c + 1, ks70, A70, rfl, (K.sub rfl), (B.step M).less (.cons _ (.cons _ (.refl _))), Qd, (by rw [hrs, JJ, show zC [((Ee o nn an bn gn i c : Nat) : Int)] = [[iZ (Ee o nn an bn gn i c : Nat)]] from rfl, hnx]; exact hA70)⟩
       have hb64 := h64;replace h64 := of_decide_eq_false h64;refine au 3 K M ?_;intro c69 _ _ K _ M;refine Jx (k2 := 0) (L := ((c69, 0, [iZ ((QQ o nn i (Zh c an) (Zh c bn) (Zh c gn)))]) :: (c11, 0, [iN c]) :: (c8, 0, [iN k, ka, kr]) :: (c6, 0, [(.fn f [] fc), iZ (QA o nn : Nat), iZ (Qo o nn : Nat)]) :: (Aa ++ (Ar ++ [])))) (B := []) K (Mem.cast M Za) hAw QR rfl rfl rfl rfl (by rw [Qy, List.length_map, List.length_range]; omega) rfl fun ks70 A70 _ _ K hA70 M => ?_;simp only [W4] at M;have Mz5 := M;have Bz5 := B;refine Qb 3 K M fun _ K => ?_
       have hnx : iZ (Ee o nn an bn gn i c : Nat) = iZ ((QQ o nn i (Zh c an) (Zh c bn) (Zh c gn))) := by
         refine congrArg (AV.int .i64) ?_;unfold Ee
         first
         | exact absurd rfl h64
         | (rw [if_neg Qd]; done)
         | (rw [if_pos Qd, if_pos (by assumption)]; done)
         | (rw [if_pos Qd, if_neg (by assumption)]
            rcases jd hat hn (show i < Qo o nn by omega) (Zh c an) (Zh c bn) (Zh c gn) with ⟨h1, _⟩ | ⟨t, h1, _⟩
            · exact absurd h1 (by assumption)
            · rw [h1]; rfl)
       have hrs : (List.range (c + 1)).map (fun l => ((Ee o nn an bn gn i l : Nat) : Int)) = (List.range c).map (fun l => ((Ee o nn an bn gn i l : Nat) : Int)) ++ [((Ee o nn an bn gn i c : Nat) : Int)] := by rw [List.range_succ, List.map_append]; rfl
       exact ⟨_, Qd, c + 1, ks70, A70, rfl, (K.sub rfl), (B.step M).less (.cons _ (.cons _ (.refl _))), Qd, (by rw [hrs, JJ, show zC [((Ee o nn an bn gn i c : Nat) : Int)] = [[iZ (Ee o nn an bn gn i c : Nat)]] from rfl, hnx]; exact hA70)⟩
     refine Qb 2 K M fun _ K => ?_;refine UJ K rfl (fun h64 => ?_) fun h64 => ?_
     · have hb64 := h64;replace h64 := of_decide_eq_true h64;refine au 6 K M ?_;intro c69 _ _ K _ M;refine Jx (k2 := 0) (L := ((c69, 0, [iZ (Qo o nn : Nat)]) :: (c11, 0, [iN c]) :: (c8, 0, [iN k, ka, kr]) :: (c6, 0, [(.fn f [] fc), iZ (QA o nn : Nat), iZ (Qo o nn : Nat)]) :: (Aa ++ (Ar ++ [])))) (B := []) K (Mem.cast M Za) hAw QR rfl rfl rfl rfl (by rw [Qy, List.length_map, List.length_range]; omega) rfl fun ks70 A70 _ _ K hA70 M => ?_;simp only [W4] at M;refine Qb 3 K M fun _ K => ?_
       have hnx : iZ (Ee o nn an bn gn i c : Nat) = iZ (Qo o nn : Nat) := by
         refine congrArg (AV.int .i64) ?_;unfold Ee
         first
         | exact absurd rfl h64
         | (rw [if_neg Qd]; done)
         | (rw [if_pos Qd, if_pos (by assumption)]; done)
         | (rw [if_pos Qd, if_neg (by assumption)]
            rcases jd hat hn (show i < Qo o nn by omega) (Zh c an) (Zh c bn) (Zh c gn) with ⟨h1, _⟩ | ⟨t, h1, _⟩
            · exact absurd h1 (by assumption)
            · rw [h1]; rfl)
       have hrs : (List.range (c + 1)).map (fun l => ((Ee o nn an bn gn i l : Nat) : Int)) = (List.range c).map (fun l => ((Ee o nn an bn gn i l : Nat) : Int)) ++ [((Ee o nn an bn gn i c : Nat) : Int)] := by rw [List.range_succ, List.map_append]; rfl
       exact ⟨_, Qd, c + 1, ks70, A70, rfl, (K.sub rfl), (B.step M).less (.cons _ (.cons _ (.refl _))), Qd, (by rw [hrs, JJ, show zC [((Ee o nn an bn gn i c : Nat) : Int)] = [[iZ (Ee o nn an bn gn i c : Nat)]] from rfl, hnx]; exact hA70)⟩
     have hb64 := h64;replace h64 := of_decide_eq_false h64;refine au 3 K M ?_;intro c69 _ _ K _ M;refine Jx (k2 := 0) (L := ((c69, 0, [iZ (-1)]) :: (c11, 0, [iN c]) :: (c8, 0, [iN k, ka, kr]) :: (c6, 0, [(.fn f [] fc), iZ (QA o nn : Nat), iZ (Qo o nn : Nat)]) :: (Aa ++ (Ar ++ [])))) (B := []) K (Mem.cast M Za) hAw QR rfl rfl rfl rfl (by rw [Qy, List.length_map, List.length_range]; omega) rfl fun ks70 A70 _ _ K hA70 M => ?_;simp only [W4] at M;refine Qb 3 K M fun _ K => ?_
     have hnx : iZ (Ee o nn an bn gn i c : Nat) = iZ (-1) := by
       refine congrArg (AV.int .i64) ?_;unfold Ee
       first
       | exact absurd rfl h64
       | (rw [if_neg Qd]; done)
       | (rw [if_pos Qd, if_pos (by assumption)]; done)
       | (rw [if_pos Qd, if_neg (by assumption)]
          rcases jd hat hn (show i < Qo o nn by omega) (Zh c an) (Zh c bn) (Zh c gn) with ⟨h1, _⟩ | ⟨t, h1, _⟩
          · exact absurd h1 (by assumption)
          · rw [h1]; rfl)
     have hrs : (List.range (c + 1)).map (fun l => ((Ee o nn an bn gn i l : Nat) : Int)) = (List.range c).map (fun l => ((Ee o nn an bn gn i l : Nat) : Int)) ++ [((Ee o nn an bn gn i c : Nat) : Int)] := by rw [List.range_succ, List.map_append]; rfl
     exact ⟨_, Qd, c + 1, ks70, A70, rfl, (K.sub rfl), (B.step M).less (.cons _ (.cons _ (.refl _))), Qd, (by rw [hrs, JJ, show zC [((Ee o nn an bn gn i c : Nat) : Int)] = [[iZ (Ee o nn an bn gn i c : Nat)]] from rfl, hnx]; exact hA70)⟩
   refine QM ?_;show W _ _ _ _ _ _ _;refine Xc ?_
   have hce : c = 2 ^ k := by omega
   rw [hce] at hAw;refine Qb 1 K M fun _ K => ?_;refine p1 K (Qi rfl (M.load (k := 0) rfl (Qc QW rfl))) fun _ K => ?_;refine Qb 1 K M fun _ K => ?_;refine VO K M J3 Yt rfl ((Uw rfl hAw.cell rfl).trans rfl) (Qa hAw.cell QL) rfl rfl fun c75 _ _ K M => ?_;refine EZ (k2 := 0) (L := ((c75, 0, [kw]) :: (c8, 0, [iN k, ka, kr]) :: (c6, 0, [(.fn f [] fc), iZ (QA o nn : Nat), iZ (Qo o nn : Nat)]) :: (Aa ++ []))) (B := (Aw ++ [])) K (Mem.cast M Za) hAr J3 rfl rfl rfl (by have := BY.ln ((B.step M).at_ (k := 0) rfl); rw [List.length_map, List.length_range] at this; omega) rfl fun ks76 A76 _ _ K hA76 _ M => ?_;simp only [W4] at M;refine Qb 1 K M fun _ K => ?_;refine Jk (k := 1) K M rfl rfl rfl ZM (hA76.cell) rfl fun _ M => ?_;refine au 7 K M ?_;intro c84 _ _ K _ M;refine Jx (k2 := 0) (L := [(c84, 0, [.bool (decide (((i : Nat) : Int) = (((QA o nn) : Nat) : Int)))]), (c75, 0, [kw]), (c8, 0, [iN k, ka, ks76]), (c6, 0, [(.fn f [] fc), iZ (QA o nn : Nat), iZ (Qo o nn : Nat)])]) (B := (A76 ++ (Aw ++ []))) K M hAa Yc rfl rfl rfl rfl (by rw [Vi, List.length_map, List.length_range]; omega) rfl fun ks85 A85 _ _ K hA85 M => ?_;refine Qb 1 K M fun _ K => ?_;refine Jk (k := 2) K M rfl rfl rfl VX (hA85.cell) rfl fun _ M => ?_;refine Qb 2 K M fun _ K => ?_;replace B := B.step M;obtain ⟨Fr, B⟩ := Ql.ND (L := ((c84, 0, [.bool (decide (((i : Nat) : Int) = (((QA o nn) : Nat) : Int)))]) :: (c75, 0, [kw]) :: (c8, 0, [iN k, ks85, ks76]) :: (c6, 0, [(.fn f [] fc), iZ (QA o nn : Nat), iZ (Qo o nn : Nat)]) :: (A85 ++ (A76 ++ [])))) (B := []) (B.cast Za) hAw (fun z hz => by obtain ⟨l, _, rfl⟩ := List.mem_map.1 hz; have := jT (a := an) (b := bn) (d := gn) hat hn i l; omega);replace B := B.cast (M' := ((c84, 0, [.bool (decide (((i : Nat) : Int) = (((QA o nn) : Nat) : Int)))]) :: (c75, 0, [kw]) :: (c8, 0, [iN k, ks85, ks76]) :: (c6, 0, [(.fn f [] fc), iZ (QA o nn : Nat), iZ (Qo o nn : Nat)]) :: (A85 ++ (A76 ++ [])))) Za;have M := B.mem
   have hrr : (List.range (i + 1)).map (PQ o nn an bn gn k) = (List.range i).map (PQ o nn an bn gn k) ++ [(List.range (2 ^ k)).map fun l => ((Ee o nn an bn gn i l : Nat) : Int)] := by rw [List.range_succ, List.map_append]; rfl
   rw [← hrr] at B;have M := B.mem;exact ⟨_, Qd, i + 1, _, _, ks85, A85, ks76, A76, rfl, (K.sub rfl), (B.step M).less (.cons _ (.cons _ (.refl _))), Qd, (by rw [List.range_succ, List.map_append, BS]; exact hA85), hA76⟩
 refine QM ?_;show W _ _ _ _ _ _ _;refine Qb 1 K M fun _ K => ?_;replace B := B.step M
 have hie : i = Qo o nn + 1 := by omega
 subst hie;have hwf := jq (a := an) (b := bn) (d := gn) (k := k) hat hn hk6;obtain ⟨Fo, B⟩ := Ql.qF (L := ((c8, 0, [iN k, ka, kr]) :: (c6, 0, [(.fn f [] fc), iZ (QA o nn : Nat), iZ (Qo o nn : Nat)]) :: (Aa ++ []))) (B := []) (B.cast Za) hAr;replace B := B.cast (M' := ((c8, 0, [iN k, ka, kr]) :: (c6, 0, [(.fn f [] fc), iZ (QA o nn : Nat), iZ (Qo o nn : Nat)]) :: (Aa ++ []))) Za;have M := B.mem;obtain ⟨v90, st90, ev90, dq2, F2, rfl, hD2, nf2, q90⟩ := Wz (a := XS o an bn gn nn k) B.fresh hwf (Mem.Zv (L := [(c8, 0, [iN k, ka, kr]), (c6, 0, [(.fn f [] fc), iZ (QA o nn : Nat), iZ (Qo o nn : Nat)])]) (B := []) M hAa) (Zw.r (B.at_ (k := 0) rfl));refine p1 K (Qf rfl ev90) fun _ K => ?_;replace B := B.new (o := EJ F2 dq2 (XS o an bn gn nn k)) q90 hD2.at_ nf2;have M := B.mem;refine Qb 7 K M fun _ K => ?_;refine UJ K rfl (fun h94 => ?_) fun h94 => ?_
 · have hb94 := h94
   replace h94 : ¬ (0 = 0) := by first | exact of_decide_eq_false h94 | exact yF h94 | simpa using h94
   exfalso; omega
 have hb94 := h94
 replace h94 : (0 = 0) := by first | exact of_decide_eq_true h94 | exact yT h94 | simpa using h94
 refine Qb 1 K M fun _ K => ?_;replace B := B.step M;obtain ⟨v97, st97, ev97, dp3, F3, m, rfl, hlm, hD3, nf3, q97⟩ := SE B.fresh (B.RE (k := 0) rfl);refine p1 K (Qf rfl ev97) fun _ K => ?_;have hle3 := B.le;replace B := B.quiet q97;have M := B.mem;refine Qb 4 K M ?_;exact ⟨dp3, F3, m, rfl, hlm.atom hat hn, hD3, fun c hc => ⟨Nat.le_trans hq0.le (Nat.le_trans hle3 (nf3 c hc).1), (nf3 c hc).2⟩, hq0.trans (B.step M).qt⟩
end Go.Proofs.YtildagdnomiahaaGreatDoor
