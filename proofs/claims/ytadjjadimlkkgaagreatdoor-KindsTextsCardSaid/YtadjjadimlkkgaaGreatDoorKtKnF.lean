/-
  Calls of formulas with names: the reference's answer.
-/
import Derived.Test.YtadjjadimlkkgaaGreatDoorKtKnE
namespace Go.Proofs.YtadjjadimlkkgaaGreatDoor
open Go Go.RowKit
set_option maxHeartbeats 8000000
set_option linter.unusedVariables false
set_option linter.unusedSimpArgs false
set_option linter.unnecessarySimpa false
set_option maxRecDepth 100000

theorem Fk{α:Type}(p:α→Bool): ∀(l:List α) (i:Nat),(VL p l i= -1∧l.find? p=none)∨ ∃j k,VL p l i=((i+j:Nat):Int)∧l[j]? =some k∧l.find? p=some k:=by
 intro l
 induction l with
 |nil=>intro i;exact .inl ⟨rfl,rfl⟩
 |cons k l ih=>
  intro i;rw[VL,List.find?_cons]
  cases hp:p k with
  |true=>exact .inr ⟨0,k,by simp,rfl,rfl⟩
  |false=>
   rcases ih (i+1)with⟨h1,h2⟩|⟨j,q,h1,h2,h3⟩
   ·exact .inl ⟨by rw[if_neg (by decide)];exact h1,h2⟩
   ·exact .inr ⟨j+1,q,by rw[if_neg (by decide),h1];congr 1;omega,h2,h3⟩
theorem LX{ps:List Pd}{sc:List Dc}{s:List Nat}{a:Int}{l:List Nd}(h:ps.find? (fun p=>decide (p.name=s))=none):Z0 ps sc s a l=(a,5):=by unfold Z0;rw[h]
theorem ZT{ps:List Pd}{sc:List Dc}{s:List Nat}{a:Int}{l:List Nd}{p:Pd}(h:ps.find? (fun p=>decide (p.name=s))=some p):Z0 ps sc s a l=if p.params.length≠l.length then(a,7)else VX sc a p.params l:=by unfold Z0;rw[h]

theorem Sq{st:St}{cs:List AV}(hf:Q3 st){ps:List Pd}{kp:AV}{lp:List (List AV)}(hP:EE st.h.get ps kp lp){sc:List Dc}{kd:AV}{ld:List (List AV)}(hD:Yo st.h.get sc kd ld){o s:List Nat}{z a:Int}{l:List Nd}(hr:YW st.h.get (.mk o s z a l) cs)(hTm: ∀k∈l,QL k=true): ∃v st',Ev Tryz.prog Jg 99 [kp,kd,.agg cs] st v st'∧v=pT (Z0 ps sc s a l)∧Qt st st':=by
 have hr0:=hr;obtain⟨kk,ls,rfl,hK,hb⟩:=hr.Ju;have hln:=hK.ln;have hbn:=hK.Yx;have hlp:=hP.ln;have hbp:=hP.Yx;refine QG rfl Tryz.func99 rfl Tryz.ntmps99 rfl fun T hT=>?_;have K:Jk [(0,_),(1,_),(2,_)] T:=(.cons (hT 0) (.cons (hT 1) (.cons (hT 2) .nil)));have M:=Mem.start hf;refine Qw<|Qi ?_;refine JL K M rfl (Qa rfl (Qa rfl (Qa rfl (Qa rfl (Qa hK.cell QE))))) (by decide) fun c5 _ _ K M=>?_;refine Qc 5 K M ?_;intro _ K;refine oQ K M (D8 M.fresh (EE.mono M.rows hP) s) rfl rfl fun _ _ K M=>?_;obtain⟨fi,hfi⟩: ∃fi,fi=VL (fun p:Pd=>decide (p.name=s)) ps 0:=⟨_,rfl⟩;rw[←hfi]at K
 have hfb:(fi= -1∧ps.find? (fun p=>decide (p.name=s))=none)∨(0≤fi∧fi<((ps.length:Nat):Int)∧ps.find? (fun p=>decide (p.name=s))=ps[fi.toNat]?):=by
  rcases Fk (fun p:Pd=>decide (p.name=s)) ps 0 with⟨h1,h2⟩|⟨j,k,h1,h2,h3⟩
  ·exact .inl ⟨by rw[hfi,h1],h2⟩
  ·have h4:=(List.getElem?_eq_some_iff.1 h2).1
   have h5:fi.toNat=j:=by rw[hfi,h1];omega
   exact .inr ⟨by rw[hfi,h1];omega,by rw[hfi,h1];omega,by rw[h3,h5,h2]⟩
 refine Qc 3 K M ?_;intro _ K;refine YX K rfl (fun h18=>?_) fun h18=>?_
 ·refine Qc 4 K M ?_;intro _ K;refine Qd ⟨.inr rfl,_,Zm K rfl rfl,?_⟩;refine⟨congrArg pT (a₁:=(a,5)) (a₂:=Z0 ps sc s a l) (Eq.symm ?_),M.qt⟩;exact LX (by rcases hfb with h|h;exact h.2;omega)
 refine QO ?_;show W _ _ _ _ _ _ _;refine Qw<|Qw ?_;refine Jr (l:=[(0,0),(1,0),(2,0),(3,0),(4,0),(5,0),(6,0),(7,0),(8,0),(9,0)]) (by kernel_rfl) ?_;refine d1 rfl K (Qf FD rfl) rfl rfl fun _ K=>d1 rfl K (Qq rfl (M.load (k:=0) rfl (Ql F4 rfl))) rfl rfl fun _ K=>d1 rfl K (QP QK rfl rfl hK.len) rfl rfl fun _ K=>d1 rfl K (Qb rfl) rfl rfl fun _ K=>d1 rfl K (Qb rfl) rfl rfl fun _ K=>?_;obtain⟨⟨pn26,pp26,⟨_,_,_,_,l26⟩,pa26⟩,hi26⟩: ∃k,ps[fi.toNat]? =some k:=⟨_,List.getElem?_eq_getElem (by omega)⟩;have hm26:=UI hi26;obtain⟨_,hc26,hP26⟩:=hP.at_ _ _ hi26;have hP260:=hP26;obtain⟨kd26,ld26,o26,s26,z26,a26,kk26,rfl,hD26,hn26,hy26⟩:=hP260;obtain⟨kx26,ls26,ex26,hK26,hb26⟩:=hn26.Ju
 injection ex26 with x1 x;injection x with x2 x;injection x with x3 x;injection x with x4 x;injection x with x5 x
 injection x1 with x1;injection x2 with x2;injection x3 with _ x3;injection x4 with _ x4
 subst x1 x2 x3 x4 x5;replace hD26:Yo st.h.get pp26 kd26 ld26:=hD26;replace hn26:YW st.h.get (.mk o26 s26 z26 a26 l26) _:=hn26;replace hy26:Bytes pn26:=hy26;have hl26:=hK26.Yx;have hd26:=hD26.Yx;obtain⟨x26,m26,f26,q26,_,la26,lo26,lp26⟩:=(hP.r.mem M (by simp)).load (i:=fi.toNat) (cs:=_) hc26;refine d1 rfl K (Qn (j:=fi.toNat) Um (congrArg some q26) (congrArg (fun z=>some (AV.int .i64 z)) (by omega:_=((fi.toNat:Nat):Int))) (by rw[hP.ln];omega)) rfl rfl fun _ K=>d1 rfl K (Qf Za rfl) rfl rfl fun _ K=>d1 rfl K (Qq rfl (lo26 _ 1 _ Ut rfl)) rfl rfl fun _ K=>d1 rfl K (QP JR rfl rfl hD26.len) rfl rfl fun _ K=>d1 rfl K (Cx rfl rfl) rfl rfl fun _ K=>J4 ?_;show W _ _ _ _ _ _ _;refine IU K rfl (fun h30=>?_) fun h30=>?_
 ·refine Qc 4 K M ?_;intro _ K;refine Qd ⟨.inr rfl,_,Zm K rfl rfl,?_⟩;refine⟨congrArg pT (a₁:=(a,7)) (a₂:=Z0 ps sc s a l) (Eq.symm ?_),M.qt⟩;have hfs:ps.find? (fun p=>decide (p.name=s))=some _:=(hfb.resolve_left (by omega)).2.2.trans hi26;exact(ZT hfs).trans (if_pos (by show pp26.length≠l.length;omega))
 refine Qc 1 K M ?_;intro _ K;refine JX (fun mm1 T st9=> ∃(i:Nat),mm1=l.length-i∧Jk [(0,kp),(1,kd),(5,.ptr c5 0 0),(8,.int .i64 fi),(9,.int .i64 (((i:Nat):Int)))] T∧Mem st.h.get st.n [] st9 [(c5,0,[.str o,.str s,.int .i64 z,.int .i64 a,kk])]∧i≤l.length∧VX sc a pp26 l=VX sc a (pp26.drop i) (l.drop i)) (fun mm1 T st9 hI=>?_) _ _ _ ⟨0,rfl,(.cons (K _ _ rfl) (.cons (K _ _ rfl) (.cons (K _ _ rfl) (.cons (K _ _ rfl) (.cons (K _ _ rfl) .nil))))),M.less (.refl _),(Nat.zero_le _),(by rw[List.drop_zero,List.drop_zero])⟩;obtain⟨i,rfl,K,M,hi,hx⟩:=hI;refine Qc 3 K M ?_;intro _ K;refine o1 K (QP QK rfl rfl hK.len) rfl fun _ K=>?_;refine Qc 1 K M ?_;intro _ K;refine YX K rfl (fun h37=>?_) fun h37=>?_
 ·refine Qc 4 K M ?_;intro _ K;obtain⟨⟨o45,s45,z45,a45,l45⟩,hi45⟩: ∃k,l[i]? =some k:=⟨_,List.getElem?_eq_getElem (by first|omega|(have:=Uq ht (by assumption);omega))⟩;have hm45:=Ub hi45;obtain⟨_,hc45,hn45⟩:=hK.at_ _ _ hi45;have hp45:=hn45;obtain⟨kk45,ls45,rfl,hK45,hb45⟩:=hp45.Ju;obtain⟨x45,m45,f45,q45,_,la45,lo45,lp45⟩:=(hK.r.mem M (by simp)).load (i:=i) (cs:=_) hc45;refine o1 K (Qn (j:=i) QW (congrArg some q45) rfl (by rw[hK.ln];first|omega|(have:=Uq ht (by assumption);omega))) rfl fun _ K=>o1 K (Qq rfl (la45 _ Q8)) rfl fun _ K=>?_;refine oQ K M (Lf _ _ _ M.fresh (Yo.mono M.rows hD) (hn45.mono M.rows) (hTm _ hm45)) rfl rfl fun _ _ K M=>?_;refine Qc 9 K M ?_;intro _ K;refine IU K rfl (fun h52=>?_) fun h52=>?_
  ·refine Qc 4 K M ?_;intro _ K;refine Qd ⟨.inr rfl,_,Zm K rfl rfl,?_⟩;refine⟨congrArg pT (a₁:=((Q0 sc (.mk o45 s45 z45 a45 l45)).2.1,(Q0 sc (.mk o45 s45 z45 a45 l45)).2.2)) (a₂:=Z0 ps sc s a l) (Eq.symm ?_),M.qt⟩;have hfs:ps.find? (fun p=>decide (p.name=s))=some _:=(hfb.resolve_left (by omega)).2.2.trans hi26;refine(ZT hfs).trans ((if_neg (by show¬pp26.length≠l.length;omega)).trans ?_);show VX sc a pp26 l=_;obtain⟨dq,hdq⟩: ∃d,pp26[i]? =some d:=⟨_,List.getElem?_eq_getElem (by omega)⟩;rw[hx,Vs hdq hi45,if_pos (by omega)]
  refine Qc 3 K M ?_;intro _ K;obtain⟨⟨pn58,pp58,⟨_,_,_,_,l58⟩,pa58⟩,hi58⟩: ∃k,ps[fi.toNat]? =some k:=⟨_,List.getElem?_eq_getElem (by omega)⟩;have hm58:=UI hi58;obtain⟨_,hc58,hP58⟩:=hP.at_ _ _ hi58;have hP580:=hP58;obtain⟨kd58,ld58,o58,s58,z58,a58,kk58,rfl,hD58,hn58,hy58⟩:=hP580;obtain⟨kx58,ls58,ex58,hK58,hb58⟩:=hn58.Ju
  injection ex58 with x1 x;injection x with x2 x;injection x with x3 x;injection x with x4 x;injection x with x5 x
  injection x1 with x1;injection x2 with x2;injection x3 with _ x3;injection x4 with _ x4
  subst x1 x2 x3 x4 x5;replace hD58:Yo st.h.get pp58 kd58 ld58:=hD58;replace hn58:YW st.h.get (.mk o58 s58 z58 a58 l58) _:=hn58;replace hy58:Bytes pn58:=hy58;have hl58:=hK58.Yx;have hd58:=hD58.Yx;have he58:pp58=pp26:=congrArg Pd.params (Option.some.inj (hi58.symm.trans hi26));have hel58:pp58.length=pp26.length:=congrArg List.length he58;obtain⟨x58,m58,f58,q58,_,la58,lo58,lp58⟩:=(hP.r.mem M (by simp)).load (i:=fi.toNat) (cs:=_) hc58;refine o1 K (Qn (j:=fi.toNat) Um (congrArg some q58) (congrArg (fun z=>some (AV.int .i64 z)) (by omega:_=((fi.toNat:Nat):Int))) (by rw[hP.ln];omega)) rfl fun _ K=>o1 K (Qf Za rfl) rfl fun _ K=>o1 K (Qq rfl (lo58 _ 1 _ Ut rfl)) rfl fun _ K=>o1 K (Qb rfl) rfl fun _ K=>?_;obtain⟨⟨dn62,do62,da62⟩,hi62⟩: ∃k,pp58[i]? =some k:=⟨_,List.getElem?_eq_getElem (by omega)⟩;have hm62:=UI hi62;obtain⟨_,hc62,rfl,hy62⟩:=hD58.at_ _ _ hi62;obtain⟨x62,m62,f62,q62,_,la62,lo62,lp62⟩:=(hD58.r.mem M (by simp)).load (i:=i) (cs:=_) hc62;refine o1 K (Qn (j:=i) Ug (congrArg some q62) rfl (by rw[hD58.ln];omega)) rfl fun _ K=>o1 K (Qf Vy rfl) rfl fun _ K=>o1 K (Qq rfl (lo62 _ 1 _ QA rfl)) rfl fun _ K=>?_;refine Qc 1 K M ?_;intro _ K;refine IU K rfl (fun h65=>?_) fun h65=>?_
  ·refine Qc 4 K M ?_;intro _ K;refine Qd ⟨.inr rfl,_,Zm K rfl rfl,?_⟩;refine⟨congrArg pT (a₁:=(a,7)) (a₂:=Z0 ps sc s a l) (Eq.symm ?_),M.qt⟩;have hfs:ps.find? (fun p=>decide (p.name=s))=some _:=(hfb.resolve_left (by omega)).2.2.trans hi26;refine(ZT hfs).trans ((if_neg (by show¬pp26.length≠l.length;omega)).trans ?_);show VX sc a pp26 l=_;rw[hx,Vs (he58▸hi62) hi45,if_neg (by omega),if_pos (by first|exact h65|omega)]
  refine Qc 1 K M ?_;intro _ K;refine o1 K (QV rfl rfl (by omega) (by omega)) rfl fun _ K=>o1 K (Qu rfl) rfl fun _ K=>Q5 ?_;exact⟨_,(by omega),i+1,rfl,(.cons (K _ _ rfl) (.cons (K _ _ rfl) (.cons (K _ _ rfl) (.cons (K _ _ rfl) (.cons (K _ _ rfl) .nil))))),M.less (.refl _),(by omega),(by rw[hx,Vs (he58▸hi62) hi45,if_neg (by omega),if_neg (fun hh=>hh h65)])⟩
 refine JJ ?_;show W _ _ _ _ _ _ _;refine Qc 2 K M ?_;intro _ K;refine Qd ⟨.inr rfl,_,Zm K rfl rfl,?_⟩;refine⟨congrArg pT (a₁:=(0,0)) (a₂:=Z0 ps sc s a l) (Eq.symm ?_),M.qt⟩;have hfs:ps.find? (fun p=>decide (p.name=s))=some _:=(hfb.resolve_left (by omega)).2.2.trans hi26;refine(ZT hfs).trans ((if_neg (by show¬pp26.length≠l.length;omega)).trans ?_);show VX sc a pp26 l=_;rw[hx,Jh (show l.length≤i by omega)]
 cases pp26.drop i<;>rfl
end Go.Proofs.YtadjjadimlkkgaaGreatDoor
