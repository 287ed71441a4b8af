/-
  Kinds of formulas: two terms, the reference's answer.
-/
import Derived.Test.YtadjjadimlkkgaaGreatDoorKtKnC
namespace Go.Proofs.YtadjjadimlkkgaaGreatDoor
open Go Go.RowKit
set_option maxHeartbeats 8000000
set_option linter.unusedVariables false
set_option linter.unusedSimpArgs false
set_option linter.unnecessarySimpa false
set_option maxRecDepth 100000

theorem IB(l:List Dc)(s:List Nat)(h: ∀d∈l,0≤d.order): -1≤U8 l s:=by
 have key: ∀(l:List Dc) (r:Int),-1≤r→(∀d∈l,0≤d.order)→ -1≤l.foldl (fun r d=>if d.name=s then d.order else r) r:=by
  intro l
  induction l with
  |nil=>intro r hr _;exact hr
  |cons d l ih=>
   intro r hr h;rw[List.foldl_cons];refine ih _ ?_ fun e he=>h e (List.mem_cons_of_mem _ he)
   by_cases q:d.name=s
   ·rw[if_pos q];have:=h d (List.mem_cons_self ..);omega
   ·rw[if_neg q];exact hr
 exact key l (-1) (by omega) h
theorem OO(sc:List Dc)(x:Nd):0≤(Q0 sc x).1:=by
 obtain⟨o,s,z,a,l⟩:=x
 by_cases h1:o=[118,97,114]
 ·rw[E4 h1]
  by_cases h:U8 sc s<0
  ·rw[if_pos h];exact Int.le_refl _
  ·rw[if_neg h];exact Int.not_lt.1 h
 by_cases h2:o=[110,117,109]
 ·rw[IG h2];exact Int.zero_le_ofNat 1
 rw[Fj h1 h2 rfl rfl]
 cases Zn sc (decide (o=[112,108,117,115])) a (if o=[115,101,116]then 1 else if o=[112,108,117,115]then 1 else 2) l with
 |some r=>exact Int.le_refl _
 |none=>
  show(0:Int)≤if o=[112,108,117,115]then 1 else 2
  by_cases q:o=[112,108,117,115]
  ·rw[if_pos q];decide
  ·rw[if_neg q];decide
def Y6(sc:List Dc)(a w1 w2:Int)(k j:Nd):Int×Int:=
 if(Q0 sc k).2.2≠0 then((Q0 sc k).2.1,(Q0 sc k).2.2)
 else if(Q0 sc j).2.2≠0 then((Q0 sc j).2.1,(Q0 sc j).2.2)
 else if w1=0 then(if(Q0 sc k).1=(Q0 sc j).1∧(Q0 sc k).1≠0 then(0,0)else(a,7))
 else if(Q0 sc k).1=w1∧(Q0 sc j).1=w2 then(0,0)else(a,7)
def pT(r:Int×Int):AV:=.tup [.int .i64 r.1,.int .i64 r.2]

theorem FL{st:St}{cs:List AV}(hf:Q3 st){sc:List Dc}{kd:AV}{ld:List (List AV)}(hD:Yo st.h.get sc kd ld){o s:List Nat}{z a:Int}{l:List Nd}(hr:YW st.h.get (.mk o s z a l) cs){k j:Nd}(hl2:l=[k,j])(hTm: ∀k∈l,QL k=true)(w1 w2:Int): ∃v st',Ev Tryz.prog Jg 98 [kd,.agg cs,.int .i64 w1,.int .i64 w2] st v st'∧v=pT (Y6 sc a w1 w2 k j)∧Qt st st':=by
 have hr0:=hr;obtain⟨kk,ls,rfl,hK,hb⟩:=hr.Ju;have hln:=hK.ln;have hbn:=hK.Yx;refine QG rfl Tryz.func98 rfl Tryz.ntmps98 rfl fun T hT=>?_;have K:Jk [(0,_),(1,_),(2,_),(3,_)] T:=(.cons (hT 0) (.cons (hT 1) (.cons (hT 2) (.cons (hT 3) .nil))));have M:=Mem.start hf;refine Qw<|Qi ?_;refine JL K M rfl (Qa rfl (Qa rfl (Qa rfl (Qa rfl (Qa hK.cell QE))))) (by decide) fun c5 _ _ K M=>?_;refine Qc 5 K M ?_;intro _ K;obtain⟨⟨o20,s20,z20,a20,l20⟩,hi20⟩: ∃k,l[0]? =some k:=⟨_,List.getElem?_eq_getElem (by first|omega|(rw[hl2];simp only[List.length_cons,List.length_nil];omega))⟩;have hm20:=Ub hi20;obtain⟨_,hc20,hn20⟩:=hK.at_ _ _ hi20;have hp20:=hn20;obtain⟨kk20,ls20,rfl,hK20,hb20⟩:=hp20.Ju;obtain⟨x20,m20,f20,q20,_,la20,lo20,lp20⟩:=(hK.r.mem M (by simp)).load (i:=0) (cs:=_) hc20;refine o1 K (Qn (j:=0) QW (congrArg some q20) rfl (by rw[hK.ln];first|omega|(rw[hl2];simp only[List.length_cons,List.length_nil];omega))) rfl fun _ K=>o1 K (Qq rfl (la20 _ Q8)) rfl fun _ K=>?_;obtain⟨v22,st22,ev22,rfl,q22⟩:=Lf _ _ _ M.fresh (Yo.mono M.rows hD) (hn20.mono M.rows) (hTm _ hm20);refine o1 K (Qg rfl ev22) rfl fun _ K=>?_;replace M:=M.quiet q22;refine Qc 9 K M ?_;intro _ K;refine IU K rfl (fun h27=>?_) fun h27=>?_
 ·refine Qc 4 K M ?_;intro _ K;refine Qd ⟨.inr rfl,_,Zm K rfl rfl,?_⟩;refine⟨congrArg pT (a₁:=((Q0 sc (.mk o20 s20 z20 a20 l20)).2.1,(Q0 sc (.mk o20 s20 z20 a20 l20)).2.2)) (a₂:=Y6 sc a w1 w2 k j) (Eq.symm ?_),M.qt⟩;rw[hl2]at hi20;have hk:k=_:=Option.some.inj hi20
  try clear M
  try clear ih
  try clear hr
  try clear hr0
  try clear hp
  try clear hn
  try clear hK
  try clear hb
  try clear hc
  try clear hm
  try clear hp20
  try clear hn20
  try clear hK20
  try clear hb20
  try clear hc20
  try clear hm20
  try clear hln
  try clear hbn
  try clear hf
  try clear hi20
  try clear hi34
  try clear hm20
  try clear hm34
  try clear hD
  try clear hTm
  try clear hl2
  try clear hf
  unfold Y6;subst hk
  generalize Q0 sc (.mk o20 s20 z20 a20 l20)=q1 at *
  obtain⟨q11,q12,q13⟩:=q1
  try clear K
  try simp only[]at *
  repeat' split
  all_goals first|rfl|(exfalso;simp_all<;>omega)|(simp_all;done)
 refine Qc 3 K M ?_;intro _ K;obtain⟨⟨o34,s34,z34,a34,l34⟩,hi34⟩: ∃k,l[1]? =some k:=⟨_,List.getElem?_eq_getElem (by first|omega|(rw[hl2];simp only[List.length_cons,List.length_nil];omega))⟩;have hm34:=Ub hi34;obtain⟨_,hc34,hn34⟩:=hK.at_ _ _ hi34;have hp34:=hn34;obtain⟨kk34,ls34,rfl,hK34,hb34⟩:=hp34.Ju;obtain⟨x34,m34,f34,q34,_,la34,lo34,lp34⟩:=(hK.r.mem M (by simp)).load (i:=1) (cs:=_) hc34;refine o1 K (Qn (j:=1) QW (congrArg some q34) rfl (by rw[hK.ln];first|omega|(rw[hl2];simp only[List.length_cons,List.length_nil];omega))) rfl fun _ K=>o1 K (Qq rfl (la34 _ Q8)) rfl fun _ K=>?_;refine oQ K M (Lf _ _ _ M.fresh (Yo.mono M.rows hD) (hn34.mono M.rows) (hTm _ hm34)) rfl rfl fun _ _ K M=>?_;refine Qc 9 K M ?_;intro _ K;refine IU K rfl (fun h41=>?_) fun h41=>?_
 ·refine Qc 4 K M ?_;intro _ K;refine Qd ⟨.inr rfl,_,Zm K rfl rfl,?_⟩;refine⟨congrArg pT (a₁:=((Q0 sc (.mk o34 s34 z34 a34 l34)).2.1,(Q0 sc (.mk o34 s34 z34 a34 l34)).2.2)) (a₂:=Y6 sc a w1 w2 k j) (Eq.symm ?_),M.qt⟩;rw[hl2]at hi20;have hk:k=_:=Option.some.inj hi20;rw[hl2]at hi34;have hj:j=_:=Option.some.inj hi34
  try clear M
  try clear ih
  try clear hr
  try clear hr0
  try clear hp
  try clear hn
  try clear hK
  try clear hb
  try clear hc
  try clear hm
  try clear hp20
  try clear hn20
  try clear hK20
  try clear hb20
  try clear hc20
  try clear hm20
  try clear hp34
  try clear hn34
  try clear hK34
  try clear hb34
  try clear hc34
  try clear hm34
  try clear hln
  try clear hbn
  try clear hf
  try clear hi20
  try clear hi34
  try clear hm20
  try clear hm34
  try clear hD
  try clear hTm
  try clear hl2
  try clear hf
  unfold Y6;subst hk
  generalize Q0 sc (.mk o20 s20 z20 a20 l20)=q1 at *
  obtain⟨q11,q12,q13⟩:=q1;subst hj
  generalize Q0 sc (.mk o34 s34 z34 a34 l34)=q2 at *
  obtain⟨q21,q22,q23⟩:=q2
  try clear K
  try simp only[]at *
  repeat' split
  all_goals first|rfl|(exfalso;simp_all<;>omega)|(simp_all;done)
 refine Qc 2 K M ?_;intro _ K;refine oB K (Qb rfl) rfl fun b46 _ e46 K=>?_;cases b46
 ·replace e46:=of_decide_eq_false e46;refine Qc 8 K M ?_;intro _ K;refine Qj (t:=false) (K.QN rfl) (fun h=>by cases h) (fun _=>?_);refine Qc 2 K M ?_;intro _ K;refine oB K (Qb rfl) rfl fun b57 _ e57 K=>?_;cases b57
  ·replace e57:=of_decide_eq_false e57;refine Qc 4 K M ?_;intro _ K;refine oB K (Qb rfl) rfl fun b62 _ e62 K=>?_;cases b62
   ·replace e62:((Q0 sc (.mk o20 s20 z20 a20 l20)).1=w1):=by simpa using e62
    refine Qc 4 K M ?_;intro _ K;refine Qj (K.QN rfl) (fun h66=>?_) (fun h66=>?_)
    ·have hb66:=h66
     replace h66: ¬((Q0 sc (.mk o34 s34 z34 a34 l34)).1=w2):=by simpa using h66
     refine Qc 4 K M ?_;intro _ K;refine Qd ⟨.inr rfl,_,Zm K rfl rfl,?_⟩;refine⟨congrArg pT (a₁:=(a,7)) (a₂:=Y6 sc a w1 w2 k j) (Eq.symm ?_),M.qt⟩;rw[hl2]at hi20;have hk:k=_:=Option.some.inj hi20;rw[hl2]at hi34;have hj:j=_:=Option.some.inj hi34
     try clear M
     try clear ih
     try clear hr
     try clear hr0
     try clear hp
     try clear hn
     try clear hK
     try clear hb
     try clear hc
     try clear hm
     try clear hp20
     try clear hn20
     try clear hK20
     try clear hb20
     try clear hc20
     try clear hm20
     try clear hp34
     try clear hn34
     try clear hK34
     try clear hb34
     try clear hc34
     try clear hm34
     try clear hln
     try clear hbn
     try clear hf
     try clear hi20
     try clear hi34
     try clear hm20
     try clear hm34
     try clear hD
     try clear hTm
     try clear hl2
     try clear hf
     unfold Y6;subst hk
     generalize Q0 sc (.mk o20 s20 z20 a20 l20)=q1 at *
     obtain⟨q11,q12,q13⟩:=q1;subst hj
     generalize Q0 sc (.mk o34 s34 z34 a34 l34)=q2 at *
     obtain⟨q21,q22,q23⟩:=q2
     try clear K
     try simp only[]at *
     repeat' split
     all_goals first|rfl|(exfalso;simp_all<;>omega)|(simp_all;done)
    have hb66:=h66
    replace h66:((Q0 sc (.mk o34 s34 z34 a34 l34)).1=w2):=by simpa using h66
    refine Qc 2 K M ?_;intro _ K;refine Qd ⟨.inr rfl,_,Zm K rfl rfl,?_⟩;refine⟨congrArg pT (a₁:=(0,0)) (a₂:=Y6 sc a w1 w2 k j) (Eq.symm ?_),M.qt⟩;rw[hl2]at hi20;have hk:k=_:=Option.some.inj hi20;rw[hl2]at hi34;have hj:j=_:=Option.some.inj hi34
    try clear M
    try clear ih
    try clear hr
    try clear hr0
    try clear hp
    try clear hn
    try clear hK
    try clear hb
    try clear hc
    try clear hm
    try clear hp20
    try clear hn20
    try clear hK20
    try clear hb20
    try clear hc20
    try clear hm20
    try clear hp34
    try clear hn34
    try clear hK34
    try clear hb34
    try clear hc34
    try clear hm34
    try clear hln
    try clear hbn
    try clear hf
    try clear hi20
    try clear hi34
    try clear hm20
    try clear hm34
    try clear hD
    try clear hTm
    try clear hl2
    try clear hf
    unfold Y6;subst hk
    generalize Q0 sc (.mk o20 s20 z20 a20 l20)=q1 at *
    obtain⟨q11,q12,q13⟩:=q1;subst hj
    generalize Q0 sc (.mk o34 s34 z34 a34 l34)=q2 at *
    obtain⟨q21,q22,q23⟩:=q2
    try clear K
    try simp only[]at *
    repeat' split
    all_goals first|rfl|(exfalso;simp_all<;>omega)|(simp_all;done)
   replace e62: ¬((Q0 sc (.mk o20 s20 z20 a20 l20)).1=w1):=by simpa using e62
   refine Qc 4 K M ?_;intro _ K;refine Qj (t:=true) (K.QN rfl) (fun _=>?_) (fun h=>by cases h);refine Qc 4 K M ?_;intro _ K;refine Qd ⟨.inr rfl,_,Zm K rfl rfl,?_⟩;refine⟨congrArg pT (a₁:=(a,7)) (a₂:=Y6 sc a w1 w2 k j) (Eq.symm ?_),M.qt⟩;rw[hl2]at hi20;have hk:k=_:=Option.some.inj hi20;rw[hl2]at hi34;have hj:j=_:=Option.some.inj hi34
   try clear M
   try clear ih
   try clear hr
   try clear hr0
   try clear hp
   try clear hn
   try clear hK
   try clear hb
   try clear hc
   try clear hm
   try clear hp20
   try clear hn20
   try clear hK20
   try clear hb20
   try clear hc20
   try clear hm20
   try clear hp34
   try clear hn34
   try clear hK34
   try clear hb34
   try clear hc34
   try clear hm34
   try clear hln
   try clear hbn
   try clear hf
   try clear hi20
   try clear hi34
   try clear hm20
   try clear hm34
   try clear hD
   try clear hTm
   try clear hl2
   try clear hf
   unfold Y6;subst hk
   generalize Q0 sc (.mk o20 s20 z20 a20 l20)=q1 at *
   obtain⟨q11,q12,q13⟩:=q1;subst hj
   generalize Q0 sc (.mk o34 s34 z34 a34 l34)=q2 at *
   obtain⟨q21,q22,q23⟩:=q2
   try clear K
   try simp only[]at *
   repeat' split
   all_goals first|rfl|(exfalso;simp_all<;>omega)|(simp_all;done)
  replace e57:=of_decide_eq_true e57;refine Qc 9 K M ?_;intro _ K;refine Qj (t:=true) (K.QN rfl) (fun _=>?_) (fun h=>by cases h);refine Qc 4 K M ?_;intro _ K;refine Qd ⟨.inr rfl,_,Zm K rfl rfl,?_⟩;refine⟨congrArg pT (a₁:=(a,7)) (a₂:=Y6 sc a w1 w2 k j) (Eq.symm ?_),M.qt⟩;rw[hl2]at hi20;have hk:k=_:=Option.some.inj hi20;rw[hl2]at hi34;have hj:j=_:=Option.some.inj hi34
  try clear M
  try clear ih
  try clear hr
  try clear hr0
  try clear hp
  try clear hn
  try clear hK
  try clear hb
  try clear hc
  try clear hm
  try clear hp20
  try clear hn20
  try clear hK20
  try clear hb20
  try clear hc20
  try clear hm20
  try clear hp34
  try clear hn34
  try clear hK34
  try clear hb34
  try clear hc34
  try clear hm34
  try clear hln
  try clear hbn
  try clear hf
  try clear hi20
  try clear hi34
  try clear hm20
  try clear hm34
  try clear hD
  try clear hTm
  try clear hl2
  try clear hf
  unfold Y6;subst hk
  generalize Q0 sc (.mk o20 s20 z20 a20 l20)=q1 at *
  obtain⟨q11,q12,q13⟩:=q1;subst hj
  generalize Q0 sc (.mk o34 s34 z34 a34 l34)=q2 at *
  obtain⟨q21,q22,q23⟩:=q2
  try clear K
  try simp only[]at *
  repeat' split
  all_goals first|rfl|(exfalso;simp_all<;>omega)|(simp_all;done)
 replace e46:=of_decide_eq_true e46;refine Qc 4 K M ?_;intro _ K;refine oB K (Qb rfl) rfl fun b51 _ e51 K=>?_;cases b51
 ·replace e51:=of_decide_eq_false e51;refine Qc 3 K M ?_;intro _ K;refine Qj (t:=false) (K.QN rfl) (fun h=>by cases h) (fun _=>?_);refine Qc 2 K M ?_;intro _ K;refine oB K (Qb rfl) rfl fun b57 _ e57 K=>?_;cases b57
  ·replace e57:=of_decide_eq_false e57;refine Qc 4 K M ?_;intro _ K;refine oB K (Qb rfl) rfl fun b62 _ e62 K=>?_;cases b62
   ·replace e62:((Q0 sc (.mk o20 s20 z20 a20 l20)).1=w1):=by simpa using e62
    refine Qc 4 K M ?_;intro _ K;refine Qj (K.QN rfl) (fun h66=>?_) (fun h66=>?_)
    ·have hb66:=h66
     replace h66: ¬((Q0 sc (.mk o34 s34 z34 a34 l34)).1=w2):=by simpa using h66
     refine Qc 4 K M ?_;intro _ K;refine Qd ⟨.inr rfl,_,Zm K rfl rfl,?_⟩;refine⟨congrArg pT (a₁:=(a,7)) (a₂:=Y6 sc a w1 w2 k j) (Eq.symm ?_),M.qt⟩;rw[hl2]at hi20;have hk:k=_:=Option.some.inj hi20;rw[hl2]at hi34;have hj:j=_:=Option.some.inj hi34
     try clear M
     try clear ih
     try clear hr
     try clear hr0
     try clear hp
     try clear hn
     try clear hK
     try clear hb
     try clear hc
     try clear hm
     try clear hp20
     try clear hn20
     try clear hK20
     try clear hb20
     try clear hc20
     try clear hm20
     try clear hp34
     try clear hn34
     try clear hK34
     try clear hb34
     try clear hc34
     try clear hm34
     try clear hln
     try clear hbn
     try clear hf
     try clear hi20
     try clear hi34
     try clear hm20
     try clear hm34
     try clear hD
     try clear hTm
     try clear hl2
     try clear hf
     unfold Y6;subst hk
     generalize Q0 sc (.mk o20 s20 z20 a20 l20)=q1 at *
     obtain⟨q11,q12,q13⟩:=q1;subst hj
     generalize Q0 sc (.mk o34 s34 z34 a34 l34)=q2 at *
     obtain⟨q21,q22,q23⟩:=q2
     try clear K
     try simp only[]at *
     repeat' split
     all_goals first|rfl|(exfalso;simp_all<;>omega)|(simp_all;done)
    have hb66:=h66
    replace h66:((Q0 sc (.mk o34 s34 z34 a34 l34)).1=w2):=by simpa using h66
    refine Qc 2 K M ?_;intro _ K;refine Qd ⟨.inr rfl,_,Zm K rfl rfl,?_⟩;refine⟨congrArg pT (a₁:=(0,0)) (a₂:=Y6 sc a w1 w2 k j) (Eq.symm ?_),M.qt⟩;rw[hl2]at hi20;have hk:k=_:=Option.some.inj hi20;rw[hl2]at hi34;have hj:j=_:=Option.some.inj hi34
    try clear M
    try clear ih
    try clear hr
    try clear hr0
    try clear hp
    try clear hn
    try clear hK
    try clear hb
    try clear hc
    try clear hm
    try clear hp20
    try clear hn20
    try clear hK20
    try clear hb20
    try clear hc20
    try clear hm20
    try clear hp34
    try clear hn34
    try clear hK34
    try clear hb34
    try clear hc34
    try clear hm34
    try clear hln
    try clear hbn
    try clear hf
    try clear hi20
    try clear hi34
    try clear hm20
    try clear hm34
    try clear hD
    try clear hTm
    try clear hl2
    try clear hf
    unfold Y6;subst hk
    generalize Q0 sc (.mk o20 s20 z20 a20 l20)=q1 at *
    obtain⟨q11,q12,q13⟩:=q1;subst hj
    generalize Q0 sc (.mk o34 s34 z34 a34 l34)=q2 at *
    obtain⟨q21,q22,q23⟩:=q2
    try clear K
    try simp only[]at *
    repeat' split
    all_goals first|rfl|(exfalso;simp_all<;>omega)|(simp_all;done)
   replace e62: ¬((Q0 sc (.mk o20 s20 z20 a20 l20)).1=w1):=by simpa using e62
   refine Qc 4 K M ?_;intro _ K;refine Qj (t:=true) (K.QN rfl) (fun _=>?_) (fun h=>by cases h);refine Qc 4 K M ?_;intro _ K;refine Qd ⟨.inr rfl,_,Zm K rfl rfl,?_⟩;refine⟨congrArg pT (a₁:=(a,7)) (a₂:=Y6 sc a w1 w2 k j) (Eq.symm ?_),M.qt⟩;rw[hl2]at hi20;have hk:k=_:=Option.some.inj hi20;rw[hl2]at hi34;have hj:j=_:=Option.some.inj hi34
   try clear M
   try clear ih
   try clear hr
   try clear hr0
   try clear hp
   try clear hn
   try clear hK
   try clear hb
   try clear hc
   try clear hm
   try clear hp20
   try clear hn20
   try clear hK20
   try clear hb20
   try clear hc20
   try clear hm20
   try clear hp34
   try clear hn34
   try clear hK34
   try clear hb34
   try clear hc34
   try clear hm34
   try clear hln
   try clear hbn
   try clear hf
   try clear hi20
   try clear hi34
   try clear hm20
   try clear hm34
   try clear hD
   try clear hTm
   try clear hl2
   try clear hf
   unfold Y6;subst hk
   generalize Q0 sc (.mk o20 s20 z20 a20 l20)=q1 at *
   obtain⟨q11,q12,q13⟩:=q1;subst hj
   generalize Q0 sc (.mk o34 s34 z34 a34 l34)=q2 at *
   obtain⟨q21,q22,q23⟩:=q2
   try clear K
   try simp only[]at *
   repeat' split
   all_goals first|rfl|(exfalso;simp_all<;>omega)|(simp_all;done)
  replace e57:=of_decide_eq_true e57;refine Qc 9 K M ?_;intro _ K;refine Qj (t:=true) (K.QN rfl) (fun _=>?_) (fun h=>by cases h);refine Qc 4 K M ?_;intro _ K;refine Qd ⟨.inr rfl,_,Zm K rfl rfl,?_⟩;refine⟨congrArg pT (a₁:=(a,7)) (a₂:=Y6 sc a w1 w2 k j) (Eq.symm ?_),M.qt⟩;rw[hl2]at hi20;have hk:k=_:=Option.some.inj hi20;rw[hl2]at hi34;have hj:j=_:=Option.some.inj hi34
  try clear M
  try clear ih
  try clear hr
  try clear hr0
  try clear hp
  try clear hn
  try clear hK
  try clear hb
  try clear hc
  try clear hm
  try clear hp20
  try clear hn20
  try clear hK20
  try clear hb20
  try clear hc20
  try clear hm20
  try clear hp34
  try clear hn34
  try clear hK34
  try clear hb34
  try clear hc34
  try clear hm34
  try clear hln
  try clear hbn
  try clear hf
  try clear hi20
  try clear hi34
  try clear hm20
  try clear hm34
  try clear hD
  try clear hTm
  try clear hl2
  try clear hf
  unfold Y6;subst hk
  generalize Q0 sc (.mk o20 s20 z20 a20 l20)=q1 at *
  obtain⟨q11,q12,q13⟩:=q1;subst hj
  generalize Q0 sc (.mk o34 s34 z34 a34 l34)=q2 at *
  obtain⟨q21,q22,q23⟩:=q2
  try clear K
  try simp only[]at *
  repeat' split
  all_goals first|rfl|(exfalso;simp_all<;>omega)|(simp_all;done)
 replace e51:=of_decide_eq_true e51;refine Qc 3 K M ?_;intro _ K;refine IU K rfl (fun h54=>?_) fun h54=>?_
 ·refine Qc 2 K M ?_;intro _ K;refine Qd ⟨.inr rfl,_,Zm K rfl rfl,?_⟩;refine⟨congrArg pT (a₁:=(0,0)) (a₂:=Y6 sc a w1 w2 k j) (Eq.symm ?_),M.qt⟩;rw[hl2]at hi20;have hk:k=_:=Option.some.inj hi20;rw[hl2]at hi34;have hj:j=_:=Option.some.inj hi34
  try clear M
  try clear ih
  try clear hr
  try clear hr0
  try clear hp
  try clear hn
  try clear hK
  try clear hb
  try clear hc
  try clear hm
  try clear hp20
  try clear hn20
  try clear hK20
  try clear hb20
  try clear hc20
  try clear hm20
  try clear hp34
  try clear hn34
  try clear hK34
  try clear hb34
  try clear hc34
  try clear hm34
  try clear hln
  try clear hbn
  try clear hf
  try clear hi20
  try clear hi34
  try clear hm20
  try clear hm34
  try clear hD
  try clear hTm
  try clear hl2
  try clear hf
  unfold Y6;subst hk
  generalize Q0 sc (.mk o20 s20 z20 a20 l20)=q1 at *
  obtain⟨q11,q12,q13⟩:=q1;subst hj
  generalize Q0 sc (.mk o34 s34 z34 a34 l34)=q2 at *
  obtain⟨q21,q22,q23⟩:=q2
  try clear K
  try simp only[]at *
  repeat' split
  all_goals first|rfl|(exfalso;simp_all<;>omega)|(simp_all;done)
 refine Qc 2 K M ?_;intro _ K;refine oB K (Qb rfl) rfl fun b57 _ e57 K=>?_;cases b57
 ·replace e57:=of_decide_eq_false e57;refine Qc 4 K M ?_;intro _ K;refine oB K (Qb rfl) rfl fun b62 _ e62 K=>?_;cases b62
  ·replace e62:((Q0 sc (.mk o20 s20 z20 a20 l20)).1=w1):=by simpa using e62
   refine Qc 4 K M ?_;intro _ K;refine Qj (K.QN rfl) (fun h66=>?_) (fun h66=>?_)
   ·have hb66:=h66
    replace h66: ¬((Q0 sc (.mk o34 s34 z34 a34 l34)).1=w2):=by simpa using h66
    refine Qc 4 K M ?_;intro _ K;refine Qd ⟨.inr rfl,_,Zm K rfl rfl,?_⟩;refine⟨congrArg pT (a₁:=(a,7)) (a₂:=Y6 sc a w1 w2 k j) (Eq.symm ?_),M.qt⟩;rw[hl2]at hi20;have hk:k=_:=Option.some.inj hi20;rw[hl2]at hi34;have hj:j=_:=Option.some.inj hi34
    try clear M
    try clear ih
    try clear hr
    try clear hr0
    try clear hp
    try clear hn
    try clear hK
    try clear hb
    try clear hc
    try clear hm
    try clear hp20
    try clear hn20
    try clear hK20
    try clear hb20
    try clear hc20
    try clear hm20
    try clear hp34
    try clear hn34
    try clear hK34
    try clear hb34
    try clear hc34
    try clear hm34
    try clear hln
    try clear hbn
    try clear hf
    try clear hi20
    try clear hi34
    try clear hm20
    try clear hm34
    try clear hD
    try clear hTm
    try clear hl2
    try clear hf
    unfold Y6;subst hk
    generalize Q0 sc (.mk o20 s20 z20 a20 l20)=q1 at *
    obtain⟨q11,q12,q13⟩:=q1;subst hj
    generalize Q0 sc (.mk o34 s34 z34 a34 l34)=q2 at *
    obtain⟨q21,q22,q23⟩:=q2
    try clear K
    try simp only[]at *
    repeat' split
    all_goals first|rfl|(exfalso;simp_all<;>omega)|(simp_all;done)
   have hb66:=h66
   replace h66:((Q0 sc (.mk o34 s34 z34 a34 l34)).1=w2):=by simpa using h66
   refine Qc 2 K M ?_;intro _ K;refine Qd ⟨.inr rfl,_,Zm K rfl rfl,?_⟩;refine⟨congrArg pT (a₁:=(0,0)) (a₂:=Y6 sc a w1 w2 k j) (Eq.symm ?_),M.qt⟩;rw[hl2]at hi20;have hk:k=_:=Option.some.inj hi20;rw[hl2]at hi34;have hj:j=_:=Option.some.inj hi34
   try clear M
   try clear ih
   try clear hr
   try clear hr0
   try clear hp
   try clear hn
   try clear hK
   try clear hb
   try clear hc
   try clear hm
   try clear hp20
   try clear hn20
   try clear hK20
   try clear hb20
   try clear hc20
   try clear hm20
   try clear hp34
   try clear hn34
   try clear hK34
   try clear hb34
   try clear hc34
   try clear hm34
   try clear hln
   try clear hbn
   try clear hf
   try clear hi20
   try clear hi34
   try clear hm20
   try clear hm34
   try clear hD
   try clear hTm
   try clear hl2
   try clear hf
   unfold Y6;subst hk
   generalize Q0 sc (.mk o20 s20 z20 a20 l20)=q1 at *
   obtain⟨q11,q12,q13⟩:=q1;subst hj
   generalize Q0 sc (.mk o34 s34 z34 a34 l34)=q2 at *
   obtain⟨q21,q22,q23⟩:=q2
   try clear K
   try simp only[]at *
   repeat' split
   all_goals first|rfl|(exfalso;simp_all<;>omega)|(simp_all;done)
  replace e62: ¬((Q0 sc (.mk o20 s20 z20 a20 l20)).1=w1):=by simpa using e62
  refine Qc 4 K M ?_;intro _ K;refine Qj (t:=true) (K.QN rfl) (fun _=>?_) (fun h=>by cases h);refine Qc 4 K M ?_;intro _ K;refine Qd ⟨.inr rfl,_,Zm K rfl rfl,?_⟩;refine⟨congrArg pT (a₁:=(a,7)) (a₂:=Y6 sc a w1 w2 k j) (Eq.symm ?_),M.qt⟩;rw[hl2]at hi20;have hk:k=_:=Option.some.inj hi20;rw[hl2]at hi34;have hj:j=_:=Option.some.inj hi34
  try clear M
  try clear ih
  try clear hr
  try clear hr0
  try clear hp
  try clear hn
  try clear hK
  try clear hb
  try clear hc
  try clear hm
  try clear hp20
  try clear hn20
  try clear hK20
  try clear hb20
  try clear hc20
  try clear hm20
  try clear hp34
  try clear hn34
  try clear hK34
  try clear hb34
  try clear hc34
  try clear hm34
  try clear hln
  try clear hbn
  try clear hf
  try clear hi20
  try clear hi34
  try clear hm20
  try clear hm34
  try clear hD
  try clear hTm
  try clear hl2
  try clear hf
  unfold Y6;subst hk
  generalize Q0 sc (.mk o20 s20 z20 a20 l20)=q1 at *
  obtain⟨q11,q12,q13⟩:=q1;subst hj
  generalize Q0 sc (.mk o34 s34 z34 a34 l34)=q2 at *
  obtain⟨q21,q22,q23⟩:=q2
  try clear K
  try simp only[]at *
  repeat' split
  all_goals first|rfl|(exfalso;simp_all<;>omega)|(simp_all;done)
 replace e57:=of_decide_eq_true e57;refine Qc 9 K M ?_;intro _ K;refine Qj (t:=true) (K.QN rfl) (fun _=>?_) (fun h=>by cases h);refine Qc 4 K M ?_;intro _ K;refine Qd ⟨.inr rfl,_,Zm K rfl rfl,?_⟩;refine⟨congrArg pT (a₁:=(a,7)) (a₂:=Y6 sc a w1 w2 k j) (Eq.symm ?_),M.qt⟩;rw[hl2]at hi20;have hk:k=_:=Option.some.inj hi20;rw[hl2]at hi34;have hj:j=_:=Option.some.inj hi34
 try clear M
 try clear ih
 try clear hr
 try clear hr0
 try clear hp
 try clear hn
 try clear hK
 try clear hb
 try clear hc
 try clear hm
 try clear hp20
 try clear hn20
 try clear hK20
 try clear hb20
 try clear hc20
 try clear hm20
 try clear hp34
 try clear hn34
 try clear hK34
 try clear hb34
 try clear hc34
 try clear hm34
 try clear hln
 try clear hbn
 try clear hf
 try clear hi20
 try clear hi34
 try clear hm20
 try clear hm34
 try clear hD
 try clear hTm
 try clear hl2
 try clear hf
 unfold Y6;subst hk
 generalize Q0 sc (.mk o20 s20 z20 a20 l20)=q1 at *
 obtain⟨q11,q12,q13⟩:=q1;subst hj
 generalize Q0 sc (.mk o34 s34 z34 a34 l34)=q2 at *
 obtain⟨q21,q22,q23⟩:=q2
 try clear K
 try simp only[]at *
 repeat' split
 all_goals first|rfl|(exfalso;simp_all<;>omega)|(simp_all;done)
end Go.Proofs.YtadjjadimlkkgaaGreatDoor
