/-
  Kinds of formulas of two terms: the program's answer.
-/
import Derived.Test.YtadjjadimlkkgaaGreatDoorMnKnG
namespace Go.Proofs.YtadjjadimlkkgaaGreatDoor
open Go Go.RowKit
set_option maxHeartbeats 8000000
set_option linter.unusedVariables false
set_option linter.unusedSimpArgs false
set_option linter.unnecessarySimpa false
set_option maxRecDepth 100000

theorem WC{st:St}{cs:List AV}(hf:Qu st){sc:List Dc}{kd:AV}{ld:List (List AV)}(hD:Y1 st.h.get sc kd ld){o s:List Nat}{z a:Int}{l:List Nd}(hr:UN st.h.get (.mk o s z a l) cs){k j:Nd}(hl2:l=[k,j])(hTm: ∀k∈l,Q9 k=true)(cp:AV): ∃v st',Ev Tryz.prog QU 93 [cp,kd,.agg cs] st v st'∧v=pT (JS sc o a k j)∧Qt st st':=by
 have hr0:=hr;obtain⟨kk,ls,rfl,hK,hb⟩:=hr.QJ;have hln:=hK.ln;have hbn:=hK.Uj
 have hl3:l.length=2:=by rw[hl2];rfl
 refine QE rfl Tryz.func93 rfl Tryz.ntmps93 rfl fun T hT=>?_;have K:QT [(0,_),(1,_),(2,_)] T:=(.cons (hT 0) (.cons (hT 1) (.cons (hT 2) .nil)));have M:=Mem.start hf;refine Qn<|Qb ?_;refine QO K M rfl (Qa rfl (Qa rfl (Qa rfl (Qa rfl (Qa hK.cell Qp))))) (by decide) fun c5 _ _ K M=>?_;refine au 5 K M ?_;intro c8 _ _ K _ M;refine o1 K (QL Q7 rfl rfl hK.len) rfl fun _ K=>?_;refine Qf 1 K M ?_;intro _ K;refine V8 ?_;refine Qf 1 K M ?_;intro _ K;refine Qm (K.QF rfl) (fun h19=>?_) (fun h19=>?_)
 ·have hb19:=h19;replace h19:=of_decide_eq_true h19;refine Qf 1 K M ?_;intro _ K;obtain⟨⟨o21,s21,z21,a21,l21⟩,hi21⟩: ∃k,l[0]? =some k:=⟨_,List.getElem?_eq_getElem (by first|omega|(have:=U3 ht (by assumption);omega))⟩;have hm21:=J6 hi21;obtain⟨_,hc21,hn21⟩:=hK.at_ _ _ hi21;have hp21:=hn21;obtain⟨kk21,ls21,rfl,hK21,hb21⟩:=hp21.QJ;obtain⟨x21,m21,f21,q21,_,la21,lo21,lp21⟩:=(hK.r.mem M (by simp)).load (i:=0) (cs:=_) hc21;refine o1 K (Qj (j:=0) QH (congrArg some q21) rfl (by rw[hK.ln];first|omega|(have:=U3 ht (by assumption);omega))) rfl fun _ K=>o1 K (Qr rfl (la21 _ Qs)) rfl fun _ K=>?_;refine au 2 K M ?_;intro c10 _ _ K _ M;refine Q5 (k:=0) K M rfl rfl rfl Qq rfl (Qa rfl (Qa rfl (Qa rfl (Qa rfl (Qa hK21.cell Qp))))) rfl fun _ M=>?_;refine Qf 2 K M ?_;intro _ K;obtain⟨v26,st26,ev26,rfl,q26⟩:=O8 _ _ _ M.fresh (Y1.mono M.rows hD) (hn21.mono M.rows) (hTm _ hm21);refine o1 K (Ql rfl ev26) rfl fun _ K=>?_;replace M:=M.quiet q26;refine Qf 9 K M ?_;intro _ K;refine Qm (K.QF rfl) (fun h31=>?_) (fun h31=>?_)
  ·have hb31:=h31
   replace h31: ¬((Qz sc (.mk o21 s21 z21 a21 l21)).2.2=0):=by simpa using h31
   refine Qf 4 K M ?_;intro _ K;refine Qe ⟨.inr rfl,_,Wy K rfl rfl,?_⟩;refine⟨congrArg pT (a₁:=((Qz sc (.mk o21 s21 z21 a21 l21)).2.1,(Qz sc (.mk o21 s21 z21 a21 l21)).2.2)) (a₂:=JS sc o a k j) (Eq.symm ?_),M.qt⟩;rw[hl2]at hi21;have hk:k=_:=Option.some.inj hi21
   try clear M
   try clear ih
   try clear hr
   try clear hr0
   try clear hp
   try clear hn
   try clear hK
   try clear hb
   try clear hc
   try clear hm
   try clear hp21
   try clear hn21
   try clear hK21
   try clear hb21
   try clear hc21
   try clear hm21
   try clear hln
   try clear hbn
   try clear hf
   try clear K
   try clear hD
   try clear hTm
   try clear hl2
   try clear hf
   try clear hi21
   try clear hi21b
   try clear hm21
   try clear hm21b
   try clear Mq
   try clear Mp
   unfold JS;subst hk
   generalize Qz sc (.mk o21 s21 z21 a21 l21)=q1 at *
   obtain⟨q11,q12,q13⟩:=q1
   try generalize Uo o=w at *
   try obtain⟨w1,w2⟩:=w
   try simp only[]at *
   repeat' split
   all_goals first|rfl|(exfalso;simp_all<;>omega)|(simp_all;done)|(exfalso;omega)
  have hb31:=h31
  replace h31:((Qz sc (.mk o21 s21 z21 a21 l21)).2.2=0):=by simpa using h31
  refine Qf 2 K M ?_;intro _ K;refine o1 K (Z4 (j:=0) VE YR rfl rfl (by decide)) rfl fun _ K=>?_;refine au 1 K M ?_;intro _ _ K _ M;refine o1 K (Jf rfl rfl (by omega) (by omega)) rfl fun _ K=>?_;refine Qf 1 K M ?_;intro _ K;refine V8 ?_;refine Qf 1 K M ?_;intro _ K;refine Qm (K.QF rfl) (fun h19=>?_) (fun h19=>?_)
  ·have hb19:=h19;replace h19:=of_decide_eq_true h19;refine Qf 1 K M ?_;intro _ K;obtain⟨⟨o21b,s21b,z21b,a21b,l21b⟩,hi21b⟩: ∃k,l[1]? =some k:=⟨_,List.getElem?_eq_getElem (by first|omega|(have:=U3 ht (by assumption);omega))⟩;have hm21b:=J6 hi21b;obtain⟨_,hc21b,hn21b⟩:=hK.at_ _ _ hi21b;have hp21b:=hn21b;obtain⟨kk21b,ls21b,rfl,hK21b,hb21b⟩:=hp21b.QJ;obtain⟨x21,m21,f21,q21,_,la21,lo21,lp21⟩:=(hK.r.mem M (by simp)).load (i:=1) (cs:=_) hc21b;refine o1 K (Qj (j:=1) QH (congrArg some q21) rfl (by rw[hK.ln];first|omega|(have:=U3 ht (by assumption);omega))) rfl fun _ K=>o1 K (Qr rfl (la21 _ Qs)) rfl fun _ K=>?_;refine au 2 K M ?_;intro c10 _ _ K _ M;refine Q5 (k:=0) K M rfl rfl rfl Qq rfl (Qa rfl (Qa rfl (Qa rfl (Qa rfl (Qa hK21b.cell Qp))))) rfl fun _ M=>?_;refine Qf 2 K M ?_;intro _ K;obtain⟨v26,st26,ev26,rfl,q26⟩:=O8 _ _ _ M.fresh (Y1.mono M.rows hD) (hn21b.mono M.rows) (hTm _ hm21b);refine o1 K (Ql rfl ev26) rfl fun _ K=>?_;replace M:=M.quiet q26;refine Qf 9 K M ?_;intro _ K;refine Qm (K.QF rfl) (fun h31=>?_) (fun h31=>?_)
   ·have hb31:=h31
    replace h31: ¬((Qz sc (.mk o21b s21b z21b a21b l21b)).2.2=0):=by simpa using h31
    refine Qf 4 K M ?_;intro _ K;refine Qe ⟨.inr rfl,_,Wy K rfl rfl,?_⟩;refine⟨congrArg pT (a₁:=((Qz sc (.mk o21b s21b z21b a21b l21b)).2.1,(Qz sc (.mk o21b s21b z21b a21b l21b)).2.2)) (a₂:=JS sc o a k j) (Eq.symm ?_),M.qt⟩;rw[hl2]at hi21;have hk:k=_:=Option.some.inj hi21;rw[hl2]at hi21b;have hj:j=_:=Option.some.inj hi21b
    try clear M
    try clear ih
    try clear hr
    try clear hr0
    try clear hp
    try clear hn
    try clear hK
    try clear hb
    try clear hc
    try clear hm
    try clear hp21
    try clear hn21
    try clear hK21
    try clear hb21
    try clear hc21
    try clear hm21
    try clear hp21b
    try clear hn21b
    try clear hK21b
    try clear hb21b
    try clear hc21b
    try clear hm21b
    try clear hln
    try clear hbn
    try clear hf
    try clear K
    try clear hD
    try clear hTm
    try clear hl2
    try clear hf
    try clear hi21
    try clear hi21b
    try clear hm21
    try clear hm21b
    try clear Mq
    try clear Mp
    unfold JS;subst hk
    generalize Qz sc (.mk o21 s21 z21 a21 l21)=q1 at *
    obtain⟨q11,q12,q13⟩:=q1;subst hj
    generalize Qz sc (.mk o21b s21b z21b a21b l21b)=q2 at *
    obtain⟨q21,q22,q23⟩:=q2
    try generalize Uo o=w at *
    try obtain⟨w1,w2⟩:=w
    try simp only[]at *
    repeat' split
    all_goals first|rfl|(exfalso;simp_all<;>omega)|(simp_all;done)|(exfalso;omega)
   have hb31:=h31
   replace h31:((Qz sc (.mk o21b s21b z21b a21b l21b)).2.2=0):=by simpa using h31
   refine Qf 2 K M ?_;intro _ K;refine o1 K (Z4 (j:=1) VE YR rfl rfl (by decide)) rfl fun _ K=>?_;refine au 1 K M ?_;intro _ _ K _ M;refine o1 K (Jf rfl rfl (by omega) (by omega)) rfl fun _ K=>?_;refine Qf 1 K M ?_;intro _ K;refine V8 ?_;refine Qf 1 K M ?_;intro _ K;refine Qm (K.QF rfl) (fun h19=>?_) (fun h19=>?_)
   ·have hb19:=h19;replace h19:=of_decide_eq_true h19
    exfalso;omega
   have hb19:=h19;replace h19:=of_decide_eq_false h19;refine J7 ?_;show W _ _ _ _ _ _ _;refine Qn ?_;refine Up (l:=[(1,0),(2,0),(3,0),(0,1),(4,0),(5,0)]) (by kernel_rfl) ?_;have Mq:=M;refine d1 rfl K (Qw Zf rfl) rfl rfl fun _ K=>d1 rfl K (Qr rfl (M.load (k:=3) rfl (QA QN rfl))) rfl rfl fun _ K=>?_;obtain⟨v41,st41,ev41,rfl,q41⟩:=Sq M.fresh o;refine dA rfl K (Ql rfl ev41) rfl rfl fun _ K=>?_;replace M:=M.quiet q41;have Mp:=Mq;have Mq:=M;refine Yh rfl K rfl (M.load (k:=2) rfl (Ji Hi rfl)) (Mp.load (k:=2) rfl (Ji Hi rfl)) (OH rfl) rfl (by decide) fun _ K=>?_;refine d1 rfl K (Rb rfl rfl) rfl rfl fun _ K=>d1 rfl K (Q0 rfl) rfl rfl fun _ K=>UG ?_;show W _ _ _ _ _ _ _;refine Qf 2 K M ?_;intro _ K;refine o1 K (QC (b:=[101,113]) rfl rfl) rfl fun _ K=>?_;refine oB K (Qd rfl) rfl fun b46 _ e46 K=>?_;cases b46
   ·replace e46:=of_decide_eq_false e46;refine Qf 2 K M ?_;intro _ K;refine og K rfl rfl (QC (b:=[110,101]) rfl rfl) rfl fun _ K=>?_;refine Qf 1 K M ?_;intro _ K;refine Xo K rfl (fun h50=>?_) fun h50=>?_
    ·refine Qb<|o1 K (Z4 (j:=0) VE YR rfl rfl (by decide)) rfl fun _ K=>?_;refine Qf 1 K M ?_;intro _ K;refine o1 K (Z4 (j:=1) VE YR rfl rfl (by decide)) rfl fun _ K=>?_;refine Qf 2 K M ?_;intro _ K;refine oB K (Qd rfl) rfl fun b56 _ e56 K=>?_;cases b56
     ·replace e56:=of_decide_eq_false e56;refine Qf 7 K M ?_;intro _ K;refine Qm (t:=true) (K.QF rfl) (fun _=>?_) (fun h=>by cases h);refine Qf 4 K M ?_;intro _ K;refine Qe ⟨.inr rfl,_,Wy K rfl rfl,?_⟩;refine⟨congrArg pT (a₁:=(a,7)) (a₂:=JS sc o a k j) (Eq.symm ?_),M.qt⟩;rw[hl2]at hi21;have hk:k=_:=Option.some.inj hi21;rw[hl2]at hi21b;have hj:j=_:=Option.some.inj hi21b
      try clear M
      try clear ih
      try clear hr
      try clear hr0
      try clear hp
      try clear hn
      try clear hK
      try clear hb
      try clear hc
      try clear hm
      try clear hp21
      try clear hn21
      try clear hK21
      try clear hb21
      try clear hc21
      try clear hm21
      try clear hp21b
      try clear hn21b
      try clear hK21b
      try clear hb21b
      try clear hc21b
      try clear hm21b
      try clear hln
      try clear hbn
      try clear hf
      try clear K
      try clear hD
      try clear hTm
      try clear hl2
      try clear hf
      try clear hi21
      try clear hi21b
      try clear hm21
      try clear hm21b
      try clear Mq
      try clear Mp
      unfold JS;subst hk
      generalize Qz sc (.mk o21 s21 z21 a21 l21)=q1 at *
      obtain⟨q11,q12,q13⟩:=q1;subst hj
      generalize Qz sc (.mk o21b s21b z21b a21b l21b)=q2 at *
      obtain⟨q21,q22,q23⟩:=q2
      try generalize Uo o=w at *
      try obtain⟨w1,w2⟩:=w
      try simp only[]at *
      repeat' split
      all_goals first|rfl|(exfalso;simp_all<;>omega)|(simp_all;done)|(exfalso;omega)
     replace e56:=of_decide_eq_true e56;refine og K rfl rfl (Z4 (j:=0) VE YR rfl rfl (by decide)) rfl fun _ K=>?_;refine Qf 6 K M ?_;intro _ K;refine Qm (K.QF rfl) (fun h62=>?_) (fun h62=>?_)
     ·have hb62:=h62
      replace h62: ¬(0<(Qz sc (.mk o21 s21 z21 a21 l21)).1):=by simpa using h62
      refine Qf 4 K M ?_;intro _ K;refine Qe ⟨.inr rfl,_,Wy K rfl rfl,?_⟩;refine⟨congrArg pT (a₁:=(a,7)) (a₂:=JS sc o a k j) (Eq.symm ?_),M.qt⟩;rw[hl2]at hi21;have hk:k=_:=Option.some.inj hi21;rw[hl2]at hi21b;have hj:j=_:=Option.some.inj hi21b
      try clear M
      try clear ih
      try clear hr
      try clear hr0
      try clear hp
      try clear hn
      try clear hK
      try clear hb
      try clear hc
      try clear hm
      try clear hp21
      try clear hn21
      try clear hK21
      try clear hb21
      try clear hc21
      try clear hm21
      try clear hp21b
      try clear hn21b
      try clear hK21b
      try clear hb21b
      try clear hc21b
      try clear hm21b
      try clear hln
      try clear hbn
      try clear hf
      try clear K
      try clear hD
      try clear hTm
      try clear hl2
      try clear hf
      try clear hi21
      try clear hi21b
      try clear hm21
      try clear hm21b
      try clear Mq
      try clear Mp
      unfold JS;subst hk
      generalize Qz sc (.mk o21 s21 z21 a21 l21)=q1 at *
      obtain⟨q11,q12,q13⟩:=q1;subst hj
      generalize Qz sc (.mk o21b s21b z21b a21b l21b)=q2 at *
      obtain⟨q21,q22,q23⟩:=q2
      try generalize Uo o=w at *
      try obtain⟨w1,w2⟩:=w
      try simp only[]at *
      repeat' split
      all_goals first|rfl|(exfalso;simp_all<;>omega)|(simp_all;done)|(exfalso;omega)
     have hb62:=h62
     replace h62:(0<(Qz sc (.mk o21 s21 z21 a21 l21)).1):=by simpa using h62
     refine Qf 2 K M ?_;intro _ K;refine Qe ⟨.inr rfl,_,Wy K rfl rfl,?_⟩;refine⟨congrArg pT (a₁:=(0,0)) (a₂:=JS sc o a k j) (Eq.symm ?_),M.qt⟩;rw[hl2]at hi21;have hk:k=_:=Option.some.inj hi21;rw[hl2]at hi21b;have hj:j=_:=Option.some.inj hi21b
     try clear M
     try clear ih
     try clear hr
     try clear hr0
     try clear hp
     try clear hn
     try clear hK
     try clear hb
     try clear hc
     try clear hm
     try clear hp21
     try clear hn21
     try clear hK21
     try clear hb21
     try clear hc21
     try clear hm21
     try clear hp21b
     try clear hn21b
     try clear hK21b
     try clear hb21b
     try clear hc21b
     try clear hm21b
     try clear hln
     try clear hbn
     try clear hf
     try clear K
     try clear hD
     try clear hTm
     try clear hl2
     try clear hf
     try clear hi21
     try clear hi21b
     try clear hm21
     try clear hm21b
     try clear Mq
     try clear Mp
     unfold JS;subst hk
     generalize Qz sc (.mk o21 s21 z21 a21 l21)=q1 at *
     obtain⟨q11,q12,q13⟩:=q1;subst hj
     generalize Qz sc (.mk o21b s21b z21b a21b l21b)=q2 at *
     obtain⟨q21,q22,q23⟩:=q2
     try generalize Uo o=w at *
     try obtain⟨w1,w2⟩:=w
     try simp only[]at *
     repeat' split
     all_goals first|rfl|(exfalso;simp_all<;>omega)|(simp_all;done)|(exfalso;omega)
    refine Qf 2 K M ?_;intro _ K;refine Qm (K.QF rfl) (fun h62=>?_) (fun h62=>?_)
    ·have hb62:=h62
     replace h62: ¬(((Qz sc (.mk o21 s21 z21 a21 l21)).1,(Qz sc (.mk o21b s21b z21b a21b l21b)).1)=((Uo o).1,(Uo o).2)):=by intro hq;rw[decide_eq_true hq]at h62;cases h62
     refine Qf 4 K M ?_;intro _ K;refine Qe ⟨.inr rfl,_,Wy K rfl rfl,?_⟩;refine⟨congrArg pT (a₁:=(a,7)) (a₂:=JS sc o a k j) (Eq.symm ?_),M.qt⟩;rw[hl2]at hi21;have hk:k=_:=Option.some.inj hi21;rw[hl2]at hi21b;have hj:j=_:=Option.some.inj hi21b
     try clear M
     try clear ih
     try clear hr
     try clear hr0
     try clear hp
     try clear hn
     try clear hK
     try clear hb
     try clear hc
     try clear hm
     try clear hp21
     try clear hn21
     try clear hK21
     try clear hb21
     try clear hc21
     try clear hm21
     try clear hp21b
     try clear hn21b
     try clear hK21b
     try clear hb21b
     try clear hc21b
     try clear hm21b
     try clear hln
     try clear hbn
     try clear hf
     try clear K
     try clear hD
     try clear hTm
     try clear hl2
     try clear hf
     try clear hi21
     try clear hi21b
     try clear hm21
     try clear hm21b
     try clear Mq
     try clear Mp
     unfold JS;subst hk
     generalize Qz sc (.mk o21 s21 z21 a21 l21)=q1 at *
     obtain⟨q11,q12,q13⟩:=q1;subst hj
     generalize Qz sc (.mk o21b s21b z21b a21b l21b)=q2 at *
     obtain⟨q21,q22,q23⟩:=q2
     try generalize Uo o=w at *
     try obtain⟨w1,w2⟩:=w
     try simp only[]at *
     repeat' split
     all_goals first|rfl|(exfalso;simp_all<;>omega)|(simp_all;done)|(exfalso;omega)
    have hb62:=h62
    replace h62:(((Qz sc (.mk o21 s21 z21 a21 l21)).1,(Qz sc (.mk o21b s21b z21b a21b l21b)).1)=((Uo o).1,(Uo o).2)):=by by_cases hq:((Qz sc (.mk o21 s21 z21 a21 l21)).1,(Qz sc (.mk o21b s21b z21b a21b l21b)).1)=((Uo o).1,(Uo o).2);exact hq;rw[decide_eq_false hq]at h62;cases h62
    refine Qf 2 K M ?_;intro _ K;refine Qe ⟨.inr rfl,_,Wy K rfl rfl,?_⟩;refine⟨congrArg pT (a₁:=(0,0)) (a₂:=JS sc o a k j) (Eq.symm ?_),M.qt⟩;rw[hl2]at hi21;have hk:k=_:=Option.some.inj hi21;rw[hl2]at hi21b;have hj:j=_:=Option.some.inj hi21b
    try clear M
    try clear ih
    try clear hr
    try clear hr0
    try clear hp
    try clear hn
    try clear hK
    try clear hb
    try clear hc
    try clear hm
    try clear hp21
    try clear hn21
    try clear hK21
    try clear hb21
    try clear hc21
    try clear hm21
    try clear hp21b
    try clear hn21b
    try clear hK21b
    try clear hb21b
    try clear hc21b
    try clear hm21b
    try clear hln
    try clear hbn
    try clear hf
    try clear K
    try clear hD
    try clear hTm
    try clear hl2
    try clear hf
    try clear hi21
    try clear hi21b
    try clear hm21
    try clear hm21b
    try clear Mq
    try clear Mp
    unfold JS;subst hk
    generalize Qz sc (.mk o21 s21 z21 a21 l21)=q1 at *
    obtain⟨q11,q12,q13⟩:=q1;subst hj
    generalize Qz sc (.mk o21b s21b z21b a21b l21b)=q2 at *
    obtain⟨q21,q22,q23⟩:=q2
    try generalize Uo o=w at *
    try obtain⟨w1,w2⟩:=w
    try simp only[]at *
    repeat' split
    all_goals first|rfl|(exfalso;simp_all<;>omega)|(simp_all;done)|(exfalso;omega)
   replace e46:=of_decide_eq_true e46;refine Qf 4 K M ?_;intro _ K;refine Qm (t:=true) (K.QF rfl) (fun _=>?_) (fun h=>by cases h);refine Qb<|o1 K (Z4 (j:=0) VE YR rfl rfl (by decide)) rfl fun _ K=>?_;refine Qf 1 K M ?_;intro _ K;refine o1 K (Z4 (j:=1) VE YR rfl rfl (by decide)) rfl fun _ K=>?_;refine Qf 2 K M ?_;intro _ K;refine oB K (Qd rfl) rfl fun b56 _ e56 K=>?_;cases b56
   ·replace e56:=of_decide_eq_false e56;refine Qf 7 K M ?_;intro _ K;refine Qm (t:=true) (K.QF rfl) (fun _=>?_) (fun h=>by cases h);refine Qf 4 K M ?_;intro _ K;refine Qe ⟨.inr rfl,_,Wy K rfl rfl,?_⟩;refine⟨congrArg pT (a₁:=(a,7)) (a₂:=JS sc o a k j) (Eq.symm ?_),M.qt⟩;rw[hl2]at hi21;have hk:k=_:=Option.some.inj hi21;rw[hl2]at hi21b;have hj:j=_:=Option.some.inj hi21b
    try clear M
    try clear ih
    try clear hr
    try clear hr0
    try clear hp
    try clear hn
    try clear hK
    try clear hb
    try clear hc
    try clear hm
    try clear hp21
    try clear hn21
    try clear hK21
    try clear hb21
    try clear hc21
    try clear hm21
    try clear hp21b
    try clear hn21b
    try clear hK21b
    try clear hb21b
    try clear hc21b
    try clear hm21b
    try clear hln
    try clear hbn
    try clear hf
    try clear K
    try clear hD
    try clear hTm
    try clear hl2
    try clear hf
    try clear hi21
    try clear hi21b
    try clear hm21
    try clear hm21b
    try clear Mq
    try clear Mp
    unfold JS;subst hk
    generalize Qz sc (.mk o21 s21 z21 a21 l21)=q1 at *
    obtain⟨q11,q12,q13⟩:=q1;subst hj
    generalize Qz sc (.mk o21b s21b z21b a21b l21b)=q2 at *
    obtain⟨q21,q22,q23⟩:=q2
    try generalize Uo o=w at *
    try obtain⟨w1,w2⟩:=w
    try simp only[]at *
    repeat' split
    all_goals first|rfl|(exfalso;simp_all<;>omega)|(simp_all;done)|(exfalso;omega)
   replace e56:=of_decide_eq_true e56;refine og K rfl rfl (Z4 (j:=0) VE YR rfl rfl (by decide)) rfl fun _ K=>?_;refine Qf 6 K M ?_;intro _ K;refine Qm (K.QF rfl) (fun h62=>?_) (fun h62=>?_)
   ·have hb62:=h62
    replace h62: ¬(0<(Qz sc (.mk o21 s21 z21 a21 l21)).1):=by simpa using h62
    refine Qf 4 K M ?_;intro _ K;refine Qe ⟨.inr rfl,_,Wy K rfl rfl,?_⟩;refine⟨congrArg pT (a₁:=(a,7)) (a₂:=JS sc o a k j) (Eq.symm ?_),M.qt⟩;rw[hl2]at hi21;have hk:k=_:=Option.some.inj hi21;rw[hl2]at hi21b;have hj:j=_:=Option.some.inj hi21b
    try clear M
    try clear ih
    try clear hr
    try clear hr0
    try clear hp
    try clear hn
    try clear hK
    try clear hb
    try clear hc
    try clear hm
    try clear hp21
    try clear hn21
    try clear hK21
    try clear hb21
    try clear hc21
    try clear hm21
    try clear hp21b
    try clear hn21b
    try clear hK21b
    try clear hb21b
    try clear hc21b
    try clear hm21b
    try clear hln
    try clear hbn
    try clear hf
    try clear K
    try clear hD
    try clear hTm
    try clear hl2
    try clear hf
    try clear hi21
    try clear hi21b
    try clear hm21
    try clear hm21b
    try clear Mq
    try clear Mp
    unfold JS;subst hk
    generalize Qz sc (.mk o21 s21 z21 a21 l21)=q1 at *
    obtain⟨q11,q12,q13⟩:=q1;subst hj
    generalize Qz sc (.mk o21b s21b z21b a21b l21b)=q2 at *
    obtain⟨q21,q22,q23⟩:=q2
    try generalize Uo o=w at *
    try obtain⟨w1,w2⟩:=w
    try simp only[]at *
    repeat' split
    all_goals first|rfl|(exfalso;simp_all<;>omega)|(simp_all;done)|(exfalso;omega)
   have hb62:=h62
   replace h62:(0<(Qz sc (.mk o21 s21 z21 a21 l21)).1):=by simpa using h62
   refine Qf 2 K M ?_;intro _ K;refine Qe ⟨.inr rfl,_,Wy K rfl rfl,?_⟩;refine⟨congrArg pT (a₁:=(0,0)) (a₂:=JS sc o a k j) (Eq.symm ?_),M.qt⟩;rw[hl2]at hi21;have hk:k=_:=Option.some.inj hi21;rw[hl2]at hi21b;have hj:j=_:=Option.some.inj hi21b
   try clear M
   try clear ih
   try clear hr
   try clear hr0
   try clear hp
   try clear hn
   try clear hK
   try clear hb
   try clear hc
   try clear hm
   try clear hp21
   try clear hn21
   try clear hK21
   try clear hb21
   try clear hc21
   try clear hm21
   try clear hp21b
   try clear hn21b
   try clear hK21b
   try clear hb21b
   try clear hc21b
   try clear hm21b
   try clear hln
   try clear hbn
   try clear hf
   try clear K
   try clear hD
   try clear hTm
   try clear hl2
   try clear hf
   try clear hi21
   try clear hi21b
   try clear hm21
   try clear hm21b
   try clear Mq
   try clear Mp
   unfold JS;subst hk
   generalize Qz sc (.mk o21 s21 z21 a21 l21)=q1 at *
   obtain⟨q11,q12,q13⟩:=q1;subst hj
   generalize Qz sc (.mk o21b s21b z21b a21b l21b)=q2 at *
   obtain⟨q21,q22,q23⟩:=q2
   try generalize Uo o=w at *
   try obtain⟨w1,w2⟩:=w
   try simp only[]at *
   repeat' split
   all_goals first|rfl|(exfalso;simp_all<;>omega)|(simp_all;done)|(exfalso;omega)
  have hb19:=h19;replace h19:=of_decide_eq_false h19
  exfalso;omega
 have hb19:=h19;replace h19:=of_decide_eq_false h19
 exfalso;omega
end Go.Proofs.YtadjjadimlkkgaaGreatDoor
