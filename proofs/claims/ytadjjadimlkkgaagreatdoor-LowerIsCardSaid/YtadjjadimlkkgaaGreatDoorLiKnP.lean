/-
  Kinds of formulas of two terms: the program's answer.
-/
import Derived.Test.YtadjjadimlkkgaaGreatDoorLiKnG
namespace Go.Proofs.YtadjjadimlkkgaaGreatDoor
open Go Go.RowKit
set_option maxHeartbeats 8000000
set_option linter.unusedVariables false
set_option linter.unusedSimpArgs false
set_option linter.unnecessarySimpa false
set_option maxRecDepth 100000

theorem VS{st:St}{cs:List AV}(hf:Qx st){sc:List Dc}{kd:AV}{ld:List (List AV)}(hD:Y8 st.h.get sc kd ld){o s:List Nat}{z a:Int}{l:List Nd}(hr:Yq st.h.get (.mk o s z a l) cs){k j:Nd}(hl2:l=[k,j])(hTm: ∀k∈l,QJ k=true)(cp:AV): ∃v st',Ev Tryz.prog QT 93 [cp,kd,.agg cs] st v st'∧v=pT (Ub sc o a k j)∧Qt st st':=by
 have hr0:=hr;obtain⟨kk,ls,rfl,hK,hb⟩:=hr.Jl;have hln:=hK.ln;have hbn:=hK.UK
 have hl3:l.length=2:=by rw[hl2];rfl
 refine Q6 rfl Tryz.func93 rfl Tryz.ntmps93 rfl fun T hT=>?_;have K:Jf [(0,_),(1,_),(2,_)] T:=(.cons (hT 0) (.cons (hT 1) (.cons (hT 2) .nil)));have M:=Mem.start hf;refine Qo<|Qb ?_;refine QM K M rfl (Qa rfl (Qa rfl (Qa rfl (Qa rfl (Qa hK.cell Qy))))) (by decide) fun c5 _ _ K M=>?_;refine au 5 K M ?_;intro c8 _ _ K _ M;refine o1 K (QF QV rfl rfl hK.len) rfl fun _ K=>?_;refine Qg 1 K M ?_;intro _ K;refine Jk ?_;refine Qg 1 K M ?_;intro _ K;refine Qs (K.QB rfl) (fun h19=>?_) (fun h19=>?_)
 ·have hb19:=h19;replace h19:=of_decide_eq_true h19;refine Qg 1 K M ?_;intro _ K;obtain⟨⟨o21,s21,z21,a21,l21⟩,hi21⟩: ∃k,l[0]? =some k:=⟨_,List.getElem?_eq_getElem (by first|omega|(have:=U5 ht (by assumption);omega))⟩;have hm21:=JQ hi21;obtain⟨_,hc21,hn21⟩:=hK.at_ _ _ hi21;have hp21:=hn21;obtain⟨kk21,ls21,rfl,hK21,hb21⟩:=hp21.Jl;obtain⟨x21,m21,f21,q21,_,la21,lo21,lp21⟩:=(hK.r.mem M (by simp)).load (i:=0) (cs:=_) hc21;refine o1 K (Qe (j:=0) QP (congrArg some q21) rfl (by rw[hK.ln];first|omega|(have:=U5 ht (by assumption);omega))) rfl fun _ K=>o1 K (Qr rfl (la21 _ Ji)) rfl fun _ K=>?_;refine au 2 K M ?_;intro c10 _ _ K _ M;refine QI (k:=0) K M rfl rfl rfl UF rfl (Qa rfl (Qa rfl (Qa rfl (Qa rfl (Qa hK21.cell Qy))))) rfl fun _ M=>?_;refine Qg 2 K M ?_;intro _ K;obtain⟨v26,st26,ev26,rfl,q26⟩:=NJ _ _ _ M.fresh (Y8.mono M.rows hD) (hn21.mono M.rows) (hTm _ hm21);refine o1 K (Ql rfl ev26) rfl fun _ K=>?_;replace M:=M.quiet q26;refine Qg 9 K M ?_;intro _ K;refine Qs (K.QB rfl) (fun h31=>?_) (fun h31=>?_)
  ·have hb31:=h31
   replace h31: ¬((Q0 sc (.mk o21 s21 z21 a21 l21)).2.2=0):=by simpa using h31
   refine Qg 4 K M ?_;intro _ K;refine Qf ⟨.inr rfl,_,VJ K rfl rfl,?_⟩;refine⟨congrArg pT (a₁:=((Q0 sc (.mk o21 s21 z21 a21 l21)).2.1,(Q0 sc (.mk o21 s21 z21 a21 l21)).2.2)) (a₂:=Ub sc o a k j) (Eq.symm ?_),M.qt⟩;rw[hl2]at hi21;have hk:k=_:=Option.some.inj hi21
   try clear M
   try clear ih
   try clear hr
   try clear hr0
   try clear hp
   try clear hn
   try clear hK
   try clear hb
   try clear hc
   try clear hm
   try clear hp21
   try clear hn21
   try clear hK21
   try clear hb21
   try clear hc21
   try clear hm21
   try clear hln
   try clear hbn
   try clear hf
   try clear K
   try clear hD
   try clear hTm
   try clear hl2
   try clear hf
   try clear hi21
   try clear hi21b
   try clear hm21
   try clear hm21b
   try clear Mq
   try clear Mp
   unfold Ub;subst hk
   generalize Q0 sc (.mk o21 s21 z21 a21 l21)=q1 at *
   obtain⟨q11,q12,q13⟩:=q1
   try generalize Uw o=w at *
   try obtain⟨w1,w2⟩:=w
   try simp only[]at *
   repeat' split
   all_goals first|rfl|(exfalso;simp_all<;>omega)|(simp_all;done)|(exfalso;omega)
  have hb31:=h31
  replace h31:((Q0 sc (.mk o21 s21 z21 a21 l21)).2.2=0):=by simpa using h31
  refine Qg 2 K M ?_;intro _ K;refine o1 K (Ze (j:=0) Va Y5 rfl rfl (by decide)) rfl fun _ K=>?_;refine au 1 K M ?_;intro _ _ K _ M;refine o1 K (Jo rfl rfl (by omega) (by omega)) rfl fun _ K=>?_;refine Qg 1 K M ?_;intro _ K;refine Jk ?_;refine Qg 1 K M ?_;intro _ K;refine Qs (K.QB rfl) (fun h19=>?_) (fun h19=>?_)
  ·have hb19:=h19;replace h19:=of_decide_eq_true h19;refine Qg 1 K M ?_;intro _ K;obtain⟨⟨o21b,s21b,z21b,a21b,l21b⟩,hi21b⟩: ∃k,l[1]? =some k:=⟨_,List.getElem?_eq_getElem (by first|omega|(have:=U5 ht (by assumption);omega))⟩;have hm21b:=JQ hi21b;obtain⟨_,hc21b,hn21b⟩:=hK.at_ _ _ hi21b;have hp21b:=hn21b;obtain⟨kk21b,ls21b,rfl,hK21b,hb21b⟩:=hp21b.Jl;obtain⟨x21,m21,f21,q21,_,la21,lo21,lp21⟩:=(hK.r.mem M (by simp)).load (i:=1) (cs:=_) hc21b;refine o1 K (Qe (j:=1) QP (congrArg some q21) rfl (by rw[hK.ln];first|omega|(have:=U5 ht (by assumption);omega))) rfl fun _ K=>o1 K (Qr rfl (la21 _ Ji)) rfl fun _ K=>?_;refine au 2 K M ?_;intro c10 _ _ K _ M;refine QI (k:=0) K M rfl rfl rfl UF rfl (Qa rfl (Qa rfl (Qa rfl (Qa rfl (Qa hK21b.cell Qy))))) rfl fun _ M=>?_;refine Qg 2 K M ?_;intro _ K;obtain⟨v26,st26,ev26,rfl,q26⟩:=NJ _ _ _ M.fresh (Y8.mono M.rows hD) (hn21b.mono M.rows) (hTm _ hm21b);refine o1 K (Ql rfl ev26) rfl fun _ K=>?_;replace M:=M.quiet q26;refine Qg 9 K M ?_;intro _ K;refine Qs (K.QB rfl) (fun h31=>?_) (fun h31=>?_)
   ·have hb31:=h31
    replace h31: ¬((Q0 sc (.mk o21b s21b z21b a21b l21b)).2.2=0):=by simpa using h31
    refine Qg 4 K M ?_;intro _ K;refine Qf ⟨.inr rfl,_,VJ K rfl rfl,?_⟩;refine⟨congrArg pT (a₁:=((Q0 sc (.mk o21b s21b z21b a21b l21b)).2.1,(Q0 sc (.mk o21b s21b z21b a21b l21b)).2.2)) (a₂:=Ub sc o a k j) (Eq.symm ?_),M.qt⟩;rw[hl2]at hi21;have hk:k=_:=Option.some.inj hi21;rw[hl2]at hi21b;have hj:j=_:=Option.some.inj hi21b
    try clear M
    try clear ih
    try clear hr
    try clear hr0
    try clear hp
    try clear hn
    try clear hK
    try clear hb
    try clear hc
    try clear hm
    try clear hp21
    try clear hn21
    try clear hK21
    try clear hb21
    try clear hc21
    try clear hm21
    try clear hp21b
    try clear hn21b
    try clear hK21b
    try clear hb21b
    try clear hc21b
    try clear hm21b
    try clear hln
    try clear hbn
    try clear hf
    try clear K
    try clear hD
    try clear hTm
    try clear hl2
    try clear hf
    try clear hi21
    try clear hi21b
    try clear hm21
    try clear hm21b
    try clear Mq
    try clear Mp
    unfold Ub;subst hk
    generalize Q0 sc (.mk o21 s21 z21 a21 l21)=q1 at *
    obtain⟨q11,q12,q13⟩:=q1;subst hj
    generalize Q0 sc (.mk o21b s21b z21b a21b l21b)=q2 at *
    obtain⟨q21,q22,q23⟩:=q2
    try generalize Uw o=w at *
    try obtain⟨w1,w2⟩:=w
    try simp only[]at *
    repeat' split
    all_goals first|rfl|(exfalso;simp_all<;>omega)|(simp_all;done)|(exfalso;omega)
   have hb31:=h31
   replace h31:((Q0 sc (.mk o21b s21b z21b a21b l21b)).2.2=0):=by simpa using h31
   refine Qg 2 K M ?_;intro _ K;refine o1 K (Ze (j:=1) Va Y5 rfl rfl (by decide)) rfl fun _ K=>?_;refine au 1 K M ?_;intro _ _ K _ M;refine o1 K (Jo rfl rfl (by omega) (by omega)) rfl fun _ K=>?_;refine Qg 1 K M ?_;intro _ K;refine Jk ?_;refine Qg 1 K M ?_;intro _ K;refine Qs (K.QB rfl) (fun h19=>?_) (fun h19=>?_)
   ·have hb19:=h19;replace h19:=of_decide_eq_true h19
    exfalso;omega
   have hb19:=h19;replace h19:=of_decide_eq_false h19;refine Uq ?_;show W _ _ _ _ _ _ _;refine Qo ?_;refine JC (l:=[(1,0),(2,0),(3,0),(0,1),(4,0),(5,0)]) (by kernel_rfl) ?_;have Mq:=M;refine d1 rfl K (QZ ZK rfl) rfl rfl fun _ K=>d1 rfl K (Qr rfl (M.load (k:=3) rfl (Qw QY rfl))) rfl rfl fun _ K=>?_;obtain⟨v41,st41,ev41,rfl,q41⟩:=Rr M.fresh o;refine dA rfl K (Ql rfl ev41) rfl rfl fun _ K=>?_;replace M:=M.quiet q41;have Mp:=Mq;have Mq:=M;refine ZM rfl K rfl (M.load (k:=2) rfl (J3 Fk rfl)) (Mp.load (k:=2) rfl (J3 Fk rfl)) (H6 rfl) rfl (by decide) fun _ K=>?_;refine d1 rfl K (DW rfl rfl) rfl rfl fun _ K=>d1 rfl K (Qq rfl) rfl rfl fun _ K=>Ui ?_;show W _ _ _ _ _ _ _;refine Qg 2 K M ?_;intro _ K;refine o1 K (Q8 (b:=[101,113]) rfl rfl) rfl fun _ K=>?_;refine oB K (Qc rfl) rfl fun b46 _ e46 K=>?_;cases b46
   ·replace e46:=of_decide_eq_false e46;refine Qg 2 K M ?_;intro _ K;refine og K rfl rfl (Q8 (b:=[110,101]) rfl rfl) rfl fun _ K=>?_;refine Qg 1 K M ?_;intro _ K;refine YI K rfl (fun h50=>?_) fun h50=>?_
    ·refine Qb<|o1 K (Ze (j:=0) Va Y5 rfl rfl (by decide)) rfl fun _ K=>?_;refine Qg 1 K M ?_;intro _ K;refine o1 K (Ze (j:=1) Va Y5 rfl rfl (by decide)) rfl fun _ K=>?_;refine Qg 2 K M ?_;intro _ K;refine oB K (Qc rfl) rfl fun b56 _ e56 K=>?_;cases b56
     ·replace e56:=of_decide_eq_false e56;refine Qg 7 K M ?_;intro _ K;refine Qs (t:=true) (K.QB rfl) (fun _=>?_) (fun h=>by cases h);refine Qg 4 K M ?_;intro _ K;refine Qf ⟨.inr rfl,_,VJ K rfl rfl,?_⟩;refine⟨congrArg pT (a₁:=(a,7)) (a₂:=Ub sc o a k j) (Eq.symm ?_),M.qt⟩;rw[hl2]at hi21;have hk:k=_:=Option.some.inj hi21;rw[hl2]at hi21b;have hj:j=_:=Option.some.inj hi21b
      try clear M
      try clear ih
      try clear hr
      try clear hr0
      try clear hp
      try clear hn
      try clear hK
      try clear hb
      try clear hc
      try clear hm
      try clear hp21
      try clear hn21
      try clear hK21
      try clear hb21
      try clear hc21
      try clear hm21
      try clear hp21b
      try clear hn21b
      try clear hK21b
      try clear hb21b
      try clear hc21b
      try clear hm21b
      try clear hln
      try clear hbn
      try clear hf
      try clear K
      try clear hD
      try clear hTm
      try clear hl2
      try clear hf
      try clear hi21
      try clear hi21b
      try clear hm21
      try clear hm21b
      try clear Mq
      try clear Mp
      unfold Ub;subst hk
      generalize Q0 sc (.mk o21 s21 z21 a21 l21)=q1 at *
      obtain⟨q11,q12,q13⟩:=q1;subst hj
      generalize Q0 sc (.mk o21b s21b z21b a21b l21b)=q2 at *
      obtain⟨q21,q22,q23⟩:=q2
      try generalize Uw o=w at *
      try obtain⟨w1,w2⟩:=w
      try simp only[]at *
      repeat' split
      all_goals first|rfl|(exfalso;simp_all<;>omega)|(simp_all;done)|(exfalso;omega)
     replace e56:=of_decide_eq_true e56;refine og K rfl rfl (Ze (j:=0) Va Y5 rfl rfl (by decide)) rfl fun _ K=>?_;refine Qg 6 K M ?_;intro _ K;refine Qs (K.QB rfl) (fun h62=>?_) (fun h62=>?_)
     ·have hb62:=h62
      replace h62: ¬(0<(Q0 sc (.mk o21 s21 z21 a21 l21)).1):=by simpa using h62
      refine Qg 4 K M ?_;intro _ K;refine Qf ⟨.inr rfl,_,VJ K rfl rfl,?_⟩;refine⟨congrArg pT (a₁:=(a,7)) (a₂:=Ub sc o a k j) (Eq.symm ?_),M.qt⟩;rw[hl2]at hi21;have hk:k=_:=Option.some.inj hi21;rw[hl2]at hi21b;have hj:j=_:=Option.some.inj hi21b
      try clear M
      try clear ih
      try clear hr
      try clear hr0
      try clear hp
      try clear hn
      try clear hK
      try clear hb
      try clear hc
      try clear hm
      try clear hp21
      try clear hn21
      try clear hK21
      try clear hb21
      try clear hc21
      try clear hm21
      try clear hp21b
      try clear hn21b
      try clear hK21b
      try clear hb21b
      try clear hc21b
      try clear hm21b
      try clear hln
      try clear hbn
      try clear hf
      try clear K
      try clear hD
      try clear hTm
      try clear hl2
      try clear hf
      try clear hi21
      try clear hi21b
      try clear hm21
      try clear hm21b
      try clear Mq
      try clear Mp
      unfold Ub;subst hk
      generalize Q0 sc (.mk o21 s21 z21 a21 l21)=q1 at *
      obtain⟨q11,q12,q13⟩:=q1;subst hj
      generalize Q0 sc (.mk o21b s21b z21b a21b l21b)=q2 at *
      obtain⟨q21,q22,q23⟩:=q2
      try generalize Uw o=w at *
      try obtain⟨w1,w2⟩:=w
      try simp only[]at *
      repeat' split
      all_goals first|rfl|(exfalso;simp_all<;>omega)|(simp_all;done)|(exfalso;omega)
     have hb62:=h62
     replace h62:(0<(Q0 sc (.mk o21 s21 z21 a21 l21)).1):=by simpa using h62
     refine Qg 2 K M ?_;intro _ K;refine Qf ⟨.inr rfl,_,VJ K rfl rfl,?_⟩;refine⟨congrArg pT (a₁:=(0,0)) (a₂:=Ub sc o a k j) (Eq.symm ?_),M.qt⟩;rw[hl2]at hi21;have hk:k=_:=Option.some.inj hi21;rw[hl2]at hi21b;have hj:j=_:=Option.some.inj hi21b
     try clear M
     try clear ih
     try clear hr
     try clear hr0
     try clear hp
     try clear hn
     try clear hK
     try clear hb
     try clear hc
     try clear hm
     try clear hp21
     try clear hn21
     try clear hK21
     try clear hb21
     try clear hc21
     try clear hm21
     try clear hp21b
     try clear hn21b
     try clear hK21b
     try clear hb21b
     try clear hc21b
     try clear hm21b
     try clear hln
     try clear hbn
     try clear hf
     try clear K
     try clear hD
     try clear hTm
     try clear hl2
     try clear hf
     try clear hi21
     try clear hi21b
     try clear hm21
     try clear hm21b
     try clear Mq
     try clear Mp
     unfold Ub;subst hk
     generalize Q0 sc (.mk o21 s21 z21 a21 l21)=q1 at *
     obtain⟨q11,q12,q13⟩:=q1;subst hj
     generalize Q0 sc (.mk o21b s21b z21b a21b l21b)=q2 at *
     obtain⟨q21,q22,q23⟩:=q2
     try generalize Uw o=w at *
     try obtain⟨w1,w2⟩:=w
     try simp only[]at *
     repeat' split
     all_goals first|rfl|(exfalso;simp_all<;>omega)|(simp_all;done)|(exfalso;omega)
    refine Qg 2 K M ?_;intro _ K;refine Qs (K.QB rfl) (fun h62=>?_) (fun h62=>?_)
    ·have hb62:=h62
     replace h62: ¬(((Q0 sc (.mk o21 s21 z21 a21 l21)).1,(Q0 sc (.mk o21b s21b z21b a21b l21b)).1)=((Uw o).1,(Uw o).2)):=by intro hq;rw[decide_eq_true hq]at h62;cases h62
     refine Qg 4 K M ?_;intro _ K;refine Qf ⟨.inr rfl,_,VJ K rfl rfl,?_⟩;refine⟨congrArg pT (a₁:=(a,7)) (a₂:=Ub sc o a k j) (Eq.symm ?_),M.qt⟩;rw[hl2]at hi21;have hk:k=_:=Option.some.inj hi21;rw[hl2]at hi21b;have hj:j=_:=Option.some.inj hi21b
     try clear M
     try clear ih
     try clear hr
     try clear hr0
     try clear hp
     try clear hn
     try clear hK
     try clear hb
     try clear hc
     try clear hm
     try clear hp21
     try clear hn21
     try clear hK21
     try clear hb21
     try clear hc21
     try clear hm21
     try clear hp21b
     try clear hn21b
     try clear hK21b
     try clear hb21b
     try clear hc21b
     try clear hm21b
     try clear hln
     try clear hbn
     try clear hf
     try clear K
     try clear hD
     try clear hTm
     try clear hl2
     try clear hf
     try clear hi21
     try clear hi21b
     try clear hm21
     try clear hm21b
     try clear Mq
     try clear Mp
     unfold Ub;subst hk
     generalize Q0 sc (.mk o21 s21 z21 a21 l21)=q1 at *
     obtain⟨q11,q12,q13⟩:=q1;subst hj
     generalize Q0 sc (.mk o21b s21b z21b a21b l21b)=q2 at *
     obtain⟨q21,q22,q23⟩:=q2
     try generalize Uw o=w at *
     try obtain⟨w1,w2⟩:=w
     try simp only[]at *
     repeat' split
     all_goals first|rfl|(exfalso;simp_all<;>omega)|(simp_all;done)|(exfalso;omega)
    have hb62:=h62
    replace h62:(((Q0 sc (.mk o21 s21 z21 a21 l21)).1,(Q0 sc (.mk o21b s21b z21b a21b l21b)).1)=((Uw o).1,(Uw o).2)):=by by_cases hq:((Q0 sc (.mk o21 s21 z21 a21 l21)).1,(Q0 sc (.mk o21b s21b z21b a21b l21b)).1)=((Uw o).1,(Uw o).2);exact hq;rw[decide_eq_false hq]at h62;cases h62
    refine Qg 2 K M ?_;intro _ K;refine Qf ⟨.inr rfl,_,VJ K rfl rfl,?_⟩;refine⟨congrArg pT (a₁:=(0,0)) (a₂:=Ub sc o a k j) (Eq.symm ?_),M.qt⟩;rw[hl2]at hi21;have hk:k=_:=Option.some.inj hi21;rw[hl2]at hi21b;have hj:j=_:=Option.some.inj hi21b
    try clear M
    try clear ih
    try clear hr
    try clear hr0
    try clear hp
    try clear hn
    try clear hK
    try clear hb
    try clear hc
    try clear hm
    try clear hp21
    try clear hn21
    try clear hK21
    try clear hb21
    try clear hc21
    try clear hm21
    try clear hp21b
    try clear hn21b
    try clear hK21b
    try clear hb21b
    try clear hc21b
    try clear hm21b
    try clear hln
    try clear hbn
    try clear hf
    try clear K
    try clear hD
    try clear hTm
    try clear hl2
    try clear hf
    try clear hi21
    try clear hi21b
    try clear hm21
    try clear hm21b
    try clear Mq
    try clear Mp
    unfold Ub;subst hk
    generalize Q0 sc (.mk o21 s21 z21 a21 l21)=q1 at *
    obtain⟨q11,q12,q13⟩:=q1;subst hj
    generalize Q0 sc (.mk o21b s21b z21b a21b l21b)=q2 at *
    obtain⟨q21,q22,q23⟩:=q2
    try generalize Uw o=w at *
    try obtain⟨w1,w2⟩:=w
    try simp only[]at *
    repeat' split
    all_goals first|rfl|(exfalso;simp_all<;>omega)|(simp_all;done)|(exfalso;omega)
   replace e46:=of_decide_eq_true e46;refine Qg 4 K M ?_;intro _ K;refine Qs (t:=true) (K.QB rfl) (fun _=>?_) (fun h=>by cases h);refine Qb<|o1 K (Ze (j:=0) Va Y5 rfl rfl (by decide)) rfl fun _ K=>?_;refine Qg 1 K M ?_;intro _ K;refine o1 K (Ze (j:=1) Va Y5 rfl rfl (by decide)) rfl fun _ K=>?_;refine Qg 2 K M ?_;intro _ K;refine oB K (Qc rfl) rfl fun b56 _ e56 K=>?_;cases b56
   ·replace e56:=of_decide_eq_false e56;refine Qg 7 K M ?_;intro _ K;refine Qs (t:=true) (K.QB rfl) (fun _=>?_) (fun h=>by cases h);refine Qg 4 K M ?_;intro _ K;refine Qf ⟨.inr rfl,_,VJ K rfl rfl,?_⟩;refine⟨congrArg pT (a₁:=(a,7)) (a₂:=Ub sc o a k j) (Eq.symm ?_),M.qt⟩;rw[hl2]at hi21;have hk:k=_:=Option.some.inj hi21;rw[hl2]at hi21b;have hj:j=_:=Option.some.inj hi21b
    try clear M
    try clear ih
    try clear hr
    try clear hr0
    try clear hp
    try clear hn
    try clear hK
    try clear hb
    try clear hc
    try clear hm
    try clear hp21
    try clear hn21
    try clear hK21
    try clear hb21
    try clear hc21
    try clear hm21
    try clear hp21b
    try clear hn21b
    try clear hK21b
    try clear hb21b
    try clear hc21b
    try clear hm21b
    try clear hln
    try clear hbn
    try clear hf
    try clear K
    try clear hD
    try clear hTm
    try clear hl2
    try clear hf
    try clear hi21
    try clear hi21b
    try clear hm21
    try clear hm21b
    try clear Mq
    try clear Mp
    unfold Ub;subst hk
    generalize Q0 sc (.mk o21 s21 z21 a21 l21)=q1 at *
    obtain⟨q11,q12,q13⟩:=q1;subst hj
    generalize Q0 sc (.mk o21b s21b z21b a21b l21b)=q2 at *
    obtain⟨q21,q22,q23⟩:=q2
    try generalize Uw o=w at *
    try obtain⟨w1,w2⟩:=w
    try simp only[]at *
    repeat' split
    all_goals first|rfl|(exfalso;simp_all<;>omega)|(simp_all;done)|(exfalso;omega)
   replace e56:=of_decide_eq_true e56;refine og K rfl rfl (Ze (j:=0) Va Y5 rfl rfl (by decide)) rfl fun _ K=>?_;refine Qg 6 K M ?_;intro _ K;refine Qs (K.QB rfl) (fun h62=>?_) (fun h62=>?_)
   ·have hb62:=h62
    replace h62: ¬(0<(Q0 sc (.mk o21 s21 z21 a21 l21)).1):=by simpa using h62
    refine Qg 4 K M ?_;intro _ K;refine Qf ⟨.inr rfl,_,VJ K rfl rfl,?_⟩;refine⟨congrArg pT (a₁:=(a,7)) (a₂:=Ub sc o a k j) (Eq.symm ?_),M.qt⟩;rw[hl2]at hi21;have hk:k=_:=Option.some.inj hi21;rw[hl2]at hi21b;have hj:j=_:=Option.some.inj hi21b
    try clear M
    try clear ih
    try clear hr
    try clear hr0
    try clear hp
    try clear hn
    try clear hK
    try clear hb
    try clear hc
    try clear hm
    try clear hp21
    try clear hn21
    try clear hK21
    try clear hb21
    try clear hc21
    try clear hm21
    try clear hp21b
    try clear hn21b
    try clear hK21b
    try clear hb21b
    try clear hc21b
    try clear hm21b
    try clear hln
    try clear hbn
    try clear hf
    try clear K
    try clear hD
    try clear hTm
    try clear hl2
    try clear hf
    try clear hi21
    try clear hi21b
    try clear hm21
    try clear hm21b
    try clear Mq
    try clear Mp
    unfold Ub;subst hk
    generalize Q0 sc (.mk o21 s21 z21 a21 l21)=q1 at *
    obtain⟨q11,q12,q13⟩:=q1;subst hj
    generalize Q0 sc (.mk o21b s21b z21b a21b l21b)=q2 at *
    obtain⟨q21,q22,q23⟩:=q2
    try generalize Uw o=w at *
    try obtain⟨w1,w2⟩:=w
    try simp only[]at *
    repeat' split
    all_goals first|rfl|(exfalso;simp_all<;>omega)|(simp_all;done)|(exfalso;omega)
   have hb62:=h62
   replace h62:(0<(Q0 sc (.mk o21 s21 z21 a21 l21)).1):=by simpa using h62
   refine Qg 2 K M ?_;intro _ K;refine Qf ⟨.inr rfl,_,VJ K rfl rfl,?_⟩;refine⟨congrArg pT (a₁:=(0,0)) (a₂:=Ub sc o a k j) (Eq.symm ?_),M.qt⟩;rw[hl2]at hi21;have hk:k=_:=Option.some.inj hi21;rw[hl2]at hi21b;have hj:j=_:=Option.some.inj hi21b
   try clear M
   try clear ih
   try clear hr
   try clear hr0
   try clear hp
   try clear hn
   try clear hK
   try clear hb
   try clear hc
   try clear hm
   try clear hp21
   try clear hn21
   try clear hK21
   try clear hb21
   try clear hc21
   try clear hm21
   try clear hp21b
   try clear hn21b
   try clear hK21b
   try clear hb21b
   try clear hc21b
   try clear hm21b
   try clear hln
   try clear hbn
   try clear hf
   try clear K
   try clear hD
   try clear hTm
   try clear hl2
   try clear hf
   try clear hi21
   try clear hi21b
   try clear hm21
   try clear hm21b
   try clear Mq
   try clear Mp
   unfold Ub;subst hk
   generalize Q0 sc (.mk o21 s21 z21 a21 l21)=q1 at *
   obtain⟨q11,q12,q13⟩:=q1;subst hj
   generalize Q0 sc (.mk o21b s21b z21b a21b l21b)=q2 at *
   obtain⟨q21,q22,q23⟩:=q2
   try generalize Uw o=w at *
   try obtain⟨w1,w2⟩:=w
   try simp only[]at *
   repeat' split
   all_goals first|rfl|(exfalso;simp_all<;>omega)|(simp_all;done)|(exfalso;omega)
  have hb19:=h19;replace h19:=of_decide_eq_false h19
  exfalso;omega
 have hb19:=h19;replace h19:=of_decide_eq_false h19
 exfalso;omega
end Go.Proofs.YtadjjadimlkkgaaGreatDoor
