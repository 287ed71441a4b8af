/-
  Kinds of formulas of two terms: the program's answer.
-/
import Derived.Test.YtaomhhkflohhgaaGreatDoorMgKnG
namespace Go.Proofs.YtaomhhkflohhgaaGreatDoor
open Go Go.RowKit
set_option maxHeartbeats 8000000
set_option linter.unusedVariables false
set_option linter.unusedSimpArgs false
set_option linter.unnecessarySimpa false
set_option maxRecDepth 100000

theorem Ap{st:St}{cs:List AV}(hf:Qw st){sc:List Dc}{kd:AV}{ld:List (List AV)}(hD:Xi st.h.get sc kd ld){o s:List Nat}{z a:Int}{l:List Nd}(hr:XE st.h.get (.mk o s z a l) cs){k j:Nd}(hl2:l=[k,j])(hTm: ∀k∈l,QO k=true)(cp:AV): ∃v st',Ev Tryz.prog QR 35 [cp,kd,.agg cs] st v st'∧v=pT (UD sc o a k j)∧Qt st st':=by
 have hr0:=hr;obtain⟨kk,ls,rfl,hK,hb⟩:=hr.Jn;have hln:=hK.ln;have hbn:=hK.YZ
 have hl3:l.length=2:=by rw[hl2];rfl
 refine Yu Tryz.func35 Tryz.ntmps35 fun T K=>?_;have M:=Mem.start hf;refine Qc 0 K M fun _ K=>?_;refine J3 K M rfl (Qa rfl (Qa rfl (Qa rfl (Qa rfl (Qa hK.cell Qo))))) QT fun c5 _ _ K M=>?_;refine au 5 K M ?_;intro c8 _ _ K _ M;refine p1 K (Jg QI rfl rfl hK.len) fun _ K=>?_;refine Qc 1 K M fun _ K=>?_;refine Uc ?_;refine Qc 1 K M fun _ K=>?_;refine JU K rfl (fun h19=>?_) fun h19=>?_
 ·have hb19:=h19;replace h19:=of_decide_eq_true h19;refine Qc 1 K M fun _ K=>?_;obtain⟨⟨o21,s21,z21,a21,l21⟩,hi21⟩: ∃k,l[0]? =some k:=⟨_,List.getElem?_eq_getElem (by first|omega|(have:=ZI ht (by assumption);omega))⟩;have hm21:=U7 hi21;obtain⟨_,hc21,hn21⟩:=hK.at_ _ _ hi21;have hp21:=hn21;obtain⟨kk21,ls21,rfl,hK21,hb21⟩:=hp21.Jn;obtain⟨x21,m21,f21,q21,_,la21,lo21,lp21⟩:=(hK.r.mem M Q3).load (i:=0) (cs:=_) hc21;refine p1 K (Q5 (j:=0) Jf (congrArg some q21) rfl (by rw[hK.ln];first|omega|(have:=ZI ht (by assumption);omega))) fun _ K=>p1 K (QW rfl (la21 _ Qv)) fun _ K=>?_;refine au 2 K M ?_;intro c10 _ _ K _ M;refine Qz (k:=0) K M rfl rfl rfl Qi rfl (Qa rfl (Qa rfl (Qa rfl (Qa rfl (Qa hK21.cell Qo))))) rfl fun _ M=>?_;refine Qc 2 K M fun _ K=>?_;obtain⟨v26,st26,ev26,rfl,q26⟩:=BX _ _ _ M.fresh (Xi.mono M.rows hD) (hn21.mono M.rows) (hTm _ hm21);refine p1 K (Qe rfl ev26) fun _ K=>?_;replace M:=M.quiet q26;refine Qc 9 K M fun _ K=>?_;refine JU K rfl (fun h31=>?_) fun h31=>?_
  ·have hb31:=h31
   replace h31: ¬((QB sc (.mk o21 s21 z21 a21 l21)).2.2=0):=by simpa using h31
   refine Qc 4 K M ?_;refine⟨congrArg pT (a₁:=((QB sc (.mk o21 s21 z21 a21 l21)).2.1,(QB sc (.mk o21 s21 z21 a21 l21)).2.2)) (a₂:=UD sc o a k j) (Eq.symm ?_),M.qt⟩;rw[hl2]at hi21;have hk:k=_:=Option.some.inj hi21
   try clear M
   try clear ih
   try clear hr
   try clear hr0
   try clear hp
   try clear hn
   try clear hK
   try clear hb
   try clear hc
   try clear hm
   try clear hp21
   try clear hn21
   try clear hK21
   try clear hb21
   try clear hc21
   try clear hm21
   try clear hln
   try clear hbn
   try clear hf
   try clear K
   try clear hD
   try clear hTm
   try clear hl2
   try clear hf
   try clear hi21
   try clear hi21b
   try clear hm21
   try clear hm21b
   try clear Mq
   try clear Mp
   unfold UD;subst hk
   generalize QB sc (.mk o21 s21 z21 a21 l21)=q1 at *
   obtain⟨q11,q12,q13⟩:=q1
   try generalize Yn o=w at *
   try obtain⟨w1,w2⟩:=w
   try simp only[]at *
   repeat' split
   all_goals first|rfl|(exfalso;simp_all<;>omega)|(simp_all;done)|(exfalso;omega)
  have hb31:=h31
  replace h31:((QB sc (.mk o21 s21 z21 a21 l21)).2.2=0):=by simpa using h31
  refine Qc 2 K M fun _ K=>?_;refine p1 K (XK (j:=0) Ew Xe rfl rfl QT) fun _ K=>?_;refine au 3 K M ?_;intro _ _ K _ M;refine Uc ?_;refine Qc 1 K M fun _ K=>?_;refine JU K rfl (fun h19=>?_) fun h19=>?_
  ·have hb19:=h19;replace h19:=of_decide_eq_true h19;refine Qc 1 K M fun _ K=>?_;obtain⟨⟨o21b,s21b,z21b,a21b,l21b⟩,hi21b⟩: ∃k,l[1]? =some k:=⟨_,List.getElem?_eq_getElem (by first|omega|(have:=ZI ht (by assumption);omega))⟩;have hm21b:=U7 hi21b;obtain⟨_,hc21b,hn21b⟩:=hK.at_ _ _ hi21b;have hp21b:=hn21b;obtain⟨kk21b,ls21b,rfl,hK21b,hb21b⟩:=hp21b.Jn;obtain⟨x21,m21,f21,q21,_,la21,lo21,lp21⟩:=(hK.r.mem M Q3).load (i:=1) (cs:=_) hc21b;refine p1 K (Q5 (j:=1) Jf (congrArg some q21) rfl (by rw[hK.ln];first|omega|(have:=ZI ht (by assumption);omega))) fun _ K=>p1 K (QW rfl (la21 _ Qv)) fun _ K=>?_;refine au 2 K M ?_;intro c10 _ _ K _ M;refine Qz (k:=0) K M rfl rfl rfl Qi rfl (Qa rfl (Qa rfl (Qa rfl (Qa rfl (Qa hK21b.cell Qo))))) rfl fun _ M=>?_;refine Qc 2 K M fun _ K=>?_;obtain⟨v26,st26,ev26,rfl,q26⟩:=BX _ _ _ M.fresh (Xi.mono M.rows hD) (hn21b.mono M.rows) (hTm _ hm21b);refine p1 K (Qe rfl ev26) fun _ K=>?_;replace M:=M.quiet q26;refine Qc 9 K M fun _ K=>?_;refine JU K rfl (fun h31=>?_) fun h31=>?_
   ·have hb31:=h31
    replace h31: ¬((QB sc (.mk o21b s21b z21b a21b l21b)).2.2=0):=by simpa using h31
    refine Qc 4 K M ?_;refine⟨congrArg pT (a₁:=((QB sc (.mk o21b s21b z21b a21b l21b)).2.1,(QB sc (.mk o21b s21b z21b a21b l21b)).2.2)) (a₂:=UD sc o a k j) (Eq.symm ?_),M.qt⟩;rw[hl2]at hi21;have hk:k=_:=Option.some.inj hi21;rw[hl2]at hi21b;have hj:j=_:=Option.some.inj hi21b
    try clear M
    try clear ih
    try clear hr
    try clear hr0
    try clear hp
    try clear hn
    try clear hK
    try clear hb
    try clear hc
    try clear hm
    try clear hp21
    try clear hn21
    try clear hK21
    try clear hb21
    try clear hc21
    try clear hm21
    try clear hp21b
    try clear hn21b
    try clear hK21b
    try clear hb21b
    try clear hc21b
    try clear hm21b
    try clear hln
    try clear hbn
    try clear hf
    try clear K
    try clear hD
    try clear hTm
    try clear hl2
    try clear hf
    try clear hi21
    try clear hi21b
    try clear hm21
    try clear hm21b
    try clear Mq
    try clear Mp
    unfold UD;subst hk
    generalize QB sc (.mk o21 s21 z21 a21 l21)=q1 at *
    obtain⟨q11,q12,q13⟩:=q1;subst hj
    generalize QB sc (.mk o21b s21b z21b a21b l21b)=q2 at *
    obtain⟨q21,q22,q23⟩:=q2
    try generalize Yn o=w at *
    try obtain⟨w1,w2⟩:=w
    try simp only[]at *
    repeat' split
    all_goals first|rfl|(exfalso;simp_all<;>omega)|(simp_all;done)|(exfalso;omega)
   have hb31:=h31
   replace h31:((QB sc (.mk o21b s21b z21b a21b l21b)).2.2=0):=by simpa using h31
   refine Qc 2 K M fun _ K=>?_;refine p1 K (XK (j:=1) Ew Xe rfl rfl QT) fun _ K=>?_;refine au 3 K M ?_;intro _ _ K _ M;refine Uc ?_;refine Qc 1 K M fun _ K=>?_;refine JU K rfl (fun h19=>?_) fun h19=>?_
   ·have hb19:=h19;replace h19:=of_decide_eq_true h19
    exfalso;omega
   have hb19:=h19;replace h19:=of_decide_eq_false h19;refine Jx ?_;show W _ _ _ _ _ _ _;refine UR ?_;refine Ja (l:=[(1,0),(2,0),(3,0),(0,1),(4,0),(5,0)]) (by kernel_rfl) ?_;have Mq:=M;refine Ui 2 K M fun _ K=>?_;obtain⟨v41,st41,ev41,rfl,q41⟩:=qf M.fresh o;refine qA rfl K (Qe rfl ev41) fun _ K=>?_;replace M:=M.quiet q41;have Mp:=Mq;have Mq:=M;refine QL rfl K rfl (M.load (k:=2) rfl (QA KM rfl)) (Mp.load (k:=2) rfl (QA KM rfl)) (X1 rfl) rfl QT fun _ K=>?_;refine q1 rfl K (TP rfl rfl) fun _ K=>q1 rfl K (JH rfl) fun _ K=>Ji ?_;show W _ _ _ _ _ _ _;refine Qc 2 K M fun _ K=>?_;refine p1 K (QU (b:=[101,113]) rfl rfl) fun _ K=>?_;refine Eh K rfl (fun _ e46 K=>?_) fun _ e46 K=>?_
   ·refine Qc 2 K M fun _ K=>?_;refine pg K rfl rfl (QU (b:=[110,101]) rfl rfl) fun _ K=>?_;refine Qc 1 K M fun _ K=>?_;refine Xj K rfl (fun h50=>?_) fun h50=>?_
    ·refine Uf<|p1 K (XK (j:=0) Ew Xe rfl rfl QT) fun _ K=>?_;refine Qc 1 K M fun _ K=>?_;refine p1 K (XK (j:=1) Ew Xe rfl rfl QT) fun _ K=>?_;refine Qc 2 K M fun _ K=>?_;refine Eh K rfl (fun _ e56 K=>?_) fun _ e56 K=>?_
     ·refine Qc 12 K M ?_;refine⟨congrArg pT (a₁:=(a,7)) (a₂:=UD sc o a k j) (Eq.symm ?_),M.qt⟩;rw[hl2]at hi21;have hk:k=_:=Option.some.inj hi21;rw[hl2]at hi21b;have hj:j=_:=Option.some.inj hi21b
      try clear M
      try clear ih
      try clear hr
      try clear hr0
      try clear hp
      try clear hn
      try clear hK
      try clear hb
      try clear hc
      try clear hm
      try clear hp21
      try clear hn21
      try clear hK21
      try clear hb21
      try clear hc21
      try clear hm21
      try clear hp21b
      try clear hn21b
      try clear hK21b
      try clear hb21b
      try clear hc21b
      try clear hm21b
      try clear hln
      try clear hbn
      try clear hf
      try clear K
      try clear hD
      try clear hTm
      try clear hl2
      try clear hf
      try clear hi21
      try clear hi21b
      try clear hm21
      try clear hm21b
      try clear Mq
      try clear Mp
      unfold UD;subst hk
      generalize QB sc (.mk o21 s21 z21 a21 l21)=q1 at *
      obtain⟨q11,q12,q13⟩:=q1;subst hj
      generalize QB sc (.mk o21b s21b z21b a21b l21b)=q2 at *
      obtain⟨q21,q22,q23⟩:=q2
      try generalize Yn o=w at *
      try obtain⟨w1,w2⟩:=w
      try simp only[]at *
      repeat' split
      all_goals first|rfl|(exfalso;simp_all<;>omega)|(simp_all;done)|(exfalso;omega)
     refine pg K rfl rfl (XK (j:=0) Ew Xe rfl rfl QT) fun _ K=>?_;refine Qc 6 K M fun _ K=>?_;refine JU K rfl (fun h62=>?_) fun h62=>?_
     ·have hb62:=h62
      replace h62: ¬(0<(QB sc (.mk o21 s21 z21 a21 l21)).1):=by simpa using h62
      refine Qc 4 K M ?_;refine⟨congrArg pT (a₁:=(a,7)) (a₂:=UD sc o a k j) (Eq.symm ?_),M.qt⟩;rw[hl2]at hi21;have hk:k=_:=Option.some.inj hi21;rw[hl2]at hi21b;have hj:j=_:=Option.some.inj hi21b
      try clear M
      try clear ih
      try clear hr
      try clear hr0
      try clear hp
      try clear hn
      try clear hK
      try clear hb
      try clear hc
      try clear hm
      try clear hp21
      try clear hn21
      try clear hK21
      try clear hb21
      try clear hc21
      try clear hm21
      try clear hp21b
      try clear hn21b
      try clear hK21b
      try clear hb21b
      try clear hc21b
      try clear hm21b
      try clear hln
      try clear hbn
      try clear hf
      try clear K
      try clear hD
      try clear hTm
      try clear hl2
      try clear hf
      try clear hi21
      try clear hi21b
      try clear hm21
      try clear hm21b
      try clear Mq
      try clear Mp
      unfold UD;subst hk
      generalize QB sc (.mk o21 s21 z21 a21 l21)=q1 at *
      obtain⟨q11,q12,q13⟩:=q1;subst hj
      generalize QB sc (.mk o21b s21b z21b a21b l21b)=q2 at *
      obtain⟨q21,q22,q23⟩:=q2
      try generalize Yn o=w at *
      try obtain⟨w1,w2⟩:=w
      try simp only[]at *
      repeat' split
      all_goals first|rfl|(exfalso;simp_all<;>omega)|(simp_all;done)|(exfalso;omega)
     have hb62:=h62
     replace h62:(0<(QB sc (.mk o21 s21 z21 a21 l21)).1):=by simpa using h62
     refine Qc 2 K M ?_;refine⟨congrArg pT (a₁:=(0,0)) (a₂:=UD sc o a k j) (Eq.symm ?_),M.qt⟩;rw[hl2]at hi21;have hk:k=_:=Option.some.inj hi21;rw[hl2]at hi21b;have hj:j=_:=Option.some.inj hi21b
     try clear M
     try clear ih
     try clear hr
     try clear hr0
     try clear hp
     try clear hn
     try clear hK
     try clear hb
     try clear hc
     try clear hm
     try clear hp21
     try clear hn21
     try clear hK21
     try clear hb21
     try clear hc21
     try clear hm21
     try clear hp21b
     try clear hn21b
     try clear hK21b
     try clear hb21b
     try clear hc21b
     try clear hm21b
     try clear hln
     try clear hbn
     try clear hf
     try clear K
     try clear hD
     try clear hTm
     try clear hl2
     try clear hf
     try clear hi21
     try clear hi21b
     try clear hm21
     try clear hm21b
     try clear Mq
     try clear Mp
     unfold UD;subst hk
     generalize QB sc (.mk o21 s21 z21 a21 l21)=q1 at *
     obtain⟨q11,q12,q13⟩:=q1;subst hj
     generalize QB sc (.mk o21b s21b z21b a21b l21b)=q2 at *
     obtain⟨q21,q22,q23⟩:=q2
     try generalize Yn o=w at *
     try obtain⟨w1,w2⟩:=w
     try simp only[]at *
     repeat' split
     all_goals first|rfl|(exfalso;simp_all<;>omega)|(simp_all;done)|(exfalso;omega)
    refine Qc 2 K M fun _ K=>?_;refine JU K rfl (fun h62=>?_) fun h62=>?_
    ·have hb62:=h62
     replace h62: ¬(((QB sc (.mk o21 s21 z21 a21 l21)).1,(QB sc (.mk o21b s21b z21b a21b l21b)).1)=((Yn o).1,(Yn o).2)):=by intro hq;rw[decide_eq_true hq]at h62;cases h62
     refine Qc 4 K M ?_;refine⟨congrArg pT (a₁:=(a,7)) (a₂:=UD sc o a k j) (Eq.symm ?_),M.qt⟩;rw[hl2]at hi21;have hk:k=_:=Option.some.inj hi21;rw[hl2]at hi21b;have hj:j=_:=Option.some.inj hi21b
     try clear M
     try clear ih
     try clear hr
     try clear hr0
     try clear hp
     try clear hn
     try clear hK
     try clear hb
     try clear hc
     try clear hm
     try clear hp21
     try clear hn21
     try clear hK21
     try clear hb21
     try clear hc21
     try clear hm21
     try clear hp21b
     try clear hn21b
     try clear hK21b
     try clear hb21b
     try clear hc21b
     try clear hm21b
     try clear hln
     try clear hbn
     try clear hf
     try clear K
     try clear hD
     try clear hTm
     try clear hl2
     try clear hf
     try clear hi21
     try clear hi21b
     try clear hm21
     try clear hm21b
     try clear Mq
     try clear Mp
     unfold UD;subst hk
     generalize QB sc (.mk o21 s21 z21 a21 l21)=q1 at *
     obtain⟨q11,q12,q13⟩:=q1;subst hj
     generalize QB sc (.mk o21b s21b z21b a21b l21b)=q2 at *
     obtain⟨q21,q22,q23⟩:=q2
     try generalize Yn o=w at *
     try obtain⟨w1,w2⟩:=w
     try simp only[]at *
     repeat' split
     all_goals first|rfl|(exfalso;simp_all<;>omega)|(simp_all;done)|(exfalso;omega)
    have hb62:=h62
    replace h62:(((QB sc (.mk o21 s21 z21 a21 l21)).1,(QB sc (.mk o21b s21b z21b a21b l21b)).1)=((Yn o).1,(Yn o).2)):=by by_cases hq:((QB sc (.mk o21 s21 z21 a21 l21)).1,(QB sc (.mk o21b s21b z21b a21b l21b)).1)=((Yn o).1,(Yn o).2);exact hq;rw[decide_eq_false hq]at h62;cases h62
    refine Qc 2 K M ?_;refine⟨congrArg pT (a₁:=(0,0)) (a₂:=UD sc o a k j) (Eq.symm ?_),M.qt⟩;rw[hl2]at hi21;have hk:k=_:=Option.some.inj hi21;rw[hl2]at hi21b;have hj:j=_:=Option.some.inj hi21b
    try clear M
    try clear ih
    try clear hr
    try clear hr0
    try clear hp
    try clear hn
    try clear hK
    try clear hb
    try clear hc
    try clear hm
    try clear hp21
    try clear hn21
    try clear hK21
    try clear hb21
    try clear hc21
    try clear hm21
    try clear hp21b
    try clear hn21b
    try clear hK21b
    try clear hb21b
    try clear hc21b
    try clear hm21b
    try clear hln
    try clear hbn
    try clear hf
    try clear K
    try clear hD
    try clear hTm
    try clear hl2
    try clear hf
    try clear hi21
    try clear hi21b
    try clear hm21
    try clear hm21b
    try clear Mq
    try clear Mp
    unfold UD;subst hk
    generalize QB sc (.mk o21 s21 z21 a21 l21)=q1 at *
    obtain⟨q11,q12,q13⟩:=q1;subst hj
    generalize QB sc (.mk o21b s21b z21b a21b l21b)=q2 at *
    obtain⟨q21,q22,q23⟩:=q2
    try generalize Yn o=w at *
    try obtain⟨w1,w2⟩:=w
    try simp only[]at *
    repeat' split
    all_goals first|rfl|(exfalso;simp_all<;>omega)|(simp_all;done)|(exfalso;omega)
   refine Qc 5 K M fun _ K=>?_;refine p1 K (XK (j:=0) Ew Xe rfl rfl QT) fun _ K=>?_;refine Qc 1 K M fun _ K=>?_;refine p1 K (XK (j:=1) Ew Xe rfl rfl QT) fun _ K=>?_;refine Qc 2 K M fun _ K=>?_;refine Eh K rfl (fun _ e56 K=>?_) fun _ e56 K=>?_
   ·refine Qc 12 K M ?_;refine⟨congrArg pT (a₁:=(a,7)) (a₂:=UD sc o a k j) (Eq.symm ?_),M.qt⟩;rw[hl2]at hi21;have hk:k=_:=Option.some.inj hi21;rw[hl2]at hi21b;have hj:j=_:=Option.some.inj hi21b
    try clear M
    try clear ih
    try clear hr
    try clear hr0
    try clear hp
    try clear hn
    try clear hK
    try clear hb
    try clear hc
    try clear hm
    try clear hp21
    try clear hn21
    try clear hK21
    try clear hb21
    try clear hc21
    try clear hm21
    try clear hp21b
    try clear hn21b
    try clear hK21b
    try clear hb21b
    try clear hc21b
    try clear hm21b
    try clear hln
    try clear hbn
    try clear hf
    try clear K
    try clear hD
    try clear hTm
    try clear hl2
    try clear hf
    try clear hi21
    try clear hi21b
    try clear hm21
    try clear hm21b
    try clear Mq
    try clear Mp
    unfold UD;subst hk
    generalize QB sc (.mk o21 s21 z21 a21 l21)=q1 at *
    obtain⟨q11,q12,q13⟩:=q1;subst hj
    generalize QB sc (.mk o21b s21b z21b a21b l21b)=q2 at *
    obtain⟨q21,q22,q23⟩:=q2
    try generalize Yn o=w at *
    try obtain⟨w1,w2⟩:=w
    try simp only[]at *
    repeat' split
    all_goals first|rfl|(exfalso;simp_all<;>omega)|(simp_all;done)|(exfalso;omega)
   refine pg K rfl rfl (XK (j:=0) Ew Xe rfl rfl QT) fun _ K=>?_;refine Qc 6 K M fun _ K=>?_;refine JU K rfl (fun h62=>?_) fun h62=>?_
   ·have hb62:=h62
    replace h62: ¬(0<(QB sc (.mk o21 s21 z21 a21 l21)).1):=by simpa using h62
    refine Qc 4 K M ?_;refine⟨congrArg pT (a₁:=(a,7)) (a₂:=UD sc o a k j) (Eq.symm ?_),M.qt⟩;rw[hl2]at hi21;have hk:k=_:=Option.some.inj hi21;rw[hl2]at hi21b;have hj:j=_:=Option.some.inj hi21b
    try clear M
    try clear ih
    try clear hr
    try clear hr0
    try clear hp
    try clear hn
    try clear hK
    try clear hb
    try clear hc
    try clear hm
    try clear hp21
    try clear hn21
    try clear hK21
    try clear hb21
    try clear hc21
    try clear hm21
    try clear hp21b
    try clear hn21b
    try clear hK21b
    try clear hb21b
    try clear hc21b
    try clear hm21b
    try clear hln
    try clear hbn
    try clear hf
    try clear K
    try clear hD
    try clear hTm
    try clear hl2
    try clear hf
    try clear hi21
    try clear hi21b
    try clear hm21
    try clear hm21b
    try clear Mq
    try clear Mp
    unfold UD;subst hk
    generalize QB sc (.mk o21 s21 z21 a21 l21)=q1 at *
    obtain⟨q11,q12,q13⟩:=q1;subst hj
    generalize QB sc (.mk o21b s21b z21b a21b l21b)=q2 at *
    obtain⟨q21,q22,q23⟩:=q2
    try generalize Yn o=w at *
    try obtain⟨w1,w2⟩:=w
    try simp only[]at *
    repeat' split
    all_goals first|rfl|(exfalso;simp_all<;>omega)|(simp_all;done)|(exfalso;omega)
   have hb62:=h62
   replace h62:(0<(QB sc (.mk o21 s21 z21 a21 l21)).1):=by simpa using h62
   refine Qc 2 K M ?_;refine⟨congrArg pT (a₁:=(0,0)) (a₂:=UD sc o a k j) (Eq.symm ?_),M.qt⟩;rw[hl2]at hi21;have hk:k=_:=Option.some.inj hi21;rw[hl2]at hi21b;have hj:j=_:=Option.some.inj hi21b
   try clear M
   try clear ih
   try clear hr
   try clear hr0
   try clear hp
   try clear hn
   try clear hK
   try clear hb
   try clear hc
   try clear hm
   try clear hp21
   try clear hn21
   try clear hK21
   try clear hb21
   try clear hc21
   try clear hm21
   try clear hp21b
   try clear hn21b
   try clear hK21b
   try clear hb21b
   try clear hc21b
   try clear hm21b
   try clear hln
   try clear hbn
   try clear hf
   try clear K
   try clear hD
   try clear hTm
   try clear hl2
   try clear hf
   try clear hi21
   try clear hi21b
   try clear hm21
   try clear hm21b
   try clear Mq
   try clear Mp
   unfold UD;subst hk
   generalize QB sc (.mk o21 s21 z21 a21 l21)=q1 at *
   obtain⟨q11,q12,q13⟩:=q1;subst hj
   generalize QB sc (.mk o21b s21b z21b a21b l21b)=q2 at *
   obtain⟨q21,q22,q23⟩:=q2
   try generalize Yn o=w at *
   try obtain⟨w1,w2⟩:=w
   try simp only[]at *
   repeat' split
   all_goals first|rfl|(exfalso;simp_all<;>omega)|(simp_all;done)|(exfalso;omega)
  have hb19:=h19;replace h19:=of_decide_eq_false h19
  exfalso;omega
 have hb19:=h19;replace h19:=of_decide_eq_false h19
 exfalso;omega
end Go.Proofs.YtaomhhkflohhgaaGreatDoor
