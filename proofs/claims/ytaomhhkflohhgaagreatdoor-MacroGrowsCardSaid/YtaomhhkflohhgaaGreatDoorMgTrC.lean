/-
  Formulas: the program's answer. Terms and formulas: the reference's.
-/
import Derived.Test.YtaomhhkflohhgaaGreatDoorMgTrB
namespace Go.Proofs.YtaomhhkflohhgaaGreatDoor
open Go Go.RowKit
set_option maxHeartbeats 8000000
set_option linter.unusedVariables false
set_option linter.unusedSimpArgs false
set_option maxRecDepth 100000

theorem GK(z:Int):(z<3)=(z≤2):=propext Qh
theorem BZ(x:Nd): ∀(st:St) (cs:List AV),Qw st→XE st.h.get x cs→ ∃v st',Ev Tryz.prog QR 55 [.agg cs] st v st'∧v=.bool (Jw x)∧Qt st st':=by
 refine Uz (M:=fun x=> ∀(st:St) (cs:List AV),Qw st→XE st.h.get x cs→ ∃v st',Ev Tryz.prog QR 55 [.agg cs] st v st'∧v=.bool (Jw x)∧Qt st st') (fun o s z a l ih=>?_) x;intro st cs hf hr;have hr0:=hr;obtain⟨kk,ls,rfl,hK,hb⟩:=hr.Jn;have hln:=hK.ln;have hbn:=hK.YZ;refine Yu Tryz.func55 Tryz.ntmps55 fun T K=>?_;have M:=Mem.start hf;refine Qc 0 K M fun _ K=>?_;refine J3 K M rfl (Qa rfl (Qa rfl (Qa rfl (Qa rfl (Qa hK.cell Qo))))) QT fun c1 _ _ K M=>?_;refine p1 K (JH rfl) fun _ K=>Y5 ?_;show W _ _ _ _ _ _ _;refine UR<|UR<|Uf<|p1 K (IU Hy rfl) fun _ K=>p1 K (QW rfl (M.load (k:=0) rfl (Qj J0 rfl))) fun _ K=>Y5 ?_;show W _ _ _ _ _ _ _;refine Wh ?_;refine VY (J:=fun T st9=> ∃(b:Bool),Jr [(1,.ptr c1 0 0),(2,.bool false),(4,.str o),(5,.bool b)] T∧Mem st.h.get st.n [] st9 [(c1,0,[.str o,.str s,iZ z,iZ a,kk])]∧b=oneOf o [[116,114,117,101],[102,97,108,115,101]]) ?_ (fun T st9 hJ=>?_)
 ·refine Qc 0 K M fun _ K=>?_;refine p1 K (QU (b:=[116,114,117,101]) rfl rfl) fun _ K=>?_;refine Qc 1 K M fun _ K=>?_;refine JU K rfl (fun h5=>?_) fun h5=>?_
  ·have hb5:=h5;replace h5:=of_decide_eq_true h5;refine JM ?_;exact⟨_,(K.sub rfl),M.less (.refl _),(by simp_all [oneOf])⟩
  have hb5:=h5;replace h5:=of_decide_eq_false h5;refine Uf<|p1 K (QU (b:=[102,97,108,115,101]) rfl rfl) fun _ K=>?_;refine Qc 1 K M fun _ K=>?_;exact⟨_,(K.sub rfl),M.less (.refl _),(by simp_all [oneOf])⟩
 obtain⟨b,K,M,hbs4⟩:=hJ;refine JU K rfl (fun h5=>?_) fun h5=>?_
 ·have hb5:=h5;refine Qc 1 K M fun _ K=>?_;obtain⟨v9,st9,ev9,rfl,q9⟩:=Kw M.fresh (hr0.mono M.rows) 0;refine p1 K (Qe rfl ev9) fun _ K=>?_;replace M:=M.quiet q9;refine Qc 1 K M ?_;refine⟨congrArg AV.bool ?_,M.qt⟩;rw[J7 o s z a l]
  try generalize l.all Jw=q1 at *
  try generalize l.all QO=q2 at *
  try clear M
  try clear ih
  try clear hr
  try clear hr0
  try clear hp
  try clear hn
  try clear hK
  try clear hb
  try clear hc
  try clear hm
  try clear hln
  try clear hbn
  try clear hf
  simp_all [Qp,J4,hasB,GK]<;>first|done|rfl|omega|(congr 1;done)|(congr 2;done)|(intros;omega)|skip
 have hb5:=h5;refine Qc 0 K M fun _ K=>?_;refine p1 K (QU (b:=[110,111,116]) rfl rfl) fun _ K=>?_;refine Qc 1 K M fun _ K=>?_;refine Xj K rfl (fun h10=>?_) fun h10=>?_
 ·refine Qc 1 K M fun _ K=>?_;refine oQ K M (Kw M.fresh (hr0.mono M.rows) 1) rfl rfl fun _ _ K M=>?_;refine oB K (Q9 rfl) rfl fun b14 _ e14 K=>?_;cases b14
  ·refine Qc 4 K M ?_;refine⟨congrArg AV.bool ?_,M.qt⟩;rw[J7 o s z a l]
   try generalize l.all Jw=q1 at *
   try generalize l.all QO=q2 at *
   try clear M
   try clear ih
   try clear hr
   try clear hr0
   try clear hp
   try clear hn
   try clear hK
   try clear hb
   try clear hc
   try clear hm
   try clear hln
   try clear hbn
   try clear hf
   simp_all [Qp,J4,hasB,GK]<;>first|done|rfl|omega|(congr 1;done)|(congr 2;done)|(intros;omega)|skip
  refine Qc 1 K M fun _ K=>?_;obtain⟨v16,st16,ev16,rfl,q16⟩:=I5 (p:=Jw) M.fresh (hr0.mono M.rows) (fun k hk st1 cs hf1 hr1=>ih _ hk st1 cs hf1 hr1);refine pg K rfl rfl (Qe rfl ev16) fun _ K=>?_;replace M:=M.quiet q16;refine Qc 2 K M ?_;refine⟨congrArg AV.bool ?_,M.qt⟩;rw[J7 o s z a l]
  try generalize l.all Jw=q1 at *
  try generalize l.all QO=q2 at *
  try clear M
  try clear ih
  try clear hr
  try clear hr0
  try clear hp
  try clear hn
  try clear hK
  try clear hb
  try clear hc
  try clear hm
  try clear hln
  try clear hbn
  try clear hf
  simp_all [Qp,J4,hasB,GK]<;>first|done|rfl|omega|(congr 1;done)|(congr 2;done)|(intros;omega)|skip
 refine VY (J:=fun T st9=> ∃(b:Bool),Jr [(1,.ptr c1 0 0),(2,.bool false),(4,.str o),(18,.bool b)] T∧Mem st.h.get st.n [] st9 [(c1,0,[.str o,.str s,iZ z,iZ a,kk])]∧b=oneOf o [[97,110,100],[111,114],[105,109,112],[105,102,102]]) ?_ (fun T st9 hJ=>?_)
 ·refine Qc 0 K M fun _ K=>?_;refine p1 K (QU (b:=[97,110,100]) rfl rfl) fun _ K=>?_;refine Qc 1 K M fun _ K=>?_;refine JU K rfl (fun h18=>?_) fun h18=>?_
  ·have hb18:=h18;replace h18:=of_decide_eq_true h18;refine JM ?_;exact⟨_,(K.sub rfl),M.less (.refl _),(by simp_all [oneOf])⟩
  have hb18:=h18;replace h18:=of_decide_eq_false h18;refine Qc 0 K M fun _ K=>?_;refine p1 K (QU (b:=[111,114]) rfl rfl) fun _ K=>?_;refine Qc 1 K M fun _ K=>?_;refine JU K rfl (fun h18=>?_) fun h18=>?_
  ·have hb18:=h18;replace h18:=of_decide_eq_true h18;refine JM ?_;exact⟨_,(K.sub rfl),M.less (.refl _),(by simp_all [oneOf])⟩
  have hb18:=h18;replace h18:=of_decide_eq_false h18;refine Qc 0 K M fun _ K=>?_;refine p1 K (QU (b:=[105,109,112]) rfl rfl) fun _ K=>?_;refine Qc 1 K M fun _ K=>?_;refine JU K rfl (fun h18=>?_) fun h18=>?_
  ·have hb18:=h18;replace h18:=of_decide_eq_true h18;refine JM ?_;exact⟨_,(K.sub rfl),M.less (.refl _),(by simp_all [oneOf])⟩
  have hb18:=h18;replace h18:=of_decide_eq_false h18;refine Uf<|p1 K (QU (b:=[105,102,102]) rfl rfl) fun _ K=>?_;refine Qc 1 K M fun _ K=>?_;exact⟨_,(K.sub rfl),M.less (.refl _),(by simp_all [oneOf])⟩
 obtain⟨b,K,M,hbs11⟩:=hJ;refine JU K rfl (fun h18=>?_) fun h18=>?_
 ·have hb18:=h18;refine Qc 1 K M fun _ K=>?_;refine oQ K M (Kw M.fresh (hr0.mono M.rows) 2) rfl rfl fun _ _ K M=>?_;refine oB K (Q9 rfl) rfl fun b25 _ e25 K=>?_;cases b25
  ·refine Qc 4 K M ?_;refine⟨congrArg AV.bool ?_,M.qt⟩;rw[J7 o s z a l]
   try generalize l.all Jw=q1 at *
   try generalize l.all QO=q2 at *
   try clear M
   try clear ih
   try clear hr
   try clear hr0
   try clear hp
   try clear hn
   try clear hK
   try clear hb
   try clear hc
   try clear hm
   try clear hln
   try clear hbn
   try clear hf
   simp_all [Qp,J4,hasB,GK]<;>first|done|rfl|omega|(congr 1;done)|(congr 2;done)|(intros;omega)|skip
  refine Qc 1 K M fun _ K=>?_;obtain⟨v27,st27,ev27,rfl,q27⟩:=I5 (p:=Jw) M.fresh (hr0.mono M.rows) (fun k hk st1 cs hf1 hr1=>ih _ hk st1 cs hf1 hr1);refine pg K rfl rfl (Qe rfl ev27) fun _ K=>?_;replace M:=M.quiet q27;refine Qc 2 K M ?_;refine⟨congrArg AV.bool ?_,M.qt⟩;rw[J7 o s z a l]
  try generalize l.all Jw=q1 at *
  try generalize l.all QO=q2 at *
  try clear M
  try clear ih
  try clear hr
  try clear hr0
  try clear hp
  try clear hn
  try clear hK
  try clear hb
  try clear hc
  try clear hm
  try clear hln
  try clear hbn
  try clear hf
  simp_all [Qp,J4,hasB,GK]<;>first|done|rfl|omega|(congr 1;done)|(congr 2;done)|(intros;omega)|skip
 have hb18:=h18;refine VY (J:=fun T st9=> ∃(b:Bool),Jr [(1,.ptr c1 0 0),(2,.bool false),(4,.str o),(29,.bool b)] T∧Mem st.h.get st.n [] st9 [(c1,0,[.str o,.str s,iZ z,iZ a,kk])]∧b=oneOf o [[101,120],[97,108,108]]) ?_ (fun T st9 hJ=>?_)
 ·refine Qc 0 K M fun _ K=>?_;refine p1 K (QU (b:=[101,120]) rfl rfl) fun _ K=>?_;refine Qc 1 K M fun _ K=>?_;refine JU K rfl (fun h29=>?_) fun h29=>?_
  ·have hb29:=h29;replace h29:=of_decide_eq_true h29;refine JM ?_;exact⟨_,(K.sub rfl),M.less (.refl _),(by simp_all [oneOf])⟩
  have hb29:=h29;replace h29:=of_decide_eq_false h29;refine Uf<|p1 K (QU (b:=[97,108,108]) rfl rfl) fun _ K=>?_;refine Qc 1 K M fun _ K=>?_;exact⟨_,(K.sub rfl),M.less (.refl _),(by simp_all [oneOf])⟩
 obtain⟨b,K,M,hbs14⟩:=hJ;refine JU K rfl (fun h29=>?_) fun h29=>?_
 ·have hb29:=h29;refine Qc 2 K M fun _ K=>?_;refine oQ K M (Wy M.fresh s) rfl rfl fun _ _ K M=>?_;refine oB K (Q9 rfl) rfl fun b35 _ e35 K=>?_;cases b35
  ·refine Qc 20 K M ?_;refine⟨congrArg AV.bool ?_,M.qt⟩;rw[J7 o s z a l]
   try generalize l.all Jw=q1 at *
   try generalize l.all QO=q2 at *
   try clear M
   try clear ih
   try clear hr
   try clear hr0
   try clear hp
   try clear hn
   try clear hK
   try clear hb
   try clear hc
   try clear hm
   try clear hln
   try clear hbn
   try clear hf
   simp_all [Qp,J4,hasB,GK]<;>first|done|rfl|omega|(congr 1;done)|(congr 2;done)|(intros;omega)|skip
  refine Qc 4 K M fun _ K=>?_;refine Eh K rfl (fun _ e40 K=>?_) fun _ e40 K=>?_
  ·refine Qc 15 K M ?_;refine⟨congrArg AV.bool ?_,M.qt⟩;rw[J7 o s z a l]
   try generalize l.all Jw=q1 at *
   try generalize l.all QO=q2 at *
   try clear M
   try clear ih
   try clear hr
   try clear hr0
   try clear hp
   try clear hn
   try clear hK
   try clear hb
   try clear hc
   try clear hm
   try clear hln
   try clear hbn
   try clear hf
   simp_all [Qp,J4,hasB,GK]<;>first|done|rfl|omega|(congr 1;done)|(congr 2;done)|(intros;omega)|skip
  refine Qc 4 K M fun _ K=>?_;refine Eh K rfl (fun _ e45 K=>?_) fun _ e45 K=>?_
  ·refine Qc 10 K M ?_;refine⟨congrArg AV.bool ?_,M.qt⟩;rw[J7 o s z a l]
   try generalize l.all Jw=q1 at *
   try generalize l.all QO=q2 at *
   try clear M
   try clear ih
   try clear hr
   try clear hr0
   try clear hp
   try clear hn
   try clear hK
   try clear hb
   try clear hc
   try clear hm
   try clear hln
   try clear hbn
   try clear hf
   simp_all [Qp,J4,hasB,GK]<;>first|done|rfl|omega|(congr 1;done)|(congr 2;done)|(intros;omega)|skip
  refine Qc 2 K M fun _ K=>?_;refine pg K rfl rfl (Jg QI rfl rfl hK.len) fun _ K=>?_;refine Qc 2 K M fun _ K=>?_;refine Eh K rfl (fun _ e51 K=>?_) fun _ e51 K=>?_
  ·refine Qc 4 K M ?_;refine⟨congrArg AV.bool ?_,M.qt⟩;rw[J7 o s z a l]
   try generalize l.all Jw=q1 at *
   try generalize l.all QO=q2 at *
   try clear M
   try clear ih
   try clear hr
   try clear hr0
   try clear hp
   try clear hn
   try clear hK
   try clear hb
   try clear hc
   try clear hm
   try clear hln
   try clear hbn
   try clear hf
   simp_all [Qp,J4,hasB,GK]<;>first|done|rfl|omega|(congr 1;done)|(congr 2;done)|(intros;omega)|skip
  refine Qc 1 K M fun _ K=>?_;obtain⟨v53,st53,ev53,rfl,q53⟩:=I5 (p:=Jw) M.fresh (hr0.mono M.rows) (fun k hk st1 cs hf1 hr1=>ih _ hk st1 cs hf1 hr1);refine pg K rfl rfl (Qe rfl ev53) fun _ K=>?_;replace M:=M.quiet q53;refine Qc 2 K M ?_;refine⟨congrArg AV.bool ?_,M.qt⟩;rw[J7 o s z a l]
  try generalize l.all Jw=q1 at *
  try generalize l.all QO=q2 at *
  try clear M
  try clear ih
  try clear hr
  try clear hr0
  try clear hp
  try clear hn
  try clear hK
  try clear hb
  try clear hc
  try clear hm
  try clear hln
  try clear hbn
  try clear hf
  simp_all [Qp,J4,hasB,GK]<;>first|done|rfl|omega|(congr 1;done)|(congr 2;done)|(intros;omega)|skip
 have hb29:=h29;refine Qc 0 K M fun _ K=>?_;refine p1 K (QU (b:=[105,115]) rfl rfl) fun _ K=>?_;refine Qc 1 K M fun _ K=>?_;refine Xj K rfl (fun h55=>?_) fun h55=>?_
 ·refine Qc 2 K M fun _ K=>?_;refine oQ K M (Wy M.fresh s) rfl rfl fun _ _ K M=>?_;refine oB K (Q9 rfl) rfl fun b60 _ e60 K=>?_;cases b60
  ·refine Qc 11 K M ?_;refine⟨congrArg AV.bool ?_,M.qt⟩;rw[J7 o s z a l]
   try generalize l.all Jw=q1 at *
   try generalize l.all QO=q2 at *
   try clear M
   try clear ih
   try clear hr
   try clear hr0
   try clear hp
   try clear hn
   try clear hK
   try clear hb
   try clear hc
   try clear hm
   try clear hln
   try clear hbn
   try clear hf
   simp_all [Qp,J4,hasB,GK]<;>first|done|rfl|omega|(congr 1;done)|(congr 2;done)|(intros;omega)|skip
  refine Qc 4 K M fun _ K=>?_;refine Eh K rfl (fun _ e65 K=>?_) fun _ e65 K=>?_
  ·refine Qc 6 K M ?_;refine⟨congrArg AV.bool ?_,M.qt⟩;rw[J7 o s z a l]
   try generalize l.all Jw=q1 at *
   try generalize l.all QO=q2 at *
   try clear M
   try clear ih
   try clear hr
   try clear hr0
   try clear hp
   try clear hn
   try clear hK
   try clear hb
   try clear hc
   try clear hm
   try clear hln
   try clear hbn
   try clear hf
   simp_all [Qp,J4,hasB,GK]<;>first|done|rfl|omega|(congr 1;done)|(congr 2;done)|(intros;omega)|skip
  refine Qc 2 K M fun _ K=>?_;refine pg K rfl rfl (Jg QI rfl rfl hK.len) fun _ K=>?_;refine Qc 3 K M ?_;refine⟨congrArg AV.bool ?_,M.qt⟩;rw[J7 o s z a l]
  try generalize l.all Jw=q1 at *
  try generalize l.all QO=q2 at *
  try clear M
  try clear ih
  try clear hr
  try clear hr0
  try clear hp
  try clear hn
  try clear hK
  try clear hb
  try clear hc
  try clear hm
  try clear hln
  try clear hbn
  try clear hf
  simp_all [Qp,J4,hasB,GK]<;>first|done|rfl|omega|(congr 1;done)|(congr 2;done)|(intros;omega)|skip
 refine VY (J:=fun T st9=> ∃(b:Bool),Jr [(1,.ptr c1 0 0),(2,.bool false),(4,.str o),(71,.bool b)] T∧Mem st.h.get st.n [] st9 [(c1,0,[.str o,.str s,iZ z,iZ a,kk])]∧b=oneOf o [[101,113],[110,101],[108,116],[108,101],[105,110],[110,111,116,105,110],[115,117,98]]) ?_ (fun T st9 hJ=>?_)
 ·refine Qc 0 K M fun _ K=>?_;refine p1 K (QU (b:=[101,113]) rfl rfl) fun _ K=>?_;refine Qc 1 K M fun _ K=>?_;refine JU K rfl (fun h71=>?_) fun h71=>?_
  ·have hb71:=h71;replace h71:=of_decide_eq_true h71;refine JM ?_;exact⟨_,(K.sub rfl),M.less (.refl _),(by simp_all [oneOf])⟩
  have hb71:=h71;replace h71:=of_decide_eq_false h71;refine Qc 0 K M fun _ K=>?_;refine p1 K (QU (b:=[110,101]) rfl rfl) fun _ K=>?_;refine Qc 1 K M fun _ K=>?_;refine JU K rfl (fun h71=>?_) fun h71=>?_
  ·have hb71:=h71;replace h71:=of_decide_eq_true h71;refine JM ?_;exact⟨_,(K.sub rfl),M.less (.refl _),(by simp_all [oneOf])⟩
  have hb71:=h71;replace h71:=of_decide_eq_false h71;refine Qc 0 K M fun _ K=>?_;refine p1 K (QU (b:=[108,116]) rfl rfl) fun _ K=>?_;refine Qc 1 K M fun _ K=>?_;refine JU K rfl (fun h71=>?_) fun h71=>?_
  ·have hb71:=h71;replace h71:=of_decide_eq_true h71;refine JM ?_;exact⟨_,(K.sub rfl),M.less (.refl _),(by simp_all [oneOf])⟩
  have hb71:=h71;replace h71:=of_decide_eq_false h71;refine Qc 0 K M fun _ K=>?_;refine p1 K (QU (b:=[108,101]) rfl rfl) fun _ K=>?_;refine Qc 1 K M fun _ K=>?_;refine JU K rfl (fun h71=>?_) fun h71=>?_
  ·have hb71:=h71;replace h71:=of_decide_eq_true h71;refine JM ?_;exact⟨_,(K.sub rfl),M.less (.refl _),(by simp_all [oneOf])⟩
  have hb71:=h71;replace h71:=of_decide_eq_false h71;refine Qc 0 K M fun _ K=>?_;refine p1 K (QU (b:=[105,110]) rfl rfl) fun _ K=>?_;refine Qc 1 K M fun _ K=>?_;refine JU K rfl (fun h71=>?_) fun h71=>?_
  ·have hb71:=h71;replace h71:=of_decide_eq_true h71;refine JM ?_;exact⟨_,(K.sub rfl),M.less (.refl _),(by simp_all [oneOf])⟩
  have hb71:=h71;replace h71:=of_decide_eq_false h71;refine Qc 0 K M fun _ K=>?_;refine p1 K (QU (b:=[110,111,116,105,110]) rfl rfl) fun _ K=>?_;refine Qc 1 K M fun _ K=>?_;refine JU K rfl (fun h71=>?_) fun h71=>?_
  ·have hb71:=h71;replace h71:=of_decide_eq_true h71;refine JM ?_;exact⟨_,(K.sub rfl),M.less (.refl _),(by simp_all [oneOf])⟩
  have hb71:=h71;replace h71:=of_decide_eq_false h71;refine Uf<|p1 K (QU (b:=[115,117,98]) rfl rfl) fun _ K=>?_;refine Qc 1 K M fun _ K=>?_;exact⟨_,(K.sub rfl),M.less (.refl _),(by simp_all [oneOf])⟩
 obtain⟨b,K,M,hbs24⟩:=hJ;refine JU K rfl (fun h71=>?_) fun h71=>?_
 ·have hb71:=h71;refine Qc 1 K M fun _ K=>?_;refine oQ K M (Kw M.fresh (hr0.mono M.rows) 2) rfl rfl fun _ _ K M=>?_;refine oB K (Q9 rfl) rfl fun b81 _ e81 K=>?_;cases b81
  ·refine Qc 4 K M ?_;refine⟨congrArg AV.bool ?_,M.qt⟩;rw[J7 o s z a l]
   try generalize l.all Jw=q1 at *
   try generalize l.all QO=q2 at *
   try clear M
   try clear ih
   try clear hr
   try clear hr0
   try clear hp
   try clear hn
   try clear hK
   try clear hb
   try clear hc
   try clear hm
   try clear hln
   try clear hbn
   try clear hf
   simp_all [Qp,J4,hasB,GK]<;>first|done|rfl|omega|(congr 1;done)|(congr 2;done)|(intros;omega)|skip
  refine Qc 1 K M fun _ K=>?_;obtain⟨v83,st83,ev83,rfl,q83⟩:=I5 (p:=QO) M.fresh (hr0.mono M.rows) (fun k hk st1 cs hf1 hr1=>GR k st1 cs hf1 hr1);refine pg K rfl rfl (Qe rfl ev83) fun _ K=>?_;replace M:=M.quiet q83;refine Qc 2 K M ?_;refine⟨congrArg AV.bool ?_,M.qt⟩;rw[J7 o s z a l]
  try generalize l.all Jw=q1 at *
  try generalize l.all QO=q2 at *
  try clear M
  try clear ih
  try clear hr
  try clear hr0
  try clear hp
  try clear hn
  try clear hK
  try clear hb
  try clear hc
  try clear hm
  try clear hln
  try clear hbn
  try clear hf
  simp_all [Qp,J4,hasB,GK]<;>first|done|rfl|omega|(congr 1;done)|(congr 2;done)|(intros;omega)|skip
 have hb71:=h71;refine Qc 0 K M fun _ K=>?_;refine p1 K (QU (b:=[99,97,108,108]) rfl rfl) fun _ K=>?_;refine Qc 1 K M fun _ K=>?_;refine Xj K rfl (fun h85=>?_) fun h85=>?_
 ·refine Qc 2 K M fun _ K=>?_;refine oQ K M (Wy M.fresh s) rfl rfl fun _ _ K M=>?_;refine oB K (Q9 rfl) rfl fun b90 _ e90 K=>?_;cases b90
  ·refine Qc 15 K M ?_;refine⟨congrArg AV.bool ?_,M.qt⟩;rw[J7 o s z a l]
   try generalize l.all Jw=q1 at *
   try generalize l.all QO=q2 at *
   try clear M
   try clear ih
   try clear hr
   try clear hr0
   try clear hp
   try clear hn
   try clear hK
   try clear hb
   try clear hc
   try clear hm
   try clear hln
   try clear hbn
   try clear hf
   simp_all [Qp,J4,hasB,GK]<;>first|done|rfl|omega|(congr 1;done)|(congr 2;done)|(intros;omega)|skip
  refine Qc 4 K M fun _ K=>?_;refine Eh K rfl (fun _ e95 K=>?_) fun _ e95 K=>?_
  ·refine Qc 10 K M ?_;refine⟨congrArg AV.bool ?_,M.qt⟩;rw[J7 o s z a l]
   try generalize l.all Jw=q1 at *
   try generalize l.all QO=q2 at *
   try clear M
   try clear ih
   try clear hr
   try clear hr0
   try clear hp
   try clear hn
   try clear hK
   try clear hb
   try clear hc
   try clear hm
   try clear hln
   try clear hbn
   try clear hf
   simp_all [Qp,J4,hasB,GK]<;>first|done|rfl|omega|(congr 1;done)|(congr 2;done)|(intros;omega)|skip
  refine Qc 2 K M fun _ K=>?_;refine pg K rfl rfl (Jg QI rfl rfl hK.len) fun _ K=>?_;refine Qc 2 K M fun _ K=>?_;refine Eh K rfl (fun _ e101 K=>?_) fun _ e101 K=>?_
  ·refine Qc 4 K M ?_;refine⟨congrArg AV.bool ?_,M.qt⟩;rw[J7 o s z a l]
   try generalize l.all Jw=q1 at *
   try generalize l.all QO=q2 at *
   try clear M
   try clear ih
   try clear hr
   try clear hr0
   try clear hp
   try clear hn
   try clear hK
   try clear hb
   try clear hc
   try clear hm
   try clear hln
   try clear hbn
   try clear hf
   simp_all [Qp,J4,hasB,GK]<;>first|done|rfl|omega|(congr 1;done)|(congr 2;done)|(intros;omega)|skip
  refine Qc 1 K M fun _ K=>?_;obtain⟨v103,st103,ev103,rfl,q103⟩:=I5 (p:=QO) M.fresh (hr0.mono M.rows) (fun k hk st1 cs hf1 hr1=>GR k st1 cs hf1 hr1);refine pg K rfl rfl (Qe rfl ev103) fun _ K=>?_;replace M:=M.quiet q103;refine Qc 2 K M ?_;refine⟨congrArg AV.bool ?_,M.qt⟩;rw[J7 o s z a l]
  try generalize l.all Jw=q1 at *
  try generalize l.all QO=q2 at *
  try clear M
  try clear ih
  try clear hr
  try clear hr0
  try clear hp
  try clear hn
  try clear hK
  try clear hb
  try clear hc
  try clear hm
  try clear hln
  try clear hbn
  try clear hf
  simp_all [Qp,J4,hasB,GK]<;>first|done|rfl|omega|(congr 1;done)|(congr 2;done)|(intros;omega)|skip
 refine Qc 1 K M ?_;refine⟨congrArg AV.bool ?_,M.qt⟩;rw[J7 o s z a l]
 try generalize l.all Jw=q1 at *
 try generalize l.all QO=q2 at *
 try clear M
 try clear ih
 try clear hr
 try clear hr0
 try clear hp
 try clear hn
 try clear hK
 try clear hb
 try clear hc
 try clear hm
 try clear hln
 try clear hbn
 try clear hf
 simp_all [Qp,J4,hasB,GK]<;>first|done|rfl|omega|(congr 1;done)|(congr 2;done)|(intros;omega)|skip

end Go.Proofs.YtaomhhkflohhgaaGreatDoor
