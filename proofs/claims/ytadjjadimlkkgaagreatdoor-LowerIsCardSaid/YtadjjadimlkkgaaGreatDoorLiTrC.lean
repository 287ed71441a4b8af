/-
  Formulas: the program's answer. Terms and formulas: the reference's.
-/
import Derived.Test.YtadjjadimlkkgaaGreatDoorLiTrB
namespace Go.Proofs.YtadjjadimlkkgaaGreatDoor
open Go Go.RowKit
set_option maxHeartbeats 8000000
set_option linter.unusedVariables false
set_option linter.unusedSimpArgs false
set_option maxRecDepth 100000

theorem L5(z:Int):(z<3)=(z≤2):=propext (by omega)
theorem NL(x:Nd): ∀(st:St) (cs:List AV),Qx st→Yq st.h.get x cs→ ∃v st',Ev Tryz.prog QT 104 [.agg cs] st v st'∧v=.bool (QO x)∧Qt st st':=by
 refine Xi (M:=fun x=> ∀(st:St) (cs:List AV),Qx st→Yq st.h.get x cs→ ∃v st',Ev Tryz.prog QT 104 [.agg cs] st v st'∧v=.bool (QO x)∧Qt st st') (fun o s z a l ih=>?_) x;intro st cs hf hr;have hr0:=hr;obtain⟨kk,ls,rfl,hK,hb⟩:=hr.Jl;have hln:=hK.ln;have hbn:=hK.UK;refine Q6 rfl Tryz.func104 rfl Tryz.ntmps104 rfl fun T hT=>?_;have K:Jf [(0,_)] T:=(.cons (hT 0) .nil);have M:=Mem.start hf;refine Qo<|Qb ?_;refine QM K M rfl (Qa rfl (Qa rfl (Qa rfl (Qa rfl (Qa hK.cell Qy))))) (by decide) fun c1 _ _ K M=>?_;refine o1 K (Qq rfl) rfl fun _ K=>QG ?_;show W _ _ _ _ _ _ _;refine Qo<|Qo<|Qb<|o1 K (QZ ZK rfl) rfl fun _ K=>o1 K (Qr rfl (M.load (k:=0) rfl (Qw QY rfl))) rfl fun _ K=>QG ?_;show W _ _ _ _ _ _ _;refine Yh ?_;refine FH (J:=fun T st9=> ∃(b:Bool),Jf [(1,.ptr c1 0 0),(2,.bool false),(4,.str o),(5,.bool b)] T∧Mem st.h.get st.n [] st9 [(c1,0,[.str o,.str s,.int .i64 z,.int .i64 a,kk])]∧b=oneOf o [[116,114,117,101],[102,97,108,115,101]]) ?_ (fun T st9 hJ=>?_)
 ·refine Qo<|Qb<|o1 K (Q8 (b:=[116,114,117,101]) rfl rfl) rfl fun _ K=>?_;refine Qg 1 K M ?_;intro _ K;refine Qs (K.QB rfl) (fun h5=>?_) (fun h5=>?_)
  ·have hb5:=h5;replace h5:=of_decide_eq_true h5;refine QU ?_;exact⟨_,(.cons (K _ _ rfl) (.cons (K _ _ rfl) (.cons (K _ _ rfl) (.cons (K _ _ rfl) .nil)))),M.less (.refl _),(by simp_all [oneOf])⟩
  have hb5:=h5;replace h5:=of_decide_eq_false h5;refine Qb<|o1 K (Q8 (b:=[102,97,108,115,101]) rfl rfl) rfl fun _ K=>o1 K (Qq rfl) rfl fun _ K=>QG ?_;exact⟨_,(.cons (K _ _ rfl) (.cons (K _ _ rfl) (.cons (K _ _ rfl) (.cons (K _ _ rfl) .nil)))),M.less (.refl _),(by simp_all [oneOf])⟩
 obtain⟨b,K,M,hbs4⟩:=hJ;refine Qs (K.QB rfl) (fun h5=>?_) (fun h5=>?_)
 ·have hb5:=h5;refine Qg 1 K M ?_;intro _ K;obtain⟨v9,st9,ev9,rfl,q9⟩:=AW M.fresh (hr0.mono M.rows) 0;refine o1 K (Ql rfl ev9) rfl fun _ K=>?_;replace M:=M.quiet q9;refine Qg 1 K M ?_;intro _ K;refine Qf ⟨.inr rfl,_,J4 K rfl,?_⟩;refine⟨congrArg AV.bool ?_,M.qt⟩;rw[J8 o s z a l]
  try generalize l.all QO=q1 at *
  try generalize l.all QJ=q2 at *
  try clear M
  try clear ih
  try clear hr
  try clear hr0
  try clear hp
  try clear hn
  try clear hK
  try clear hb
  try clear hc
  try clear hm
  try clear hln
  try clear hbn
  try clear hf
  simp_all [Qi,Jh,hasB,L5]<;>first|done|rfl|omega|(congr 1;done)|(congr 2;done)|(intros;omega)|skip
 have hb5:=h5;refine Qo<|Qb<|o1 K (Q8 (b:=[110,111,116]) rfl rfl) rfl fun _ K=>?_;refine Qg 1 K M ?_;intro _ K;refine YI K rfl (fun h10=>?_) fun h10=>?_
 ·refine Qg 1 K M ?_;intro _ K;refine oQ K M (AW M.fresh (hr0.mono M.rows) 1) rfl rfl fun _ _ K M=>?_;refine oB K (Qc rfl) rfl fun b14 _ e14 K=>?_;cases b14
  ·refine Qg 4 K M ?_;intro _ K;refine Qf ⟨.inr rfl,_,J4 K rfl,?_⟩;refine⟨congrArg AV.bool ?_,M.qt⟩;rw[J8 o s z a l]
   try generalize l.all QO=q1 at *
   try generalize l.all QJ=q2 at *
   try clear M
   try clear ih
   try clear hr
   try clear hr0
   try clear hp
   try clear hn
   try clear hK
   try clear hb
   try clear hc
   try clear hm
   try clear hln
   try clear hbn
   try clear hf
   simp_all [Qi,Jh,hasB,L5]<;>first|done|rfl|omega|(congr 1;done)|(congr 2;done)|(intros;omega)|skip
  refine Qg 1 K M ?_;intro _ K;obtain⟨v16,st16,ev16,rfl,q16⟩:=Aj (p:=QO) M.fresh (hr0.mono M.rows) (fun k hk st1 cs hf1 hr1=>ih _ hk st1 cs hf1 hr1);refine og K rfl rfl (Ql rfl ev16) rfl fun _ K=>?_;replace M:=M.quiet q16;refine Qg 2 K M ?_;intro _ K;refine Qf ⟨.inr rfl,_,J4 K rfl,?_⟩;refine⟨congrArg AV.bool ?_,M.qt⟩;rw[J8 o s z a l]
  try generalize l.all QO=q1 at *
  try generalize l.all QJ=q2 at *
  try clear M
  try clear ih
  try clear hr
  try clear hr0
  try clear hp
  try clear hn
  try clear hK
  try clear hb
  try clear hc
  try clear hm
  try clear hln
  try clear hbn
  try clear hf
  simp_all [Qi,Jh,hasB,L5]<;>first|done|rfl|omega|(congr 1;done)|(congr 2;done)|(intros;omega)|skip
 refine FH (J:=fun T st9=> ∃(b:Bool),Jf [(1,.ptr c1 0 0),(2,.bool false),(4,.str o),(18,.bool b)] T∧Mem st.h.get st.n [] st9 [(c1,0,[.str o,.str s,.int .i64 z,.int .i64 a,kk])]∧b=oneOf o [[97,110,100],[111,114],[105,109,112],[105,102,102]]) ?_ (fun T st9 hJ=>?_)
 ·refine Qo<|Qb<|o1 K (Q8 (b:=[97,110,100]) rfl rfl) rfl fun _ K=>?_;refine Qg 1 K M ?_;intro _ K;refine Qs (K.QB rfl) (fun h18=>?_) (fun h18=>?_)
  ·have hb18:=h18;replace h18:=of_decide_eq_true h18;refine QU ?_;exact⟨_,(.cons (K _ _ rfl) (.cons (K _ _ rfl) (.cons (K _ _ rfl) (.cons (K _ _ rfl) .nil)))),M.less (.refl _),(by simp_all [oneOf])⟩
  have hb18:=h18;replace h18:=of_decide_eq_false h18;refine Qo<|Qb<|o1 K (Q8 (b:=[111,114]) rfl rfl) rfl fun _ K=>?_;refine Qg 1 K M ?_;intro _ K;refine Qs (K.QB rfl) (fun h18=>?_) (fun h18=>?_)
  ·have hb18:=h18;replace h18:=of_decide_eq_true h18;refine QU ?_;exact⟨_,(.cons (K _ _ rfl) (.cons (K _ _ rfl) (.cons (K _ _ rfl) (.cons (K _ _ rfl) .nil)))),M.less (.refl _),(by simp_all [oneOf])⟩
  have hb18:=h18;replace h18:=of_decide_eq_false h18;refine Qo<|Qb<|o1 K (Q8 (b:=[105,109,112]) rfl rfl) rfl fun _ K=>?_;refine Qg 1 K M ?_;intro _ K;refine Qs (K.QB rfl) (fun h18=>?_) (fun h18=>?_)
  ·have hb18:=h18;replace h18:=of_decide_eq_true h18;refine QU ?_;exact⟨_,(.cons (K _ _ rfl) (.cons (K _ _ rfl) (.cons (K _ _ rfl) (.cons (K _ _ rfl) .nil)))),M.less (.refl _),(by simp_all [oneOf])⟩
  have hb18:=h18;replace h18:=of_decide_eq_false h18;refine Qb<|o1 K (Q8 (b:=[105,102,102]) rfl rfl) rfl fun _ K=>o1 K (Qq rfl) rfl fun _ K=>QG ?_;exact⟨_,(.cons (K _ _ rfl) (.cons (K _ _ rfl) (.cons (K _ _ rfl) (.cons (K _ _ rfl) .nil)))),M.less (.refl _),(by simp_all [oneOf])⟩
 obtain⟨b,K,M,hbs11⟩:=hJ;refine Qs (K.QB rfl) (fun h18=>?_) (fun h18=>?_)
 ·have hb18:=h18;refine Qg 1 K M ?_;intro _ K;refine oQ K M (AW M.fresh (hr0.mono M.rows) 2) rfl rfl fun _ _ K M=>?_;refine oB K (Qc rfl) rfl fun b25 _ e25 K=>?_;cases b25
  ·refine Qg 4 K M ?_;intro _ K;refine Qf ⟨.inr rfl,_,J4 K rfl,?_⟩;refine⟨congrArg AV.bool ?_,M.qt⟩;rw[J8 o s z a l]
   try generalize l.all QO=q1 at *
   try generalize l.all QJ=q2 at *
   try clear M
   try clear ih
   try clear hr
   try clear hr0
   try clear hp
   try clear hn
   try clear hK
   try clear hb
   try clear hc
   try clear hm
   try clear hln
   try clear hbn
   try clear hf
   simp_all [Qi,Jh,hasB,L5]<;>first|done|rfl|omega|(congr 1;done)|(congr 2;done)|(intros;omega)|skip
  refine Qg 1 K M ?_;intro _ K;obtain⟨v27,st27,ev27,rfl,q27⟩:=Aj (p:=QO) M.fresh (hr0.mono M.rows) (fun k hk st1 cs hf1 hr1=>ih _ hk st1 cs hf1 hr1);refine og K rfl rfl (Ql rfl ev27) rfl fun _ K=>?_;replace M:=M.quiet q27;refine Qg 2 K M ?_;intro _ K;refine Qf ⟨.inr rfl,_,J4 K rfl,?_⟩;refine⟨congrArg AV.bool ?_,M.qt⟩;rw[J8 o s z a l]
  try generalize l.all QO=q1 at *
  try generalize l.all QJ=q2 at *
  try clear M
  try clear ih
  try clear hr
  try clear hr0
  try clear hp
  try clear hn
  try clear hK
  try clear hb
  try clear hc
  try clear hm
  try clear hln
  try clear hbn
  try clear hf
  simp_all [Qi,Jh,hasB,L5]<;>first|done|rfl|omega|(congr 1;done)|(congr 2;done)|(intros;omega)|skip
 have hb18:=h18;refine FH (J:=fun T st9=> ∃(b:Bool),Jf [(1,.ptr c1 0 0),(2,.bool false),(4,.str o),(29,.bool b)] T∧Mem st.h.get st.n [] st9 [(c1,0,[.str o,.str s,.int .i64 z,.int .i64 a,kk])]∧b=oneOf o [[101,120],[97,108,108]]) ?_ (fun T st9 hJ=>?_)
 ·refine Qo<|Qb<|o1 K (Q8 (b:=[101,120]) rfl rfl) rfl fun _ K=>?_;refine Qg 1 K M ?_;intro _ K;refine Qs (K.QB rfl) (fun h29=>?_) (fun h29=>?_)
  ·have hb29:=h29;replace h29:=of_decide_eq_true h29;refine QU ?_;exact⟨_,(.cons (K _ _ rfl) (.cons (K _ _ rfl) (.cons (K _ _ rfl) (.cons (K _ _ rfl) .nil)))),M.less (.refl _),(by simp_all [oneOf])⟩
  have hb29:=h29;replace h29:=of_decide_eq_false h29;refine Qb<|o1 K (Q8 (b:=[97,108,108]) rfl rfl) rfl fun _ K=>o1 K (Qq rfl) rfl fun _ K=>QG ?_;exact⟨_,(.cons (K _ _ rfl) (.cons (K _ _ rfl) (.cons (K _ _ rfl) (.cons (K _ _ rfl) .nil)))),M.less (.refl _),(by simp_all [oneOf])⟩
 obtain⟨b,K,M,hbs14⟩:=hJ;refine Qs (K.QB rfl) (fun h29=>?_) (fun h29=>?_)
 ·have hb29:=h29;refine Qg 2 K M ?_;intro _ K;refine oQ K M (X0 M.fresh s) rfl rfl fun _ _ K M=>?_;refine oB K (Qc rfl) rfl fun b35 _ e35 K=>?_;cases b35
  ·refine Qg 20 K M ?_;intro _ K;refine Qf ⟨.inr rfl,_,J4 K rfl,?_⟩;refine⟨congrArg AV.bool ?_,M.qt⟩;rw[J8 o s z a l]
   try generalize l.all QO=q1 at *
   try generalize l.all QJ=q2 at *
   try clear M
   try clear ih
   try clear hr
   try clear hr0
   try clear hp
   try clear hn
   try clear hK
   try clear hb
   try clear hc
   try clear hm
   try clear hln
   try clear hbn
   try clear hf
   simp_all [Qi,Jh,hasB,L5]<;>first|done|rfl|omega|(congr 1;done)|(congr 2;done)|(intros;omega)|skip
  refine Qg 4 K M ?_;intro _ K;refine oB K (Qc rfl) rfl fun b40 _ e40 K=>?_;cases b40
  ·replace e40:=of_decide_eq_false e40;refine Qg 15 K M ?_;intro _ K;refine Qf ⟨.inr rfl,_,J4 K rfl,?_⟩;refine⟨congrArg AV.bool ?_,M.qt⟩;rw[J8 o s z a l]
   try generalize l.all QO=q1 at *
   try generalize l.all QJ=q2 at *
   try clear M
   try clear ih
   try clear hr
   try clear hr0
   try clear hp
   try clear hn
   try clear hK
   try clear hb
   try clear hc
   try clear hm
   try clear hln
   try clear hbn
   try clear hf
   simp_all [Qi,Jh,hasB,L5]<;>first|done|rfl|omega|(congr 1;done)|(congr 2;done)|(intros;omega)|skip
  replace e40:=of_decide_eq_true e40;refine Qg 4 K M ?_;intro _ K;refine oB K (Qc rfl) rfl fun b45 _ e45 K=>?_;cases b45
  ·replace e45:=of_decide_eq_false e45;refine Qg 10 K M ?_;intro _ K;refine Qf ⟨.inr rfl,_,J4 K rfl,?_⟩;refine⟨congrArg AV.bool ?_,M.qt⟩;rw[J8 o s z a l]
   try generalize l.all QO=q1 at *
   try generalize l.all QJ=q2 at *
   try clear M
   try clear ih
   try clear hr
   try clear hr0
   try clear hp
   try clear hn
   try clear hK
   try clear hb
   try clear hc
   try clear hm
   try clear hln
   try clear hbn
   try clear hf
   simp_all [Qi,Jh,hasB,L5]<;>first|done|rfl|omega|(congr 1;done)|(congr 2;done)|(intros;omega)|skip
  replace e45:=of_decide_eq_true e45;refine Qg 2 K M ?_;intro _ K;refine og K rfl rfl (QF QV rfl rfl hK.len) rfl fun _ K=>?_;refine Qg 2 K M ?_;intro _ K;refine oB K (Qc rfl) rfl fun b51 _ e51 K=>?_;cases b51
  ·replace e51:=of_decide_eq_false e51;refine Qg 4 K M ?_;intro _ K;refine Qf ⟨.inr rfl,_,J4 K rfl,?_⟩;refine⟨congrArg AV.bool ?_,M.qt⟩;rw[J8 o s z a l]
   try generalize l.all QO=q1 at *
   try generalize l.all QJ=q2 at *
   try clear M
   try clear ih
   try clear hr
   try clear hr0
   try clear hp
   try clear hn
   try clear hK
   try clear hb
   try clear hc
   try clear hm
   try clear hln
   try clear hbn
   try clear hf
   simp_all [Qi,Jh,hasB,L5]<;>first|done|rfl|omega|(congr 1;done)|(congr 2;done)|(intros;omega)|skip
  replace e51:=of_decide_eq_true e51;refine Qg 1 K M ?_;intro _ K;obtain⟨v53,st53,ev53,rfl,q53⟩:=Aj (p:=QO) M.fresh (hr0.mono M.rows) (fun k hk st1 cs hf1 hr1=>ih _ hk st1 cs hf1 hr1);refine og K rfl rfl (Ql rfl ev53) rfl fun _ K=>?_;replace M:=M.quiet q53;refine Qg 2 K M ?_;intro _ K;refine Qf ⟨.inr rfl,_,J4 K rfl,?_⟩;refine⟨congrArg AV.bool ?_,M.qt⟩;rw[J8 o s z a l]
  try generalize l.all QO=q1 at *
  try generalize l.all QJ=q2 at *
  try clear M
  try clear ih
  try clear hr
  try clear hr0
  try clear hp
  try clear hn
  try clear hK
  try clear hb
  try clear hc
  try clear hm
  try clear hln
  try clear hbn
  try clear hf
  simp_all [Qi,Jh,hasB,L5]<;>first|done|rfl|omega|(congr 1;done)|(congr 2;done)|(intros;omega)|skip
 have hb29:=h29;refine Qo<|Qb<|o1 K (Q8 (b:=[105,115]) rfl rfl) rfl fun _ K=>?_;refine Qg 1 K M ?_;intro _ K;refine YI K rfl (fun h55=>?_) fun h55=>?_
 ·refine Qg 2 K M ?_;intro _ K;refine oQ K M (X0 M.fresh s) rfl rfl fun _ _ K M=>?_;refine oB K (Qc rfl) rfl fun b60 _ e60 K=>?_;cases b60
  ·refine Qg 11 K M ?_;intro _ K;refine Qf ⟨.inr rfl,_,J4 K rfl,?_⟩;refine⟨congrArg AV.bool ?_,M.qt⟩;rw[J8 o s z a l]
   try generalize l.all QO=q1 at *
   try generalize l.all QJ=q2 at *
   try clear M
   try clear ih
   try clear hr
   try clear hr0
   try clear hp
   try clear hn
   try clear hK
   try clear hb
   try clear hc
   try clear hm
   try clear hln
   try clear hbn
   try clear hf
   simp_all [Qi,Jh,hasB,L5]<;>first|done|rfl|omega|(congr 1;done)|(congr 2;done)|(intros;omega)|skip
  refine Qg 4 K M ?_;intro _ K;refine oB K (Qc rfl) rfl fun b65 _ e65 K=>?_;cases b65
  ·replace e65:=of_decide_eq_false e65;refine Qg 6 K M ?_;intro _ K;refine Qf ⟨.inr rfl,_,J4 K rfl,?_⟩;refine⟨congrArg AV.bool ?_,M.qt⟩;rw[J8 o s z a l]
   try generalize l.all QO=q1 at *
   try generalize l.all QJ=q2 at *
   try clear M
   try clear ih
   try clear hr
   try clear hr0
   try clear hp
   try clear hn
   try clear hK
   try clear hb
   try clear hc
   try clear hm
   try clear hln
   try clear hbn
   try clear hf
   simp_all [Qi,Jh,hasB,L5]<;>first|done|rfl|omega|(congr 1;done)|(congr 2;done)|(intros;omega)|skip
  replace e65:=of_decide_eq_true e65;refine Qg 2 K M ?_;intro _ K;refine og K rfl rfl (QF QV rfl rfl hK.len) rfl fun _ K=>?_;refine Qg 3 K M ?_;intro _ K;refine Qf ⟨.inr rfl,_,J4 K rfl,?_⟩;refine⟨congrArg AV.bool ?_,M.qt⟩;rw[J8 o s z a l]
  try generalize l.all QO=q1 at *
  try generalize l.all QJ=q2 at *
  try clear M
  try clear ih
  try clear hr
  try clear hr0
  try clear hp
  try clear hn
  try clear hK
  try clear hb
  try clear hc
  try clear hm
  try clear hln
  try clear hbn
  try clear hf
  simp_all [Qi,Jh,hasB,L5]<;>first|done|rfl|omega|(congr 1;done)|(congr 2;done)|(intros;omega)|skip
 refine FH (J:=fun T st9=> ∃(b:Bool),Jf [(1,.ptr c1 0 0),(2,.bool false),(4,.str o),(71,.bool b)] T∧Mem st.h.get st.n [] st9 [(c1,0,[.str o,.str s,.int .i64 z,.int .i64 a,kk])]∧b=oneOf o [[101,113],[110,101],[108,116],[108,101],[105,110],[110,111,116,105,110],[115,117,98]]) ?_ (fun T st9 hJ=>?_)
 ·refine Qo<|Qb<|o1 K (Q8 (b:=[101,113]) rfl rfl) rfl fun _ K=>?_;refine Qg 1 K M ?_;intro _ K;refine Qs (K.QB rfl) (fun h71=>?_) (fun h71=>?_)
  ·have hb71:=h71;replace h71:=of_decide_eq_true h71;refine QU ?_;exact⟨_,(.cons (K _ _ rfl) (.cons (K _ _ rfl) (.cons (K _ _ rfl) (.cons (K _ _ rfl) .nil)))),M.less (.refl _),(by simp_all [oneOf])⟩
  have hb71:=h71;replace h71:=of_decide_eq_false h71;refine Qo<|Qb<|o1 K (Q8 (b:=[110,101]) rfl rfl) rfl fun _ K=>?_;refine Qg 1 K M ?_;intro _ K;refine Qs (K.QB rfl) (fun h71=>?_) (fun h71=>?_)
  ·have hb71:=h71;replace h71:=of_decide_eq_true h71;refine QU ?_;exact⟨_,(.cons (K _ _ rfl) (.cons (K _ _ rfl) (.cons (K _ _ rfl) (.cons (K _ _ rfl) .nil)))),M.less (.refl _),(by simp_all [oneOf])⟩
  have hb71:=h71;replace h71:=of_decide_eq_false h71;refine Qo<|Qb<|o1 K (Q8 (b:=[108,116]) rfl rfl) rfl fun _ K=>?_;refine Qg 1 K M ?_;intro _ K;refine Qs (K.QB rfl) (fun h71=>?_) (fun h71=>?_)
  ·have hb71:=h71;replace h71:=of_decide_eq_true h71;refine QU ?_;exact⟨_,(.cons (K _ _ rfl) (.cons (K _ _ rfl) (.cons (K _ _ rfl) (.cons (K _ _ rfl) .nil)))),M.less (.refl _),(by simp_all [oneOf])⟩
  have hb71:=h71;replace h71:=of_decide_eq_false h71;refine Qo<|Qb<|o1 K (Q8 (b:=[108,101]) rfl rfl) rfl fun _ K=>?_;refine Qg 1 K M ?_;intro _ K;refine Qs (K.QB rfl) (fun h71=>?_) (fun h71=>?_)
  ·have hb71:=h71;replace h71:=of_decide_eq_true h71;refine QU ?_;exact⟨_,(.cons (K _ _ rfl) (.cons (K _ _ rfl) (.cons (K _ _ rfl) (.cons (K _ _ rfl) .nil)))),M.less (.refl _),(by simp_all [oneOf])⟩
  have hb71:=h71;replace h71:=of_decide_eq_false h71;refine Qo<|Qb<|o1 K (Q8 (b:=[105,110]) rfl rfl) rfl fun _ K=>?_;refine Qg 1 K M ?_;intro _ K;refine Qs (K.QB rfl) (fun h71=>?_) (fun h71=>?_)
  ·have hb71:=h71;replace h71:=of_decide_eq_true h71;refine QU ?_;exact⟨_,(.cons (K _ _ rfl) (.cons (K _ _ rfl) (.cons (K _ _ rfl) (.cons (K _ _ rfl) .nil)))),M.less (.refl _),(by simp_all [oneOf])⟩
  have hb71:=h71;replace h71:=of_decide_eq_false h71;refine Qo<|Qb<|o1 K (Q8 (b:=[110,111,116,105,110]) rfl rfl) rfl fun _ K=>?_;refine Qg 1 K M ?_;intro _ K;refine Qs (K.QB rfl) (fun h71=>?_) (fun h71=>?_)
  ·have hb71:=h71;replace h71:=of_decide_eq_true h71;refine QU ?_;exact⟨_,(.cons (K _ _ rfl) (.cons (K _ _ rfl) (.cons (K _ _ rfl) (.cons (K _ _ rfl) .nil)))),M.less (.refl _),(by simp_all [oneOf])⟩
  have hb71:=h71;replace h71:=of_decide_eq_false h71;refine Qb<|o1 K (Q8 (b:=[115,117,98]) rfl rfl) rfl fun _ K=>o1 K (Qq rfl) rfl fun _ K=>QG ?_;exact⟨_,(.cons (K _ _ rfl) (.cons (K _ _ rfl) (.cons (K _ _ rfl) (.cons (K _ _ rfl) .nil)))),M.less (.refl _),(by simp_all [oneOf])⟩
 obtain⟨b,K,M,hbs24⟩:=hJ;refine Qs (K.QB rfl) (fun h71=>?_) (fun h71=>?_)
 ·have hb71:=h71;refine Qg 1 K M ?_;intro _ K;refine oQ K M (AW M.fresh (hr0.mono M.rows) 2) rfl rfl fun _ _ K M=>?_;refine oB K (Qc rfl) rfl fun b81 _ e81 K=>?_;cases b81
  ·refine Qg 4 K M ?_;intro _ K;refine Qf ⟨.inr rfl,_,J4 K rfl,?_⟩;refine⟨congrArg AV.bool ?_,M.qt⟩;rw[J8 o s z a l]
   try generalize l.all QO=q1 at *
   try generalize l.all QJ=q2 at *
   try clear M
   try clear ih
   try clear hr
   try clear hr0
   try clear hp
   try clear hn
   try clear hK
   try clear hb
   try clear hc
   try clear hm
   try clear hln
   try clear hbn
   try clear hf
   simp_all [Qi,Jh,hasB,L5]<;>first|done|rfl|omega|(congr 1;done)|(congr 2;done)|(intros;omega)|skip
  refine Qg 1 K M ?_;intro _ K;obtain⟨v83,st83,ev83,rfl,q83⟩:=Aj (p:=QJ) M.fresh (hr0.mono M.rows) (fun k hk st1 cs hf1 hr1=>LF k st1 cs hf1 hr1);refine og K rfl rfl (Ql rfl ev83) rfl fun _ K=>?_;replace M:=M.quiet q83;refine Qg 2 K M ?_;intro _ K;refine Qf ⟨.inr rfl,_,J4 K rfl,?_⟩;refine⟨congrArg AV.bool ?_,M.qt⟩;rw[J8 o s z a l]
  try generalize l.all QO=q1 at *
  try generalize l.all QJ=q2 at *
  try clear M
  try clear ih
  try clear hr
  try clear hr0
  try clear hp
  try clear hn
  try clear hK
  try clear hb
  try clear hc
  try clear hm
  try clear hln
  try clear hbn
  try clear hf
  simp_all [Qi,Jh,hasB,L5]<;>first|done|rfl|omega|(congr 1;done)|(congr 2;done)|(intros;omega)|skip
 have hb71:=h71;refine Qo<|Qb<|o1 K (Q8 (b:=[99,97,108,108]) rfl rfl) rfl fun _ K=>?_;refine Qg 1 K M ?_;intro _ K;refine YI K rfl (fun h85=>?_) fun h85=>?_
 ·refine Qg 2 K M ?_;intro _ K;refine oQ K M (X0 M.fresh s) rfl rfl fun _ _ K M=>?_;refine oB K (Qc rfl) rfl fun b90 _ e90 K=>?_;cases b90
  ·refine Qg 15 K M ?_;intro _ K;refine Qf ⟨.inr rfl,_,J4 K rfl,?_⟩;refine⟨congrArg AV.bool ?_,M.qt⟩;rw[J8 o s z a l]
   try generalize l.all QO=q1 at *
   try generalize l.all QJ=q2 at *
   try clear M
   try clear ih
   try clear hr
   try clear hr0
   try clear hp
   try clear hn
   try clear hK
   try clear hb
   try clear hc
   try clear hm
   try clear hln
   try clear hbn
   try clear hf
   simp_all [Qi,Jh,hasB,L5]<;>first|done|rfl|omega|(congr 1;done)|(congr 2;done)|(intros;omega)|skip
  refine Qg 4 K M ?_;intro _ K;refine oB K (Qc rfl) rfl fun b95 _ e95 K=>?_;cases b95
  ·replace e95:=of_decide_eq_false e95;refine Qg 10 K M ?_;intro _ K;refine Qf ⟨.inr rfl,_,J4 K rfl,?_⟩;refine⟨congrArg AV.bool ?_,M.qt⟩;rw[J8 o s z a l]
   try generalize l.all QO=q1 at *
   try generalize l.all QJ=q2 at *
   try clear M
   try clear ih
   try clear hr
   try clear hr0
   try clear hp
   try clear hn
   try clear hK
   try clear hb
   try clear hc
   try clear hm
   try clear hln
   try clear hbn
   try clear hf
   simp_all [Qi,Jh,hasB,L5]<;>first|done|rfl|omega|(congr 1;done)|(congr 2;done)|(intros;omega)|skip
  replace e95:=of_decide_eq_true e95;refine Qg 2 K M ?_;intro _ K;refine og K rfl rfl (QF QV rfl rfl hK.len) rfl fun _ K=>?_;refine Qg 2 K M ?_;intro _ K;refine oB K (Qc rfl) rfl fun b101 _ e101 K=>?_;cases b101
  ·replace e101:=of_decide_eq_false e101;refine Qg 4 K M ?_;intro _ K;refine Qf ⟨.inr rfl,_,J4 K rfl,?_⟩;refine⟨congrArg AV.bool ?_,M.qt⟩;rw[J8 o s z a l]
   try generalize l.all QO=q1 at *
   try generalize l.all QJ=q2 at *
   try clear M
   try clear ih
   try clear hr
   try clear hr0
   try clear hp
   try clear hn
   try clear hK
   try clear hb
   try clear hc
   try clear hm
   try clear hln
   try clear hbn
   try clear hf
   simp_all [Qi,Jh,hasB,L5]<;>first|done|rfl|omega|(congr 1;done)|(congr 2;done)|(intros;omega)|skip
  replace e101:=of_decide_eq_true e101;refine Qg 1 K M ?_;intro _ K;obtain⟨v103,st103,ev103,rfl,q103⟩:=Aj (p:=QJ) M.fresh (hr0.mono M.rows) (fun k hk st1 cs hf1 hr1=>LF k st1 cs hf1 hr1);refine og K rfl rfl (Ql rfl ev103) rfl fun _ K=>?_;replace M:=M.quiet q103;refine Qg 2 K M ?_;intro _ K;refine Qf ⟨.inr rfl,_,J4 K rfl,?_⟩;refine⟨congrArg AV.bool ?_,M.qt⟩;rw[J8 o s z a l]
  try generalize l.all QO=q1 at *
  try generalize l.all QJ=q2 at *
  try clear M
  try clear ih
  try clear hr
  try clear hr0
  try clear hp
  try clear hn
  try clear hK
  try clear hb
  try clear hc
  try clear hm
  try clear hln
  try clear hbn
  try clear hf
  simp_all [Qi,Jh,hasB,L5]<;>first|done|rfl|omega|(congr 1;done)|(congr 2;done)|(intros;omega)|skip
 refine Qg 1 K M ?_;intro _ K;refine Qf ⟨.inr rfl,_,J4 K rfl,?_⟩;refine⟨congrArg AV.bool ?_,M.qt⟩;rw[J8 o s z a l]
 try generalize l.all QO=q1 at *
 try generalize l.all QJ=q2 at *
 try clear M
 try clear ih
 try clear hr
 try clear hr0
 try clear hp
 try clear hn
 try clear hK
 try clear hb
 try clear hc
 try clear hm
 try clear hln
 try clear hbn
 try clear hf
 simp_all [Qi,Jh,hasB,L5]<;>first|done|rfl|omega|(congr 1;done)|(congr 2;done)|(intros;omega)|skip

end Go.Proofs.YtadjjadimlkkgaaGreatDoor
