/-
  Formulas: the program's answer. Terms and formulas: the reference's.
-/
import Derived.Test.YtadjjadimlkkgaaGreatDoorKtTrB
namespace Go.Proofs.YtadjjadimlkkgaaGreatDoor
open Go Go.RowKit
set_option maxHeartbeats 8000000
set_option linter.unusedVariables false
set_option linter.unusedSimpArgs false
set_option maxRecDepth 100000

theorem Ap(z:Int):(z<3)=(z≤2):=propext (by omega)
theorem UX{kids:List Nd}{i:Nat}{k:Nd}{p:Nd→Bool}(h:kids[i]? =some k):(kids.drop i).any p=(p k||(kids.drop (i+1)).any p):=by
 obtain⟨h1,h2⟩:=List.getElem?_eq_some_iff.1 h;rw[List.drop_eq_getElem_cons h1,List.any_cons,h2]
theorem Ux{s:List Nat}{z:Int}{l:List Nd}{m:Int}:hasB s z l m true false=(Yr s&&(decide (z=0)&&decide (((l.length:Nat):Int)=m))):=by
 rw[hasB];cases decide (((l.length:Nat):Int)=m)<;>cases decide (z=0)<;>cases Yr s<;>rfl
theorem Uy{s:List Nat}{z:Int}{l:List Nd}{m:Int}:hasB s z l m false true=(decide (s=[])&&decide (((l.length:Nat):Int)=m)):=by
 rw[hasB];cases decide (((l.length:Nat):Int)=m)<;>cases decide (s=[])<;>rfl
theorem Uz{s:List Nat}{z:Int}{l:List Nd}{m:Int}:hasB s z l m false false=Jc s z l m:=by
 rw[hasB,Jc];cases decide (((l.length:Nat):Int)=m)<;>cases decide (z=0)<;>cases decide (s=[])<;>rfl
theorem Uw{s:List Nat}{z:Int}{l:List Nd}{m:Int}:hasB s z l m true true=(Yr s&&decide (((l.length:Nat):Int)=m)):=by
 rw[hasB];cases decide (((l.length:Nat):Int)=m)<;>cases Yr s<;>rfl
def Zc(k:Nd):Bool:=Jv k.op||decide (k.op=Uv)
theorem Yc: ∀(l:List Nd),l.all YI=(!l.any Zc&&l.all QL):=by
 intro l
 induction l with
 |nil=>rfl
 |cons k l ih=>
  rw[List.all_cons,List.all_cons,List.any_cons,ih,YI,Zc]
  cases QL k<;>cases Jv k.op<;>cases decide (k.op=Uv)<;>cases l.any Zc<;>cases l.all QL<;>rfl

theorem OQ(x:Nd): ∀(st:St) (cs:List AV),Q3 st→YW st.h.get x cs→ ∃v st',Ev Tryz.prog Jg 104 [.agg cs] st v st'∧v=.bool (Jm x)∧Qt st st':=by
 refine VJ (M:=fun x=> ∀(st:St) (cs:List AV),Q3 st→YW st.h.get x cs→ ∃v st',Ev Tryz.prog Jg 104 [.agg cs] st v st'∧v=.bool (Jm x)∧Qt st st') (fun o s z a l ih=>?_) x;intro st cs hf hr;have hr0:=hr;obtain⟨kk,ls,rfl,hK,hb⟩:=hr.Ju;have hln:=hK.ln;have hbn:=hK.Yx;refine QG rfl Tryz.func104 rfl Tryz.ntmps104 rfl fun T hT=>?_;have K:Jk [(0,_)] T:=(.cons (hT 0) .nil);have M:=Mem.start hf;refine Qw<|Qi ?_;refine JL K M rfl (Qa rfl (Qa rfl (Qa rfl (Qa rfl (Qa hK.cell QE))))) (by decide) fun c1 _ _ K M=>?_;refine o1 K (Qu rfl) rfl fun _ K=>Q5 ?_;show W _ _ _ _ _ _ _;refine Qw<|Qw<|Qi<|o1 K (Qf Vx rfl) rfl fun _ K=>o1 K (Qq rfl (M.load (k:=0) rfl (Ql Ji rfl))) rfl fun _ K=>Q5 ?_;show W _ _ _ _ _ _ _;refine UN ?_;refine X7 (J:=fun T st9=> ∃(b:Bool),Jk [(1,.ptr c1 0 0),(2,.bool false),(4,.str o),(5,.bool b)] T∧Mem st.h.get st.n [] st9 [(c1,0,[.str o,.str s,.int .i64 z,.int .i64 a,kk])]∧b=oneOf o [[116,114,117,101],[102,97,108,115,101]]) ?_ (fun T st9 hJ=>?_)
 ·refine Qw<|Qi<|o1 K (QD (b:=[116,114,117,101]) rfl rfl) rfl fun _ K=>?_;refine Qc 1 K M ?_;intro _ K;refine Qj (K.QN rfl) (fun h5=>?_) (fun h5=>?_)
  ·have hb5:=h5;replace h5:=of_decide_eq_true h5;refine QO ?_;exact⟨_,(.cons (K _ _ rfl) (.cons (K _ _ rfl) (.cons (K _ _ rfl) (.cons (K _ _ rfl) .nil)))),M.less (.refl _),(by simp_all [oneOf])⟩
  have hb5:=h5;replace h5:=of_decide_eq_false h5;refine Qi<|o1 K (QD (b:=[102,97,108,115,101]) rfl rfl) rfl fun _ K=>o1 K (Qu rfl) rfl fun _ K=>Q5 ?_;exact⟨_,(.cons (K _ _ rfl) (.cons (K _ _ rfl) (.cons (K _ _ rfl) (.cons (K _ _ rfl) .nil)))),M.less (.refl _),(by simp_all [oneOf])⟩
 obtain⟨b,K,M,hbs4⟩:=hJ;refine Qj (K.QN rfl) (fun h5=>?_) (fun h5=>?_)
 ·have hb5:=h5;refine Qc 1 K M ?_;intro _ K;obtain⟨v9,st9,ev9,rfl,q9⟩:=Ik M.fresh (hr0.mono M.rows) 0;refine o1 K (Qg rfl ev9) rfl fun _ K=>?_;replace M:=M.quiet q9;refine Qc 1 K M ?_;intro _ K;refine Qd ⟨.inr rfl,_,J7 K rfl,?_⟩;refine⟨congrArg AV.bool ?_,M.qt⟩;rw[J0 o s z a l]
  try generalize l.all Jm=q1 at *
  try generalize l.all QL=q2 at *
  try clear M
  try clear ih
  try clear hr
  try clear hr0
  try clear hp
  try clear hn
  try clear hK
  try clear hb
  try clear hc
  try clear hm
  try clear hln
  try clear hbn
  try clear hf
  simp_all [Qo,Jc,hasB,Ap]<;>first|done|rfl|omega|(congr 1;done)|(congr 2;done)|(intros;omega)|skip
 have hb5:=h5;refine Qw<|Qi<|o1 K (QD (b:=[110,111,116]) rfl rfl) rfl fun _ K=>?_;refine Qc 1 K M ?_;intro _ K;refine YX K rfl (fun h10=>?_) fun h10=>?_
 ·refine Qc 1 K M ?_;intro _ K;refine oQ K M (Ik M.fresh (hr0.mono M.rows) 1) rfl rfl fun _ _ K M=>?_;refine oB K (Qb rfl) rfl fun b14 _ e14 K=>?_;cases b14
  ·refine Qc 4 K M ?_;intro _ K;refine Qd ⟨.inr rfl,_,J7 K rfl,?_⟩;refine⟨congrArg AV.bool ?_,M.qt⟩;rw[J0 o s z a l]
   try generalize l.all Jm=q1 at *
   try generalize l.all QL=q2 at *
   try clear M
   try clear ih
   try clear hr
   try clear hr0
   try clear hp
   try clear hn
   try clear hK
   try clear hb
   try clear hc
   try clear hm
   try clear hln
   try clear hbn
   try clear hf
   simp_all [Qo,Jc,hasB,Ap]<;>first|done|rfl|omega|(congr 1;done)|(congr 2;done)|(intros;omega)|skip
  refine Qc 1 K M ?_;intro _ K;obtain⟨v16,st16,ev16,rfl,q16⟩:=Hn (p:=Jm) M.fresh (hr0.mono M.rows) (fun k hk st1 cs hf1 hr1=>ih _ hk st1 cs hf1 hr1);refine og K rfl rfl (Qg rfl ev16) rfl fun _ K=>?_;replace M:=M.quiet q16;refine Qc 2 K M ?_;intro _ K;refine Qd ⟨.inr rfl,_,J7 K rfl,?_⟩;refine⟨congrArg AV.bool ?_,M.qt⟩;rw[J0 o s z a l]
  try generalize l.all Jm=q1 at *
  try generalize l.all QL=q2 at *
  try clear M
  try clear ih
  try clear hr
  try clear hr0
  try clear hp
  try clear hn
  try clear hK
  try clear hb
  try clear hc
  try clear hm
  try clear hln
  try clear hbn
  try clear hf
  simp_all [Qo,Jc,hasB,Ap]<;>first|done|rfl|omega|(congr 1;done)|(congr 2;done)|(intros;omega)|skip
 refine X7 (J:=fun T st9=> ∃(b:Bool),Jk [(1,.ptr c1 0 0),(2,.bool false),(4,.str o),(18,.bool b)] T∧Mem st.h.get st.n [] st9 [(c1,0,[.str o,.str s,.int .i64 z,.int .i64 a,kk])]∧b=oneOf o [[97,110,100],[111,114],[105,109,112],[105,102,102]]) ?_ (fun T st9 hJ=>?_)
 ·refine Qw<|Qi<|o1 K (QD (b:=[97,110,100]) rfl rfl) rfl fun _ K=>?_;refine Qc 1 K M ?_;intro _ K;refine Qj (K.QN rfl) (fun h18=>?_) (fun h18=>?_)
  ·have hb18:=h18;replace h18:=of_decide_eq_true h18;refine QO ?_;exact⟨_,(.cons (K _ _ rfl) (.cons (K _ _ rfl) (.cons (K _ _ rfl) (.cons (K _ _ rfl) .nil)))),M.less (.refl _),(by simp_all [oneOf])⟩
  have hb18:=h18;replace h18:=of_decide_eq_false h18;refine Qw<|Qi<|o1 K (QD (b:=[111,114]) rfl rfl) rfl fun _ K=>?_;refine Qc 1 K M ?_;intro _ K;refine Qj (K.QN rfl) (fun h18=>?_) (fun h18=>?_)
  ·have hb18:=h18;replace h18:=of_decide_eq_true h18;refine QO ?_;exact⟨_,(.cons (K _ _ rfl) (.cons (K _ _ rfl) (.cons (K _ _ rfl) (.cons (K _ _ rfl) .nil)))),M.less (.refl _),(by simp_all [oneOf])⟩
  have hb18:=h18;replace h18:=of_decide_eq_false h18;refine Qw<|Qi<|o1 K (QD (b:=[105,109,112]) rfl rfl) rfl fun _ K=>?_;refine Qc 1 K M ?_;intro _ K;refine Qj (K.QN rfl) (fun h18=>?_) (fun h18=>?_)
  ·have hb18:=h18;replace h18:=of_decide_eq_true h18;refine QO ?_;exact⟨_,(.cons (K _ _ rfl) (.cons (K _ _ rfl) (.cons (K _ _ rfl) (.cons (K _ _ rfl) .nil)))),M.less (.refl _),(by simp_all [oneOf])⟩
  have hb18:=h18;replace h18:=of_decide_eq_false h18;refine Qi<|o1 K (QD (b:=[105,102,102]) rfl rfl) rfl fun _ K=>o1 K (Qu rfl) rfl fun _ K=>Q5 ?_;exact⟨_,(.cons (K _ _ rfl) (.cons (K _ _ rfl) (.cons (K _ _ rfl) (.cons (K _ _ rfl) .nil)))),M.less (.refl _),(by simp_all [oneOf])⟩
 obtain⟨b,K,M,hbs11⟩:=hJ;refine Qj (K.QN rfl) (fun h18=>?_) (fun h18=>?_)
 ·have hb18:=h18;refine Qc 1 K M ?_;intro _ K;refine oQ K M (Ik M.fresh (hr0.mono M.rows) 2) rfl rfl fun _ _ K M=>?_;refine oB K (Qb rfl) rfl fun b25 _ e25 K=>?_;cases b25
  ·refine Qc 4 K M ?_;intro _ K;refine Qd ⟨.inr rfl,_,J7 K rfl,?_⟩;refine⟨congrArg AV.bool ?_,M.qt⟩;rw[J0 o s z a l]
   try generalize l.all Jm=q1 at *
   try generalize l.all QL=q2 at *
   try clear M
   try clear ih
   try clear hr
   try clear hr0
   try clear hp
   try clear hn
   try clear hK
   try clear hb
   try clear hc
   try clear hm
   try clear hln
   try clear hbn
   try clear hf
   simp_all [Qo,Jc,hasB,Ap]<;>first|done|rfl|omega|(congr 1;done)|(congr 2;done)|(intros;omega)|skip
  refine Qc 1 K M ?_;intro _ K;obtain⟨v27,st27,ev27,rfl,q27⟩:=Hn (p:=Jm) M.fresh (hr0.mono M.rows) (fun k hk st1 cs hf1 hr1=>ih _ hk st1 cs hf1 hr1);refine og K rfl rfl (Qg rfl ev27) rfl fun _ K=>?_;replace M:=M.quiet q27;refine Qc 2 K M ?_;intro _ K;refine Qd ⟨.inr rfl,_,J7 K rfl,?_⟩;refine⟨congrArg AV.bool ?_,M.qt⟩;rw[J0 o s z a l]
  try generalize l.all Jm=q1 at *
  try generalize l.all QL=q2 at *
  try clear M
  try clear ih
  try clear hr
  try clear hr0
  try clear hp
  try clear hn
  try clear hK
  try clear hb
  try clear hc
  try clear hm
  try clear hln
  try clear hbn
  try clear hf
  simp_all [Qo,Jc,hasB,Ap]<;>first|done|rfl|omega|(congr 1;done)|(congr 2;done)|(intros;omega)|skip
 have hb18:=h18;refine X7 (J:=fun T st9=> ∃(b:Bool),Jk [(1,.ptr c1 0 0),(2,.bool false),(4,.str o),(29,.bool b)] T∧Mem st.h.get st.n [] st9 [(c1,0,[.str o,.str s,.int .i64 z,.int .i64 a,kk])]∧b=oneOf o [[101,120],[97,108,108]]) ?_ (fun T st9 hJ=>?_)
 ·refine Qw<|Qi<|o1 K (QD (b:=[101,120]) rfl rfl) rfl fun _ K=>?_;refine Qc 1 K M ?_;intro _ K;refine Qj (K.QN rfl) (fun h29=>?_) (fun h29=>?_)
  ·have hb29:=h29;replace h29:=of_decide_eq_true h29;refine QO ?_;exact⟨_,(.cons (K _ _ rfl) (.cons (K _ _ rfl) (.cons (K _ _ rfl) (.cons (K _ _ rfl) .nil)))),M.less (.refl _),(by simp_all [oneOf])⟩
  have hb29:=h29;replace h29:=of_decide_eq_false h29;refine Qi<|o1 K (QD (b:=[97,108,108]) rfl rfl) rfl fun _ K=>o1 K (Qu rfl) rfl fun _ K=>Q5 ?_;exact⟨_,(.cons (K _ _ rfl) (.cons (K _ _ rfl) (.cons (K _ _ rfl) (.cons (K _ _ rfl) .nil)))),M.less (.refl _),(by simp_all [oneOf])⟩
 obtain⟨b,K,M,hbs14⟩:=hJ;refine Qj (K.QN rfl) (fun h29=>?_) (fun h29=>?_)
 ·have hb29:=h29;refine Qc 2 K M ?_;intro _ K;refine oQ K M (Wm M.fresh s) rfl rfl fun _ _ K M=>?_;refine oB K (Qb rfl) rfl fun b35 _ e35 K=>?_;cases b35
  ·refine Qc 20 K M ?_;intro _ K;refine Qd ⟨.inr rfl,_,J7 K rfl,?_⟩;refine⟨congrArg AV.bool ?_,M.qt⟩;rw[J0 o s z a l]
   try generalize l.all Jm=q1 at *
   try generalize l.all QL=q2 at *
   try clear M
   try clear ih
   try clear hr
   try clear hr0
   try clear hp
   try clear hn
   try clear hK
   try clear hb
   try clear hc
   try clear hm
   try clear hln
   try clear hbn
   try clear hf
   simp_all [Qo,Jc,hasB,Ap]<;>first|done|rfl|omega|(congr 1;done)|(congr 2;done)|(intros;omega)|skip
  refine Qc 4 K M ?_;intro _ K;refine oB K (Qb rfl) rfl fun b40 _ e40 K=>?_;cases b40
  ·replace e40:=of_decide_eq_false e40;refine Qc 15 K M ?_;intro _ K;refine Qd ⟨.inr rfl,_,J7 K rfl,?_⟩;refine⟨congrArg AV.bool ?_,M.qt⟩;rw[J0 o s z a l]
   try generalize l.all Jm=q1 at *
   try generalize l.all QL=q2 at *
   try clear M
   try clear ih
   try clear hr
   try clear hr0
   try clear hp
   try clear hn
   try clear hK
   try clear hb
   try clear hc
   try clear hm
   try clear hln
   try clear hbn
   try clear hf
   simp_all [Qo,Jc,hasB,Ap]<;>first|done|rfl|omega|(congr 1;done)|(congr 2;done)|(intros;omega)|skip
  replace e40:=of_decide_eq_true e40;refine Qc 4 K M ?_;intro _ K;refine oB K (Qb rfl) rfl fun b45 _ e45 K=>?_;cases b45
  ·replace e45:=of_decide_eq_false e45;refine Qc 10 K M ?_;intro _ K;refine Qd ⟨.inr rfl,_,J7 K rfl,?_⟩;refine⟨congrArg AV.bool ?_,M.qt⟩;rw[J0 o s z a l]
   try generalize l.all Jm=q1 at *
   try generalize l.all QL=q2 at *
   try clear M
   try clear ih
   try clear hr
   try clear hr0
   try clear hp
   try clear hn
   try clear hK
   try clear hb
   try clear hc
   try clear hm
   try clear hln
   try clear hbn
   try clear hf
   simp_all [Qo,Jc,hasB,Ap]<;>first|done|rfl|omega|(congr 1;done)|(congr 2;done)|(intros;omega)|skip
  replace e45:=of_decide_eq_true e45;refine Qc 2 K M ?_;intro _ K;refine og K rfl rfl (QP QK rfl rfl hK.len) rfl fun _ K=>?_;refine Qc 2 K M ?_;intro _ K;refine oB K (Qb rfl) rfl fun b51 _ e51 K=>?_;cases b51
  ·replace e51:=of_decide_eq_false e51;refine Qc 4 K M ?_;intro _ K;refine Qd ⟨.inr rfl,_,J7 K rfl,?_⟩;refine⟨congrArg AV.bool ?_,M.qt⟩;rw[J0 o s z a l]
   try generalize l.all Jm=q1 at *
   try generalize l.all QL=q2 at *
   try clear M
   try clear ih
   try clear hr
   try clear hr0
   try clear hp
   try clear hn
   try clear hK
   try clear hb
   try clear hc
   try clear hm
   try clear hln
   try clear hbn
   try clear hf
   simp_all [Qo,Jc,hasB,Ap]<;>first|done|rfl|omega|(congr 1;done)|(congr 2;done)|(intros;omega)|skip
  replace e51:=of_decide_eq_true e51;refine Qc 1 K M ?_;intro _ K;obtain⟨v53,st53,ev53,rfl,q53⟩:=Hn (p:=Jm) M.fresh (hr0.mono M.rows) (fun k hk st1 cs hf1 hr1=>ih _ hk st1 cs hf1 hr1);refine og K rfl rfl (Qg rfl ev53) rfl fun _ K=>?_;replace M:=M.quiet q53;refine Qc 2 K M ?_;intro _ K;refine Qd ⟨.inr rfl,_,J7 K rfl,?_⟩;refine⟨congrArg AV.bool ?_,M.qt⟩;rw[J0 o s z a l]
  try generalize l.all Jm=q1 at *
  try generalize l.all QL=q2 at *
  try clear M
  try clear ih
  try clear hr
  try clear hr0
  try clear hp
  try clear hn
  try clear hK
  try clear hb
  try clear hc
  try clear hm
  try clear hln
  try clear hbn
  try clear hf
  simp_all [Qo,Jc,hasB,Ap]<;>first|done|rfl|omega|(congr 1;done)|(congr 2;done)|(intros;omega)|skip
 have hb29:=h29;refine Qw<|Qi<|o1 K (QD (b:=[105,115]) rfl rfl) rfl fun _ K=>?_;refine Qc 1 K M ?_;intro _ K;refine YX K rfl (fun h55=>?_) fun h55=>?_
 ·refine Qc 2 K M ?_;intro _ K;refine oQ K M (Wm M.fresh s) rfl rfl fun _ _ K M=>?_;refine oB K (Qb rfl) rfl fun b60 _ e60 K=>?_;cases b60
  ·refine Qc 11 K M ?_;intro _ K;refine Qd ⟨.inr rfl,_,J7 K rfl,?_⟩;refine⟨congrArg AV.bool ?_,M.qt⟩;rw[J0 o s z a l]
   try generalize l.all Jm=q1 at *
   try generalize l.all QL=q2 at *
   try clear M
   try clear ih
   try clear hr
   try clear hr0
   try clear hp
   try clear hn
   try clear hK
   try clear hb
   try clear hc
   try clear hm
   try clear hln
   try clear hbn
   try clear hf
   simp_all [Qo,Jc,hasB,Ap]<;>first|done|rfl|omega|(congr 1;done)|(congr 2;done)|(intros;omega)|skip
  refine Qc 4 K M ?_;intro _ K;refine oB K (Qb rfl) rfl fun b65 _ e65 K=>?_;cases b65
  ·replace e65:=of_decide_eq_false e65;refine Qc 6 K M ?_;intro _ K;refine Qd ⟨.inr rfl,_,J7 K rfl,?_⟩;refine⟨congrArg AV.bool ?_,M.qt⟩;rw[J0 o s z a l]
   try generalize l.all Jm=q1 at *
   try generalize l.all QL=q2 at *
   try clear M
   try clear ih
   try clear hr
   try clear hr0
   try clear hp
   try clear hn
   try clear hK
   try clear hb
   try clear hc
   try clear hm
   try clear hln
   try clear hbn
   try clear hf
   simp_all [Qo,Jc,hasB,Ap]<;>first|done|rfl|omega|(congr 1;done)|(congr 2;done)|(intros;omega)|skip
  replace e65:=of_decide_eq_true e65;refine Qc 2 K M ?_;intro _ K;refine og K rfl rfl (QP QK rfl rfl hK.len) rfl fun _ K=>?_;refine Qc 3 K M ?_;intro _ K;refine Qd ⟨.inr rfl,_,J7 K rfl,?_⟩;refine⟨congrArg AV.bool ?_,M.qt⟩;rw[J0 o s z a l]
  try generalize l.all Jm=q1 at *
  try generalize l.all QL=q2 at *
  try clear M
  try clear ih
  try clear hr
  try clear hr0
  try clear hp
  try clear hn
  try clear hK
  try clear hb
  try clear hc
  try clear hm
  try clear hln
  try clear hbn
  try clear hf
  simp_all [Qo,Jc,hasB,Ap]<;>first|done|rfl|omega|(congr 1;done)|(congr 2;done)|(intros;omega)|skip
 refine X7 (J:=fun T st9=> ∃(b:Bool),Jk [(1,.ptr c1 0 0),(2,.bool false),(4,.str o),(71,.bool b)] T∧Mem st.h.get st.n [] st9 [(c1,0,[.str o,.str s,.int .i64 z,.int .i64 a,kk])]∧b=oneOf o [[101,113],[110,101],[108,116],[108,101],[105,110],[110,111,116,105,110],[115,117,98]]) ?_ (fun T st9 hJ=>?_)
 ·refine Qw<|Qi<|o1 K (QD (b:=[101,113]) rfl rfl) rfl fun _ K=>?_;refine Qc 1 K M ?_;intro _ K;refine Qj (K.QN rfl) (fun h71=>?_) (fun h71=>?_)
  ·have hb71:=h71;replace h71:=of_decide_eq_true h71;refine QO ?_;exact⟨_,(.cons (K _ _ rfl) (.cons (K _ _ rfl) (.cons (K _ _ rfl) (.cons (K _ _ rfl) .nil)))),M.less (.refl _),(by simp_all [oneOf])⟩
  have hb71:=h71;replace h71:=of_decide_eq_false h71;refine Qw<|Qi<|o1 K (QD (b:=[110,101]) rfl rfl) rfl fun _ K=>?_;refine Qc 1 K M ?_;intro _ K;refine Qj (K.QN rfl) (fun h71=>?_) (fun h71=>?_)
  ·have hb71:=h71;replace h71:=of_decide_eq_true h71;refine QO ?_;exact⟨_,(.cons (K _ _ rfl) (.cons (K _ _ rfl) (.cons (K _ _ rfl) (.cons (K _ _ rfl) .nil)))),M.less (.refl _),(by simp_all [oneOf])⟩
  have hb71:=h71;replace h71:=of_decide_eq_false h71;refine Qw<|Qi<|o1 K (QD (b:=[108,116]) rfl rfl) rfl fun _ K=>?_;refine Qc 1 K M ?_;intro _ K;refine Qj (K.QN rfl) (fun h71=>?_) (fun h71=>?_)
  ·have hb71:=h71;replace h71:=of_decide_eq_true h71;refine QO ?_;exact⟨_,(.cons (K _ _ rfl) (.cons (K _ _ rfl) (.cons (K _ _ rfl) (.cons (K _ _ rfl) .nil)))),M.less (.refl _),(by simp_all [oneOf])⟩
  have hb71:=h71;replace h71:=of_decide_eq_false h71;refine Qw<|Qi<|o1 K (QD (b:=[108,101]) rfl rfl) rfl fun _ K=>?_;refine Qc 1 K M ?_;intro _ K;refine Qj (K.QN rfl) (fun h71=>?_) (fun h71=>?_)
  ·have hb71:=h71;replace h71:=of_decide_eq_true h71;refine QO ?_;exact⟨_,(.cons (K _ _ rfl) (.cons (K _ _ rfl) (.cons (K _ _ rfl) (.cons (K _ _ rfl) .nil)))),M.less (.refl _),(by simp_all [oneOf])⟩
  have hb71:=h71;replace h71:=of_decide_eq_false h71;refine Qw<|Qi<|o1 K (QD (b:=[105,110]) rfl rfl) rfl fun _ K=>?_;refine Qc 1 K M ?_;intro _ K;refine Qj (K.QN rfl) (fun h71=>?_) (fun h71=>?_)
  ·have hb71:=h71;replace h71:=of_decide_eq_true h71;refine QO ?_;exact⟨_,(.cons (K _ _ rfl) (.cons (K _ _ rfl) (.cons (K _ _ rfl) (.cons (K _ _ rfl) .nil)))),M.less (.refl _),(by simp_all [oneOf])⟩
  have hb71:=h71;replace h71:=of_decide_eq_false h71;refine Qw<|Qi<|o1 K (QD (b:=[110,111,116,105,110]) rfl rfl) rfl fun _ K=>?_;refine Qc 1 K M ?_;intro _ K;refine Qj (K.QN rfl) (fun h71=>?_) (fun h71=>?_)
  ·have hb71:=h71;replace h71:=of_decide_eq_true h71;refine QO ?_;exact⟨_,(.cons (K _ _ rfl) (.cons (K _ _ rfl) (.cons (K _ _ rfl) (.cons (K _ _ rfl) .nil)))),M.less (.refl _),(by simp_all [oneOf])⟩
  have hb71:=h71;replace h71:=of_decide_eq_false h71;refine Qi<|o1 K (QD (b:=[115,117,98]) rfl rfl) rfl fun _ K=>o1 K (Qu rfl) rfl fun _ K=>Q5 ?_;exact⟨_,(.cons (K _ _ rfl) (.cons (K _ _ rfl) (.cons (K _ _ rfl) (.cons (K _ _ rfl) .nil)))),M.less (.refl _),(by simp_all [oneOf])⟩
 obtain⟨b,K,M,hbs24⟩:=hJ;refine Qj (K.QN rfl) (fun h71=>?_) (fun h71=>?_)
 ·have hb71:=h71;refine Qc 1 K M ?_;intro _ K;refine oQ K M (Ik M.fresh (hr0.mono M.rows) 2) rfl rfl fun _ _ K M=>?_;refine oB K (Qb rfl) rfl fun b81 _ e81 K=>?_;cases b81
  ·refine Qc 4 K M ?_;intro _ K;refine Qd ⟨.inr rfl,_,J7 K rfl,?_⟩;refine⟨congrArg AV.bool ?_,M.qt⟩;rw[J0 o s z a l]
   try generalize l.all Jm=q1 at *
   try generalize l.all QL=q2 at *
   try clear M
   try clear ih
   try clear hr
   try clear hr0
   try clear hp
   try clear hn
   try clear hK
   try clear hb
   try clear hc
   try clear hm
   try clear hln
   try clear hbn
   try clear hf
   simp_all [Qo,Jc,hasB,Ap]<;>first|done|rfl|omega|(congr 1;done)|(congr 2;done)|(intros;omega)|skip
  refine Qc 1 K M ?_;intro _ K;obtain⟨v83,st83,ev83,rfl,q83⟩:=Hn (p:=QL) M.fresh (hr0.mono M.rows) (fun k hk st1 cs hf1 hr1=>Oa k st1 cs hf1 hr1);refine og K rfl rfl (Qg rfl ev83) rfl fun _ K=>?_;replace M:=M.quiet q83;refine Qc 2 K M ?_;intro _ K;refine Qd ⟨.inr rfl,_,J7 K rfl,?_⟩;refine⟨congrArg AV.bool ?_,M.qt⟩;rw[J0 o s z a l]
  try generalize l.all Jm=q1 at *
  try generalize l.all QL=q2 at *
  try clear M
  try clear ih
  try clear hr
  try clear hr0
  try clear hp
  try clear hn
  try clear hK
  try clear hb
  try clear hc
  try clear hm
  try clear hln
  try clear hbn
  try clear hf
  simp_all [Qo,Jc,hasB,Ap]<;>first|done|rfl|omega|(congr 1;done)|(congr 2;done)|(intros;omega)|skip
 have hb71:=h71;refine Qw<|Qi<|o1 K (QD (b:=[99,97,108,108]) rfl rfl) rfl fun _ K=>?_;refine Qc 1 K M ?_;intro _ K;refine YX K rfl (fun h85=>?_) fun h85=>?_
 ·refine Qc 2 K M ?_;intro _ K;refine oQ K M (Wm M.fresh s) rfl rfl fun _ _ K M=>?_;refine oB K (Qb rfl) rfl fun b90 _ e90 K=>?_;cases b90
  ·refine Qc 15 K M ?_;intro _ K;refine Qd ⟨.inr rfl,_,J7 K rfl,?_⟩;refine⟨congrArg AV.bool ?_,M.qt⟩;rw[J0 o s z a l]
   try generalize l.all Jm=q1 at *
   try generalize l.all QL=q2 at *
   try clear M
   try clear ih
   try clear hr
   try clear hr0
   try clear hp
   try clear hn
   try clear hK
   try clear hb
   try clear hc
   try clear hm
   try clear hln
   try clear hbn
   try clear hf
   simp_all [Qo,Jc,hasB,Ap]<;>first|done|rfl|omega|(congr 1;done)|(congr 2;done)|(intros;omega)|skip
  refine Qc 4 K M ?_;intro _ K;refine oB K (Qb rfl) rfl fun b95 _ e95 K=>?_;cases b95
  ·replace e95:=of_decide_eq_false e95;refine Qc 10 K M ?_;intro _ K;refine Qd ⟨.inr rfl,_,J7 K rfl,?_⟩;refine⟨congrArg AV.bool ?_,M.qt⟩;rw[J0 o s z a l]
   try generalize l.all Jm=q1 at *
   try generalize l.all QL=q2 at *
   try clear M
   try clear ih
   try clear hr
   try clear hr0
   try clear hp
   try clear hn
   try clear hK
   try clear hb
   try clear hc
   try clear hm
   try clear hln
   try clear hbn
   try clear hf
   simp_all [Qo,Jc,hasB,Ap]<;>first|done|rfl|omega|(congr 1;done)|(congr 2;done)|(intros;omega)|skip
  replace e95:=of_decide_eq_true e95;refine Qc 2 K M ?_;intro _ K;refine og K rfl rfl (QP QK rfl rfl hK.len) rfl fun _ K=>?_;refine Qc 2 K M ?_;intro _ K;refine oB K (Qb rfl) rfl fun b101 _ e101 K=>?_;cases b101
  ·replace e101:=of_decide_eq_false e101;refine Qc 4 K M ?_;intro _ K;refine Qd ⟨.inr rfl,_,J7 K rfl,?_⟩;refine⟨congrArg AV.bool ?_,M.qt⟩;rw[J0 o s z a l]
   try generalize l.all Jm=q1 at *
   try generalize l.all QL=q2 at *
   try clear M
   try clear ih
   try clear hr
   try clear hr0
   try clear hp
   try clear hn
   try clear hK
   try clear hb
   try clear hc
   try clear hm
   try clear hln
   try clear hbn
   try clear hf
   simp_all [Qo,Jc,hasB,Ap]<;>first|done|rfl|omega|(congr 1;done)|(congr 2;done)|(intros;omega)|skip
  replace e101:=of_decide_eq_true e101;refine Qc 1 K M ?_;intro _ K;obtain⟨v103,st103,ev103,rfl,q103⟩:=Hn (p:=QL) M.fresh (hr0.mono M.rows) (fun k hk st1 cs hf1 hr1=>Oa k st1 cs hf1 hr1);refine og K rfl rfl (Qg rfl ev103) rfl fun _ K=>?_;replace M:=M.quiet q103;refine Qc 2 K M ?_;intro _ K;refine Qd ⟨.inr rfl,_,J7 K rfl,?_⟩;refine⟨congrArg AV.bool ?_,M.qt⟩;rw[J0 o s z a l]
  try generalize l.all Jm=q1 at *
  try generalize l.all QL=q2 at *
  try clear M
  try clear ih
  try clear hr
  try clear hr0
  try clear hp
  try clear hn
  try clear hK
  try clear hb
  try clear hc
  try clear hm
  try clear hln
  try clear hbn
  try clear hf
  simp_all [Qo,Jc,hasB,Ap]<;>first|done|rfl|omega|(congr 1;done)|(congr 2;done)|(intros;omega)|skip
 refine Qc 1 K M ?_;intro _ K;refine Qd ⟨.inr rfl,_,J7 K rfl,?_⟩;refine⟨congrArg AV.bool ?_,M.qt⟩;rw[J0 o s z a l]
 try generalize l.all Jm=q1 at *
 try generalize l.all QL=q2 at *
 try clear M
 try clear ih
 try clear hr
 try clear hr0
 try clear hp
 try clear hn
 try clear hK
 try clear hb
 try clear hc
 try clear hm
 try clear hln
 try clear hbn
 try clear hf
 simp_all [Qo,Jc,hasB,Ap]<;>first|done|rfl|omega|(congr 1;done)|(congr 2;done)|(intros;omega)|skip

theorem Fg{o s:List Nat}{z a:Int}{l:List Nd}{st:St}{cs:List AV}(hf:Q3 st)(hr:YW st.h.get (.mk o s z a l) cs)(hC: ∀(k:Nd),k∈l→ ∀(st1:St) (cs:List AV),Q3 st1→YW st1.h.get k cs→ ∃v st',Ev Tryz.prog Jg 176 [.agg cs] st1 v st'∧v=.bool (QL k)∧Qt st1 st'): ∃v st',Ev Tryz.prog Jg 120 [.agg cs] st v st'∧v=.bool (l.all QL)∧Qt st st':=by
 have hr0:=hr;obtain⟨kk,ls,rfl,hK,hb⟩:=hr.Ju;have hln:=hK.ln;have hbn:=hK.Yx;refine QG rfl Tryz.func120 rfl Tryz.ntmps120 rfl fun T hT=>?_;have K:Jk [(0,_)] T:=(.cons (hT 0) .nil);have M:=Mem.start hf;refine Qw<|Qi ?_;refine JL K M rfl (Qa rfl (Qa rfl (Qa rfl (Qa rfl (Qa hK.cell QE))))) (by decide) fun c1 _ _ K M=>?_;refine Qc 2 K M ?_;intro _ K;refine JX (fun mm1 T st9=> ∃(i:Nat),mm1=l.length-i∧Jk [(1,.ptr c1 0 0),(3,.int .i64 (((i:Nat):Int)))] T∧Mem st.h.get st.n [] st9 [(c1,0,[.str o,.str s,.int .i64 z,.int .i64 a,kk])]∧i≤l.length∧l.all QL=(l.drop i).all QL) (fun mm1 T st9 hI=>?_) _ _ _ ⟨0,rfl,(.cons (K _ _ rfl) (.cons (K _ _ rfl) .nil)),M.less (.refl _),(Nat.zero_le _),(by rw[List.drop_zero])⟩;obtain⟨i,rfl,K,M,hi,hx⟩:=hI;refine Qc 3 K M ?_;intro _ K;refine o1 K (QP QK rfl rfl hK.len) rfl fun _ K=>?_;refine Qc 1 K M ?_;intro _ K;refine YX K rfl (fun h8=>?_) fun h8=>?_
 ·refine Qc 3 K M ?_;intro _ K;obtain⟨⟨o14,s14,z14,a14,l14⟩,hi14⟩: ∃k,l[i]? =some k:=⟨_,List.getElem?_eq_getElem (by first|omega|(have:=Jo (m:=1) (l:=l) (by assumption);omega)|(have:=Jo (m:=2) (l:=l) (by assumption);omega)|(have:=Jx (m:=1) (l:=l) (by assumption);omega))⟩;have hm14:=Ub hi14;obtain⟨_,hc14,hn14⟩:=hK.at_ _ _ hi14;have hp14:=hn14;obtain⟨kk14,ls14,rfl,hK14,hb14⟩:=hp14.Ju;obtain⟨x14,m14,f14,q14,_,la14,lo14,lp14⟩:=(hK.r.mem M (by simp)).load (i:=i) (cs:=_) hc14;refine o1 K (Qn (j:=i) QW (congrArg some q14) rfl (by rw[hK.ln];first|omega|(have:=Jo (m:=1) (l:=l) (by assumption);omega)|(have:=Jo (m:=2) (l:=l) (by assumption);omega)|(have:=Jx (m:=1) (l:=l) (by assumption);omega))) rfl fun _ K=>o1 K (Qq rfl (la14 _ Q8)) rfl fun _ K=>?_;refine oQ K M (hC _ hm14 _ _ M.fresh (hn14.mono M.rows)) rfl rfl fun _ _ K M=>?_;refine Qc 1 K M ?_;intro _ K;refine Qj (K.QN rfl) (fun h17=>?_) (fun h17=>?_)
  ·have hb17:=h17
   replace h17:(QL (.mk o14 s14 z14 a14 l14))=false:=by simpa using h17
   refine Qc 1 K M ?_;intro _ K;refine Qd ⟨.inr rfl,_,J7 K rfl,?_⟩;exact⟨by rw[hx,Ip hi14];simp[h17],M.qt⟩
  have hb17:=h17
  replace h17:(QL (.mk o14 s14 z14 a14 l14))=true:=by simpa using h17
  refine Qc 1 K M ?_;intro _ K;refine o1 K (QV rfl rfl (by omega) (by omega)) rfl fun _ K=>o1 K (Qu rfl) rfl fun _ K=>Q5 ?_;exact⟨_,(by omega),i+1,rfl,(.cons (K _ _ rfl) (.cons (K _ _ rfl) .nil)),M.less (.refl _),(by omega),(by rw[hx,Ip hi14];simp[h17])⟩
 refine JJ ?_;show W _ _ _ _ _ _ _;refine Qc 1 K M ?_;intro _ K;refine Qd ⟨.inr rfl,_,J7 K rfl,?_⟩;exact⟨by rw[hx,Jh (by omega)];rfl,M.qt⟩

theorem I5{o s:List Nat}{z a:Int}{l:List Nd}{st:St}{cs:List AV}(hf:Q3 st)(hr:YW st.h.get (.mk o s z a l) cs)(hC: ∀(k:Nd),k∈l→ ∀(st1:St) (cs:List AV),Q3 st1→YW st1.h.get k cs→ ∃v st',Ev Tryz.prog Jg 67 [.agg cs] st1 v st'∧v=.bool (Jm k)∧Qt st1 st'): ∃v st',Ev Tryz.prog Jg 119 [.agg cs] st v st'∧v=.bool (l.all Jm)∧Qt st st':=by
 have hr0:=hr;obtain⟨kk,ls,rfl,hK,hb⟩:=hr.Ju;have hln:=hK.ln;have hbn:=hK.Yx;refine QG rfl Tryz.func119 rfl Tryz.ntmps119 rfl fun T hT=>?_;have K:Jk [(0,_)] T:=(.cons (hT 0) .nil);have M:=Mem.start hf;refine Qw<|Qi ?_;refine JL K M rfl (Qa rfl (Qa rfl (Qa rfl (Qa rfl (Qa hK.cell QE))))) (by decide) fun c1 _ _ K M=>?_;refine Qc 2 K M ?_;intro _ K;refine JX (fun mm1 T st9=> ∃(i:Nat),mm1=l.length-i∧Jk [(1,.ptr c1 0 0),(3,.int .i64 (((i:Nat):Int)))] T∧Mem st.h.get st.n [] st9 [(c1,0,[.str o,.str s,.int .i64 z,.int .i64 a,kk])]∧i≤l.length∧l.all Jm=(l.drop i).all Jm) (fun mm1 T st9 hI=>?_) _ _ _ ⟨0,rfl,(.cons (K _ _ rfl) (.cons (K _ _ rfl) .nil)),M.less (.refl _),(Nat.zero_le _),(by rw[List.drop_zero])⟩;obtain⟨i,rfl,K,M,hi,hx⟩:=hI;refine Qc 3 K M ?_;intro _ K;refine o1 K (QP QK rfl rfl hK.len) rfl fun _ K=>?_;refine Qc 1 K M ?_;intro _ K;refine YX K rfl (fun h8=>?_) fun h8=>?_
 ·refine Qc 3 K M ?_;intro _ K;obtain⟨⟨o14,s14,z14,a14,l14⟩,hi14⟩: ∃k,l[i]? =some k:=⟨_,List.getElem?_eq_getElem (by first|omega|(have:=Jo (m:=1) (l:=l) (by assumption);omega)|(have:=Jo (m:=2) (l:=l) (by assumption);omega)|(have:=Jx (m:=1) (l:=l) (by assumption);omega))⟩;have hm14:=Ub hi14;obtain⟨_,hc14,hn14⟩:=hK.at_ _ _ hi14;have hp14:=hn14;obtain⟨kk14,ls14,rfl,hK14,hb14⟩:=hp14.Ju;obtain⟨x14,m14,f14,q14,_,la14,lo14,lp14⟩:=(hK.r.mem M (by simp)).load (i:=i) (cs:=_) hc14;refine o1 K (Qn (j:=i) QW (congrArg some q14) rfl (by rw[hK.ln];first|omega|(have:=Jo (m:=1) (l:=l) (by assumption);omega)|(have:=Jo (m:=2) (l:=l) (by assumption);omega)|(have:=Jx (m:=1) (l:=l) (by assumption);omega))) rfl fun _ K=>o1 K (Qq rfl (la14 _ Q8)) rfl fun _ K=>?_;refine oQ K M (hC _ hm14 _ _ M.fresh (hn14.mono M.rows)) rfl rfl fun _ _ K M=>?_;refine Qc 1 K M ?_;intro _ K;refine Qj (K.QN rfl) (fun h17=>?_) (fun h17=>?_)
  ·have hb17:=h17
   replace h17:(Jm (.mk o14 s14 z14 a14 l14))=false:=by simpa using h17
   refine Qc 1 K M ?_;intro _ K;refine Qd ⟨.inr rfl,_,J7 K rfl,?_⟩;exact⟨by rw[hx,Ip hi14];simp[h17],M.qt⟩
  have hb17:=h17
  replace h17:(Jm (.mk o14 s14 z14 a14 l14))=true:=by simpa using h17
  refine Qc 1 K M ?_;intro _ K;refine o1 K (QV rfl rfl (by omega) (by omega)) rfl fun _ K=>o1 K (Qu rfl) rfl fun _ K=>Q5 ?_;exact⟨_,(by omega),i+1,rfl,(.cons (K _ _ rfl) (.cons (K _ _ rfl) .nil)),M.less (.refl _),(by omega),(by rw[hx,Ip hi14];simp[h17])⟩
 refine JJ ?_;show W _ _ _ _ _ _ _;refine Qc 1 K M ?_;intro _ K;refine Qd ⟨.inr rfl,_,J7 K rfl,?_⟩;exact⟨by rw[hx,Jh (by omega)];rfl,M.qt⟩

theorem GD(x:Nd): ∀(st:St) (cs:List AV),Q3 st→YW st.h.get x cs→ ∃v st',Ev Tryz.prog Jg 176 [.agg cs] st v st'∧v=.bool (QL x)∧Qt st st':=by
 refine VJ (M:=fun x=> ∀(st:St) (cs:List AV),Q3 st→YW st.h.get x cs→ ∃v st',Ev Tryz.prog Jg 176 [.agg cs] st v st'∧v=.bool (QL x)∧Qt st st') (fun o s z a l ih=>?_) x;intro st cs hf hr;have hr0:=hr;obtain⟨kk,ls,rfl,hK,hb⟩:=hr.Ju;have hln:=hK.ln;have hbn:=hK.Yx;refine QG rfl Tryz.func176 rfl Tryz.ntmps176 rfl fun T hT=>?_;have K:Jk [(0,_)] T:=(.cons (hT 0) .nil);have M:=Mem.start hf;refine Qw<|Qi ?_;refine JL K M rfl (Qa rfl (Qa rfl (Qa rfl (Qa rfl (Qa hK.cell QE))))) (by decide) fun c1 _ _ K M=>?_;refine Qc 3 K M ?_;intro _ K;refine o1 K (QD (b:=[118,97,114]) rfl rfl) rfl fun _ K=>?_;refine Qc 1 K M ?_;intro _ K;refine YX K rfl (fun h6=>?_) fun h6=>?_
 ·refine Qc 1 K M ?_;intro _ K;obtain⟨v9,st9,ev9,rfl,q9⟩:=VM M.fresh (hr0.mono M.rows) 0 true false;refine o1 K (Qg rfl ev9) rfl fun _ K=>?_;replace M:=M.quiet q9;refine Qc 1 K M ?_;intro _ K;refine Qd ⟨.inr rfl,_,J7 K rfl,?_⟩;refine⟨congrArg AV.bool ?_,M.qt⟩;rw[Jy o s z a l,Yc l]
  try generalize l.all QL=q1 at *
  try generalize hq:l.any Zc=q2 at *
  try(have hq2:q2=true:=by rw[hx,UX hi65,Zc];simp_all [Nd.op,Uv])
  try(have hq2:q2=false:=by rw[hx,Jh (by omega)];rfl)
  try clear hx
  try clear hq
  try clear M
  try clear ih
  try clear hr
  try clear hr0
  try clear hp
  try clear hn
  try clear hK
  try clear hb
  try clear hc
  try clear hm
  try clear hln
  try clear hbn
  try clear hf
  try(obtain hk:=JI (Jx (by assumption)) (by assumption);subst hk)
  try simp only[Ux,Uy,Uz,Uw]at *
  simp_all [Qo,YK,Zd,U9,Uv,Jv,Jc,Nd.op]<;>first|done|rfl|omega|(congr 1;done)|(congr 2;done)|(intros;omega)|(intros;simp_all;done)
 refine Qw<|Qi<|o1 K (QD (b:=[110,117,109]) rfl rfl) rfl fun _ K=>?_;refine Qc 1 K M ?_;intro _ K;refine YX K rfl (fun h10=>?_) fun h10=>?_
 ·refine Qc 1 K M ?_;intro _ K;refine oQ K M (VM M.fresh (hr0.mono M.rows) 0 false true) rfl rfl fun _ _ K M=>?_;refine oB K (Qb rfl) rfl fun b14 _ e14 K=>?_;cases b14
  ·refine Qc 10 K M ?_;intro _ K;refine Qd ⟨.inr rfl,_,J7 K rfl,?_⟩;refine⟨congrArg AV.bool ?_,M.qt⟩;rw[Jy o s z a l,Yc l]
   try generalize l.all QL=q1 at *
   try generalize hq:l.any Zc=q2 at *
   try(have hq2:q2=true:=by rw[hx,UX hi65,Zc];simp_all [Nd.op,Uv])
   try(have hq2:q2=false:=by rw[hx,Jh (by omega)];rfl)
   try clear hx
   try clear hq
   try clear M
   try clear ih
   try clear hr
   try clear hr0
   try clear hp
   try clear hn
   try clear hK
   try clear hb
   try clear hc
   try clear hm
   try clear hln
   try clear hbn
   try clear hf
   try(obtain hk:=JI (Jx (by assumption)) (by assumption);subst hk)
   try simp only[Ux,Uy,Uz,Uw]at *
   simp_all [Qo,YK,Zd,U9,Uv,Jv,Jc,Nd.op]<;>first|done|rfl|omega|(congr 1;done)|(congr 2;done)|(intros;omega)|(intros;simp_all;done)
  refine Qc 4 K M ?_;intro _ K;refine oB K (Qb rfl) rfl fun b19 _ e19 K=>?_;cases b19
  ·replace e19:=of_decide_eq_false e19;refine Qc 5 K M ?_;intro _ K;refine Qd ⟨.inr rfl,_,J7 K rfl,?_⟩;refine⟨congrArg AV.bool ?_,M.qt⟩;rw[Jy o s z a l,Yc l]
   try generalize l.all QL=q1 at *
   try generalize hq:l.any Zc=q2 at *
   try(have hq2:q2=true:=by rw[hx,UX hi65,Zc];simp_all [Nd.op,Uv])
   try(have hq2:q2=false:=by rw[hx,Jh (by omega)];rfl)
   try clear hx
   try clear hq
   try clear M
   try clear ih
   try clear hr
   try clear hr0
   try clear hp
   try clear hn
   try clear hK
   try clear hb
   try clear hc
   try clear hm
   try clear hln
   try clear hbn
   try clear hf
   try(obtain hk:=JI (Jx (by assumption)) (by assumption);subst hk)
   try simp only[Ux,Uy,Uz,Uw]at *
   simp_all [Qo,YK,Zd,U9,Uv,Jv,Jc,Nd.op]<;>first|done|rfl|omega|(congr 1;done)|(congr 2;done)|(intros;omega)|(intros;simp_all;done)
  replace e19:=of_decide_eq_true e19;refine Qc 5 K M ?_;intro _ K;refine Qd ⟨.inr rfl,_,J7 K rfl,?_⟩;refine⟨congrArg AV.bool ?_,M.qt⟩;rw[Jy o s z a l,Yc l]
  try generalize l.all QL=q1 at *
  try generalize hq:l.any Zc=q2 at *
  try(have hq2:q2=true:=by rw[hx,UX hi65,Zc];simp_all [Nd.op,Uv])
  try(have hq2:q2=false:=by rw[hx,Jh (by omega)];rfl)
  try clear hx
  try clear hq
  try clear M
  try clear ih
  try clear hr
  try clear hr0
  try clear hp
  try clear hn
  try clear hK
  try clear hb
  try clear hc
  try clear hm
  try clear hln
  try clear hbn
  try clear hf
  try(obtain hk:=JI (Jx (by assumption)) (by assumption);subst hk)
  try simp only[Ux,Uy,Uz,Uw]at *
  simp_all [Qo,YK,Zd,U9,Uv,Jv,Jc,Nd.op]<;>first|done|rfl|omega|(congr 1;done)|(congr 2;done)|(intros;omega)|(intros;simp_all;done)
 refine Qw<|Qi<|o1 K (QD (b:=[112,108,117,115]) rfl rfl) rfl fun _ K=>?_;refine Qc 1 K M ?_;intro _ K;refine YX K rfl (fun h24=>?_) fun h24=>?_
 ·refine Qc 1 K M ?_;intro _ K;refine oQ K M (VM M.fresh (hr0.mono M.rows) 1 false true) rfl rfl fun _ _ K M=>?_;refine oB K (Qb rfl) rfl fun b28 _ e28 K=>?_;cases b28
  ·refine Qc 25 K M ?_;intro _ K;refine Qd ⟨.inr rfl,_,J7 K rfl,?_⟩;refine⟨congrArg AV.bool ?_,M.qt⟩;rw[Jy o s z a l,Yc l]
   try generalize l.all QL=q1 at *
   try generalize hq:l.any Zc=q2 at *
   try(have hq2:q2=true:=by rw[hx,UX hi65,Zc];simp_all [Nd.op,Uv])
   try(have hq2:q2=false:=by rw[hx,Jh (by omega)];rfl)
   try clear hx
   try clear hq
   try clear M
   try clear ih
   try clear hr
   try clear hr0
   try clear hp
   try clear hn
   try clear hK
   try clear hb
   try clear hc
   try clear hm
   try clear hln
   try clear hbn
   try clear hf
   try(obtain hk:=JI (Jx (by assumption)) (by assumption);subst hk)
   try simp only[Ux,Uy,Uz,Uw]at *
   simp_all [Qo,YK,Zd,U9,Uv,Jv,Jc,Nd.op]<;>first|done|rfl|omega|(congr 1;done)|(congr 2;done)|(intros;omega)|(intros;simp_all;done)
  refine Qc 4 K M ?_;intro _ K;refine oB K (Qb rfl) rfl fun b33 _ e33 K=>?_;cases b33
  ·replace e33:=of_decide_eq_false e33;refine Qc 20 K M ?_;intro _ K;refine Qd ⟨.inr rfl,_,J7 K rfl,?_⟩;refine⟨congrArg AV.bool ?_,M.qt⟩;rw[Jy o s z a l,Yc l]
   try generalize l.all QL=q1 at *
   try generalize hq:l.any Zc=q2 at *
   try(have hq2:q2=true:=by rw[hx,UX hi65,Zc];simp_all [Nd.op,Uv])
   try(have hq2:q2=false:=by rw[hx,Jh (by omega)];rfl)
   try clear hx
   try clear hq
   try clear M
   try clear ih
   try clear hr
   try clear hr0
   try clear hp
   try clear hn
   try clear hK
   try clear hb
   try clear hc
   try clear hm
   try clear hln
   try clear hbn
   try clear hf
   try(obtain hk:=JI (Jx (by assumption)) (by assumption);subst hk)
   try simp only[Ux,Uy,Uz,Uw]at *
   simp_all [Qo,YK,Zd,U9,Uv,Jv,Jc,Nd.op]<;>first|done|rfl|omega|(congr 1;done)|(congr 2;done)|(intros;omega)|(intros;simp_all;done)
  replace e33:=of_decide_eq_true e33;refine Qc 4 K M ?_;intro _ K;refine oB K (Qb rfl) rfl fun b38 _ e38 K=>?_;cases b38
  ·replace e38:=of_decide_eq_false e38;refine Qc 15 K M ?_;intro _ K;refine Qd ⟨.inr rfl,_,J7 K rfl,?_⟩;refine⟨congrArg AV.bool ?_,M.qt⟩;rw[Jy o s z a l,Yc l]
   try generalize l.all QL=q1 at *
   try generalize hq:l.any Zc=q2 at *
   try(have hq2:q2=true:=by rw[hx,UX hi65,Zc];simp_all [Nd.op,Uv])
   try(have hq2:q2=false:=by rw[hx,Jh (by omega)];rfl)
   try clear hx
   try clear hq
   try clear M
   try clear ih
   try clear hr
   try clear hr0
   try clear hp
   try clear hn
   try clear hK
   try clear hb
   try clear hc
   try clear hm
   try clear hln
   try clear hbn
   try clear hf
   try(obtain hk:=JI (Jx (by assumption)) (by assumption);subst hk)
   try simp only[Ux,Uy,Uz,Uw]at *
   simp_all [Qo,YK,Zd,U9,Uv,Jv,Jc,Nd.op]<;>first|done|rfl|omega|(congr 1;done)|(congr 2;done)|(intros;omega)|(intros;simp_all;done)
  replace e38:=of_decide_eq_true e38;refine Qc 2 K M ?_;intro _ K;obtain⟨⟨o41,s41,z41,a41,l41⟩,hi41⟩: ∃k,l[0]? =some k:=⟨_,List.getElem?_eq_getElem (by first|omega|(have:=Jo (m:=1) (l:=l) (by assumption);omega)|(have:=Jo (m:=2) (l:=l) (by assumption);omega)|(have:=Jx (m:=1) (l:=l) (by assumption);omega)|(have:=Jx (m:=2) (l:=l) (by assumption);omega))⟩;have hm41:=Ub hi41;obtain⟨_,hc41,hn41⟩:=hK.at_ _ _ hi41;have hp41:=hn41;obtain⟨kk41,ls41,rfl,hK41,hb41⟩:=hp41.Ju;obtain⟨x41,m41,f41,q41,_,la41,lo41,lp41⟩:=(hK.r.mem M (by simp)).load (i:=0) (cs:=_) hc41;refine og K rfl rfl (Qn (j:=0) QW (congrArg some q41) rfl (by rw[hK.ln];first|omega|(have:=Jo (m:=1) (l:=l) (by assumption);omega)|(have:=Jo (m:=2) (l:=l) (by assumption);omega)|(have:=Jx (m:=1) (l:=l) (by assumption);omega)|(have:=Jx (m:=2) (l:=l) (by assumption);omega))) rfl fun _ K=>?_;refine Qc 1 K M ?_;intro _ K;refine og K rfl rfl (Qq rfl (lo41 _ 0 _ Ji rfl)) rfl fun _ K=>og K rfl rfl (QD (b:=[118,97,114]) rfl rfl) rfl fun _ K=>o1 K (UH rfl rfl rfl) rfl fun _ K=>?_;refine oB K (Qb rfl) rfl fun b46 _ e46 K=>?_;cases b46
  ·replace e46:=of_decide_eq_false e46;refine Qc 7 K M ?_;intro _ K;refine Qd ⟨.inr rfl,_,J7 K rfl,?_⟩;refine⟨congrArg AV.bool ?_,M.qt⟩;rw[Jy o s z a l,Yc l]
   try generalize l.all QL=q1 at *
   try generalize hq:l.any Zc=q2 at *
   try(have hq2:q2=true:=by rw[hx,UX hi65,Zc];simp_all [Nd.op,Uv])
   try(have hq2:q2=false:=by rw[hx,Jh (by omega)];rfl)
   try clear hx
   try clear hq
   try clear M
   try clear ih
   try clear hr
   try clear hr0
   try clear hp
   try clear hn
   try clear hK
   try clear hb
   try clear hc
   try clear hm
   try clear hp41
   try clear hn41
   try clear hK41
   try clear hb41
   try clear hc41
   try clear hm41
   try clear hln
   try clear hbn
   try clear hf
   try(obtain hk:=JI (Jx (by assumption)) (by assumption);subst hk)
   try simp only[Ux,Uy,Uz,Uw]at *
   simp_all [Qo,YK,Zd,U9,Uv,Jv,Jc,Nd.op]<;>first|done|rfl|omega|(congr 1;done)|(congr 2;done)|(intros;omega)|(intros;simp_all;done)
  replace e46:=of_decide_eq_true e46;refine Qc 2 K M ?_;intro _ K;obtain⟨⟨o49,s49,z49,a49,l49⟩,hi49⟩: ∃k,l[0]? =some k:=⟨_,List.getElem?_eq_getElem (by first|omega|(have:=Jo (m:=1) (l:=l) (by assumption);omega)|(have:=Jo (m:=2) (l:=l) (by assumption);omega)|(have:=Jx (m:=1) (l:=l) (by assumption);omega)|(have:=Jx (m:=2) (l:=l) (by assumption);omega))⟩;have hm49:=Ub hi49;obtain⟨_,hc49,hn49⟩:=hK.at_ _ _ hi49;have hp49:=hn49;obtain⟨kk49,ls49,rfl,hK49,hb49⟩:=hp49.Ju;obtain⟨x49,m49,f49,q49,_,la49,lo49,lp49⟩:=(hK.r.mem M (by simp)).load (i:=0) (cs:=_) hc49;refine og K rfl rfl (Qn (j:=0) QW (congrArg some q49) rfl (by rw[hK.ln];first|omega|(have:=Jo (m:=1) (l:=l) (by assumption);omega)|(have:=Jo (m:=2) (l:=l) (by assumption);omega)|(have:=Jx (m:=1) (l:=l) (by assumption);omega)|(have:=Jx (m:=2) (l:=l) (by assumption);omega))) rfl fun _ K=>og K rfl rfl (Qq rfl (la49 _ Q8)) rfl fun _ K=>?_;obtain⟨v51,st51,ev51,rfl,q51⟩:=ih _ (hm49) _ _ M.fresh (hn49.mono M.rows);refine og K rfl rfl (Qg rfl ev51) rfl fun _ K=>?_;replace M:=M.quiet q51;refine Qc 2 K M ?_;intro _ K;refine Qd ⟨.inr rfl,_,J7 K rfl,?_⟩;refine⟨congrArg AV.bool ?_,M.qt⟩;rw[Jy o s z a l,Yc l]
  try generalize l.all QL=q1 at *
  try generalize hq:l.any Zc=q2 at *
  try(have hq2:q2=true:=by rw[hx,UX hi65,Zc];simp_all [Nd.op,Uv])
  try(have hq2:q2=false:=by rw[hx,Jh (by omega)];rfl)
  try clear hx
  try clear hq
  try clear M
  try clear ih
  try clear hr
  try clear hr0
  try clear hp
  try clear hn
  try clear hK
  try clear hb
  try clear hc
  try clear hm
  try clear hp41
  try clear hn41
  try clear hK41
  try clear hb41
  try clear hc41
  try clear hm41
  try clear hp49
  try clear hn49
  try clear hK49
  try clear hb49
  try clear hc49
  try clear hm49
  try clear hln
  try clear hbn
  try clear hf
  try(obtain hk:=JI (Jx (by assumption)) (by assumption);subst hk)
  try simp only[Ux,Uy,Uz,Uw]at *
  simp_all [Qo,YK,Zd,U9,Uv,Jv,Jc,Nd.op]<;>first|done|rfl|omega|(congr 1;done)|(congr 2;done)|(intros;omega)|(intros;simp_all;done)
 refine Qw<|Qi<|o1 K (QD (b:=[115,101,116]) rfl rfl) rfl fun _ K=>?_;refine Qc 1 K M ?_;intro _ K;refine YX K rfl (fun h53=>?_) fun h53=>?_
 ·refine Qc 1 K M ?_;intro _ K;refine JX (fun mm1 T st9=> ∃(i:Nat),mm1=l.length-i∧Jk [(1,.ptr c1 0 0),(3,.int .i64 (((i:Nat):Int)))] T∧Mem st.h.get st.n [] st9 [(c1,0,[.str o,.str s,.int .i64 z,.int .i64 a,kk])]∧i≤l.length∧l.any Zc=(l.drop i).any Zc) (fun mm1 T st9 hI=>?_) _ _ _ ⟨0,rfl,(.cons (K _ _ rfl) (.cons (K _ _ rfl) .nil)),M.less (.refl _),(Nat.zero_le _),(by rw[List.drop_zero])⟩;obtain⟨i,rfl,K,M,hi,hx⟩:=hI;refine Qc 3 K M ?_;intro _ K;refine o1 K (QP QK rfl rfl hK.len) rfl fun _ K=>?_;refine Qc 1 K M ?_;intro _ K;refine YX K rfl (fun h59=>?_) fun h59=>?_
  ·refine Qc 3 K M ?_;intro _ K;obtain⟨⟨o65,s65,z65,a65,l65⟩,hi65⟩: ∃k,l[i]? =some k:=⟨_,List.getElem?_eq_getElem (by first|omega|(have:=Jo (m:=1) (l:=l) (by assumption);omega)|(have:=Jo (m:=2) (l:=l) (by assumption);omega)|(have:=Jx (m:=1) (l:=l) (by assumption);omega)|(have:=Jx (m:=2) (l:=l) (by assumption);omega))⟩;have hm65:=Ub hi65;obtain⟨_,hc65,hn65⟩:=hK.at_ _ _ hi65;have hp65:=hn65;obtain⟨kk65,ls65,rfl,hK65,hb65⟩:=hp65.Ju;obtain⟨x65,m65,f65,q65,_,la65,lo65,lp65⟩:=(hK.r.mem M (by simp)).load (i:=i) (cs:=_) hc65;refine o1 K (Qn (j:=i) QW (congrArg some q65) rfl (by rw[hK.ln];first|omega|(have:=Jo (m:=1) (l:=l) (by assumption);omega)|(have:=Jo (m:=2) (l:=l) (by assumption);omega)|(have:=Jx (m:=1) (l:=l) (by assumption);omega)|(have:=Jx (m:=2) (l:=l) (by assumption);omega))) rfl fun _ K=>o1 K (Qq rfl (la65 _ Q8)) rfl fun _ K=>?_;refine oQ K M (OD M.fresh (hn65.mono M.rows)) rfl rfl fun _ _ K M=>?_;refine oB K (Qb rfl) rfl fun b68 _ e68 K=>?_;cases b68
   ·refine Qc 3 K M ?_;intro _ K;obtain⟨⟨o72,s72,z72,a72,l72⟩,hi72⟩: ∃k,l[i]? =some k:=⟨_,List.getElem?_eq_getElem (by first|omega|(have:=Jo (m:=1) (l:=l) (by assumption);omega)|(have:=Jo (m:=2) (l:=l) (by assumption);omega)|(have:=Jx (m:=1) (l:=l) (by assumption);omega)|(have:=Jx (m:=2) (l:=l) (by assumption);omega))⟩;have hm72:=Ub hi72;obtain⟨_,hc72,hn72⟩:=hK.at_ _ _ hi72;have hp72:=hn72;obtain⟨kk72,ls72,rfl,hK72,hb72⟩:=hp72.Ju;obtain⟨x72,m72,f72,q72,_,la72,lo72,lp72⟩:=(hK.r.mem M (by simp)).load (i:=i) (cs:=_) hc72;refine og K rfl rfl (Qn (j:=i) QW (congrArg some q72) rfl (by rw[hK.ln];first|omega|(have:=Jo (m:=1) (l:=l) (by assumption);omega)|(have:=Jo (m:=2) (l:=l) (by assumption);omega)|(have:=Jx (m:=1) (l:=l) (by assumption);omega)|(have:=Jx (m:=2) (l:=l) (by assumption);omega))) rfl fun _ K=>?_;refine Qc 1 K M ?_;intro _ K;refine og K rfl rfl (Qq rfl (lo72 _ 0 _ Ji rfl)) rfl fun _ K=>og K rfl rfl (QD (b:=[115,101,116]) rfl rfl) rfl fun _ K=>?_;refine Qc 1 K M ?_;intro _ K;refine YX K rfl (fun h76=>?_) fun h76=>?_
    ·refine Qc 1 K M ?_;intro _ K;refine Qd ⟨.inr rfl,_,J7 K rfl,?_⟩;refine⟨congrArg AV.bool ?_,M.qt⟩;rw[Jy o s z a l,Yc l]
     try generalize l.all QL=q1 at *
     try generalize hq:l.any Zc=q2 at *
     try(have hq2:q2=true:=by rw[hx,UX hi65,Zc];simp_all [Nd.op,Uv])
     try(have hq2:q2=false:=by rw[hx,Jh (by omega)];rfl)
     try clear hx
     try clear hq
     try clear M
     try clear ih
     try clear hr
     try clear hr0
     try clear hp
     try clear hn
     try clear hK
     try clear hb
     try clear hc
     try clear hm
     try clear hp65
     try clear hn65
     try clear hK65
     try clear hb65
     try clear hc65
     try clear hm65
     try clear hp72
     try clear hn72
     try clear hK72
     try clear hb72
     try clear hc72
     try clear hm72
     try clear hln
     try clear hbn
     try clear hf
     try(obtain hk:=JI (Jx (by assumption)) (by assumption);subst hk)
     try simp only[Ux,Uy,Uz,Uw]at *
     simp_all [Qo,YK,Zd,U9,Uv,Jv,Jc,Nd.op]<;>first|done|rfl|omega|(congr 1;done)|(congr 2;done)|(intros;omega)|(intros;simp_all;done)
    refine Qc 1 K M ?_;intro _ K;refine o1 K (QV rfl rfl (by omega) (by omega)) rfl fun _ K=>o1 K (Qu rfl) rfl fun _ K=>Q5 ?_;exact⟨_,(by omega),i+1,rfl,(.cons (K _ _ rfl) (.cons (K _ _ rfl) .nil)),M.less (.refl _),(by omega),(by rw[hx,UX hi65,Zc];simp_all [Nd.op,Uv])⟩
   refine Qc 8 K M ?_;intro _ K;refine Qj (t:=true) (K.QN rfl) (fun _=>?_) (fun h=>by cases h);refine Qc 1 K M ?_;intro _ K;refine Qd ⟨.inr rfl,_,J7 K rfl,?_⟩;refine⟨congrArg AV.bool ?_,M.qt⟩;rw[Jy o s z a l,Yc l]
   try generalize l.all QL=q1 at *
   try generalize hq:l.any Zc=q2 at *
   try(have hq2:q2=true:=by rw[hx,UX hi65,Zc];simp_all [Nd.op,Uv])
   try(have hq2:q2=false:=by rw[hx,Jh (by omega)];rfl)
   try clear hx
   try clear hq
   try clear M
   try clear ih
   try clear hr
   try clear hr0
   try clear hp
   try clear hn
   try clear hK
   try clear hb
   try clear hc
   try clear hm
   try clear hp65
   try clear hn65
   try clear hK65
   try clear hb65
   try clear hc65
   try clear hm65
   try clear hln
   try clear hbn
   try clear hf
   try(obtain hk:=JI (Jx (by assumption)) (by assumption);subst hk)
   try simp only[Ux,Uy,Uz,Uw]at *
   simp_all [Qo,YK,Zd,U9,Uv,Jv,Jc,Nd.op]<;>first|done|rfl|omega|(congr 1;done)|(congr 2;done)|(intros;omega)|(intros;simp_all;done)
  refine JJ ?_;show W _ _ _ _ _ _ _;refine Qc 3 K M ?_;intro _ K;refine o1 K (QP QK rfl rfl hK.len) rfl fun _ K=>?_;refine oQ K M (VM M.fresh (hr0.mono M.rows) (((l.length:Nat):Int)) false false) rfl rfl fun _ _ K M=>?_;refine oB K (Qb rfl) rfl fun b82 _ e82 K=>?_;cases b82
  ·refine Qc 10 K M ?_;intro _ K;refine Qd ⟨.inr rfl,_,J7 K rfl,?_⟩;refine⟨congrArg AV.bool ?_,M.qt⟩;rw[Jy o s z a l,Yc l]
   try generalize l.all QL=q1 at *
   try generalize hq:l.any Zc=q2 at *
   try(have hq2:q2=true:=by rw[hx,UX hi65,Zc];simp_all [Nd.op,Uv])
   try(have hq2:q2=false:=by rw[hx,Jh (by omega)];rfl)
   try clear hx
   try clear hq
   try clear M
   try clear ih
   try clear hr
   try clear hr0
   try clear hp
   try clear hn
   try clear hK
   try clear hb
   try clear hc
   try clear hm
   try clear hln
   try clear hbn
   try clear hf
   try(obtain hk:=JI (Jx (by assumption)) (by assumption);subst hk)
   try simp only[Ux,Uy,Uz,Uw]at *
   simp_all [Qo,YK,Zd,U9,Uv,Jv,Jc,Nd.op]<;>first|done|rfl|omega|(congr 1;done)|(congr 2;done)|(intros;omega)|(intros;simp_all;done)
  refine Qc 2 K M ?_;intro _ K;refine og K rfl rfl (QP QK rfl rfl hK.len) rfl fun _ K=>?_;refine Qc 2 K M ?_;intro _ K;refine oB K (Qb rfl) rfl fun b88 _ e88 K=>?_;cases b88
  ·replace e88:=of_decide_eq_false e88;refine Qc 4 K M ?_;intro _ K;refine Qd ⟨.inr rfl,_,J7 K rfl,?_⟩;refine⟨congrArg AV.bool ?_,M.qt⟩;rw[Jy o s z a l,Yc l]
   try generalize l.all QL=q1 at *
   try generalize hq:l.any Zc=q2 at *
   try(have hq2:q2=true:=by rw[hx,UX hi65,Zc];simp_all [Nd.op,Uv])
   try(have hq2:q2=false:=by rw[hx,Jh (by omega)];rfl)
   try clear hx
   try clear hq
   try clear M
   try clear ih
   try clear hr
   try clear hr0
   try clear hp
   try clear hn
   try clear hK
   try clear hb
   try clear hc
   try clear hm
   try clear hln
   try clear hbn
   try clear hf
   try(obtain hk:=JI (Jx (by assumption)) (by assumption);subst hk)
   try simp only[Ux,Uy,Uz,Uw]at *
   simp_all [Qo,YK,Zd,U9,Uv,Jv,Jc,Nd.op]<;>first|done|rfl|omega|(congr 1;done)|(congr 2;done)|(intros;omega)|(intros;simp_all;done)
  replace e88:=of_decide_eq_true e88;refine Qc 1 K M ?_;intro _ K;obtain⟨v90,st90,ev90,rfl,q90⟩:=Fg M.fresh (hr0.mono M.rows) ih;refine og K rfl rfl (Qg rfl ev90) rfl fun _ K=>?_;replace M:=M.quiet q90;refine Qc 2 K M ?_;intro _ K;refine Qd ⟨.inr rfl,_,J7 K rfl,?_⟩;refine⟨congrArg AV.bool ?_,M.qt⟩;rw[Jy o s z a l,Yc l]
  try generalize l.all QL=q1 at *
  try generalize hq:l.any Zc=q2 at *
  try(have hq2:q2=true:=by rw[hx,UX hi65,Zc];simp_all [Nd.op,Uv])
  try(have hq2:q2=false:=by rw[hx,Jh (by omega)];rfl)
  try clear hx
  try clear hq
  try clear M
  try clear ih
  try clear hr
  try clear hr0
  try clear hp
  try clear hn
  try clear hK
  try clear hb
  try clear hc
  try clear hm
  try clear hln
  try clear hbn
  try clear hf
  try(obtain hk:=JI (Jx (by assumption)) (by assumption);subst hk)
  try simp only[Ux,Uy,Uz,Uw]at *
  simp_all [Qo,YK,Zd,U9,Uv,Jv,Jc,Nd.op]<;>first|done|rfl|omega|(congr 1;done)|(congr 2;done)|(intros;omega)|(intros;simp_all;done)
 refine Qc 1 K M ?_;intro _ K;refine oQ K M (OD M.fresh (hr0.mono M.rows)) rfl rfl fun _ _ K M=>?_;refine oB K (Qb rfl) rfl fun b94 _ e94 K=>?_;cases b94
 ·refine Qc 16 K M ?_;intro _ K;refine Qd ⟨.inr rfl,_,J7 K rfl,?_⟩;refine⟨congrArg AV.bool ?_,M.qt⟩;rw[Jy o s z a l,Yc l]
  try generalize l.all QL=q1 at *
  try generalize hq:l.any Zc=q2 at *
  try(have hq2:q2=true:=by rw[hx,UX hi65,Zc];simp_all [Nd.op,Uv])
  try(have hq2:q2=false:=by rw[hx,Jh (by omega)];rfl)
  try clear hx
  try clear hq
  try clear M
  try clear ih
  try clear hr
  try clear hr0
  try clear hp
  try clear hn
  try clear hK
  try clear hb
  try clear hc
  try clear hm
  try clear hln
  try clear hbn
  try clear hf
  try(obtain hk:=JI (Jx (by assumption)) (by assumption);subst hk)
  try simp only[Ux,Uy,Uz,Uw]at *
  simp_all [Qo,YK,Zd,U9,Uv,Jv,Jc,Nd.op]<;>first|done|rfl|omega|(congr 1;done)|(congr 2;done)|(intros;omega)|(intros;simp_all;done)
 refine Qc 1 K M ?_;intro _ K;obtain⟨v96,st96,ev96,rfl,q96⟩:=VM M.fresh (hr0.mono M.rows) 2 false false;refine og K rfl rfl (Qg rfl ev96) rfl fun _ K=>?_;replace M:=M.quiet q96;refine o1 K (UH rfl rfl rfl) rfl fun _ K=>?_;refine oB K (Qb rfl) rfl fun b98 _ e98 K=>?_;cases b98
 ·refine Qc 12 K M ?_;intro _ K;refine Qd ⟨.inr rfl,_,J7 K rfl,?_⟩;refine⟨congrArg AV.bool ?_,M.qt⟩;rw[Jy o s z a l,Yc l]
  try generalize l.all QL=q1 at *
  try generalize hq:l.any Zc=q2 at *
  try(have hq2:q2=true:=by rw[hx,UX hi65,Zc];simp_all [Nd.op,Uv])
  try(have hq2:q2=false:=by rw[hx,Jh (by omega)];rfl)
  try clear hx
  try clear hq
  try clear M
  try clear ih
  try clear hr
  try clear hr0
  try clear hp
  try clear hn
  try clear hK
  try clear hb
  try clear hc
  try clear hm
  try clear hln
  try clear hbn
  try clear hf
  try(obtain hk:=JI (Jx (by assumption)) (by assumption);subst hk)
  try simp only[Ux,Uy,Uz,Uw]at *
  simp_all [Qo,YK,Zd,U9,Uv,Jv,Jc,Nd.op]<;>first|done|rfl|omega|(congr 1;done)|(congr 2;done)|(intros;omega)|(intros;simp_all;done)
 refine Qc 1 K M ?_;intro _ K;obtain⟨v100,st100,ev100,rfl,q100⟩:=Fg M.fresh (hr0.mono M.rows) ih;refine og K rfl rfl (Qg rfl ev100) rfl fun _ K=>?_;replace M:=M.quiet q100;refine o1 K (UH rfl rfl rfl) rfl fun _ K=>?_;refine oB K (Qb rfl) rfl fun b102 _ e102 K=>?_;cases b102
 ·refine Qc 8 K M ?_;intro _ K;refine Qd ⟨.inr rfl,_,J7 K rfl,?_⟩;refine⟨congrArg AV.bool ?_,M.qt⟩;rw[Jy o s z a l,Yc l]
  try generalize l.all QL=q1 at *
  try generalize hq:l.any Zc=q2 at *
  try(have hq2:q2=true:=by rw[hx,UX hi65,Zc];simp_all [Nd.op,Uv])
  try(have hq2:q2=false:=by rw[hx,Jh (by omega)];rfl)
  try clear hx
  try clear hq
  try clear M
  try clear ih
  try clear hr
  try clear hr0
  try clear hp
  try clear hn
  try clear hK
  try clear hb
  try clear hc
  try clear hm
  try clear hln
  try clear hbn
  try clear hf
  try(obtain hk:=JI (Jx (by assumption)) (by assumption);subst hk)
  try simp only[Ux,Uy,Uz,Uw]at *
  simp_all [Qo,YK,Zd,U9,Uv,Jv,Jc,Nd.op]<;>first|done|rfl|omega|(congr 1;done)|(congr 2;done)|(intros;omega)|(intros;simp_all;done)
 refine Qc 2 K M ?_;intro _ K;obtain⟨⟨o105,s105,z105,a105,l105⟩,hi105⟩: ∃k,l[1]? =some k:=⟨_,List.getElem?_eq_getElem (by first|omega|(have:=Jo (m:=1) (l:=l) (by assumption);omega)|(have:=Jo (m:=2) (l:=l) (by assumption);omega)|(have:=Jx (m:=1) (l:=l) (by assumption);omega)|(have:=Jx (m:=2) (l:=l) (by assumption);omega))⟩;have hm105:=Ub hi105;obtain⟨_,hc105,hn105⟩:=hK.at_ _ _ hi105;have hp105:=hn105;obtain⟨kk105,ls105,rfl,hK105,hb105⟩:=hp105.Ju;obtain⟨x105,m105,f105,q105,_,la105,lo105,lp105⟩:=(hK.r.mem M (by simp)).load (i:=1) (cs:=_) hc105;refine og K rfl rfl (Qn (j:=1) QW (congrArg some q105) rfl (by rw[hK.ln];first|omega|(have:=Jo (m:=1) (l:=l) (by assumption);omega)|(have:=Jo (m:=2) (l:=l) (by assumption);omega)|(have:=Jx (m:=1) (l:=l) (by assumption);omega)|(have:=Jx (m:=2) (l:=l) (by assumption);omega))) rfl fun _ K=>og K rfl rfl (Qq rfl (la105 _ Q8)) rfl fun _ K=>?_;obtain⟨v107,st107,ev107,rfl,q107⟩:=OD M.fresh (hn105.mono M.rows);refine og K rfl rfl (Qg rfl ev107) rfl fun _ K=>?_;replace M:=M.quiet q107;refine Qc 3 K M ?_;intro _ K;refine Qd ⟨.inr rfl,_,J7 K rfl,?_⟩;refine⟨congrArg AV.bool ?_,M.qt⟩;rw[Jy o s z a l,Yc l]
 try generalize l.all QL=q1 at *
 try generalize hq:l.any Zc=q2 at *
 try(have hq2:q2=true:=by rw[hx,UX hi65,Zc];simp_all [Nd.op,Uv])
 try(have hq2:q2=false:=by rw[hx,Jh (by omega)];rfl)
 try clear hx
 try clear hq
 try clear M
 try clear ih
 try clear hr
 try clear hr0
 try clear hp
 try clear hn
 try clear hK
 try clear hb
 try clear hc
 try clear hm
 try clear hp105
 try clear hn105
 try clear hK105
 try clear hb105
 try clear hc105
 try clear hm105
 try clear hln
 try clear hbn
 try clear hf
 try(obtain hk:=JI (Jx (by assumption)) (by assumption);subst hk)
 try simp only[Ux,Uy,Uz,Uw]at *
 simp_all [Qo,YK,Zd,U9,Uv,Jv,Jc,Nd.op]<;>first|done|rfl|omega|(congr 1;done)|(congr 2;done)|(intros;omega)|(intros;simp_all;done)

theorem Sp(x:Nd): ∀(st:St) (cs:List AV),Q3 st→YW st.h.get x cs→ ∃v st',Ev Tryz.prog Jg 67 [.agg cs] st v st'∧v=.bool (Jm x)∧Qt st st':=by
 refine VJ (M:=fun x=> ∀(st:St) (cs:List AV),Q3 st→YW st.h.get x cs→ ∃v st',Ev Tryz.prog Jg 67 [.agg cs] st v st'∧v=.bool (Jm x)∧Qt st st') (fun o s z a l ih=>?_) x;intro st cs hf hr;have hr0:=hr;obtain⟨kk,ls,rfl,hK,hb⟩:=hr.Ju;have hln:=hK.ln;have hbn:=hK.Yx;refine QG rfl Tryz.func67 rfl Tryz.ntmps67 rfl fun T hT=>?_;have K:Jk [(0,_)] T:=(.cons (hT 0) .nil);have M:=Mem.start hf;refine Qw<|Qi ?_;refine JL K M rfl (Qa rfl (Qa rfl (Qa rfl (Qa rfl (Qa hK.cell QE))))) (by decide) fun c1 _ _ K M=>?_;refine o1 K (Qu rfl) rfl fun _ K=>Q5 ?_;show W _ _ _ _ _ _ _;refine Qw<|Qw<|Qi<|o1 K (Qf Vx rfl) rfl fun _ K=>o1 K (Qq rfl (M.load (k:=0) rfl (Ql Ji rfl))) rfl fun _ K=>Q5 ?_;show W _ _ _ _ _ _ _;refine UN ?_;refine X7 (J:=fun T st9=> ∃(b:Bool),Jk [(1,.ptr c1 0 0),(2,.bool false),(4,.str o),(5,.bool b)] T∧Mem st.h.get st.n [] st9 [(c1,0,[.str o,.str s,.int .i64 z,.int .i64 a,kk])]∧b=oneOf o [[116,114,117,101],[102,97,108,115,101]]) ?_ (fun T st9 hJ=>?_)
 ·refine Qw<|Qi<|o1 K (QD (b:=[116,114,117,101]) rfl rfl) rfl fun _ K=>?_;refine Qc 1 K M ?_;intro _ K;refine Qj (K.QN rfl) (fun h5=>?_) (fun h5=>?_)
  ·have hb5:=h5;replace h5:=of_decide_eq_true h5;refine QO ?_;exact⟨_,(.cons (K _ _ rfl) (.cons (K _ _ rfl) (.cons (K _ _ rfl) (.cons (K _ _ rfl) .nil)))),M.less (.refl _),(by simp_all [oneOf])⟩
  have hb5:=h5;replace h5:=of_decide_eq_false h5;refine Qi<|o1 K (QD (b:=[102,97,108,115,101]) rfl rfl) rfl fun _ K=>o1 K (Qu rfl) rfl fun _ K=>Q5 ?_;exact⟨_,(.cons (K _ _ rfl) (.cons (K _ _ rfl) (.cons (K _ _ rfl) (.cons (K _ _ rfl) .nil)))),M.less (.refl _),(by simp_all [oneOf])⟩
 obtain⟨b,K,M,hbs4⟩:=hJ;refine Qj (K.QN rfl) (fun h5=>?_) (fun h5=>?_)
 ·have hb5:=h5;refine Qc 1 K M ?_;intro _ K;obtain⟨v9,st9,ev9,rfl,q9⟩:=VM M.fresh (hr0.mono M.rows) 0 false false;refine o1 K (Qg rfl ev9) rfl fun _ K=>?_;replace M:=M.quiet q9;refine Qc 1 K M ?_;intro _ K;refine Qd ⟨.inr rfl,_,J7 K rfl,?_⟩;refine⟨congrArg AV.bool ?_,M.qt⟩;rw[J0 o s z a l]
  try generalize l.all Jm=q1 at *
  try generalize l.all QL=q2 at *
  try clear M
  try clear ih
  try clear hr
  try clear hr0
  try clear hp
  try clear hn
  try clear hK
  try clear hb
  try clear hc
  try clear hm
  try clear hln
  try clear hbn
  try clear hf
  try simp only[Ux,Uy,Uz,Uw]at *
  simp_all [Qo,Jc,Ap]<;>first|done|rfl|omega|(congr 1;done)|(congr 2;done)|(intros;omega)|(intros;simp_all;done)
 have hb5:=h5;refine Qw<|Qi<|o1 K (QD (b:=[110,111,116]) rfl rfl) rfl fun _ K=>?_;refine Qc 1 K M ?_;intro _ K;refine YX K rfl (fun h10=>?_) fun h10=>?_
 ·refine Qc 1 K M ?_;intro _ K;refine oQ K M (VM M.fresh (hr0.mono M.rows) 1 false false) rfl rfl fun _ _ K M=>?_;refine oB K (Qb rfl) rfl fun b14 _ e14 K=>?_;cases b14
  ·refine Qc 4 K M ?_;intro _ K;refine Qd ⟨.inr rfl,_,J7 K rfl,?_⟩;refine⟨congrArg AV.bool ?_,M.qt⟩;rw[J0 o s z a l]
   try generalize l.all Jm=q1 at *
   try generalize l.all QL=q2 at *
   try clear M
   try clear ih
   try clear hr
   try clear hr0
   try clear hp
   try clear hn
   try clear hK
   try clear hb
   try clear hc
   try clear hm
   try clear hln
   try clear hbn
   try clear hf
   try simp only[Ux,Uy,Uz,Uw]at *
   simp_all [Qo,Jc,Ap]<;>first|done|rfl|omega|(congr 1;done)|(congr 2;done)|(intros;omega)|(intros;simp_all;done)
  refine Qc 1 K M ?_;intro _ K;obtain⟨v16,st16,ev16,rfl,q16⟩:=I5 M.fresh (hr0.mono M.rows) ih;refine og K rfl rfl (Qg rfl ev16) rfl fun _ K=>?_;replace M:=M.quiet q16;refine Qc 2 K M ?_;intro _ K;refine Qd ⟨.inr rfl,_,J7 K rfl,?_⟩;refine⟨congrArg AV.bool ?_,M.qt⟩;rw[J0 o s z a l]
  try generalize l.all Jm=q1 at *
  try generalize l.all QL=q2 at *
  try clear M
  try clear ih
  try clear hr
  try clear hr0
  try clear hp
  try clear hn
  try clear hK
  try clear hb
  try clear hc
  try clear hm
  try clear hln
  try clear hbn
  try clear hf
  try simp only[Ux,Uy,Uz,Uw]at *
  simp_all [Qo,Jc,Ap]<;>first|done|rfl|omega|(congr 1;done)|(congr 2;done)|(intros;omega)|(intros;simp_all;done)
 refine X7 (J:=fun T st9=> ∃(b:Bool),Jk [(1,.ptr c1 0 0),(2,.bool false),(4,.str o),(18,.bool b)] T∧Mem st.h.get st.n [] st9 [(c1,0,[.str o,.str s,.int .i64 z,.int .i64 a,kk])]∧b=oneOf o [[97,110,100],[111,114],[105,109,112],[105,102,102]]) ?_ (fun T st9 hJ=>?_)
 ·refine Qw<|Qi<|o1 K (QD (b:=[97,110,100]) rfl rfl) rfl fun _ K=>?_;refine Qc 1 K M ?_;intro _ K;refine Qj (K.QN rfl) (fun h18=>?_) (fun h18=>?_)
  ·have hb18:=h18;replace h18:=of_decide_eq_true h18;refine QO ?_;exact⟨_,(.cons (K _ _ rfl) (.cons (K _ _ rfl) (.cons (K _ _ rfl) (.cons (K _ _ rfl) .nil)))),M.less (.refl _),(by simp_all [oneOf])⟩
  have hb18:=h18;replace h18:=of_decide_eq_false h18;refine Qw<|Qi<|o1 K (QD (b:=[111,114]) rfl rfl) rfl fun _ K=>?_;refine Qc 1 K M ?_;intro _ K;refine Qj (K.QN rfl) (fun h18=>?_) (fun h18=>?_)
  ·have hb18:=h18;replace h18:=of_decide_eq_true h18;refine QO ?_;exact⟨_,(.cons (K _ _ rfl) (.cons (K _ _ rfl) (.cons (K _ _ rfl) (.cons (K _ _ rfl) .nil)))),M.less (.refl _),(by simp_all [oneOf])⟩
  have hb18:=h18;replace h18:=of_decide_eq_false h18;refine Qw<|Qi<|o1 K (QD (b:=[105,109,112]) rfl rfl) rfl fun _ K=>?_;refine Qc 1 K M ?_;intro _ K;refine Qj (K.QN rfl) (fun h18=>?_) (fun h18=>?_)
  ·have hb18:=h18;replace h18:=of_decide_eq_true h18;refine QO ?_;exact⟨_,(.cons (K _ _ rfl) (.cons (K _ _ rfl) (.cons (K _ _ rfl) (.cons (K _ _ rfl) .nil)))),M.less (.refl _),(by simp_all [oneOf])⟩
  have hb18:=h18;replace h18:=of_decide_eq_false h18;refine Qi<|o1 K (QD (b:=[105,102,102]) rfl rfl) rfl fun _ K=>o1 K (Qu rfl) rfl fun _ K=>Q5 ?_;exact⟨_,(.cons (K _ _ rfl) (.cons (K _ _ rfl) (.cons (K _ _ rfl) (.cons (K _ _ rfl) .nil)))),M.less (.refl _),(by simp_all [oneOf])⟩
 obtain⟨b,K,M,hbs11⟩:=hJ;refine Qj (K.QN rfl) (fun h18=>?_) (fun h18=>?_)
 ·have hb18:=h18;refine Qc 1 K M ?_;intro _ K;refine oQ K M (VM M.fresh (hr0.mono M.rows) 2 false false) rfl rfl fun _ _ K M=>?_;refine oB K (Qb rfl) rfl fun b25 _ e25 K=>?_;cases b25
  ·refine Qc 4 K M ?_;intro _ K;refine Qd ⟨.inr rfl,_,J7 K rfl,?_⟩;refine⟨congrArg AV.bool ?_,M.qt⟩;rw[J0 o s z a l]
   try generalize l.all Jm=q1 at *
   try generalize l.all QL=q2 at *
   try clear M
   try clear ih
   try clear hr
   try clear hr0
   try clear hp
   try clear hn
   try clear hK
   try clear hb
   try clear hc
   try clear hm
   try clear hln
   try clear hbn
   try clear hf
   try simp only[Ux,Uy,Uz,Uw]at *
   simp_all [Qo,Jc,Ap]<;>first|done|rfl|omega|(congr 1;done)|(congr 2;done)|(intros;omega)|(intros;simp_all;done)
  refine Qc 1 K M ?_;intro _ K;obtain⟨v27,st27,ev27,rfl,q27⟩:=I5 M.fresh (hr0.mono M.rows) ih;refine og K rfl rfl (Qg rfl ev27) rfl fun _ K=>?_;replace M:=M.quiet q27;refine Qc 2 K M ?_;intro _ K;refine Qd ⟨.inr rfl,_,J7 K rfl,?_⟩;refine⟨congrArg AV.bool ?_,M.qt⟩;rw[J0 o s z a l]
  try generalize l.all Jm=q1 at *
  try generalize l.all QL=q2 at *
  try clear M
  try clear ih
  try clear hr
  try clear hr0
  try clear hp
  try clear hn
  try clear hK
  try clear hb
  try clear hc
  try clear hm
  try clear hln
  try clear hbn
  try clear hf
  try simp only[Ux,Uy,Uz,Uw]at *
  simp_all [Qo,Jc,Ap]<;>first|done|rfl|omega|(congr 1;done)|(congr 2;done)|(intros;omega)|(intros;simp_all;done)
 have hb18:=h18;refine X7 (J:=fun T st9=> ∃(b:Bool),Jk [(1,.ptr c1 0 0),(2,.bool false),(4,.str o),(29,.bool b)] T∧Mem st.h.get st.n [] st9 [(c1,0,[.str o,.str s,.int .i64 z,.int .i64 a,kk])]∧b=oneOf o [[101,120],[97,108,108]]) ?_ (fun T st9 hJ=>?_)
 ·refine Qw<|Qi<|o1 K (QD (b:=[101,120]) rfl rfl) rfl fun _ K=>?_;refine Qc 1 K M ?_;intro _ K;refine Qj (K.QN rfl) (fun h29=>?_) (fun h29=>?_)
  ·have hb29:=h29;replace h29:=of_decide_eq_true h29;refine QO ?_;exact⟨_,(.cons (K _ _ rfl) (.cons (K _ _ rfl) (.cons (K _ _ rfl) (.cons (K _ _ rfl) .nil)))),M.less (.refl _),(by simp_all [oneOf])⟩
  have hb29:=h29;replace h29:=of_decide_eq_false h29;refine Qi<|o1 K (QD (b:=[97,108,108]) rfl rfl) rfl fun _ K=>o1 K (Qu rfl) rfl fun _ K=>Q5 ?_;exact⟨_,(.cons (K _ _ rfl) (.cons (K _ _ rfl) (.cons (K _ _ rfl) (.cons (K _ _ rfl) .nil)))),M.less (.refl _),(by simp_all [oneOf])⟩
 obtain⟨b,K,M,hbs14⟩:=hJ;refine Qj (K.QN rfl) (fun h29=>?_) (fun h29=>?_)
 ·have hb29:=h29;refine Qc 1 K M ?_;intro _ K;refine oQ K M (VM M.fresh (hr0.mono M.rows) 1 true true) rfl rfl fun _ _ K M=>?_;refine oB K (Qb rfl) rfl fun b34 _ e34 K=>?_;cases b34
  ·refine Qc 14 K M ?_;intro _ K;refine Qd ⟨.inr rfl,_,J7 K rfl,?_⟩;refine⟨congrArg AV.bool ?_,M.qt⟩;rw[J0 o s z a l]
   try generalize l.all Jm=q1 at *
   try generalize l.all QL=q2 at *
   try clear M
   try clear ih
   try clear hr
   try clear hr0
   try clear hp
   try clear hn
   try clear hK
   try clear hb
   try clear hc
   try clear hm
   try clear hln
   try clear hbn
   try clear hf
   try simp only[Ux,Uy,Uz,Uw]at *
   simp_all [Qo,Jc,Ap]<;>first|done|rfl|omega|(congr 1;done)|(congr 2;done)|(intros;omega)|(intros;simp_all;done)
  refine Qc 4 K M ?_;intro _ K;refine oB K (Qb rfl) rfl fun b39 _ e39 K=>?_;cases b39
  ·replace e39:=of_decide_eq_false e39;refine Qc 9 K M ?_;intro _ K;refine Qd ⟨.inr rfl,_,J7 K rfl,?_⟩;refine⟨congrArg AV.bool ?_,M.qt⟩;rw[J0 o s z a l]
   try generalize l.all Jm=q1 at *
   try generalize l.all QL=q2 at *
   try clear M
   try clear ih
   try clear hr
   try clear hr0
   try clear hp
   try clear hn
   try clear hK
   try clear hb
   try clear hc
   try clear hm
   try clear hln
   try clear hbn
   try clear hf
   try simp only[Ux,Uy,Uz,Uw]at *
   simp_all [Qo,Jc,Ap]<;>first|done|rfl|omega|(congr 1;done)|(congr 2;done)|(intros;omega)|(intros;simp_all;done)
  replace e39:=of_decide_eq_true e39;refine Qc 4 K M ?_;intro _ K;refine oB K (Qb rfl) rfl fun b44 _ e44 K=>?_;cases b44
  ·replace e44:=of_decide_eq_false e44;refine Qc 4 K M ?_;intro _ K;refine Qd ⟨.inr rfl,_,J7 K rfl,?_⟩;refine⟨congrArg AV.bool ?_,M.qt⟩;rw[J0 o s z a l]
   try generalize l.all Jm=q1 at *
   try generalize l.all QL=q2 at *
   try clear M
   try clear ih
   try clear hr
   try clear hr0
   try clear hp
   try clear hn
   try clear hK
   try clear hb
   try clear hc
   try clear hm
   try clear hln
   try clear hbn
   try clear hf
   try simp only[Ux,Uy,Uz,Uw]at *
   simp_all [Qo,Jc,Ap]<;>first|done|rfl|omega|(congr 1;done)|(congr 2;done)|(intros;omega)|(intros;simp_all;done)
  replace e44:=of_decide_eq_true e44;refine Qc 1 K M ?_;intro _ K;obtain⟨v46,st46,ev46,rfl,q46⟩:=I5 M.fresh (hr0.mono M.rows) ih;refine og K rfl rfl (Qg rfl ev46) rfl fun _ K=>?_;replace M:=M.quiet q46;refine Qc 2 K M ?_;intro _ K;refine Qd ⟨.inr rfl,_,J7 K rfl,?_⟩;refine⟨congrArg AV.bool ?_,M.qt⟩;rw[J0 o s z a l]
  try generalize l.all Jm=q1 at *
  try generalize l.all QL=q2 at *
  try clear M
  try clear ih
  try clear hr
  try clear hr0
  try clear hp
  try clear hn
  try clear hK
  try clear hb
  try clear hc
  try clear hm
  try clear hln
  try clear hbn
  try clear hf
  try simp only[Ux,Uy,Uz,Uw]at *
  simp_all [Qo,Jc,Ap]<;>first|done|rfl|omega|(congr 1;done)|(congr 2;done)|(intros;omega)|(intros;simp_all;done)
 have hb29:=h29;refine Qw<|Qi<|o1 K (QD (b:=[105,115]) rfl rfl) rfl fun _ K=>?_;refine Qc 1 K M ?_;intro _ K;refine YX K rfl (fun h48=>?_) fun h48=>?_
 ·refine Qc 1 K M ?_;intro _ K;refine oQ K M (VM M.fresh (hr0.mono M.rows) 0 true false) rfl rfl fun _ _ K M=>?_;refine Qc 1 K M ?_;intro _ K;refine Qd ⟨.inr rfl,_,J7 K rfl,?_⟩;refine⟨congrArg AV.bool ?_,M.qt⟩;rw[J0 o s z a l]
  try generalize l.all Jm=q1 at *
  try generalize l.all QL=q2 at *
  try clear M
  try clear ih
  try clear hr
  try clear hr0
  try clear hp
  try clear hn
  try clear hK
  try clear hb
  try clear hc
  try clear hm
  try clear hln
  try clear hbn
  try clear hf
  try simp only[Ux,Uy,Uz,Uw]at *
  simp_all [Qo,Jc,Ap]<;>first|done|rfl|omega|(congr 1;done)|(congr 2;done)|(intros;omega)|(intros;simp_all;done)
 refine X7 (J:=fun T st9=> ∃(b:Bool),Jk [(1,.ptr c1 0 0),(2,.bool false),(4,.str o),(52,.bool b)] T∧Mem st.h.get st.n [] st9 [(c1,0,[.str o,.str s,.int .i64 z,.int .i64 a,kk])]∧b=oneOf o [[101,113],[110,101],[108,116],[108,101],[105,110],[110,111,116,105,110],[115,117,98]]) ?_ (fun T st9 hJ=>?_)
 ·refine Qw<|Qi<|o1 K (QD (b:=[101,113]) rfl rfl) rfl fun _ K=>?_;refine Qc 1 K M ?_;intro _ K;refine Qj (K.QN rfl) (fun h52=>?_) (fun h52=>?_)
  ·have hb52:=h52;replace h52:=of_decide_eq_true h52;refine QO ?_;exact⟨_,(.cons (K _ _ rfl) (.cons (K _ _ rfl) (.cons (K _ _ rfl) (.cons (K _ _ rfl) .nil)))),M.less (.refl _),(by simp_all [oneOf])⟩
  have hb52:=h52;replace h52:=of_decide_eq_false h52;refine Qw<|Qi<|o1 K (QD (b:=[110,101]) rfl rfl) rfl fun _ K=>?_;refine Qc 1 K M ?_;intro _ K;refine Qj (K.QN rfl) (fun h52=>?_) (fun h52=>?_)
  ·have hb52:=h52;replace h52:=of_decide_eq_true h52;refine QO ?_;exact⟨_,(.cons (K _ _ rfl) (.cons (K _ _ rfl) (.cons (K _ _ rfl) (.cons (K _ _ rfl) .nil)))),M.less (.refl _),(by simp_all [oneOf])⟩
  have hb52:=h52;replace h52:=of_decide_eq_false h52;refine Qw<|Qi<|o1 K (QD (b:=[108,116]) rfl rfl) rfl fun _ K=>?_;refine Qc 1 K M ?_;intro _ K;refine Qj (K.QN rfl) (fun h52=>?_) (fun h52=>?_)
  ·have hb52:=h52;replace h52:=of_decide_eq_true h52;refine QO ?_;exact⟨_,(.cons (K _ _ rfl) (.cons (K _ _ rfl) (.cons (K _ _ rfl) (.cons (K _ _ rfl) .nil)))),M.less (.refl _),(by simp_all [oneOf])⟩
  have hb52:=h52;replace h52:=of_decide_eq_false h52;refine Qw<|Qi<|o1 K (QD (b:=[108,101]) rfl rfl) rfl fun _ K=>?_;refine Qc 1 K M ?_;intro _ K;refine Qj (K.QN rfl) (fun h52=>?_) (fun h52=>?_)
  ·have hb52:=h52;replace h52:=of_decide_eq_true h52;refine QO ?_;exact⟨_,(.cons (K _ _ rfl) (.cons (K _ _ rfl) (.cons (K _ _ rfl) (.cons (K _ _ rfl) .nil)))),M.less (.refl _),(by simp_all [oneOf])⟩
  have hb52:=h52;replace h52:=of_decide_eq_false h52;refine Qw<|Qi<|o1 K (QD (b:=[105,110]) rfl rfl) rfl fun _ K=>?_;refine Qc 1 K M ?_;intro _ K;refine Qj (K.QN rfl) (fun h52=>?_) (fun h52=>?_)
  ·have hb52:=h52;replace h52:=of_decide_eq_true h52;refine QO ?_;exact⟨_,(.cons (K _ _ rfl) (.cons (K _ _ rfl) (.cons (K _ _ rfl) (.cons (K _ _ rfl) .nil)))),M.less (.refl _),(by simp_all [oneOf])⟩
  have hb52:=h52;replace h52:=of_decide_eq_false h52;refine Qw<|Qi<|o1 K (QD (b:=[110,111,116,105,110]) rfl rfl) rfl fun _ K=>?_;refine Qc 1 K M ?_;intro _ K;refine Qj (K.QN rfl) (fun h52=>?_) (fun h52=>?_)
  ·have hb52:=h52;replace h52:=of_decide_eq_true h52;refine QO ?_;exact⟨_,(.cons (K _ _ rfl) (.cons (K _ _ rfl) (.cons (K _ _ rfl) (.cons (K _ _ rfl) .nil)))),M.less (.refl _),(by simp_all [oneOf])⟩
  have hb52:=h52;replace h52:=of_decide_eq_false h52;refine Qi<|o1 K (QD (b:=[115,117,98]) rfl rfl) rfl fun _ K=>o1 K (Qu rfl) rfl fun _ K=>Q5 ?_;exact⟨_,(.cons (K _ _ rfl) (.cons (K _ _ rfl) (.cons (K _ _ rfl) (.cons (K _ _ rfl) .nil)))),M.less (.refl _),(by simp_all [oneOf])⟩
 obtain⟨b,K,M,hbs24⟩:=hJ;refine Qj (K.QN rfl) (fun h52=>?_) (fun h52=>?_)
 ·have hb52:=h52;refine Qc 1 K M ?_;intro _ K;refine oQ K M (VM M.fresh (hr0.mono M.rows) 2 false false) rfl rfl fun _ _ K M=>?_;refine oB K (Qb rfl) rfl fun b62 _ e62 K=>?_;cases b62
  ·refine Qc 4 K M ?_;intro _ K;refine Qd ⟨.inr rfl,_,J7 K rfl,?_⟩;refine⟨congrArg AV.bool ?_,M.qt⟩;rw[J0 o s z a l]
   try generalize l.all Jm=q1 at *
   try generalize l.all QL=q2 at *
   try clear M
   try clear ih
   try clear hr
   try clear hr0
   try clear hp
   try clear hn
   try clear hK
   try clear hb
   try clear hc
   try clear hm
   try clear hln
   try clear hbn
   try clear hf
   try simp only[Ux,Uy,Uz,Uw]at *
   simp_all [Qo,Jc,Ap]<;>first|done|rfl|omega|(congr 1;done)|(congr 2;done)|(intros;omega)|(intros;simp_all;done)
  refine Qc 1 K M ?_;intro _ K;obtain⟨v64,st64,ev64,rfl,q64⟩:=Fg M.fresh (hr0.mono M.rows) (fun k hk st1 cs hf1 hr1=>GD k st1 cs hf1 hr1);refine og K rfl rfl (Qg rfl ev64) rfl fun _ K=>?_;replace M:=M.quiet q64;refine Qc 2 K M ?_;intro _ K;refine Qd ⟨.inr rfl,_,J7 K rfl,?_⟩;refine⟨congrArg AV.bool ?_,M.qt⟩;rw[J0 o s z a l]
  try generalize l.all Jm=q1 at *
  try generalize l.all QL=q2 at *
  try clear M
  try clear ih
  try clear hr
  try clear hr0
  try clear hp
  try clear hn
  try clear hK
  try clear hb
  try clear hc
  try clear hm
  try clear hln
  try clear hbn
  try clear hf
  try simp only[Ux,Uy,Uz,Uw]at *
  simp_all [Qo,Jc,Ap]<;>first|done|rfl|omega|(congr 1;done)|(congr 2;done)|(intros;omega)|(intros;simp_all;done)
 have hb52:=h52;refine Qw<|Qi<|o1 K (QD (b:=[99,97,108,108]) rfl rfl) rfl fun _ K=>?_;refine Qc 1 K M ?_;intro _ K;refine YX K rfl (fun h66=>?_) fun h66=>?_
 ·refine Qc 3 K M ?_;intro _ K;refine o1 K (QP QK rfl rfl hK.len) rfl fun _ K=>?_;refine oQ K M (VM M.fresh (hr0.mono M.rows) (((l.length:Nat):Int)) true false) rfl rfl fun _ _ K M=>?_;refine oB K (Qb rfl) rfl fun b73 _ e73 K=>?_;cases b73
  ·refine Qc 10 K M ?_;intro _ K;refine Qd ⟨.inr rfl,_,J7 K rfl,?_⟩;refine⟨congrArg AV.bool ?_,M.qt⟩;rw[J0 o s z a l]
   try generalize l.all Jm=q1 at *
   try generalize l.all QL=q2 at *
   try clear M
   try clear ih
   try clear hr
   try clear hr0
   try clear hp
   try clear hn
   try clear hK
   try clear hb
   try clear hc
   try clear hm
   try clear hln
   try clear hbn
   try clear hf
   try simp only[Ux,Uy,Uz,Uw]at *
   simp_all [Qo,Jc,Ap]<;>first|done|rfl|omega|(congr 1;done)|(congr 2;done)|(intros;omega)|(intros;simp_all;done)
  refine Qc 2 K M ?_;intro _ K;refine og K rfl rfl (QP QK rfl rfl hK.len) rfl fun _ K=>?_;refine Qc 2 K M ?_;intro _ K;refine oB K (Qb rfl) rfl fun b79 _ e79 K=>?_;cases b79
  ·replace e79:=of_decide_eq_false e79;refine Qc 4 K M ?_;intro _ K;refine Qd ⟨.inr rfl,_,J7 K rfl,?_⟩;refine⟨congrArg AV.bool ?_,M.qt⟩;rw[J0 o s z a l]
   try generalize l.all Jm=q1 at *
   try generalize l.all QL=q2 at *
   try clear M
   try clear ih
   try clear hr
   try clear hr0
   try clear hp
   try clear hn
   try clear hK
   try clear hb
   try clear hc
   try clear hm
   try clear hln
   try clear hbn
   try clear hf
   try simp only[Ux,Uy,Uz,Uw]at *
   simp_all [Qo,Jc,Ap]<;>first|done|rfl|omega|(congr 1;done)|(congr 2;done)|(intros;omega)|(intros;simp_all;done)
  replace e79:=of_decide_eq_true e79;refine Qc 1 K M ?_;intro _ K;obtain⟨v81,st81,ev81,rfl,q81⟩:=Fg M.fresh (hr0.mono M.rows) (fun k hk st1 cs hf1 hr1=>GD k st1 cs hf1 hr1);refine og K rfl rfl (Qg rfl ev81) rfl fun _ K=>?_;replace M:=M.quiet q81;refine Qc 2 K M ?_;intro _ K;refine Qd ⟨.inr rfl,_,J7 K rfl,?_⟩;refine⟨congrArg AV.bool ?_,M.qt⟩;rw[J0 o s z a l]
  try generalize l.all Jm=q1 at *
  try generalize l.all QL=q2 at *
  try clear M
  try clear ih
  try clear hr
  try clear hr0
  try clear hp
  try clear hn
  try clear hK
  try clear hb
  try clear hc
  try clear hm
  try clear hln
  try clear hbn
  try clear hf
  try simp only[Ux,Uy,Uz,Uw]at *
  simp_all [Qo,Jc,Ap]<;>first|done|rfl|omega|(congr 1;done)|(congr 2;done)|(intros;omega)|(intros;simp_all;done)
 refine Qc 1 K M ?_;intro _ K;refine Qd ⟨.inr rfl,_,J7 K rfl,?_⟩;refine⟨congrArg AV.bool ?_,M.qt⟩;rw[J0 o s z a l]
 try generalize l.all Jm=q1 at *
 try generalize l.all QL=q2 at *
 try clear M
 try clear ih
 try clear hr
 try clear hr0
 try clear hp
 try clear hn
 try clear hK
 try clear hb
 try clear hc
 try clear hm
 try clear hln
 try clear hbn
 try clear hf
 try simp only[Ux,Uy,Uz,Uw]at *
 simp_all [Qo,Jc,Ap]<;>first|done|rfl|omega|(congr 1;done)|(congr 2;done)|(intros;omega)|(intros;simp_all;done)
end Go.Proofs.YtadjjadimlkkgaaGreatDoor
