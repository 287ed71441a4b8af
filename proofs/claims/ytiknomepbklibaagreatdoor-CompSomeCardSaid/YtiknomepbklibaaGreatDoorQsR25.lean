/-
  Core formulas: how great, may they be? the program's answer, the reference's.
-/
import Derived.Test.YtiknomepbklibaaGreatDoorQsMnm
set_option maxHeartbeats 8000000
set_option maxRecDepth 100000
set_option linter.unnecessarySimpa false
set_option linter.unusedSectionVars false
set_option linter.unusedSimpArgs false
set_option linter.unusedVariables false
namespace Go.Proofs.YtiknomepbklibaaGreatDoor
open Go Go.RowKit
section
variable {R:VN} {a b g m n:Int} {cs:List AV} {l:List Cr} {o:List Nat} {st:St}

theorem Sj(h: ∀(j:Nat) (k:Cr),l[j]? =some k→QV k m=true):Xu l m=true:=by
 induction l with
 |nil=>rfl
 |cons x l ih=>rw[Xu,h 0 x rfl,ih fun j k hj=>h (j+1) k hj];rfl
theorem Pu{j:Nat}{k:Cr}(hj:l[j]? =some k)(h:QV k m=false):Xu l m=false:=by
 by_cases e:Xu l m=true
 ·rw[Ea e (VI hj)]at h;cases h
 ·simpa using e
theorem qo{k:Cr}(h:l.length=1)(hk:l[0]? =some k):Xu l m=QV k m:=by
 obtain⟨x,rfl⟩:=List.length_eq_one_iff.1 h
 injection hk with hk
 subst hk;rw[Xu,Xu,Bool.and_true]

theorem yE (x : Cr) : ∀ (most : Int) (R : VN) (st : St) (cs : List AV), Qi st → Yy R st.h.get → YI R x cs → 1 ≤ most → most ≤ 1000000 → ∃ v st', Jf 103 [.agg cs, iZ most] st v st' ∧ v = iZ (min ((Vg x : Nat) : Int) most) ∧ Qt st st' := by
 refine E9 (M := fun x => ∀ (most : Int) (R : VN) (st : St) (cs : List AV), Qi st → Yy R st.h.get → YI R x cs → 1 ≤ most → most ≤ 1000000 → ∃ v st', Jf 103 [.agg cs, iZ most] st v st' ∧ v = iZ (min ((Vg x : Nat) : Int) most) ∧ Qt st st') (fun o a b g n l ih => ?_) x;intro most R st cs hf hR hr h1 h2;have hr0 := hr;obtain ⟨kc, ls, rfl, hK⟩ := hr.U0;have hln := hK.ln;have hbn := hK.W3;refine J7 Tryz.func103 Tryz.ntmps103 fun T K => ?_;have M := Mem.start hf;refine Qb 0 K M fun _ K => ?_;refine Jv K M rfl (Qa rfl (Qa rfl (Qa rfl (Qa rfl (Qa rfl (Qa hK.cell Qz)))))) Q8 fun c2 _ _ K M => ?_;refine Qb 3 K M fun _ K => ?_;refine Jt K rfl (fun h9 => ?_) fun h9 => ?_
 · refine Qb 1 K M ?_
   first
    | (exfalso; omega)
    | (refine ⟨?_, M.qt⟩; rw [hinv]; congr 1; have hz : i = l.length := by omega
       rw [WZ Qc, Zf]; omega)
    | (refine ⟨?_, M.qt⟩; rw [hinv]; congr 1; omega)
 refine Qb 3 K M fun _ K => ?_;refine p1 K (Q5 JN rfl rfl hK.len) fun _ K => ?_;refine Qb 1 K M fun _ K => ?_;refine QX (fun mm1 T st9 => ∃ (i : Nat) (m : Int), mm1 = l.length - i ∧ QS [(1, iZ most), (4, iZ 0), (5, iZ m), (11, kc), (12, iZ (l.length : Nat)), (13, iN i)] T ∧ Mem st.h.get st.n [] st9 [(c2, 0, [.str o, iZ a, iZ b, iZ g, iZ n, kc])] ∧ i ≤ l.length ∧ 1 ≤ m ∧ m ≤ most ∧ min (((Vg (.mk o a b g n l)) : Nat) : Int) most = min (m + ((Zf (l.drop i) : Nat) : Int)) most) (fun mm1 T st9 hI => ?_) _ _ _ ⟨0, 1, rfl, (K.sub rfl), M.less (.refl _), (Nat.zero_le _), Qc, h1, (by rw [Vg, List.drop_zero]; omega)⟩;obtain ⟨i, m, rfl, K, M, hi, hm1, hm2, hinv⟩ := hI;refine Qb 1 K M fun _ K => ?_;refine Jt K rfl (fun h14 => ?_) fun h14 => ?_
 · refine Qb 0 K M fun _ K => ?_;obtain ⟨⟨o15, a15, b15, g15, n15, l15⟩, hi15⟩ : ∃ k, l[i]? = some k := ⟨_, List.getElem?_eq_getElem Qc⟩;have hm15 := VI hi15;obtain ⟨_, hc15, hn15⟩ := hK.get hi15;have hp15 := hn15;obtain ⟨kc15, ls15, rfl, hK15⟩ := hp15.U0;refine Te (hK.r (M.Yy hR)) hc15 K Ji QW rfl rfl fun _ _ _ _ K => ?_;refine au 1 K M ?_;intro c7 _ _ K _ M;refine QU (k := 0) K M rfl rfl rfl ZJ rfl (Qa rfl (Qa rfl (Qa rfl (Qa rfl (Qa rfl (Qa hK15.cell Qz)))))) rfl fun _ M => ?_;refine Qb 3 K M fun _ K => ?_;refine Jt K rfl (fun h19 => ?_) fun h19 => ?_
   · refine QK ?_;show W _ _ _ _ _ _ _;refine Qb 2 K M ?_
     first
      | (exfalso; omega)
      | (refine ⟨?_, M.qt⟩; rw [hinv]; congr 1; have hz : i = l.length := by omega
         rw [WZ Qc, Zf]; omega)
      | (refine ⟨?_, M.qt⟩; rw [hinv]; congr 1; omega)
   refine Qb 5 K M fun _ K => ?_;refine oQ K M (ih _ hm15 (most - m) R _ _ M.fresh (M.Yy hR) hn15 Qc Qc) rfl rfl fun _ _ K M => ?_;refine Qb 4 K M fun _ K => ?_;have hst := Gw hi15;have hsp := SN (.mk o15 a15 b15 g15 n15 l15);exact ⟨_, Qc, i + 1, (m + min ((Vg (.mk o15 a15 b15 g15 n15 l15) : Nat) : Int) (most - m)), rfl, (K.sub rfl), M.less (.cons _ (.refl _)), Qc, Qc, Qc, Qc⟩
 refine QK ?_;show W _ _ _ _ _ _ _;refine Qb 2 K M ?_
 first
  | (exfalso; omega)
  | (refine ⟨?_, M.qt⟩; rw [hinv]; congr 1; have hz : i = l.length := by omega
     rw [WZ Qc, Zf]; omega)
  | (refine ⟨?_, M.qt⟩; rw [hinv]; congr 1; omega)

theorem Mn (x : Cr) : ∀ (most : Int) (R : VN) (st : St) (cs : List AV), Qi st → Yy R st.h.get → YI R x cs → 1 ≤ most → most ≤ 1000000 → ∃ v st', Jf 75 [.agg cs, iZ most] st v st' ∧ v = iZ (min ((Vg x : Nat) : Int) most) ∧ Qt st st' := by
 refine E9 (M := fun x => ∀ (most : Int) (R : VN) (st : St) (cs : List AV), Qi st → Yy R st.h.get → YI R x cs → 1 ≤ most → most ≤ 1000000 → ∃ v st', Jf 75 [.agg cs, iZ most] st v st' ∧ v = iZ (min ((Vg x : Nat) : Int) most) ∧ Qt st st') (fun o a b g n l ih => ?_) x;intro most R st cs hf hR hr h1 h2;have hr0 := hr;obtain ⟨kc, ls, rfl, hK⟩ := hr.U0;have hln := hK.ln;have hbn := hK.W3;refine J7 Tryz.func75 Tryz.ntmps75 fun T K => ?_;have M := Mem.start hf;refine Qb 0 K M fun _ K => ?_;refine Jv K M rfl (Qa rfl (Qa rfl (Qa rfl (Qa rfl (Qa rfl (Qa hK.cell Qz)))))) Q8 fun c2 _ _ K M => ?_;refine Qb 3 K M fun _ K => ?_;refine QX (fun mm1 T st9 => ∃ (i : Nat) (m : Int), mm1 = l.length - i ∧ QS [(1, iZ most), (2, .ptr c2 0 0), (4, iZ 0), (5, iZ m), (6, iN i)] T ∧ Mem st.h.get st.n [] st9 [(c2, 0, [.str o, iZ a, iZ b, iZ g, iZ n, kc])] ∧ i ≤ l.length ∧ 1 ≤ m ∧ m ≤ most ∧ min (((Vg (.mk o a b g n l)) : Nat) : Int) most = min (m + ((Zf (l.drop i) : Nat) : Int)) most) (fun mm1 T st9 hI => ?_) _ _ _ ⟨0, 1, rfl, (K.sub rfl), M.less (.refl _), (Nat.zero_le _), Qc, h1, (by rw [Vg, List.drop_zero]; omega)⟩;obtain ⟨i, m, rfl, K, M, hi, hm1, hm2, hinv⟩ := hI;refine Qb 3 K M fun _ K => ?_;refine p1 K (Q5 JN rfl rfl hK.len) fun _ K => ?_;refine Qb 1 K M fun _ K => ?_;refine Ug K rfl (fun _ e12 K => ?_) fun _ e12 K => ?_
 · refine Qb 5 K M fun _ K => ?_;refine QK ?_;show W _ _ _ _ _ _ _;refine Qb 2 K M fun _ K => ?_;refine p1 K (jU rfl rfl) fun _ K => ?_;refine Qb 1 K M ?_
   first
    | (exfalso; omega)
    | (refine ⟨?_, M.qt⟩; rw [hinv]; congr 1; have hz : i = l.length := by omega
       rw [WZ Qc, Zf]; omega)
    | (refine ⟨?_, M.qt⟩; rw [hinv]; congr 1; omega)
 refine Qb 4 K M fun _ K => ?_;refine Jt K rfl (fun h16 => ?_) fun h16 => ?_
 · refine Qb 4 K M fun _ K => ?_;obtain ⟨⟨o23, a23, b23, g23, n23, l23⟩, hi23⟩ : ∃ k, l[i]? = some k := ⟨_, List.getElem?_eq_getElem Qc⟩;have hm23 := VI hi23;obtain ⟨_, hc23, hn23⟩ := hK.get hi23;have hp23 := hn23;obtain ⟨kc23, ls23, rfl, hK23⟩ := hp23.U0;refine Te (hK.r (M.Yy hR)) hc23 K Ji QW rfl rfl fun _ _ _ _ K => ?_;refine Qb 3 K M fun _ K => ?_;refine oQ K M (ih _ hm23 (most - m) R _ _ M.fresh (M.Yy hR) hn23 Qc Qc) rfl rfl fun _ _ K M => ?_;refine Qb 5 K M fun _ K => ?_;have hst := Gw hi23;have hsp := SN (.mk o23 a23 b23 g23 n23 l23);exact ⟨_, Qc, i + 1, (m + min ((Vg (.mk o23 a23 b23 g23 n23 l23) : Nat) : Int) (most - m)), rfl, (K.sub rfl), M.less (.refl _), Qc, Qc, Qc, Qc⟩
 refine QK ?_;show W _ _ _ _ _ _ _;refine Qb 2 K M fun _ K => ?_;refine p1 K (jU rfl rfl) fun _ K => ?_;refine Qb 1 K M ?_
 first
  | (exfalso; omega)
  | (refine ⟨?_, M.qt⟩; rw [hinv]; congr 1; have hz : i = l.length := by omega
     rw [WZ Qc, Zf]; omega)
  | (refine ⟨?_, M.qt⟩; rw [hinv]; congr 1; omega)

theorem qv(hf:Qi st)(hR:Yy R st.h.get)(hr:YI R (.mk o a b g n l) cs): ∃v st',Jf 77 [.agg cs] st v st'∧v=iZ (min ((Vg (.mk o a b g n l):Nat):Int) 2001)∧Qt st st':=by
 have hr0:=hr;obtain⟨kc,ls,rfl,hK⟩:=hr.U0;have hln:=hK.ln;have hbn:=hK.W3;refine J7 Tryz.func77 Tryz.ntmps77 fun T K=>?_;have M:=Mem.start hf;refine Qb 0 K M fun _ K=>?_;refine Jv K M rfl (Qa rfl (Qa rfl (Qa rfl (Qa rfl (Qa rfl (Qa hK.cell Qz)))))) Q8 fun c1 _ _ K M=>?_;refine Qb 2 K M fun _ K=>?_;refine oQ K M (yE (.mk o a b g n l) 2001 R _ _ M.fresh (M.Yy hR) hr0 Q8 Q8) rfl rfl fun _ _ K M=>?_;refine Qb 1 K M ?_;exact⟨rfl,M.qt⟩

theorem G4(hf:Qi st)(hR:Yy R st.h.get)(hr:YI R (.mk o a b g n l) cs): ∃v st',Jf 51 [.agg cs] st v st'∧v=iZ (min ((Vg (.mk o a b g n l):Nat):Int) 2001)∧Qt st st':=by
 have hr0:=hr;obtain⟨kc,ls,rfl,hK⟩:=hr.U0;have hln:=hK.ln;have hbn:=hK.W3;refine J7 Tryz.func51 Tryz.ntmps51 fun T K=>?_;have M:=Mem.start hf;refine Qb 0 K M fun _ K=>?_;refine Jv K M rfl (Qa rfl (Qa rfl (Qa rfl (Qa rfl (Qa rfl (Qa hK.cell Qz)))))) Q8 fun c1 _ _ K M=>?_;refine Qb 2 K M fun _ K=>?_;refine oQ K M (Mn (.mk o a b g n l) 2001 R _ _ M.fresh (M.Yy hR) hr0 Q8 Q8) rfl rfl fun _ _ K M=>?_;refine Qb 1 K M ?_;exact⟨rfl,M.qt⟩

theorem x7(hf:Qi st)(o:List Nat): ∃v st',Jf 85 [.str o] st v st'∧v=.tup [.str (Uj o).1,iZ (Uj o).2.1,.bool (Uj o).2.2]∧Qt st st':=by
 refine J7 Tryz.func85 Tryz.ntmps85 fun T K=>?_;have M:=Mem.start hf;refine au 4 K M ?_;intro c9 _ _ K _ M;replace M:Mem st.h.get st.n [] _ [(c9,0,[.str [116,114,117,101],.str [115,117,98],.str [115,105,110,103],.str [102,108,97,103],.str [110,111,110,101],.str [108,101,115,115],.str [112,108,117,115],.str [110,117,109],.str [117,110,105,111,110],.str [105,110,116,101,114],.str [109,105,110,117,115],.str [110,111,116],.str [97,110,100],.str [101,120]])]:=M;refine au 2 K M ?_;intro c10 _ _ K _ M;replace M:Mem st.h.get st.n [] _ [(c10,0,[.str [],.str [65,66],.str [65],.str [65],.str [65],.str [65,66],.str [65,66,78],.str [65,78],.str [65,66,67],.str [65,66,67],.str [65,66,67],.str [],.str [],.str [65]]),(c9,0,[.str [116,114,117,101],.str [115,117,98],.str [115,105,110,103],.str [102,108,97,103],.str [110,111,110,101],.str [108,101,115,115],.str [112,108,117,115],.str [110,117,109],.str [117,110,105,111,110],.str [105,110,116,101,114],.str [109,105,110,117,115],.str [110,111,116],.str [97,110,100],.str [101,120]])]:=M;refine au 4 K M ?_;intro c11 _ _ K _ M;refine Jd ?_;refine Qb 4 K M fun _ K=>?_;refine Uq K rfl (fun h15=>?_) fun h15=>?_
 ·have hb15:=h15;replace h15:=of_decide_eq_true h15;refine Qb 2 K M fun _ K=>?_;refine p1 K (Qe QP rfl rfl Q8) fun _ K=>?_;refine Qb 3 K M fun _ K=>?_;refine Uq K rfl (fun h23=>?_) fun h23=>?_
  ·have hb23:=h23;replace h23:=of_decide_eq_true h23;refine Jy ?_;refine QA (l:=[(0,0),(1,0),(2,0),(3,0),(4,0),(5,0),(6,0),(7,0),(8,0),(9,0),(10,0)]) (by kernel_rfl) ?_;refine Jo 2 K M fun _ K=>?_;refine q1 rfl K (Qe QP rfl rfl Q8) fun _ K=>?_;refine Jo 3 K M fun _ K=>?_;refine q1 rfl K (Qe Qo rfl rfl Q8) fun _ K=>?_;refine Jo 4 K M fun _ K=>?_;refine QF ?_;show W _ _ _ _ _ _ _;refine Jx ⟨.inr rfl,_,(Jw (Q6 K rfl) (Q6 K rfl) (Q6 K rfl)),?_⟩;refine⟨?_,M.qt⟩;unfold Uj
   first|(simp_all;done)|(simp_all;rfl)
  have hb23:=h23;replace h23:=of_decide_eq_false h23;refine Qb 3 K M fun _ K=>?_;refine Jd ?_;refine Qb 4 K M fun _ K=>?_;refine Uq K rfl (fun h15=>?_) fun h15=>?_
  ·have hb15:=h15;replace h15:=of_decide_eq_true h15;refine Qb 2 K M fun _ K=>?_;refine p1 K (Qe QP rfl rfl Q8) fun _ K=>?_;refine Qb 3 K M fun _ K=>?_;refine Uq K rfl (fun h23=>?_) fun h23=>?_
   ·have hb23:=h23;replace h23:=of_decide_eq_true h23;refine Jy ?_;refine QA (l:=[(0,0),(1,0),(2,0),(3,0),(4,0),(5,0),(6,0),(7,0),(8,0),(9,0),(10,0)]) (by kernel_rfl) ?_;refine Jo 2 K M fun _ K=>?_;refine q1 rfl K (Qe QP rfl rfl Q8) fun _ K=>?_;refine Jo 3 K M fun _ K=>?_;refine q1 rfl K (Qe Qo rfl rfl Q8) fun _ K=>?_;refine Jo 4 K M fun _ K=>?_;refine QF ?_;show W _ _ _ _ _ _ _;refine Jx ⟨.inr rfl,_,(Jw (Q6 K rfl) (Q6 K rfl) (Q6 K rfl)),?_⟩;refine⟨?_,M.qt⟩;unfold Uj
    first|(simp_all;done)|(simp_all;rfl)
   have hb23:=h23;replace h23:=of_decide_eq_false h23;refine Qb 3 K M fun _ K=>?_;refine Jd ?_;refine Qb 4 K M fun _ K=>?_;refine Uq K rfl (fun h15=>?_) fun h15=>?_
   ·have hb15:=h15;replace h15:=of_decide_eq_true h15;refine Qb 2 K M fun _ K=>?_;refine p1 K (Qe QP rfl rfl Q8) fun _ K=>?_;refine Qb 3 K M fun _ K=>?_;refine Uq K rfl (fun h23=>?_) fun h23=>?_
    ·have hb23:=h23;replace h23:=of_decide_eq_true h23;refine Jy ?_;refine QA (l:=[(0,0),(1,0),(2,0),(3,0),(4,0),(5,0),(6,0),(7,0),(8,0),(9,0),(10,0)]) (by kernel_rfl) ?_;refine Jo 2 K M fun _ K=>?_;refine q1 rfl K (Qe QP rfl rfl Q8) fun _ K=>?_;refine Jo 3 K M fun _ K=>?_;refine q1 rfl K (Qe Qo rfl rfl Q8) fun _ K=>?_;refine Jo 4 K M fun _ K=>?_;refine QF ?_;show W _ _ _ _ _ _ _;refine Jx ⟨.inr rfl,_,(Jw (Q6 K rfl) (Q6 K rfl) (Q6 K rfl)),?_⟩;refine⟨?_,M.qt⟩;unfold Uj
     first|(simp_all;done)|(simp_all;rfl)
    have hb23:=h23;replace h23:=of_decide_eq_false h23;refine Qb 3 K M fun _ K=>?_;refine Jd ?_;refine Qb 4 K M fun _ K=>?_;refine Uq K rfl (fun h15=>?_) fun h15=>?_
    ·have hb15:=h15;replace h15:=of_decide_eq_true h15;refine Qb 2 K M fun _ K=>?_;refine p1 K (Qe QP rfl rfl Q8) fun _ K=>?_;refine Qb 3 K M fun _ K=>?_;refine Uq K rfl (fun h23=>?_) fun h23=>?_
     ·have hb23:=h23;replace h23:=of_decide_eq_true h23;refine Jy ?_;refine QA (l:=[(0,0),(1,0),(2,0),(3,0),(4,0),(5,0),(6,0),(7,0),(8,0),(9,0),(10,0)]) (by kernel_rfl) ?_;refine Jo 2 K M fun _ K=>?_;refine q1 rfl K (Qe QP rfl rfl Q8) fun _ K=>?_;refine Jo 3 K M fun _ K=>?_;refine q1 rfl K (Qe Qo rfl rfl Q8) fun _ K=>?_;refine Jo 4 K M fun _ K=>?_;refine QF ?_;show W _ _ _ _ _ _ _;refine Jx ⟨.inr rfl,_,(Jw (Q6 K rfl) (Q6 K rfl) (Q6 K rfl)),?_⟩;refine⟨?_,M.qt⟩;unfold Uj
      first|(simp_all;done)|(simp_all;rfl)
     have hb23:=h23;replace h23:=of_decide_eq_false h23;refine Qb 3 K M fun _ K=>?_;refine Jd ?_;refine Qb 4 K M fun _ K=>?_;refine Uq K rfl (fun h15=>?_) fun h15=>?_
     ·have hb15:=h15;replace h15:=of_decide_eq_true h15;refine Qb 2 K M fun _ K=>?_;refine p1 K (Qe QP rfl rfl Q8) fun _ K=>?_;refine Qb 3 K M fun _ K=>?_;refine Uq K rfl (fun h23=>?_) fun h23=>?_
      ·have hb23:=h23;replace h23:=of_decide_eq_true h23;refine Jy ?_;refine QA (l:=[(0,0),(1,0),(2,0),(3,0),(4,0),(5,0),(6,0),(7,0),(8,0),(9,0),(10,0)]) (by kernel_rfl) ?_;refine Jo 2 K M fun _ K=>?_;refine q1 rfl K (Qe QP rfl rfl Q8) fun _ K=>?_;refine Jo 3 K M fun _ K=>?_;refine q1 rfl K (Qe Qo rfl rfl Q8) fun _ K=>?_;refine Jo 4 K M fun _ K=>?_;refine QF ?_;show W _ _ _ _ _ _ _;refine Jx ⟨.inr rfl,_,(Jw (Q6 K rfl) (Q6 K rfl) (Q6 K rfl)),?_⟩;refine⟨?_,M.qt⟩;unfold Uj
       first|(simp_all;done)|(simp_all;rfl)
      have hb23:=h23;replace h23:=of_decide_eq_false h23;refine Qb 3 K M fun _ K=>?_;refine Jd ?_;refine Qb 4 K M fun _ K=>?_;refine Uq K rfl (fun h15=>?_) fun h15=>?_
      ·have hb15:=h15;replace h15:=of_decide_eq_true h15;refine Qb 2 K M fun _ K=>?_;refine p1 K (Qe QP rfl rfl Q8) fun _ K=>?_;refine Qb 3 K M fun _ K=>?_;refine Uq K rfl (fun h23=>?_) fun h23=>?_
       ·have hb23:=h23;replace h23:=of_decide_eq_true h23;refine Jy ?_;refine QA (l:=[(0,0),(1,0),(2,0),(3,0),(4,0),(5,0),(6,0),(7,0),(8,0),(9,0),(10,0)]) (by kernel_rfl) ?_;refine Jo 2 K M fun _ K=>?_;refine q1 rfl K (Qe QP rfl rfl Q8) fun _ K=>?_;refine Jo 3 K M fun _ K=>?_;refine q1 rfl K (Qe Qo rfl rfl Q8) fun _ K=>?_;refine Jo 4 K M fun _ K=>?_;refine QF ?_;show W _ _ _ _ _ _ _;refine Jx ⟨.inr rfl,_,(Jw (Q6 K rfl) (Q6 K rfl) (Q6 K rfl)),?_⟩;refine⟨?_,M.qt⟩;unfold Uj
        first|(simp_all;done)|(simp_all;rfl)
       have hb23:=h23;replace h23:=of_decide_eq_false h23;refine Qb 3 K M fun _ K=>?_;refine Jd ?_;refine Qb 4 K M fun _ K=>?_;refine Uq K rfl (fun h15=>?_) fun h15=>?_
       ·have hb15:=h15;replace h15:=of_decide_eq_true h15;refine Qb 2 K M fun _ K=>?_;refine p1 K (Qe QP rfl rfl Q8) fun _ K=>?_;refine Qb 3 K M fun _ K=>?_;refine Uq K rfl (fun h23=>?_) fun h23=>?_
        ·have hb23:=h23;replace h23:=of_decide_eq_true h23;refine Jy ?_;refine QA (l:=[(0,0),(1,0),(2,0),(3,0),(4,0),(5,0),(6,0),(7,0),(8,0),(9,0),(10,0)]) (by kernel_rfl) ?_;refine Jo 2 K M fun _ K=>?_;refine q1 rfl K (Qe QP rfl rfl Q8) fun _ K=>?_;refine Jo 3 K M fun _ K=>?_;refine q1 rfl K (Qe Qo rfl rfl Q8) fun _ K=>?_;refine Jo 4 K M fun _ K=>?_;refine QF ?_;show W _ _ _ _ _ _ _;refine Jx ⟨.inr rfl,_,(Jw (Q6 K rfl) (Q6 K rfl) (Q6 K rfl)),?_⟩;refine⟨?_,M.qt⟩;unfold Uj
         first|(simp_all;done)|(simp_all;rfl)
        have hb23:=h23;replace h23:=of_decide_eq_false h23;refine Qb 3 K M fun _ K=>?_;refine Jd ?_;refine Qb 4 K M fun _ K=>?_;refine Uq K rfl (fun h15=>?_) fun h15=>?_
        ·have hb15:=h15;replace h15:=of_decide_eq_true h15;refine Qb 2 K M fun _ K=>?_;refine p1 K (Qe QP rfl rfl Q8) fun _ K=>?_;refine Qb 3 K M fun _ K=>?_;refine Uq K rfl (fun h23=>?_) fun h23=>?_
         ·have hb23:=h23;replace h23:=of_decide_eq_true h23;refine Jy ?_;refine QA (l:=[(0,0),(1,0),(2,0),(3,0),(4,0),(5,0),(6,0),(7,0),(8,0),(9,0),(10,0)]) (by kernel_rfl) ?_;refine Jo 2 K M fun _ K=>?_;refine q1 rfl K (Qe QP rfl rfl Q8) fun _ K=>?_;refine Jo 3 K M fun _ K=>?_;refine q1 rfl K (Qe Qo rfl rfl Q8) fun _ K=>?_;refine Jo 4 K M fun _ K=>?_;refine QF ?_;show W _ _ _ _ _ _ _;refine Jx ⟨.inr rfl,_,(Jw (Q6 K rfl) (Q6 K rfl) (Q6 K rfl)),?_⟩;refine⟨?_,M.qt⟩;unfold Uj
          first|(simp_all;done)|(simp_all;rfl)
         have hb23:=h23;replace h23:=of_decide_eq_false h23;refine Qb 3 K M fun _ K=>?_;refine Jd ?_;refine Qb 4 K M fun _ K=>?_;refine Uq K rfl (fun h15=>?_) fun h15=>?_
         ·have hb15:=h15;replace h15:=of_decide_eq_true h15;refine Qb 2 K M fun _ K=>?_;refine p1 K (Qe QP rfl rfl Q8) fun _ K=>?_;refine Qb 3 K M fun _ K=>?_;refine Uq K rfl (fun h23=>?_) fun h23=>?_
          ·have hb23:=h23;replace h23:=of_decide_eq_true h23;refine Jy ?_;refine QA (l:=[(0,0),(1,0),(2,0),(3,0),(4,0),(5,0),(6,0),(7,0),(8,0),(9,0),(10,0)]) (by kernel_rfl) ?_;refine Jo 2 K M fun _ K=>?_;refine q1 rfl K (Qe QP rfl rfl Q8) fun _ K=>?_;refine Jo 3 K M fun _ K=>?_;refine q1 rfl K (Qe Qo rfl rfl Q8) fun _ K=>?_;refine Jo 4 K M fun _ K=>?_;refine QF ?_;show W _ _ _ _ _ _ _;refine Jx ⟨.inr rfl,_,(Jw (Q6 K rfl) (Q6 K rfl) (Q6 K rfl)),?_⟩;refine⟨?_,M.qt⟩;unfold Uj
           first|(simp_all;done)|(simp_all;rfl)
          have hb23:=h23;replace h23:=of_decide_eq_false h23;refine Qb 3 K M fun _ K=>?_;refine Jd ?_;refine Qb 4 K M fun _ K=>?_;refine Uq K rfl (fun h15=>?_) fun h15=>?_
          ·have hb15:=h15;replace h15:=of_decide_eq_true h15;refine Qb 2 K M fun _ K=>?_;refine p1 K (Qe QP rfl rfl Q8) fun _ K=>?_;refine Qb 3 K M fun _ K=>?_;refine Uq K rfl (fun h23=>?_) fun h23=>?_
           ·have hb23:=h23;replace h23:=of_decide_eq_true h23;refine Jy ?_;refine QA (l:=[(0,0),(1,0),(2,0),(3,0),(4,0),(5,0),(6,0),(7,0),(8,0),(9,0),(10,0)]) (by kernel_rfl) ?_;refine Jo 2 K M fun _ K=>?_;refine q1 rfl K (Qe QP rfl rfl Q8) fun _ K=>?_;refine Jo 3 K M fun _ K=>?_;refine q1 rfl K (Qe Qo rfl rfl Q8) fun _ K=>?_;refine Jo 4 K M fun _ K=>?_;refine QF ?_;show W _ _ _ _ _ _ _;refine Jx ⟨.inr rfl,_,(Jw (Q6 K rfl) (Q6 K rfl) (Q6 K rfl)),?_⟩;refine⟨?_,M.qt⟩;unfold Uj
            first|(simp_all;done)|(simp_all;rfl)
           have hb23:=h23;replace h23:=of_decide_eq_false h23;refine Qb 3 K M fun _ K=>?_;refine Jd ?_;refine Qb 4 K M fun _ K=>?_;refine Uq K rfl (fun h15=>?_) fun h15=>?_
           ·have hb15:=h15;replace h15:=of_decide_eq_true h15;refine Qb 2 K M fun _ K=>?_;refine p1 K (Qe QP rfl rfl Q8) fun _ K=>?_;refine Qb 3 K M fun _ K=>?_;refine Uq K rfl (fun h23=>?_) fun h23=>?_
            ·have hb23:=h23;replace h23:=of_decide_eq_true h23;refine Jy ?_;refine QA (l:=[(0,0),(1,0),(2,0),(3,0),(4,0),(5,0),(6,0),(7,0),(8,0),(9,0),(10,0)]) (by kernel_rfl) ?_;refine Jo 2 K M fun _ K=>?_;refine q1 rfl K (Qe QP rfl rfl Q8) fun _ K=>?_;refine Jo 3 K M fun _ K=>?_;refine q1 rfl K (Qe Qo rfl rfl Q8) fun _ K=>?_;refine Jo 4 K M fun _ K=>?_;refine QF ?_;show W _ _ _ _ _ _ _;refine Jx ⟨.inr rfl,_,(Jw (Q6 K rfl) (Q6 K rfl) (Q6 K rfl)),?_⟩;refine⟨?_,M.qt⟩;unfold Uj
             first|(simp_all;done)|(simp_all;rfl)
            have hb23:=h23;replace h23:=of_decide_eq_false h23;refine Qb 3 K M fun _ K=>?_;refine Jd ?_;refine Qb 4 K M fun _ K=>?_;refine Uq K rfl (fun h15=>?_) fun h15=>?_
            ·have hb15:=h15;replace h15:=of_decide_eq_true h15;refine Qb 2 K M fun _ K=>?_;refine p1 K (Qe QP rfl rfl Q8) fun _ K=>?_;refine Qb 3 K M fun _ K=>?_;refine Uq K rfl (fun h23=>?_) fun h23=>?_
             ·have hb23:=h23;replace h23:=of_decide_eq_true h23;refine Jy ?_;refine QA (l:=[(0,0),(1,0),(2,0),(3,0),(4,0),(5,0),(6,0),(7,0),(8,0),(9,0),(10,0)]) (by kernel_rfl) ?_;refine Jo 2 K M fun _ K=>?_;refine q1 rfl K (Qe QP rfl rfl Q8) fun _ K=>?_;refine Jo 3 K M fun _ K=>?_;refine q1 rfl K (Qe Qo rfl rfl Q8) fun _ K=>?_;refine Jo 4 K M fun _ K=>?_;refine QF ?_;show W _ _ _ _ _ _ _;refine Jx ⟨.inr rfl,_,(Jw (Q6 K rfl) (Q6 K rfl) (Q6 K rfl)),?_⟩;refine⟨?_,M.qt⟩;unfold Uj
              first|(simp_all;done)|(simp_all;rfl)
             have hb23:=h23;replace h23:=of_decide_eq_false h23;refine Qb 3 K M fun _ K=>?_;refine Jd ?_;refine Qb 4 K M fun _ K=>?_;refine Uq K rfl (fun h15=>?_) fun h15=>?_
             ·have hb15:=h15;replace h15:=of_decide_eq_true h15;refine Qb 2 K M fun _ K=>?_;refine p1 K (Qe QP rfl rfl Q8) fun _ K=>?_;refine Qb 3 K M fun _ K=>?_;refine Uq K rfl (fun h23=>?_) fun h23=>?_
              ·have hb23:=h23;replace h23:=of_decide_eq_true h23;refine Jy ?_;refine QA (l:=[(0,0),(1,0),(2,0),(3,0),(4,0),(5,0),(6,0),(7,0),(8,0),(9,0),(10,0)]) (by kernel_rfl) ?_;refine Jo 2 K M fun _ K=>?_;refine q1 rfl K (Qe QP rfl rfl Q8) fun _ K=>?_;refine Jo 3 K M fun _ K=>?_;refine q1 rfl K (Qe Qo rfl rfl Q8) fun _ K=>?_;refine Jo 4 K M fun _ K=>?_;refine QF ?_;show W _ _ _ _ _ _ _;refine Jx ⟨.inr rfl,_,(Jw (Q6 K rfl) (Q6 K rfl) (Q6 K rfl)),?_⟩;refine⟨?_,M.qt⟩;unfold Uj
               first|(simp_all;done)|(simp_all;rfl)
              have hb23:=h23;replace h23:=of_decide_eq_false h23;refine Qb 3 K M fun _ K=>?_;refine Jd ?_;refine Qb 4 K M fun _ K=>?_;refine Uq K rfl (fun h15=>?_) fun h15=>?_
              ·have hb15:=h15;replace h15:=of_decide_eq_true h15;refine Qb 2 K M fun _ K=>?_;refine p1 K (Qe QP rfl rfl Q8) fun _ K=>?_;refine Qb 3 K M fun _ K=>?_;refine Uq K rfl (fun h23=>?_) fun h23=>?_
               ·have hb23:=h23;replace h23:=of_decide_eq_true h23;refine Jy ?_;refine QA (l:=[(0,0),(1,0),(2,0),(3,0),(4,0),(5,0),(6,0),(7,0),(8,0),(9,0),(10,0)]) (by kernel_rfl) ?_;refine Jo 2 K M fun _ K=>?_;refine q1 rfl K (Qe QP rfl rfl Q8) fun _ K=>?_;refine Jo 3 K M fun _ K=>?_;refine q1 rfl K (Qe Qo rfl rfl Q8) fun _ K=>?_;refine Jo 4 K M fun _ K=>?_;refine QF ?_;show W _ _ _ _ _ _ _;refine Jx ⟨.inr rfl,_,(Jw (Q6 K rfl) (Q6 K rfl) (Q6 K rfl)),?_⟩;refine⟨?_,M.qt⟩;unfold Uj
                first|(simp_all;done)|(simp_all;rfl)
               have hb23:=h23;replace h23:=of_decide_eq_false h23;refine Qb 3 K M fun _ K=>?_;refine Jd ?_;refine Qb 4 K M fun _ K=>?_;refine Uq K rfl (fun h15=>?_) fun h15=>?_
               ·have hb15:=h15;replace h15:=of_decide_eq_true h15
                exfalso;omega
               have hb15:=h15;replace h15:=of_decide_eq_false h15;refine QK ?_;show W _ _ _ _ _ _ _;refine Qb 3 K M fun _ K=>?_;refine Jx ⟨.inr rfl,_,(Jw (Q6 K rfl) (Q6 K rfl) (Q6 K rfl)),?_⟩;refine⟨?_,M.qt⟩;unfold Uj
               first|(simp_all;done)|(simp_all;rfl)
              have hb15:=h15;replace h15:=of_decide_eq_false h15
              exfalso;omega
             have hb15:=h15;replace h15:=of_decide_eq_false h15
             exfalso;omega
            have hb15:=h15;replace h15:=of_decide_eq_false h15
            exfalso;omega
           have hb15:=h15;replace h15:=of_decide_eq_false h15
           exfalso;omega
          have hb15:=h15;replace h15:=of_decide_eq_false h15
          exfalso;omega
         have hb15:=h15;replace h15:=of_decide_eq_false h15
         exfalso;omega
        have hb15:=h15;replace h15:=of_decide_eq_false h15
        exfalso;omega
       have hb15:=h15;replace h15:=of_decide_eq_false h15
       exfalso;omega
      have hb15:=h15;replace h15:=of_decide_eq_false h15
      exfalso;omega
     have hb15:=h15;replace h15:=of_decide_eq_false h15
     exfalso;omega
    have hb15:=h15;replace h15:=of_decide_eq_false h15
    exfalso;omega
   have hb15:=h15;replace h15:=of_decide_eq_false h15
   exfalso;omega
  have hb15:=h15;replace h15:=of_decide_eq_false h15
  exfalso;omega
 have hb15:=h15;replace h15:=of_decide_eq_false h15
 exfalso;omega

theorem AZ(hf:Qi st)(h:List Nat)(hl:h.length≤1000)(k:Nat)(u n:Int): ∃v st',Jf 86 [.str h,.int .u8 (((k:Nat):Int)),iZ u,iZ n] st v st'∧v=.bool (JL h k u n)∧Qt st st':=by
 refine J7 Tryz.func86 Tryz.ntmps86 fun T K=>?_;have M:=Mem.start hf;refine Qb 2 K M fun _ K=>?_;refine QX (fun mm1 T st9=> ∃(i:Nat),mm1=h.length-i∧QS [(0,.str h),(1,.int .u8 (((k:Nat):Int))),(2,iZ u),(3,iZ n),(9,iN i)] T∧Mem st.h.get st.n [] st9 []∧i≤h.length∧(∀(j x:Nat),j<i→h[j]? =some x→ ¬x=k)) (fun mm1 T st9 hI=>?_) _ _ _ ⟨0,rfl,(K.sub rfl),M.less (.refl _),(Nat.zero_le _),(fun j x hj=>by omega)⟩;obtain⟨i,rfl,K,M,hi,hx⟩:=hI;refine Qb 2 K M fun _ K=>?_;refine p1 K (xJ W8 rfl rfl) fun _ K=>?_;refine Qb 1 K M fun _ K=>?_;refine Jt K rfl (fun h13=>?_) fun h13=>?_
 ·refine Qb 2 K M fun _ K=>?_;obtain⟨y18,hy18⟩:=Uy h i Qc;refine p1 K (M4 W8 rfl rfl hy18) fun _ K=>?_;refine Qb 2 K M fun _ K=>?_;refine Jt K rfl (fun h20=>?_) fun h20=>?_
  ·refine Qb 2 K M fun _ K=>?_;refine Ug K rfl (fun _ e23 K=>?_) fun _ e23 K=>?_
   ·refine Qb 5 K M ?_;refine⟨?_,M.qt⟩
    have hmem:k∈h:=by have:=List.mem_of_getElem? hy18;rwa [show y18=k by omega]at this
    rw[JL,if_pos hmem]
    first|(simp_all [Qj];done)|(simp_all [Qj]<;>(intros;omega))
   refine Qb 5 K M ?_;refine⟨?_,M.qt⟩
   have hmem:k∈h:=by have:=List.mem_of_getElem? hy18;rwa [show y18=k by omega]at this
   rw[JL,if_pos hmem]
   first|(simp_all [Qj];done)|(simp_all [Qj]<;>(intros;omega))
  refine Qb 3 K M fun _ K=>?_;exact⟨_,Qc,i+1,rfl,(K.sub rfl),M.less (.refl _),Qc,(fun j x hj hq=>by by_cases e:j=i;subst e;rw[hy18]at hq;injection hq with hq;omega;exact hx j x Qc hq)⟩
 refine QK ?_;show W _ _ _ _ _ _ _;refine Qb 3 K M ?_;refine⟨?_,M.qt⟩
 have hmem: ¬k∈h:=fun hm=>by obtain⟨j,hj⟩:=List.getElem?_of_mem hm;exact hx j k (by have:=(List.getElem?_eq_some_iff.1 hj).1;omega) hj rfl
 rw[JL,if_neg hmem]

theorem YO{c:Prop} [Decidable c]{a b:List Nat×Int×Bool}(ha:a.1.length≤1000)(hb:b.1.length≤1000):(if c then a else b).1.length≤1000:=by
 split<;>assumption
theorem Ij(o:List Nat):(Uj o).1.length≤1000:=by
 unfold Uj;refine YO Q8 ?_;refine YO Q8 ?_;refine YO Q8 ?_;refine YO Q8 ?_;refine YO Q8 ?_;refine YO Q8 ?_;refine YO Q8 ?_;refine YO Q8 ?_;refine YO Q8 ?_;refine YO Q8 ?_;refine YO Q8 ?_;refine YO Q8 ?_;refine YO Q8 ?_;refine YO Q8 ?_;decide

theorem ak(x:Cr): ∀(m:Int) (R:VN) (st:St) (cs:List AV),Qi st→Yy R st.h.get→YI R x cs→ -100≤m→m≤100→ ∃v st',Jf 59 [.agg cs,iZ m] st v st'∧v=.bool (QV x m)∧Qt st st':=by
 refine E9 (M:=fun x=> ∀(m:Int) (R:VN) (st:St) (cs:List AV),Qi st→Yy R st.h.get→YI R x cs→ -100≤m→m≤100→ ∃v st',Jf 59 [.agg cs,iZ m] st v st'∧v=.bool (QV x m)∧Qt st st') (fun o a b g n l ih=>?_) x;intro m R st cs hf hR hr hm1 hm2;have hr0:=hr;obtain⟨kc,ls,rfl,hK⟩:=hr.U0;have hln:=hK.ln;have hbn:=hK.W3;refine J7 Tryz.func59 Tryz.ntmps59 fun T K=>?_;have M:=Mem.start hf;refine Qb 0 K M fun _ K=>?_;refine Jv K M rfl (Qa rfl (Qa rfl (Qa rfl (Qa rfl (Qa rfl (Qa hK.cell Qz)))))) Q8 fun c2 _ _ K M=>?_;refine Qb 3 K M fun _ K=>?_;refine oQ K M (x7 M.fresh o) rfl rfl fun _ _ K M=>?_;refine Qb 9 K M fun _ K=>?_;refine oB K (Qy rfl) rfl fun b18 _ e18 K=>?_;cases b18
 ·replace e18:((Uj o).2.2)=true:=by simpa using e18
  refine Qb 2 K M fun _ K=>?_;refine pg K rfl rfl (Q5 JN rfl rfl hK.len) fun _ K=>?_;refine Qb 3 K M fun _ K=>?_;refine qR K rfl (fun _ e25 K=>?_) fun _ e25 K=>?_
  ·refine Qb 3 K M fun _ K=>?_;obtain⟨v29,st29,ev29,rfl,q29⟩:=AZ M.fresh (Uj o).1 (Ij o) 78 n 21;refine pg K rfl rfl (Qf rfl ev29) fun _ K=>?_;replace M:=M.quiet q29;refine Qb 2 K M fun _ K=>?_;refine Uq K rfl (fun h31=>?_) fun h31=>?_
   ·have hb31:=h31
    replace h31:(JL (Uj o).1 78 n 21)=false:=by simpa using h31
    refine Qb 1 K M ?_;refine⟨congrArg AV.bool ?_,M.qt⟩;clear M K ih hr hr0 hK hR hf;rw[QV]
    first|(simp[*];done)|(simp_all;done)|(simp_all;omega)
   have hb31:=h31
   replace h31:(JL (Uj o).1 78 n 21)=true:=by simpa using h31
   refine Qb 2 K M fun _ K=>?_;refine p1 K (QG (b:=[101,120]) rfl rfl) fun _ K=>?_;refine Qb 0 K M fun _ K=>?_;refine Jt K rfl (fun h34=>?_) fun h34=>?_
   ·refine Jy ?_
    have hl1:l.length=1:=by rw[h34,show(Uj [101,120]).2.1=1 by decide]at e25;omega
    refine Qb 4 K M fun _ K=>?_;refine Ug K rfl (fun _ e39 K=>?_) fun _ e39 K=>?_
    ·refine Qb 23 K M ?_;refine⟨congrArg AV.bool ?_,M.qt⟩;clear M K ih hr hr0 hK hR hf;rw[QV]
     first|(simp[*];done)|(simp_all;done)|(simp_all;omega)
    refine Qb 3 K M fun _ K=>?_;refine Ug K rfl (fun _ e43 K=>?_) fun _ e43 K=>?_
    ·refine Qb 19 K M ?_;refine⟨congrArg AV.bool ?_,M.qt⟩;clear M K ih hr hr0 hK hR hf;rw[QV]
     first|(simp[*];done)|(simp_all;done)|(simp_all;omega)
    refine Qb 4 K M fun _ K=>?_;refine Ug K rfl (fun _ e48 K=>?_) fun _ e48 K=>?_
    ·refine Qb 14 K M ?_;refine⟨congrArg AV.bool ?_,M.qt⟩;clear M K ih hr hr0 hK hR hf;rw[QV]
     first|(simp[*];done)|(simp_all;done)|(simp_all;omega)
    refine Qb 4 K M fun _ K=>?_;refine Ug K rfl (fun _ e53 K=>?_) fun _ e53 K=>?_
    ·refine Qb 9 K M ?_;refine⟨congrArg AV.bool ?_,M.qt⟩;clear M K ih hr hr0 hK hR hf;rw[QV]
     first|(simp[*];done)|(simp_all;done)|(simp_all;omega)
    refine Qb 2 K M fun _ K=>?_;obtain⟨⟨o56,a56,b56,g56,n56,l56⟩,hi56⟩: ∃k,l[0]? =some k:=⟨_,List.getElem?_eq_getElem Qc⟩;have hm56:=VI hi56;obtain⟨_,hc56,hn56⟩:=hK.get hi56;have hp56:=hn56;obtain⟨kc56,ls56,rfl,hK56⟩:=hp56.U0;obtain⟨x56,m56,f56,q56,_,la56,lo56,lp56⟩:=(hK.r (M.Yy hR)).load (i:=0) (cs:=_) hc56;refine pg K rfl rfl (Qe (j:=0) Ji (congrArg some q56) rfl (by rw[hK.ln];omega)) fun _ K=>pg K rfl rfl (Qg rfl (la56 _ QW)) fun _ K=>?_;refine Qb 2 K M fun _ K=>?_;obtain⟨v60,st60,ev60,rfl,q60⟩:=ih _ hm56 (m+1) R _ _ M.fresh (M.Yy hR) hn56 Qc Qc;refine pg K rfl rfl (Qf rfl ev60) fun _ K=>?_;replace M:=M.quiet q60;refine Qb 2 K M ?_;have hcl:Xu l (m+1)=QV (.mk o56 a56 b56 g56 n56 l56) (m+1):=qo hl1 hi56;refine⟨congrArg AV.bool ?_,M.qt⟩;clear M K ih hr hr0 hK hR hf;rw[←hcl,QV];simp only[e18,decide_eq_true e25,h31,if_pos h34,decide_eq_true e39,decide_eq_true e43,decide_eq_true e48,decide_eq_true e53,Bool.true_and]
   refine Qb 4 K M fun _ K=>?_;refine oQ K M (AZ M.fresh (Uj o).1 (Ij o) 65 a m) rfl rfl fun _ _ K M=>?_;refine Qb 1 K M fun _ K=>?_;refine oB K (Qy rfl) rfl fun b68 _ e68 K=>?_;cases b68
   ·replace e68:(JL (Uj o).1 65 a m)=true:=by simpa using e68
    refine Qb 4 K M fun _ K=>?_;obtain⟨v73,st73,ev73,rfl,q73⟩:=AZ M.fresh (Uj o).1 (Ij o) 66 b m;refine pg K rfl rfl (Qf rfl ev73) fun _ K=>?_;replace M:=M.quiet q73;refine Qb 2 K M fun _ K=>?_;refine oB K (Qy rfl) rfl fun b76 _ e76 K=>?_;cases b76
    ·replace e76:(JL (Uj o).1 66 b m)=true:=by simpa using e76
     refine Qb 4 K M fun _ K=>?_;obtain⟨v81,st81,ev81,rfl,q81⟩:=AZ M.fresh (Uj o).1 (Ij o) 67 g m;refine pg K rfl rfl (Qf rfl ev81) fun _ K=>?_;replace M:=M.quiet q81;refine Qb 2 K M fun _ K=>?_;refine Uq K rfl (fun h83=>?_) fun h83=>?_
     ·have hb83:=h83
      replace h83:(JL (Uj o).1 67 g m)=false:=by simpa using h83
      refine Qb 1 K M ?_;refine⟨congrArg AV.bool ?_,M.qt⟩;clear M K ih hr hr0 hK hR hf;rw[QV]
      first|(simp[*];done)|(simp_all;done)|(simp_all;omega)
     have hb83:=h83
     replace h83:(JL (Uj o).1 67 g m)=true:=by simpa using h83
     refine Qb 1 K M fun _ K=>?_;refine QX (fun mm1 T st9=> ∃(i:Nat),mm1=l.length-i∧QS [(1,iZ m),(2,.ptr c2 0 0),(6,iZ ((Uj o).2.1)),(8,iN i)] T∧Mem st.h.get st.n [] st9 [(c2,0,[.str o,iZ a,iZ b,iZ g,iZ n,kc])]∧i≤l.length∧(∀(j:Nat) (k:Cr),j<i→l[j]? =some k→QV k m=true)) (fun mm1 T st9 hI=>?_) _ _ _ ⟨0,rfl,(K.sub rfl),M.less (.refl _),(Nat.zero_le _),(fun j k hj=>absurd hj (Nat.not_lt_zero j))⟩;obtain⟨i,rfl,K,M,hi,hall⟩:=hI;refine Qb 3 K M fun _ K=>?_;refine Jt K rfl (fun h86=>?_) fun h86=>?_
     ·refine Qb 3 K M fun _ K=>?_;obtain⟨⟨o92,a92,b92,g92,n92,l92⟩,hi92⟩: ∃k,l[i]? =some k:=⟨_,List.getElem?_eq_getElem Qc⟩;have hm92:=VI hi92;obtain⟨_,hc92,hn92⟩:=hK.get hi92;have hp92:=hn92;obtain⟨kc92,ls92,rfl,hK92⟩:=hp92.U0;refine Te (hK.r (M.Yy hR)) hc92 K Ji QW rfl rfl fun _ _ _ _ K=>?_;refine Qb 1 K M fun _ K=>?_;refine oQ K M (ih _ hm92 m R _ _ M.fresh (M.Yy hR) hn92 Qc Qc) rfl rfl fun _ _ K M=>?_;refine Qb 1 K M fun _ K=>?_;refine Uq K rfl (fun h96=>?_) fun h96=>?_
      ·have hb96:=h96
       replace h96:(QV (.mk o92 a92 b92 g92 n92 l92) m)=false:=by simpa using h96
       refine Qb 1 K M ?_;have hcf:Xu l m=false:=Pu hi92 h96;refine⟨congrArg AV.bool ?_,M.qt⟩;clear M K ih hr hr0 hK hR hf;rw[QV]
       first|(simp[*];done)|(simp_all;done)|(simp_all;omega)
      have hb96:=h96
      replace h96:(QV (.mk o92 a92 b92 g92 n92 l92) m)=true:=by simpa using h96
      refine Qb 3 K M fun _ K=>?_;exact⟨_,Qc,i+1,rfl,(K.sub rfl),M.less (.refl _),Qc,(fun j k hj hq=>by by_cases e:j=i;subst e;rw[hi92]at hq;injection hq with hq;subst hq;exact h96;exact hall j k Qc hq)⟩
     refine QK ?_;show W _ _ _ _ _ _ _;refine Qb 1 K M ?_;have hct:Xu l m=true:=Sj fun j k hj=>hall j k (by have:=(List.getElem?_eq_some_iff.1 hj).1;omega) hj;refine⟨congrArg AV.bool ?_,M.qt⟩;clear M K ih hr hr0 hK hR hf;rw[QV]
     first|(simp[*];done)|(simp_all;done)|(simp_all;omega)
    replace e76:(JL (Uj o).1 66 b m)=false:=by simpa using e76
    refine Qb 9 K M ?_;refine⟨congrArg AV.bool ?_,M.qt⟩;clear M K ih hr hr0 hK hR hf;rw[QV]
    first|(simp[*];done)|(simp_all;done)|(simp_all;omega)
   replace e68:(JL (Uj o).1 65 a m)=false:=by simpa using e68
   refine Qb 17 K M ?_;refine⟨congrArg AV.bool ?_,M.qt⟩;clear M K ih hr hr0 hK hR hf;rw[QV]
   first|(simp[*];done)|(simp_all;done)|(simp_all;omega)
  refine Qb 8 K M ?_;refine⟨congrArg AV.bool ?_,M.qt⟩;clear M K ih hr hr0 hK hR hf;rw[QV]
  first|(simp[*];done)|(simp_all;done)|(simp_all;omega)
 replace e18:((Uj o).2.2)=false:=by simpa using e18
 refine Qb 15 K M ?_;refine⟨congrArg AV.bool ?_,M.qt⟩;clear M K ih hr hr0 hK hR hf;rw[QV]
 first|(simp[*];done)|(simp_all;done)|(simp_all;omega)

theorem SX(hf:Qi st)(hR:Yy R st.h.get)(hr:YI R (.mk o a b g n l) cs)(m:Int): ∃v st',Jf 33 [.agg cs,iZ m] st v st'∧v=.bool (decide (0≤m)&&decide (m≤6)&&decide (Vg (.mk o a b g n l)≤2000)&&QV (.mk o a b g n l) m)∧Qt st st':=by
 have hr0:=hr;obtain⟨kc,ls,rfl,hK⟩:=hr.U0;have hln:=hK.ln;have hbn:=hK.W3;refine J7 Tryz.func33 Tryz.ntmps33 fun T K=>?_;have M:=Mem.start hf;refine Qb 0 K M fun _ K=>?_;refine Jv K M rfl (Qa rfl (Qa rfl (Qa rfl (Qa rfl (Qa rfl (Qa hK.cell Qz)))))) Q8 fun c2 _ _ K M=>?_;refine Qb 3 K M fun _ K=>?_;refine Ug K rfl (fun _ e7 K=>?_) fun _ e7 K=>?_
 ·refine Qb 14 K M ?_;refine⟨congrArg AV.bool ?_,M.qt⟩;clear M K hr hr0 hK hR hf
  first|(simp[*];done)|(simp[*];omega)|(simp_all;done)|(simp_all;omega)
 refine Qb 3 K M fun _ K=>?_;refine Ug K rfl (fun _ e11 K=>?_) fun _ e11 K=>?_
 ·refine Qb 10 K M ?_;refine⟨congrArg AV.bool ?_,M.qt⟩;clear M K hr hr0 hK hR hf
  first|(simp[*];done)|(simp[*];omega)|(simp_all;done)|(simp_all;omega)
 refine Qb 1 K M fun _ K=>?_;obtain⟨v13,st13,ev13,rfl,q13⟩:=G4 M.fresh (M.Yy hR) hr0;refine pg K rfl rfl (Qf rfl ev13) fun _ K=>?_;replace M:=M.quiet q13;refine Qb 2 K M fun _ K=>?_;refine Ug K rfl (fun _ e16 K=>?_) fun _ e16 K=>?_
 ·refine Qb 5 K M ?_;refine⟨congrArg AV.bool ?_,M.qt⟩;clear M K hr hr0 hK hR hf
  first|(simp[*];done)|(simp[*];omega)|(simp_all;done)|(simp_all;omega)
 refine Qb 2 K M fun _ K=>?_;obtain⟨v19,st19,ev19,rfl,q19⟩:=ak (.mk o a b g n l) m R _ _ M.fresh (M.Yy hR) hr0 Qc Qc;refine pg K rfl rfl (Qf rfl ev19) fun _ K=>?_;replace M:=M.quiet q19;refine Qb 2 K M ?_;refine⟨congrArg AV.bool ?_,M.qt⟩;clear M K hr hr0 hK hR hf
 first|(simp[*];done)|(simp[*];omega)|(simp_all;done)|(simp_all;omega)
end
section
variable {a b n s x y z:Nat} {o:List Nat} {st:St}

def Vj(a b:Nat):Nat:=a^^^(a&&&b)
theorem He{P:Program}{G:Env}{K:List (Nat×AV)}{t yt:TypeId}{x y:Operand}(hx:QT G K x=some (.int .i64 (a:Nat)))(hy:QT G K y=some (.int .i64 (b:Nat)))(ha:a≤9223372036854775807)(hb:b≤9223372036854775807):U2 P G K (.binOp .andNot t x y yt) st (.int .i64 (Vj a b:Nat)) st:=
 UN hx hy (by
  rw[Va Q8 Q8];show XU (IntKind.i64.wrap (((BitVec.ofInt 64 ((a:Nat):Int)&&& ~~~BitVec.ofInt 64 ((b:Nat):Int)).toNat:Nat):Int)) (fun z=>some (AV.int .i64 z))=_
  have e:a&&&(2^64-1-b)=Vj a b:=by
   apply Nat.eq_of_testBit_eq;intro i;unfold Vj;rw[Nat.testBit_and,Nat.testBit_xor,Nat.testBit_and,show 2^64-1-b=2^64-(b+1) by omega,Nat.testBit_two_pow_sub_succ Qc]
   cases h:a.testBit i with
   |false=>simp
   |true=>
    have hi:i<64:=Classical.byContradiction fun hn=>by
     rw[Nat.testBit_lt_two_pow (Nat.lt_of_lt_of_le (show a<2^64 by omega) (Nat.pow_le_pow_right Q8 Qc))]at h;cases h
    cases b.testBit i<;>simp[hi]
  have h:Vj a b≤a:=e▸Nat.and_le_left
  rw[BitVec.toNat_and,BitVec.toNat_not,Kg ha,Kg hb,e,Yu,wrap64 Qc Qc])
theorem yA(ha:a≤1)(hb:b≤1):Vj a b=a-b:=by
 obtain rfl|rfl:a=0∨a=1:=by omega
 ·obtain rfl|rfl:b=0∨b=1:=by omega
  ·rfl
  ·rfl
 ·obtain rfl|rfl:b=0∨b=1:=by omega
  ·rfl
  ·rfl
theorem Un(hs:s≠30):QR [115,117,98] n s x y z=if x≤y then 0 else 30:=by
 unfold QR;rw[if_neg hs,if_pos rfl]
theorem JK(hs:s≠30):QR [110,111,110,101] n s x y z=if x=0 then 0 else 30:=by
 unfold QR;rw[if_neg hs,if_neg Q8,if_pos rfl]
theorem Jz(hs:s≠30):QR [117,110,105,111,110] n s x y z=if z=x|||y then 0 else 30:=by
 unfold QR;rw[if_neg hs,if_neg Q8,if_neg Q8,if_pos rfl]
theorem J1(hs:s≠30):QR [105,110,116,101,114] n s x y z=if z=x&&&y then 0 else 30:=by
 unfold QR;rw[if_neg hs,if_neg Q8,if_neg Q8,if_neg Q8,if_pos rfl]
theorem J0(hs:s≠30):QR [109,105,110,117,115] n s x y z=if z=x-y then 0 else 30:=by
 unfold QR;rw[if_neg hs,if_neg Q8,if_neg Q8,if_neg Q8,if_neg Q8,if_pos rfl]
theorem eQ{p:Prop} [Decidable p]{m:Nat}(ha:p→a≤m)(hb: ¬p→b≤m):(if p then a else b)≤m:=by
 split
 ·exact ha ‹_›
 ·exact hb ‹_›
theorem ji(hs:s≤30)(hn:n≤20):QR o n s x y z≤30:=by
 unfold QR
 repeat' first
  |omega
  |(refine eQ (fun _=>?_) fun _=>?_)

theorem qi(hf:Qi st)(s x:Nat): ∃v st',Jf 154 [iN s,iN x] st v st'∧v=iZ (if s=1∨x=1 then 1 else 30:Nat)∧Qt st st':=by
 refine J7 Tryz.func154 Tryz.ntmps154 fun T K=>?_;have M:=Mem.start hf;refine Qb 3 K M fun _ K=>?_;refine Ug K rfl (fun _ e7 K=>?_) fun _ e7 K=>?_
 ·refine Qb 3 K M fun _ K=>?_;refine Jt K rfl (fun h10=>?_) fun h10=>?_
  ·refine Qb 1 K M ?_
   exact⟨congrArg (AV.int .i64) (by split<;>first|rfl|omega),M.qt⟩
  refine Qb 1 K M ?_
  exact⟨congrArg (AV.int .i64) (by split<;>first|rfl|omega),M.qt⟩
 refine Qb 5 K M ?_
 exact⟨congrArg (AV.int .i64) (by split<;>first|rfl|omega),M.qt⟩

theorem xr(hf:Qi st)(s x:Nat)(hs:s≤30)(hx:x≤1): ∃v st',Jf 155 [iN s,iN x] st v st'∧v=iZ (if 1<s+x then 30 else s+x:Nat)∧Qt st st':=by
 refine J7 Tryz.func155 Tryz.ntmps155 fun T K=>?_;have M:=Mem.start hf;refine Qb 5 K M fun _ K=>?_;refine Jt K rfl (fun h8=>?_) fun h8=>?_
 ·refine Qb 1 K M ?_
  exact⟨congrArg (AV.int .i64) (by split<;>first|rfl|omega),M.qt⟩
 refine Qb 4 K M ?_
 exact⟨congrArg (AV.int .i64) (by split<;>first|rfl|omega),M.qt⟩

theorem uh(hf:Qi st)(n s x:Nat)(hn:n≤20)(hs:s≤30)(hx:x≤1): ∃v st',Jf 156 [iN n,iN s,iN x] st v st'∧v=iZ (if s=n+1∧x=0 then s else if n<s∨(s<n∧x=1)∨(s=n∧x=0)then 30 else s+1:Nat)∧Qt st st':=by
 refine J7 Tryz.func156 Tryz.ntmps156 fun T K=>?_;have M:=Mem.start hf;refine Qb 5 K M fun _ K=>?_;refine Ug K rfl (fun _ e11 K=>?_) fun _ e11 K=>?_
 ·refine Qb 7 K M fun _ K=>?_;refine Ug K rfl (fun _ e19 K=>?_) fun _ e19 K=>?_
  ·refine Qb 3 K M fun _ K=>?_;refine N2 K rfl rfl (Qy rfl) rfl (fun _ e23 K=>?_) fun _ e23 K=>?_
   ·refine Qb 8 K M fun _ K=>?_;refine N2 K rfl rfl (Qy rfl) rfl (fun _ e32 K=>?_) fun _ e32 K=>?_
    ·exact XW
    refine Qb 4 K M fun _ K=>?_;refine Jt K rfl (fun h36=>?_) fun h36=>?_
    ·refine Qb 1 K M ?_
     exact⟨congrArg (AV.int .i64) (by(repeat' split)<;>first|omega|(simp_all;done)|(simp_all;omega)),M.qt⟩
    refine Qb 3 K M ?_
    exact⟨congrArg (AV.int .i64) (by(repeat' split)<;>first|omega|(simp_all;done)|(simp_all;omega)),M.qt⟩
   refine Qb 4 K M fun _ K=>?_;refine Ug K rfl (fun _ e28 K=>?_) fun _ e28 K=>?_
   ·refine Qb 3 K M fun _ K=>?_;refine N2 K rfl rfl (Qy rfl) rfl (fun _ e32 K=>?_) fun _ e32 K=>?_
    ·refine Qb 8 K M ?_
     exact⟨congrArg (AV.int .i64) (by(repeat' split)<;>first|omega|(simp_all;done)|(simp_all;omega)),M.qt⟩
    exact XW
   refine Qb 10 K M ?_
   exact⟨congrArg (AV.int .i64) (by(repeat' split)<;>first|omega|(simp_all;done)|(simp_all;omega)),M.qt⟩
  refine Qb 19 K M ?_
  exact⟨congrArg (AV.int .i64) (by(repeat' split)<;>first|omega|(simp_all;done)|(simp_all;omega)),M.qt⟩
 refine Qb 3 K M fun _ K=>?_;refine Jt K rfl (fun h14=>?_) fun h14=>?_
 ·refine Qb 2 K M ?_
  exact⟨congrArg (AV.int .i64) (by(repeat' split)<;>first|omega|(simp_all;done)|(simp_all;omega)),M.qt⟩
 refine Qb 3 K M fun _ K=>?_;refine Ug K rfl (fun _ e19 K=>?_) fun _ e19 K=>?_
 ·exact XW
 refine Qb 19 K M ?_
 exact⟨congrArg (AV.int .i64) (by(repeat' split)<;>first|omega|(simp_all;done)|(simp_all;omega)),M.qt⟩

theorem MJ(hf:Qi st)(s x y:Nat)(hs:s≤30)(hx:x≤1)(hy:y≤1): ∃v st',Jf 157 [iN s,iN x,iN y] st v st'∧v=iZ (if x+y=0 then s else if s=0∧x=1∧y=0 then 1 else if s=1∧x=0∧y=1 then 2 else 30:Nat)∧Qt st st':=by
 refine J7 Tryz.func157 Tryz.ntmps157 fun T K=>?_;have M:=Mem.start hf;refine Qb 6 K M fun _ K=>?_;refine Jt K rfl (fun h7=>?_) fun h7=>?_
 ·refine Qb 2 K M ?_
  exact⟨congrArg (AV.int .i64) (by(repeat' split)<;>first|omega|(simp_all;done)|(simp_all;omega)),M.qt⟩
 refine Qb 2 K M fun _ K=>?_;refine Ug K rfl (fun _ e16 K=>?_) fun _ e16 K=>?_
 ·refine Qb 11 K M fun _ K=>?_;refine Ug K rfl (fun _ e27 K=>?_) fun _ e27 K=>?_
  ·refine Qb 10 K M ?_
   exact⟨congrArg (AV.int .i64) (by(repeat' split)<;>first|omega|(simp_all;done)|(simp_all;omega)),M.qt⟩
  refine Qb 3 K M fun _ K=>?_;refine Ug K rfl (fun _ e31 K=>?_) fun _ e31 K=>?_
  ·refine Qb 6 K M ?_
   exact⟨congrArg (AV.int .i64) (by(repeat' split)<;>first|omega|(simp_all;done)|(simp_all;omega)),M.qt⟩
  refine Qb 4 K M fun _ K=>?_;refine Jt K rfl (fun h24=>?_) fun h24=>?_
  ·refine Qb 1 K M ?_
   exact⟨congrArg (AV.int .i64) (by(repeat' split)<;>first|omega|(simp_all;done)|(simp_all;omega)),M.qt⟩
  exact XW
 refine Qb 3 K M fun _ K=>?_;refine Ug K rfl (fun _ e20 K=>?_) fun _ e20 K=>?_
 ·refine Qb 7 K M fun _ K=>?_;refine Ug K rfl (fun _ e27 K=>?_) fun _ e27 K=>?_
  ·refine Qb 10 K M ?_
   exact⟨congrArg (AV.int .i64) (by(repeat' split)<;>first|omega|(simp_all;done)|(simp_all;omega)),M.qt⟩
  exact XW
 refine Qb 4 K M fun _ K=>?_;refine Jt K rfl (fun h13=>?_) fun h13=>?_
 ·refine Qb 1 K M ?_
  exact⟨congrArg (AV.int .i64) (by(repeat' split)<;>first|omega|(simp_all;done)|(simp_all;omega)),M.qt⟩
 refine Qb 2 K M fun _ K=>?_;refine Ug K rfl (fun _ e27 K=>?_) fun _ e27 K=>?_
 ·refine Qb 10 K M ?_
  exact⟨congrArg (AV.int .i64) (by(repeat' split)<;>first|omega|(simp_all;done)|(simp_all;omega)),M.qt⟩
 exact XW

theorem Mw(hf:Qi st)(n s x y:Nat)(hn:n≤20)(hs:s≤30)(hx:x≤1)(hy:y≤1): ∃v st',Jf 158 [iN n,iN s,iN x,iN y] st v st'∧v=iZ (if s=n+1∨(s=0∧x=0)then(if x+y=0 then s else 30)else if s=0∧n=0 then(if y=1 then 1 else 30)else if s=0 then(if y=0 then 1 else 30)else if x=1∨(s<n∧y=1)∨(s=n∧y=0)then 30 else s+1:Nat)∧Qt st st':=by
 refine J7 Tryz.func158 Tryz.ntmps158 fun T K=>?_;have M:=Mem.start hf;refine Qb 5 K M fun _ K=>?_;refine Ug K rfl (fun _ e14 K=>?_) fun _ e14 K=>?_
 ·refine Qb 2 K M fun _ K=>?_;refine N2 K rfl rfl (Qy rfl) rfl (fun _ e17 K=>?_) fun _ e17 K=>?_
  ·refine Qb 8 K M fun _ K=>?_;refine Ug K rfl (fun _ e30 K=>?_) fun _ e30 K=>?_
   ·refine Qb 8 K M fun _ K=>?_;refine Uq K rfl (fun h36=>?_) fun h36=>?_
    ·have hb36:=h36;replace h36:=of_decide_eq_true h36;exact XW
    have hb36:=h36;replace h36:=of_decide_eq_false h36;refine Qb 2 K M fun _ K=>?_;refine Ug K rfl (fun _ e44 K=>?_) fun _ e44 K=>?_
    ·refine Qb 3 K M fun _ K=>?_;refine N2 K rfl rfl (Qy rfl) rfl (fun _ e48 K=>?_) fun _ e48 K=>?_
     ·refine Qb 8 K M fun _ K=>?_;refine N2 K rfl rfl (Qy rfl) rfl (fun _ e57 K=>?_) fun _ e57 K=>?_
      ·refine Qb 9 K M ?_
       exact⟨congrArg (AV.int .i64) (by(repeat' split)<;>first|omega|(simp_all;done)|(simp_all;omega)),M.qt⟩
      refine Qb 5 K M fun _ K=>?_;refine Jt K rfl (fun h41=>?_) fun h41=>?_
      ·refine Qb 1 K M ?_
       exact⟨congrArg (AV.int .i64) (by(repeat' split)<;>first|omega|(simp_all;done)|(simp_all;omega)),M.qt⟩
      refine Qb 3 K M ?_
      exact⟨congrArg (AV.int .i64) (by(repeat' split)<;>first|omega|(simp_all;done)|(simp_all;omega)),M.qt⟩
     refine Qb 4 K M fun _ K=>?_;refine Ug K rfl (fun _ e53 K=>?_) fun _ e53 K=>?_
     ·refine Qb 3 K M fun _ K=>?_;refine N2 K rfl rfl (Qy rfl) rfl (fun _ e57 K=>?_) fun _ e57 K=>?_
      ·refine Qb 9 K M ?_
       exact⟨congrArg (AV.int .i64) (by(repeat' split)<;>first|omega|(simp_all;done)|(simp_all;omega)),M.qt⟩
      exact XW
     refine Qb 11 K M ?_
     exact⟨congrArg (AV.int .i64) (by(repeat' split)<;>first|omega|(simp_all;done)|(simp_all;omega)),M.qt⟩
    refine Qb 20 K M ?_
    exact⟨congrArg (AV.int .i64) (by(repeat' split)<;>first|omega|(simp_all;done)|(simp_all;omega)),M.qt⟩
   exact XW
  refine Qb 5 K M fun _ K=>?_;refine Jt K rfl (fun h9=>?_) fun h9=>?_
  ·refine Qb 4 K M fun _ K=>?_;refine Uq K rfl (fun h25=>?_) fun h25=>?_
   ·have hb25:=h25;replace h25:=of_decide_eq_true h25;refine Qb 2 K M ?_
    exact⟨congrArg (AV.int .i64) (by(repeat' split)<;>first|omega|(simp_all;done)|(simp_all;omega)),M.qt⟩
   have hb25:=h25;replace h25:=of_decide_eq_false h25;refine Qb 1 K M ?_
   exact⟨congrArg (AV.int .i64) (by(repeat' split)<;>first|omega|(simp_all;done)|(simp_all;omega)),M.qt⟩
  refine Qb 2 K M fun _ K=>?_;refine Ug K rfl (fun _ e30 K=>?_) fun _ e30 K=>?_
  ·exact XW
  refine Qb 4 K M fun _ K=>?_;refine Jt K rfl (fun h27=>?_) fun h27=>?_
  ·refine Qb 2 K M fun _ K=>?_;refine Jt K rfl (fun h35=>?_) fun h35=>?_
   ·refine Qb 1 K M ?_
    exact⟨congrArg (AV.int .i64) (by(repeat' split)<;>first|omega|(simp_all;done)|(simp_all;omega)),M.qt⟩
   refine Qb 1 K M ?_
   exact⟨congrArg (AV.int .i64) (by(repeat' split)<;>first|omega|(simp_all;done)|(simp_all;omega)),M.qt⟩
  refine Qb 3 K M fun _ K=>?_;refine Uq K rfl (fun h36=>?_) fun h36=>?_
  ·have hb36:=h36;replace h36:=of_decide_eq_true h36;refine Qb 2 K M fun _ K=>?_;refine Jt K rfl (fun h40=>?_) fun h40=>?_
   ·refine Qb 1 K M ?_
    exact⟨congrArg (AV.int .i64) (by(repeat' split)<;>first|omega|(simp_all;done)|(simp_all;omega)),M.qt⟩
   refine Qb 1 K M ?_
   exact⟨congrArg (AV.int .i64) (by(repeat' split)<;>first|omega|(simp_all;done)|(simp_all;omega)),M.qt⟩
  have hb36:=h36;replace h36:=of_decide_eq_false h36;exact XW
 refine Qb 13 K M fun _ K=>?_;refine Uq K rfl (fun h25=>?_) fun h25=>?_
 ·have hb25:=h25;replace h25:=of_decide_eq_true h25;refine Qb 2 K M ?_
  exact⟨congrArg (AV.int .i64) (by(repeat' split)<;>first|omega|(simp_all;done)|(simp_all;omega)),M.qt⟩
 have hb25:=h25;replace h25:=of_decide_eq_false h25;refine Qb 1 K M ?_
 exact⟨congrArg (AV.int .i64) (by(repeat' split)<;>first|omega|(simp_all;done)|(simp_all;omega)),M.qt⟩

theorem Mb(hf:Qi st){a b g:Int}{nn:Nat}{kc:AV}(hkc:Qr kc=true)(hn:nn≤20)(hs:s≤30)(hx:x≤1)(hy:y≤1)(hz:z≤1): ∃v st',Jf 130 [.agg [.str o,.int .i64 a,.int .i64 b,.int .i64 g,.int .i64 (nn:Nat),kc],.int .i64 (s:Nat),.int .i64 (x:Nat),.int .i64 (y:Nat),.int .i64 (z:Nat)] st v st'∧v=.int .i64 (QR o nn s x y z:Nat)∧Qt st st':=by
 have hdf:=yA hx hy;refine Cm rfl Tryz.func130 rfl Tryz.ntmps130 rfl fun T hT=>?_;have K:QS [(0,_),(1,_),(2,_),(3,_),(4,_)] T:=(.cons (hT 0) (.cons (hT 1) (.cons (hT 2) (.cons (hT 3) (.cons (hT 4) .nil)))));have M:=Mem.start hf;refine au 4 K M ?_;intro c5 _ _ K _ M;refine Jt K rfl (fun h13=>?_) fun h13=>?_
 ·refine Qb 1 K M ?_
  have e9:QR o nn s x y z=30:=by
   clear M K hT
   first|(unfold QR;rw[if_pos Qc];done)|(have hs30:s≠30:=Qc;subst_vars;(first|rw[Un hs30]|rw[JK hs30]|rw[Jz hs30]|rw[J1 hs30]|rw[J0 hs30]);first|(rw[if_pos Qc];done)|(rw[if_neg Qc];done))|(have hs30:s≠30:=Qc;unfold QR;simp_all;done)
  rw[e9];exact⟨rfl,M.qt⟩
 refine Qb 3 K M fun _ K=>?_;refine p1 K (QG (b:=[115,117,98]) rfl rfl) fun _ K=>?_;refine Qb 1 K M fun _ K=>?_;refine Jt K rfl (fun h16=>?_) fun h16=>?_
 ·refine Qb 6 K M fun _ K=>?_;refine Uq K rfl (fun h78=>?_) fun h78=>?_
  ·have hb78:=h78
   replace h78: ¬(((x:Nat):Int)≤((y:Nat):Int)):=by first|exact of_decide_eq_false h78|exact yF h78|simpa using h78
   refine Qb 1 K M ?_
   have e9:QR o nn s x y z=30:=by
    clear M K hT
    first|(unfold QR;rw[if_pos Qc];done)|(have hs30:s≠30:=Qc;subst_vars;(first|rw[Un hs30]|rw[JK hs30]|rw[Jz hs30]|rw[J1 hs30]|rw[J0 hs30]);first|(rw[if_pos Qc];done)|(rw[if_neg Qc];done))|(have hs30:s≠30:=Qc;unfold QR;simp_all;done)
   rw[e9];exact⟨rfl,M.qt⟩
  have hb78:=h78
  replace h78:(((x:Nat):Int)≤((y:Nat):Int)):=by first|exact of_decide_eq_true h78|exact yT h78|simpa using h78
  refine Qb 1 K M ?_
  have e9:QR o nn s x y z=0:=by
   clear M K hT
   first|(unfold QR;rw[if_pos Qc];done)|(have hs30:s≠30:=Qc;subst_vars;(first|rw[Un hs30]|rw[JK hs30]|rw[Jz hs30]|rw[J1 hs30]|rw[J0 hs30]);first|(rw[if_pos Qc];done)|(rw[if_neg Qc];done))|(have hs30:s≠30:=Qc;unfold QR;simp_all;done)
  rw[e9];exact⟨rfl,M.qt⟩
 refine Qb 0 K M fun _ K=>?_;refine p1 K (QG (b:=[110,111,110,101]) rfl rfl) fun _ K=>?_;refine Qb 1 K M fun _ K=>?_;refine Jt K rfl (fun h21=>?_) fun h21=>?_
 ·refine Qb 5 K M fun _ K=>?_;refine Uq K rfl (fun h78=>?_) fun h78=>?_
  ·have hb78:=h78
   replace h78: ¬(((x:Nat):Int)=0):=by first|exact of_decide_eq_false h78|exact yF h78|simpa using h78
   refine Qb 1 K M ?_
   have e9:QR o nn s x y z=30:=by
    clear M K hT
    first|(unfold QR;rw[if_pos Qc];done)|(have hs30:s≠30:=Qc;subst_vars;(first|rw[Un hs30]|rw[JK hs30]|rw[Jz hs30]|rw[J1 hs30]|rw[J0 hs30]);first|(rw[if_pos Qc];done)|(rw[if_neg Qc];done))|(have hs30:s≠30:=Qc;unfold QR;simp_all;done)
   rw[e9];exact⟨rfl,M.qt⟩
  have hb78:=h78
  replace h78:(((x:Nat):Int)=0):=by first|exact of_decide_eq_true h78|exact yT h78|simpa using h78
  refine Qb 1 K M ?_
  have e9:QR o nn s x y z=0:=by
   clear M K hT
   first|(unfold QR;rw[if_pos Qc];done)|(have hs30:s≠30:=Qc;subst_vars;(first|rw[Un hs30]|rw[JK hs30]|rw[Jz hs30]|rw[J1 hs30]|rw[J0 hs30]);first|(rw[if_pos Qc];done)|(rw[if_neg Qc];done))|(have hs30:s≠30:=Qc;unfold QR;simp_all;done)
  rw[e9];exact⟨rfl,M.qt⟩
 refine Qb 0 K M fun _ K=>?_;refine p1 K (QG (b:=[117,110,105,111,110]) rfl rfl) fun _ K=>?_;refine Qb 1 K M fun _ K=>?_;refine Jt K rfl (fun h25=>?_) fun h25=>?_
 ·refine Qb 3 K M fun _ K=>?_;refine p1 K (BN rfl rfl Qc Qc) fun _ K=>?_;refine Qb 4 K M fun _ K=>?_;refine Uq K rfl (fun h78=>?_) fun h78=>?_
  ·have hb78:=h78
   replace h78: ¬(((z:Nat):Int)=(((x|||y):Nat):Int)):=by first|exact of_decide_eq_false h78|exact yF h78|simpa using h78
   refine Qb 1 K M ?_
   have e9:QR o nn s x y z=30:=by
    clear M K hT
    first|(unfold QR;rw[if_pos Qc];done)|(have hs30:s≠30:=Qc;subst_vars;(first|rw[Un hs30]|rw[JK hs30]|rw[Jz hs30]|rw[J1 hs30]|rw[J0 hs30]);first|(rw[if_pos Qc];done)|(rw[if_neg Qc];done))|(have hs30:s≠30:=Qc;unfold QR;simp_all;done)
   rw[e9];exact⟨rfl,M.qt⟩
  have hb78:=h78
  replace h78:(((z:Nat):Int)=(((x|||y):Nat):Int)):=by first|exact of_decide_eq_true h78|exact yT h78|simpa using h78
  refine Qb 1 K M ?_
  have e9:QR o nn s x y z=0:=by
   clear M K hT
   first|(unfold QR;rw[if_pos Qc];done)|(have hs30:s≠30:=Qc;subst_vars;(first|rw[Un hs30]|rw[JK hs30]|rw[Jz hs30]|rw[J1 hs30]|rw[J0 hs30]);first|(rw[if_pos Qc];done)|(rw[if_neg Qc];done))|(have hs30:s≠30:=Qc;unfold QR;simp_all;done)
  rw[e9];exact⟨rfl,M.qt⟩
 refine Qb 0 K M fun _ K=>?_;refine p1 K (QG (b:=[105,110,116,101,114]) rfl rfl) fun _ K=>?_;refine Qb 1 K M fun _ K=>?_;refine Jt K rfl (fun h32=>?_) fun h32=>?_
 ·refine Qb 3 K M fun _ K=>?_;refine p1 K (HV rfl rfl Qc Qc) fun _ K=>?_;refine Qb 4 K M fun _ K=>?_;refine Uq K rfl (fun h78=>?_) fun h78=>?_
  ·have hb78:=h78
   replace h78: ¬(((z:Nat):Int)=(((x&&&y):Nat):Int)):=by first|exact of_decide_eq_false h78|exact yF h78|simpa using h78
   refine Qb 1 K M ?_
   have e9:QR o nn s x y z=30:=by
    clear M K hT
    first|(unfold QR;rw[if_pos Qc];done)|(have hs30:s≠30:=Qc;subst_vars;(first|rw[Un hs30]|rw[JK hs30]|rw[Jz hs30]|rw[J1 hs30]|rw[J0 hs30]);first|(rw[if_pos Qc];done)|(rw[if_neg Qc];done))|(have hs30:s≠30:=Qc;unfold QR;simp_all;done)
   rw[e9];exact⟨rfl,M.qt⟩
  have hb78:=h78
  replace h78:(((z:Nat):Int)=(((x&&&y):Nat):Int)):=by first|exact of_decide_eq_true h78|exact yT h78|simpa using h78
  refine Qb 1 K M ?_
  have e9:QR o nn s x y z=0:=by
   clear M K hT
   first|(unfold QR;rw[if_pos Qc];done)|(have hs30:s≠30:=Qc;subst_vars;(first|rw[Un hs30]|rw[JK hs30]|rw[Jz hs30]|rw[J1 hs30]|rw[J0 hs30]);first|(rw[if_pos Qc];done)|(rw[if_neg Qc];done))|(have hs30:s≠30:=Qc;unfold QR;simp_all;done)
  rw[e9];exact⟨rfl,M.qt⟩
 refine Qb 0 K M fun _ K=>?_;refine p1 K (QG (b:=[109,105,110,117,115]) rfl rfl) fun _ K=>?_;refine Qb 1 K M fun _ K=>?_;refine Jt K rfl (fun h39=>?_) fun h39=>?_
 ·refine Qb 3 K M fun _ K=>?_;refine p1 K (He rfl rfl Qc Qc) fun _ K=>?_;refine Qb 4 K M fun _ K=>?_;refine Uq K rfl (fun h78=>?_) fun h78=>?_
  ·have hb78:=h78
   replace h78: ¬(((z:Nat):Int)=(((Vj x y):Nat):Int)):=by first|exact of_decide_eq_false h78|exact yF h78|simpa using h78
   refine Qb 1 K M ?_
   have e9:QR o nn s x y z=30:=by
    clear M K hT
    first|(unfold QR;rw[if_pos Qc];done)|(have hs30:s≠30:=Qc;subst_vars;(first|rw[Un hs30]|rw[JK hs30]|rw[Jz hs30]|rw[J1 hs30]|rw[J0 hs30]);first|(rw[if_pos Qc];done)|(rw[if_neg Qc];done))|(have hs30:s≠30:=Qc;unfold QR;simp_all;done)
   rw[e9];exact⟨rfl,M.qt⟩
  have hb78:=h78
  replace h78:(((z:Nat):Int)=(((Vj x y):Nat):Int)):=by first|exact of_decide_eq_true h78|exact yT h78|simpa using h78
  refine Qb 1 K M ?_
  have e9:QR o nn s x y z=0:=by
   clear M K hT
   first|(unfold QR;rw[if_pos Qc];done)|(have hs30:s≠30:=Qc;subst_vars;(first|rw[Un hs30]|rw[JK hs30]|rw[Jz hs30]|rw[J1 hs30]|rw[J0 hs30]);first|(rw[if_pos Qc];done)|(rw[if_neg Qc];done))|(have hs30:s≠30:=Qc;unfold QR;simp_all;done)
  rw[e9];exact⟨rfl,M.qt⟩
 refine Qb 0 K M fun _ K=>?_;refine p1 K (QG (b:=[102,108,97,103]) rfl rfl) fun _ K=>?_;refine Qb 1 K M fun _ K=>?_;refine Jt K rfl (fun h46=>?_) fun h46=>?_
 ·refine Qb 2 K M fun _ K=>?_;refine oQ K M (qi M.fresh s x) rfl rfl fun _ _ K M=>?_;refine Qb 1 K M ?_
  have e9:QR o nn s x y z=(if s=1∨x=1 then 1 else 30:Nat):=by
   clear M K hT
   first|(unfold QR;rw[if_pos Qc];done)|(have hs30:s≠30:=Qc;subst_vars;(first|rw[Un hs30]|rw[JK hs30]|rw[Jz hs30]|rw[J1 hs30]|rw[J0 hs30]);first|(rw[if_pos Qc];done)|(rw[if_neg Qc];done))|(have hs30:s≠30:=Qc;unfold QR;simp_all;done)
  rw[e9];exact⟨rfl,M.qt⟩
 refine Qb 0 K M fun _ K=>?_;refine p1 K (QG (b:=[115,105,110,103]) rfl rfl) fun _ K=>?_;refine Qb 1 K M fun _ K=>?_;refine Jt K rfl (fun h51=>?_) fun h51=>?_
 ·refine Qb 2 K M fun _ K=>?_;refine oQ K M (xr M.fresh s x hs hx) rfl rfl fun _ _ K M=>?_;refine Qb 1 K M ?_
  have e9:QR o nn s x y z=(if 1<s+x then 30 else s+x:Nat):=by
   clear M K hT
   first|(unfold QR;rw[if_pos Qc];done)|(have hs30:s≠30:=Qc;subst_vars;(first|rw[Un hs30]|rw[JK hs30]|rw[Jz hs30]|rw[J1 hs30]|rw[J0 hs30]);first|(rw[if_pos Qc];done)|(rw[if_neg Qc];done))|(have hs30:s≠30:=Qc;unfold QR;simp_all;done)
  rw[e9];exact⟨rfl,M.qt⟩
 refine Qb 0 K M fun _ K=>?_;refine p1 K (QG (b:=[110,117,109]) rfl rfl) fun _ K=>?_;refine Qb 1 K M fun _ K=>?_;refine Jt K rfl (fun h56=>?_) fun h56=>?_
 ·refine Qb 4 K M fun _ K=>?_;refine oQ K M (uh M.fresh nn s x hn hs hx) rfl rfl fun _ _ K M=>?_;refine Qb 1 K M ?_
  have e9:QR o nn s x y z=(if s=nn+1∧x=0 then s else if nn<s∨(s<nn∧x=1)∨(s=nn∧x=0)then 30 else s+1:Nat):=by
   clear M K hT
   first|(unfold QR;rw[if_pos Qc];done)|(have hs30:s≠30:=Qc;subst_vars;(first|rw[Un hs30]|rw[JK hs30]|rw[Jz hs30]|rw[J1 hs30]|rw[J0 hs30]);first|(rw[if_pos Qc];done)|(rw[if_neg Qc];done))|(have hs30:s≠30:=Qc;unfold QR;simp_all;done)
  rw[e9];exact⟨rfl,M.qt⟩
 refine Qb 0 K M fun _ K=>?_;refine p1 K (QG (b:=[108,101,115,115]) rfl rfl) fun _ K=>?_;refine Qb 1 K M fun _ K=>?_;refine Jt K rfl (fun h63=>?_) fun h63=>?_
 ·refine Qb 3 K M fun _ K=>?_;refine oQ K M (MJ M.fresh s x y hs hx hy) rfl rfl fun _ _ K M=>?_;refine Qb 1 K M ?_
  have e9:QR o nn s x y z=(if x+y=0 then s else if s=0∧x=1∧y=0 then 1 else if s=1∧x=0∧y=1 then 2 else 30:Nat):=by
   clear M K hT
   first|(unfold QR;rw[if_pos Qc];done)|(have hs30:s≠30:=Qc;subst_vars;(first|rw[Un hs30]|rw[JK hs30]|rw[Jz hs30]|rw[J1 hs30]|rw[J0 hs30]);first|(rw[if_pos Qc];done)|(rw[if_neg Qc];done))|(have hs30:s≠30:=Qc;unfold QR;simp_all;done)
  rw[e9];exact⟨rfl,M.qt⟩
 refine Qb 0 K M fun _ K=>?_;refine p1 K (QG (b:=[112,108,117,115]) rfl rfl) fun _ K=>?_;refine Qb 1 K M fun _ K=>?_;refine Jt K rfl (fun h69=>?_) fun h69=>?_
 ·refine Qb 5 K M fun _ K=>?_;refine oQ K M (Mw M.fresh nn s x y hn hs hx hy) rfl rfl fun _ _ K M=>?_;refine Qb 1 K M ?_
  have e9:QR o nn s x y z=(if s=nn+1∨(s=0∧x=0)then(if x+y=0 then s else 30)else if s=0∧nn=0 then(if y=1 then 1 else 30)else if s=0 then(if y=0 then 1 else 30)else if x=1∨(s<nn∧y=1)∨(s=nn∧y=0)then 30 else s+1:Nat):=by
   clear M K hT
   first|(unfold QR;rw[if_pos Qc];done)|(have hs30:s≠30:=Qc;subst_vars;(first|rw[Un hs30]|rw[JK hs30]|rw[Jz hs30]|rw[J1 hs30]|rw[J0 hs30]);first|(rw[if_pos Qc];done)|(rw[if_neg Qc];done))|(have hs30:s≠30:=Qc;unfold QR;simp_all;done)
  rw[e9];exact⟨rfl,M.qt⟩
 refine Qb 4 K M ?_
 have e9:QR o nn s x y z=0:=by
  clear M K hT
  first|(unfold QR;rw[if_pos Qc];done)|(have hs30:s≠30:=Qc;subst_vars;(first|rw[Un hs30]|rw[JK hs30]|rw[Jz hs30]|rw[J1 hs30]|rw[J0 hs30]);first|(rw[if_pos Qc];done)|(rw[if_neg Qc];done))|(have hs30:s≠30:=Qc;unfold QR;simp_all;done)
 rw[e9];exact⟨rfl,M.qt⟩

theorem CA(hf:Qi st){a b g:Int}{nn:Nat}{kc:AV}(hkc:Qr kc=true)(hn:nn≤20): ∃v st',Jf 131 [.agg [.str o,.int .i64 a,.int .i64 b,.int .i64 g,.int .i64 (nn:Nat),kc],.int .i64 (s:Nat)] st v st'∧v=.bool (Xh o nn s)∧Qt st st':=by
 refine Cm rfl Tryz.func131 rfl Tryz.ntmps131 rfl fun T hT=>?_;have K:QS [(0,_),(1,_)] T:=(.cons (hT 0) (.cons (hT 1) .nil));have M:=Mem.start hf;refine au 4 K M ?_;intro c2 _ _ K _ M;refine Jt K rfl (fun h6=>?_) fun h6=>?_
 ·refine Qb 1 K M ?_
  have e9:Xh o nn s=false:=by
   clear M K hT;unfold Xh
   first|(rw[if_pos Qc];done)|(have hs30:s≠30:=Qc;first|(rw[if_neg hs30,if_pos (by simp[*])]<;>exact decide_eq_decide.2 Qc)|(rw[if_neg hs30,if_neg (by simp[*]),if_pos (by simp[*])]<;>exact decide_eq_decide.2 Qc)|(rw[if_neg hs30,if_neg (by simp[*]),if_neg (by simp[*]),if_pos (by simp[*])]<;>exact decide_eq_decide.2 Qc)|(rw[if_neg hs30,if_neg (by simp[*]),if_neg (by simp[*]),if_neg (by simp[*])]))
  rw[e9];exact⟨rfl,M.qt⟩
 refine Qb 2 K M fun _ K=>?_;refine p1 K (QG (b:=[102,108,97,103]) rfl rfl) fun _ K=>?_;refine Qb 1 K M fun _ K=>?_;refine Uq K rfl (fun h9=>?_) fun h9=>?_
 ·have hb9:=h9;replace h9:=of_decide_eq_true h9;refine Qb 0 K M fun _ K=>?_;refine FW (t:=true) ((K.Jq rfl).trans (congrArg (fun b=>some (AV.bool b)) hb9)) (fun _=>?_) (fun h=>by cases h);refine Qb 3 K M ?_
  have e9:Xh o nn s=decide (((s:Nat):Int)=1):=by
   clear M K hT;unfold Xh
   first|(rw[if_pos Qc];done)|(have hs30:s≠30:=Qc;first|(rw[if_neg hs30,if_pos (by simp[*])]<;>exact decide_eq_decide.2 Qc)|(rw[if_neg hs30,if_neg (by simp[*]),if_pos (by simp[*])]<;>exact decide_eq_decide.2 Qc)|(rw[if_neg hs30,if_neg (by simp[*]),if_neg (by simp[*]),if_pos (by simp[*])]<;>exact decide_eq_decide.2 Qc)|(rw[if_neg hs30,if_neg (by simp[*]),if_neg (by simp[*]),if_neg (by simp[*])]))
  rw[e9];exact⟨rfl,M.qt⟩
 have hb9:=h9;replace h9:=of_decide_eq_false h9;refine W7<|p1 K (QG (b:=[115,105,110,103]) rfl rfl) fun _ K=>?_;refine Qb 1 K M fun _ K=>?_;refine Uq K rfl (fun h9=>?_) fun h9=>?_
 ·have hb9:=h9;replace h9:=of_decide_eq_true h9;refine Qb 3 K M ?_
  have e9:Xh o nn s=decide (((s:Nat):Int)=1):=by
   clear M K hT;unfold Xh
   first|(rw[if_pos Qc];done)|(have hs30:s≠30:=Qc;first|(rw[if_neg hs30,if_pos (by simp[*])]<;>exact decide_eq_decide.2 Qc)|(rw[if_neg hs30,if_neg (by simp[*]),if_pos (by simp[*])]<;>exact decide_eq_decide.2 Qc)|(rw[if_neg hs30,if_neg (by simp[*]),if_neg (by simp[*]),if_pos (by simp[*])]<;>exact decide_eq_decide.2 Qc)|(rw[if_neg hs30,if_neg (by simp[*]),if_neg (by simp[*]),if_neg (by simp[*])]))
  rw[e9];exact⟨rfl,M.qt⟩
 have hb9:=h9;replace h9:=of_decide_eq_false h9;refine Qb 0 K M fun _ K=>?_;refine p1 K (QG (b:=[108,101,115,115]) rfl rfl) fun _ K=>?_;refine Qb 1 K M fun _ K=>?_;refine Jt K rfl (fun h14=>?_) fun h14=>?_
 ·refine Qb 3 K M ?_
  have e9:Xh o nn s=decide (((s:Nat):Int)=2):=by
   clear M K hT;unfold Xh
   first|(rw[if_pos Qc];done)|(have hs30:s≠30:=Qc;first|(rw[if_neg hs30,if_pos (by simp[*])]<;>exact decide_eq_decide.2 Qc)|(rw[if_neg hs30,if_neg (by simp[*]),if_pos (by simp[*])]<;>exact decide_eq_decide.2 Qc)|(rw[if_neg hs30,if_neg (by simp[*]),if_neg (by simp[*]),if_pos (by simp[*])]<;>exact decide_eq_decide.2 Qc)|(rw[if_neg hs30,if_neg (by simp[*]),if_neg (by simp[*]),if_neg (by simp[*])]))
  rw[e9];exact⟨rfl,M.qt⟩
 refine Qb 0 K M fun _ K=>?_;refine p1 K (QG (b:=[112,108,117,115]) rfl rfl) fun _ K=>?_;refine Qb 1 K M fun _ K=>?_;refine Uq K rfl (fun h18=>?_) fun h18=>?_
 ·have hb18:=h18;replace h18:=of_decide_eq_true h18;refine Qb 0 K M fun _ K=>?_;refine FW (t:=true) ((K.Jq rfl).trans (congrArg (fun b=>some (AV.bool b)) hb18)) (fun _=>?_) (fun h=>by cases h);refine Qb 6 K M ?_
  have e9:Xh o nn s=decide (((s:Nat):Int)=(((nn:Nat):Int)+1)):=by
   clear M K hT;unfold Xh
   first|(rw[if_pos Qc];done)|(have hs30:s≠30:=Qc;first|(rw[if_neg hs30,if_pos (by simp[*])]<;>exact decide_eq_decide.2 Qc)|(rw[if_neg hs30,if_neg (by simp[*]),if_pos (by simp[*])]<;>exact decide_eq_decide.2 Qc)|(rw[if_neg hs30,if_neg (by simp[*]),if_neg (by simp[*]),if_pos (by simp[*])]<;>exact decide_eq_decide.2 Qc)|(rw[if_neg hs30,if_neg (by simp[*]),if_neg (by simp[*]),if_neg (by simp[*])]))
  rw[e9];exact⟨rfl,M.qt⟩
 have hb18:=h18;replace h18:=of_decide_eq_false h18;refine W7<|p1 K (QG (b:=[110,117,109]) rfl rfl) fun _ K=>?_;refine Qb 1 K M fun _ K=>?_;refine Uq K rfl (fun h18=>?_) fun h18=>?_
 ·have hb18:=h18;replace h18:=of_decide_eq_true h18;refine Qb 6 K M ?_
  have e9:Xh o nn s=decide (((s:Nat):Int)=(((nn:Nat):Int)+1)):=by
   clear M K hT;unfold Xh
   first|(rw[if_pos Qc];done)|(have hs30:s≠30:=Qc;first|(rw[if_neg hs30,if_pos (by simp[*])]<;>exact decide_eq_decide.2 Qc)|(rw[if_neg hs30,if_neg (by simp[*]),if_pos (by simp[*])]<;>exact decide_eq_decide.2 Qc)|(rw[if_neg hs30,if_neg (by simp[*]),if_neg (by simp[*]),if_pos (by simp[*])]<;>exact decide_eq_decide.2 Qc)|(rw[if_neg hs30,if_neg (by simp[*]),if_neg (by simp[*]),if_neg (by simp[*])]))
  rw[e9];exact⟨rfl,M.qt⟩
 have hb18:=h18;replace h18:=of_decide_eq_false h18;refine Qb 1 K M ?_
 have e9:Xh o nn s=true:=by
  clear M K hT;unfold Xh
  first|(rw[if_pos Qc];done)|(have hs30:s≠30:=Qc;first|(rw[if_neg hs30,if_pos (by simp[*])]<;>exact decide_eq_decide.2 Qc)|(rw[if_neg hs30,if_neg (by simp[*]),if_pos (by simp[*])]<;>exact decide_eq_decide.2 Qc)|(rw[if_neg hs30,if_neg (by simp[*]),if_neg (by simp[*]),if_pos (by simp[*])]<;>exact decide_eq_decide.2 Qc)|(rw[if_neg hs30,if_neg (by simp[*]),if_neg (by simp[*]),if_neg (by simp[*])]))
 rw[e9];exact⟨rfl,M.qt⟩
end
end Go.Proofs.YtiknomepbklibaaGreatDoor
