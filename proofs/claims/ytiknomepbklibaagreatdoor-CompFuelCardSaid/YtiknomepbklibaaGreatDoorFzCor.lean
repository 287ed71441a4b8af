/-
  Core formulas: how great, may they be? the program's answer, the reference's.
-/
import Derived.Test.YtiknomepbklibaaGreatDoorFzMnm
namespace Go.Proofs.YtiknomepbklibaaGreatDoor
open Go Go.RowKit
set_option maxHeartbeats 8000000
set_option linter.unusedVariables false
set_option linter.unusedSimpArgs false
set_option linter.unnecessarySimpa false
set_option linter.unusedSectionVars false
set_option maxRecDepth 100000
variable {R:Aq} {a b g m n:Int} {cs:List AV} {l:List Cr} {o:List Nat} {st:St}

theorem Rr(h: ∀(j:Nat) (k:Cr),l[j]? =some k→Jm k m=true):Xe l m=true:=by
 induction l with
 |nil=>rfl
 |cons x l ih=>rw[Xe,h 0 x rfl,ih fun j k hj=>h (j+1) k hj];rfl
theorem DA{j:Nat}{k:Cr}(hj:l[j]? =some k)(h:Jm k m=false):Xe l m=false:=by
 by_cases e:Xe l m=true
 ·rw[I2 e (I1 hj)]at h;cases h
 ·simpa using e
theorem M5{k:Cr}(h:l.length=1)(hk:l[0]? =some k):Xe l m=Jm k m:=by
 obtain⟨x,rfl⟩:=List.length_eq_one_iff.1 h
 injection hk with hk
 subst hk;rw[Xe,Xe,Bool.and_true]

theorem u7 (x : Cr) : ∀ (most : Int) (R : Aq) (st : St) (cs : List AV), Qj st → YJ R st.h.get → XN R x cs → 1 ≤ most → most ≤ 1000000 → ∃ v st', Ev Tryz.prog Q4 103 [.agg cs, iZ most] st v st' ∧ v = iZ (min ((XE x : Nat) : Int) most) ∧ Qt st st' := by
 refine I0 (M := fun x => ∀ (most : Int) (R : Aq) (st : St) (cs : List AV), Qj st → YJ R st.h.get → XN R x cs → 1 ≤ most → most ≤ 1000000 → ∃ v st', Ev Tryz.prog Q4 103 [.agg cs, iZ most] st v st' ∧ v = iZ (min ((XE x : Nat) : Int) most) ∧ Qt st st') (fun o a b g n l ih => ?_) x;intro most R st cs hf hR hr h1 h2;have hr0 := hr;obtain ⟨kc, ls, rfl, hK⟩ := hr.Yt;have hln := hK.ln;have hbn := hK.Ew;refine JF Tryz.func103 Tryz.ntmps103 fun T K => ?_;have M := Mem.start hf;refine QC <| Qv ?_;refine Jt K M rfl (Qb rfl (Qb rfl (Qb rfl (Qb rfl (Qb rfl (Qb hK.cell Q7)))))) QE fun c2 _ _ K M => ?_;refine Qc 3 K M ?_;intro _ K;refine JP K rfl (fun h9 => ?_) fun h9 => ?_
 · refine Qc 1 K M ?_
   first
    | (exfalso; omega)
    | (refine ⟨?_, M.qt⟩; rw [hinv]; congr 1; have hz : i = l.length := by omega
       rw [WG Qe, Ze]; omega)
    | (refine ⟨?_, M.qt⟩; rw [hinv]; congr 1; omega)
 refine Qc 3 K M ?_;intro _ K;refine p1 K (Q8 Uk rfl rfl hK.len) fun _ K => ?_;refine Qc 1 K M ?_;intro _ K;refine Jc (fun mm1 T st9 => ∃ (i : Nat) (m : Int), mm1 = l.length - i ∧ QY [(1, iZ most), (4, iZ 0), (5, iZ m), (11, kc), (12, iZ (l.length : Nat)), (13, iN i)] T ∧ Mem st.h.get st.n [] st9 [(c2, 0, [.str o, iZ a, iZ b, iZ g, iZ n, kc])] ∧ i ≤ l.length ∧ 1 ≤ m ∧ m ≤ most ∧ min (((XE (.mk o a b g n l)) : Nat) : Int) most = min (m + ((Ze (l.drop i) : Nat) : Int)) most) (fun mm1 T st9 hI => ?_) _ _ _ ⟨0, 1, rfl, (K.sub rfl), M.less (.refl _), (Nat.zero_le _), Qe, h1, (by rw [XE, List.drop_zero]; omega)⟩;obtain ⟨i, m, rfl, K, M, hi, hm1, hm2, hinv⟩ := hI;refine Qc 1 K M ?_;intro _ K;refine JP K rfl (fun h14 => ?_) fun h14 => ?_
 · refine Qc 0 K M ?_;intro _ K;obtain ⟨⟨o15, a15, b15, g15, n15, l15⟩, hi15⟩ : ∃ k, l[i]? = some k := ⟨_, List.getElem?_eq_getElem Qe⟩;have hm15 := I1 hi15;obtain ⟨_, hc15, hn15⟩ := hK.get hi15;have hp15 := hn15;obtain ⟨kc15, ls15, rfl, hK15⟩ := hp15.Yt;obtain ⟨x15, m15, f15, q15, _, la15, lo15, lp15⟩ := (hK.r (M.YJ hR)).load (i := i) (cs := _) hc15;refine p1 K (Qa (j := i) JA (congrArg some q15) rfl (by rw [hK.ln]; omega)) fun _ K => p1 K (Qd rfl (la15 _ Jj)) fun _ K => ?_;refine au 1 K M ?_;intro c7 _ _ K _ M;refine QW (k := 0) K M rfl rfl rfl ZB rfl (Qb rfl (Qb rfl (Qb rfl (Qb rfl (Qb rfl (Qb hK15.cell Q7)))))) rfl fun _ M => ?_;refine Qc 3 K M ?_;intro _ K;refine JP K rfl (fun h19 => ?_) fun h19 => ?_
   · refine QT ?_;show W _ _ _ _ _ _ _;refine Qc 2 K M ?_
     first
      | (exfalso; omega)
      | (refine ⟨?_, M.qt⟩; rw [hinv]; congr 1; have hz : i = l.length := by omega
         rw [WG Qe, Ze]; omega)
      | (refine ⟨?_, M.qt⟩; rw [hinv]; congr 1; omega)
   refine Qc 5 K M ?_;intro _ K;refine oQ K M (ih _ hm15 (most - m) R _ _ M.fresh (M.YJ hR) hn15 Qe Qe) rfl rfl fun _ _ K M => ?_;refine Qc 4 K M ?_;intro _ K;have hst := OG hi15;have hsp := RO (.mk o15 a15 b15 g15 n15 l15);exact ⟨_, Qe, i + 1, (m + min ((XE (.mk o15 a15 b15 g15 n15 l15) : Nat) : Int) (most - m)), rfl, (K.sub rfl), M.less (.cons _ (.refl _)), Qe, Qe, Qe, Qe⟩
 refine QT ?_;show W _ _ _ _ _ _ _;refine Qc 2 K M ?_
 first
  | (exfalso; omega)
  | (refine ⟨?_, M.qt⟩; rw [hinv]; congr 1; have hz : i = l.length := by omega
     rw [WG Qe, Ze]; omega)
  | (refine ⟨?_, M.qt⟩; rw [hinv]; congr 1; omega)

theorem T4 (x : Cr) : ∀ (most : Int) (R : Aq) (st : St) (cs : List AV), Qj st → YJ R st.h.get → XN R x cs → 1 ≤ most → most ≤ 1000000 → ∃ v st', Ev Tryz.prog Q4 75 [.agg cs, iZ most] st v st' ∧ v = iZ (min ((XE x : Nat) : Int) most) ∧ Qt st st' := by
 refine I0 (M := fun x => ∀ (most : Int) (R : Aq) (st : St) (cs : List AV), Qj st → YJ R st.h.get → XN R x cs → 1 ≤ most → most ≤ 1000000 → ∃ v st', Ev Tryz.prog Q4 75 [.agg cs, iZ most] st v st' ∧ v = iZ (min ((XE x : Nat) : Int) most) ∧ Qt st st') (fun o a b g n l ih => ?_) x;intro most R st cs hf hR hr h1 h2;have hr0 := hr;obtain ⟨kc, ls, rfl, hK⟩ := hr.Yt;have hln := hK.ln;have hbn := hK.Ew;refine JF Tryz.func75 Tryz.ntmps75 fun T K => ?_;have M := Mem.start hf;refine QC <| Qv ?_;refine Jt K M rfl (Qb rfl (Qb rfl (Qb rfl (Qb rfl (Qb rfl (Qb hK.cell Q7)))))) QE fun c2 _ _ K M => ?_;refine Qc 3 K M ?_;intro _ K;refine Jc (fun mm1 T st9 => ∃ (i : Nat) (m : Int), mm1 = l.length - i ∧ QY [(1, iZ most), (2, .ptr c2 0 0), (4, iZ 0), (5, iZ m), (6, iN i)] T ∧ Mem st.h.get st.n [] st9 [(c2, 0, [.str o, iZ a, iZ b, iZ g, iZ n, kc])] ∧ i ≤ l.length ∧ 1 ≤ m ∧ m ≤ most ∧ min (((XE (.mk o a b g n l)) : Nat) : Int) most = min (m + ((Ze (l.drop i) : Nat) : Int)) most) (fun mm1 T st9 hI => ?_) _ _ _ ⟨0, 1, rfl, (K.sub rfl), M.less (.refl _), (Nat.zero_le _), Qe, h1, (by rw [XE, List.drop_zero]; omega)⟩;obtain ⟨i, m, rfl, K, M, hi, hm1, hm2, hinv⟩ := hI;refine Qc 3 K M ?_;intro _ K;refine p1 K (Q8 Uk rfl rfl hK.len) fun _ K => ?_;refine Qc 1 K M ?_;intro _ K;refine Um K (Qg rfl) rfl (fun _ e12 K => ?_) fun _ e12 K => ?_
 · refine Qc 5 K M ?_;intro _ K;refine QT ?_;show W _ _ _ _ _ _ _;refine Qc 2 K M ?_;intro _ K;refine p1 K (qV rfl rfl) fun _ K => ?_;refine Qc 1 K M ?_
   first
    | (exfalso; omega)
    | (refine ⟨?_, M.qt⟩; rw [hinv]; congr 1; have hz : i = l.length := by omega
       rw [WG Qe, Ze]; omega)
    | (refine ⟨?_, M.qt⟩; rw [hinv]; congr 1; omega)
 refine Qc 4 K M ?_;intro _ K;refine JP K rfl (fun h16 => ?_) fun h16 => ?_
 · refine Qc 4 K M ?_;intro _ K;obtain ⟨⟨o23, a23, b23, g23, n23, l23⟩, hi23⟩ : ∃ k, l[i]? = some k := ⟨_, List.getElem?_eq_getElem Qe⟩;have hm23 := I1 hi23;obtain ⟨_, hc23, hn23⟩ := hK.get hi23;have hp23 := hn23;obtain ⟨kc23, ls23, rfl, hK23⟩ := hp23.Yt;obtain ⟨x23, m23, f23, q23, _, la23, lo23, lp23⟩ := (hK.r (M.YJ hR)).load (i := i) (cs := _) hc23;refine p1 K (Qa (j := i) JA (congrArg some q23) rfl (by rw [hK.ln]; omega)) fun _ K => p1 K (Qd rfl (la23 _ Jj)) fun _ K => ?_;refine Qc 3 K M ?_;intro _ K;refine oQ K M (ih _ hm23 (most - m) R _ _ M.fresh (M.YJ hR) hn23 Qe Qe) rfl rfl fun _ _ K M => ?_;refine Qc 5 K M ?_;intro _ K;have hst := OG hi23;have hsp := RO (.mk o23 a23 b23 g23 n23 l23);exact ⟨_, Qe, i + 1, (m + min ((XE (.mk o23 a23 b23 g23 n23 l23) : Nat) : Int) (most - m)), rfl, (K.sub rfl), M.less (.refl _), Qe, Qe, Qe, Qe⟩
 refine QT ?_;show W _ _ _ _ _ _ _;refine Qc 2 K M ?_;intro _ K;refine p1 K (qV rfl rfl) fun _ K => ?_;refine Qc 1 K M ?_
 first
  | (exfalso; omega)
  | (refine ⟨?_, M.qt⟩; rw [hinv]; congr 1; have hz : i = l.length := by omega
     rw [WG Qe, Ze]; omega)
  | (refine ⟨?_, M.qt⟩; rw [hinv]; congr 1; omega)

theorem MC(hf:Qj st)(hR:YJ R st.h.get)(hr:XN R (.mk o a b g n l) cs): ∃v st',Ev Tryz.prog Q4 77 [.agg cs] st v st'∧v=iZ (min ((XE (.mk o a b g n l):Nat):Int) 2001)∧Qt st st':=by
 have hr0:=hr;obtain⟨kc,ls,rfl,hK⟩:=hr.Yt;have hln:=hK.ln;have hbn:=hK.Ew;refine JF Tryz.func77 Tryz.ntmps77 fun T K=>?_;have M:=Mem.start hf;refine QC<|Qv ?_;refine Jt K M rfl (Qb rfl (Qb rfl (Qb rfl (Qb rfl (Qb rfl (Qb hK.cell Q7)))))) QE fun c1 _ _ K M=>?_;refine Qc 2 K M ?_;intro _ K;refine oQ K M (u7 (.mk o a b g n l) 2001 R _ _ M.fresh (M.YJ hR) hr0 QE QE) rfl rfl fun _ _ K M=>?_;refine Qc 1 K M ?_;exact⟨rfl,M.qt⟩

theorem ON(hf:Qj st)(hR:YJ R st.h.get)(hr:XN R (.mk o a b g n l) cs): ∃v st',Ev Tryz.prog Q4 51 [.agg cs] st v st'∧v=iZ (min ((XE (.mk o a b g n l):Nat):Int) 2001)∧Qt st st':=by
 have hr0:=hr;obtain⟨kc,ls,rfl,hK⟩:=hr.Yt;have hln:=hK.ln;have hbn:=hK.Ew;refine JF Tryz.func51 Tryz.ntmps51 fun T K=>?_;have M:=Mem.start hf;refine QC<|Qv ?_;refine Jt K M rfl (Qb rfl (Qb rfl (Qb rfl (Qb rfl (Qb rfl (Qb hK.cell Q7)))))) QE fun c1 _ _ K M=>?_;refine Qc 2 K M ?_;intro _ K;refine oQ K M (T4 (.mk o a b g n l) 2001 R _ _ M.fresh (M.YJ hR) hr0 QE QE) rfl rfl fun _ _ K M=>?_;refine Qc 1 K M ?_;exact⟨rfl,M.qt⟩

theorem yX(hf:Qj st)(o:List Nat): ∃v st',Ev Tryz.prog Q4 85 [.str o] st v st'∧v=.tup [.str (Ue o).1,iZ (Ue o).2.1,.bool (Ue o).2.2]∧Qt st st':=by
 refine JF Tryz.func85 Tryz.ntmps85 fun T K=>?_;have M:=Mem.start hf;refine au 4 K M ?_;intro c9 _ _ K _ M;replace M:Mem st.h.get st.n [] _ [(c9,0,[.str [116,114,117,101],.str [115,117,98],.str [115,105,110,103],.str [102,108,97,103],.str [110,111,110,101],.str [108,101,115,115],.str [112,108,117,115],.str [110,117,109],.str [117,110,105,111,110],.str [105,110,116,101,114],.str [109,105,110,117,115],.str [110,111,116],.str [97,110,100],.str [101,120]])]:=M;refine au 2 K M ?_;intro c10 _ _ K _ M;replace M:Mem st.h.get st.n [] _ [(c10,0,[.str [],.str [65,66],.str [65],.str [65],.str [65],.str [65,66],.str [65,66,78],.str [65,78],.str [65,66,67],.str [65,66,67],.str [65,66,67],.str [],.str [],.str [65]]),(c9,0,[.str [116,114,117,101],.str [115,117,98],.str [115,105,110,103],.str [102,108,97,103],.str [110,111,110,101],.str [108,101,115,115],.str [112,108,117,115],.str [110,117,109],.str [117,110,105,111,110],.str [105,110,116,101,114],.str [109,105,110,117,115],.str [110,111,116],.str [97,110,100],.str [101,120]])]:=M;refine au 4 K M ?_;intro c11 _ _ K _ M;refine Ja ?_;refine Qc 4 K M ?_;intro _ K;refine Qq (K.QI rfl) (fun h15=>?_) (fun h15=>?_)
 ·have hb15:=h15;replace h15:=of_decide_eq_true h15;refine Qc 2 K M ?_;intro _ K;refine p1 K (Qa QP rfl rfl QE) fun _ K=>?_;refine Qc 3 K M ?_;intro _ K;refine Qq (K.QI rfl) (fun h23=>?_) (fun h23=>?_)
  ·have hb23:=h23;replace h23:=of_decide_eq_true h23;refine QC ?_;refine QD (l:=[(0,0),(1,0),(2,0),(3,0),(4,0),(5,0),(6,0),(7,0),(8,0),(9,0),(10,0)]) (by kernel_rfl) ?_;refine Jf 2 K M ?_;intro _ K;refine q1 rfl K (Qa QP rfl rfl QE) fun _ K=>?_;refine Jf 3 K M ?_;intro _ K;refine q1 rfl K (Qa Qw rfl rfl QE) fun _ K=>?_;refine Jf 4 K M ?_;intro _ K;refine QG ?_;show W _ _ _ _ _ _ _;refine Jx ⟨.inr rfl,_,(Ju (Q9 K rfl) (Q9 K rfl) (Q9 K rfl)),?_⟩;refine⟨?_,M.qt⟩;unfold Ue
   first|(simp_all;done)|(simp_all;rfl)
  have hb23:=h23;replace h23:=of_decide_eq_false h23;refine Qc 3 K M ?_;intro _ K;refine Ja ?_;refine Qc 4 K M ?_;intro _ K;refine Qq (K.QI rfl) (fun h15=>?_) (fun h15=>?_)
  ·have hb15:=h15;replace h15:=of_decide_eq_true h15;refine Qc 2 K M ?_;intro _ K;refine p1 K (Qa QP rfl rfl QE) fun _ K=>?_;refine Qc 3 K M ?_;intro _ K;refine Qq (K.QI rfl) (fun h23=>?_) (fun h23=>?_)
   ·have hb23:=h23;replace h23:=of_decide_eq_true h23;refine QC ?_;refine QD (l:=[(0,0),(1,0),(2,0),(3,0),(4,0),(5,0),(6,0),(7,0),(8,0),(9,0),(10,0)]) (by kernel_rfl) ?_;refine Jf 2 K M ?_;intro _ K;refine q1 rfl K (Qa QP rfl rfl QE) fun _ K=>?_;refine Jf 3 K M ?_;intro _ K;refine q1 rfl K (Qa Qw rfl rfl QE) fun _ K=>?_;refine Jf 4 K M ?_;intro _ K;refine QG ?_;show W _ _ _ _ _ _ _;refine Jx ⟨.inr rfl,_,(Ju (Q9 K rfl) (Q9 K rfl) (Q9 K rfl)),?_⟩;refine⟨?_,M.qt⟩;unfold Ue
    first|(simp_all;done)|(simp_all;rfl)
   have hb23:=h23;replace h23:=of_decide_eq_false h23;refine Qc 3 K M ?_;intro _ K;refine Ja ?_;refine Qc 4 K M ?_;intro _ K;refine Qq (K.QI rfl) (fun h15=>?_) (fun h15=>?_)
   ·have hb15:=h15;replace h15:=of_decide_eq_true h15;refine Qc 2 K M ?_;intro _ K;refine p1 K (Qa QP rfl rfl QE) fun _ K=>?_;refine Qc 3 K M ?_;intro _ K;refine Qq (K.QI rfl) (fun h23=>?_) (fun h23=>?_)
    ·have hb23:=h23;replace h23:=of_decide_eq_true h23;refine QC ?_;refine QD (l:=[(0,0),(1,0),(2,0),(3,0),(4,0),(5,0),(6,0),(7,0),(8,0),(9,0),(10,0)]) (by kernel_rfl) ?_;refine Jf 2 K M ?_;intro _ K;refine q1 rfl K (Qa QP rfl rfl QE) fun _ K=>?_;refine Jf 3 K M ?_;intro _ K;refine q1 rfl K (Qa Qw rfl rfl QE) fun _ K=>?_;refine Jf 4 K M ?_;intro _ K;refine QG ?_;show W _ _ _ _ _ _ _;refine Jx ⟨.inr rfl,_,(Ju (Q9 K rfl) (Q9 K rfl) (Q9 K rfl)),?_⟩;refine⟨?_,M.qt⟩;unfold Ue
     first|(simp_all;done)|(simp_all;rfl)
    have hb23:=h23;replace h23:=of_decide_eq_false h23;refine Qc 3 K M ?_;intro _ K;refine Ja ?_;refine Qc 4 K M ?_;intro _ K;refine Qq (K.QI rfl) (fun h15=>?_) (fun h15=>?_)
    ·have hb15:=h15;replace h15:=of_decide_eq_true h15;refine Qc 2 K M ?_;intro _ K;refine p1 K (Qa QP rfl rfl QE) fun _ K=>?_;refine Qc 3 K M ?_;intro _ K;refine Qq (K.QI rfl) (fun h23=>?_) (fun h23=>?_)
     ·have hb23:=h23;replace h23:=of_decide_eq_true h23;refine QC ?_;refine QD (l:=[(0,0),(1,0),(2,0),(3,0),(4,0),(5,0),(6,0),(7,0),(8,0),(9,0),(10,0)]) (by kernel_rfl) ?_;refine Jf 2 K M ?_;intro _ K;refine q1 rfl K (Qa QP rfl rfl QE) fun _ K=>?_;refine Jf 3 K M ?_;intro _ K;refine q1 rfl K (Qa Qw rfl rfl QE) fun _ K=>?_;refine Jf 4 K M ?_;intro _ K;refine QG ?_;show W _ _ _ _ _ _ _;refine Jx ⟨.inr rfl,_,(Ju (Q9 K rfl) (Q9 K rfl) (Q9 K rfl)),?_⟩;refine⟨?_,M.qt⟩;unfold Ue
      first|(simp_all;done)|(simp_all;rfl)
     have hb23:=h23;replace h23:=of_decide_eq_false h23;refine Qc 3 K M ?_;intro _ K;refine Ja ?_;refine Qc 4 K M ?_;intro _ K;refine Qq (K.QI rfl) (fun h15=>?_) (fun h15=>?_)
     ·have hb15:=h15;replace h15:=of_decide_eq_true h15;refine Qc 2 K M ?_;intro _ K;refine p1 K (Qa QP rfl rfl QE) fun _ K=>?_;refine Qc 3 K M ?_;intro _ K;refine Qq (K.QI rfl) (fun h23=>?_) (fun h23=>?_)
      ·have hb23:=h23;replace h23:=of_decide_eq_true h23;refine QC ?_;refine QD (l:=[(0,0),(1,0),(2,0),(3,0),(4,0),(5,0),(6,0),(7,0),(8,0),(9,0),(10,0)]) (by kernel_rfl) ?_;refine Jf 2 K M ?_;intro _ K;refine q1 rfl K (Qa QP rfl rfl QE) fun _ K=>?_;refine Jf 3 K M ?_;intro _ K;refine q1 rfl K (Qa Qw rfl rfl QE) fun _ K=>?_;refine Jf 4 K M ?_;intro _ K;refine QG ?_;show W _ _ _ _ _ _ _;refine Jx ⟨.inr rfl,_,(Ju (Q9 K rfl) (Q9 K rfl) (Q9 K rfl)),?_⟩;refine⟨?_,M.qt⟩;unfold Ue
       first|(simp_all;done)|(simp_all;rfl)
      have hb23:=h23;replace h23:=of_decide_eq_false h23;refine Qc 3 K M ?_;intro _ K;refine Ja ?_;refine Qc 4 K M ?_;intro _ K;refine Qq (K.QI rfl) (fun h15=>?_) (fun h15=>?_)
      ·have hb15:=h15;replace h15:=of_decide_eq_true h15;refine Qc 2 K M ?_;intro _ K;refine p1 K (Qa QP rfl rfl QE) fun _ K=>?_;refine Qc 3 K M ?_;intro _ K;refine Qq (K.QI rfl) (fun h23=>?_) (fun h23=>?_)
       ·have hb23:=h23;replace h23:=of_decide_eq_true h23;refine QC ?_;refine QD (l:=[(0,0),(1,0),(2,0),(3,0),(4,0),(5,0),(6,0),(7,0),(8,0),(9,0),(10,0)]) (by kernel_rfl) ?_;refine Jf 2 K M ?_;intro _ K;refine q1 rfl K (Qa QP rfl rfl QE) fun _ K=>?_;refine Jf 3 K M ?_;intro _ K;refine q1 rfl K (Qa Qw rfl rfl QE) fun _ K=>?_;refine Jf 4 K M ?_;intro _ K;refine QG ?_;show W _ _ _ _ _ _ _;refine Jx ⟨.inr rfl,_,(Ju (Q9 K rfl) (Q9 K rfl) (Q9 K rfl)),?_⟩;refine⟨?_,M.qt⟩;unfold Ue
        first|(simp_all;done)|(simp_all;rfl)
       have hb23:=h23;replace h23:=of_decide_eq_false h23;refine Qc 3 K M ?_;intro _ K;refine Ja ?_;refine Qc 4 K M ?_;intro _ K;refine Qq (K.QI rfl) (fun h15=>?_) (fun h15=>?_)
       ·have hb15:=h15;replace h15:=of_decide_eq_true h15;refine Qc 2 K M ?_;intro _ K;refine p1 K (Qa QP rfl rfl QE) fun _ K=>?_;refine Qc 3 K M ?_;intro _ K;refine Qq (K.QI rfl) (fun h23=>?_) (fun h23=>?_)
        ·have hb23:=h23;replace h23:=of_decide_eq_true h23;refine QC ?_;refine QD (l:=[(0,0),(1,0),(2,0),(3,0),(4,0),(5,0),(6,0),(7,0),(8,0),(9,0),(10,0)]) (by kernel_rfl) ?_;refine Jf 2 K M ?_;intro _ K;refine q1 rfl K (Qa QP rfl rfl QE) fun _ K=>?_;refine Jf 3 K M ?_;intro _ K;refine q1 rfl K (Qa Qw rfl rfl QE) fun _ K=>?_;refine Jf 4 K M ?_;intro _ K;refine QG ?_;show W _ _ _ _ _ _ _;refine Jx ⟨.inr rfl,_,(Ju (Q9 K rfl) (Q9 K rfl) (Q9 K rfl)),?_⟩;refine⟨?_,M.qt⟩;unfold Ue
         first|(simp_all;done)|(simp_all;rfl)
        have hb23:=h23;replace h23:=of_decide_eq_false h23;refine Qc 3 K M ?_;intro _ K;refine Ja ?_;refine Qc 4 K M ?_;intro _ K;refine Qq (K.QI rfl) (fun h15=>?_) (fun h15=>?_)
        ·have hb15:=h15;replace h15:=of_decide_eq_true h15;refine Qc 2 K M ?_;intro _ K;refine p1 K (Qa QP rfl rfl QE) fun _ K=>?_;refine Qc 3 K M ?_;intro _ K;refine Qq (K.QI rfl) (fun h23=>?_) (fun h23=>?_)
         ·have hb23:=h23;replace h23:=of_decide_eq_true h23;refine QC ?_;refine QD (l:=[(0,0),(1,0),(2,0),(3,0),(4,0),(5,0),(6,0),(7,0),(8,0),(9,0),(10,0)]) (by kernel_rfl) ?_;refine Jf 2 K M ?_;intro _ K;refine q1 rfl K (Qa QP rfl rfl QE) fun _ K=>?_;refine Jf 3 K M ?_;intro _ K;refine q1 rfl K (Qa Qw rfl rfl QE) fun _ K=>?_;refine Jf 4 K M ?_;intro _ K;refine QG ?_;show W _ _ _ _ _ _ _;refine Jx ⟨.inr rfl,_,(Ju (Q9 K rfl) (Q9 K rfl) (Q9 K rfl)),?_⟩;refine⟨?_,M.qt⟩;unfold Ue
          first|(simp_all;done)|(simp_all;rfl)
         have hb23:=h23;replace h23:=of_decide_eq_false h23;refine Qc 3 K M ?_;intro _ K;refine Ja ?_;refine Qc 4 K M ?_;intro _ K;refine Qq (K.QI rfl) (fun h15=>?_) (fun h15=>?_)
         ·have hb15:=h15;replace h15:=of_decide_eq_true h15;refine Qc 2 K M ?_;intro _ K;refine p1 K (Qa QP rfl rfl QE) fun _ K=>?_;refine Qc 3 K M ?_;intro _ K;refine Qq (K.QI rfl) (fun h23=>?_) (fun h23=>?_)
          ·have hb23:=h23;replace h23:=of_decide_eq_true h23;refine QC ?_;refine QD (l:=[(0,0),(1,0),(2,0),(3,0),(4,0),(5,0),(6,0),(7,0),(8,0),(9,0),(10,0)]) (by kernel_rfl) ?_;refine Jf 2 K M ?_;intro _ K;refine q1 rfl K (Qa QP rfl rfl QE) fun _ K=>?_;refine Jf 3 K M ?_;intro _ K;refine q1 rfl K (Qa Qw rfl rfl QE) fun _ K=>?_;refine Jf 4 K M ?_;intro _ K;refine QG ?_;show W _ _ _ _ _ _ _;refine Jx ⟨.inr rfl,_,(Ju (Q9 K rfl) (Q9 K rfl) (Q9 K rfl)),?_⟩;refine⟨?_,M.qt⟩;unfold Ue
           first|(simp_all;done)|(simp_all;rfl)
          have hb23:=h23;replace h23:=of_decide_eq_false h23;refine Qc 3 K M ?_;intro _ K;refine Ja ?_;refine Qc 4 K M ?_;intro _ K;refine Qq (K.QI rfl) (fun h15=>?_) (fun h15=>?_)
          ·have hb15:=h15;replace h15:=of_decide_eq_true h15;refine Qc 2 K M ?_;intro _ K;refine p1 K (Qa QP rfl rfl QE) fun _ K=>?_;refine Qc 3 K M ?_;intro _ K;refine Qq (K.QI rfl) (fun h23=>?_) (fun h23=>?_)
           ·have hb23:=h23;replace h23:=of_decide_eq_true h23;refine QC ?_;refine QD (l:=[(0,0),(1,0),(2,0),(3,0),(4,0),(5,0),(6,0),(7,0),(8,0),(9,0),(10,0)]) (by kernel_rfl) ?_;refine Jf 2 K M ?_;intro _ K;refine q1 rfl K (Qa QP rfl rfl QE) fun _ K=>?_;refine Jf 3 K M ?_;intro _ K;refine q1 rfl K (Qa Qw rfl rfl QE) fun _ K=>?_;refine Jf 4 K M ?_;intro _ K;refine QG ?_;show W _ _ _ _ _ _ _;refine Jx ⟨.inr rfl,_,(Ju (Q9 K rfl) (Q9 K rfl) (Q9 K rfl)),?_⟩;refine⟨?_,M.qt⟩;unfold Ue
            first|(simp_all;done)|(simp_all;rfl)
           have hb23:=h23;replace h23:=of_decide_eq_false h23;refine Qc 3 K M ?_;intro _ K;refine Ja ?_;refine Qc 4 K M ?_;intro _ K;refine Qq (K.QI rfl) (fun h15=>?_) (fun h15=>?_)
           ·have hb15:=h15;replace h15:=of_decide_eq_true h15;refine Qc 2 K M ?_;intro _ K;refine p1 K (Qa QP rfl rfl QE) fun _ K=>?_;refine Qc 3 K M ?_;intro _ K;refine Qq (K.QI rfl) (fun h23=>?_) (fun h23=>?_)
            ·have hb23:=h23;replace h23:=of_decide_eq_true h23;refine QC ?_;refine QD (l:=[(0,0),(1,0),(2,0),(3,0),(4,0),(5,0),(6,0),(7,0),(8,0),(9,0),(10,0)]) (by kernel_rfl) ?_;refine Jf 2 K M ?_;intro _ K;refine q1 rfl K (Qa QP rfl rfl QE) fun _ K=>?_;refine Jf 3 K M ?_;intro _ K;refine q1 rfl K (Qa Qw rfl rfl QE) fun _ K=>?_;refine Jf 4 K M ?_;intro _ K;refine QG ?_;show W _ _ _ _ _ _ _;refine Jx ⟨.inr rfl,_,(Ju (Q9 K rfl) (Q9 K rfl) (Q9 K rfl)),?_⟩;refine⟨?_,M.qt⟩;unfold Ue
             first|(simp_all;done)|(simp_all;rfl)
            have hb23:=h23;replace h23:=of_decide_eq_false h23;refine Qc 3 K M ?_;intro _ K;refine Ja ?_;refine Qc 4 K M ?_;intro _ K;refine Qq (K.QI rfl) (fun h15=>?_) (fun h15=>?_)
            ·have hb15:=h15;replace h15:=of_decide_eq_true h15;refine Qc 2 K M ?_;intro _ K;refine p1 K (Qa QP rfl rfl QE) fun _ K=>?_;refine Qc 3 K M ?_;intro _ K;refine Qq (K.QI rfl) (fun h23=>?_) (fun h23=>?_)
             ·have hb23:=h23;replace h23:=of_decide_eq_true h23;refine QC ?_;refine QD (l:=[(0,0),(1,0),(2,0),(3,0),(4,0),(5,0),(6,0),(7,0),(8,0),(9,0),(10,0)]) (by kernel_rfl) ?_;refine Jf 2 K M ?_;intro _ K;refine q1 rfl K (Qa QP rfl rfl QE) fun _ K=>?_;refine Jf 3 K M ?_;intro _ K;refine q1 rfl K (Qa Qw rfl rfl QE) fun _ K=>?_;refine Jf 4 K M ?_;intro _ K;refine QG ?_;show W _ _ _ _ _ _ _;refine Jx ⟨.inr rfl,_,(Ju (Q9 K rfl) (Q9 K rfl) (Q9 K rfl)),?_⟩;refine⟨?_,M.qt⟩;unfold Ue
              first|(simp_all;done)|(simp_all;rfl)
             have hb23:=h23;replace h23:=of_decide_eq_false h23;refine Qc 3 K M ?_;intro _ K;refine Ja ?_;refine Qc 4 K M ?_;intro _ K;refine Qq (K.QI rfl) (fun h15=>?_) (fun h15=>?_)
             ·have hb15:=h15;replace h15:=of_decide_eq_true h15;refine Qc 2 K M ?_;intro _ K;refine p1 K (Qa QP rfl rfl QE) fun _ K=>?_;refine Qc 3 K M ?_;intro _ K;refine Qq (K.QI rfl) (fun h23=>?_) (fun h23=>?_)
              ·have hb23:=h23;replace h23:=of_decide_eq_true h23;refine QC ?_;refine QD (l:=[(0,0),(1,0),(2,0),(3,0),(4,0),(5,0),(6,0),(7,0),(8,0),(9,0),(10,0)]) (by kernel_rfl) ?_;refine Jf 2 K M ?_;intro _ K;refine q1 rfl K (Qa QP rfl rfl QE) fun _ K=>?_;refine Jf 3 K M ?_;intro _ K;refine q1 rfl K (Qa Qw rfl rfl QE) fun _ K=>?_;refine Jf 4 K M ?_;intro _ K;refine QG ?_;show W _ _ _ _ _ _ _;refine Jx ⟨.inr rfl,_,(Ju (Q9 K rfl) (Q9 K rfl) (Q9 K rfl)),?_⟩;refine⟨?_,M.qt⟩;unfold Ue
               first|(simp_all;done)|(simp_all;rfl)
              have hb23:=h23;replace h23:=of_decide_eq_false h23;refine Qc 3 K M ?_;intro _ K;refine Ja ?_;refine Qc 4 K M ?_;intro _ K;refine Qq (K.QI rfl) (fun h15=>?_) (fun h15=>?_)
              ·have hb15:=h15;replace h15:=of_decide_eq_true h15;refine Qc 2 K M ?_;intro _ K;refine p1 K (Qa QP rfl rfl QE) fun _ K=>?_;refine Qc 3 K M ?_;intro _ K;refine Qq (K.QI rfl) (fun h23=>?_) (fun h23=>?_)
               ·have hb23:=h23;replace h23:=of_decide_eq_true h23;refine QC ?_;refine QD (l:=[(0,0),(1,0),(2,0),(3,0),(4,0),(5,0),(6,0),(7,0),(8,0),(9,0),(10,0)]) (by kernel_rfl) ?_;refine Jf 2 K M ?_;intro _ K;refine q1 rfl K (Qa QP rfl rfl QE) fun _ K=>?_;refine Jf 3 K M ?_;intro _ K;refine q1 rfl K (Qa Qw rfl rfl QE) fun _ K=>?_;refine Jf 4 K M ?_;intro _ K;refine QG ?_;show W _ _ _ _ _ _ _;refine Jx ⟨.inr rfl,_,(Ju (Q9 K rfl) (Q9 K rfl) (Q9 K rfl)),?_⟩;refine⟨?_,M.qt⟩;unfold Ue
                first|(simp_all;done)|(simp_all;rfl)
               have hb23:=h23;replace h23:=of_decide_eq_false h23;refine Qc 3 K M ?_;intro _ K;refine Ja ?_;refine Qc 4 K M ?_;intro _ K;refine Qq (K.QI rfl) (fun h15=>?_) (fun h15=>?_)
               ·have hb15:=h15;replace h15:=of_decide_eq_true h15
                exfalso;omega
               have hb15:=h15;replace h15:=of_decide_eq_false h15;refine QT ?_;show W _ _ _ _ _ _ _;refine Qc 3 K M ?_;intro _ K;refine Jx ⟨.inr rfl,_,(Ju (Q9 K rfl) (Q9 K rfl) (Q9 K rfl)),?_⟩;refine⟨?_,M.qt⟩;unfold Ue
               first|(simp_all;done)|(simp_all;rfl)
              have hb15:=h15;replace h15:=of_decide_eq_false h15
              exfalso;omega
             have hb15:=h15;replace h15:=of_decide_eq_false h15
             exfalso;omega
            have hb15:=h15;replace h15:=of_decide_eq_false h15
            exfalso;omega
           have hb15:=h15;replace h15:=of_decide_eq_false h15
           exfalso;omega
          have hb15:=h15;replace h15:=of_decide_eq_false h15
          exfalso;omega
         have hb15:=h15;replace h15:=of_decide_eq_false h15
         exfalso;omega
        have hb15:=h15;replace h15:=of_decide_eq_false h15
        exfalso;omega
       have hb15:=h15;replace h15:=of_decide_eq_false h15
       exfalso;omega
      have hb15:=h15;replace h15:=of_decide_eq_false h15
      exfalso;omega
     have hb15:=h15;replace h15:=of_decide_eq_false h15
     exfalso;omega
    have hb15:=h15;replace h15:=of_decide_eq_false h15
    exfalso;omega
   have hb15:=h15;replace h15:=of_decide_eq_false h15
   exfalso;omega
  have hb15:=h15;replace h15:=of_decide_eq_false h15
  exfalso;omega
 have hb15:=h15;replace h15:=of_decide_eq_false h15
 exfalso;omega

theorem A9(hf:Qj st)(h:List Nat)(hl:h.length≤1000)(k:Nat)(u n:Int): ∃v st',Ev Tryz.prog Q4 86 [.str h,.int .u8 (((k:Nat):Int)),iZ u,iZ n] st v st'∧v=.bool (Uj h k u n)∧Qt st st':=by
 refine JF Tryz.func86 Tryz.ntmps86 fun T K=>?_;have M:=Mem.start hf;refine Qc 2 K M ?_;intro _ K;refine Jc (fun mm1 T st9=> ∃(i:Nat),mm1=h.length-i∧QY [(0,.str h),(1,.int .u8 (((k:Nat):Int))),(2,iZ u),(3,iZ n),(9,iN i)] T∧Mem st.h.get st.n [] st9 []∧i≤h.length∧(∀(j x:Nat),j<i→h[j]? =some x→ ¬x=k)) (fun mm1 T st9 hI=>?_) _ _ _ ⟨0,rfl,(K.sub rfl),M.less (.refl _),(Nat.zero_le _),(fun j x hj=>by omega)⟩;obtain⟨i,rfl,K,M,hi,hx⟩:=hI;refine Qc 2 K M ?_;intro _ K;refine p1 K (zi Wr rfl rfl) fun _ K=>?_;refine Qc 1 K M ?_;intro _ K;refine JP K rfl (fun h13=>?_) fun h13=>?_
 ·refine Qc 2 K M ?_;intro _ K;obtain⟨y18,hy18⟩:=U8 h i Qe;refine p1 K (TI Wr rfl rfl hy18) fun _ K=>?_;refine Qc 2 K M ?_;intro _ K;refine JP K rfl (fun h20=>?_) fun h20=>?_
  ·refine Qc 2 K M ?_;intro _ K;refine Um K (Qg rfl) rfl (fun _ e23 K=>?_) fun _ e23 K=>?_
   ·refine Qc 5 K M ?_;refine⟨?_,M.qt⟩
    have hmem:k∈h:=by have:=List.mem_of_getElem? hy18;rwa [show y18=k by omega]at this
    rw[Uj,if_pos hmem]
    first|(simp_all [Qo];done)|(simp_all [Qo]<;>(intros;omega))
   refine Qc 5 K M ?_;refine⟨?_,M.qt⟩
   have hmem:k∈h:=by have:=List.mem_of_getElem? hy18;rwa [show y18=k by omega]at this
   rw[Uj,if_pos hmem]
   first|(simp_all [Qo];done)|(simp_all [Qo]<;>(intros;omega))
  refine Qc 3 K M ?_;intro _ K;exact⟨_,Qe,i+1,rfl,(K.sub rfl),M.less (.refl _),Qe,(fun j x hj hq=>by by_cases e:j=i;subst e;rw[hy18]at hq;injection hq with hq;omega;exact hx j x Qe hq)⟩
 refine QT ?_;show W _ _ _ _ _ _ _;refine Qc 3 K M ?_;refine⟨?_,M.qt⟩
 have hmem: ¬k∈h:=fun hm=>by obtain⟨j,hj⟩:=List.getElem?_of_mem hm;exact hx j k (by have:=(List.getElem?_eq_some_iff.1 hj).1;omega) hj rfl
 rw[Uj,if_neg hmem]

theorem YI{c:Prop} [Decidable c]{a b:List Nat×Int×Bool}(ha:a.1.length≤1000)(hb:b.1.length≤1000):(if c then a else b).1.length≤1000:=by
 split<;>assumption
theorem H5(o:List Nat):(Ue o).1.length≤1000:=by
 unfold Ue;refine YI QE ?_;refine YI QE ?_;refine YI QE ?_;refine YI QE ?_;refine YI QE ?_;refine YI QE ?_;refine YI QE ?_;refine YI QE ?_;refine YI QE ?_;refine YI QE ?_;refine YI QE ?_;refine YI QE ?_;refine YI QE ?_;refine YI QE ?_;decide

theorem wc(x:Cr): ∀(m:Int) (R:Aq) (st:St) (cs:List AV),Qj st→YJ R st.h.get→XN R x cs→ -100≤m→m≤100→ ∃v st',Ev Tryz.prog Q4 59 [.agg cs,iZ m] st v st'∧v=.bool (Jm x m)∧Qt st st':=by
 refine I0 (M:=fun x=> ∀(m:Int) (R:Aq) (st:St) (cs:List AV),Qj st→YJ R st.h.get→XN R x cs→ -100≤m→m≤100→ ∃v st',Ev Tryz.prog Q4 59 [.agg cs,iZ m] st v st'∧v=.bool (Jm x m)∧Qt st st') (fun o a b g n l ih=>?_) x;intro m R st cs hf hR hr hm1 hm2;have hr0:=hr;obtain⟨kc,ls,rfl,hK⟩:=hr.Yt;have hln:=hK.ln;have hbn:=hK.Ew;refine JF Tryz.func59 Tryz.ntmps59 fun T K=>?_;have M:=Mem.start hf;refine QC<|Qv ?_;refine Jt K M rfl (Qb rfl (Qb rfl (Qb rfl (Qb rfl (Qb rfl (Qb hK.cell Q7)))))) QE fun c2 _ _ K M=>?_;refine Qc 3 K M ?_;intro _ K;refine oQ K M (yX M.fresh o) rfl rfl fun _ _ K M=>?_;refine Qc 9 K M ?_;intro _ K;refine oB K (Qg rfl) rfl fun b18 _ e18 K=>?_;cases b18
 ·replace e18:((Ue o).2.2)=true:=by simpa using e18
  refine Qc 2 K M ?_;intro _ K;refine pg K rfl rfl (Q8 Uk rfl rfl hK.len) fun _ K=>?_;refine Qc 3 K M ?_;intro _ K;refine xy K (Qg rfl) rfl (fun _ e25 K=>?_) fun _ e25 K=>?_
  ·refine Qc 3 K M ?_;intro _ K;obtain⟨v29,st29,ev29,rfl,q29⟩:=A9 M.fresh (Ue o).1 (H5 o) 78 n 21;refine pg K rfl rfl (Qh rfl ev29) fun _ K=>?_;replace M:=M.quiet q29;refine Qc 2 K M ?_;intro _ K;refine Qq (K.QI rfl) (fun h31=>?_) (fun h31=>?_)
   ·have hb31:=h31
    replace h31:(Uj (Ue o).1 78 n 21)=false:=by simpa using h31
    refine Qc 1 K M ?_;refine⟨congrArg AV.bool ?_,M.qt⟩;clear M K ih hr hr0 hK hR hf;rw[Jm]
    first|(simp[*];done)|(simp_all;done)|(simp_all;omega)
   have hb31:=h31
   replace h31:(Uj (Ue o).1 78 n 21)=true:=by simpa using h31
   refine Qc 2 K M ?_;intro _ K;refine p1 K (Jk (b:=[101,120]) rfl rfl) fun _ K=>Un ?_;show W _ _ _ _ _ _ _;refine JP K rfl (fun h34=>?_) fun h34=>?_
   ·refine QC ?_
    have hl1:l.length=1:=by rw[h34,show(Ue [101,120]).2.1=1 by decide]at e25;omega
    refine Qc 4 K M ?_;intro _ K;refine Um K (Qg rfl) rfl (fun _ e39 K=>?_) fun _ e39 K=>?_
    ·refine Qc 23 K M ?_;refine⟨congrArg AV.bool ?_,M.qt⟩;clear M K ih hr hr0 hK hR hf;rw[Jm]
     first|(simp[*];done)|(simp_all;done)|(simp_all;omega)
    refine Qc 3 K M ?_;intro _ K;refine Um K (Qg rfl) rfl (fun _ e43 K=>?_) fun _ e43 K=>?_
    ·refine Qc 19 K M ?_;refine⟨congrArg AV.bool ?_,M.qt⟩;clear M K ih hr hr0 hK hR hf;rw[Jm]
     first|(simp[*];done)|(simp_all;done)|(simp_all;omega)
    refine Qc 4 K M ?_;intro _ K;refine Um K (Qg rfl) rfl (fun _ e48 K=>?_) fun _ e48 K=>?_
    ·refine Qc 14 K M ?_;refine⟨congrArg AV.bool ?_,M.qt⟩;clear M K ih hr hr0 hK hR hf;rw[Jm]
     first|(simp[*];done)|(simp_all;done)|(simp_all;omega)
    refine Qc 4 K M ?_;intro _ K;refine Um K (Qg rfl) rfl (fun _ e53 K=>?_) fun _ e53 K=>?_
    ·refine Qc 9 K M ?_;refine⟨congrArg AV.bool ?_,M.qt⟩;clear M K ih hr hr0 hK hR hf;rw[Jm]
     first|(simp[*];done)|(simp_all;done)|(simp_all;omega)
    refine Qc 2 K M ?_;intro _ K;obtain⟨⟨o56,a56,b56,g56,n56,l56⟩,hi56⟩: ∃k,l[0]? =some k:=⟨_,List.getElem?_eq_getElem Qe⟩;have hm56:=I1 hi56;obtain⟨_,hc56,hn56⟩:=hK.get hi56;have hp56:=hn56;obtain⟨kc56,ls56,rfl,hK56⟩:=hp56.Yt;obtain⟨x56,m56,f56,q56,_,la56,lo56,lp56⟩:=(hK.r (M.YJ hR)).load (i:=0) (cs:=_) hc56;refine pg K rfl rfl (Qa (j:=0) JA (congrArg some q56) rfl (by rw[hK.ln];omega)) fun _ K=>pg K rfl rfl (Qd rfl (la56 _ Jj)) fun _ K=>?_;refine Qc 2 K M ?_;intro _ K;obtain⟨v60,st60,ev60,rfl,q60⟩:=ih _ hm56 (m+1) R _ _ M.fresh (M.YJ hR) hn56 Qe Qe;refine pg K rfl rfl (Qh rfl ev60) fun _ K=>?_;replace M:=M.quiet q60;refine Qc 2 K M ?_;have hcl:Xe l (m+1)=Jm (.mk o56 a56 b56 g56 n56 l56) (m+1):=M5 hl1 hi56;refine⟨congrArg AV.bool ?_,M.qt⟩;clear M K ih hr hr0 hK hR hf;rw[←hcl,Jm];simp only[e18,decide_eq_true e25,h31,if_pos h34,decide_eq_true e39,decide_eq_true e43,decide_eq_true e48,decide_eq_true e53,Bool.true_and]
   refine Qc 4 K M ?_;intro _ K;refine oQ K M (A9 M.fresh (Ue o).1 (H5 o) 65 a m) rfl rfl fun _ _ K M=>?_;refine Qc 1 K M ?_;intro _ K;refine oB K (Qg rfl) rfl fun b68 _ e68 K=>?_;cases b68
   ·replace e68:(Uj (Ue o).1 65 a m)=true:=by simpa using e68
    refine Qc 4 K M ?_;intro _ K;obtain⟨v73,st73,ev73,rfl,q73⟩:=A9 M.fresh (Ue o).1 (H5 o) 66 b m;refine pg K rfl rfl (Qh rfl ev73) fun _ K=>?_;replace M:=M.quiet q73;refine Qc 2 K M ?_;intro _ K;refine oB K (Qg rfl) rfl fun b76 _ e76 K=>?_;cases b76
    ·replace e76:(Uj (Ue o).1 66 b m)=true:=by simpa using e76
     refine Qc 4 K M ?_;intro _ K;obtain⟨v81,st81,ev81,rfl,q81⟩:=A9 M.fresh (Ue o).1 (H5 o) 67 g m;refine pg K rfl rfl (Qh rfl ev81) fun _ K=>?_;replace M:=M.quiet q81;refine Qc 2 K M ?_;intro _ K;refine Qq (K.QI rfl) (fun h83=>?_) (fun h83=>?_)
     ·have hb83:=h83
      replace h83:(Uj (Ue o).1 67 g m)=false:=by simpa using h83
      refine Qc 1 K M ?_;refine⟨congrArg AV.bool ?_,M.qt⟩;clear M K ih hr hr0 hK hR hf;rw[Jm]
      first|(simp[*];done)|(simp_all;done)|(simp_all;omega)
     have hb83:=h83
     replace h83:(Uj (Ue o).1 67 g m)=true:=by simpa using h83
     refine Qc 1 K M ?_;intro _ K;refine Jc (fun mm1 T st9=> ∃(i:Nat),mm1=l.length-i∧QY [(1,iZ m),(2,.ptr c2 0 0),(6,iZ ((Ue o).2.1)),(8,iN i)] T∧Mem st.h.get st.n [] st9 [(c2,0,[.str o,iZ a,iZ b,iZ g,iZ n,kc])]∧i≤l.length∧(∀(j:Nat) (k:Cr),j<i→l[j]? =some k→Jm k m=true)) (fun mm1 T st9 hI=>?_) _ _ _ ⟨0,rfl,(K.sub rfl),M.less (.refl _),(Nat.zero_le _),(fun j k hj=>absurd hj (Nat.not_lt_zero j))⟩;obtain⟨i,rfl,K,M,hi,hall⟩:=hI;refine Qc 3 K M ?_;intro _ K;refine JP K rfl (fun h86=>?_) fun h86=>?_
     ·refine Qc 3 K M ?_;intro _ K;obtain⟨⟨o92,a92,b92,g92,n92,l92⟩,hi92⟩: ∃k,l[i]? =some k:=⟨_,List.getElem?_eq_getElem Qe⟩;have hm92:=I1 hi92;obtain⟨_,hc92,hn92⟩:=hK.get hi92;have hp92:=hn92;obtain⟨kc92,ls92,rfl,hK92⟩:=hp92.Yt;obtain⟨x92,m92,f92,q92,_,la92,lo92,lp92⟩:=(hK.r (M.YJ hR)).load (i:=i) (cs:=_) hc92;refine p1 K (Qa (j:=i) JA (congrArg some q92) rfl (by rw[hK.ln];omega)) fun _ K=>p1 K (Qd rfl (la92 _ Jj)) fun _ K=>?_;refine Qc 1 K M ?_;intro _ K;refine oQ K M (ih _ hm92 m R _ _ M.fresh (M.YJ hR) hn92 Qe Qe) rfl rfl fun _ _ K M=>?_;refine Qc 1 K M ?_;intro _ K;refine Qq (K.QI rfl) (fun h96=>?_) (fun h96=>?_)
      ·have hb96:=h96
       replace h96:(Jm (.mk o92 a92 b92 g92 n92 l92) m)=false:=by simpa using h96
       refine Qc 1 K M ?_;have hcf:Xe l m=false:=DA hi92 h96;refine⟨congrArg AV.bool ?_,M.qt⟩;clear M K ih hr hr0 hK hR hf;rw[Jm]
       first|(simp[*];done)|(simp_all;done)|(simp_all;omega)
      have hb96:=h96
      replace h96:(Jm (.mk o92 a92 b92 g92 n92 l92) m)=true:=by simpa using h96
      refine Qc 3 K M ?_;intro _ K;exact⟨_,Qe,i+1,rfl,(K.sub rfl),M.less (.refl _),Qe,(fun j k hj hq=>by by_cases e:j=i;subst e;rw[hi92]at hq;injection hq with hq;subst hq;exact h96;exact hall j k Qe hq)⟩
     refine QT ?_;show W _ _ _ _ _ _ _;refine Qc 1 K M ?_;have hct:Xe l m=true:=Rr fun j k hj=>hall j k (by have:=(List.getElem?_eq_some_iff.1 hj).1;omega) hj;refine⟨congrArg AV.bool ?_,M.qt⟩;clear M K ih hr hr0 hK hR hf;rw[Jm]
     first|(simp[*];done)|(simp_all;done)|(simp_all;omega)
    replace e76:(Uj (Ue o).1 66 b m)=false:=by simpa using e76
    refine Qc 9 K M ?_;refine⟨congrArg AV.bool ?_,M.qt⟩;clear M K ih hr hr0 hK hR hf;rw[Jm]
    first|(simp[*];done)|(simp_all;done)|(simp_all;omega)
   replace e68:(Uj (Ue o).1 65 a m)=false:=by simpa using e68
   refine Qc 17 K M ?_;refine⟨congrArg AV.bool ?_,M.qt⟩;clear M K ih hr hr0 hK hR hf;rw[Jm]
   first|(simp[*];done)|(simp_all;done)|(simp_all;omega)
  refine Qc 8 K M ?_;refine⟨congrArg AV.bool ?_,M.qt⟩;clear M K ih hr hr0 hK hR hf;rw[Jm]
  first|(simp[*];done)|(simp_all;done)|(simp_all;omega)
 replace e18:((Ue o).2.2)=false:=by simpa using e18
 refine Qc 15 K M ?_;refine⟨congrArg AV.bool ?_,M.qt⟩;clear M K ih hr hr0 hK hR hf;rw[Jm]
 first|(simp[*];done)|(simp_all;done)|(simp_all;omega)

theorem RV(hf:Qj st)(hR:YJ R st.h.get)(hr:XN R (.mk o a b g n l) cs)(m:Int): ∃v st',Ev Tryz.prog Q4 33 [.agg cs,iZ m] st v st'∧v=.bool (decide (0≤m)&&decide (m≤6)&&decide (XE (.mk o a b g n l)≤2000)&&Jm (.mk o a b g n l) m)∧Qt st st':=by
 have hr0:=hr;obtain⟨kc,ls,rfl,hK⟩:=hr.Yt;have hln:=hK.ln;have hbn:=hK.Ew;refine JF Tryz.func33 Tryz.ntmps33 fun T K=>?_;have M:=Mem.start hf;refine QC<|Qv ?_;refine Jt K M rfl (Qb rfl (Qb rfl (Qb rfl (Qb rfl (Qb rfl (Qb hK.cell Q7)))))) QE fun c2 _ _ K M=>?_;refine Qc 3 K M ?_;intro _ K;refine Um K (Qg rfl) rfl (fun _ e7 K=>?_) fun _ e7 K=>?_
 ·refine Qc 14 K M ?_;refine⟨congrArg AV.bool ?_,M.qt⟩;clear M K hr hr0 hK hR hf
  first|(simp[*];done)|(simp[*];omega)|(simp_all;done)|(simp_all;omega)
 refine Qc 3 K M ?_;intro _ K;refine Um K (Qg rfl) rfl (fun _ e11 K=>?_) fun _ e11 K=>?_
 ·refine Qc 10 K M ?_;refine⟨congrArg AV.bool ?_,M.qt⟩;clear M K hr hr0 hK hR hf
  first|(simp[*];done)|(simp[*];omega)|(simp_all;done)|(simp_all;omega)
 refine Qc 1 K M ?_;intro _ K;obtain⟨v13,st13,ev13,rfl,q13⟩:=ON M.fresh (M.YJ hR) hr0;refine pg K rfl rfl (Qh rfl ev13) fun _ K=>?_;replace M:=M.quiet q13;refine Qc 2 K M ?_;intro _ K;refine Um K (Qg rfl) rfl (fun _ e16 K=>?_) fun _ e16 K=>?_
 ·refine Qc 5 K M ?_;refine⟨congrArg AV.bool ?_,M.qt⟩;clear M K hr hr0 hK hR hf
  first|(simp[*];done)|(simp[*];omega)|(simp_all;done)|(simp_all;omega)
 refine Qc 2 K M ?_;intro _ K;obtain⟨v19,st19,ev19,rfl,q19⟩:=wc (.mk o a b g n l) m R _ _ M.fresh (M.YJ hR) hr0 Qe Qe;refine pg K rfl rfl (Qh rfl ev19) fun _ K=>?_;replace M:=M.quiet q19;refine Qc 2 K M ?_;refine⟨congrArg AV.bool ?_,M.qt⟩;clear M K hr hr0 hK hR hf
 first|(simp[*];done)|(simp[*];omega)|(simp_all;done)|(simp_all;omega)
end Go.Proofs.YtiknomepbklibaaGreatDoor
