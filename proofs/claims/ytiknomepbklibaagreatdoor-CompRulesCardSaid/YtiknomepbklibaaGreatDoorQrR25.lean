/-
  Core formulas: how great, may they be? the program's answer, the reference's.
-/
import Derived.Test.YtiknomepbklibaaGreatDoorQrMnm
set_option maxHeartbeats 8000000
set_option maxRecDepth 100000
set_option linter.unnecessarySimpa false
set_option linter.unusedSectionVars false
set_option linter.unusedSimpArgs false
set_option linter.unusedVariables false
section
namespace Go.Proofs.YtiknomepbklibaaGreatDoor
open Go Go.RowKit
variable {R:WM} {a b g m n:Int} {cs:List AV} {l:List Cr} {o:List Nat} {st:St}

theorem RD(h: ∀(j:Nat) (k:Cr),l[j]? =some k→Jh k m=true):ZQ l m=true:=by
 induction l with
 |nil=>rfl
 |cons x l ih=>rw[ZQ,h 0 x rfl,ih fun j k hj=>h (j+1) k hj];rfl
theorem DX{j:Nat}{k:Cr}(hj:l[j]? =some k)(h:Jh k m=false):ZQ l m=false:=by
 by_cases e:ZQ l m=true
 ·rw[IB e (IA hj)]at h;cases h
 ·simpa using e
theorem MS{k:Cr}(h:l.length=1)(hk:l[0]? =some k):ZQ l m=Jh k m:=by
 obtain⟨x,rfl⟩:=List.length_eq_one_iff.1 h
 injection hk with hk
 subst hk;rw[ZQ,ZQ,Bool.and_true]

theorem uO (x : Cr) : ∀ (most : Int) (R : WM) (st : St) (cs : List AV), Qj st → YH R st.h.get → Y9 R x cs → 1 ≤ most → most ≤ 1000000 → ∃ v st', Ev Tryz.prog Q5 103 [.agg cs, iZ most] st v st' ∧ v = iZ (min ((ZM x : Nat) : Int) most) ∧ Qt st st' := by
 refine I9 (M := fun x => ∀ (most : Int) (R : WM) (st : St) (cs : List AV), Qj st → YH R st.h.get → Y9 R x cs → 1 ≤ most → most ≤ 1000000 → ∃ v st', Ev Tryz.prog Q5 103 [.agg cs, iZ most] st v st' ∧ v = iZ (min ((ZM x : Nat) : Int) most) ∧ Qt st st') (fun o a b g n l ih => ?_) x;intro most R st cs hf hR hr h1 h2;have hr0 := hr;obtain ⟨kc, ls, rfl, hK⟩ := hr.Ym;have hln := hK.ln;have hbn := hK.E0;refine JI Tryz.func103 Tryz.ntmps103 fun T K => ?_;have M := Mem.start hf;refine QD <| Qv ?_;refine Jv K M rfl (Qa rfl (Qa rfl (Qa rfl (Qa rfl (Qa rfl (Qa hK.cell Qz)))))) QE fun c2 _ _ K M => ?_;refine Qc 3 K M ?_;intro _ K;refine JS K rfl (fun h9 => ?_) fun h9 => ?_
 · refine Qc 1 K M ?_
   first
    | (exfalso; omega)
    | (refine ⟨?_, M.qt⟩; rw [hinv]; congr 1; have hz : i = l.length := by omega
       rw [WI Qe, UJ]; omega)
    | (refine ⟨?_, M.qt⟩; rw [hinv]; congr 1; omega)
 refine Qc 3 K M ?_;intro _ K;refine p1 K (Q8 JZ rfl rfl hK.len) fun _ K => ?_;refine Qc 1 K M ?_;intro _ K;refine Je (fun mm1 T st9 => ∃ (i : Nat) (m : Int), mm1 = l.length - i ∧ QZ [(1, iZ most), (4, iZ 0), (5, iZ m), (11, kc), (12, iZ (l.length : Nat)), (13, iN i)] T ∧ Mem st.h.get st.n [] st9 [(c2, 0, [.str o, iZ a, iZ b, iZ g, iZ n, kc])] ∧ i ≤ l.length ∧ 1 ≤ m ∧ m ≤ most ∧ min (((ZM (.mk o a b g n l)) : Nat) : Int) most = min (m + ((UJ (l.drop i) : Nat) : Int)) most) (fun mm1 T st9 hI => ?_) _ _ _ ⟨0, 1, rfl, (K.sub rfl), M.less (.refl _), (Nat.zero_le _), Qe, h1, (by rw [ZM, List.drop_zero]; omega)⟩;obtain ⟨i, m, rfl, K, M, hi, hm1, hm2, hinv⟩ := hI;refine Qc 1 K M ?_;intro _ K;refine JS K rfl (fun h14 => ?_) fun h14 => ?_
 · refine Qc 0 K M ?_;intro _ K;obtain ⟨⟨o15, a15, b15, g15, n15, l15⟩, hi15⟩ : ∃ k, l[i]? = some k := ⟨_, List.getElem?_eq_getElem Qe⟩;have hm15 := IA hi15;obtain ⟨_, hc15, hn15⟩ := hK.get hi15;have hp15 := hn15;obtain ⟨kc15, ls15, rfl, hK15⟩ := hp15.Ym;obtain ⟨x15, m15, f15, q15, _, la15, lo15, lp15⟩ := (hK.r (M.YH hR)).load (i := i) (cs := _) hc15;refine p1 K (Qb (j := i) JD (congrArg some q15) rfl (by rw [hK.ln]; omega)) fun _ K => p1 K (Qd rfl (la15 _ QX)) fun _ K => ?_;refine au 1 K M ?_;intro c7 _ _ K _ M;refine QS (k := 0) K M rfl rfl rfl ZL rfl (Qa rfl (Qa rfl (Qa rfl (Qa rfl (Qa rfl (Qa hK15.cell Qz)))))) rfl fun _ M => ?_;refine Qc 3 K M ?_;intro _ K;refine JS K rfl (fun h19 => ?_) fun h19 => ?_
   · refine QW ?_;show W _ _ _ _ _ _ _;refine Qc 2 K M ?_
     first
      | (exfalso; omega)
      | (refine ⟨?_, M.qt⟩; rw [hinv]; congr 1; have hz : i = l.length := by omega
         rw [WI Qe, UJ]; omega)
      | (refine ⟨?_, M.qt⟩; rw [hinv]; congr 1; omega)
   refine Qc 5 K M ?_;intro _ K;refine oQ K M (ih _ hm15 (most - m) R _ _ M.fresh (M.YH hR) hn15 Qe Qe) rfl rfl fun _ _ K M => ?_;refine Qc 4 K M ?_;intro _ K;have hst := OV hi15;have hsp := Sj (.mk o15 a15 b15 g15 n15 l15);exact ⟨_, Qe, i + 1, (m + min ((ZM (.mk o15 a15 b15 g15 n15 l15) : Nat) : Int) (most - m)), rfl, (K.sub rfl), M.less (.cons _ (.refl _)), Qe, Qe, Qe, Qe⟩
 refine QW ?_;show W _ _ _ _ _ _ _;refine Qc 2 K M ?_
 first
  | (exfalso; omega)
  | (refine ⟨?_, M.qt⟩; rw [hinv]; congr 1; have hz : i = l.length := by omega
     rw [WI Qe, UJ]; omega)
  | (refine ⟨?_, M.qt⟩; rw [hinv]; congr 1; omega)

theorem TQ (x : Cr) : ∀ (most : Int) (R : WM) (st : St) (cs : List AV), Qj st → YH R st.h.get → Y9 R x cs → 1 ≤ most → most ≤ 1000000 → ∃ v st', Ev Tryz.prog Q5 75 [.agg cs, iZ most] st v st' ∧ v = iZ (min ((ZM x : Nat) : Int) most) ∧ Qt st st' := by
 refine I9 (M := fun x => ∀ (most : Int) (R : WM) (st : St) (cs : List AV), Qj st → YH R st.h.get → Y9 R x cs → 1 ≤ most → most ≤ 1000000 → ∃ v st', Ev Tryz.prog Q5 75 [.agg cs, iZ most] st v st' ∧ v = iZ (min ((ZM x : Nat) : Int) most) ∧ Qt st st') (fun o a b g n l ih => ?_) x;intro most R st cs hf hR hr h1 h2;have hr0 := hr;obtain ⟨kc, ls, rfl, hK⟩ := hr.Ym;have hln := hK.ln;have hbn := hK.E0;refine JI Tryz.func75 Tryz.ntmps75 fun T K => ?_;have M := Mem.start hf;refine QD <| Qv ?_;refine Jv K M rfl (Qa rfl (Qa rfl (Qa rfl (Qa rfl (Qa rfl (Qa hK.cell Qz)))))) QE fun c2 _ _ K M => ?_;refine Qc 3 K M ?_;intro _ K;refine Je (fun mm1 T st9 => ∃ (i : Nat) (m : Int), mm1 = l.length - i ∧ QZ [(1, iZ most), (2, .ptr c2 0 0), (4, iZ 0), (5, iZ m), (6, iN i)] T ∧ Mem st.h.get st.n [] st9 [(c2, 0, [.str o, iZ a, iZ b, iZ g, iZ n, kc])] ∧ i ≤ l.length ∧ 1 ≤ m ∧ m ≤ most ∧ min (((ZM (.mk o a b g n l)) : Nat) : Int) most = min (m + ((UJ (l.drop i) : Nat) : Int)) most) (fun mm1 T st9 hI => ?_) _ _ _ ⟨0, 1, rfl, (K.sub rfl), M.less (.refl _), (Nat.zero_le _), Qe, h1, (by rw [ZM, List.drop_zero]; omega)⟩;obtain ⟨i, m, rfl, K, M, hi, hm1, hm2, hinv⟩ := hI;refine Qc 3 K M ?_;intro _ K;refine p1 K (Q8 JZ rfl rfl hK.len) fun _ K => ?_;refine Qc 1 K M ?_;intro _ K;refine Un K (Qg rfl) rfl (fun _ e12 K => ?_) fun _ e12 K => ?_
 · refine Qc 5 K M ?_;intro _ K;refine QW ?_;show W _ _ _ _ _ _ _;refine Qc 2 K M ?_;intro _ K;refine p1 K (jo rfl rfl) fun _ K => ?_;refine Qc 1 K M ?_
   first
    | (exfalso; omega)
    | (refine ⟨?_, M.qt⟩; rw [hinv]; congr 1; have hz : i = l.length := by omega
       rw [WI Qe, UJ]; omega)
    | (refine ⟨?_, M.qt⟩; rw [hinv]; congr 1; omega)
 refine Qc 4 K M ?_;intro _ K;refine JS K rfl (fun h16 => ?_) fun h16 => ?_
 · refine Qc 4 K M ?_;intro _ K;obtain ⟨⟨o23, a23, b23, g23, n23, l23⟩, hi23⟩ : ∃ k, l[i]? = some k := ⟨_, List.getElem?_eq_getElem Qe⟩;have hm23 := IA hi23;obtain ⟨_, hc23, hn23⟩ := hK.get hi23;have hp23 := hn23;obtain ⟨kc23, ls23, rfl, hK23⟩ := hp23.Ym;obtain ⟨x23, m23, f23, q23, _, la23, lo23, lp23⟩ := (hK.r (M.YH hR)).load (i := i) (cs := _) hc23;refine p1 K (Qb (j := i) JD (congrArg some q23) rfl (by rw [hK.ln]; omega)) fun _ K => p1 K (Qd rfl (la23 _ QX)) fun _ K => ?_;refine Qc 3 K M ?_;intro _ K;refine oQ K M (ih _ hm23 (most - m) R _ _ M.fresh (M.YH hR) hn23 Qe Qe) rfl rfl fun _ _ K M => ?_;refine Qc 5 K M ?_;intro _ K;have hst := OV hi23;have hsp := Sj (.mk o23 a23 b23 g23 n23 l23);exact ⟨_, Qe, i + 1, (m + min ((ZM (.mk o23 a23 b23 g23 n23 l23) : Nat) : Int) (most - m)), rfl, (K.sub rfl), M.less (.refl _), Qe, Qe, Qe, Qe⟩
 refine QW ?_;show W _ _ _ _ _ _ _;refine Qc 2 K M ?_;intro _ K;refine p1 K (jo rfl rfl) fun _ K => ?_;refine Qc 1 K M ?_
 first
  | (exfalso; omega)
  | (refine ⟨?_, M.qt⟩; rw [hinv]; congr 1; have hz : i = l.length := by omega
     rw [WI Qe, UJ]; omega)
  | (refine ⟨?_, M.qt⟩; rw [hinv]; congr 1; omega)

theorem MW(hf:Qj st)(hR:YH R st.h.get)(hr:Y9 R (.mk o a b g n l) cs): ∃v st',Ev Tryz.prog Q5 77 [.agg cs] st v st'∧v=iZ (min ((ZM (.mk o a b g n l):Nat):Int) 2001)∧Qt st st':=by
 have hr0:=hr;obtain⟨kc,ls,rfl,hK⟩:=hr.Ym;have hln:=hK.ln;have hbn:=hK.E0;refine JI Tryz.func77 Tryz.ntmps77 fun T K=>?_;have M:=Mem.start hf;refine QD<|Qv ?_;refine Jv K M rfl (Qa rfl (Qa rfl (Qa rfl (Qa rfl (Qa rfl (Qa hK.cell Qz)))))) QE fun c1 _ _ K M=>?_;refine Qc 2 K M ?_;intro _ K;refine oQ K M (uO (.mk o a b g n l) 2001 R _ _ M.fresh (M.YH hR) hr0 QE QE) rfl rfl fun _ _ K M=>?_;refine Qc 1 K M ?_;exact⟨rfl,M.qt⟩

theorem Gc(hf:Qj st)(hR:YH R st.h.get)(hr:Y9 R (.mk o a b g n l) cs): ∃v st',Ev Tryz.prog Q5 51 [.agg cs] st v st'∧v=iZ (min ((ZM (.mk o a b g n l):Nat):Int) 2001)∧Qt st st':=by
 have hr0:=hr;obtain⟨kc,ls,rfl,hK⟩:=hr.Ym;have hln:=hK.ln;have hbn:=hK.E0;refine JI Tryz.func51 Tryz.ntmps51 fun T K=>?_;have M:=Mem.start hf;refine QD<|Qv ?_;refine Jv K M rfl (Qa rfl (Qa rfl (Qa rfl (Qa rfl (Qa rfl (Qa hK.cell Qz)))))) QE fun c1 _ _ K M=>?_;refine Qc 2 K M ?_;intro _ K;refine oQ K M (TQ (.mk o a b g n l) 2001 R _ _ M.fresh (M.YH hR) hr0 QE QE) rfl rfl fun _ _ K M=>?_;refine Qc 1 K M ?_;exact⟨rfl,M.qt⟩

theorem zo(hf:Qj st)(o:List Nat): ∃v st',Ev Tryz.prog Q5 85 [.str o] st v st'∧v=.tup [.str (Uh o).1,iZ (Uh o).2.1,.bool (Uh o).2.2]∧Qt st st':=by
 refine JI Tryz.func85 Tryz.ntmps85 fun T K=>?_;have M:=Mem.start hf;refine au 4 K M ?_;intro c9 _ _ K _ M;replace M:Mem st.h.get st.n [] _ [(c9,0,[.str [116,114,117,101],.str [115,117,98],.str [115,105,110,103],.str [102,108,97,103],.str [110,111,110,101],.str [108,101,115,115],.str [112,108,117,115],.str [110,117,109],.str [117,110,105,111,110],.str [105,110,116,101,114],.str [109,105,110,117,115],.str [110,111,116],.str [97,110,100],.str [101,120]])]:=M;refine au 2 K M ?_;intro c10 _ _ K _ M;replace M:Mem st.h.get st.n [] _ [(c10,0,[.str [],.str [65,66],.str [65],.str [65],.str [65],.str [65,66],.str [65,66,78],.str [65,78],.str [65,66,67],.str [65,66,67],.str [65,66,67],.str [],.str [],.str [65]]),(c9,0,[.str [116,114,117,101],.str [115,117,98],.str [115,105,110,103],.str [102,108,97,103],.str [110,111,110,101],.str [108,101,115,115],.str [112,108,117,115],.str [110,117,109],.str [117,110,105,111,110],.str [105,110,116,101,114],.str [109,105,110,117,115],.str [110,111,116],.str [97,110,100],.str [101,120]])]:=M;refine au 4 K M ?_;intro c11 _ _ K _ M;refine Jd ?_;refine Qc 4 K M ?_;intro _ K;refine Qq (K.QJ rfl) (fun h15=>?_) (fun h15=>?_)
 ·have hb15:=h15;replace h15:=of_decide_eq_true h15;refine Qc 2 K M ?_;intro _ K;refine p1 K (Qb QR rfl rfl QE) fun _ K=>?_;refine Qc 3 K M ?_;intro _ K;refine Qq (K.QJ rfl) (fun h23=>?_) (fun h23=>?_)
  ·have hb23:=h23;replace h23:=of_decide_eq_true h23;refine QD ?_;refine QF (l:=[(0,0),(1,0),(2,0),(3,0),(4,0),(5,0),(6,0),(7,0),(8,0),(9,0),(10,0)]) (by kernel_rfl) ?_;refine Jc 2 K M ?_;intro _ K;refine q1 rfl K (Qb QR rfl rfl QE) fun _ K=>?_;refine Jc 3 K M ?_;intro _ K;refine q1 rfl K (Qb Qw rfl rfl QE) fun _ K=>?_;refine Jc 4 K M ?_;intro _ K;refine QH ?_;show W _ _ _ _ _ _ _;refine Jz ⟨.inr rfl,_,(Jw (Q9 K rfl) (Q9 K rfl) (Q9 K rfl)),?_⟩;refine⟨?_,M.qt⟩;unfold Uh
   first|(simp_all;done)|(simp_all;rfl)
  have hb23:=h23;replace h23:=of_decide_eq_false h23;refine Qc 3 K M ?_;intro _ K;refine Jd ?_;refine Qc 4 K M ?_;intro _ K;refine Qq (K.QJ rfl) (fun h15=>?_) (fun h15=>?_)
  ·have hb15:=h15;replace h15:=of_decide_eq_true h15;refine Qc 2 K M ?_;intro _ K;refine p1 K (Qb QR rfl rfl QE) fun _ K=>?_;refine Qc 3 K M ?_;intro _ K;refine Qq (K.QJ rfl) (fun h23=>?_) (fun h23=>?_)
   ·have hb23:=h23;replace h23:=of_decide_eq_true h23;refine QD ?_;refine QF (l:=[(0,0),(1,0),(2,0),(3,0),(4,0),(5,0),(6,0),(7,0),(8,0),(9,0),(10,0)]) (by kernel_rfl) ?_;refine Jc 2 K M ?_;intro _ K;refine q1 rfl K (Qb QR rfl rfl QE) fun _ K=>?_;refine Jc 3 K M ?_;intro _ K;refine q1 rfl K (Qb Qw rfl rfl QE) fun _ K=>?_;refine Jc 4 K M ?_;intro _ K;refine QH ?_;show W _ _ _ _ _ _ _;refine Jz ⟨.inr rfl,_,(Jw (Q9 K rfl) (Q9 K rfl) (Q9 K rfl)),?_⟩;refine⟨?_,M.qt⟩;unfold Uh
    first|(simp_all;done)|(simp_all;rfl)
   have hb23:=h23;replace h23:=of_decide_eq_false h23;refine Qc 3 K M ?_;intro _ K;refine Jd ?_;refine Qc 4 K M ?_;intro _ K;refine Qq (K.QJ rfl) (fun h15=>?_) (fun h15=>?_)
   ·have hb15:=h15;replace h15:=of_decide_eq_true h15;refine Qc 2 K M ?_;intro _ K;refine p1 K (Qb QR rfl rfl QE) fun _ K=>?_;refine Qc 3 K M ?_;intro _ K;refine Qq (K.QJ rfl) (fun h23=>?_) (fun h23=>?_)
    ·have hb23:=h23;replace h23:=of_decide_eq_true h23;refine QD ?_;refine QF (l:=[(0,0),(1,0),(2,0),(3,0),(4,0),(5,0),(6,0),(7,0),(8,0),(9,0),(10,0)]) (by kernel_rfl) ?_;refine Jc 2 K M ?_;intro _ K;refine q1 rfl K (Qb QR rfl rfl QE) fun _ K=>?_;refine Jc 3 K M ?_;intro _ K;refine q1 rfl K (Qb Qw rfl rfl QE) fun _ K=>?_;refine Jc 4 K M ?_;intro _ K;refine QH ?_;show W _ _ _ _ _ _ _;refine Jz ⟨.inr rfl,_,(Jw (Q9 K rfl) (Q9 K rfl) (Q9 K rfl)),?_⟩;refine⟨?_,M.qt⟩;unfold Uh
     first|(simp_all;done)|(simp_all;rfl)
    have hb23:=h23;replace h23:=of_decide_eq_false h23;refine Qc 3 K M ?_;intro _ K;refine Jd ?_;refine Qc 4 K M ?_;intro _ K;refine Qq (K.QJ rfl) (fun h15=>?_) (fun h15=>?_)
    ·have hb15:=h15;replace h15:=of_decide_eq_true h15;refine Qc 2 K M ?_;intro _ K;refine p1 K (Qb QR rfl rfl QE) fun _ K=>?_;refine Qc 3 K M ?_;intro _ K;refine Qq (K.QJ rfl) (fun h23=>?_) (fun h23=>?_)
     ·have hb23:=h23;replace h23:=of_decide_eq_true h23;refine QD ?_;refine QF (l:=[(0,0),(1,0),(2,0),(3,0),(4,0),(5,0),(6,0),(7,0),(8,0),(9,0),(10,0)]) (by kernel_rfl) ?_;refine Jc 2 K M ?_;intro _ K;refine q1 rfl K (Qb QR rfl rfl QE) fun _ K=>?_;refine Jc 3 K M ?_;intro _ K;refine q1 rfl K (Qb Qw rfl rfl QE) fun _ K=>?_;refine Jc 4 K M ?_;intro _ K;refine QH ?_;show W _ _ _ _ _ _ _;refine Jz ⟨.inr rfl,_,(Jw (Q9 K rfl) (Q9 K rfl) (Q9 K rfl)),?_⟩;refine⟨?_,M.qt⟩;unfold Uh
      first|(simp_all;done)|(simp_all;rfl)
     have hb23:=h23;replace h23:=of_decide_eq_false h23;refine Qc 3 K M ?_;intro _ K;refine Jd ?_;refine Qc 4 K M ?_;intro _ K;refine Qq (K.QJ rfl) (fun h15=>?_) (fun h15=>?_)
     ·have hb15:=h15;replace h15:=of_decide_eq_true h15;refine Qc 2 K M ?_;intro _ K;refine p1 K (Qb QR rfl rfl QE) fun _ K=>?_;refine Qc 3 K M ?_;intro _ K;refine Qq (K.QJ rfl) (fun h23=>?_) (fun h23=>?_)
      ·have hb23:=h23;replace h23:=of_decide_eq_true h23;refine QD ?_;refine QF (l:=[(0,0),(1,0),(2,0),(3,0),(4,0),(5,0),(6,0),(7,0),(8,0),(9,0),(10,0)]) (by kernel_rfl) ?_;refine Jc 2 K M ?_;intro _ K;refine q1 rfl K (Qb QR rfl rfl QE) fun _ K=>?_;refine Jc 3 K M ?_;intro _ K;refine q1 rfl K (Qb Qw rfl rfl QE) fun _ K=>?_;refine Jc 4 K M ?_;intro _ K;refine QH ?_;show W _ _ _ _ _ _ _;refine Jz ⟨.inr rfl,_,(Jw (Q9 K rfl) (Q9 K rfl) (Q9 K rfl)),?_⟩;refine⟨?_,M.qt⟩;unfold Uh
       first|(simp_all;done)|(simp_all;rfl)
      have hb23:=h23;replace h23:=of_decide_eq_false h23;refine Qc 3 K M ?_;intro _ K;refine Jd ?_;refine Qc 4 K M ?_;intro _ K;refine Qq (K.QJ rfl) (fun h15=>?_) (fun h15=>?_)
      ·have hb15:=h15;replace h15:=of_decide_eq_true h15;refine Qc 2 K M ?_;intro _ K;refine p1 K (Qb QR rfl rfl QE) fun _ K=>?_;refine Qc 3 K M ?_;intro _ K;refine Qq (K.QJ rfl) (fun h23=>?_) (fun h23=>?_)
       ·have hb23:=h23;replace h23:=of_decide_eq_true h23;refine QD ?_;refine QF (l:=[(0,0),(1,0),(2,0),(3,0),(4,0),(5,0),(6,0),(7,0),(8,0),(9,0),(10,0)]) (by kernel_rfl) ?_;refine Jc 2 K M ?_;intro _ K;refine q1 rfl K (Qb QR rfl rfl QE) fun _ K=>?_;refine Jc 3 K M ?_;intro _ K;refine q1 rfl K (Qb Qw rfl rfl QE) fun _ K=>?_;refine Jc 4 K M ?_;intro _ K;refine QH ?_;show W _ _ _ _ _ _ _;refine Jz ⟨.inr rfl,_,(Jw (Q9 K rfl) (Q9 K rfl) (Q9 K rfl)),?_⟩;refine⟨?_,M.qt⟩;unfold Uh
        first|(simp_all;done)|(simp_all;rfl)
       have hb23:=h23;replace h23:=of_decide_eq_false h23;refine Qc 3 K M ?_;intro _ K;refine Jd ?_;refine Qc 4 K M ?_;intro _ K;refine Qq (K.QJ rfl) (fun h15=>?_) (fun h15=>?_)
       ·have hb15:=h15;replace h15:=of_decide_eq_true h15;refine Qc 2 K M ?_;intro _ K;refine p1 K (Qb QR rfl rfl QE) fun _ K=>?_;refine Qc 3 K M ?_;intro _ K;refine Qq (K.QJ rfl) (fun h23=>?_) (fun h23=>?_)
        ·have hb23:=h23;replace h23:=of_decide_eq_true h23;refine QD ?_;refine QF (l:=[(0,0),(1,0),(2,0),(3,0),(4,0),(5,0),(6,0),(7,0),(8,0),(9,0),(10,0)]) (by kernel_rfl) ?_;refine Jc 2 K M ?_;intro _ K;refine q1 rfl K (Qb QR rfl rfl QE) fun _ K=>?_;refine Jc 3 K M ?_;intro _ K;refine q1 rfl K (Qb Qw rfl rfl QE) fun _ K=>?_;refine Jc 4 K M ?_;intro _ K;refine QH ?_;show W _ _ _ _ _ _ _;refine Jz ⟨.inr rfl,_,(Jw (Q9 K rfl) (Q9 K rfl) (Q9 K rfl)),?_⟩;refine⟨?_,M.qt⟩;unfold Uh
         first|(simp_all;done)|(simp_all;rfl)
        have hb23:=h23;replace h23:=of_decide_eq_false h23;refine Qc 3 K M ?_;intro _ K;refine Jd ?_;refine Qc 4 K M ?_;intro _ K;refine Qq (K.QJ rfl) (fun h15=>?_) (fun h15=>?_)
        ·have hb15:=h15;replace h15:=of_decide_eq_true h15;refine Qc 2 K M ?_;intro _ K;refine p1 K (Qb QR rfl rfl QE) fun _ K=>?_;refine Qc 3 K M ?_;intro _ K;refine Qq (K.QJ rfl) (fun h23=>?_) (fun h23=>?_)
         ·have hb23:=h23;replace h23:=of_decide_eq_true h23;refine QD ?_;refine QF (l:=[(0,0),(1,0),(2,0),(3,0),(4,0),(5,0),(6,0),(7,0),(8,0),(9,0),(10,0)]) (by kernel_rfl) ?_;refine Jc 2 K M ?_;intro _ K;refine q1 rfl K (Qb QR rfl rfl QE) fun _ K=>?_;refine Jc 3 K M ?_;intro _ K;refine q1 rfl K (Qb Qw rfl rfl QE) fun _ K=>?_;refine Jc 4 K M ?_;intro _ K;refine QH ?_;show W _ _ _ _ _ _ _;refine Jz ⟨.inr rfl,_,(Jw (Q9 K rfl) (Q9 K rfl) (Q9 K rfl)),?_⟩;refine⟨?_,M.qt⟩;unfold Uh
          first|(simp_all;done)|(simp_all;rfl)
         have hb23:=h23;replace h23:=of_decide_eq_false h23;refine Qc 3 K M ?_;intro _ K;refine Jd ?_;refine Qc 4 K M ?_;intro _ K;refine Qq (K.QJ rfl) (fun h15=>?_) (fun h15=>?_)
         ·have hb15:=h15;replace h15:=of_decide_eq_true h15;refine Qc 2 K M ?_;intro _ K;refine p1 K (Qb QR rfl rfl QE) fun _ K=>?_;refine Qc 3 K M ?_;intro _ K;refine Qq (K.QJ rfl) (fun h23=>?_) (fun h23=>?_)
          ·have hb23:=h23;replace h23:=of_decide_eq_true h23;refine QD ?_;refine QF (l:=[(0,0),(1,0),(2,0),(3,0),(4,0),(5,0),(6,0),(7,0),(8,0),(9,0),(10,0)]) (by kernel_rfl) ?_;refine Jc 2 K M ?_;intro _ K;refine q1 rfl K (Qb QR rfl rfl QE) fun _ K=>?_;refine Jc 3 K M ?_;intro _ K;refine q1 rfl K (Qb Qw rfl rfl QE) fun _ K=>?_;refine Jc 4 K M ?_;intro _ K;refine QH ?_;show W _ _ _ _ _ _ _;refine Jz ⟨.inr rfl,_,(Jw (Q9 K rfl) (Q9 K rfl) (Q9 K rfl)),?_⟩;refine⟨?_,M.qt⟩;unfold Uh
           first|(simp_all;done)|(simp_all;rfl)
          have hb23:=h23;replace h23:=of_decide_eq_false h23;refine Qc 3 K M ?_;intro _ K;refine Jd ?_;refine Qc 4 K M ?_;intro _ K;refine Qq (K.QJ rfl) (fun h15=>?_) (fun h15=>?_)
          ·have hb15:=h15;replace h15:=of_decide_eq_true h15;refine Qc 2 K M ?_;intro _ K;refine p1 K (Qb QR rfl rfl QE) fun _ K=>?_;refine Qc 3 K M ?_;intro _ K;refine Qq (K.QJ rfl) (fun h23=>?_) (fun h23=>?_)
           ·have hb23:=h23;replace h23:=of_decide_eq_true h23;refine QD ?_;refine QF (l:=[(0,0),(1,0),(2,0),(3,0),(4,0),(5,0),(6,0),(7,0),(8,0),(9,0),(10,0)]) (by kernel_rfl) ?_;refine Jc 2 K M ?_;intro _ K;refine q1 rfl K (Qb QR rfl rfl QE) fun _ K=>?_;refine Jc 3 K M ?_;intro _ K;refine q1 rfl K (Qb Qw rfl rfl QE) fun _ K=>?_;refine Jc 4 K M ?_;intro _ K;refine QH ?_;show W _ _ _ _ _ _ _;refine Jz ⟨.inr rfl,_,(Jw (Q9 K rfl) (Q9 K rfl) (Q9 K rfl)),?_⟩;refine⟨?_,M.qt⟩;unfold Uh
            first|(simp_all;done)|(simp_all;rfl)
           have hb23:=h23;replace h23:=of_decide_eq_false h23;refine Qc 3 K M ?_;intro _ K;refine Jd ?_;refine Qc 4 K M ?_;intro _ K;refine Qq (K.QJ rfl) (fun h15=>?_) (fun h15=>?_)
           ·have hb15:=h15;replace h15:=of_decide_eq_true h15;refine Qc 2 K M ?_;intro _ K;refine p1 K (Qb QR rfl rfl QE) fun _ K=>?_;refine Qc 3 K M ?_;intro _ K;refine Qq (K.QJ rfl) (fun h23=>?_) (fun h23=>?_)
            ·have hb23:=h23;replace h23:=of_decide_eq_true h23;refine QD ?_;refine QF (l:=[(0,0),(1,0),(2,0),(3,0),(4,0),(5,0),(6,0),(7,0),(8,0),(9,0),(10,0)]) (by kernel_rfl) ?_;refine Jc 2 K M ?_;intro _ K;refine q1 rfl K (Qb QR rfl rfl QE) fun _ K=>?_;refine Jc 3 K M ?_;intro _ K;refine q1 rfl K (Qb Qw rfl rfl QE) fun _ K=>?_;refine Jc 4 K M ?_;intro _ K;refine QH ?_;show W _ _ _ _ _ _ _;refine Jz ⟨.inr rfl,_,(Jw (Q9 K rfl) (Q9 K rfl) (Q9 K rfl)),?_⟩;refine⟨?_,M.qt⟩;unfold Uh
             first|(simp_all;done)|(simp_all;rfl)
            have hb23:=h23;replace h23:=of_decide_eq_false h23;refine Qc 3 K M ?_;intro _ K;refine Jd ?_;refine Qc 4 K M ?_;intro _ K;refine Qq (K.QJ rfl) (fun h15=>?_) (fun h15=>?_)
            ·have hb15:=h15;replace h15:=of_decide_eq_true h15;refine Qc 2 K M ?_;intro _ K;refine p1 K (Qb QR rfl rfl QE) fun _ K=>?_;refine Qc 3 K M ?_;intro _ K;refine Qq (K.QJ rfl) (fun h23=>?_) (fun h23=>?_)
             ·have hb23:=h23;replace h23:=of_decide_eq_true h23;refine QD ?_;refine QF (l:=[(0,0),(1,0),(2,0),(3,0),(4,0),(5,0),(6,0),(7,0),(8,0),(9,0),(10,0)]) (by kernel_rfl) ?_;refine Jc 2 K M ?_;intro _ K;refine q1 rfl K (Qb QR rfl rfl QE) fun _ K=>?_;refine Jc 3 K M ?_;intro _ K;refine q1 rfl K (Qb Qw rfl rfl QE) fun _ K=>?_;refine Jc 4 K M ?_;intro _ K;refine QH ?_;show W _ _ _ _ _ _ _;refine Jz ⟨.inr rfl,_,(Jw (Q9 K rfl) (Q9 K rfl) (Q9 K rfl)),?_⟩;refine⟨?_,M.qt⟩;unfold Uh
              first|(simp_all;done)|(simp_all;rfl)
             have hb23:=h23;replace h23:=of_decide_eq_false h23;refine Qc 3 K M ?_;intro _ K;refine Jd ?_;refine Qc 4 K M ?_;intro _ K;refine Qq (K.QJ rfl) (fun h15=>?_) (fun h15=>?_)
             ·have hb15:=h15;replace h15:=of_decide_eq_true h15;refine Qc 2 K M ?_;intro _ K;refine p1 K (Qb QR rfl rfl QE) fun _ K=>?_;refine Qc 3 K M ?_;intro _ K;refine Qq (K.QJ rfl) (fun h23=>?_) (fun h23=>?_)
              ·have hb23:=h23;replace h23:=of_decide_eq_true h23;refine QD ?_;refine QF (l:=[(0,0),(1,0),(2,0),(3,0),(4,0),(5,0),(6,0),(7,0),(8,0),(9,0),(10,0)]) (by kernel_rfl) ?_;refine Jc 2 K M ?_;intro _ K;refine q1 rfl K (Qb QR rfl rfl QE) fun _ K=>?_;refine Jc 3 K M ?_;intro _ K;refine q1 rfl K (Qb Qw rfl rfl QE) fun _ K=>?_;refine Jc 4 K M ?_;intro _ K;refine QH ?_;show W _ _ _ _ _ _ _;refine Jz ⟨.inr rfl,_,(Jw (Q9 K rfl) (Q9 K rfl) (Q9 K rfl)),?_⟩;refine⟨?_,M.qt⟩;unfold Uh
               first|(simp_all;done)|(simp_all;rfl)
              have hb23:=h23;replace h23:=of_decide_eq_false h23;refine Qc 3 K M ?_;intro _ K;refine Jd ?_;refine Qc 4 K M ?_;intro _ K;refine Qq (K.QJ rfl) (fun h15=>?_) (fun h15=>?_)
              ·have hb15:=h15;replace h15:=of_decide_eq_true h15;refine Qc 2 K M ?_;intro _ K;refine p1 K (Qb QR rfl rfl QE) fun _ K=>?_;refine Qc 3 K M ?_;intro _ K;refine Qq (K.QJ rfl) (fun h23=>?_) (fun h23=>?_)
               ·have hb23:=h23;replace h23:=of_decide_eq_true h23;refine QD ?_;refine QF (l:=[(0,0),(1,0),(2,0),(3,0),(4,0),(5,0),(6,0),(7,0),(8,0),(9,0),(10,0)]) (by kernel_rfl) ?_;refine Jc 2 K M ?_;intro _ K;refine q1 rfl K (Qb QR rfl rfl QE) fun _ K=>?_;refine Jc 3 K M ?_;intro _ K;refine q1 rfl K (Qb Qw rfl rfl QE) fun _ K=>?_;refine Jc 4 K M ?_;intro _ K;refine QH ?_;show W _ _ _ _ _ _ _;refine Jz ⟨.inr rfl,_,(Jw (Q9 K rfl) (Q9 K rfl) (Q9 K rfl)),?_⟩;refine⟨?_,M.qt⟩;unfold Uh
                first|(simp_all;done)|(simp_all;rfl)
               have hb23:=h23;replace h23:=of_decide_eq_false h23;refine Qc 3 K M ?_;intro _ K;refine Jd ?_;refine Qc 4 K M ?_;intro _ K;refine Qq (K.QJ rfl) (fun h15=>?_) (fun h15=>?_)
               ·have hb15:=h15;replace h15:=of_decide_eq_true h15
                exfalso;omega
               have hb15:=h15;replace h15:=of_decide_eq_false h15;refine QW ?_;show W _ _ _ _ _ _ _;refine Qc 3 K M ?_;intro _ K;refine Jz ⟨.inr rfl,_,(Jw (Q9 K rfl) (Q9 K rfl) (Q9 K rfl)),?_⟩;refine⟨?_,M.qt⟩;unfold Uh
               first|(simp_all;done)|(simp_all;rfl)
              have hb15:=h15;replace h15:=of_decide_eq_false h15
              exfalso;omega
             have hb15:=h15;replace h15:=of_decide_eq_false h15
             exfalso;omega
            have hb15:=h15;replace h15:=of_decide_eq_false h15
            exfalso;omega
           have hb15:=h15;replace h15:=of_decide_eq_false h15
           exfalso;omega
          have hb15:=h15;replace h15:=of_decide_eq_false h15
          exfalso;omega
         have hb15:=h15;replace h15:=of_decide_eq_false h15
         exfalso;omega
        have hb15:=h15;replace h15:=of_decide_eq_false h15
        exfalso;omega
       have hb15:=h15;replace h15:=of_decide_eq_false h15
       exfalso;omega
      have hb15:=h15;replace h15:=of_decide_eq_false h15
      exfalso;omega
     have hb15:=h15;replace h15:=of_decide_eq_false h15
     exfalso;omega
    have hb15:=h15;replace h15:=of_decide_eq_false h15
    exfalso;omega
   have hb15:=h15;replace h15:=of_decide_eq_false h15
   exfalso;omega
  have hb15:=h15;replace h15:=of_decide_eq_false h15
  exfalso;omega
 have hb15:=h15;replace h15:=of_decide_eq_false h15
 exfalso;omega

theorem AD(hf:Qj st)(h:List Nat)(hl:h.length≤1000)(k:Nat)(u n:Int): ∃v st',Ev Tryz.prog Q5 86 [.str h,.int .u8 (((k:Nat):Int)),iZ u,iZ n] st v st'∧v=.bool (Um h k u n)∧Qt st st':=by
 refine JI Tryz.func86 Tryz.ntmps86 fun T K=>?_;have M:=Mem.start hf;refine Qc 2 K M ?_;intro _ K;refine Je (fun mm1 T st9=> ∃(i:Nat),mm1=h.length-i∧QZ [(0,.str h),(1,.int .u8 (((k:Nat):Int))),(2,iZ u),(3,iZ n),(9,iN i)] T∧Mem st.h.get st.n [] st9 []∧i≤h.length∧(∀(j x:Nat),j<i→h[j]? =some x→ ¬x=k)) (fun mm1 T st9 hI=>?_) _ _ _ ⟨0,rfl,(K.sub rfl),M.less (.refl _),(Nat.zero_le _),(fun j x hj=>by omega)⟩;obtain⟨i,rfl,K,M,hi,hx⟩:=hI;refine Qc 2 K M ?_;intro _ K;refine p1 K (z7 Wu rfl rfl) fun _ K=>?_;refine Qc 1 K M ?_;intro _ K;refine JS K rfl (fun h13=>?_) fun h13=>?_
 ·refine Qc 2 K M ?_;intro _ K;obtain⟨y18,hy18⟩:=U9 h i Qe;refine p1 K (Me Wu rfl rfl hy18) fun _ K=>?_;refine Qc 2 K M ?_;intro _ K;refine JS K rfl (fun h20=>?_) fun h20=>?_
  ·refine Qc 2 K M ?_;intro _ K;refine Un K (Qg rfl) rfl (fun _ e23 K=>?_) fun _ e23 K=>?_
   ·refine Qc 5 K M ?_;refine⟨?_,M.qt⟩
    have hmem:k∈h:=by have:=List.mem_of_getElem? hy18;rwa [show y18=k by omega]at this
    rw[Um,if_pos hmem]
    first|(simp_all [Qo];done)|(simp_all [Qo]<;>(intros;omega))
   refine Qc 5 K M ?_;refine⟨?_,M.qt⟩
   have hmem:k∈h:=by have:=List.mem_of_getElem? hy18;rwa [show y18=k by omega]at this
   rw[Um,if_pos hmem]
   first|(simp_all [Qo];done)|(simp_all [Qo]<;>(intros;omega))
  refine Qc 3 K M ?_;intro _ K;exact⟨_,Qe,i+1,rfl,(K.sub rfl),M.less (.refl _),Qe,(fun j x hj hq=>by by_cases e:j=i;subst e;rw[hy18]at hq;injection hq with hq;omega;exact hx j x Qe hq)⟩
 refine QW ?_;show W _ _ _ _ _ _ _;refine Qc 3 K M ?_;refine⟨?_,M.qt⟩
 have hmem: ¬k∈h:=fun hm=>by obtain⟨j,hj⟩:=List.getElem?_of_mem hm;exact hx j k (by have:=(List.getElem?_eq_some_iff.1 hj).1;omega) hj rfl
 rw[Um,if_neg hmem]

theorem YN{c:Prop} [Decidable c]{a b:List Nat×Int×Bool}(ha:a.1.length≤1000)(hb:b.1.length≤1000):(if c then a else b).1.length≤1000:=by
 split<;>assumption
theorem HB(o:List Nat):(Uh o).1.length≤1000:=by
 unfold Uh;refine YN QE ?_;refine YN QE ?_;refine YN QE ?_;refine YN QE ?_;refine YN QE ?_;refine YN QE ?_;refine YN QE ?_;refine YN QE ?_;refine YN QE ?_;refine YN QE ?_;refine YN QE ?_;refine YN QE ?_;refine YN QE ?_;refine YN QE ?_;decide

theorem wD(x:Cr): ∀(m:Int) (R:WM) (st:St) (cs:List AV),Qj st→YH R st.h.get→Y9 R x cs→ -100≤m→m≤100→ ∃v st',Ev Tryz.prog Q5 59 [.agg cs,iZ m] st v st'∧v=.bool (Jh x m)∧Qt st st':=by
 refine I9 (M:=fun x=> ∀(m:Int) (R:WM) (st:St) (cs:List AV),Qj st→YH R st.h.get→Y9 R x cs→ -100≤m→m≤100→ ∃v st',Ev Tryz.prog Q5 59 [.agg cs,iZ m] st v st'∧v=.bool (Jh x m)∧Qt st st') (fun o a b g n l ih=>?_) x;intro m R st cs hf hR hr hm1 hm2;have hr0:=hr;obtain⟨kc,ls,rfl,hK⟩:=hr.Ym;have hln:=hK.ln;have hbn:=hK.E0;refine JI Tryz.func59 Tryz.ntmps59 fun T K=>?_;have M:=Mem.start hf;refine QD<|Qv ?_;refine Jv K M rfl (Qa rfl (Qa rfl (Qa rfl (Qa rfl (Qa rfl (Qa hK.cell Qz)))))) QE fun c2 _ _ K M=>?_;refine Qc 3 K M ?_;intro _ K;refine oQ K M (zo M.fresh o) rfl rfl fun _ _ K M=>?_;refine Qc 9 K M ?_;intro _ K;refine oB K (Qg rfl) rfl fun b18 _ e18 K=>?_;cases b18
 ·replace e18:((Uh o).2.2)=true:=by simpa using e18
  refine Qc 2 K M ?_;intro _ K;refine pg K rfl rfl (Q8 JZ rfl rfl hK.len) fun _ K=>?_;refine Qc 3 K M ?_;intro _ K;refine xK K (Qg rfl) rfl (fun _ e25 K=>?_) fun _ e25 K=>?_
  ·refine Qc 3 K M ?_;intro _ K;obtain⟨v29,st29,ev29,rfl,q29⟩:=AD M.fresh (Uh o).1 (HB o) 78 n 21;refine pg K rfl rfl (Qh rfl ev29) fun _ K=>?_;replace M:=M.quiet q29;refine Qc 2 K M ?_;intro _ K;refine Qq (K.QJ rfl) (fun h31=>?_) (fun h31=>?_)
   ·have hb31:=h31
    replace h31:(Um (Uh o).1 78 n 21)=false:=by simpa using h31
    refine Qc 1 K M ?_;refine⟨congrArg AV.bool ?_,M.qt⟩;clear M K ih hr hr0 hK hR hf;rw[Jh]
    first|(simp[*];done)|(simp_all;done)|(simp_all;omega)
   have hb31:=h31
   replace h31:(Um (Uh o).1 78 n 21)=true:=by simpa using h31
   refine Qc 2 K M ?_;intro _ K;refine p1 K (Jm (b:=[101,120]) rfl rfl) fun _ K=>Uo ?_;show W _ _ _ _ _ _ _;refine JS K rfl (fun h34=>?_) fun h34=>?_
   ·refine QD ?_
    have hl1:l.length=1:=by rw[h34,show(Uh [101,120]).2.1=1 by decide]at e25;omega
    refine Qc 4 K M ?_;intro _ K;refine Un K (Qg rfl) rfl (fun _ e39 K=>?_) fun _ e39 K=>?_
    ·refine Qc 23 K M ?_;refine⟨congrArg AV.bool ?_,M.qt⟩;clear M K ih hr hr0 hK hR hf;rw[Jh]
     first|(simp[*];done)|(simp_all;done)|(simp_all;omega)
    refine Qc 3 K M ?_;intro _ K;refine Un K (Qg rfl) rfl (fun _ e43 K=>?_) fun _ e43 K=>?_
    ·refine Qc 19 K M ?_;refine⟨congrArg AV.bool ?_,M.qt⟩;clear M K ih hr hr0 hK hR hf;rw[Jh]
     first|(simp[*];done)|(simp_all;done)|(simp_all;omega)
    refine Qc 4 K M ?_;intro _ K;refine Un K (Qg rfl) rfl (fun _ e48 K=>?_) fun _ e48 K=>?_
    ·refine Qc 14 K M ?_;refine⟨congrArg AV.bool ?_,M.qt⟩;clear M K ih hr hr0 hK hR hf;rw[Jh]
     first|(simp[*];done)|(simp_all;done)|(simp_all;omega)
    refine Qc 4 K M ?_;intro _ K;refine Un K (Qg rfl) rfl (fun _ e53 K=>?_) fun _ e53 K=>?_
    ·refine Qc 9 K M ?_;refine⟨congrArg AV.bool ?_,M.qt⟩;clear M K ih hr hr0 hK hR hf;rw[Jh]
     first|(simp[*];done)|(simp_all;done)|(simp_all;omega)
    refine Qc 2 K M ?_;intro _ K;obtain⟨⟨o56,a56,b56,g56,n56,l56⟩,hi56⟩: ∃k,l[0]? =some k:=⟨_,List.getElem?_eq_getElem Qe⟩;have hm56:=IA hi56;obtain⟨_,hc56,hn56⟩:=hK.get hi56;have hp56:=hn56;obtain⟨kc56,ls56,rfl,hK56⟩:=hp56.Ym;obtain⟨x56,m56,f56,q56,_,la56,lo56,lp56⟩:=(hK.r (M.YH hR)).load (i:=0) (cs:=_) hc56;refine pg K rfl rfl (Qb (j:=0) JD (congrArg some q56) rfl (by rw[hK.ln];omega)) fun _ K=>pg K rfl rfl (Qd rfl (la56 _ QX)) fun _ K=>?_;refine Qc 2 K M ?_;intro _ K;obtain⟨v60,st60,ev60,rfl,q60⟩:=ih _ hm56 (m+1) R _ _ M.fresh (M.YH hR) hn56 Qe Qe;refine pg K rfl rfl (Qh rfl ev60) fun _ K=>?_;replace M:=M.quiet q60;refine Qc 2 K M ?_;have hcl:ZQ l (m+1)=Jh (.mk o56 a56 b56 g56 n56 l56) (m+1):=MS hl1 hi56;refine⟨congrArg AV.bool ?_,M.qt⟩;clear M K ih hr hr0 hK hR hf;rw[←hcl,Jh];simp only[e18,decide_eq_true e25,h31,if_pos h34,decide_eq_true e39,decide_eq_true e43,decide_eq_true e48,decide_eq_true e53,Bool.true_and]
   refine Qc 4 K M ?_;intro _ K;refine oQ K M (AD M.fresh (Uh o).1 (HB o) 65 a m) rfl rfl fun _ _ K M=>?_;refine Qc 1 K M ?_;intro _ K;refine oB K (Qg rfl) rfl fun b68 _ e68 K=>?_;cases b68
   ·replace e68:(Um (Uh o).1 65 a m)=true:=by simpa using e68
    refine Qc 4 K M ?_;intro _ K;obtain⟨v73,st73,ev73,rfl,q73⟩:=AD M.fresh (Uh o).1 (HB o) 66 b m;refine pg K rfl rfl (Qh rfl ev73) fun _ K=>?_;replace M:=M.quiet q73;refine Qc 2 K M ?_;intro _ K;refine oB K (Qg rfl) rfl fun b76 _ e76 K=>?_;cases b76
    ·replace e76:(Um (Uh o).1 66 b m)=true:=by simpa using e76
     refine Qc 4 K M ?_;intro _ K;obtain⟨v81,st81,ev81,rfl,q81⟩:=AD M.fresh (Uh o).1 (HB o) 67 g m;refine pg K rfl rfl (Qh rfl ev81) fun _ K=>?_;replace M:=M.quiet q81;refine Qc 2 K M ?_;intro _ K;refine Qq (K.QJ rfl) (fun h83=>?_) (fun h83=>?_)
     ·have hb83:=h83
      replace h83:(Um (Uh o).1 67 g m)=false:=by simpa using h83
      refine Qc 1 K M ?_;refine⟨congrArg AV.bool ?_,M.qt⟩;clear M K ih hr hr0 hK hR hf;rw[Jh]
      first|(simp[*];done)|(simp_all;done)|(simp_all;omega)
     have hb83:=h83
     replace h83:(Um (Uh o).1 67 g m)=true:=by simpa using h83
     refine Qc 1 K M ?_;intro _ K;refine Je (fun mm1 T st9=> ∃(i:Nat),mm1=l.length-i∧QZ [(1,iZ m),(2,.ptr c2 0 0),(6,iZ ((Uh o).2.1)),(8,iN i)] T∧Mem st.h.get st.n [] st9 [(c2,0,[.str o,iZ a,iZ b,iZ g,iZ n,kc])]∧i≤l.length∧(∀(j:Nat) (k:Cr),j<i→l[j]? =some k→Jh k m=true)) (fun mm1 T st9 hI=>?_) _ _ _ ⟨0,rfl,(K.sub rfl),M.less (.refl _),(Nat.zero_le _),(fun j k hj=>absurd hj (Nat.not_lt_zero j))⟩;obtain⟨i,rfl,K,M,hi,hall⟩:=hI;refine Qc 3 K M ?_;intro _ K;refine JS K rfl (fun h86=>?_) fun h86=>?_
     ·refine Qc 3 K M ?_;intro _ K;obtain⟨⟨o92,a92,b92,g92,n92,l92⟩,hi92⟩: ∃k,l[i]? =some k:=⟨_,List.getElem?_eq_getElem Qe⟩;have hm92:=IA hi92;obtain⟨_,hc92,hn92⟩:=hK.get hi92;have hp92:=hn92;obtain⟨kc92,ls92,rfl,hK92⟩:=hp92.Ym;obtain⟨x92,m92,f92,q92,_,la92,lo92,lp92⟩:=(hK.r (M.YH hR)).load (i:=i) (cs:=_) hc92;refine p1 K (Qb (j:=i) JD (congrArg some q92) rfl (by rw[hK.ln];omega)) fun _ K=>p1 K (Qd rfl (la92 _ QX)) fun _ K=>?_;refine Qc 1 K M ?_;intro _ K;refine oQ K M (ih _ hm92 m R _ _ M.fresh (M.YH hR) hn92 Qe Qe) rfl rfl fun _ _ K M=>?_;refine Qc 1 K M ?_;intro _ K;refine Qq (K.QJ rfl) (fun h96=>?_) (fun h96=>?_)
      ·have hb96:=h96
       replace h96:(Jh (.mk o92 a92 b92 g92 n92 l92) m)=false:=by simpa using h96
       refine Qc 1 K M ?_;have hcf:ZQ l m=false:=DX hi92 h96;refine⟨congrArg AV.bool ?_,M.qt⟩;clear M K ih hr hr0 hK hR hf;rw[Jh]
       first|(simp[*];done)|(simp_all;done)|(simp_all;omega)
      have hb96:=h96
      replace h96:(Jh (.mk o92 a92 b92 g92 n92 l92) m)=true:=by simpa using h96
      refine Qc 3 K M ?_;intro _ K;exact⟨_,Qe,i+1,rfl,(K.sub rfl),M.less (.refl _),Qe,(fun j k hj hq=>by by_cases e:j=i;subst e;rw[hi92]at hq;injection hq with hq;subst hq;exact h96;exact hall j k Qe hq)⟩
     refine QW ?_;show W _ _ _ _ _ _ _;refine Qc 1 K M ?_;have hct:ZQ l m=true:=RD fun j k hj=>hall j k (by have:=(List.getElem?_eq_some_iff.1 hj).1;omega) hj;refine⟨congrArg AV.bool ?_,M.qt⟩;clear M K ih hr hr0 hK hR hf;rw[Jh]
     first|(simp[*];done)|(simp_all;done)|(simp_all;omega)
    replace e76:(Um (Uh o).1 66 b m)=false:=by simpa using e76
    refine Qc 9 K M ?_;refine⟨congrArg AV.bool ?_,M.qt⟩;clear M K ih hr hr0 hK hR hf;rw[Jh]
    first|(simp[*];done)|(simp_all;done)|(simp_all;omega)
   replace e68:(Um (Uh o).1 65 a m)=false:=by simpa using e68
   refine Qc 17 K M ?_;refine⟨congrArg AV.bool ?_,M.qt⟩;clear M K ih hr hr0 hK hR hf;rw[Jh]
   first|(simp[*];done)|(simp_all;done)|(simp_all;omega)
  refine Qc 8 K M ?_;refine⟨congrArg AV.bool ?_,M.qt⟩;clear M K ih hr hr0 hK hR hf;rw[Jh]
  first|(simp[*];done)|(simp_all;done)|(simp_all;omega)
 replace e18:((Uh o).2.2)=false:=by simpa using e18
 refine Qc 15 K M ?_;refine⟨congrArg AV.bool ?_,M.qt⟩;clear M K ih hr hr0 hK hR hf;rw[Jh]
 first|(simp[*];done)|(simp_all;done)|(simp_all;omega)

theorem Sr(hf:Qj st)(hR:YH R st.h.get)(hr:Y9 R (.mk o a b g n l) cs)(m:Int): ∃v st',Ev Tryz.prog Q5 33 [.agg cs,iZ m] st v st'∧v=.bool (decide (0≤m)&&decide (m≤6)&&decide (ZM (.mk o a b g n l)≤2000)&&Jh (.mk o a b g n l) m)∧Qt st st':=by
 have hr0:=hr;obtain⟨kc,ls,rfl,hK⟩:=hr.Ym;have hln:=hK.ln;have hbn:=hK.E0;refine JI Tryz.func33 Tryz.ntmps33 fun T K=>?_;have M:=Mem.start hf;refine QD<|Qv ?_;refine Jv K M rfl (Qa rfl (Qa rfl (Qa rfl (Qa rfl (Qa rfl (Qa hK.cell Qz)))))) QE fun c2 _ _ K M=>?_;refine Qc 3 K M ?_;intro _ K;refine Un K (Qg rfl) rfl (fun _ e7 K=>?_) fun _ e7 K=>?_
 ·refine Qc 14 K M ?_;refine⟨congrArg AV.bool ?_,M.qt⟩;clear M K hr hr0 hK hR hf
  first|(simp[*];done)|(simp[*];omega)|(simp_all;done)|(simp_all;omega)
 refine Qc 3 K M ?_;intro _ K;refine Un K (Qg rfl) rfl (fun _ e11 K=>?_) fun _ e11 K=>?_
 ·refine Qc 10 K M ?_;refine⟨congrArg AV.bool ?_,M.qt⟩;clear M K hr hr0 hK hR hf
  first|(simp[*];done)|(simp[*];omega)|(simp_all;done)|(simp_all;omega)
 refine Qc 1 K M ?_;intro _ K;obtain⟨v13,st13,ev13,rfl,q13⟩:=Gc M.fresh (M.YH hR) hr0;refine pg K rfl rfl (Qh rfl ev13) fun _ K=>?_;replace M:=M.quiet q13;refine Qc 2 K M ?_;intro _ K;refine Un K (Qg rfl) rfl (fun _ e16 K=>?_) fun _ e16 K=>?_
 ·refine Qc 5 K M ?_;refine⟨congrArg AV.bool ?_,M.qt⟩;clear M K hr hr0 hK hR hf
  first|(simp[*];done)|(simp[*];omega)|(simp_all;done)|(simp_all;omega)
 refine Qc 2 K M ?_;intro _ K;obtain⟨v19,st19,ev19,rfl,q19⟩:=wD (.mk o a b g n l) m R _ _ M.fresh (M.YH hR) hr0 Qe Qe;refine pg K rfl rfl (Qh rfl ev19) fun _ K=>?_;replace M:=M.quiet q19;refine Qc 2 K M ?_;refine⟨congrArg AV.bool ?_,M.qt⟩;clear M K hr hr0 hK hR hf
 first|(simp[*];done)|(simp[*];omega)|(simp_all;done)|(simp_all;omega)
end Go.Proofs.YtiknomepbklibaaGreatDoor
end
section
namespace Go.Proofs.YtiknomepbklibaaGreatDoor
open Go Go.RowKit
variable {a b n s x y z:Nat} {o:List Nat} {st:St}

def ND(a b:Nat):Nat:=a^^^(a&&&b)
theorem Rf{P:Program}{G:Env}{K:List (Nat×AV)}{t yt:TypeId}{x y:Operand}(hx:Jb G K x=some (.int .i64 (a:Nat)))(hy:Jb G K y=some (.int .i64 (b:Nat)))(ha:a≤9223372036854775807)(hb:b≤9223372036854775807):U4 P G K (.binOp .andNot t x y yt) st (.int .i64 (ND a b:Nat)) st:=
 UO hx hy (by
  rw[XT QE QE];show XN (IntKind.i64.wrap (((BitVec.ofInt 64 ((a:Nat):Int)&&& ~~~BitVec.ofInt 64 ((b:Nat):Int)).toNat:Nat):Int)) (fun z=>some (AV.int .i64 z))=_
  have e:a&&&(2^64-1-b)=ND a b:=by
   apply Nat.eq_of_testBit_eq;intro i;unfold ND;rw[Nat.testBit_and,Nat.testBit_xor,Nat.testBit_and,show 2^64-1-b=2^64-(b+1) by omega,Nat.testBit_two_pow_sub_succ Qe]
   cases h:a.testBit i with
   |false=>simp
   |true=>
    have hi:i<64:=Classical.byContradiction fun hn=>by
     rw[Nat.testBit_lt_two_pow (Nat.lt_of_lt_of_le (show a<2^64 by omega) (Nat.pow_le_pow_right QE Qe))]at h;cases h
    cases b.testBit i<;>simp[hi]
  have h:ND a b≤a:=e▸Nat.and_le_left
  rw[BitVec.toNat_and,BitVec.toNat_not,IF ha,IF hb,e,Yr,wrap64 Qe Qe])
theorem uM(ha:a≤1)(hb:b≤1):ND a b=a-b:=by
 obtain rfl|rfl:a=0∨a=1:=by omega
 ·obtain rfl|rfl:b=0∨b=1:=by omega
  ·rfl
  ·rfl
 ·obtain rfl|rfl:b=0∨b=1:=by omega
  ·rfl
  ·rfl
theorem Uk(hs:s≠30):QV [115,117,98] n s x y z=if x≤y then 0 else 30:=by
 unfold QV;rw[if_neg hs,if_pos rfl]
theorem JN(hs:s≠30):QV [110,111,110,101] n s x y z=if x=0 then 0 else 30:=by
 unfold QV;rw[if_neg hs,if_neg QE,if_pos rfl]
theorem J1(hs:s≠30):QV [117,110,105,111,110] n s x y z=if z=x|||y then 0 else 30:=by
 unfold QV;rw[if_neg hs,if_neg QE,if_neg QE,if_pos rfl]
theorem J3(hs:s≠30):QV [105,110,116,101,114] n s x y z=if z=x&&&y then 0 else 30:=by
 unfold QV;rw[if_neg hs,if_neg QE,if_neg QE,if_neg QE,if_pos rfl]
theorem J2(hs:s≠30):QV [109,105,110,117,115] n s x y z=if z=x-y then 0 else 30:=by
 unfold QV;rw[if_neg hs,if_neg QE,if_neg QE,if_neg QE,if_neg QE,if_pos rfl]
theorem wg{p:Prop} [Decidable p]{m:Nat}(ha:p→a≤m)(hb: ¬p→b≤m):(if p then a else b)≤m:=by
 split
 ·exact ha ‹_›
 ·exact hb ‹_›
theorem qE(hs:s≤30)(hn:n≤20):QV o n s x y z≤30:=by
 unfold QV
 repeat' first
  |omega
  |(refine wg (fun _=>?_) fun _=>?_)

theorem MK(hf:Qj st)(s x:Nat): ∃v st',Ev Tryz.prog Q5 154 [iN s,iN x] st v st'∧v=iZ (if s=1∨x=1 then 1 else 30:Nat)∧Qt st st':=by
 refine JI Tryz.func154 Tryz.ntmps154 fun T K=>?_;have M:=Mem.start hf;refine Qc 3 K M ?_;intro _ K;refine Un K (Qg rfl) rfl (fun _ e7 K=>?_) fun _ e7 K=>?_
 ·refine Qc 3 K M ?_;intro _ K;refine JS K rfl (fun h10=>?_) fun h10=>?_
  ·refine Qc 1 K M ?_
   exact⟨congrArg (AV.int .i64) (by split<;>first|rfl|omega),M.qt⟩
  refine Qc 1 K M ?_
  exact⟨congrArg (AV.int .i64) (by split<;>first|rfl|omega),M.qt⟩
 refine Qc 5 K M ?_
 exact⟨congrArg (AV.int .i64) (by split<;>first|rfl|omega),M.qt⟩

theorem zi(hf:Qj st)(s x:Nat)(hs:s≤30)(hx:x≤1): ∃v st',Ev Tryz.prog Q5 155 [iN s,iN x] st v st'∧v=iZ (if 1<s+x then 30 else s+x:Nat)∧Qt st st':=by
 refine JI Tryz.func155 Tryz.ntmps155 fun T K=>?_;have M:=Mem.start hf;refine Qc 5 K M ?_;intro _ K;refine JS K rfl (fun h8=>?_) fun h8=>?_
 ·refine Qc 1 K M ?_
  exact⟨congrArg (AV.int .i64) (by split<;>first|rfl|omega),M.qt⟩
 refine Qc 4 K M ?_
 exact⟨congrArg (AV.int .i64) (by split<;>first|rfl|omega),M.qt⟩

theorem jB(hf:Qj st)(n s x:Nat)(hn:n≤20)(hs:s≤30)(hx:x≤1): ∃v st',Ev Tryz.prog Q5 156 [iN n,iN s,iN x] st v st'∧v=iZ (if s=n+1∧x=0 then s else if n<s∨(s<n∧x=1)∨(s=n∧x=0)then 30 else s+1:Nat)∧Qt st st':=by
 refine JI Tryz.func156 Tryz.ntmps156 fun T K=>?_;have M:=Mem.start hf;refine Qc 5 K M ?_;intro _ K;refine Un K (Qg rfl) rfl (fun _ e11 K=>?_) fun _ e11 K=>?_
 ·refine Qc 7 K M ?_;intro _ K;refine Un K (Qg rfl) rfl (fun _ e19 K=>?_) fun _ e19 K=>?_
  ·refine Qc 3 K M ?_;intro _ K;refine LX K rfl rfl (Qg rfl) rfl (fun _ e23 K=>?_) fun _ e23 K=>?_
   ·refine Qc 8 K M ?_;intro _ K;refine LX K rfl rfl (Qg rfl) rfl (fun _ e32 K=>?_) fun _ e32 K=>?_
    ·exact XP
    refine Qc 4 K M ?_;intro _ K;refine JS K rfl (fun h36=>?_) fun h36=>?_
    ·refine Qc 1 K M ?_
     exact⟨congrArg (AV.int .i64) (by(repeat' split)<;>first|omega|(simp_all;done)|(simp_all;omega)),M.qt⟩
    refine Qc 3 K M ?_
    exact⟨congrArg (AV.int .i64) (by(repeat' split)<;>first|omega|(simp_all;done)|(simp_all;omega)),M.qt⟩
   refine Qc 4 K M ?_;intro _ K;refine Un K (Qg rfl) rfl (fun _ e28 K=>?_) fun _ e28 K=>?_
   ·refine Qc 3 K M ?_;intro _ K;refine LX K rfl rfl (Qg rfl) rfl (fun _ e32 K=>?_) fun _ e32 K=>?_
    ·refine Qc 8 K M ?_
     exact⟨congrArg (AV.int .i64) (by(repeat' split)<;>first|omega|(simp_all;done)|(simp_all;omega)),M.qt⟩
    exact XP
   refine Qc 10 K M ?_
   exact⟨congrArg (AV.int .i64) (by(repeat' split)<;>first|omega|(simp_all;done)|(simp_all;omega)),M.qt⟩
  refine Qc 19 K M ?_
  exact⟨congrArg (AV.int .i64) (by(repeat' split)<;>first|omega|(simp_all;done)|(simp_all;omega)),M.qt⟩
 refine Qc 3 K M ?_;intro _ K;refine JS K rfl (fun h14=>?_) fun h14=>?_
 ·refine Qc 2 K M ?_
  exact⟨congrArg (AV.int .i64) (by(repeat' split)<;>first|omega|(simp_all;done)|(simp_all;omega)),M.qt⟩
 refine Qc 3 K M ?_;intro _ K;refine Un K (Qg rfl) rfl (fun _ e19 K=>?_) fun _ e19 K=>?_
 ·exact XP
 refine Qc 19 K M ?_
 exact⟨congrArg (AV.int .i64) (by(repeat' split)<;>first|omega|(simp_all;done)|(simp_all;omega)),M.qt⟩

theorem Mu(hf:Qj st)(s x y:Nat)(hs:s≤30)(hx:x≤1)(hy:y≤1): ∃v st',Ev Tryz.prog Q5 157 [iN s,iN x,iN y] st v st'∧v=iZ (if x+y=0 then s else if s=0∧x=1∧y=0 then 1 else if s=1∧x=0∧y=1 then 2 else 30:Nat)∧Qt st st':=by
 refine JI Tryz.func157 Tryz.ntmps157 fun T K=>?_;have M:=Mem.start hf;refine Qc 6 K M ?_;intro _ K;refine JS K rfl (fun h7=>?_) fun h7=>?_
 ·refine Qc 2 K M ?_
  exact⟨congrArg (AV.int .i64) (by(repeat' split)<;>first|omega|(simp_all;done)|(simp_all;omega)),M.qt⟩
 refine Qc 2 K M ?_;intro _ K;refine Un K (Qg rfl) rfl (fun _ e16 K=>?_) fun _ e16 K=>?_
 ·refine Qc 11 K M ?_;intro _ K;refine Un K (Qg rfl) rfl (fun _ e27 K=>?_) fun _ e27 K=>?_
  ·refine Qc 10 K M ?_
   exact⟨congrArg (AV.int .i64) (by(repeat' split)<;>first|omega|(simp_all;done)|(simp_all;omega)),M.qt⟩
  refine Qc 3 K M ?_;intro _ K;refine Un K (Qg rfl) rfl (fun _ e31 K=>?_) fun _ e31 K=>?_
  ·refine Qc 6 K M ?_
   exact⟨congrArg (AV.int .i64) (by(repeat' split)<;>first|omega|(simp_all;done)|(simp_all;omega)),M.qt⟩
  refine Qc 4 K M ?_;intro _ K;refine JS K rfl (fun h24=>?_) fun h24=>?_
  ·refine Qc 1 K M ?_
   exact⟨congrArg (AV.int .i64) (by(repeat' split)<;>first|omega|(simp_all;done)|(simp_all;omega)),M.qt⟩
  exact XP
 refine Qc 3 K M ?_;intro _ K;refine Un K (Qg rfl) rfl (fun _ e20 K=>?_) fun _ e20 K=>?_
 ·refine Qc 7 K M ?_;intro _ K;refine Un K (Qg rfl) rfl (fun _ e27 K=>?_) fun _ e27 K=>?_
  ·refine Qc 10 K M ?_
   exact⟨congrArg (AV.int .i64) (by(repeat' split)<;>first|omega|(simp_all;done)|(simp_all;omega)),M.qt⟩
  exact XP
 refine Qc 4 K M ?_;intro _ K;refine JS K rfl (fun h13=>?_) fun h13=>?_
 ·refine Qc 1 K M ?_
  exact⟨congrArg (AV.int .i64) (by(repeat' split)<;>first|omega|(simp_all;done)|(simp_all;omega)),M.qt⟩
 refine Qc 2 K M ?_;intro _ K;refine Un K (Qg rfl) rfl (fun _ e27 K=>?_) fun _ e27 K=>?_
 ·refine Qc 10 K M ?_
  exact⟨congrArg (AV.int .i64) (by(repeat' split)<;>first|omega|(simp_all;done)|(simp_all;omega)),M.qt⟩
 exact XP

theorem TY(hf:Qj st)(n s x y:Nat)(hn:n≤20)(hs:s≤30)(hx:x≤1)(hy:y≤1): ∃v st',Ev Tryz.prog Q5 158 [iN n,iN s,iN x,iN y] st v st'∧v=iZ (if s=n+1∨(s=0∧x=0)then(if x+y=0 then s else 30)else if s=0∧n=0 then(if y=1 then 1 else 30)else if s=0 then(if y=0 then 1 else 30)else if x=1∨(s<n∧y=1)∨(s=n∧y=0)then 30 else s+1:Nat)∧Qt st st':=by
 refine JI Tryz.func158 Tryz.ntmps158 fun T K=>?_;have M:=Mem.start hf;refine Qc 5 K M ?_;intro _ K;refine Un K (Qg rfl) rfl (fun _ e14 K=>?_) fun _ e14 K=>?_
 ·refine Qc 2 K M ?_;intro _ K;refine LX K rfl rfl (Qg rfl) rfl (fun _ e17 K=>?_) fun _ e17 K=>?_
  ·refine Qc 8 K M ?_;intro _ K;refine Un K (Qg rfl) rfl (fun _ e30 K=>?_) fun _ e30 K=>?_
   ·refine Qc 8 K M ?_;intro _ K;refine Qq (K.QJ rfl) (fun h36=>?_) (fun h36=>?_)
    ·have hb36:=h36;replace h36:=of_decide_eq_true h36;exact XP
    have hb36:=h36;replace h36:=of_decide_eq_false h36;refine Qc 2 K M ?_;intro _ K;refine Un K (Qg rfl) rfl (fun _ e44 K=>?_) fun _ e44 K=>?_
    ·refine Qc 3 K M ?_;intro _ K;refine LX K rfl rfl (Qg rfl) rfl (fun _ e48 K=>?_) fun _ e48 K=>?_
     ·refine Qc 8 K M ?_;intro _ K;refine LX K rfl rfl (Qg rfl) rfl (fun _ e57 K=>?_) fun _ e57 K=>?_
      ·refine Qc 9 K M ?_
       exact⟨congrArg (AV.int .i64) (by(repeat' split)<;>first|omega|(simp_all;done)|(simp_all;omega)),M.qt⟩
      refine Qc 5 K M ?_;intro _ K;refine JS K rfl (fun h41=>?_) fun h41=>?_
      ·refine Qc 1 K M ?_
       exact⟨congrArg (AV.int .i64) (by(repeat' split)<;>first|omega|(simp_all;done)|(simp_all;omega)),M.qt⟩
      refine Qc 3 K M ?_
      exact⟨congrArg (AV.int .i64) (by(repeat' split)<;>first|omega|(simp_all;done)|(simp_all;omega)),M.qt⟩
     refine Qc 4 K M ?_;intro _ K;refine Un K (Qg rfl) rfl (fun _ e53 K=>?_) fun _ e53 K=>?_
     ·refine Qc 3 K M ?_;intro _ K;refine LX K rfl rfl (Qg rfl) rfl (fun _ e57 K=>?_) fun _ e57 K=>?_
      ·refine Qc 9 K M ?_
       exact⟨congrArg (AV.int .i64) (by(repeat' split)<;>first|omega|(simp_all;done)|(simp_all;omega)),M.qt⟩
      exact XP
     refine Qc 11 K M ?_
     exact⟨congrArg (AV.int .i64) (by(repeat' split)<;>first|omega|(simp_all;done)|(simp_all;omega)),M.qt⟩
    refine Qc 20 K M ?_
    exact⟨congrArg (AV.int .i64) (by(repeat' split)<;>first|omega|(simp_all;done)|(simp_all;omega)),M.qt⟩
   exact XP
  refine Qc 5 K M ?_;intro _ K;refine JS K rfl (fun h9=>?_) fun h9=>?_
  ·refine Qc 4 K M ?_;intro _ K;refine Qq (K.QJ rfl) (fun h25=>?_) (fun h25=>?_)
   ·have hb25:=h25;replace h25:=of_decide_eq_true h25;refine Qc 2 K M ?_
    exact⟨congrArg (AV.int .i64) (by(repeat' split)<;>first|omega|(simp_all;done)|(simp_all;omega)),M.qt⟩
   have hb25:=h25;replace h25:=of_decide_eq_false h25;refine Qc 1 K M ?_
   exact⟨congrArg (AV.int .i64) (by(repeat' split)<;>first|omega|(simp_all;done)|(simp_all;omega)),M.qt⟩
  refine Qc 2 K M ?_;intro _ K;refine Un K (Qg rfl) rfl (fun _ e30 K=>?_) fun _ e30 K=>?_
  ·exact XP
  refine Qc 4 K M ?_;intro _ K;refine JS K rfl (fun h27=>?_) fun h27=>?_
  ·refine Qc 2 K M ?_;intro _ K;refine JS K rfl (fun h35=>?_) fun h35=>?_
   ·refine Qc 1 K M ?_
    exact⟨congrArg (AV.int .i64) (by(repeat' split)<;>first|omega|(simp_all;done)|(simp_all;omega)),M.qt⟩
   refine Qc 1 K M ?_
   exact⟨congrArg (AV.int .i64) (by(repeat' split)<;>first|omega|(simp_all;done)|(simp_all;omega)),M.qt⟩
  refine Qc 3 K M ?_;intro _ K;refine Qq (K.QJ rfl) (fun h36=>?_) (fun h36=>?_)
  ·have hb36:=h36;replace h36:=of_decide_eq_true h36;refine Qc 2 K M ?_;intro _ K;refine JS K rfl (fun h40=>?_) fun h40=>?_
   ·refine Qc 1 K M ?_
    exact⟨congrArg (AV.int .i64) (by(repeat' split)<;>first|omega|(simp_all;done)|(simp_all;omega)),M.qt⟩
   refine Qc 1 K M ?_
   exact⟨congrArg (AV.int .i64) (by(repeat' split)<;>first|omega|(simp_all;done)|(simp_all;omega)),M.qt⟩
  have hb36:=h36;replace h36:=of_decide_eq_false h36;exact XP
 refine Qc 13 K M ?_;intro _ K;refine Qq (K.QJ rfl) (fun h25=>?_) (fun h25=>?_)
 ·have hb25:=h25;replace h25:=of_decide_eq_true h25;refine Qc 2 K M ?_
  exact⟨congrArg (AV.int .i64) (by(repeat' split)<;>first|omega|(simp_all;done)|(simp_all;omega)),M.qt⟩
 have hb25:=h25;replace h25:=of_decide_eq_false h25;refine Qc 1 K M ?_
 exact⟨congrArg (AV.int .i64) (by(repeat' split)<;>first|omega|(simp_all;done)|(simp_all;omega)),M.qt⟩

theorem TD(hf:Qj st){a b g:Int}{nn:Nat}{kc:AV}(hkc:Qu kc=true)(hn:nn≤20)(hs:s≤30)(hx:x≤1)(hy:y≤1)(hz:z≤1): ∃v st',Ev Tryz.prog Q5 130 [.agg [.str o,.int .i64 a,.int .i64 b,.int .i64 g,.int .i64 (nn:Nat),kc],.int .i64 (s:Nat),.int .i64 (x:Nat),.int .i64 (y:Nat),.int .i64 (z:Nat)] st v st'∧v=.int .i64 (QV o nn s x y z:Nat)∧Qt st st':=by
 have hdf:=uM hx hy;refine BO rfl Tryz.func130 rfl Tryz.ntmps130 rfl fun T hT=>?_;have K:QZ [(0,_),(1,_),(2,_),(3,_),(4,_)] T:=(.cons (hT 0) (.cons (hT 1) (.cons (hT 2) (.cons (hT 3) (.cons (hT 4) .nil)))));have M:=Mem.start hf;refine au 4 K M ?_;intro c5 _ _ K _ M;refine JS K rfl (fun h13=>?_) fun h13=>?_
 ·refine Qc 1 K M ?_
  have e9:QV o nn s x y z=30:=by
   clear M K hT
   first|(unfold QV;rw[if_pos Qe];done)|(have hs30:s≠30:=Qe;subst_vars;(first|rw[Uk hs30]|rw[JN hs30]|rw[J1 hs30]|rw[J3 hs30]|rw[J2 hs30]);first|(rw[if_pos Qe];done)|(rw[if_neg Qe];done))|(have hs30:s≠30:=Qe;unfold QV;simp_all;done)
  rw[e9];exact⟨rfl,M.qt⟩
 refine Qc 3 K M ?_;intro _ K;refine p1 K (Jm (b:=[115,117,98]) rfl rfl) fun _ K=>?_;refine Qc 1 K M ?_;intro _ K;refine JS K rfl (fun h16=>?_) fun h16=>?_
 ·refine Qc 6 K M ?_;intro _ K;refine Qq (K.QJ rfl) (fun h78=>?_) (fun h78=>?_)
  ·have hb78:=h78
   replace h78: ¬(((x:Nat):Int)≤((y:Nat):Int)):=by first|exact of_decide_eq_false h78|exact yF h78|simpa using h78
   refine Qc 1 K M ?_
   have e9:QV o nn s x y z=30:=by
    clear M K hT
    first|(unfold QV;rw[if_pos Qe];done)|(have hs30:s≠30:=Qe;subst_vars;(first|rw[Uk hs30]|rw[JN hs30]|rw[J1 hs30]|rw[J3 hs30]|rw[J2 hs30]);first|(rw[if_pos Qe];done)|(rw[if_neg Qe];done))|(have hs30:s≠30:=Qe;unfold QV;simp_all;done)
   rw[e9];exact⟨rfl,M.qt⟩
  have hb78:=h78
  replace h78:(((x:Nat):Int)≤((y:Nat):Int)):=by first|exact of_decide_eq_true h78|exact yT h78|simpa using h78
  refine Qc 1 K M ?_
  have e9:QV o nn s x y z=0:=by
   clear M K hT
   first|(unfold QV;rw[if_pos Qe];done)|(have hs30:s≠30:=Qe;subst_vars;(first|rw[Uk hs30]|rw[JN hs30]|rw[J1 hs30]|rw[J3 hs30]|rw[J2 hs30]);first|(rw[if_pos Qe];done)|(rw[if_neg Qe];done))|(have hs30:s≠30:=Qe;unfold QV;simp_all;done)
  rw[e9];exact⟨rfl,M.qt⟩
 refine QD<|Qv<|p1 K (Jm (b:=[110,111,110,101]) rfl rfl) fun _ K=>?_;refine Qc 1 K M ?_;intro _ K;refine JS K rfl (fun h21=>?_) fun h21=>?_
 ·refine Qc 5 K M ?_;intro _ K;refine Qq (K.QJ rfl) (fun h78=>?_) (fun h78=>?_)
  ·have hb78:=h78
   replace h78: ¬(((x:Nat):Int)=0):=by first|exact of_decide_eq_false h78|exact yF h78|simpa using h78
   refine Qc 1 K M ?_
   have e9:QV o nn s x y z=30:=by
    clear M K hT
    first|(unfold QV;rw[if_pos Qe];done)|(have hs30:s≠30:=Qe;subst_vars;(first|rw[Uk hs30]|rw[JN hs30]|rw[J1 hs30]|rw[J3 hs30]|rw[J2 hs30]);first|(rw[if_pos Qe];done)|(rw[if_neg Qe];done))|(have hs30:s≠30:=Qe;unfold QV;simp_all;done)
   rw[e9];exact⟨rfl,M.qt⟩
  have hb78:=h78
  replace h78:(((x:Nat):Int)=0):=by first|exact of_decide_eq_true h78|exact yT h78|simpa using h78
  refine Qc 1 K M ?_
  have e9:QV o nn s x y z=0:=by
   clear M K hT
   first|(unfold QV;rw[if_pos Qe];done)|(have hs30:s≠30:=Qe;subst_vars;(first|rw[Uk hs30]|rw[JN hs30]|rw[J1 hs30]|rw[J3 hs30]|rw[J2 hs30]);first|(rw[if_pos Qe];done)|(rw[if_neg Qe];done))|(have hs30:s≠30:=Qe;unfold QV;simp_all;done)
  rw[e9];exact⟨rfl,M.qt⟩
 refine QD<|Qv<|p1 K (Jm (b:=[117,110,105,111,110]) rfl rfl) fun _ K=>?_;refine Qc 1 K M ?_;intro _ K;refine JS K rfl (fun h25=>?_) fun h25=>?_
 ·refine Qc 3 K M ?_;intro _ K;refine p1 K (jm rfl rfl Qe Qe) fun _ K=>?_;refine Qc 4 K M ?_;intro _ K;refine Qq (K.QJ rfl) (fun h78=>?_) (fun h78=>?_)
  ·have hb78:=h78
   replace h78: ¬(((z:Nat):Int)=(((x|||y):Nat):Int)):=by first|exact of_decide_eq_false h78|exact yF h78|simpa using h78
   refine Qc 1 K M ?_
   have e9:QV o nn s x y z=30:=by
    clear M K hT
    first|(unfold QV;rw[if_pos Qe];done)|(have hs30:s≠30:=Qe;subst_vars;(first|rw[Uk hs30]|rw[JN hs30]|rw[J1 hs30]|rw[J3 hs30]|rw[J2 hs30]);first|(rw[if_pos Qe];done)|(rw[if_neg Qe];done))|(have hs30:s≠30:=Qe;unfold QV;simp_all;done)
   rw[e9];exact⟨rfl,M.qt⟩
  have hb78:=h78
  replace h78:(((z:Nat):Int)=(((x|||y):Nat):Int)):=by first|exact of_decide_eq_true h78|exact yT h78|simpa using h78
  refine Qc 1 K M ?_
  have e9:QV o nn s x y z=0:=by
   clear M K hT
   first|(unfold QV;rw[if_pos Qe];done)|(have hs30:s≠30:=Qe;subst_vars;(first|rw[Uk hs30]|rw[JN hs30]|rw[J1 hs30]|rw[J3 hs30]|rw[J2 hs30]);first|(rw[if_pos Qe];done)|(rw[if_neg Qe];done))|(have hs30:s≠30:=Qe;unfold QV;simp_all;done)
  rw[e9];exact⟨rfl,M.qt⟩
 refine QD<|Qv<|p1 K (Jm (b:=[105,110,116,101,114]) rfl rfl) fun _ K=>?_;refine Qc 1 K M ?_;intro _ K;refine JS K rfl (fun h32=>?_) fun h32=>?_
 ·refine Qc 3 K M ?_;intro _ K;refine p1 K (Bu rfl rfl Qe Qe) fun _ K=>?_;refine Qc 4 K M ?_;intro _ K;refine Qq (K.QJ rfl) (fun h78=>?_) (fun h78=>?_)
  ·have hb78:=h78
   replace h78: ¬(((z:Nat):Int)=(((x&&&y):Nat):Int)):=by first|exact of_decide_eq_false h78|exact yF h78|simpa using h78
   refine Qc 1 K M ?_
   have e9:QV o nn s x y z=30:=by
    clear M K hT
    first|(unfold QV;rw[if_pos Qe];done)|(have hs30:s≠30:=Qe;subst_vars;(first|rw[Uk hs30]|rw[JN hs30]|rw[J1 hs30]|rw[J3 hs30]|rw[J2 hs30]);first|(rw[if_pos Qe];done)|(rw[if_neg Qe];done))|(have hs30:s≠30:=Qe;unfold QV;simp_all;done)
   rw[e9];exact⟨rfl,M.qt⟩
  have hb78:=h78
  replace h78:(((z:Nat):Int)=(((x&&&y):Nat):Int)):=by first|exact of_decide_eq_true h78|exact yT h78|simpa using h78
  refine Qc 1 K M ?_
  have e9:QV o nn s x y z=0:=by
   clear M K hT
   first|(unfold QV;rw[if_pos Qe];done)|(have hs30:s≠30:=Qe;subst_vars;(first|rw[Uk hs30]|rw[JN hs30]|rw[J1 hs30]|rw[J3 hs30]|rw[J2 hs30]);first|(rw[if_pos Qe];done)|(rw[if_neg Qe];done))|(have hs30:s≠30:=Qe;unfold QV;simp_all;done)
  rw[e9];exact⟨rfl,M.qt⟩
 refine QD<|Qv<|p1 K (Jm (b:=[109,105,110,117,115]) rfl rfl) fun _ K=>?_;refine Qc 1 K M ?_;intro _ K;refine JS K rfl (fun h39=>?_) fun h39=>?_
 ·refine Qc 3 K M ?_;intro _ K;refine p1 K (Rf rfl rfl Qe Qe) fun _ K=>?_;refine Qc 4 K M ?_;intro _ K;refine Qq (K.QJ rfl) (fun h78=>?_) (fun h78=>?_)
  ·have hb78:=h78
   replace h78: ¬(((z:Nat):Int)=(((ND x y):Nat):Int)):=by first|exact of_decide_eq_false h78|exact yF h78|simpa using h78
   refine Qc 1 K M ?_
   have e9:QV o nn s x y z=30:=by
    clear M K hT
    first|(unfold QV;rw[if_pos Qe];done)|(have hs30:s≠30:=Qe;subst_vars;(first|rw[Uk hs30]|rw[JN hs30]|rw[J1 hs30]|rw[J3 hs30]|rw[J2 hs30]);first|(rw[if_pos Qe];done)|(rw[if_neg Qe];done))|(have hs30:s≠30:=Qe;unfold QV;simp_all;done)
   rw[e9];exact⟨rfl,M.qt⟩
  have hb78:=h78
  replace h78:(((z:Nat):Int)=(((ND x y):Nat):Int)):=by first|exact of_decide_eq_true h78|exact yT h78|simpa using h78
  refine Qc 1 K M ?_
  have e9:QV o nn s x y z=0:=by
   clear M K hT
   first|(unfold QV;rw[if_pos Qe];done)|(have hs30:s≠30:=Qe;subst_vars;(first|rw[Uk hs30]|rw[JN hs30]|rw[J1 hs30]|rw[J3 hs30]|rw[J2 hs30]);first|(rw[if_pos Qe];done)|(rw[if_neg Qe];done))|(have hs30:s≠30:=Qe;unfold QV;simp_all;done)
  rw[e9];exact⟨rfl,M.qt⟩
 refine QD<|Qv<|p1 K (Jm (b:=[102,108,97,103]) rfl rfl) fun _ K=>?_;refine Qc 1 K M ?_;intro _ K;refine JS K rfl (fun h46=>?_) fun h46=>?_
 ·refine Qc 2 K M ?_;intro _ K;refine oQ K M (MK M.fresh s x) rfl rfl fun _ _ K M=>?_;refine Qc 1 K M ?_
  have e9:QV o nn s x y z=(if s=1∨x=1 then 1 else 30:Nat):=by
   clear M K hT
   first|(unfold QV;rw[if_pos Qe];done)|(have hs30:s≠30:=Qe;subst_vars;(first|rw[Uk hs30]|rw[JN hs30]|rw[J1 hs30]|rw[J3 hs30]|rw[J2 hs30]);first|(rw[if_pos Qe];done)|(rw[if_neg Qe];done))|(have hs30:s≠30:=Qe;unfold QV;simp_all;done)
  rw[e9];exact⟨rfl,M.qt⟩
 refine QD<|Qv<|p1 K (Jm (b:=[115,105,110,103]) rfl rfl) fun _ K=>?_;refine Qc 1 K M ?_;intro _ K;refine JS K rfl (fun h51=>?_) fun h51=>?_
 ·refine Qc 2 K M ?_;intro _ K;refine oQ K M (zi M.fresh s x hs hx) rfl rfl fun _ _ K M=>?_;refine Qc 1 K M ?_
  have e9:QV o nn s x y z=(if 1<s+x then 30 else s+x:Nat):=by
   clear M K hT
   first|(unfold QV;rw[if_pos Qe];done)|(have hs30:s≠30:=Qe;subst_vars;(first|rw[Uk hs30]|rw[JN hs30]|rw[J1 hs30]|rw[J3 hs30]|rw[J2 hs30]);first|(rw[if_pos Qe];done)|(rw[if_neg Qe];done))|(have hs30:s≠30:=Qe;unfold QV;simp_all;done)
  rw[e9];exact⟨rfl,M.qt⟩
 refine QD<|Qv<|p1 K (Jm (b:=[110,117,109]) rfl rfl) fun _ K=>?_;refine Qc 1 K M ?_;intro _ K;refine JS K rfl (fun h56=>?_) fun h56=>?_
 ·refine Qc 4 K M ?_;intro _ K;refine oQ K M (jB M.fresh nn s x hn hs hx) rfl rfl fun _ _ K M=>?_;refine Qc 1 K M ?_
  have e9:QV o nn s x y z=(if s=nn+1∧x=0 then s else if nn<s∨(s<nn∧x=1)∨(s=nn∧x=0)then 30 else s+1:Nat):=by
   clear M K hT
   first|(unfold QV;rw[if_pos Qe];done)|(have hs30:s≠30:=Qe;subst_vars;(first|rw[Uk hs30]|rw[JN hs30]|rw[J1 hs30]|rw[J3 hs30]|rw[J2 hs30]);first|(rw[if_pos Qe];done)|(rw[if_neg Qe];done))|(have hs30:s≠30:=Qe;unfold QV;simp_all;done)
  rw[e9];exact⟨rfl,M.qt⟩
 refine QD<|Qv<|p1 K (Jm (b:=[108,101,115,115]) rfl rfl) fun _ K=>?_;refine Qc 1 K M ?_;intro _ K;refine JS K rfl (fun h63=>?_) fun h63=>?_
 ·refine Qc 3 K M ?_;intro _ K;refine oQ K M (Mu M.fresh s x y hs hx hy) rfl rfl fun _ _ K M=>?_;refine Qc 1 K M ?_
  have e9:QV o nn s x y z=(if x+y=0 then s else if s=0∧x=1∧y=0 then 1 else if s=1∧x=0∧y=1 then 2 else 30:Nat):=by
   clear M K hT
   first|(unfold QV;rw[if_pos Qe];done)|(have hs30:s≠30:=Qe;subst_vars;(first|rw[Uk hs30]|rw[JN hs30]|rw[J1 hs30]|rw[J3 hs30]|rw[J2 hs30]);first|(rw[if_pos Qe];done)|(rw[if_neg Qe];done))|(have hs30:s≠30:=Qe;unfold QV;simp_all;done)
  rw[e9];exact⟨rfl,M.qt⟩
 refine QD<|Qv<|p1 K (Jm (b:=[112,108,117,115]) rfl rfl) fun _ K=>?_;refine Qc 1 K M ?_;intro _ K;refine JS K rfl (fun h69=>?_) fun h69=>?_
 ·refine Qc 5 K M ?_;intro _ K;refine oQ K M (TY M.fresh nn s x y hn hs hx hy) rfl rfl fun _ _ K M=>?_;refine Qc 1 K M ?_
  have e9:QV o nn s x y z=(if s=nn+1∨(s=0∧x=0)then(if x+y=0 then s else 30)else if s=0∧nn=0 then(if y=1 then 1 else 30)else if s=0 then(if y=0 then 1 else 30)else if x=1∨(s<nn∧y=1)∨(s=nn∧y=0)then 30 else s+1:Nat):=by
   clear M K hT
   first|(unfold QV;rw[if_pos Qe];done)|(have hs30:s≠30:=Qe;subst_vars;(first|rw[Uk hs30]|rw[JN hs30]|rw[J1 hs30]|rw[J3 hs30]|rw[J2 hs30]);first|(rw[if_pos Qe];done)|(rw[if_neg Qe];done))|(have hs30:s≠30:=Qe;unfold QV;simp_all;done)
  rw[e9];exact⟨rfl,M.qt⟩
 refine Qc 4 K M ?_
 have e9:QV o nn s x y z=0:=by
  clear M K hT
  first|(unfold QV;rw[if_pos Qe];done)|(have hs30:s≠30:=Qe;subst_vars;(first|rw[Uk hs30]|rw[JN hs30]|rw[J1 hs30]|rw[J3 hs30]|rw[J2 hs30]);first|(rw[if_pos Qe];done)|(rw[if_neg Qe];done))|(have hs30:s≠30:=Qe;unfold QV;simp_all;done)
 rw[e9];exact⟨rfl,M.qt⟩

theorem Cm(hf:Qj st){a b g:Int}{nn:Nat}{kc:AV}(hkc:Qu kc=true)(hn:nn≤20): ∃v st',Ev Tryz.prog Q5 131 [.agg [.str o,.int .i64 a,.int .i64 b,.int .i64 g,.int .i64 (nn:Nat),kc],.int .i64 (s:Nat)] st v st'∧v=.bool (Xj o nn s)∧Qt st st':=by
 refine BO rfl Tryz.func131 rfl Tryz.ntmps131 rfl fun T hT=>?_;have K:QZ [(0,_),(1,_)] T:=(.cons (hT 0) (.cons (hT 1) .nil));have M:=Mem.start hf;refine au 4 K M ?_;intro c2 _ _ K _ M;refine JS K rfl (fun h6=>?_) fun h6=>?_
 ·refine Qc 1 K M ?_
  have e9:Xj o nn s=false:=by
   clear M K hT;unfold Xj
   first|(rw[if_pos Qe];done)|(have hs30:s≠30:=Qe;first|(rw[if_neg hs30,if_pos (by simp[*])]<;>exact decide_eq_decide.2 Qe)|(rw[if_neg hs30,if_neg (by simp[*]),if_pos (by simp[*])]<;>exact decide_eq_decide.2 Qe)|(rw[if_neg hs30,if_neg (by simp[*]),if_neg (by simp[*]),if_pos (by simp[*])]<;>exact decide_eq_decide.2 Qe)|(rw[if_neg hs30,if_neg (by simp[*]),if_neg (by simp[*]),if_neg (by simp[*])]))
  rw[e9];exact⟨rfl,M.qt⟩
 refine Qc 2 K M ?_;intro _ K;refine p1 K (Jm (b:=[102,108,97,103]) rfl rfl) fun _ K=>?_;refine Qc 1 K M ?_;intro _ K;refine Qq (K.QJ rfl) (fun h9=>?_) (fun h9=>?_)
 ·have hb9:=h9;replace h9:=of_decide_eq_true h9;refine Xr ?_;show W _ _ _ _ _ _ _;refine Qq (t:=true) ((K.QJ rfl).trans (congrArg (fun b=>some (AV.bool b)) hb9)) (fun _=>?_) (fun h=>by cases h);refine Qc 3 K M ?_
  have e9:Xj o nn s=decide (((s:Nat):Int)=1):=by
   clear M K hT;unfold Xj
   first|(rw[if_pos Qe];done)|(have hs30:s≠30:=Qe;first|(rw[if_neg hs30,if_pos (by simp[*])]<;>exact decide_eq_decide.2 Qe)|(rw[if_neg hs30,if_neg (by simp[*]),if_pos (by simp[*])]<;>exact decide_eq_decide.2 Qe)|(rw[if_neg hs30,if_neg (by simp[*]),if_neg (by simp[*]),if_pos (by simp[*])]<;>exact decide_eq_decide.2 Qe)|(rw[if_neg hs30,if_neg (by simp[*]),if_neg (by simp[*]),if_neg (by simp[*])]))
  rw[e9];exact⟨rfl,M.qt⟩
 have hb9:=h9;replace h9:=of_decide_eq_false h9;refine Qv<|p1 K (Jm (b:=[115,105,110,103]) rfl rfl) fun _ K=>?_;refine Qc 1 K M ?_;intro _ K;refine Qq (K.QJ rfl) (fun h9=>?_) (fun h9=>?_)
 ·have hb9:=h9;replace h9:=of_decide_eq_true h9;refine Qc 3 K M ?_
  have e9:Xj o nn s=decide (((s:Nat):Int)=1):=by
   clear M K hT;unfold Xj
   first|(rw[if_pos Qe];done)|(have hs30:s≠30:=Qe;first|(rw[if_neg hs30,if_pos (by simp[*])]<;>exact decide_eq_decide.2 Qe)|(rw[if_neg hs30,if_neg (by simp[*]),if_pos (by simp[*])]<;>exact decide_eq_decide.2 Qe)|(rw[if_neg hs30,if_neg (by simp[*]),if_neg (by simp[*]),if_pos (by simp[*])]<;>exact decide_eq_decide.2 Qe)|(rw[if_neg hs30,if_neg (by simp[*]),if_neg (by simp[*]),if_neg (by simp[*])]))
  rw[e9];exact⟨rfl,M.qt⟩
 have hb9:=h9;replace h9:=of_decide_eq_false h9;refine QD<|Qv<|p1 K (Jm (b:=[108,101,115,115]) rfl rfl) fun _ K=>?_;refine Qc 1 K M ?_;intro _ K;refine JS K rfl (fun h14=>?_) fun h14=>?_
 ·refine Qc 3 K M ?_
  have e9:Xj o nn s=decide (((s:Nat):Int)=2):=by
   clear M K hT;unfold Xj
   first|(rw[if_pos Qe];done)|(have hs30:s≠30:=Qe;first|(rw[if_neg hs30,if_pos (by simp[*])]<;>exact decide_eq_decide.2 Qe)|(rw[if_neg hs30,if_neg (by simp[*]),if_pos (by simp[*])]<;>exact decide_eq_decide.2 Qe)|(rw[if_neg hs30,if_neg (by simp[*]),if_neg (by simp[*]),if_pos (by simp[*])]<;>exact decide_eq_decide.2 Qe)|(rw[if_neg hs30,if_neg (by simp[*]),if_neg (by simp[*]),if_neg (by simp[*])]))
  rw[e9];exact⟨rfl,M.qt⟩
 refine Qc 0 K M ?_;intro _ K;refine p1 K (Jm (b:=[112,108,117,115]) rfl rfl) fun _ K=>?_;refine Qc 1 K M ?_;intro _ K;refine Qq (K.QJ rfl) (fun h18=>?_) (fun h18=>?_)
 ·have hb18:=h18;replace h18:=of_decide_eq_true h18;refine Xr ?_;show W _ _ _ _ _ _ _;refine Qq (t:=true) ((K.QJ rfl).trans (congrArg (fun b=>some (AV.bool b)) hb18)) (fun _=>?_) (fun h=>by cases h);refine Qc 6 K M ?_
  have e9:Xj o nn s=decide (((s:Nat):Int)=(((nn:Nat):Int)+1)):=by
   clear M K hT;unfold Xj
   first|(rw[if_pos Qe];done)|(have hs30:s≠30:=Qe;first|(rw[if_neg hs30,if_pos (by simp[*])]<;>exact decide_eq_decide.2 Qe)|(rw[if_neg hs30,if_neg (by simp[*]),if_pos (by simp[*])]<;>exact decide_eq_decide.2 Qe)|(rw[if_neg hs30,if_neg (by simp[*]),if_neg (by simp[*]),if_pos (by simp[*])]<;>exact decide_eq_decide.2 Qe)|(rw[if_neg hs30,if_neg (by simp[*]),if_neg (by simp[*]),if_neg (by simp[*])]))
  rw[e9];exact⟨rfl,M.qt⟩
 have hb18:=h18;replace h18:=of_decide_eq_false h18;refine Qv<|p1 K (Jm (b:=[110,117,109]) rfl rfl) fun _ K=>?_;refine Qc 1 K M ?_;intro _ K;refine Qq (K.QJ rfl) (fun h18=>?_) (fun h18=>?_)
 ·have hb18:=h18;replace h18:=of_decide_eq_true h18;refine Qc 6 K M ?_
  have e9:Xj o nn s=decide (((s:Nat):Int)=(((nn:Nat):Int)+1)):=by
   clear M K hT;unfold Xj
   first|(rw[if_pos Qe];done)|(have hs30:s≠30:=Qe;first|(rw[if_neg hs30,if_pos (by simp[*])]<;>exact decide_eq_decide.2 Qe)|(rw[if_neg hs30,if_neg (by simp[*]),if_pos (by simp[*])]<;>exact decide_eq_decide.2 Qe)|(rw[if_neg hs30,if_neg (by simp[*]),if_neg (by simp[*]),if_pos (by simp[*])]<;>exact decide_eq_decide.2 Qe)|(rw[if_neg hs30,if_neg (by simp[*]),if_neg (by simp[*]),if_neg (by simp[*])]))
  rw[e9];exact⟨rfl,M.qt⟩
 have hb18:=h18;replace h18:=of_decide_eq_false h18;refine Qc 1 K M ?_
 have e9:Xj o nn s=true:=by
  clear M K hT;unfold Xj
  first|(rw[if_pos Qe];done)|(have hs30:s≠30:=Qe;first|(rw[if_neg hs30,if_pos (by simp[*])]<;>exact decide_eq_decide.2 Qe)|(rw[if_neg hs30,if_neg (by simp[*]),if_pos (by simp[*])]<;>exact decide_eq_decide.2 Qe)|(rw[if_neg hs30,if_neg (by simp[*]),if_neg (by simp[*]),if_pos (by simp[*])]<;>exact decide_eq_decide.2 Qe)|(rw[if_neg hs30,if_neg (by simp[*]),if_neg (by simp[*]),if_neg (by simp[*])]))
 rw[e9];exact⟨rfl,M.qt⟩
end Go.Proofs.YtiknomepbklibaaGreatDoor
end
