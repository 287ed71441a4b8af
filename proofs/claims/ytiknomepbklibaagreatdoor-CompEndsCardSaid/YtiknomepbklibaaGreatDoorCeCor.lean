/-
  Core formulas: how great, may they be? the program's answer, the reference's.
-/
import Derived.Test.YtiknomepbklibaaGreatDoorCeMnm
namespace Go.Proofs.YtiknomepbklibaaGreatDoor
open Go Go.RowKit
set_option maxHeartbeats 8000000
set_option linter.unusedVariables false
set_option linter.unusedSimpArgs false
set_option linter.unnecessarySimpa false
set_option linter.unusedSectionVars false
set_option maxRecDepth 100000
variable {R:E8} {a b g m n:Int} {cs:List AV} {l:List Cr} {o:List Nat} {st:St}

theorem RD(h: ∀(j:Nat) (k:Cr),l[j]? =some k→Je k m=true):Xh l m=true:=by
 induction l with
 |nil=>rfl
 |cons x l ih=>rw[Xh,h 0 x rfl,ih fun j k hj=>h (j+1) k hj];rfl
theorem DU{j:Nat}{k:Cr}(hj:l[j]? =some k)(h:Je k m=false):Xh l m=false:=by
 by_cases e:Xh l m=true
 ·rw[WJ e (IH hj)]at h;cases h
 ·simpa using e
theorem MP{k:Cr}(h:l.length=1)(hk:l[0]? =some k):Xh l m=Je k m:=by
 obtain⟨x,rfl⟩:=List.length_eq_one_iff.1 h
 injection hk with hk
 subst hk;rw[Xh,Xh,Bool.and_true]

theorem ya (x : Cr) : ∀ (most : Int) (R : E8) (st : St) (cs : List AV), Qj st → YN R st.h.get → Xc R x cs → 1 ≤ most → most ≤ 1000000 → ∃ v st', Ev Tryz.prog Q0 103 [.agg cs, iZ most] st v st' ∧ v = iZ (min ((XS x : Nat) : Int) most) ∧ Qt st st' := by
 refine IG (M := fun x => ∀ (most : Int) (R : E8) (st : St) (cs : List AV), Qj st → YN R st.h.get → Xc R x cs → 1 ≤ most → most ≤ 1000000 → ∃ v st', Ev Tryz.prog Q0 103 [.agg cs, iZ most] st v st' ∧ v = iZ (min ((XS x : Nat) : Int) most) ∧ Qt st st') (fun o a b g n l ih => ?_) x;intro most R st cs hf hR hr h1 h2;have hr0 := hr;obtain ⟨kc, ls, rfl, hK⟩ := hr.Yu;have hln := hK.ln;have hbn := hK.Ey;refine JB Tryz.func103 Tryz.ntmps103 fun T K => ?_;have M := Mem.start hf;refine QC <| Qw ?_;refine J1 K M rfl (Qb rfl (Qb rfl (Qb rfl (Qb rfl (Qb rfl (Qb hK.cell Q6)))))) QD fun c2 _ _ K M => ?_;refine Qc 3 K M ?_;intro _ K;refine JN K rfl (fun h9 => ?_) fun h9 => ?_
 · refine Qc 1 K M ?_
   first
    | (exfalso; omega)
    | (refine ⟨?_, M.qt⟩; rw [hinv]; congr 1; have hz : i = l.length := by omega
       rw [WI Qe, Zf]; omega)
    | (refine ⟨?_, M.qt⟩; rw [hinv]; congr 1; omega)
 refine Qc 3 K M ?_;intro _ K;refine p1 K (QA Uo rfl rfl hK.len) fun _ K => ?_;refine Qc 1 K M ?_;intro _ K;refine Jd (fun mm1 T st9 => ∃ (i : Nat) (m : Int), mm1 = l.length - i ∧ QX [(1, iZ most), (4, iZ 0), (5, iZ m), (11, kc), (12, iZ (l.length : Nat)), (13, iN i)] T ∧ Mem st.h.get st.n [] st9 [(c2, 0, [.str o, iZ a, iZ b, iZ g, iZ n, kc])] ∧ i ≤ l.length ∧ 1 ≤ m ∧ m ≤ most ∧ min (((XS (.mk o a b g n l)) : Nat) : Int) most = min (m + ((Zf (l.drop i) : Nat) : Int)) most) (fun mm1 T st9 hI => ?_) _ _ _ ⟨0, 1, rfl, (K.sub rfl), M.less (.refl _), (Nat.zero_le _), Qe, h1, (by rw [XS, List.drop_zero]; omega)⟩;obtain ⟨i, m, rfl, K, M, hi, hm1, hm2, hinv⟩ := hI;refine Qc 1 K M ?_;intro _ K;refine JN K rfl (fun h14 => ?_) fun h14 => ?_
 · refine Qc 0 K M ?_;intro _ K;obtain ⟨⟨o15, a15, b15, g15, n15, l15⟩, hi15⟩ : ∃ k, l[i]? = some k := ⟨_, List.getElem?_eq_getElem Qe⟩;have hm15 := IH hi15;obtain ⟨_, hc15, hn15⟩ := hK.get hi15;have hp15 := hn15;obtain ⟨kc15, ls15, rfl, hK15⟩ := hp15.Yu;obtain ⟨x15, m15, f15, q15, _, la15, lo15, lp15⟩ := (hK.r (M.YN hR)).load (i := i) (cs := _) hc15;refine p1 K (Qa (j := i) J9 (congrArg some q15) rfl (by rw [hK.ln]; omega)) fun _ K => p1 K (Qd rfl (la15 _ Jq)) fun _ K => ?_;refine au 1 K M ?_;intro c7 _ _ K _ M;refine QV (k := 0) K M rfl rfl rfl ZC rfl (Qb rfl (Qb rfl (Qb rfl (Qb rfl (Qb rfl (Qb hK15.cell Q6)))))) rfl fun _ M => ?_;refine Qc 3 K M ?_;intro _ K;refine JN K rfl (fun h19 => ?_) fun h19 => ?_
   · refine QU ?_;show W _ _ _ _ _ _ _;refine Qc 2 K M ?_
     first
      | (exfalso; omega)
      | (refine ⟨?_, M.qt⟩; rw [hinv]; congr 1; have hz : i = l.length := by omega
         rw [WI Qe, Zf]; omega)
      | (refine ⟨?_, M.qt⟩; rw [hinv]; congr 1; omega)
   refine Qc 5 K M ?_;intro _ K;refine oQ K M (ih _ hm15 (most - m) R _ _ M.fresh (M.YN hR) hn15 Qe Qe) rfl rfl fun _ _ K M => ?_;refine Qc 4 K M ?_;intro _ K;have hst := Ga hi15;have hsp := Sj (.mk o15 a15 b15 g15 n15 l15);exact ⟨_, Qe, i + 1, (m + min ((XS (.mk o15 a15 b15 g15 n15 l15) : Nat) : Int) (most - m)), rfl, (K.sub rfl), M.less (.cons _ (.refl _)), Qe, Qe, Qe, Qe⟩
 refine QU ?_;show W _ _ _ _ _ _ _;refine Qc 2 K M ?_
 first
  | (exfalso; omega)
  | (refine ⟨?_, M.qt⟩; rw [hinv]; congr 1; have hz : i = l.length := by omega
     rw [WI Qe, Zf]; omega)
  | (refine ⟨?_, M.qt⟩; rw [hinv]; congr 1; omega)

theorem TQ (x : Cr) : ∀ (most : Int) (R : E8) (st : St) (cs : List AV), Qj st → YN R st.h.get → Xc R x cs → 1 ≤ most → most ≤ 1000000 → ∃ v st', Ev Tryz.prog Q0 75 [.agg cs, iZ most] st v st' ∧ v = iZ (min ((XS x : Nat) : Int) most) ∧ Qt st st' := by
 refine IG (M := fun x => ∀ (most : Int) (R : E8) (st : St) (cs : List AV), Qj st → YN R st.h.get → Xc R x cs → 1 ≤ most → most ≤ 1000000 → ∃ v st', Ev Tryz.prog Q0 75 [.agg cs, iZ most] st v st' ∧ v = iZ (min ((XS x : Nat) : Int) most) ∧ Qt st st') (fun o a b g n l ih => ?_) x;intro most R st cs hf hR hr h1 h2;have hr0 := hr;obtain ⟨kc, ls, rfl, hK⟩ := hr.Yu;have hln := hK.ln;have hbn := hK.Ey;refine JB Tryz.func75 Tryz.ntmps75 fun T K => ?_;have M := Mem.start hf;refine QC <| Qw ?_;refine J1 K M rfl (Qb rfl (Qb rfl (Qb rfl (Qb rfl (Qb rfl (Qb hK.cell Q6)))))) QD fun c2 _ _ K M => ?_;refine Qc 3 K M ?_;intro _ K;refine Jd (fun mm1 T st9 => ∃ (i : Nat) (m : Int), mm1 = l.length - i ∧ QX [(1, iZ most), (2, .ptr c2 0 0), (4, iZ 0), (5, iZ m), (6, iN i)] T ∧ Mem st.h.get st.n [] st9 [(c2, 0, [.str o, iZ a, iZ b, iZ g, iZ n, kc])] ∧ i ≤ l.length ∧ 1 ≤ m ∧ m ≤ most ∧ min (((XS (.mk o a b g n l)) : Nat) : Int) most = min (m + ((Zf (l.drop i) : Nat) : Int)) most) (fun mm1 T st9 hI => ?_) _ _ _ ⟨0, 1, rfl, (K.sub rfl), M.less (.refl _), (Nat.zero_le _), Qe, h1, (by rw [XS, List.drop_zero]; omega)⟩;obtain ⟨i, m, rfl, K, M, hi, hm1, hm2, hinv⟩ := hI;refine Qc 3 K M ?_;intro _ K;refine p1 K (QA Uo rfl rfl hK.len) fun _ K => ?_;refine Qc 1 K M ?_;intro _ K;refine Un K (Qg rfl) rfl (fun _ e12 K => ?_) fun _ e12 K => ?_
 · refine Qc 5 K M ?_;intro _ K;refine QU ?_;show W _ _ _ _ _ _ _;refine Qc 2 K M ?_;intro _ K;refine p1 K (jq rfl rfl) fun _ K => ?_;refine Qc 1 K M ?_
   first
    | (exfalso; omega)
    | (refine ⟨?_, M.qt⟩; rw [hinv]; congr 1; have hz : i = l.length := by omega
       rw [WI Qe, Zf]; omega)
    | (refine ⟨?_, M.qt⟩; rw [hinv]; congr 1; omega)
 refine Qc 4 K M ?_;intro _ K;refine JN K rfl (fun h16 => ?_) fun h16 => ?_
 · refine Qc 4 K M ?_;intro _ K;obtain ⟨⟨o23, a23, b23, g23, n23, l23⟩, hi23⟩ : ∃ k, l[i]? = some k := ⟨_, List.getElem?_eq_getElem Qe⟩;have hm23 := IH hi23;obtain ⟨_, hc23, hn23⟩ := hK.get hi23;have hp23 := hn23;obtain ⟨kc23, ls23, rfl, hK23⟩ := hp23.Yu;obtain ⟨x23, m23, f23, q23, _, la23, lo23, lp23⟩ := (hK.r (M.YN hR)).load (i := i) (cs := _) hc23;refine p1 K (Qa (j := i) J9 (congrArg some q23) rfl (by rw [hK.ln]; omega)) fun _ K => p1 K (Qd rfl (la23 _ Jq)) fun _ K => ?_;refine Qc 3 K M ?_;intro _ K;refine oQ K M (ih _ hm23 (most - m) R _ _ M.fresh (M.YN hR) hn23 Qe Qe) rfl rfl fun _ _ K M => ?_;refine Qc 5 K M ?_;intro _ K;have hst := Ga hi23;have hsp := Sj (.mk o23 a23 b23 g23 n23 l23);exact ⟨_, Qe, i + 1, (m + min ((XS (.mk o23 a23 b23 g23 n23 l23) : Nat) : Int) (most - m)), rfl, (K.sub rfl), M.less (.refl _), Qe, Qe, Qe, Qe⟩
 refine QU ?_;show W _ _ _ _ _ _ _;refine Qc 2 K M ?_;intro _ K;refine p1 K (jq rfl rfl) fun _ K => ?_;refine Qc 1 K M ?_
 first
  | (exfalso; omega)
  | (refine ⟨?_, M.qt⟩; rw [hinv]; congr 1; have hz : i = l.length := by omega
     rw [WI Qe, Zf]; omega)
  | (refine ⟨?_, M.qt⟩; rw [hinv]; congr 1; omega)

theorem MV(hf:Qj st)(hR:YN R st.h.get)(hr:Xc R (.mk o a b g n l) cs): ∃v st',Ev Tryz.prog Q0 77 [.agg cs] st v st'∧v=iZ (min ((XS (.mk o a b g n l):Nat):Int) 2001)∧Qt st st':=by
 have hr0:=hr;obtain⟨kc,ls,rfl,hK⟩:=hr.Yu;have hln:=hK.ln;have hbn:=hK.Ey;refine JB Tryz.func77 Tryz.ntmps77 fun T K=>?_;have M:=Mem.start hf;refine QC<|Qw ?_;refine J1 K M rfl (Qb rfl (Qb rfl (Qb rfl (Qb rfl (Qb rfl (Qb hK.cell Q6)))))) QD fun c1 _ _ K M=>?_;refine Qc 2 K M ?_;intro _ K;refine oQ K M (ya (.mk o a b g n l) 2001 R _ _ M.fresh (M.YN hR) hr0 QD QD) rfl rfl fun _ _ K M=>?_;refine Qc 1 K M ?_;exact⟨rfl,M.qt⟩

theorem Gj(hf:Qj st)(hR:YN R st.h.get)(hr:Xc R (.mk o a b g n l) cs): ∃v st',Ev Tryz.prog Q0 51 [.agg cs] st v st'∧v=iZ (min ((XS (.mk o a b g n l):Nat):Int) 2001)∧Qt st st':=by
 have hr0:=hr;obtain⟨kc,ls,rfl,hK⟩:=hr.Yu;have hln:=hK.ln;have hbn:=hK.Ey;refine JB Tryz.func51 Tryz.ntmps51 fun T K=>?_;have M:=Mem.start hf;refine QC<|Qw ?_;refine J1 K M rfl (Qb rfl (Qb rfl (Qb rfl (Qb rfl (Qb rfl (Qb hK.cell Q6)))))) QD fun c1 _ _ K M=>?_;refine Qc 2 K M ?_;intro _ K;refine oQ K M (TQ (.mk o a b g n l) 2001 R _ _ M.fresh (M.YN hR) hr0 QD QD) rfl rfl fun _ _ K M=>?_;refine Qc 1 K M ?_;exact⟨rfl,M.qt⟩

theorem zE(hf:Qj st)(o:List Nat): ∃v st',Ev Tryz.prog Q0 85 [.str o] st v st'∧v=.tup [.str (Uf o).1,iZ (Uf o).2.1,.bool (Uf o).2.2]∧Qt st st':=by
 refine JB Tryz.func85 Tryz.ntmps85 fun T K=>?_;have M:=Mem.start hf;refine au 4 K M ?_;intro c9 _ _ K _ M;replace M:Mem st.h.get st.n [] _ [(c9,0,[.str [116,114,117,101],.str [115,117,98],.str [115,105,110,103],.str [102,108,97,103],.str [110,111,110,101],.str [108,101,115,115],.str [112,108,117,115],.str [110,117,109],.str [117,110,105,111,110],.str [105,110,116,101,114],.str [109,105,110,117,115],.str [110,111,116],.str [97,110,100],.str [101,120]])]:=M;refine au 2 K M ?_;intro c10 _ _ K _ M;replace M:Mem st.h.get st.n [] _ [(c10,0,[.str [],.str [65,66],.str [65],.str [65],.str [65],.str [65,66],.str [65,66,78],.str [65,78],.str [65,66,67],.str [65,66,67],.str [65,66,67],.str [],.str [],.str [65]]),(c9,0,[.str [116,114,117,101],.str [115,117,98],.str [115,105,110,103],.str [102,108,97,103],.str [110,111,110,101],.str [108,101,115,115],.str [112,108,117,115],.str [110,117,109],.str [117,110,105,111,110],.str [105,110,116,101,114],.str [109,105,110,117,115],.str [110,111,116],.str [97,110,100],.str [101,120]])]:=M;refine au 4 K M ?_;intro c11 _ _ K _ M;refine Jc ?_;refine Qc 4 K M ?_;intro _ K;refine Qq (K.QH rfl) (fun h15=>?_) (fun h15=>?_)
 ·have hb15:=h15;replace h15:=of_decide_eq_true h15;refine Qc 2 K M ?_;intro _ K;refine p1 K (Qa QQ rfl rfl QD) fun _ K=>?_;refine Qc 3 K M ?_;intro _ K;refine Qq (K.QH rfl) (fun h23=>?_) (fun h23=>?_)
  ·have hb23:=h23;replace h23:=of_decide_eq_true h23;refine QC ?_;refine QF (l:=[(0,0),(1,0),(2,0),(3,0),(4,0),(5,0),(6,0),(7,0),(8,0),(9,0),(10,0)]) (by kernel_rfl) ?_;refine Jn 2 K M ?_;intro _ K;refine q1 rfl K (Qa QQ rfl rfl QD) fun _ K=>?_;refine Jn 3 K M ?_;intro _ K;refine q1 rfl K (Qa Qv rfl rfl QD) fun _ K=>?_;refine Jn 4 K M ?_;intro _ K;refine QI ?_;show W _ _ _ _ _ _ _;refine Ju ⟨.inr rfl,_,(Jt (Q8 K rfl) (Q8 K rfl) (Q8 K rfl)),?_⟩;refine⟨?_,M.qt⟩;unfold Uf
   first|(simp_all;done)|(simp_all;rfl)
  have hb23:=h23;replace h23:=of_decide_eq_false h23;refine Qc 3 K M ?_;intro _ K;refine Jc ?_;refine Qc 4 K M ?_;intro _ K;refine Qq (K.QH rfl) (fun h15=>?_) (fun h15=>?_)
  ·have hb15:=h15;replace h15:=of_decide_eq_true h15;refine Qc 2 K M ?_;intro _ K;refine p1 K (Qa QQ rfl rfl QD) fun _ K=>?_;refine Qc 3 K M ?_;intro _ K;refine Qq (K.QH rfl) (fun h23=>?_) (fun h23=>?_)
   ·have hb23:=h23;replace h23:=of_decide_eq_true h23;refine QC ?_;refine QF (l:=[(0,0),(1,0),(2,0),(3,0),(4,0),(5,0),(6,0),(7,0),(8,0),(9,0),(10,0)]) (by kernel_rfl) ?_;refine Jn 2 K M ?_;intro _ K;refine q1 rfl K (Qa QQ rfl rfl QD) fun _ K=>?_;refine Jn 3 K M ?_;intro _ K;refine q1 rfl K (Qa Qv rfl rfl QD) fun _ K=>?_;refine Jn 4 K M ?_;intro _ K;refine QI ?_;show W _ _ _ _ _ _ _;refine Ju ⟨.inr rfl,_,(Jt (Q8 K rfl) (Q8 K rfl) (Q8 K rfl)),?_⟩;refine⟨?_,M.qt⟩;unfold Uf
    first|(simp_all;done)|(simp_all;rfl)
   have hb23:=h23;replace h23:=of_decide_eq_false h23;refine Qc 3 K M ?_;intro _ K;refine Jc ?_;refine Qc 4 K M ?_;intro _ K;refine Qq (K.QH rfl) (fun h15=>?_) (fun h15=>?_)
   ·have hb15:=h15;replace h15:=of_decide_eq_true h15;refine Qc 2 K M ?_;intro _ K;refine p1 K (Qa QQ rfl rfl QD) fun _ K=>?_;refine Qc 3 K M ?_;intro _ K;refine Qq (K.QH rfl) (fun h23=>?_) (fun h23=>?_)
    ·have hb23:=h23;replace h23:=of_decide_eq_true h23;refine QC ?_;refine QF (l:=[(0,0),(1,0),(2,0),(3,0),(4,0),(5,0),(6,0),(7,0),(8,0),(9,0),(10,0)]) (by kernel_rfl) ?_;refine Jn 2 K M ?_;intro _ K;refine q1 rfl K (Qa QQ rfl rfl QD) fun _ K=>?_;refine Jn 3 K M ?_;intro _ K;refine q1 rfl K (Qa Qv rfl rfl QD) fun _ K=>?_;refine Jn 4 K M ?_;intro _ K;refine QI ?_;show W _ _ _ _ _ _ _;refine Ju ⟨.inr rfl,_,(Jt (Q8 K rfl) (Q8 K rfl) (Q8 K rfl)),?_⟩;refine⟨?_,M.qt⟩;unfold Uf
     first|(simp_all;done)|(simp_all;rfl)
    have hb23:=h23;replace h23:=of_decide_eq_false h23;refine Qc 3 K M ?_;intro _ K;refine Jc ?_;refine Qc 4 K M ?_;intro _ K;refine Qq (K.QH rfl) (fun h15=>?_) (fun h15=>?_)
    ·have hb15:=h15;replace h15:=of_decide_eq_true h15;refine Qc 2 K M ?_;intro _ K;refine p1 K (Qa QQ rfl rfl QD) fun _ K=>?_;refine Qc 3 K M ?_;intro _ K;refine Qq (K.QH rfl) (fun h23=>?_) (fun h23=>?_)
     ·have hb23:=h23;replace h23:=of_decide_eq_true h23;refine QC ?_;refine QF (l:=[(0,0),(1,0),(2,0),(3,0),(4,0),(5,0),(6,0),(7,0),(8,0),(9,0),(10,0)]) (by kernel_rfl) ?_;refine Jn 2 K M ?_;intro _ K;refine q1 rfl K (Qa QQ rfl rfl QD) fun _ K=>?_;refine Jn 3 K M ?_;intro _ K;refine q1 rfl K (Qa Qv rfl rfl QD) fun _ K=>?_;refine Jn 4 K M ?_;intro _ K;refine QI ?_;show W _ _ _ _ _ _ _;refine Ju ⟨.inr rfl,_,(Jt (Q8 K rfl) (Q8 K rfl) (Q8 K rfl)),?_⟩;refine⟨?_,M.qt⟩;unfold Uf
      first|(simp_all;done)|(simp_all;rfl)
     have hb23:=h23;replace h23:=of_decide_eq_false h23;refine Qc 3 K M ?_;intro _ K;refine Jc ?_;refine Qc 4 K M ?_;intro _ K;refine Qq (K.QH rfl) (fun h15=>?_) (fun h15=>?_)
     ·have hb15:=h15;replace h15:=of_decide_eq_true h15;refine Qc 2 K M ?_;intro _ K;refine p1 K (Qa QQ rfl rfl QD) fun _ K=>?_;refine Qc 3 K M ?_;intro _ K;refine Qq (K.QH rfl) (fun h23=>?_) (fun h23=>?_)
      ·have hb23:=h23;replace h23:=of_decide_eq_true h23;refine QC ?_;refine QF (l:=[(0,0),(1,0),(2,0),(3,0),(4,0),(5,0),(6,0),(7,0),(8,0),(9,0),(10,0)]) (by kernel_rfl) ?_;refine Jn 2 K M ?_;intro _ K;refine q1 rfl K (Qa QQ rfl rfl QD) fun _ K=>?_;refine Jn 3 K M ?_;intro _ K;refine q1 rfl K (Qa Qv rfl rfl QD) fun _ K=>?_;refine Jn 4 K M ?_;intro _ K;refine QI ?_;show W _ _ _ _ _ _ _;refine Ju ⟨.inr rfl,_,(Jt (Q8 K rfl) (Q8 K rfl) (Q8 K rfl)),?_⟩;refine⟨?_,M.qt⟩;unfold Uf
       first|(simp_all;done)|(simp_all;rfl)
      have hb23:=h23;replace h23:=of_decide_eq_false h23;refine Qc 3 K M ?_;intro _ K;refine Jc ?_;refine Qc 4 K M ?_;intro _ K;refine Qq (K.QH rfl) (fun h15=>?_) (fun h15=>?_)
      ·have hb15:=h15;replace h15:=of_decide_eq_true h15;refine Qc 2 K M ?_;intro _ K;refine p1 K (Qa QQ rfl rfl QD) fun _ K=>?_;refine Qc 3 K M ?_;intro _ K;refine Qq (K.QH rfl) (fun h23=>?_) (fun h23=>?_)
       ·have hb23:=h23;replace h23:=of_decide_eq_true h23;refine QC ?_;refine QF (l:=[(0,0),(1,0),(2,0),(3,0),(4,0),(5,0),(6,0),(7,0),(8,0),(9,0),(10,0)]) (by kernel_rfl) ?_;refine Jn 2 K M ?_;intro _ K;refine q1 rfl K (Qa QQ rfl rfl QD) fun _ K=>?_;refine Jn 3 K M ?_;intro _ K;refine q1 rfl K (Qa Qv rfl rfl QD) fun _ K=>?_;refine Jn 4 K M ?_;intro _ K;refine QI ?_;show W _ _ _ _ _ _ _;refine Ju ⟨.inr rfl,_,(Jt (Q8 K rfl) (Q8 K rfl) (Q8 K rfl)),?_⟩;refine⟨?_,M.qt⟩;unfold Uf
        first|(simp_all;done)|(simp_all;rfl)
       have hb23:=h23;replace h23:=of_decide_eq_false h23;refine Qc 3 K M ?_;intro _ K;refine Jc ?_;refine Qc 4 K M ?_;intro _ K;refine Qq (K.QH rfl) (fun h15=>?_) (fun h15=>?_)
       ·have hb15:=h15;replace h15:=of_decide_eq_true h15;refine Qc 2 K M ?_;intro _ K;refine p1 K (Qa QQ rfl rfl QD) fun _ K=>?_;refine Qc 3 K M ?_;intro _ K;refine Qq (K.QH rfl) (fun h23=>?_) (fun h23=>?_)
        ·have hb23:=h23;replace h23:=of_decide_eq_true h23;refine QC ?_;refine QF (l:=[(0,0),(1,0),(2,0),(3,0),(4,0),(5,0),(6,0),(7,0),(8,0),(9,0),(10,0)]) (by kernel_rfl) ?_;refine Jn 2 K M ?_;intro _ K;refine q1 rfl K (Qa QQ rfl rfl QD) fun _ K=>?_;refine Jn 3 K M ?_;intro _ K;refine q1 rfl K (Qa Qv rfl rfl QD) fun _ K=>?_;refine Jn 4 K M ?_;intro _ K;refine QI ?_;show W _ _ _ _ _ _ _;refine Ju ⟨.inr rfl,_,(Jt (Q8 K rfl) (Q8 K rfl) (Q8 K rfl)),?_⟩;refine⟨?_,M.qt⟩;unfold Uf
         first|(simp_all;done)|(simp_all;rfl)
        have hb23:=h23;replace h23:=of_decide_eq_false h23;refine Qc 3 K M ?_;intro _ K;refine Jc ?_;refine Qc 4 K M ?_;intro _ K;refine Qq (K.QH rfl) (fun h15=>?_) (fun h15=>?_)
        ·have hb15:=h15;replace h15:=of_decide_eq_true h15;refine Qc 2 K M ?_;intro _ K;refine p1 K (Qa QQ rfl rfl QD) fun _ K=>?_;refine Qc 3 K M ?_;intro _ K;refine Qq (K.QH rfl) (fun h23=>?_) (fun h23=>?_)
         ·have hb23:=h23;replace h23:=of_decide_eq_true h23;refine QC ?_;refine QF (l:=[(0,0),(1,0),(2,0),(3,0),(4,0),(5,0),(6,0),(7,0),(8,0),(9,0),(10,0)]) (by kernel_rfl) ?_;refine Jn 2 K M ?_;intro _ K;refine q1 rfl K (Qa QQ rfl rfl QD) fun _ K=>?_;refine Jn 3 K M ?_;intro _ K;refine q1 rfl K (Qa Qv rfl rfl QD) fun _ K=>?_;refine Jn 4 K M ?_;intro _ K;refine QI ?_;show W _ _ _ _ _ _ _;refine Ju ⟨.inr rfl,_,(Jt (Q8 K rfl) (Q8 K rfl) (Q8 K rfl)),?_⟩;refine⟨?_,M.qt⟩;unfold Uf
          first|(simp_all;done)|(simp_all;rfl)
         have hb23:=h23;replace h23:=of_decide_eq_false h23;refine Qc 3 K M ?_;intro _ K;refine Jc ?_;refine Qc 4 K M ?_;intro _ K;refine Qq (K.QH rfl) (fun h15=>?_) (fun h15=>?_)
         ·have hb15:=h15;replace h15:=of_decide_eq_true h15;refine Qc 2 K M ?_;intro _ K;refine p1 K (Qa QQ rfl rfl QD) fun _ K=>?_;refine Qc 3 K M ?_;intro _ K;refine Qq (K.QH rfl) (fun h23=>?_) (fun h23=>?_)
          ·have hb23:=h23;replace h23:=of_decide_eq_true h23;refine QC ?_;refine QF (l:=[(0,0),(1,0),(2,0),(3,0),(4,0),(5,0),(6,0),(7,0),(8,0),(9,0),(10,0)]) (by kernel_rfl) ?_;refine Jn 2 K M ?_;intro _ K;refine q1 rfl K (Qa QQ rfl rfl QD) fun _ K=>?_;refine Jn 3 K M ?_;intro _ K;refine q1 rfl K (Qa Qv rfl rfl QD) fun _ K=>?_;refine Jn 4 K M ?_;intro _ K;refine QI ?_;show W _ _ _ _ _ _ _;refine Ju ⟨.inr rfl,_,(Jt (Q8 K rfl) (Q8 K rfl) (Q8 K rfl)),?_⟩;refine⟨?_,M.qt⟩;unfold Uf
           first|(simp_all;done)|(simp_all;rfl)
          have hb23:=h23;replace h23:=of_decide_eq_false h23;refine Qc 3 K M ?_;intro _ K;refine Jc ?_;refine Qc 4 K M ?_;intro _ K;refine Qq (K.QH rfl) (fun h15=>?_) (fun h15=>?_)
          ·have hb15:=h15;replace h15:=of_decide_eq_true h15;refine Qc 2 K M ?_;intro _ K;refine p1 K (Qa QQ rfl rfl QD) fun _ K=>?_;refine Qc 3 K M ?_;intro _ K;refine Qq (K.QH rfl) (fun h23=>?_) (fun h23=>?_)
           ·have hb23:=h23;replace h23:=of_decide_eq_true h23;refine QC ?_;refine QF (l:=[(0,0),(1,0),(2,0),(3,0),(4,0),(5,0),(6,0),(7,0),(8,0),(9,0),(10,0)]) (by kernel_rfl) ?_;refine Jn 2 K M ?_;intro _ K;refine q1 rfl K (Qa QQ rfl rfl QD) fun _ K=>?_;refine Jn 3 K M ?_;intro _ K;refine q1 rfl K (Qa Qv rfl rfl QD) fun _ K=>?_;refine Jn 4 K M ?_;intro _ K;refine QI ?_;show W _ _ _ _ _ _ _;refine Ju ⟨.inr rfl,_,(Jt (Q8 K rfl) (Q8 K rfl) (Q8 K rfl)),?_⟩;refine⟨?_,M.qt⟩;unfold Uf
            first|(simp_all;done)|(simp_all;rfl)
           have hb23:=h23;replace h23:=of_decide_eq_false h23;refine Qc 3 K M ?_;intro _ K;refine Jc ?_;refine Qc 4 K M ?_;intro _ K;refine Qq (K.QH rfl) (fun h15=>?_) (fun h15=>?_)
           ·have hb15:=h15;replace h15:=of_decide_eq_true h15;refine Qc 2 K M ?_;intro _ K;refine p1 K (Qa QQ rfl rfl QD) fun _ K=>?_;refine Qc 3 K M ?_;intro _ K;refine Qq (K.QH rfl) (fun h23=>?_) (fun h23=>?_)
            ·have hb23:=h23;replace h23:=of_decide_eq_true h23;refine QC ?_;refine QF (l:=[(0,0),(1,0),(2,0),(3,0),(4,0),(5,0),(6,0),(7,0),(8,0),(9,0),(10,0)]) (by kernel_rfl) ?_;refine Jn 2 K M ?_;intro _ K;refine q1 rfl K (Qa QQ rfl rfl QD) fun _ K=>?_;refine Jn 3 K M ?_;intro _ K;refine q1 rfl K (Qa Qv rfl rfl QD) fun _ K=>?_;refine Jn 4 K M ?_;intro _ K;refine QI ?_;show W _ _ _ _ _ _ _;refine Ju ⟨.inr rfl,_,(Jt (Q8 K rfl) (Q8 K rfl) (Q8 K rfl)),?_⟩;refine⟨?_,M.qt⟩;unfold Uf
             first|(simp_all;done)|(simp_all;rfl)
            have hb23:=h23;replace h23:=of_decide_eq_false h23;refine Qc 3 K M ?_;intro _ K;refine Jc ?_;refine Qc 4 K M ?_;intro _ K;refine Qq (K.QH rfl) (fun h15=>?_) (fun h15=>?_)
            ·have hb15:=h15;replace h15:=of_decide_eq_true h15;refine Qc 2 K M ?_;intro _ K;refine p1 K (Qa QQ rfl rfl QD) fun _ K=>?_;refine Qc 3 K M ?_;intro _ K;refine Qq (K.QH rfl) (fun h23=>?_) (fun h23=>?_)
             ·have hb23:=h23;replace h23:=of_decide_eq_true h23;refine QC ?_;refine QF (l:=[(0,0),(1,0),(2,0),(3,0),(4,0),(5,0),(6,0),(7,0),(8,0),(9,0),(10,0)]) (by kernel_rfl) ?_;refine Jn 2 K M ?_;intro _ K;refine q1 rfl K (Qa QQ rfl rfl QD) fun _ K=>?_;refine Jn 3 K M ?_;intro _ K;refine q1 rfl K (Qa Qv rfl rfl QD) fun _ K=>?_;refine Jn 4 K M ?_;intro _ K;refine QI ?_;show W _ _ _ _ _ _ _;refine Ju ⟨.inr rfl,_,(Jt (Q8 K rfl) (Q8 K rfl) (Q8 K rfl)),?_⟩;refine⟨?_,M.qt⟩;unfold Uf
              first|(simp_all;done)|(simp_all;rfl)
             have hb23:=h23;replace h23:=of_decide_eq_false h23;refine Qc 3 K M ?_;intro _ K;refine Jc ?_;refine Qc 4 K M ?_;intro _ K;refine Qq (K.QH rfl) (fun h15=>?_) (fun h15=>?_)
             ·have hb15:=h15;replace h15:=of_decide_eq_true h15;refine Qc 2 K M ?_;intro _ K;refine p1 K (Qa QQ rfl rfl QD) fun _ K=>?_;refine Qc 3 K M ?_;intro _ K;refine Qq (K.QH rfl) (fun h23=>?_) (fun h23=>?_)
              ·have hb23:=h23;replace h23:=of_decide_eq_true h23;refine QC ?_;refine QF (l:=[(0,0),(1,0),(2,0),(3,0),(4,0),(5,0),(6,0),(7,0),(8,0),(9,0),(10,0)]) (by kernel_rfl) ?_;refine Jn 2 K M ?_;intro _ K;refine q1 rfl K (Qa QQ rfl rfl QD) fun _ K=>?_;refine Jn 3 K M ?_;intro _ K;refine q1 rfl K (Qa Qv rfl rfl QD) fun _ K=>?_;refine Jn 4 K M ?_;intro _ K;refine QI ?_;show W _ _ _ _ _ _ _;refine Ju ⟨.inr rfl,_,(Jt (Q8 K rfl) (Q8 K rfl) (Q8 K rfl)),?_⟩;refine⟨?_,M.qt⟩;unfold Uf
               first|(simp_all;done)|(simp_all;rfl)
              have hb23:=h23;replace h23:=of_decide_eq_false h23;refine Qc 3 K M ?_;intro _ K;refine Jc ?_;refine Qc 4 K M ?_;intro _ K;refine Qq (K.QH rfl) (fun h15=>?_) (fun h15=>?_)
              ·have hb15:=h15;replace h15:=of_decide_eq_true h15;refine Qc 2 K M ?_;intro _ K;refine p1 K (Qa QQ rfl rfl QD) fun _ K=>?_;refine Qc 3 K M ?_;intro _ K;refine Qq (K.QH rfl) (fun h23=>?_) (fun h23=>?_)
               ·have hb23:=h23;replace h23:=of_decide_eq_true h23;refine QC ?_;refine QF (l:=[(0,0),(1,0),(2,0),(3,0),(4,0),(5,0),(6,0),(7,0),(8,0),(9,0),(10,0)]) (by kernel_rfl) ?_;refine Jn 2 K M ?_;intro _ K;refine q1 rfl K (Qa QQ rfl rfl QD) fun _ K=>?_;refine Jn 3 K M ?_;intro _ K;refine q1 rfl K (Qa Qv rfl rfl QD) fun _ K=>?_;refine Jn 4 K M ?_;intro _ K;refine QI ?_;show W _ _ _ _ _ _ _;refine Ju ⟨.inr rfl,_,(Jt (Q8 K rfl) (Q8 K rfl) (Q8 K rfl)),?_⟩;refine⟨?_,M.qt⟩;unfold Uf
                first|(simp_all;done)|(simp_all;rfl)
               have hb23:=h23;replace h23:=of_decide_eq_false h23;refine Qc 3 K M ?_;intro _ K;refine Jc ?_;refine Qc 4 K M ?_;intro _ K;refine Qq (K.QH rfl) (fun h15=>?_) (fun h15=>?_)
               ·have hb15:=h15;replace h15:=of_decide_eq_true h15
                exfalso;omega
               have hb15:=h15;replace h15:=of_decide_eq_false h15;refine QU ?_;show W _ _ _ _ _ _ _;refine Qc 3 K M ?_;intro _ K;refine Ju ⟨.inr rfl,_,(Jt (Q8 K rfl) (Q8 K rfl) (Q8 K rfl)),?_⟩;refine⟨?_,M.qt⟩;unfold Uf
               first|(simp_all;done)|(simp_all;rfl)
              have hb15:=h15;replace h15:=of_decide_eq_false h15
              exfalso;omega
             have hb15:=h15;replace h15:=of_decide_eq_false h15
             exfalso;omega
            have hb15:=h15;replace h15:=of_decide_eq_false h15
            exfalso;omega
           have hb15:=h15;replace h15:=of_decide_eq_false h15
           exfalso;omega
          have hb15:=h15;replace h15:=of_decide_eq_false h15
          exfalso;omega
         have hb15:=h15;replace h15:=of_decide_eq_false h15
         exfalso;omega
        have hb15:=h15;replace h15:=of_decide_eq_false h15
        exfalso;omega
       have hb15:=h15;replace h15:=of_decide_eq_false h15
       exfalso;omega
      have hb15:=h15;replace h15:=of_decide_eq_false h15
      exfalso;omega
     have hb15:=h15;replace h15:=of_decide_eq_false h15
     exfalso;omega
    have hb15:=h15;replace h15:=of_decide_eq_false h15
    exfalso;omega
   have hb15:=h15;replace h15:=of_decide_eq_false h15
   exfalso;omega
  have hb15:=h15;replace h15:=of_decide_eq_false h15
  exfalso;omega
 have hb15:=h15;replace h15:=of_decide_eq_false h15
 exfalso;omega

theorem AG(hf:Qj st)(h:List Nat)(hl:h.length≤1000)(k:Nat)(u n:Int): ∃v st',Ev Tryz.prog Q0 86 [.str h,.int .u8 (((k:Nat):Int)),iZ u,iZ n] st v st'∧v=.bool (Ug h k u n)∧Qt st st':=by
 refine JB Tryz.func86 Tryz.ntmps86 fun T K=>?_;have M:=Mem.start hf;refine Qc 2 K M ?_;intro _ K;refine Jd (fun mm1 T st9=> ∃(i:Nat),mm1=h.length-i∧QX [(0,.str h),(1,.int .u8 (((k:Nat):Int))),(2,iZ u),(3,iZ n),(9,iN i)] T∧Mem st.h.get st.n [] st9 []∧i≤h.length∧(∀(j x:Nat),j<i→h[j]? =some x→ ¬x=k)) (fun mm1 T st9 hI=>?_) _ _ _ ⟨0,rfl,(K.sub rfl),M.less (.refl _),(Nat.zero_le _),(fun j x hj=>by omega)⟩;obtain⟨i,rfl,K,M,hi,hx⟩:=hI;refine Qc 2 K M ?_;intro _ K;refine p1 K (zQ Ws rfl rfl) fun _ K=>?_;refine Qc 1 K M ?_;intro _ K;refine JN K rfl (fun h13=>?_) fun h13=>?_
 ·refine Qc 2 K M ?_;intro _ K;obtain⟨y18,hy18⟩:=U1 h i Qe;refine p1 K (Me Ws rfl rfl hy18) fun _ K=>?_;refine Qc 2 K M ?_;intro _ K;refine JN K rfl (fun h20=>?_) fun h20=>?_
  ·refine Qc 2 K M ?_;intro _ K;refine Un K (Qg rfl) rfl (fun _ e23 K=>?_) fun _ e23 K=>?_
   ·refine Qc 5 K M ?_;refine⟨?_,M.qt⟩
    have hmem:k∈h:=by have:=List.mem_of_getElem? hy18;rwa [show y18=k by omega]at this
    rw[Ug,if_pos hmem]
    first|(simp_all [Qo];done)|(simp_all [Qo]<;>(intros;omega))
   refine Qc 5 K M ?_;refine⟨?_,M.qt⟩
   have hmem:k∈h:=by have:=List.mem_of_getElem? hy18;rwa [show y18=k by omega]at this
   rw[Ug,if_pos hmem]
   first|(simp_all [Qo];done)|(simp_all [Qo]<;>(intros;omega))
  refine Qc 3 K M ?_;intro _ K;exact⟨_,Qe,i+1,rfl,(K.sub rfl),M.less (.refl _),Qe,(fun j x hj hq=>by by_cases e:j=i;subst e;rw[hy18]at hq;injection hq with hq;omega;exact hx j x Qe hq)⟩
 refine QU ?_;show W _ _ _ _ _ _ _;refine Qc 3 K M ?_;refine⟨?_,M.qt⟩
 have hmem: ¬k∈h:=fun hm=>by obtain⟨j,hj⟩:=List.getElem?_of_mem hm;exact hx j k (by have:=(List.getElem?_eq_some_iff.1 hj).1;omega) hj rfl
 rw[Ug,if_neg hmem]

theorem YJ{c:Prop} [Decidable c]{a b:List Nat×Int×Bool}(ha:a.1.length≤1000)(hb:b.1.length≤1000):(if c then a else b).1.length≤1000:=by
 split<;>assumption
theorem HD(o:List Nat):(Uf o).1.length≤1000:=by
 unfold Uf;refine YJ QD ?_;refine YJ QD ?_;refine YJ QD ?_;refine YJ QD ?_;refine YJ QD ?_;refine YJ QD ?_;refine YJ QD ?_;refine YJ QD ?_;refine YJ QD ?_;refine YJ QD ?_;refine YJ QD ?_;refine YJ QD ?_;refine YJ QD ?_;refine YJ QD ?_;decide

theorem wX(x:Cr): ∀(m:Int) (R:E8) (st:St) (cs:List AV),Qj st→YN R st.h.get→Xc R x cs→ -100≤m→m≤100→ ∃v st',Ev Tryz.prog Q0 59 [.agg cs,iZ m] st v st'∧v=.bool (Je x m)∧Qt st st':=by
 refine IG (M:=fun x=> ∀(m:Int) (R:E8) (st:St) (cs:List AV),Qj st→YN R st.h.get→Xc R x cs→ -100≤m→m≤100→ ∃v st',Ev Tryz.prog Q0 59 [.agg cs,iZ m] st v st'∧v=.bool (Je x m)∧Qt st st') (fun o a b g n l ih=>?_) x;intro m R st cs hf hR hr hm1 hm2;have hr0:=hr;obtain⟨kc,ls,rfl,hK⟩:=hr.Yu;have hln:=hK.ln;have hbn:=hK.Ey;refine JB Tryz.func59 Tryz.ntmps59 fun T K=>?_;have M:=Mem.start hf;refine QC<|Qw ?_;refine J1 K M rfl (Qb rfl (Qb rfl (Qb rfl (Qb rfl (Qb rfl (Qb hK.cell Q6)))))) QD fun c2 _ _ K M=>?_;refine Qc 3 K M ?_;intro _ K;refine oQ K M (zE M.fresh o) rfl rfl fun _ _ K M=>?_;refine Qc 9 K M ?_;intro _ K;refine oB K (Qg rfl) rfl fun b18 _ e18 K=>?_;cases b18
 ·replace e18:((Uf o).2.2)=true:=by simpa using e18
  refine Qc 2 K M ?_;intro _ K;refine pg K rfl rfl (QA Uo rfl rfl hK.len) fun _ K=>?_;refine Qc 3 K M ?_;intro _ K;refine xc K (Qg rfl) rfl (fun _ e25 K=>?_) fun _ e25 K=>?_
  ·refine Qc 3 K M ?_;intro _ K;obtain⟨v29,st29,ev29,rfl,q29⟩:=AG M.fresh (Uf o).1 (HD o) 78 n 21;refine pg K rfl rfl (Qh rfl ev29) fun _ K=>?_;replace M:=M.quiet q29;refine Qc 2 K M ?_;intro _ K;refine Qq (K.QH rfl) (fun h31=>?_) (fun h31=>?_)
   ·have hb31:=h31
    replace h31:(Ug (Uf o).1 78 n 21)=false:=by simpa using h31
    refine Qc 1 K M ?_;refine⟨congrArg AV.bool ?_,M.qt⟩;clear M K ih hr hr0 hK hR hf;rw[Je]
    first|(simp[*];done)|(simp_all;done)|(simp_all;omega)
   have hb31:=h31
   replace h31:(Ug (Uf o).1 78 n 21)=true:=by simpa using h31
   refine Qc 2 K M ?_;intro _ K;refine p1 K (Jk (b:=[101,120]) rfl rfl) fun _ K=>Up ?_;show W _ _ _ _ _ _ _;refine JN K rfl (fun h34=>?_) fun h34=>?_
   ·refine QC ?_
    have hl1:l.length=1:=by rw[h34,show(Uf [101,120]).2.1=1 by decide]at e25;omega
    refine Qc 4 K M ?_;intro _ K;refine Un K (Qg rfl) rfl (fun _ e39 K=>?_) fun _ e39 K=>?_
    ·refine Qc 23 K M ?_;refine⟨congrArg AV.bool ?_,M.qt⟩;clear M K ih hr hr0 hK hR hf;rw[Je]
     first|(simp[*];done)|(simp_all;done)|(simp_all;omega)
    refine Qc 3 K M ?_;intro _ K;refine Un K (Qg rfl) rfl (fun _ e43 K=>?_) fun _ e43 K=>?_
    ·refine Qc 19 K M ?_;refine⟨congrArg AV.bool ?_,M.qt⟩;clear M K ih hr hr0 hK hR hf;rw[Je]
     first|(simp[*];done)|(simp_all;done)|(simp_all;omega)
    refine Qc 4 K M ?_;intro _ K;refine Un K (Qg rfl) rfl (fun _ e48 K=>?_) fun _ e48 K=>?_
    ·refine Qc 14 K M ?_;refine⟨congrArg AV.bool ?_,M.qt⟩;clear M K ih hr hr0 hK hR hf;rw[Je]
     first|(simp[*];done)|(simp_all;done)|(simp_all;omega)
    refine Qc 4 K M ?_;intro _ K;refine Un K (Qg rfl) rfl (fun _ e53 K=>?_) fun _ e53 K=>?_
    ·refine Qc 9 K M ?_;refine⟨congrArg AV.bool ?_,M.qt⟩;clear M K ih hr hr0 hK hR hf;rw[Je]
     first|(simp[*];done)|(simp_all;done)|(simp_all;omega)
    refine Qc 2 K M ?_;intro _ K;obtain⟨⟨o56,a56,b56,g56,n56,l56⟩,hi56⟩: ∃k,l[0]? =some k:=⟨_,List.getElem?_eq_getElem Qe⟩;have hm56:=IH hi56;obtain⟨_,hc56,hn56⟩:=hK.get hi56;have hp56:=hn56;obtain⟨kc56,ls56,rfl,hK56⟩:=hp56.Yu;obtain⟨x56,m56,f56,q56,_,la56,lo56,lp56⟩:=(hK.r (M.YN hR)).load (i:=0) (cs:=_) hc56;refine pg K rfl rfl (Qa (j:=0) J9 (congrArg some q56) rfl (by rw[hK.ln];omega)) fun _ K=>pg K rfl rfl (Qd rfl (la56 _ Jq)) fun _ K=>?_;refine Qc 2 K M ?_;intro _ K;obtain⟨v60,st60,ev60,rfl,q60⟩:=ih _ hm56 (m+1) R _ _ M.fresh (M.YN hR) hn56 Qe Qe;refine pg K rfl rfl (Qh rfl ev60) fun _ K=>?_;replace M:=M.quiet q60;refine Qc 2 K M ?_;have hcl:Xh l (m+1)=Je (.mk o56 a56 b56 g56 n56 l56) (m+1):=MP hl1 hi56;refine⟨congrArg AV.bool ?_,M.qt⟩;clear M K ih hr hr0 hK hR hf;rw[←hcl,Je];simp only[e18,decide_eq_true e25,h31,if_pos h34,decide_eq_true e39,decide_eq_true e43,decide_eq_true e48,decide_eq_true e53,Bool.true_and]
   refine Qc 4 K M ?_;intro _ K;refine oQ K M (AG M.fresh (Uf o).1 (HD o) 65 a m) rfl rfl fun _ _ K M=>?_;refine Qc 1 K M ?_;intro _ K;refine oB K (Qg rfl) rfl fun b68 _ e68 K=>?_;cases b68
   ·replace e68:(Ug (Uf o).1 65 a m)=true:=by simpa using e68
    refine Qc 4 K M ?_;intro _ K;obtain⟨v73,st73,ev73,rfl,q73⟩:=AG M.fresh (Uf o).1 (HD o) 66 b m;refine pg K rfl rfl (Qh rfl ev73) fun _ K=>?_;replace M:=M.quiet q73;refine Qc 2 K M ?_;intro _ K;refine oB K (Qg rfl) rfl fun b76 _ e76 K=>?_;cases b76
    ·replace e76:(Ug (Uf o).1 66 b m)=true:=by simpa using e76
     refine Qc 4 K M ?_;intro _ K;obtain⟨v81,st81,ev81,rfl,q81⟩:=AG M.fresh (Uf o).1 (HD o) 67 g m;refine pg K rfl rfl (Qh rfl ev81) fun _ K=>?_;replace M:=M.quiet q81;refine Qc 2 K M ?_;intro _ K;refine Qq (K.QH rfl) (fun h83=>?_) (fun h83=>?_)
     ·have hb83:=h83
      replace h83:(Ug (Uf o).1 67 g m)=false:=by simpa using h83
      refine Qc 1 K M ?_;refine⟨congrArg AV.bool ?_,M.qt⟩;clear M K ih hr hr0 hK hR hf;rw[Je]
      first|(simp[*];done)|(simp_all;done)|(simp_all;omega)
     have hb83:=h83
     replace h83:(Ug (Uf o).1 67 g m)=true:=by simpa using h83
     refine Qc 1 K M ?_;intro _ K;refine Jd (fun mm1 T st9=> ∃(i:Nat),mm1=l.length-i∧QX [(1,iZ m),(2,.ptr c2 0 0),(6,iZ ((Uf o).2.1)),(8,iN i)] T∧Mem st.h.get st.n [] st9 [(c2,0,[.str o,iZ a,iZ b,iZ g,iZ n,kc])]∧i≤l.length∧(∀(j:Nat) (k:Cr),j<i→l[j]? =some k→Je k m=true)) (fun mm1 T st9 hI=>?_) _ _ _ ⟨0,rfl,(K.sub rfl),M.less (.refl _),(Nat.zero_le _),(fun j k hj=>absurd hj (Nat.not_lt_zero j))⟩;obtain⟨i,rfl,K,M,hi,hall⟩:=hI;refine Qc 3 K M ?_;intro _ K;refine JN K rfl (fun h86=>?_) fun h86=>?_
     ·refine Qc 3 K M ?_;intro _ K;obtain⟨⟨o92,a92,b92,g92,n92,l92⟩,hi92⟩: ∃k,l[i]? =some k:=⟨_,List.getElem?_eq_getElem Qe⟩;have hm92:=IH hi92;obtain⟨_,hc92,hn92⟩:=hK.get hi92;have hp92:=hn92;obtain⟨kc92,ls92,rfl,hK92⟩:=hp92.Yu;obtain⟨x92,m92,f92,q92,_,la92,lo92,lp92⟩:=(hK.r (M.YN hR)).load (i:=i) (cs:=_) hc92;refine p1 K (Qa (j:=i) J9 (congrArg some q92) rfl (by rw[hK.ln];omega)) fun _ K=>p1 K (Qd rfl (la92 _ Jq)) fun _ K=>?_;refine Qc 1 K M ?_;intro _ K;refine oQ K M (ih _ hm92 m R _ _ M.fresh (M.YN hR) hn92 Qe Qe) rfl rfl fun _ _ K M=>?_;refine Qc 1 K M ?_;intro _ K;refine Qq (K.QH rfl) (fun h96=>?_) (fun h96=>?_)
      ·have hb96:=h96
       replace h96:(Je (.mk o92 a92 b92 g92 n92 l92) m)=false:=by simpa using h96
       refine Qc 1 K M ?_;have hcf:Xh l m=false:=DU hi92 h96;refine⟨congrArg AV.bool ?_,M.qt⟩;clear M K ih hr hr0 hK hR hf;rw[Je]
       first|(simp[*];done)|(simp_all;done)|(simp_all;omega)
      have hb96:=h96
      replace h96:(Je (.mk o92 a92 b92 g92 n92 l92) m)=true:=by simpa using h96
      refine Qc 3 K M ?_;intro _ K;exact⟨_,Qe,i+1,rfl,(K.sub rfl),M.less (.refl _),Qe,(fun j k hj hq=>by by_cases e:j=i;subst e;rw[hi92]at hq;injection hq with hq;subst hq;exact h96;exact hall j k Qe hq)⟩
     refine QU ?_;show W _ _ _ _ _ _ _;refine Qc 1 K M ?_;have hct:Xh l m=true:=RD fun j k hj=>hall j k (by have:=(List.getElem?_eq_some_iff.1 hj).1;omega) hj;refine⟨congrArg AV.bool ?_,M.qt⟩;clear M K ih hr hr0 hK hR hf;rw[Je]
     first|(simp[*];done)|(simp_all;done)|(simp_all;omega)
    replace e76:(Ug (Uf o).1 66 b m)=false:=by simpa using e76
    refine Qc 9 K M ?_;refine⟨congrArg AV.bool ?_,M.qt⟩;clear M K ih hr hr0 hK hR hf;rw[Je]
    first|(simp[*];done)|(simp_all;done)|(simp_all;omega)
   replace e68:(Ug (Uf o).1 65 a m)=false:=by simpa using e68
   refine Qc 17 K M ?_;refine⟨congrArg AV.bool ?_,M.qt⟩;clear M K ih hr hr0 hK hR hf;rw[Je]
   first|(simp[*];done)|(simp_all;done)|(simp_all;omega)
  refine Qc 8 K M ?_;refine⟨congrArg AV.bool ?_,M.qt⟩;clear M K ih hr hr0 hK hR hf;rw[Je]
  first|(simp[*];done)|(simp_all;done)|(simp_all;omega)
 replace e18:((Uf o).2.2)=false:=by simpa using e18
 refine Qc 15 K M ?_;refine⟨congrArg AV.bool ?_,M.qt⟩;clear M K ih hr hr0 hK hR hf;rw[Je]
 first|(simp[*];done)|(simp_all;done)|(simp_all;omega)

theorem Ss(hf:Qj st)(hR:YN R st.h.get)(hr:Xc R (.mk o a b g n l) cs)(m:Int): ∃v st',Ev Tryz.prog Q0 33 [.agg cs,iZ m] st v st'∧v=.bool (decide (0≤m)&&decide (m≤6)&&decide (XS (.mk o a b g n l)≤2000)&&Je (.mk o a b g n l) m)∧Qt st st':=by
 have hr0:=hr;obtain⟨kc,ls,rfl,hK⟩:=hr.Yu;have hln:=hK.ln;have hbn:=hK.Ey;refine JB Tryz.func33 Tryz.ntmps33 fun T K=>?_;have M:=Mem.start hf;refine QC<|Qw ?_;refine J1 K M rfl (Qb rfl (Qb rfl (Qb rfl (Qb rfl (Qb rfl (Qb hK.cell Q6)))))) QD fun c2 _ _ K M=>?_;refine Qc 3 K M ?_;intro _ K;refine Un K (Qg rfl) rfl (fun _ e7 K=>?_) fun _ e7 K=>?_
 ·refine Qc 14 K M ?_;refine⟨congrArg AV.bool ?_,M.qt⟩;clear M K hr hr0 hK hR hf
  first|(simp[*];done)|(simp[*];omega)|(simp_all;done)|(simp_all;omega)
 refine Qc 3 K M ?_;intro _ K;refine Un K (Qg rfl) rfl (fun _ e11 K=>?_) fun _ e11 K=>?_
 ·refine Qc 10 K M ?_;refine⟨congrArg AV.bool ?_,M.qt⟩;clear M K hr hr0 hK hR hf
  first|(simp[*];done)|(simp[*];omega)|(simp_all;done)|(simp_all;omega)
 refine Qc 1 K M ?_;intro _ K;obtain⟨v13,st13,ev13,rfl,q13⟩:=Gj M.fresh (M.YN hR) hr0;refine pg K rfl rfl (Qh rfl ev13) fun _ K=>?_;replace M:=M.quiet q13;refine Qc 2 K M ?_;intro _ K;refine Un K (Qg rfl) rfl (fun _ e16 K=>?_) fun _ e16 K=>?_
 ·refine Qc 5 K M ?_;refine⟨congrArg AV.bool ?_,M.qt⟩;clear M K hr hr0 hK hR hf
  first|(simp[*];done)|(simp[*];omega)|(simp_all;done)|(simp_all;omega)
 refine Qc 2 K M ?_;intro _ K;obtain⟨v19,st19,ev19,rfl,q19⟩:=wX (.mk o a b g n l) m R _ _ M.fresh (M.YN hR) hr0 Qe Qe;refine pg K rfl rfl (Qh rfl ev19) fun _ K=>?_;replace M:=M.quiet q19;refine Qc 2 K M ?_;refine⟨congrArg AV.bool ?_,M.qt⟩;clear M K hr hr0 hK hR hf
 first|(simp[*];done)|(simp[*];omega)|(simp_all;done)|(simp_all;omega)
end Go.Proofs.YtiknomepbklibaaGreatDoor
