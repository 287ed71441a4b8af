/-
  Core formulas: how great, may they be? the program's answer, the reference's.
-/
import Derived.Test.YtiknomepbklibaaGreatDoorQhMnm
namespace Go.Proofs.YtiknomepbklibaaGreatDoor
open Go Go.RowKit
set_option maxHeartbeats 8000000
set_option linter.unusedVariables false
set_option linter.unusedSimpArgs false
set_option linter.unnecessarySimpa false
set_option linter.unusedSectionVars false
set_option maxRecDepth 100000
variable {R:Ee} {a b g m n:Int} {cs:List AV} {l:List Cr} {o:List Nat} {st:St}

theorem Se(h: ∀(j:Nat) (k:Cr),l[j]? =some k→QX k m=true):Xp l m=true:=by
 induction l with
 |nil=>rfl
 |cons x l ih=>rw[Xp,h 0 x rfl,ih fun j k hj=>h (j+1) k hj];rfl
theorem Po{j:Nat}{k:Cr}(hj:l[j]? =some k)(h:QX k m=false):Xp l m=false:=by
 by_cases e:Xp l m=true
 ·rw[Ea e (VG hj)]at h;cases h
 ·simpa using e
theorem q7{k:Cr}(h:l.length=1)(hk:l[0]? =some k):Xp l m=QX k m:=by
 obtain⟨x,rfl⟩:=List.length_eq_one_iff.1 h
 injection hk with hk
 subst hk;rw[Xp,Xp,Bool.and_true]

theorem yL (x : Cr) : ∀ (most : Int) (R : Ee) (st : St) (cs : List AV), Qi st → Y8 R st.h.get → ZO R x cs → 1 ≤ most → most ≤ 1000000 → ∃ v st', Jh 103 [.agg cs, iZ most] st v st' ∧ v = iZ (min ((XZ x : Nat) : Int) most) ∧ Qt st st' := by
 refine E7 (M := fun x => ∀ (most : Int) (R : Ee) (st : St) (cs : List AV), Qi st → Y8 R st.h.get → ZO R x cs → 1 ≤ most → most ≤ 1000000 → ∃ v st', Jh 103 [.agg cs, iZ most] st v st' ∧ v = iZ (min ((XZ x : Nat) : Int) most) ∧ Qt st st') (fun o a b g n l ih => ?_) x;intro most R st cs hf hR hr h1 h2;have hr0 := hr;obtain ⟨kc, ls, rfl, hK⟩ := hr.U5;have hln := hK.ln;have hbn := hK.Wv;refine JA Tryz.func103 Tryz.ntmps103 fun T K => ?_;have M := Mem.start hf;refine Qb 0 K M fun _ K => ?_;refine Ju K M rfl (Qa rfl (Qa rfl (Qa rfl (Qa rfl (Qa rfl (Qa hK.cell Q4)))))) Q9 fun c2 _ _ K M => ?_;refine Qb 3 K M fun _ K => ?_;refine Jy K rfl (fun h9 => ?_) fun h9 => ?_
 · refine Qb 1 K M ?_
   first
    | (exfalso; omega)
    | (refine ⟨?_, M.qt⟩; rw [hinv]; congr 1; have hz : i = l.length := by omega
       rw [WZ Qc, Zf]; omega)
    | (refine ⟨?_, M.qt⟩; rw [hinv]; congr 1; omega)
 refine Qb 3 K M fun _ K => ?_;refine p1 K (Q5 JY rfl rfl hK.len) fun _ K => ?_;refine Qb 1 K M fun _ K => ?_;refine QY (fun mm1 T st9 => ∃ (i : Nat) (m : Int), mm1 = l.length - i ∧ QT [(1, iZ most), (4, iZ 0), (5, iZ m), (11, kc), (12, iZ (l.length : Nat)), (13, iN i)] T ∧ Mem st.h.get st.n [] st9 [(c2, 0, [.str o, iZ a, iZ b, iZ g, iZ n, kc])] ∧ i ≤ l.length ∧ 1 ≤ m ∧ m ≤ most ∧ min (((XZ (.mk o a b g n l)) : Nat) : Int) most = min (m + ((Zf (l.drop i) : Nat) : Int)) most) (fun mm1 T st9 hI => ?_) _ _ _ ⟨0, 1, rfl, (K.sub rfl), M.less (.refl _), (Nat.zero_le _), Qc, h1, (by rw [XZ, List.drop_zero]; omega)⟩;obtain ⟨i, m, rfl, K, M, hi, hm1, hm2, hinv⟩ := hI;refine Qb 1 K M fun _ K => ?_;refine Jy K rfl (fun h14 => ?_) fun h14 => ?_
 · refine Qb 0 K M fun _ K => ?_;obtain ⟨⟨o15, a15, b15, g15, n15, l15⟩, hi15⟩ : ∃ k, l[i]? = some k := ⟨_, List.getElem?_eq_getElem Qc⟩;have hm15 := VG hi15;obtain ⟨_, hc15, hn15⟩ := hK.get hi15;have hp15 := hn15;obtain ⟨kc15, ls15, rfl, hK15⟩ := hp15.U5;refine Ts (hK.r (M.Y8 hR)) hc15 K Jn Jg rfl rfl fun _ _ _ _ K => ?_;refine au 1 K M ?_;intro c7 _ _ K _ M;refine QW (k := 0) K M rfl rfl rfl ZJ rfl (Qa rfl (Qa rfl (Qa rfl (Qa rfl (Qa rfl (Qa hK15.cell Q4)))))) rfl fun _ M => ?_;refine Qb 3 K M fun _ K => ?_;refine Jy K rfl (fun h19 => ?_) fun h19 => ?_
   · refine QM ?_;show W _ _ _ _ _ _ _;refine Qb 2 K M ?_
     first
      | (exfalso; omega)
      | (refine ⟨?_, M.qt⟩; rw [hinv]; congr 1; have hz : i = l.length := by omega
         rw [WZ Qc, Zf]; omega)
      | (refine ⟨?_, M.qt⟩; rw [hinv]; congr 1; omega)
   refine Qb 5 K M fun _ K => ?_;refine oQ K M (ih _ hm15 (most - m) R _ _ M.fresh (M.Y8 hR) hn15 Qc Qc) rfl rfl fun _ _ K M => ?_;refine Qb 4 K M fun _ K => ?_;have hst := Gq hi15;have hsp := SJ (.mk o15 a15 b15 g15 n15 l15);exact ⟨_, Qc, i + 1, (m + min ((XZ (.mk o15 a15 b15 g15 n15 l15) : Nat) : Int) (most - m)), rfl, (K.sub rfl), M.less (.cons _ (.refl _)), Qc, Qc, Qc, Qc⟩
 refine QM ?_;show W _ _ _ _ _ _ _;refine Qb 2 K M ?_
 first
  | (exfalso; omega)
  | (refine ⟨?_, M.qt⟩; rw [hinv]; congr 1; have hz : i = l.length := by omega
     rw [WZ Qc, Zf]; omega)
  | (refine ⟨?_, M.qt⟩; rw [hinv]; congr 1; omega)

theorem My (x : Cr) : ∀ (most : Int) (R : Ee) (st : St) (cs : List AV), Qi st → Y8 R st.h.get → ZO R x cs → 1 ≤ most → most ≤ 1000000 → ∃ v st', Jh 75 [.agg cs, iZ most] st v st' ∧ v = iZ (min ((XZ x : Nat) : Int) most) ∧ Qt st st' := by
 refine E7 (M := fun x => ∀ (most : Int) (R : Ee) (st : St) (cs : List AV), Qi st → Y8 R st.h.get → ZO R x cs → 1 ≤ most → most ≤ 1000000 → ∃ v st', Jh 75 [.agg cs, iZ most] st v st' ∧ v = iZ (min ((XZ x : Nat) : Int) most) ∧ Qt st st') (fun o a b g n l ih => ?_) x;intro most R st cs hf hR hr h1 h2;have hr0 := hr;obtain ⟨kc, ls, rfl, hK⟩ := hr.U5;have hln := hK.ln;have hbn := hK.Wv;refine JA Tryz.func75 Tryz.ntmps75 fun T K => ?_;have M := Mem.start hf;refine Qb 0 K M fun _ K => ?_;refine Ju K M rfl (Qa rfl (Qa rfl (Qa rfl (Qa rfl (Qa rfl (Qa hK.cell Q4)))))) Q9 fun c2 _ _ K M => ?_;refine Qb 3 K M fun _ K => ?_;refine QY (fun mm1 T st9 => ∃ (i : Nat) (m : Int), mm1 = l.length - i ∧ QT [(1, iZ most), (2, .ptr c2 0 0), (4, iZ 0), (5, iZ m), (6, iN i)] T ∧ Mem st.h.get st.n [] st9 [(c2, 0, [.str o, iZ a, iZ b, iZ g, iZ n, kc])] ∧ i ≤ l.length ∧ 1 ≤ m ∧ m ≤ most ∧ min (((XZ (.mk o a b g n l)) : Nat) : Int) most = min (m + ((Zf (l.drop i) : Nat) : Int)) most) (fun mm1 T st9 hI => ?_) _ _ _ ⟨0, 1, rfl, (K.sub rfl), M.less (.refl _), (Nat.zero_le _), Qc, h1, (by rw [XZ, List.drop_zero]; omega)⟩;obtain ⟨i, m, rfl, K, M, hi, hm1, hm2, hinv⟩ := hI;refine Qb 3 K M fun _ K => ?_;refine p1 K (Q5 JY rfl rfl hK.len) fun _ K => ?_;refine Qb 1 K M fun _ K => ?_;refine Uj K rfl (fun _ e12 K => ?_) fun _ e12 K => ?_
 · refine Qb 5 K M fun _ K => ?_;refine QM ?_;show W _ _ _ _ _ _ _;refine Qb 2 K M fun _ K => ?_;refine p1 K (ub rfl rfl) fun _ K => ?_;refine Qb 1 K M ?_
   first
    | (exfalso; omega)
    | (refine ⟨?_, M.qt⟩; rw [hinv]; congr 1; have hz : i = l.length := by omega
       rw [WZ Qc, Zf]; omega)
    | (refine ⟨?_, M.qt⟩; rw [hinv]; congr 1; omega)
 refine Qb 4 K M fun _ K => ?_;refine Jy K rfl (fun h16 => ?_) fun h16 => ?_
 · refine Qb 4 K M fun _ K => ?_;obtain ⟨⟨o23, a23, b23, g23, n23, l23⟩, hi23⟩ : ∃ k, l[i]? = some k := ⟨_, List.getElem?_eq_getElem Qc⟩;have hm23 := VG hi23;obtain ⟨_, hc23, hn23⟩ := hK.get hi23;have hp23 := hn23;obtain ⟨kc23, ls23, rfl, hK23⟩ := hp23.U5;refine Ts (hK.r (M.Y8 hR)) hc23 K Jn Jg rfl rfl fun _ _ _ _ K => ?_;refine Qb 3 K M fun _ K => ?_;refine oQ K M (ih _ hm23 (most - m) R _ _ M.fresh (M.Y8 hR) hn23 Qc Qc) rfl rfl fun _ _ K M => ?_;refine Qb 5 K M fun _ K => ?_;have hst := Gq hi23;have hsp := SJ (.mk o23 a23 b23 g23 n23 l23);exact ⟨_, Qc, i + 1, (m + min ((XZ (.mk o23 a23 b23 g23 n23 l23) : Nat) : Int) (most - m)), rfl, (K.sub rfl), M.less (.refl _), Qc, Qc, Qc, Qc⟩
 refine QM ?_;show W _ _ _ _ _ _ _;refine Qb 2 K M fun _ K => ?_;refine p1 K (ub rfl rfl) fun _ K => ?_;refine Qb 1 K M ?_
 first
  | (exfalso; omega)
  | (refine ⟨?_, M.qt⟩; rw [hinv]; congr 1; have hz : i = l.length := by omega
     rw [WZ Qc, Zf]; omega)
  | (refine ⟨?_, M.qt⟩; rw [hinv]; congr 1; omega)

theorem qF(hf:Qi st)(hR:Y8 R st.h.get)(hr:ZO R (.mk o a b g n l) cs): ∃v st',Jh 77 [.agg cs] st v st'∧v=iZ (min ((XZ (.mk o a b g n l):Nat):Int) 2001)∧Qt st st':=by
 have hr0:=hr;obtain⟨kc,ls,rfl,hK⟩:=hr.U5;have hln:=hK.ln;have hbn:=hK.Wv;refine JA Tryz.func77 Tryz.ntmps77 fun T K=>?_;have M:=Mem.start hf;refine Qb 0 K M fun _ K=>?_;refine Ju K M rfl (Qa rfl (Qa rfl (Qa rfl (Qa rfl (Qa rfl (Qa hK.cell Q4)))))) Q9 fun c1 _ _ K M=>?_;refine Qb 2 K M fun _ K=>?_;refine oQ K M (yL (.mk o a b g n l) 2001 R _ _ M.fresh (M.Y8 hR) hr0 Q9 Q9) rfl rfl fun _ _ K M=>?_;refine Qb 1 K M ?_;exact⟨rfl,M.qt⟩

theorem Gz(hf:Qi st)(hR:Y8 R st.h.get)(hr:ZO R (.mk o a b g n l) cs): ∃v st',Jh 51 [.agg cs] st v st'∧v=iZ (min ((XZ (.mk o a b g n l):Nat):Int) 2001)∧Qt st st':=by
 have hr0:=hr;obtain⟨kc,ls,rfl,hK⟩:=hr.U5;have hln:=hK.ln;have hbn:=hK.Wv;refine JA Tryz.func51 Tryz.ntmps51 fun T K=>?_;have M:=Mem.start hf;refine Qb 0 K M fun _ K=>?_;refine Ju K M rfl (Qa rfl (Qa rfl (Qa rfl (Qa rfl (Qa rfl (Qa hK.cell Q4)))))) Q9 fun c1 _ _ K M=>?_;refine Qb 2 K M fun _ K=>?_;refine oQ K M (My (.mk o a b g n l) 2001 R _ _ M.fresh (M.Y8 hR) hr0 Q9 Q9) rfl rfl fun _ _ K M=>?_;refine Qb 1 K M ?_;exact⟨rfl,M.qt⟩

theorem x7(hf:Qi st)(o:List Nat): ∃v st',Jh 85 [.str o] st v st'∧v=.tup [.str (Ui o).1,iZ (Ui o).2.1,.bool (Ui o).2.2]∧Qt st st':=by
 refine JA Tryz.func85 Tryz.ntmps85 fun T K=>?_;have M:=Mem.start hf;refine au 4 K M ?_;intro c9 _ _ K _ M;replace M:Mem st.h.get st.n [] _ [(c9,0,[.str [116,114,117,101],.str [115,117,98],.str [115,105,110,103],.str [102,108,97,103],.str [110,111,110,101],.str [108,101,115,115],.str [112,108,117,115],.str [110,117,109],.str [117,110,105,111,110],.str [105,110,116,101,114],.str [109,105,110,117,115],.str [110,111,116],.str [97,110,100],.str [101,120]])]:=M;refine au 2 K M ?_;intro c10 _ _ K _ M;replace M:Mem st.h.get st.n [] _ [(c10,0,[.str [],.str [65,66],.str [65],.str [65],.str [65],.str [65,66],.str [65,66,78],.str [65,78],.str [65,66,67],.str [65,66,67],.str [65,66,67],.str [],.str [],.str [65]]),(c9,0,[.str [116,114,117,101],.str [115,117,98],.str [115,105,110,103],.str [102,108,97,103],.str [110,111,110,101],.str [108,101,115,115],.str [112,108,117,115],.str [110,117,109],.str [117,110,105,111,110],.str [105,110,116,101,114],.str [109,105,110,117,115],.str [110,111,116],.str [97,110,100],.str [101,120]])]:=M;refine au 4 K M ?_;intro c11 _ _ K _ M;refine Je ?_;refine Qb 4 K M fun _ K=>?_;refine Qp (K.QG rfl) (fun h15=>?_) (fun h15=>?_)
 ·have hb15:=h15;replace h15:=of_decide_eq_true h15;refine Qb 2 K M fun _ K=>?_;refine p1 K (Qe QP rfl rfl Q9) fun _ K=>?_;refine Qb 3 K M fun _ K=>?_;refine Qp (K.QG rfl) (fun h23=>?_) (fun h23=>?_)
  ·have hb23:=h23;replace h23:=of_decide_eq_true h23;refine Jz ?_;refine QC (l:=[(0,0),(1,0),(2,0),(3,0),(4,0),(5,0),(6,0),(7,0),(8,0),(9,0),(10,0)]) (by kernel_rfl) ?_;refine Jo 2 K M fun _ K=>?_;refine q1 rfl K (Qe QP rfl rfl Q9) fun _ K=>?_;refine Jo 3 K M fun _ K=>?_;refine q1 rfl K (Qe Qo rfl rfl Q9) fun _ K=>?_;refine Jo 4 K M fun _ K=>?_;refine QF ?_;show W _ _ _ _ _ _ _;refine Jw ⟨.inr rfl,_,(Jv (Q6 K rfl) (Q6 K rfl) (Q6 K rfl)),?_⟩;refine⟨?_,M.qt⟩;unfold Ui
   first|(simp_all;done)|(simp_all;rfl)
  have hb23:=h23;replace h23:=of_decide_eq_false h23;refine Qb 3 K M fun _ K=>?_;refine Je ?_;refine Qb 4 K M fun _ K=>?_;refine Qp (K.QG rfl) (fun h15=>?_) (fun h15=>?_)
  ·have hb15:=h15;replace h15:=of_decide_eq_true h15;refine Qb 2 K M fun _ K=>?_;refine p1 K (Qe QP rfl rfl Q9) fun _ K=>?_;refine Qb 3 K M fun _ K=>?_;refine Qp (K.QG rfl) (fun h23=>?_) (fun h23=>?_)
   ·have hb23:=h23;replace h23:=of_decide_eq_true h23;refine Jz ?_;refine QC (l:=[(0,0),(1,0),(2,0),(3,0),(4,0),(5,0),(6,0),(7,0),(8,0),(9,0),(10,0)]) (by kernel_rfl) ?_;refine Jo 2 K M fun _ K=>?_;refine q1 rfl K (Qe QP rfl rfl Q9) fun _ K=>?_;refine Jo 3 K M fun _ K=>?_;refine q1 rfl K (Qe Qo rfl rfl Q9) fun _ K=>?_;refine Jo 4 K M fun _ K=>?_;refine QF ?_;show W _ _ _ _ _ _ _;refine Jw ⟨.inr rfl,_,(Jv (Q6 K rfl) (Q6 K rfl) (Q6 K rfl)),?_⟩;refine⟨?_,M.qt⟩;unfold Ui
    first|(simp_all;done)|(simp_all;rfl)
   have hb23:=h23;replace h23:=of_decide_eq_false h23;refine Qb 3 K M fun _ K=>?_;refine Je ?_;refine Qb 4 K M fun _ K=>?_;refine Qp (K.QG rfl) (fun h15=>?_) (fun h15=>?_)
   ·have hb15:=h15;replace h15:=of_decide_eq_true h15;refine Qb 2 K M fun _ K=>?_;refine p1 K (Qe QP rfl rfl Q9) fun _ K=>?_;refine Qb 3 K M fun _ K=>?_;refine Qp (K.QG rfl) (fun h23=>?_) (fun h23=>?_)
    ·have hb23:=h23;replace h23:=of_decide_eq_true h23;refine Jz ?_;refine QC (l:=[(0,0),(1,0),(2,0),(3,0),(4,0),(5,0),(6,0),(7,0),(8,0),(9,0),(10,0)]) (by kernel_rfl) ?_;refine Jo 2 K M fun _ K=>?_;refine q1 rfl K (Qe QP rfl rfl Q9) fun _ K=>?_;refine Jo 3 K M fun _ K=>?_;refine q1 rfl K (Qe Qo rfl rfl Q9) fun _ K=>?_;refine Jo 4 K M fun _ K=>?_;refine QF ?_;show W _ _ _ _ _ _ _;refine Jw ⟨.inr rfl,_,(Jv (Q6 K rfl) (Q6 K rfl) (Q6 K rfl)),?_⟩;refine⟨?_,M.qt⟩;unfold Ui
     first|(simp_all;done)|(simp_all;rfl)
    have hb23:=h23;replace h23:=of_decide_eq_false h23;refine Qb 3 K M fun _ K=>?_;refine Je ?_;refine Qb 4 K M fun _ K=>?_;refine Qp (K.QG rfl) (fun h15=>?_) (fun h15=>?_)
    ·have hb15:=h15;replace h15:=of_decide_eq_true h15;refine Qb 2 K M fun _ K=>?_;refine p1 K (Qe QP rfl rfl Q9) fun _ K=>?_;refine Qb 3 K M fun _ K=>?_;refine Qp (K.QG rfl) (fun h23=>?_) (fun h23=>?_)
     ·have hb23:=h23;replace h23:=of_decide_eq_true h23;refine Jz ?_;refine QC (l:=[(0,0),(1,0),(2,0),(3,0),(4,0),(5,0),(6,0),(7,0),(8,0),(9,0),(10,0)]) (by kernel_rfl) ?_;refine Jo 2 K M fun _ K=>?_;refine q1 rfl K (Qe QP rfl rfl Q9) fun _ K=>?_;refine Jo 3 K M fun _ K=>?_;refine q1 rfl K (Qe Qo rfl rfl Q9) fun _ K=>?_;refine Jo 4 K M fun _ K=>?_;refine QF ?_;show W _ _ _ _ _ _ _;refine Jw ⟨.inr rfl,_,(Jv (Q6 K rfl) (Q6 K rfl) (Q6 K rfl)),?_⟩;refine⟨?_,M.qt⟩;unfold Ui
      first|(simp_all;done)|(simp_all;rfl)
     have hb23:=h23;replace h23:=of_decide_eq_false h23;refine Qb 3 K M fun _ K=>?_;refine Je ?_;refine Qb 4 K M fun _ K=>?_;refine Qp (K.QG rfl) (fun h15=>?_) (fun h15=>?_)
     ·have hb15:=h15;replace h15:=of_decide_eq_true h15;refine Qb 2 K M fun _ K=>?_;refine p1 K (Qe QP rfl rfl Q9) fun _ K=>?_;refine Qb 3 K M fun _ K=>?_;refine Qp (K.QG rfl) (fun h23=>?_) (fun h23=>?_)
      ·have hb23:=h23;replace h23:=of_decide_eq_true h23;refine Jz ?_;refine QC (l:=[(0,0),(1,0),(2,0),(3,0),(4,0),(5,0),(6,0),(7,0),(8,0),(9,0),(10,0)]) (by kernel_rfl) ?_;refine Jo 2 K M fun _ K=>?_;refine q1 rfl K (Qe QP rfl rfl Q9) fun _ K=>?_;refine Jo 3 K M fun _ K=>?_;refine q1 rfl K (Qe Qo rfl rfl Q9) fun _ K=>?_;refine Jo 4 K M fun _ K=>?_;refine QF ?_;show W _ _ _ _ _ _ _;refine Jw ⟨.inr rfl,_,(Jv (Q6 K rfl) (Q6 K rfl) (Q6 K rfl)),?_⟩;refine⟨?_,M.qt⟩;unfold Ui
       first|(simp_all;done)|(simp_all;rfl)
      have hb23:=h23;replace h23:=of_decide_eq_false h23;refine Qb 3 K M fun _ K=>?_;refine Je ?_;refine Qb 4 K M fun _ K=>?_;refine Qp (K.QG rfl) (fun h15=>?_) (fun h15=>?_)
      ·have hb15:=h15;replace h15:=of_decide_eq_true h15;refine Qb 2 K M fun _ K=>?_;refine p1 K (Qe QP rfl rfl Q9) fun _ K=>?_;refine Qb 3 K M fun _ K=>?_;refine Qp (K.QG rfl) (fun h23=>?_) (fun h23=>?_)
       ·have hb23:=h23;replace h23:=of_decide_eq_true h23;refine Jz ?_;refine QC (l:=[(0,0),(1,0),(2,0),(3,0),(4,0),(5,0),(6,0),(7,0),(8,0),(9,0),(10,0)]) (by kernel_rfl) ?_;refine Jo 2 K M fun _ K=>?_;refine q1 rfl K (Qe QP rfl rfl Q9) fun _ K=>?_;refine Jo 3 K M fun _ K=>?_;refine q1 rfl K (Qe Qo rfl rfl Q9) fun _ K=>?_;refine Jo 4 K M fun _ K=>?_;refine QF ?_;show W _ _ _ _ _ _ _;refine Jw ⟨.inr rfl,_,(Jv (Q6 K rfl) (Q6 K rfl) (Q6 K rfl)),?_⟩;refine⟨?_,M.qt⟩;unfold Ui
        first|(simp_all;done)|(simp_all;rfl)
       have hb23:=h23;replace h23:=of_decide_eq_false h23;refine Qb 3 K M fun _ K=>?_;refine Je ?_;refine Qb 4 K M fun _ K=>?_;refine Qp (K.QG rfl) (fun h15=>?_) (fun h15=>?_)
       ·have hb15:=h15;replace h15:=of_decide_eq_true h15;refine Qb 2 K M fun _ K=>?_;refine p1 K (Qe QP rfl rfl Q9) fun _ K=>?_;refine Qb 3 K M fun _ K=>?_;refine Qp (K.QG rfl) (fun h23=>?_) (fun h23=>?_)
        ·have hb23:=h23;replace h23:=of_decide_eq_true h23;refine Jz ?_;refine QC (l:=[(0,0),(1,0),(2,0),(3,0),(4,0),(5,0),(6,0),(7,0),(8,0),(9,0),(10,0)]) (by kernel_rfl) ?_;refine Jo 2 K M fun _ K=>?_;refine q1 rfl K (Qe QP rfl rfl Q9) fun _ K=>?_;refine Jo 3 K M fun _ K=>?_;refine q1 rfl K (Qe Qo rfl rfl Q9) fun _ K=>?_;refine Jo 4 K M fun _ K=>?_;refine QF ?_;show W _ _ _ _ _ _ _;refine Jw ⟨.inr rfl,_,(Jv (Q6 K rfl) (Q6 K rfl) (Q6 K rfl)),?_⟩;refine⟨?_,M.qt⟩;unfold Ui
         first|(simp_all;done)|(simp_all;rfl)
        have hb23:=h23;replace h23:=of_decide_eq_false h23;refine Qb 3 K M fun _ K=>?_;refine Je ?_;refine Qb 4 K M fun _ K=>?_;refine Qp (K.QG rfl) (fun h15=>?_) (fun h15=>?_)
        ·have hb15:=h15;replace h15:=of_decide_eq_true h15;refine Qb 2 K M fun _ K=>?_;refine p1 K (Qe QP rfl rfl Q9) fun _ K=>?_;refine Qb 3 K M fun _ K=>?_;refine Qp (K.QG rfl) (fun h23=>?_) (fun h23=>?_)
         ·have hb23:=h23;replace h23:=of_decide_eq_true h23;refine Jz ?_;refine QC (l:=[(0,0),(1,0),(2,0),(3,0),(4,0),(5,0),(6,0),(7,0),(8,0),(9,0),(10,0)]) (by kernel_rfl) ?_;refine Jo 2 K M fun _ K=>?_;refine q1 rfl K (Qe QP rfl rfl Q9) fun _ K=>?_;refine Jo 3 K M fun _ K=>?_;refine q1 rfl K (Qe Qo rfl rfl Q9) fun _ K=>?_;refine Jo 4 K M fun _ K=>?_;refine QF ?_;show W _ _ _ _ _ _ _;refine Jw ⟨.inr rfl,_,(Jv (Q6 K rfl) (Q6 K rfl) (Q6 K rfl)),?_⟩;refine⟨?_,M.qt⟩;unfold Ui
          first|(simp_all;done)|(simp_all;rfl)
         have hb23:=h23;replace h23:=of_decide_eq_false h23;refine Qb 3 K M fun _ K=>?_;refine Je ?_;refine Qb 4 K M fun _ K=>?_;refine Qp (K.QG rfl) (fun h15=>?_) (fun h15=>?_)
         ·have hb15:=h15;replace h15:=of_decide_eq_true h15;refine Qb 2 K M fun _ K=>?_;refine p1 K (Qe QP rfl rfl Q9) fun _ K=>?_;refine Qb 3 K M fun _ K=>?_;refine Qp (K.QG rfl) (fun h23=>?_) (fun h23=>?_)
          ·have hb23:=h23;replace h23:=of_decide_eq_true h23;refine Jz ?_;refine QC (l:=[(0,0),(1,0),(2,0),(3,0),(4,0),(5,0),(6,0),(7,0),(8,0),(9,0),(10,0)]) (by kernel_rfl) ?_;refine Jo 2 K M fun _ K=>?_;refine q1 rfl K (Qe QP rfl rfl Q9) fun _ K=>?_;refine Jo 3 K M fun _ K=>?_;refine q1 rfl K (Qe Qo rfl rfl Q9) fun _ K=>?_;refine Jo 4 K M fun _ K=>?_;refine QF ?_;show W _ _ _ _ _ _ _;refine Jw ⟨.inr rfl,_,(Jv (Q6 K rfl) (Q6 K rfl) (Q6 K rfl)),?_⟩;refine⟨?_,M.qt⟩;unfold Ui
           first|(simp_all;done)|(simp_all;rfl)
          have hb23:=h23;replace h23:=of_decide_eq_false h23;refine Qb 3 K M fun _ K=>?_;refine Je ?_;refine Qb 4 K M fun _ K=>?_;refine Qp (K.QG rfl) (fun h15=>?_) (fun h15=>?_)
          ·have hb15:=h15;replace h15:=of_decide_eq_true h15;refine Qb 2 K M fun _ K=>?_;refine p1 K (Qe QP rfl rfl Q9) fun _ K=>?_;refine Qb 3 K M fun _ K=>?_;refine Qp (K.QG rfl) (fun h23=>?_) (fun h23=>?_)
           ·have hb23:=h23;replace h23:=of_decide_eq_true h23;refine Jz ?_;refine QC (l:=[(0,0),(1,0),(2,0),(3,0),(4,0),(5,0),(6,0),(7,0),(8,0),(9,0),(10,0)]) (by kernel_rfl) ?_;refine Jo 2 K M fun _ K=>?_;refine q1 rfl K (Qe QP rfl rfl Q9) fun _ K=>?_;refine Jo 3 K M fun _ K=>?_;refine q1 rfl K (Qe Qo rfl rfl Q9) fun _ K=>?_;refine Jo 4 K M fun _ K=>?_;refine QF ?_;show W _ _ _ _ _ _ _;refine Jw ⟨.inr rfl,_,(Jv (Q6 K rfl) (Q6 K rfl) (Q6 K rfl)),?_⟩;refine⟨?_,M.qt⟩;unfold Ui
            first|(simp_all;done)|(simp_all;rfl)
           have hb23:=h23;replace h23:=of_decide_eq_false h23;refine Qb 3 K M fun _ K=>?_;refine Je ?_;refine Qb 4 K M fun _ K=>?_;refine Qp (K.QG rfl) (fun h15=>?_) (fun h15=>?_)
           ·have hb15:=h15;replace h15:=of_decide_eq_true h15;refine Qb 2 K M fun _ K=>?_;refine p1 K (Qe QP rfl rfl Q9) fun _ K=>?_;refine Qb 3 K M fun _ K=>?_;refine Qp (K.QG rfl) (fun h23=>?_) (fun h23=>?_)
            ·have hb23:=h23;replace h23:=of_decide_eq_true h23;refine Jz ?_;refine QC (l:=[(0,0),(1,0),(2,0),(3,0),(4,0),(5,0),(6,0),(7,0),(8,0),(9,0),(10,0)]) (by kernel_rfl) ?_;refine Jo 2 K M fun _ K=>?_;refine q1 rfl K (Qe QP rfl rfl Q9) fun _ K=>?_;refine Jo 3 K M fun _ K=>?_;refine q1 rfl K (Qe Qo rfl rfl Q9) fun _ K=>?_;refine Jo 4 K M fun _ K=>?_;refine QF ?_;show W _ _ _ _ _ _ _;refine Jw ⟨.inr rfl,_,(Jv (Q6 K rfl) (Q6 K rfl) (Q6 K rfl)),?_⟩;refine⟨?_,M.qt⟩;unfold Ui
             first|(simp_all;done)|(simp_all;rfl)
            have hb23:=h23;replace h23:=of_decide_eq_false h23;refine Qb 3 K M fun _ K=>?_;refine Je ?_;refine Qb 4 K M fun _ K=>?_;refine Qp (K.QG rfl) (fun h15=>?_) (fun h15=>?_)
            ·have hb15:=h15;replace h15:=of_decide_eq_true h15;refine Qb 2 K M fun _ K=>?_;refine p1 K (Qe QP rfl rfl Q9) fun _ K=>?_;refine Qb 3 K M fun _ K=>?_;refine Qp (K.QG rfl) (fun h23=>?_) (fun h23=>?_)
             ·have hb23:=h23;replace h23:=of_decide_eq_true h23;refine Jz ?_;refine QC (l:=[(0,0),(1,0),(2,0),(3,0),(4,0),(5,0),(6,0),(7,0),(8,0),(9,0),(10,0)]) (by kernel_rfl) ?_;refine Jo 2 K M fun _ K=>?_;refine q1 rfl K (Qe QP rfl rfl Q9) fun _ K=>?_;refine Jo 3 K M fun _ K=>?_;refine q1 rfl K (Qe Qo rfl rfl Q9) fun _ K=>?_;refine Jo 4 K M fun _ K=>?_;refine QF ?_;show W _ _ _ _ _ _ _;refine Jw ⟨.inr rfl,_,(Jv (Q6 K rfl) (Q6 K rfl) (Q6 K rfl)),?_⟩;refine⟨?_,M.qt⟩;unfold Ui
              first|(simp_all;done)|(simp_all;rfl)
             have hb23:=h23;replace h23:=of_decide_eq_false h23;refine Qb 3 K M fun _ K=>?_;refine Je ?_;refine Qb 4 K M fun _ K=>?_;refine Qp (K.QG rfl) (fun h15=>?_) (fun h15=>?_)
             ·have hb15:=h15;replace h15:=of_decide_eq_true h15;refine Qb 2 K M fun _ K=>?_;refine p1 K (Qe QP rfl rfl Q9) fun _ K=>?_;refine Qb 3 K M fun _ K=>?_;refine Qp (K.QG rfl) (fun h23=>?_) (fun h23=>?_)
              ·have hb23:=h23;replace h23:=of_decide_eq_true h23;refine Jz ?_;refine QC (l:=[(0,0),(1,0),(2,0),(3,0),(4,0),(5,0),(6,0),(7,0),(8,0),(9,0),(10,0)]) (by kernel_rfl) ?_;refine Jo 2 K M fun _ K=>?_;refine q1 rfl K (Qe QP rfl rfl Q9) fun _ K=>?_;refine Jo 3 K M fun _ K=>?_;refine q1 rfl K (Qe Qo rfl rfl Q9) fun _ K=>?_;refine Jo 4 K M fun _ K=>?_;refine QF ?_;show W _ _ _ _ _ _ _;refine Jw ⟨.inr rfl,_,(Jv (Q6 K rfl) (Q6 K rfl) (Q6 K rfl)),?_⟩;refine⟨?_,M.qt⟩;unfold Ui
               first|(simp_all;done)|(simp_all;rfl)
              have hb23:=h23;replace h23:=of_decide_eq_false h23;refine Qb 3 K M fun _ K=>?_;refine Je ?_;refine Qb 4 K M fun _ K=>?_;refine Qp (K.QG rfl) (fun h15=>?_) (fun h15=>?_)
              ·have hb15:=h15;replace h15:=of_decide_eq_true h15;refine Qb 2 K M fun _ K=>?_;refine p1 K (Qe QP rfl rfl Q9) fun _ K=>?_;refine Qb 3 K M fun _ K=>?_;refine Qp (K.QG rfl) (fun h23=>?_) (fun h23=>?_)
               ·have hb23:=h23;replace h23:=of_decide_eq_true h23;refine Jz ?_;refine QC (l:=[(0,0),(1,0),(2,0),(3,0),(4,0),(5,0),(6,0),(7,0),(8,0),(9,0),(10,0)]) (by kernel_rfl) ?_;refine Jo 2 K M fun _ K=>?_;refine q1 rfl K (Qe QP rfl rfl Q9) fun _ K=>?_;refine Jo 3 K M fun _ K=>?_;refine q1 rfl K (Qe Qo rfl rfl Q9) fun _ K=>?_;refine Jo 4 K M fun _ K=>?_;refine QF ?_;show W _ _ _ _ _ _ _;refine Jw ⟨.inr rfl,_,(Jv (Q6 K rfl) (Q6 K rfl) (Q6 K rfl)),?_⟩;refine⟨?_,M.qt⟩;unfold Ui
                first|(simp_all;done)|(simp_all;rfl)
               have hb23:=h23;replace h23:=of_decide_eq_false h23;refine Qb 3 K M fun _ K=>?_;refine Je ?_;refine Qb 4 K M fun _ K=>?_;refine Qp (K.QG rfl) (fun h15=>?_) (fun h15=>?_)
               ·have hb15:=h15;replace h15:=of_decide_eq_true h15
                exfalso;omega
               have hb15:=h15;replace h15:=of_decide_eq_false h15;refine QM ?_;show W _ _ _ _ _ _ _;refine Qb 3 K M fun _ K=>?_;refine Jw ⟨.inr rfl,_,(Jv (Q6 K rfl) (Q6 K rfl) (Q6 K rfl)),?_⟩;refine⟨?_,M.qt⟩;unfold Ui
               first|(simp_all;done)|(simp_all;rfl)
              have hb15:=h15;replace h15:=of_decide_eq_false h15
              exfalso;omega
             have hb15:=h15;replace h15:=of_decide_eq_false h15
             exfalso;omega
            have hb15:=h15;replace h15:=of_decide_eq_false h15
            exfalso;omega
           have hb15:=h15;replace h15:=of_decide_eq_false h15
           exfalso;omega
          have hb15:=h15;replace h15:=of_decide_eq_false h15
          exfalso;omega
         have hb15:=h15;replace h15:=of_decide_eq_false h15
         exfalso;omega
        have hb15:=h15;replace h15:=of_decide_eq_false h15
        exfalso;omega
       have hb15:=h15;replace h15:=of_decide_eq_false h15
       exfalso;omega
      have hb15:=h15;replace h15:=of_decide_eq_false h15
      exfalso;omega
     have hb15:=h15;replace h15:=of_decide_eq_false h15
     exfalso;omega
    have hb15:=h15;replace h15:=of_decide_eq_false h15
    exfalso;omega
   have hb15:=h15;replace h15:=of_decide_eq_false h15
   exfalso;omega
  have hb15:=h15;replace h15:=of_decide_eq_false h15
  exfalso;omega
 have hb15:=h15;replace h15:=of_decide_eq_false h15
 exfalso;omega

theorem AU(hf:Qi st)(h:List Nat)(hl:h.length≤1000)(k:Nat)(u n:Int): ∃v st',Jh 86 [.str h,.int .u8 (((k:Nat):Int)),iZ u,iZ n] st v st'∧v=.bool (JM h k u n)∧Qt st st':=by
 refine JA Tryz.func86 Tryz.ntmps86 fun T K=>?_;have M:=Mem.start hf;refine Qb 2 K M fun _ K=>?_;refine QY (fun mm1 T st9=> ∃(i:Nat),mm1=h.length-i∧QT [(0,.str h),(1,.int .u8 (((k:Nat):Int))),(2,iZ u),(3,iZ n),(9,iN i)] T∧Mem st.h.get st.n [] st9 []∧i≤h.length∧(∀(j x:Nat),j<i→h[j]? =some x→ ¬x=k)) (fun mm1 T st9 hI=>?_) _ _ _ ⟨0,rfl,(K.sub rfl),M.less (.refl _),(Nat.zero_le _),(fun j x hj=>by omega)⟩;obtain⟨i,rfl,K,M,hi,hx⟩:=hI;refine Qb 2 K M fun _ K=>?_;refine p1 K (xI W8 rfl rfl) fun _ K=>?_;refine Qb 1 K M fun _ K=>?_;refine Jy K rfl (fun h13=>?_) fun h13=>?_
 ·refine Qb 2 K M fun _ K=>?_;obtain⟨y18,hy18⟩:=Uw h i Qc;refine p1 K (MF W8 rfl rfl hy18) fun _ K=>?_;refine Qb 2 K M fun _ K=>?_;refine Jy K rfl (fun h20=>?_) fun h20=>?_
  ·refine Qb 2 K M fun _ K=>?_;refine Uj K rfl (fun _ e23 K=>?_) fun _ e23 K=>?_
   ·refine Qb 5 K M ?_;refine⟨?_,M.qt⟩
    have hmem:k∈h:=by have:=List.mem_of_getElem? hy18;rwa [show y18=k by omega]at this
    rw[JM,if_pos hmem]
    first|(simp_all [Qj];done)|(simp_all [Qj]<;>(intros;omega))
   refine Qb 5 K M ?_;refine⟨?_,M.qt⟩
   have hmem:k∈h:=by have:=List.mem_of_getElem? hy18;rwa [show y18=k by omega]at this
   rw[JM,if_pos hmem]
   first|(simp_all [Qj];done)|(simp_all [Qj]<;>(intros;omega))
  refine Qb 3 K M fun _ K=>?_;exact⟨_,Qc,i+1,rfl,(K.sub rfl),M.less (.refl _),Qc,(fun j x hj hq=>by by_cases e:j=i;subst e;rw[hy18]at hq;injection hq with hq;omega;exact hx j x Qc hq)⟩
 refine QM ?_;show W _ _ _ _ _ _ _;refine Qb 3 K M ?_;refine⟨?_,M.qt⟩
 have hmem: ¬k∈h:=fun hm=>by obtain⟨j,hj⟩:=List.getElem?_of_mem hm;exact hx j k (by have:=(List.getElem?_eq_some_iff.1 hj).1;omega) hj rfl
 rw[JM,if_neg hmem]

theorem YO{c:Prop} [Decidable c]{a b:List Nat×Int×Bool}(ha:a.1.length≤1000)(hb:b.1.length≤1000):(if c then a else b).1.length≤1000:=by
 split<;>assumption
theorem Ia(o:List Nat):(Ui o).1.length≤1000:=by
 unfold Ui;refine YO Q9 ?_;refine YO Q9 ?_;refine YO Q9 ?_;refine YO Q9 ?_;refine YO Q9 ?_;refine YO Q9 ?_;refine YO Q9 ?_;refine YO Q9 ?_;refine YO Q9 ?_;refine YO Q9 ?_;refine YO Q9 ?_;refine YO Q9 ?_;refine YO Q9 ?_;refine YO Q9 ?_;decide

theorem eY(x:Cr): ∀(m:Int) (R:Ee) (st:St) (cs:List AV),Qi st→Y8 R st.h.get→ZO R x cs→ -100≤m→m≤100→ ∃v st',Jh 59 [.agg cs,iZ m] st v st'∧v=.bool (QX x m)∧Qt st st':=by
 refine E7 (M:=fun x=> ∀(m:Int) (R:Ee) (st:St) (cs:List AV),Qi st→Y8 R st.h.get→ZO R x cs→ -100≤m→m≤100→ ∃v st',Jh 59 [.agg cs,iZ m] st v st'∧v=.bool (QX x m)∧Qt st st') (fun o a b g n l ih=>?_) x;intro m R st cs hf hR hr hm1 hm2;have hr0:=hr;obtain⟨kc,ls,rfl,hK⟩:=hr.U5;have hln:=hK.ln;have hbn:=hK.Wv;refine JA Tryz.func59 Tryz.ntmps59 fun T K=>?_;have M:=Mem.start hf;refine Qb 0 K M fun _ K=>?_;refine Ju K M rfl (Qa rfl (Qa rfl (Qa rfl (Qa rfl (Qa rfl (Qa hK.cell Q4)))))) Q9 fun c2 _ _ K M=>?_;refine Qb 3 K M fun _ K=>?_;refine oQ K M (x7 M.fresh o) rfl rfl fun _ _ K M=>?_;refine Qb 9 K M fun _ K=>?_;refine oB K (Q0 rfl) rfl fun b18 _ e18 K=>?_;cases b18
 ·replace e18:((Ui o).2.2)=true:=by simpa using e18
  refine Qb 2 K M fun _ K=>?_;refine pg K rfl rfl (Q5 JY rfl rfl hK.len) fun _ K=>?_;refine Qb 3 K M fun _ K=>?_;refine zI K rfl (fun _ e25 K=>?_) fun _ e25 K=>?_
  ·refine Qb 3 K M fun _ K=>?_;obtain⟨v29,st29,ev29,rfl,q29⟩:=AU M.fresh (Ui o).1 (Ia o) 78 n 21;refine pg K rfl rfl (Qg rfl ev29) fun _ K=>?_;replace M:=M.quiet q29;refine Qb 2 K M fun _ K=>?_;refine Qp (K.QG rfl) (fun h31=>?_) (fun h31=>?_)
   ·have hb31:=h31
    replace h31:(JM (Ui o).1 78 n 21)=false:=by simpa using h31
    refine Qb 1 K M ?_;refine⟨congrArg AV.bool ?_,M.qt⟩;clear M K ih hr hr0 hK hR hf;rw[QX]
    first|(simp[*];done)|(simp_all;done)|(simp_all;omega)
   have hb31:=h31
   replace h31:(JM (Ui o).1 78 n 21)=true:=by simpa using h31
   refine Qb 2 K M fun _ K=>?_;refine p1 K (QU (b:=[101,120]) rfl rfl) fun _ K=>?_;refine Qb 0 K M fun _ K=>?_;refine Jy K rfl (fun h34=>?_) fun h34=>?_
   ·refine Jz ?_
    have hl1:l.length=1:=by rw[h34,show(Ui [101,120]).2.1=1 by decide]at e25;omega
    refine Qb 4 K M fun _ K=>?_;refine Uj K rfl (fun _ e39 K=>?_) fun _ e39 K=>?_
    ·refine Qb 23 K M ?_;refine⟨congrArg AV.bool ?_,M.qt⟩;clear M K ih hr hr0 hK hR hf;rw[QX]
     first|(simp[*];done)|(simp_all;done)|(simp_all;omega)
    refine Qb 3 K M fun _ K=>?_;refine Uj K rfl (fun _ e43 K=>?_) fun _ e43 K=>?_
    ·refine Qb 19 K M ?_;refine⟨congrArg AV.bool ?_,M.qt⟩;clear M K ih hr hr0 hK hR hf;rw[QX]
     first|(simp[*];done)|(simp_all;done)|(simp_all;omega)
    refine Qb 4 K M fun _ K=>?_;refine Uj K rfl (fun _ e48 K=>?_) fun _ e48 K=>?_
    ·refine Qb 14 K M ?_;refine⟨congrArg AV.bool ?_,M.qt⟩;clear M K ih hr hr0 hK hR hf;rw[QX]
     first|(simp[*];done)|(simp_all;done)|(simp_all;omega)
    refine Qb 4 K M fun _ K=>?_;refine Uj K rfl (fun _ e53 K=>?_) fun _ e53 K=>?_
    ·refine Qb 9 K M ?_;refine⟨congrArg AV.bool ?_,M.qt⟩;clear M K ih hr hr0 hK hR hf;rw[QX]
     first|(simp[*];done)|(simp_all;done)|(simp_all;omega)
    refine Qb 2 K M fun _ K=>?_;obtain⟨⟨o56,a56,b56,g56,n56,l56⟩,hi56⟩: ∃k,l[0]? =some k:=⟨_,List.getElem?_eq_getElem Qc⟩;have hm56:=VG hi56;obtain⟨_,hc56,hn56⟩:=hK.get hi56;have hp56:=hn56;obtain⟨kc56,ls56,rfl,hK56⟩:=hp56.U5;obtain⟨x56,m56,f56,q56,_,la56,lo56,lp56⟩:=(hK.r (M.Y8 hR)).load (i:=0) (cs:=_) hc56;refine pg K rfl rfl (Qe (j:=0) Jn (congrArg some q56) rfl (by rw[hK.ln];omega)) fun _ K=>pg K rfl rfl (Qf rfl (la56 _ Jg)) fun _ K=>?_;refine Qb 2 K M fun _ K=>?_;obtain⟨v60,st60,ev60,rfl,q60⟩:=ih _ hm56 (m+1) R _ _ M.fresh (M.Y8 hR) hn56 Qc Qc;refine pg K rfl rfl (Qg rfl ev60) fun _ K=>?_;replace M:=M.quiet q60;refine Qb 2 K M ?_;have hcl:Xp l (m+1)=QX (.mk o56 a56 b56 g56 n56 l56) (m+1):=q7 hl1 hi56;refine⟨congrArg AV.bool ?_,M.qt⟩;clear M K ih hr hr0 hK hR hf;rw[←hcl,QX];simp only[e18,decide_eq_true e25,h31,if_pos h34,decide_eq_true e39,decide_eq_true e43,decide_eq_true e48,decide_eq_true e53,Bool.true_and]
   refine Qb 4 K M fun _ K=>?_;refine oQ K M (AU M.fresh (Ui o).1 (Ia o) 65 a m) rfl rfl fun _ _ K M=>?_;refine Qb 1 K M fun _ K=>?_;refine oB K (Q0 rfl) rfl fun b68 _ e68 K=>?_;cases b68
   ·replace e68:(JM (Ui o).1 65 a m)=true:=by simpa using e68
    refine Qb 4 K M fun _ K=>?_;obtain⟨v73,st73,ev73,rfl,q73⟩:=AU M.fresh (Ui o).1 (Ia o) 66 b m;refine pg K rfl rfl (Qg rfl ev73) fun _ K=>?_;replace M:=M.quiet q73;refine Qb 2 K M fun _ K=>?_;refine oB K (Q0 rfl) rfl fun b76 _ e76 K=>?_;cases b76
    ·replace e76:(JM (Ui o).1 66 b m)=true:=by simpa using e76
     refine Qb 4 K M fun _ K=>?_;obtain⟨v81,st81,ev81,rfl,q81⟩:=AU M.fresh (Ui o).1 (Ia o) 67 g m;refine pg K rfl rfl (Qg rfl ev81) fun _ K=>?_;replace M:=M.quiet q81;refine Qb 2 K M fun _ K=>?_;refine Qp (K.QG rfl) (fun h83=>?_) (fun h83=>?_)
     ·have hb83:=h83
      replace h83:(JM (Ui o).1 67 g m)=false:=by simpa using h83
      refine Qb 1 K M ?_;refine⟨congrArg AV.bool ?_,M.qt⟩;clear M K ih hr hr0 hK hR hf;rw[QX]
      first|(simp[*];done)|(simp_all;done)|(simp_all;omega)
     have hb83:=h83
     replace h83:(JM (Ui o).1 67 g m)=true:=by simpa using h83
     refine Qb 1 K M fun _ K=>?_;refine QY (fun mm1 T st9=> ∃(i:Nat),mm1=l.length-i∧QT [(1,iZ m),(2,.ptr c2 0 0),(6,iZ ((Ui o).2.1)),(8,iN i)] T∧Mem st.h.get st.n [] st9 [(c2,0,[.str o,iZ a,iZ b,iZ g,iZ n,kc])]∧i≤l.length∧(∀(j:Nat) (k:Cr),j<i→l[j]? =some k→QX k m=true)) (fun mm1 T st9 hI=>?_) _ _ _ ⟨0,rfl,(K.sub rfl),M.less (.refl _),(Nat.zero_le _),(fun j k hj=>absurd hj (Nat.not_lt_zero j))⟩;obtain⟨i,rfl,K,M,hi,hall⟩:=hI;refine Qb 3 K M fun _ K=>?_;refine Jy K rfl (fun h86=>?_) fun h86=>?_
     ·refine Qb 3 K M fun _ K=>?_;obtain⟨⟨o92,a92,b92,g92,n92,l92⟩,hi92⟩: ∃k,l[i]? =some k:=⟨_,List.getElem?_eq_getElem Qc⟩;have hm92:=VG hi92;obtain⟨_,hc92,hn92⟩:=hK.get hi92;have hp92:=hn92;obtain⟨kc92,ls92,rfl,hK92⟩:=hp92.U5;refine Ts (hK.r (M.Y8 hR)) hc92 K Jn Jg rfl rfl fun _ _ _ _ K=>?_;refine Qb 1 K M fun _ K=>?_;refine oQ K M (ih _ hm92 m R _ _ M.fresh (M.Y8 hR) hn92 Qc Qc) rfl rfl fun _ _ K M=>?_;refine Qb 1 K M fun _ K=>?_;refine Qp (K.QG rfl) (fun h96=>?_) (fun h96=>?_)
      ·have hb96:=h96
       replace h96:(QX (.mk o92 a92 b92 g92 n92 l92) m)=false:=by simpa using h96
       refine Qb 1 K M ?_;have hcf:Xp l m=false:=Po hi92 h96;refine⟨congrArg AV.bool ?_,M.qt⟩;clear M K ih hr hr0 hK hR hf;rw[QX]
       first|(simp[*];done)|(simp_all;done)|(simp_all;omega)
      have hb96:=h96
      replace h96:(QX (.mk o92 a92 b92 g92 n92 l92) m)=true:=by simpa using h96
      refine Qb 3 K M fun _ K=>?_;exact⟨_,Qc,i+1,rfl,(K.sub rfl),M.less (.refl _),Qc,(fun j k hj hq=>by by_cases e:j=i;subst e;rw[hi92]at hq;injection hq with hq;subst hq;exact h96;exact hall j k Qc hq)⟩
     refine QM ?_;show W _ _ _ _ _ _ _;refine Qb 1 K M ?_;have hct:Xp l m=true:=Se fun j k hj=>hall j k (by have:=(List.getElem?_eq_some_iff.1 hj).1;omega) hj;refine⟨congrArg AV.bool ?_,M.qt⟩;clear M K ih hr hr0 hK hR hf;rw[QX]
     first|(simp[*];done)|(simp_all;done)|(simp_all;omega)
    replace e76:(JM (Ui o).1 66 b m)=false:=by simpa using e76
    refine Qb 9 K M ?_;refine⟨congrArg AV.bool ?_,M.qt⟩;clear M K ih hr hr0 hK hR hf;rw[QX]
    first|(simp[*];done)|(simp_all;done)|(simp_all;omega)
   replace e68:(JM (Ui o).1 65 a m)=false:=by simpa using e68
   refine Qb 17 K M ?_;refine⟨congrArg AV.bool ?_,M.qt⟩;clear M K ih hr hr0 hK hR hf;rw[QX]
   first|(simp[*];done)|(simp_all;done)|(simp_all;omega)
  refine Qb 8 K M ?_;refine⟨congrArg AV.bool ?_,M.qt⟩;clear M K ih hr hr0 hK hR hf;rw[QX]
  first|(simp[*];done)|(simp_all;done)|(simp_all;omega)
 replace e18:((Ui o).2.2)=false:=by simpa using e18
 refine Qb 15 K M ?_;refine⟨congrArg AV.bool ?_,M.qt⟩;clear M K ih hr hr0 hK hR hf;rw[QX]
 first|(simp[*];done)|(simp_all;done)|(simp_all;omega)

theorem SS(hf:Qi st)(hR:Y8 R st.h.get)(hr:ZO R (.mk o a b g n l) cs)(m:Int): ∃v st',Jh 33 [.agg cs,iZ m] st v st'∧v=.bool (decide (0≤m)&&decide (m≤6)&&decide (XZ (.mk o a b g n l)≤2000)&&QX (.mk o a b g n l) m)∧Qt st st':=by
 have hr0:=hr;obtain⟨kc,ls,rfl,hK⟩:=hr.U5;have hln:=hK.ln;have hbn:=hK.Wv;refine JA Tryz.func33 Tryz.ntmps33 fun T K=>?_;have M:=Mem.start hf;refine Qb 0 K M fun _ K=>?_;refine Ju K M rfl (Qa rfl (Qa rfl (Qa rfl (Qa rfl (Qa rfl (Qa hK.cell Q4)))))) Q9 fun c2 _ _ K M=>?_;refine Qb 3 K M fun _ K=>?_;refine Uj K rfl (fun _ e7 K=>?_) fun _ e7 K=>?_
 ·refine Qb 14 K M ?_;refine⟨congrArg AV.bool ?_,M.qt⟩;clear M K hr hr0 hK hR hf
  first|(simp[*];done)|(simp[*];omega)|(simp_all;done)|(simp_all;omega)
 refine Qb 3 K M fun _ K=>?_;refine Uj K rfl (fun _ e11 K=>?_) fun _ e11 K=>?_
 ·refine Qb 10 K M ?_;refine⟨congrArg AV.bool ?_,M.qt⟩;clear M K hr hr0 hK hR hf
  first|(simp[*];done)|(simp[*];omega)|(simp_all;done)|(simp_all;omega)
 refine Qb 1 K M fun _ K=>?_;obtain⟨v13,st13,ev13,rfl,q13⟩:=Gz M.fresh (M.Y8 hR) hr0;refine pg K rfl rfl (Qg rfl ev13) fun _ K=>?_;replace M:=M.quiet q13;refine Qb 2 K M fun _ K=>?_;refine Uj K rfl (fun _ e16 K=>?_) fun _ e16 K=>?_
 ·refine Qb 5 K M ?_;refine⟨congrArg AV.bool ?_,M.qt⟩;clear M K hr hr0 hK hR hf
  first|(simp[*];done)|(simp[*];omega)|(simp_all;done)|(simp_all;omega)
 refine Qb 2 K M fun _ K=>?_;obtain⟨v19,st19,ev19,rfl,q19⟩:=eY (.mk o a b g n l) m R _ _ M.fresh (M.Y8 hR) hr0 Qc Qc;refine pg K rfl rfl (Qg rfl ev19) fun _ K=>?_;replace M:=M.quiet q19;refine Qb 2 K M ?_;refine⟨congrArg AV.bool ?_,M.qt⟩;clear M K hr hr0 hK hR hf
 first|(simp[*];done)|(simp[*];omega)|(simp_all;done)|(simp_all;omega)
end Go.Proofs.YtiknomepbklibaaGreatDoor
