/-
  How great a node is, how deep: the program's answer, the reference's.
-/
import Derived.Test.YtadjjadimlkkgaaGreatDoorMnTree
section
namespace Go.Proofs.YtadjjadimlkkgaaGreatDoor
open Go Go.RowKit
set_option maxHeartbeats 8000000
set_option linter.unusedVariables false
set_option linter.unusedSimpArgs false
set_option maxRecDepth 100000

theorem qU (x : Nd) : ∀ (most : Int) (st : St) (cs : List AV), Qu st → UN st.h.get x cs → 1 ≤ most → most ≤ 1000000 → ∃ v st', Ev Tryz.prog QU 199 [.agg cs, .int .i64 most] st v st' ∧ v = .int .i64 (min ((Jz x : Nat) : Int) most) ∧ Qt st st' := by
 refine J2 (M := fun x => ∀ (most : Int) (st : St) (cs : List AV), Qu st → UN st.h.get x cs → 1 ≤ most → most ≤ 1000000 → ∃ v st', Ev Tryz.prog QU 199 [.agg cs, .int .i64 most] st v st' ∧ v = .int .i64 (min ((Jz x : Nat) : Int) most) ∧ Qt st st') (fun o s z a l ih => ?_) x;intro most st cs hf hr h1 h2;have hr0 := hr;obtain ⟨kk, ls, rfl, hK, hb⟩ := hr.QJ;have hln := hK.ln;have hbn := hK.Uj;refine QE rfl Tryz.func199 rfl Tryz.ntmps199 rfl fun T hT => ?_;have K : QT [(0, _), (1, _)] T := (.cons (hT 0) (.cons (hT 1) .nil));have M := Mem.start hf;refine Qn <| Qb ?_;refine QO K M rfl (Qa rfl (Qa rfl (Qa rfl (Qa rfl (Qa hK.cell Qp))))) (by decide) fun c2 _ _ K M => ?_;refine Qf 3 K M ?_;intro _ K;refine Qm (K.QF rfl) (fun h9 => ?_) (fun h9 => ?_)
 · have hb9 := h9;replace h9 := of_decide_eq_true h9;refine Qf 1 K M ?_;intro _ K;refine Qe ⟨.inr rfl, _, J5 K rfl, ?_⟩
   first
    | (exfalso; omega)
    | (refine ⟨?_, M.qt⟩; rw [hinv]; congr 1; have hz : i = l.length := by omega
       rw [Jo (by omega), W2]; omega)
    | (refine ⟨?_, M.qt⟩; rw [hinv]; congr 1; omega)
 · have hb9 := h9;replace h9 := of_decide_eq_false h9;refine Qf 3 K M ?_;intro _ K;refine o1 K (QL Q7 rfl rfl hK.len) rfl fun _ K => ?_;refine Qf 1 K M ?_;intro _ K;refine JN (fun mm1 T st9 => ∃ (i : Nat) (m : Int), mm1 = l.length - i ∧ QT [(1, .int .i64 most), (4, .int .i64 0), (5, .int .i64 m), (11, kk), (12, .int .i64 (((l.length : Nat) : Int))), (13, .int .i64 (((i : Nat) : Int)))] T ∧ Mem st.h.get st.n [] st9 [(c2, 0, [.str o, .str s, .int .i64 z, .int .i64 a, kk])] ∧ i ≤ l.length ∧ 1 ≤ m ∧ m ≤ most ∧ min (((Jz (.mk o s z a l)) : Nat) : Int) most = min (m + ((W2 (l.drop i) : Nat) : Int)) most) (fun mm1 T st9 hI => ?_) _ _ _ ⟨0, 1, rfl, (.cons (K _ _ rfl) (.cons (K _ _ rfl) (.cons (K _ _ rfl) (.cons (K _ _ rfl) (.cons (K _ _ rfl) (.cons (K _ _ rfl) .nil)))))), M.less (.refl _), (Nat.zero_le _), (by omega), h1, (by rw [Jz, List.drop_zero]; omega)⟩;obtain ⟨i, m, rfl, K, M, hi, hm1, hm2, hinv⟩ := hI;refine Qf 1 K M ?_;intro _ K;refine Qm (K.QF rfl) (fun h14 => ?_) (fun h14 => ?_)
   · have hb14 := h14;replace h14 := of_decide_eq_true h14;refine Q8 ?_;show W _ _ _ _ _ _ _;refine Qn <| Uq <| Qn <| Qb ?_;obtain ⟨⟨o15, s15, z15, a15, l15⟩, hi15⟩ : ∃ k, l[i]? = some k := ⟨_, List.getElem?_eq_getElem (by omega)⟩;have hm15 := J6 hi15;obtain ⟨_, hc15, hn15⟩ := hK.at_ _ _ hi15;have hp15 := hn15;obtain ⟨kk15, ls15, rfl, hK15, hb15⟩ := hp15.QJ;obtain ⟨x15, m15, f15, q15, _, la15, lo15, lp15⟩ := (hK.r.mem M (by simp)).load (i := i) (cs := _) hc15;refine o1 K (Qj (j := i) QH (congrArg some q15) rfl (by rw [hK.ln]; omega)) rfl fun _ K => o1 K (Qr rfl (la15 _ Qs)) rfl fun _ K => ?_;refine Ul K M Ja (by decide) fun c7 _ _ K M => ?_;refine Q5 (k := 0) K M rfl rfl rfl Qq rfl (Qa rfl (Qa rfl (Qa rfl (Qa rfl (Qa hK15.cell Qp))))) rfl fun _ M => ?_;refine Qf 3 K M ?_;intro _ K;refine Qm (K.QF rfl) (fun h19 => ?_) (fun h19 => ?_)
     · have hb19 := h19;replace h19 := of_decide_eq_true h19;refine J7 ?_;show W _ _ _ _ _ _ _;refine Qf 2 K M ?_;intro _ K;refine Qe ⟨.inr rfl, _, J5 K rfl, ?_⟩
       first
        | (exfalso; omega)
        | (refine ⟨?_, M.qt⟩; rw [hinv]; congr 1; have hz : i = l.length := by omega
           rw [Jo (by omega), W2]; omega)
        | (refine ⟨?_, M.qt⟩; rw [hinv]; congr 1; omega)
     · have hb19 := h19;replace h19 := of_decide_eq_false h19;refine Qf 4 K M ?_;intro _ K;refine o1 K (Hq rfl rfl (by omega) (by omega)) rfl fun _ K => ?_;refine oQ K M (ih _ (hm15) (most - m) _ _ M.fresh (hn15.mono M.rows) (by omega) (by omega)) rfl rfl fun _ _ K M => ?_;refine o1 K (Jf rfl rfl (by omega) (by omega)) rfl fun _ K => ?_;refine Qf 1 K M ?_;intro _ K;refine o1 K (Jf rfl rfl (by omega) (by omega)) rfl fun _ K => o1 K (Qd rfl) rfl fun _ K => Qy ?_;have hst := IU hi15;have hsp := Fu (.mk o15 s15 z15 a15 l15);exact ⟨_, (by omega), i + 1, (m + min ((Jz (.mk o15 s15 z15 a15 l15) : Nat) : Int) (most - m)), rfl, (.cons (K _ _ rfl) (.cons (K _ _ rfl) (.cons (K _ _ rfl) (.cons (K _ _ rfl) (.cons (K _ _ rfl) (.cons (K _ _ rfl) .nil)))))), M.less (.cons _ (.refl _)), (by omega), (by omega), (by omega), (by omega)⟩
   · have hb14 := h14;replace h14 := of_decide_eq_false h14;refine J7 ?_;show W _ _ _ _ _ _ _;refine Qf 2 K M ?_;intro _ K;refine Qe ⟨.inr rfl, _, J5 K rfl, ?_⟩
     first
      | (exfalso; omega)
      | (refine ⟨?_, M.qt⟩; rw [hinv]; congr 1; have hz : i = l.length := by omega
         rw [Jo (by omega), W2]; omega)
      | (refine ⟨?_, M.qt⟩; rw [hinv]; congr 1; omega)

theorem RI (x : Nd) : ∀ (most : Int) (st : St) (cs : List AV), Qu st → UN st.h.get x cs → 1 ≤ most → most ≤ 1000000 → ∃ v st', Ev Tryz.prog QU 57 [.agg cs, .int .i64 most] st v st' ∧ v = .int .i64 (min ((Jz x : Nat) : Int) most) ∧ Qt st st' := by
 refine J2 (M := fun x => ∀ (most : Int) (st : St) (cs : List AV), Qu st → UN st.h.get x cs → 1 ≤ most → most ≤ 1000000 → ∃ v st', Ev Tryz.prog QU 57 [.agg cs, .int .i64 most] st v st' ∧ v = .int .i64 (min ((Jz x : Nat) : Int) most) ∧ Qt st st') (fun o s z a l ih => ?_) x;intro most st cs hf hr h1 h2;have hr0 := hr;obtain ⟨kk, ls, rfl, hK, hb⟩ := hr.QJ;have hln := hK.ln;have hbn := hK.Uj;refine QE rfl Tryz.func57 rfl Tryz.ntmps57 rfl fun T hT => ?_;have K : QT [(0, _), (1, _)] T := (.cons (hT 0) (.cons (hT 1) .nil));have M := Mem.start hf;refine Qn <| Qb ?_;refine QO K M rfl (Qa rfl (Qa rfl (Qa rfl (Qa rfl (Qa hK.cell Qp))))) (by decide) fun c2 _ _ K M => ?_;refine Qf 3 K M ?_;intro _ K;refine JN (fun mm1 T st9 => ∃ (i : Nat) (m : Int), mm1 = l.length - i ∧ QT [(1, .int .i64 most), (2, .ptr c2 0 0), (4, .int .i64 0), (5, .int .i64 m), (6, .int .i64 (((i : Nat) : Int)))] T ∧ Mem st.h.get st.n [] st9 [(c2, 0, [.str o, .str s, .int .i64 z, .int .i64 a, kk])] ∧ i ≤ l.length ∧ 1 ≤ m ∧ m ≤ most ∧ min (((Jz (.mk o s z a l)) : Nat) : Int) most = min (m + ((W2 (l.drop i) : Nat) : Int)) most) (fun mm1 T st9 hI => ?_) _ _ _ ⟨0, 1, rfl, (.cons (K _ _ rfl) (.cons (K _ _ rfl) (.cons (K _ _ rfl) (.cons (K _ _ rfl) (.cons (K _ _ rfl) .nil))))), M.less (.refl _), (Nat.zero_le _), (by omega), h1, (by rw [Jz, List.drop_zero]; omega)⟩;obtain ⟨i, m, rfl, K, M, hi, hm1, hm2, hinv⟩ := hI;refine Qf 3 K M ?_;intro _ K;refine o1 K (QL Q7 rfl rfl hK.len) rfl fun _ K => o1 K (Hr rfl rfl) rfl fun _ K => ?_;refine oB K (Qd rfl) rfl fun b12 _ e12 K => ?_;cases b12
 · replace e12 := of_decide_eq_false e12;refine Qf 4 K M ?_;intro _ K;refine Qm (t := false) (K.QF rfl) (fun h => by cases h) (fun _ => ?_);refine J7 ?_;show W _ _ _ _ _ _ _;refine Qf 2 K M ?_;intro _ K;refine o1 K (CL rfl rfl) rfl fun _ K => ?_;refine Qf 1 K M ?_;intro _ K;refine Qe ⟨.inr rfl, _, J5 K rfl, ?_⟩
   first
    | (refine ⟨?_, M.qt⟩; rw [hinv]; congr 1; have hz : i = l.length := by omega
       rw [Jo (by omega), W2]; omega)
    | (refine ⟨?_, M.qt⟩; rw [hinv]; congr 1; omega)
 · replace e12 := of_decide_eq_true e12;refine Qf 4 K M ?_;intro _ K;refine Qm (K.QF rfl) (fun h16 => ?_) (fun h16 => ?_)
   · have hb16 := h16;replace h16 := of_decide_eq_true h16;refine Qf 4 K M ?_;intro _ K;obtain ⟨⟨o23, s23, z23, a23, l23⟩, hi23⟩ : ∃ k, l[i]? = some k := ⟨_, List.getElem?_eq_getElem (by omega)⟩;have hm23 := J6 hi23;obtain ⟨_, hc23, hn23⟩ := hK.at_ _ _ hi23;have hp23 := hn23;obtain ⟨kk23, ls23, rfl, hK23, hb23⟩ := hp23.QJ;obtain ⟨x23, m23, f23, q23, _, la23, lo23, lp23⟩ := (hK.r.mem M (by simp)).load (i := i) (cs := _) hc23;refine o1 K (Qj (j := i) QH (congrArg some q23) rfl (by rw [hK.ln]; omega)) rfl fun _ K => o1 K (Qr rfl (la23 _ Qs)) rfl fun _ K => ?_;refine Qf 2 K M ?_;intro _ K;refine o1 K (Hq rfl rfl (by omega) (by omega)) rfl fun _ K => ?_;refine oQ K M (ih _ (hm23) (most - m) _ _ M.fresh (hn23.mono M.rows) (by omega) (by omega)) rfl rfl fun _ _ K M => ?_;refine o1 K (Jf rfl rfl (by omega) (by omega)) rfl fun _ K => ?_;refine Qf 2 K M ?_;intro _ K;refine o1 K (Jf rfl rfl (by omega) (by omega)) rfl fun _ K => o1 K (Q0 rfl) rfl fun _ K => Qy ?_;have hst := IU hi23;have hsp := Fu (.mk o23 s23 z23 a23 l23);exact ⟨_, (by omega), i + 1, (m + min ((Jz (.mk o23 s23 z23 a23 l23) : Nat) : Int) (most - m)), rfl, (.cons (K _ _ rfl) (.cons (K _ _ rfl) (.cons (K _ _ rfl) (.cons (K _ _ rfl) (.cons (K _ _ rfl) .nil))))), M.less (.refl _), (by omega), (by omega), (by omega), (by omega)⟩
   · have hb16 := h16;replace h16 := of_decide_eq_false h16;refine J7 ?_;show W _ _ _ _ _ _ _;refine Qf 2 K M ?_;intro _ K;refine o1 K (CL rfl rfl) rfl fun _ K => ?_;refine Qf 1 K M ?_;intro _ K;refine Qe ⟨.inr rfl, _, J5 K rfl, ?_⟩
     first
      | (refine ⟨?_, M.qt⟩; rw [hinv]; congr 1; have hz : i = l.length := by omega
         rw [Jo (by omega), W2]; omega)
      | (refine ⟨?_, M.qt⟩; rw [hinv]; congr 1; omega)

theorem MU(x:Nd): ∀(most:Int) (st:St) (cs:List AV),Qu st→UN st.h.get x cs→1≤most→most≤1000000→ ∃v st',Ev Tryz.prog QU 206 [.agg cs,.int .i64 most] st v st'∧v=.int .i64 (min ((LB x:Nat):Int) most)∧Qt st st':=by
 refine J2 (M:=fun x=> ∀(most:Int) (st:St) (cs:List AV),Qu st→UN st.h.get x cs→1≤most→most≤1000000→ ∃v st',Ev Tryz.prog QU 206 [.agg cs,.int .i64 most] st v st'∧v=.int .i64 (min ((LB x:Nat):Int) most)∧Qt st st') (fun o s z a l ih=>?_) x;intro most st cs hf hr h1 h2;have hr0:=hr;obtain⟨kk,ls,rfl,hK,hb⟩:=hr.QJ;have hln:=hK.ln;have hbn:=hK.Uj;refine QE rfl Tryz.func206 rfl Tryz.ntmps206 rfl fun T hT=>?_;have K:QT [(0,_),(1,_)] T:=(.cons (hT 0) (.cons (hT 1) .nil));have M:=Mem.start hf;refine Qn<|Qb ?_;refine QO K M rfl (Qa rfl (Qa rfl (Qa rfl (Qa rfl (Qa hK.cell Qp))))) (by decide) fun c2 _ _ K M=>?_;refine Qf 4 K M ?_;intro _ K;refine Qm (K.QF rfl) (fun h9=>?_) (fun h9=>?_)
 ·have hb9:=h9;replace h9:=of_decide_eq_true h9;refine Qf 2 K M ?_;intro _ K;refine o1 K (QL Q7 rfl rfl hK.len) rfl fun _ K=>?_;refine Qf 1 K M ?_;intro _ K;refine JN (fun mm1 T st9=> ∃(i:Nat) (m:Int),mm1=l.length-i∧QT [(1,.int .i64 most),(4,.int .i64 0),(5,.int .i64 m),(11,kk),(12,.int .i64 (((l.length:Nat):Int))),(13,.int .i64 (((i:Nat):Int)))] T∧Mem st.h.get st.n [] st9 [(c2,0,[.str o,.str s,.int .i64 z,.int .i64 a,kk])]∧i≤l.length∧0≤m∧m≤most-1∧min (((RH l):Nat):Int) (most-1)=max m (min ((RH (l.drop i):Nat):Int) (most-1))) (fun mm1 T st9 hI=>?_) _ _ _ ⟨0,0,rfl,(.cons (K _ _ rfl) (.cons (K _ _ rfl) (.cons (K _ _ rfl) (.cons (K _ _ rfl) (.cons (K _ _ rfl) (.cons (K _ _ rfl) .nil)))))),M.less (.refl _),(Nat.zero_le _),(by omega),(by omega),(by rw[List.drop_zero];omega)⟩;obtain⟨i,m,rfl,K,M,hi,hm1,hm2,hinv⟩:=hI;refine Qf 1 K M ?_;intro _ K;refine Qm (K.QF rfl) (fun h14=>?_) (fun h14=>?_)
  · have hb14:=h14;replace h14:=of_decide_eq_true h14;refine Q8 ?_;show W _ _ _ _ _ _ _;refine Qn<|Uq<|Qn<|Qb ?_;obtain⟨⟨o15,s15,z15,a15,l15⟩,hi15⟩: ∃k,l[i]? =some k:=⟨_,List.getElem?_eq_getElem (by omega)⟩;have hm15:=J6 hi15;obtain⟨_,hc15,hn15⟩:=hK.at_ _ _ hi15;have hp15:=hn15;obtain⟨kk15,ls15,rfl,hK15,hb15⟩:=hp15.QJ;obtain⟨x15,m15,f15,q15,_,la15,lo15,lp15⟩:=(hK.r.mem M (by simp)).load (i:=i) (cs:=_) hc15;refine o1 K (Qj (j:=i) QH (congrArg some q15) rfl (by rw[hK.ln];omega)) rfl fun _ K=>o1 K (Qr rfl (la15 _ Qs)) rfl fun _ K=>?_;refine Ul K M Ja (by decide) fun c7 _ _ K M=>?_;refine Q5 (k:=0) K M rfl rfl rfl Qq rfl (Qa rfl (Qa rfl (Qa rfl (Qa rfl (Qa hK15.cell Qp))))) rfl fun _ M=>?_;refine Qf 3 K M ?_;intro _ K;refine o1 K (Hq rfl rfl (by omega) (by omega)) rfl fun _ K=>?_;refine oQ K M (ih _ (hm15) (most-1) _ _ M.fresh (hn15.mono M.rows) (by omega) (by omega)) rfl rfl fun _ _ K M=>?_;refine o1 K (Tw rfl rfl) rfl fun _ K=>?_;refine Qf 1 K M ?_;intro _ K;refine o1 K (Jf rfl rfl (by omega) (by omega)) rfl fun _ K=>o1 K (Qd rfl) rfl fun _ K=>Qy ?_;have hst:=BA hi15;have hsp:=Pn (.mk o15 s15 z15 a15 l15);exact⟨_,(by omega),i+1,(max m (min ((LB (.mk o15 s15 z15 a15 l15):Nat):Int) (most-1))),rfl,(.cons (K _ _ rfl) (.cons (K _ _ rfl) (.cons (K _ _ rfl) (.cons (K _ _ rfl) (.cons (K _ _ rfl) (.cons (K _ _ rfl) .nil)))))),M.less (.cons _ (.refl _)),(by omega),(by omega),(by omega),(by omega)⟩
  · have hb14:=h14;replace h14:=of_decide_eq_false h14;refine J7 ?_;show W _ _ _ _ _ _ _;refine Qf 1 K M ?_;intro _ K;refine o1 K (Jf rfl rfl (by omega) (by omega)) rfl fun _ K=>?_;refine Qf 1 K M ?_;intro _ K;refine Qe ⟨.inr rfl,_,J5 K rfl,?_⟩;refine⟨congrArg (AV.int .i64) ?_,M.qt⟩
    first
     |(rw[LB,Jo (show l.length≤i by omega),RH]at *;omega)
     |(rw[LB];omega)
 ·have hb9:=h9;replace h9:=of_decide_eq_false h9;refine Qf 1 K M ?_;intro _ K;refine o1 K (Jf rfl rfl (by omega) (by omega)) rfl fun _ K=>?_;refine Qf 1 K M ?_;intro _ K;refine Qe ⟨.inr rfl,_,J5 K rfl,?_⟩;refine⟨congrArg (AV.int .i64) ?_,M.qt⟩
  first
   |(rw[LB,Jo (show l.length≤i by omega),RH]at *;omega)
   |(rw[LB];omega)

theorem MV(x:Nd): ∀(most:Int) (st:St) (cs:List AV),Qu st→UN st.h.get x cs→1≤most→most≤1000000→ ∃v st',Ev Tryz.prog QU 58 [.agg cs,.int .i64 most] st v st'∧v=.int .i64 (min ((LB x:Nat):Int) most)∧Qt st st':=by
 refine J2 (M:=fun x=> ∀(most:Int) (st:St) (cs:List AV),Qu st→UN st.h.get x cs→1≤most→most≤1000000→ ∃v st',Ev Tryz.prog QU 58 [.agg cs,.int .i64 most] st v st'∧v=.int .i64 (min ((LB x:Nat):Int) most)∧Qt st st') (fun o s z a l ih=>?_) x;intro most st cs hf hr h1 h2;have hr0:=hr;obtain⟨kk,ls,rfl,hK,hb⟩:=hr.QJ;have hln:=hK.ln;have hbn:=hK.Uj;refine QE rfl Tryz.func58 rfl Tryz.ntmps58 rfl fun T hT=>?_;have K:QT [(0,_),(1,_)] T:=(.cons (hT 0) (.cons (hT 1) .nil));have M:=Mem.start hf;refine Qn<|Qb ?_;refine QO K M rfl (Qa rfl (Qa rfl (Qa rfl (Qa rfl (Qa hK.cell Qp))))) (by decide) fun c2 _ _ K M=>?_;refine Qf 3 K M ?_;intro _ K;refine Qm (K.QF rfl) (fun h8=>?_) (fun h8=>?_)
 ·have hb8:=h8;replace h8:=of_decide_eq_true h8;refine Qf 1 K M ?_;intro _ K;refine o1 K (CL rfl rfl) rfl fun _ K=>?_;refine Qf 1 K M ?_;intro _ K;refine Qe ⟨.inr rfl,_,J5 K rfl,?_⟩;refine⟨congrArg (AV.int .i64) ?_,M.qt⟩
  first
   |(rw[LB,Jo (show l.length≤i by omega),RH]at *;omega)
   |(rw[LB];omega)
 ·have hb8:=h8;replace h8:=of_decide_eq_false h8;refine Qf 2 K M ?_;intro _ K;refine JN (fun mm1 T st9=> ∃(i:Nat) (m:Int),mm1=l.length-i∧QT [(1,.int .i64 most),(2,.ptr c2 0 0),(4,.int .i64 0),(5,.int .i64 m),(6,.int .i64 (((i:Nat):Int)))] T∧Mem st.h.get st.n [] st9 [(c2,0,[.str o,.str s,.int .i64 z,.int .i64 a,kk])]∧i≤l.length∧0≤m∧m≤most-1∧min (((RH l):Nat):Int) (most-1)=max m (min ((RH (l.drop i):Nat):Int) (most-1))) (fun mm1 T st9 hI=>?_) _ _ _ ⟨0,0,rfl,(.cons (K _ _ rfl) (.cons (K _ _ rfl) (.cons (K _ _ rfl) (.cons (K _ _ rfl) (.cons (K _ _ rfl) .nil))))),M.less (.refl _),(Nat.zero_le _),(by omega),(by omega),(by rw[List.drop_zero];omega)⟩;obtain⟨i,m,rfl,K,M,hi,hm1,hm2,hinv⟩:=hI;refine Qf 3 K M ?_;intro _ K;refine o1 K (QL Q7 rfl rfl hK.len) rfl fun _ K=>?_;refine Qf 1 K M ?_;intro _ K;refine Qm (K.QF rfl) (fun h15=>?_) (fun h15=>?_)
  · have hb15:=h15;replace h15:=of_decide_eq_true h15;refine Qf 4 K M ?_;intro _ K;obtain⟨⟨o22,s22,z22,a22,l22⟩,hi22⟩: ∃k,l[i]? =some k:=⟨_,List.getElem?_eq_getElem (by omega)⟩;have hm22:=J6 hi22;obtain⟨_,hc22,hn22⟩:=hK.at_ _ _ hi22;have hp22:=hn22;obtain⟨kk22,ls22,rfl,hK22,hb22⟩:=hp22.QJ;obtain⟨x22,m22,f22,q22,_,la22,lo22,lp22⟩:=(hK.r.mem M (by simp)).load (i:=i) (cs:=_) hc22;refine o1 K (Qj (j:=i) QH (congrArg some q22) rfl (by rw[hK.ln];omega)) rfl fun _ K=>o1 K (Qr rfl (la22 _ Qs)) rfl fun _ K=>o1 K (Qd rfl) rfl fun _ K=>o1 K (Hq rfl rfl (by omega) (by omega)) rfl fun _ K=>?_;refine oQ K M (ih _ (hm22) (most-1) _ _ M.fresh (hn22.mono M.rows) (by omega) (by omega)) rfl rfl fun _ _ K M=>?_;refine o1 K (Tw rfl rfl) rfl fun _ K=>?_;refine Qf 2 K M ?_;intro _ K;refine o1 K (Jf rfl rfl (by omega) (by omega)) rfl fun _ K=>o1 K (Q0 rfl) rfl fun _ K=>Qy ?_;have hst:=BA hi22;have hsp:=Pn (.mk o22 s22 z22 a22 l22);exact⟨_,(by omega),i+1,(max m (min ((LB (.mk o22 s22 z22 a22 l22):Nat):Int) (most-1))),rfl,(.cons (K _ _ rfl) (.cons (K _ _ rfl) (.cons (K _ _ rfl) (.cons (K _ _ rfl) (.cons (K _ _ rfl) .nil))))),M.less (.refl _),(by omega),(by omega),(by omega),(by omega)⟩
  · have hb15:=h15;replace h15:=of_decide_eq_false h15;refine J7 ?_;show W _ _ _ _ _ _ _;refine Qf 1 K M ?_;intro _ K;refine o1 K (Jf rfl rfl (by omega) (by omega)) rfl fun _ K=>?_;refine Qf 1 K M ?_;intro _ K;refine Qe ⟨.inr rfl,_,J5 K rfl,?_⟩;refine⟨congrArg (AV.int .i64) ?_,M.qt⟩
    first
     |(rw[LB,Jo (show l.length≤i by omega),RH]at *;omega)
     |(rw[LB];omega)
end Go.Proofs.YtadjjadimlkkgaaGreatDoor
end
section
namespace Go.Proofs.YtadjjadimlkkgaaGreatDoor
open Go
set_option maxRecDepth 100000

theorem Wz:tk Tryz.prog 55=.one:=by kernel_rfl
end Go.Proofs.YtadjjadimlkkgaaGreatDoor
end
