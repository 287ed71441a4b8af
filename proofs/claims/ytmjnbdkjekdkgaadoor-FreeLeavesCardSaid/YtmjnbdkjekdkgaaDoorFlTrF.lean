/-
  Same by the reference, free.Join, FreeJoin.
-/
import Derived.Test.YtmjnbdkjekdkgaaDoorFlTrD
namespace Go.Proofs.YtmjnbdkjekdkgaaDoor
open Go Go.RowKit
set_option linter.unusedVariables false
set_option linter.unusedSimpArgs false
set_option maxRecDepth 100000
set_option maxHeartbeats 1000000

def Nd.num : Nd → Int
 | .mk _ _ n _ _ => n
/-- What joining yields, by cells. -/
def joinC (o s : List Nat) (z a : Int) (kk : AV) : List AV → List AV
  | [.str ok, .str _, .int _ zk, .int _ _, kkk] => if ok = oNum then [.str oNum, .str [], .int .i64 (z + zk), .int .i64 a, .nils] else if ok = oPlus then [.str o, .str s, .int .i64 (z + zk), .int .i64 a, kkk] else [.str o, .str s, .int .i64 z, .int .i64 a, kk]
  | _ => [.str o, .str s, .int .i64 z, .int .i64 a, kk]
theorem join_ev {o s : List Nat} {z a : Int} {l : List Nd} {kk : AV} {ls : List (List AV)} {st : St} (hf : Fresh st) (hK : KidsR st.h.get l kk ls) (hz : 0 ≤ z ∧ z ≤ 100000) (hkb : ∀ k, l[0]? = some k → 0 ≤ k.num ∧ k.num ≤ 100000) : ∃ v st', Ev Tryd.prog envD 30 [.agg [.str o, .str s, .int .i64 z, .int .i64 a, kk]] st v st' ∧ v = .agg (if o = oPlus ∧ ((l.length : Nat) : Int) = 1 then joinC o s z a kk (ls[0]?.getD []) else [.str o, .str s, .int .i64 z, .int .i64 a, kk]) ∧ Qt st st' := by
 have hln := hK.ln
 have hbn := hK.bnd
 refine J8 rfl Tryd.func30 rfl Tryd.ntmps30 rfl (by decide) (by simp) fun T hT => ?_
 have K : KnT [(0, _)] T := (.cons (hT 0) .nil)
 have M := Mem.start hf
 refine Qg <| Qa ?_
 refine Uf K M rfl (Qf rfl (Qf rfl (Qf rfl (Qf rfl (Qf hK.cell Jc))))) (by decide) fun c1 _ _ K M => ?_
 refine J2 K M Jl (by decide) fun c2 _ _ K M => ?_
 refine Qd ?_
 show W _ _ _ _ _ _ _
 refine Qg <| Qg <| Qa <| o1 K (Qe Jb rfl) rfl fun _ K => o1 K (Qh rfl (M.load (k := 1) rfl (Qk Qr rfl))) rfl fun _ K => o1 K (os_neS (b := [112, 108, 117, 115]) rfl rfl) rfl fun _ K => ?_
 refine oB K (Qc rfl) rfl fun b7 _ e7 K => ?_
 cases b7
 ·replace e7 : (o = [112, 108, 117, 115]) := by simpa using e7
  refine og K rfl rfl (Qe Q3 rfl) rfl fun _ K => og K rfl rfl (Qh rfl (M.load (k := 1) rfl (Qk Qy rfl))) rfl fun _ K => og K rfl rfl (Jm Jg rfl rfl hK.len) rfl fun _ K => og K rfl rfl (os_neI rfl rfl) rfl fun _ K => o1 K (Qj rfl rfl rfl) rfl fun _ K => Qd ?_
  show W _ _ _ _ _ _ _
  refine Qq (K.opd rfl) (fun h12 => ?_) (fun h12 => ?_)
  ·have hb12 := h12
   replace h12 : ¬ (((l.length : Nat) : Int) = 1) := by simpa using h12
   refine Qg <| Qa <| o1 K (Qh rfl (M.load (k := 1) rfl (Ql Qi rfl))) rfl fun _ K => ?_
   refine Q4 (k := 0) K M rfl rfl rfl Q8 rfl (Qf rfl (Qf rfl (Qf rfl (Qf rfl (Qf hK.cell Jc))))) rfl fun _ M => ?_
   refine Qd ?_
   show W _ _ _ _ _ _ _
   refine Qv ?_
   refine ⟨.inr rfl, _, (Qm (Jt K rfl (M.load (k := 0) rfl (Ql Qi rfl)))), ?_⟩
   refine ⟨congrArg AV.agg ?_, M.qt⟩
   simp_all [joinC, oPlus, oNum] <;> first | done | rfl
  have hb12 := h12
  replace h12 : (((l.length : Nat) : Int) = 1) := by simpa using h12
  refine Qz ?_
  show W _ _ _ _ _ _ _
  refine Qg <| Qa <| o1 K (Qe Q3 rfl) rfl fun _ K => o1 K (Qh rfl (M.load (k := 1) rfl (Qk Qy rfl))) rfl fun _ K => ?_
  obtain ⟨⟨o16, s16, z16, a16, l16⟩, hi16⟩ : ∃ k, l[0]? = some k := ⟨_, List.getElem?_eq_getElem (by first | omega | (have := bare_len (m := 1) (l := l) (by assumption); omega) | (have := bare_len (m := 2) (l := l) (by assumption); omega) | (have := Je (m := 1) (l := l) (by assumption); omega))⟩
  have hm16 := kids_mem hi16
  obtain ⟨_, hc16, hn16⟩ := hK.at_ _ _ hi16
  have hp16 := hn16
  obtain ⟨kk16, ls16, rfl, hK16, hb16⟩ := hp16.open5
  have hnb16 : 0 ≤ z16 ∧ z16 ≤ 100000 := hkb _ hi16
  obtain ⟨x16, m16, f16, q16, _, la16, lo16, lp16⟩ := (hK.r.mem M (by simp)).load (i := 0) (cs := _) hc16
  refine o1 K (Qu (j := 0) Jk (congrArg some q16) rfl (by rw [hK.ln]; first | omega | (have := bare_len (m := 1) (l := l) (by assumption); omega) | (have := bare_len (m := 2) (l := l) (by assumption); omega) | (have := Je (m := 1) (l := l) (by assumption); omega))) rfl fun _ K => o1 K (Qh rfl (la16 _ Qi)) rfl fun _ K => ?_
  refine J2 K M Jl (by decide) fun c3 _ _ K M => ?_
  refine Q4 (k := 0) K M rfl rfl rfl Q8 rfl (Qf rfl (Qf rfl (Qf rfl (Qf rfl (Qf hK16.cell Jc))))) rfl fun _ M => ?_
  refine Qd ?_
  show W _ _ _ _ _ _ _
  refine Qg <| Qg <| Qa <| o1 K (Qe Jb rfl) rfl fun _ K => o1 K (Qh rfl (M.load (k := 0) rfl (Qk Qr rfl))) rfl fun _ K => Qd ?_
  show W _ _ _ _ _ _ _
  refine Q6 <| Qg <| Qa <| o1 K (Jq (b := [110, 117, 109]) rfl rfl) rfl fun _ K => o1 K (Qb rfl) rfl fun _ K => Qd ?_
  show W _ _ _ _ _ _ _
  refine Qq (K.opd rfl) (fun h20 => ?_) (fun h20 => ?_)
  ·have hb20 := h20
   replace h20 := of_decide_eq_true h20
   refine Qg <| Qa <| o1 K (Qe J1 rfl) rfl fun _ K => o1 K (Qh rfl (M.load (k := 2) rfl (Qk Jy rfl))) rfl fun _ K => o1 K (Qe J1 rfl) rfl fun _ K => o1 K (Qh rfl (M.load (k := 0) rfl (Qk Jy rfl))) rfl fun _ K => o1 K (Jj rfl rfl (by omega) (by omega)) rfl fun _ K => o1 K (Qe fo_api_Node_3 rfl) rfl fun _ K => o1 K (Qh rfl (M.load (k := 2) rfl (Qk Jy rfl))) rfl fun _ K => ?_
   refine o1 K (os_build st_api_Node rfl rfl) rfl fun _ K => ?_
   refine Q4 (k := 1) K M rfl rfl rfl Q8 rfl rfl rfl fun _ M => ?_
   refine Qd ?_
   show W _ _ _ _ _ _ _
   refine Qv ?_
   refine ⟨.inr rfl, _, (Qm (Jt K rfl (M.load (k := 1) rfl (Ql Qi rfl)))), ?_⟩
   refine ⟨congrArg AV.agg ?_, M.qt⟩
   simp_all [joinC, oPlus, oNum] <;> first | done | rfl
  have hb20 := h20
  replace h20 := of_decide_eq_false h20
  refine Qg <| Qa <| o1 K (Jq (b := [112, 108, 117, 115]) rfl rfl) rfl fun _ K => o1 K (Qb rfl) rfl fun _ K => Qd ?_
  show W _ _ _ _ _ _ _
  refine Qq (K.opd rfl) (fun h30 => ?_) (fun h30 => ?_)
  ·have hb30 := h30
   replace h30 := of_decide_eq_true h30
   refine Qg <| Qa <| o1 K (Qe J1 rfl) rfl fun _ K => o1 K (Qh rfl (M.load (k := 2) rfl (Qk Jy rfl))) rfl fun _ K => o1 K (Qe J1 rfl) rfl fun _ K => o1 K (Qh rfl (M.load (k := 0) rfl (Qk Jy rfl))) rfl fun _ K => o1 K (Jj rfl rfl (by omega) (by omega)) rfl fun _ K => o1 K (Qe J1 rfl) rfl fun _ K => ?_
   refine Q4 (k := 2) K M rfl rfl rfl sz_int rfl rfl rfl fun _ M => ?_
   refine Qd ?_
   show W _ _ _ _ _ _ _
   refine Qa <| o1 K (Qe Q3 rfl) rfl fun _ K => o1 K (Qh rfl (M.load (k := 0) rfl (Qk Qy rfl))) rfl fun _ K => o1 K (Qe Q3 rfl) rfl fun _ K => ?_
   refine wr_store1 (k := 2) K M rfl rfl rfl sz_S_api_Node (hK16.cell) rfl fun _ M => ?_
   refine Qd ?_
   show W _ _ _ _ _ _ _
   refine Qg <| Qa <| o1 K (Qh rfl (M.load (k := 2) rfl (Ql Qi rfl))) rfl fun _ K => ?_
   refine Q4 (k := 1) K M rfl rfl rfl Q8 rfl (Qf rfl (Qf rfl (Qf rfl (Qf rfl (Qf hK16.cell Jc))))) rfl fun _ M => ?_
   refine Qd ?_
   show W _ _ _ _ _ _ _
   refine Qv ?_
   refine ⟨.inr rfl, _, (Qm (Jt K rfl (M.load (k := 1) rfl (Ql Qi rfl)))), ?_⟩
   refine ⟨congrArg AV.agg ?_, M.qt⟩
   simp_all [joinC, oPlus, oNum] <;> first | done | rfl
  have hb30 := h30
  replace h30 := of_decide_eq_false h30
  refine Qz ?_
  show W _ _ _ _ _ _ _
  refine Qg <| Qa <| o1 K (Qh rfl (M.load (k := 2) rfl (Ql Qi rfl))) rfl fun _ K => ?_
  refine Q4 (k := 1) K M rfl rfl rfl Q8 rfl (Qf rfl (Qf rfl (Qf rfl (Qf rfl (Qf hK.cell Jc))))) rfl fun _ M => ?_
  refine Qd ?_
  show W _ _ _ _ _ _ _
  refine Qv ?_
  refine ⟨.inr rfl, _, (Qm (Jt K rfl (M.load (k := 1) rfl (Ql Qi rfl)))), ?_⟩
  refine ⟨congrArg AV.agg ?_, M.qt⟩
  simp_all [joinC, oPlus, oNum] <;> first | done | rfl
 replace e7 : ¬ (o = [112, 108, 117, 115]) := by simpa using e7
 refine gn K rfl rfl rfl rfl fun _ K => gn K rfl rfl rfl rfl fun _ K => gn K rfl rfl rfl rfl fun _ K => gn K rfl rfl rfl rfl fun _ K => o1 K (Qj rfl rfl rfl) rfl fun _ K => Qd ?_
 show W _ _ _ _ _ _ _
 refine Qq (t := true) (K.opd rfl) (fun _ => ?_) (fun h => by cases h)
 refine Qg <| Qa <| o1 K (Qh rfl (M.load (k := 1) rfl (Ql Qi rfl))) rfl fun _ K => ?_
 refine Q4 (k := 0) K M rfl rfl rfl Q8 rfl (Qf rfl (Qf rfl (Qf rfl (Qf rfl (Qf hK.cell Jc))))) rfl fun _ M => ?_
 refine Qd ?_
 show W _ _ _ _ _ _ _
 refine Qv ?_
 refine ⟨.inr rfl, _, (Qm (Jt K rfl (M.load (k := 0) rfl (Ql Qi rfl)))), ?_⟩
 refine ⟨congrArg AV.agg ?_, M.qt⟩
 simp_all [joinC, oPlus, oNum] <;> first | done | rfl

theorem known7_ev (st : St) : Ev Tryd.prog envD 25 [] st (.bool true) st := ⟨0, 1, rfl⟩
theorem by_num : Bytes [110, 117, 109] ∧ Bytes [] := ⟨by unfold Bytes; decide, by unfold Bytes; decide⟩
end Go.Proofs.YtmjnbdkjekdkgaaDoor
