/-
  Same by the reference, free.Join, FreeJoin.
-/
import Derived.Test.YtmjnbdkjekdkgaaDoorFbTrD
namespace Go.Proofs.YtmjnbdkjekdkgaaDoor
open Go Go.RowKit
set_option linter.unusedVariables false
set_option linter.unusedSimpArgs false
set_option maxRecDepth 100000
set_option maxHeartbeats 1000000

theorem sameL_step2 {a b : List Nd} {i : Nat} {k k' : Nd} (ha : a[i]? = some k) (hb : b[i]? = some k') : sameL (a.drop i) (b.drop i) = (sameN k k' && sameL (a.drop (i + 1)) (b.drop (i + 1))) := by
 obtain ⟨h1, h2⟩ := List.getElem?_eq_some_iff.1 ha
 obtain ⟨h3, h4⟩ := List.getElem?_eq_some_iff.1 hb
 rw [List.drop_eq_getElem_cons h1, List.drop_eq_getElem_cons h3, h2, h4, sameL]
theorem sameL_len2 {a b : List Nd} (h : sameL a b = true) : a.length = b.length := by
 induction a generalizing b with
 | nil => cases b with
  | nil => rfl
  | cons _ _ => cases h
 | cons k l ih => cases b with
  | nil => cases h
  | cons k' r =>
   rw [sameL, Bool.and_eq_true] at h
   rw [List.length_cons, List.length_cons, ih h.2]
theorem sameL_ne {a b : List Nd} (h : ¬ ((a.length : Nat) : Int) = ((b.length : Nat) : Int)) : sameL a b = false := by
 cases e : sameL a b with
 | false => rfl
 | true => exact absurd (congrArg (fun n : Nat => (n : Int)) (sameL_len2 e)) h
theorem sameL_self2 {l : List Nd} (h : ∀ k, k ∈ l → sameN k k = true) : sameL l l = true := by
 induction l with
 | nil => rfl
 | cons a l ih => rw [sameL, h a (List.mem_cons_self ..), ih fun k hk => h k (List.mem_cons_of_mem _ hk)]; rfl
theorem sameN_self2 (k : Nd) : sameN k k = true := nd_rec (M := fun k => sameN k k = true) (fun op name n at_ kids ih => by rw [sameN, sameL_self2 ih]; simp) k
def Nd.num : Nd → Int
 | .mk _ _ n _ _ => n
/-- What joining yields, by cells. -/
def joinC (o s : List Nat) (z a : Int) (kk : AV) : List AV → List AV
  | [.str ok, .str _, .int _ zk, .int _ _, kkk] => if ok = oNum then [.str oNum, .str [], .int .i64 (z + zk), .int .i64 a, .nils] else if ok = oPlus then [.str o, .str s, .int .i64 (z + zk), .int .i64 a, kkk] else [.str o, .str s, .int .i64 z, .int .i64 a, kk]
  | _ => [.str o, .str s, .int .i64 z, .int .i64 a, kk]
theorem rSame_ev (x : Nd) : ∀ (y : Nd) (st : St) (cs ct : List AV), Fresh st → RdN st.h.get x cs → RdN st.h.get y ct → ∃ v st', Ev Tryd.prog envD 29 [.agg cs, .agg ct] st v st' ∧ v = .bool (sameN x y) ∧ Qt st st' := by
 refine nd_rec (M := fun x => ∀ (y : Nd) (st : St) (cs ct : List AV), Fresh st → RdN st.h.get x cs → RdN st.h.get y ct → ∃ v st', Ev Tryd.prog envD 29 [.agg cs, .agg ct] st v st' ∧ v = .bool (sameN x y) ∧ Qt st st') (fun o s z a l ih => ?_) x
 intro y st cs ct hf hr hr'
 obtain ⟨ow, sw, zw, aw, lw⟩ := y
 have hr0 := hr
 have hrw := hr'
 obtain ⟨kk, ls, rfl, hK, hb⟩ := hr.open5
 obtain ⟨kkw, lsw, rfl, hKw, hbw⟩ := hr'.open5
 have hln := hK.ln
 have hbn := hK.bnd
 have hbw := hKw.bnd
 refine J5 rfl Tryd.func29 rfl Tryd.ntmps29 rfl (by decide) (by simp) fun T hT => ?_
 have K : KnT [(0, _), (1, _)] T := (.cons (hT 0) (.cons (hT 1) .nil))
 have M := Mem.start hf
 refine Qh <| Qa ?_
 refine Ub K M rfl (Qf rfl (Qf rfl (Qf rfl (Qf rfl (Qf hK.cell Q7))))) (by decide) fun c2 _ _ K M => ?_
 refine Ub K M rfl (Qf rfl (Qf rfl (Qf rfl (Qf rfl (Qf hKw.cell Q7))))) (by decide) fun c3 _ _ K M => ?_
 refine o1 K (Qb rfl) rfl fun _ K => Qd ?_
 show W _ _ _ _ _ _ _
 refine Qh <| Qh <| Qa <| o1 K (Qe Je rfl) rfl fun _ K => o1 K (Qg rfl (M.load (k := 1) rfl (Qk Qx rfl))) rfl fun _ K => o1 K (Qe Je rfl) rfl fun _ K => o1 K (Qg rfl (M.load (k := 0) rfl (Qk Qx rfl))) rfl fun _ K => o1 K (os_neS rfl rfl) rfl fun _ K => ?_
 refine oB K (Qc rfl) rfl fun b11 _ e11 K => ?_
 cases b11
 ·replace e11 : (o = ow) := by simpa using e11
  refine og K rfl rfl (Qe Ja rfl) rfl fun _ K => og K rfl rfl (Qg rfl (M.load (k := 1) rfl (Qk Qx rfl))) rfl fun _ K => og K rfl rfl (Qe Ja rfl) rfl fun _ K => og K rfl rfl (Qg rfl (M.load (k := 0) rfl (Qk Qx rfl))) rfl fun _ K => og K rfl rfl (os_neS rfl rfl) rfl fun _ K => o1 K (Qj rfl rfl rfl) rfl fun _ K => ?_
  refine oB K (Qc rfl) rfl fun b18 _ e18 K => ?_
  cases b18
  ·replace e18 : (s = sw) := by simpa using e18
   refine og K rfl rfl (Qe Jp rfl) rfl fun _ K => og K rfl rfl (Qg rfl (M.load (k := 1) rfl (Qk Ju rfl))) rfl fun _ K => og K rfl rfl (Qe Jp rfl) rfl fun _ K => og K rfl rfl (Qg rfl (M.load (k := 0) rfl (Qk Ju rfl))) rfl fun _ K => og K rfl rfl (os_neI rfl rfl) rfl fun _ K => o1 K (Qj rfl rfl rfl) rfl fun _ K => ?_
   refine oB K (Qc rfl) rfl fun b25 _ e25 K => ?_
   cases b25
   ·replace e25 : (z = zw) := by simpa using e25
    refine og K rfl rfl (Qe Qw rfl) rfl fun _ K => og K rfl rfl (Qg rfl (M.load (k := 1) rfl (Qk Qu rfl))) rfl fun _ K => og K rfl rfl (Jn Q9 rfl rfl hK.len) rfl fun _ K => og K rfl rfl (Qe Qw rfl) rfl fun _ K => og K rfl rfl (Qg rfl (M.load (k := 0) rfl (Qk Qu rfl))) rfl fun _ K => og K rfl rfl (Jn Q9 rfl rfl hKw.len) rfl fun _ K => og K rfl rfl (os_neI rfl rfl) rfl fun _ K => o1 K (Qj rfl rfl rfl) rfl fun _ K => Qd ?_
    show W _ _ _ _ _ _ _
    refine Qr (K.opd rfl) (fun h33 => ?_) (fun h33 => ?_)
    ·have hb33 := h33
     replace h33 : ¬ (((l.length : Nat) : Int) = ((lw.length : Nat) : Int)) := by simpa using h33
     refine Qh <| Qa <| o1 K (Qb rfl) rfl fun _ K => Qd ?_
     show W _ _ _ _ _ _ _
     refine Qs ?_
     refine ⟨.inr rfl, _, (Qm (Qp K rfl)), ?_⟩
     refine ⟨congrArg AV.bool ?_, M.qt⟩
     rw [sameN]
     try clear M
     try clear ih
     try clear hr
     try clear hr0
     try clear hp
     try clear hn
     try clear hK
     try clear hb
     try clear hc
     try clear hm
     try clear hpw
     try clear hnw
     try clear hKw
     try clear hbw
     try clear hcw
     try clear hmw
     try clear hln
     try clear hbn
     try clear hf
     first | (rw [sameL_ne (by assumption)]; simp; done) | (simp_all; done)
    have hb33 := h33
    replace h33 : (((l.length : Nat) : Int) = ((lw.length : Nat) : Int)) := by simpa using h33
    refine Q3 ?_
    show W _ _ _ _ _ _ _
    refine Qh <| Qh <| Qa <| o1 K (Qb rfl) rfl fun _ K => Qd ?_
    show W _ _ _ _ _ _ _
    refine Q5 ?_
    refine w_loop (fun mm1 T st9 => ∃ (i : Nat), mm1 = l.length - i ∧ KnT [(2, .ptr c2 0 0), (3, .ptr c3 0 0), (5, .int .i64 (((i : Nat) : Int)))] T ∧ Mem st.h.get st.n [] st9 [(c3, 0, [.str ow, .str sw, .int .i64 zw, .int .i64 aw, kkw]), (c2, 0, [.str o, .str s, .int .i64 z, .int .i64 a, kk])] ∧ i ≤ l.length ∧ sameL l lw = sameL (l.drop i) (lw.drop i)) (fun mm1 T st9 hI => ?_) _ _ _ ⟨0, rfl, (.cons (K _ _ rfl) (.cons (K _ _ rfl) (.cons (K _ _ rfl) .nil))), M.less (.refl _), (Nat.zero_le _), rfl⟩
    obtain ⟨i, rfl, K, M, hi, hx⟩ := hI
    refine Qh <| Qh <| Qa <| o1 K (Qc rfl) rfl fun _ K => o1 K (Qe Qw rfl) rfl fun _ K => o1 K (Qg rfl (M.load (k := 1) rfl (Qk Qu rfl))) rfl fun _ K => o1 K (Jn Q9 rfl rfl hK.len) rfl fun _ K => o1 K (os_lss rfl rfl) rfl fun _ K => Qd ?_
    show W _ _ _ _ _ _ _
    refine Qr (K.opd rfl) (fun h38 => ?_) (fun h38 => ?_)
    ·have hb38 := h38
     replace h38 := of_decide_eq_true h38
     refine Q3 ?_
     show W _ _ _ _ _ _ _
     refine Qh <| Q5 <| Qh ?_
     refine w_drawI (l := [(0, 0), (1, 0), (2, 0), (3, 0), (4, 0), (5, 0), (6, 0), (7, 0), (8, 0), (9, 0), (10, 0), (11, 0)]) (by kernel_rfl) ?_
     refine d1 rfl K (Qe Qw rfl) rfl rfl fun _ K => d1 rfl K (Qg rfl (M.load (k := 1) rfl (Qk Qu rfl))) rfl rfl fun _ K => d1 rfl K (Qc rfl) rfl rfl fun _ K => ?_
     obtain ⟨⟨o44, s44, z44, a44, l44⟩, hi44⟩ : ∃ k, l[i]? = some k := ⟨_, List.getElem?_eq_getElem (by first | omega | (have := bare_len (m := 1) (l := l) (by assumption); omega) | (have := bare_len (m := 2) (l := l) (by assumption); omega) | (have := Q8 (m := 1) (l := l) (by assumption); omega))⟩
     have hm44 := kids_mem hi44
     obtain ⟨_, hc44, hn44⟩ := hK.at_ _ _ hi44
     have hp44 := hn44
     obtain ⟨kk44, ls44, rfl, hK44, hb44⟩ := hp44.open5
     obtain ⟨x44, m44, f44, q44, _, la44, lo44, lp44⟩ := (hK.r.mem M (by simp)).load (i := i) (cs := _) hc44
     refine d1 rfl K (Q0 (j := i) Jf (congrArg some q44) rfl (by rw [hK.ln]; first | omega | (have := bare_len (m := 1) (l := l) (by assumption); omega) | (have := bare_len (m := 2) (l := l) (by assumption); omega) | (have := Q8 (m := 1) (l := l) (by assumption); omega))) rfl rfl fun _ K => d1 rfl K (Qg rfl (la44 _ Qi)) rfl rfl fun _ K => d1 rfl K (Qe Qw rfl) rfl rfl fun _ K => d1 rfl K (Qg rfl (M.load (k := 0) rfl (Qk Qu rfl))) rfl rfl fun _ K => d1 rfl K (Qc rfl) rfl rfl fun _ K => ?_
     obtain ⟨⟨o49, s49, z49, a49, l49⟩, hi49⟩ : ∃ k, lw[i]? = some k := ⟨_, List.getElem?_eq_getElem (by first | omega | (have := bare_len (m := 1) (l := l) (by assumption); omega) | (have := bare_len (m := 2) (l := l) (by assumption); omega) | (have := Q8 (m := 1) (l := l) (by assumption); omega))⟩
     have hm49 := kids_mem hi49
     obtain ⟨_, hc49, hn49⟩ := hKw.at_ _ _ hi49
     have hp49 := hn49
     obtain ⟨kk49, ls49, rfl, hK49, hb49⟩ := hp49.open5
     obtain ⟨x49, m49, f49, q49, _, la49, lo49, lp49⟩ := (hKw.r.mem M (by simp)).load (i := i) (cs := _) hc49
     refine d1 rfl K (Q0 (j := i) Jf (congrArg some q49) rfl (by rw [hKw.ln]; first | omega | (have := bare_len (m := 1) (l := l) (by assumption); omega) | (have := bare_len (m := 2) (l := l) (by assumption); omega) | (have := Q8 (m := 1) (l := l) (by assumption); omega))) rfl rfl fun _ K => d1 rfl K (Qg rfl (la49 _ Qi)) rfl rfl fun _ K => ?_
     obtain ⟨v51, st51, ev51, rfl, q51⟩ := ih _ hm44 _ _ _ _ M.fresh (hn44.mono M.rows) (hn49.mono M.rows)
     refine dA rfl K (Qn rfl ev51) rfl rfl fun _ K => ?_
     replace M := M.quiet q51
     refine d1 rfl K (os_not rfl) rfl rfl fun _ K => wd_nil ?_
     show W _ _ _ _ _ _ _
     refine Qr (K.opd rfl) (fun h52 => ?_) (fun h52 => ?_)
     ·have hb52 := h52
      replace h52 : (sameN (.mk o44 s44 z44 a44 l44) (.mk o49 s49 z49 a49 l49)) = false := by first | simpa using h52 | (revert h52; cases (sameN (.mk o44 s44 z44 a44 l44) (.mk o49 s49 z49 a49 l49)) <;> simp)
      refine Qh <| Qa <| o1 K (Qb rfl) rfl fun _ K => Qd ?_
      show W _ _ _ _ _ _ _
      refine Qs ?_
      refine ⟨.inr rfl, _, (Qm (Qp K rfl)), ?_⟩
      refine ⟨congrArg AV.bool ?_, M.qt⟩
      rw [sameN, hx, sameL_step2 hi44 hi49]
      simp [h52]
     have hb52 := h52
     replace h52 : (sameN (.mk o44 s44 z44 a44 l44) (.mk o49 s49 z49 a49 l49)) = true := by first | simpa using h52 | (revert h52; cases (sameN (.mk o44 s44 z44 a44 l44) (.mk o49 s49 z49 a49 l49)) <;> simp)
     refine Q3 ?_
     show W _ _ _ _ _ _ _
     refine Qa <| o1 K (Qc rfl) rfl fun _ K => o1 K (Jm rfl rfl (by omega) (by omega)) rfl fun _ K => o1 K (Qb rfl) rfl fun _ K => Qd ?_
     exact ⟨_, (by omega), i + 1, rfl, (.cons (K _ _ rfl) (.cons (K _ _ rfl) (.cons (K _ _ rfl) .nil))), M.less (.refl _), (by omega), (by rw [hx, sameL_step2 hi44 hi49]; simp [h52])⟩
    have hb38 := h38
    replace h38 := of_decide_eq_false h38
    refine Uk ?_
    show W _ _ _ _ _ _ _
    refine Qh <| Qa <| o1 K (Qb rfl) rfl fun _ K => Qd ?_
    show W _ _ _ _ _ _ _
    refine Qs ?_
    refine ⟨.inr rfl, _, (Qm (Qp K rfl)), ?_⟩
    refine ⟨congrArg AV.bool ?_, M.qt⟩
    rw [sameN, hx, Jl (by omega), Jl (by omega), sameL]
    try clear M
    try clear ih
    try clear hr
    try clear hr0
    try clear hp
    try clear hn
    try clear hK
    try clear hb
    try clear hc
    try clear hm
    try clear hpw
    try clear hnw
    try clear hKw
    try clear hbw
    try clear hcw
    try clear hmw
    try clear hln
    try clear hbn
    try clear hf
    simp_all
   replace e25 : ¬ (z = zw) := by simpa using e25
   refine gn K rfl rfl rfl rfl fun _ K => gn K rfl rfl rfl rfl fun _ K => gn K rfl rfl rfl rfl fun _ K => gn K rfl rfl rfl rfl fun _ K => gn K rfl rfl rfl rfl fun _ K => gn K rfl rfl rfl rfl fun _ K => gn K rfl rfl rfl rfl fun _ K => o1 K (Qj rfl rfl rfl) rfl fun _ K => Qd ?_
   show W _ _ _ _ _ _ _
   refine Qr (t := true) (K.opd rfl) (fun _ => ?_) (fun h => by cases h)
   refine Qh <| Qa <| o1 K (Qb rfl) rfl fun _ K => Qd ?_
   show W _ _ _ _ _ _ _
   refine Qs ?_
   refine ⟨.inr rfl, _, (Qm (Qp K rfl)), ?_⟩
   refine ⟨congrArg AV.bool ?_, M.qt⟩
   rw [sameN]
   try clear M
   try clear ih
   try clear hr
   try clear hr0
   try clear hp
   try clear hn
   try clear hK
   try clear hb
   try clear hc
   try clear hm
   try clear hpw
   try clear hnw
   try clear hKw
   try clear hbw
   try clear hcw
   try clear hmw
   try clear hln
   try clear hbn
   try clear hf
   first | (rw [sameL_ne (by assumption)]; simp; done) | (simp_all; done)
  replace e18 : ¬ (s = sw) := by simpa using e18
  refine gn K rfl rfl rfl rfl fun _ K => gn K rfl rfl rfl rfl fun _ K => gn K rfl rfl rfl rfl fun _ K => gn K rfl rfl rfl rfl fun _ K => gn K rfl rfl rfl rfl fun _ K => o1 K (Qj rfl rfl rfl) rfl fun _ K => o1 K (Qc rfl) rfl fun _ K => gn K rfl rfl rfl rfl fun _ K => gn K rfl rfl rfl rfl fun _ K => ?_
  refine gn K rfl rfl rfl rfl fun _ K => gn K rfl rfl rfl rfl fun _ K => gn K rfl rfl rfl rfl fun _ K => gn K rfl rfl rfl rfl fun _ K => gn K rfl rfl rfl rfl fun _ K => o1 K (Qj rfl rfl rfl) rfl fun _ K => Qd ?_
  show W _ _ _ _ _ _ _
  refine Qr (t := true) (K.opd rfl) (fun _ => ?_) (fun h => by cases h)
  refine Qh <| Qa <| o1 K (Qb rfl) rfl fun _ K => Qd ?_
  show W _ _ _ _ _ _ _
  refine Qs ?_
  refine ⟨.inr rfl, _, (Qm (Qp K rfl)), ?_⟩
  refine ⟨congrArg AV.bool ?_, M.qt⟩
  rw [sameN]
  try clear M
  try clear ih
  try clear hr
  try clear hr0
  try clear hp
  try clear hn
  try clear hK
  try clear hb
  try clear hc
  try clear hm
  try clear hpw
  try clear hnw
  try clear hKw
  try clear hbw
  try clear hcw
  try clear hmw
  try clear hln
  try clear hbn
  try clear hf
  first | (rw [sameL_ne (by assumption)]; simp; done) | (simp_all; done)
 replace e11 : ¬ (o = ow) := by simpa using e11
 refine gn K rfl rfl rfl rfl fun _ K => gn K rfl rfl rfl rfl fun _ K => gn K rfl rfl rfl rfl fun _ K => gn K rfl rfl rfl rfl fun _ K => gn K rfl rfl rfl rfl fun _ K => o1 K (Qj rfl rfl rfl) rfl fun _ K => o1 K (Qc rfl) rfl fun _ K => gn K rfl rfl rfl rfl fun _ K => gn K rfl rfl rfl rfl fun _ K => ?_
 refine gn K rfl rfl rfl rfl fun _ K => gn K rfl rfl rfl rfl fun _ K => gn K rfl rfl rfl rfl fun _ K => o1 K (Qj rfl rfl rfl) rfl fun _ K => o1 K (Qc rfl) rfl fun _ K => gn K rfl rfl rfl rfl fun _ K => gn K rfl rfl rfl rfl fun _ K => gn K rfl rfl rfl rfl fun _ K => gn K rfl rfl rfl rfl fun _ K => ?_
 refine gn K rfl rfl rfl rfl fun _ K => gn K rfl rfl rfl rfl fun _ K => gn K rfl rfl rfl rfl fun _ K => o1 K (Qj rfl rfl rfl) rfl fun _ K => Qd ?_
 show W _ _ _ _ _ _ _
 refine Qr (t := true) (K.opd rfl) (fun _ => ?_) (fun h => by cases h)
 refine Qh <| Qa <| o1 K (Qb rfl) rfl fun _ K => Qd ?_
 show W _ _ _ _ _ _ _
 refine Qs ?_
 refine ⟨.inr rfl, _, (Qm (Qp K rfl)), ?_⟩
 refine ⟨congrArg AV.bool ?_, M.qt⟩
 rw [sameN]
 try clear M
 try clear ih
 try clear hr
 try clear hr0
 try clear hp
 try clear hn
 try clear hK
 try clear hb
 try clear hc
 try clear hm
 try clear hpw
 try clear hnw
 try clear hKw
 try clear hbw
 try clear hcw
 try clear hmw
 try clear hln
 try clear hbn
 try clear hf
 first | (rw [sameL_ne (by assumption)]; simp; done) | (simp_all; done)

theorem join_ev {o s : List Nat} {z a : Int} {l : List Nd} {kk : AV} {ls : List (List AV)} {st : St} (hf : Fresh st) (hK : KidsR st.h.get l kk ls) (hz : 0 ≤ z ∧ z ≤ 100000) (hkb : ∀ k, l[0]? = some k → 0 ≤ k.num ∧ k.num ≤ 100000) : ∃ v st', Ev Tryd.prog envD 30 [.agg [.str o, .str s, .int .i64 z, .int .i64 a, kk]] st v st' ∧ v = .agg (if o = oPlus ∧ ((l.length : Nat) : Int) = 1 then joinC o s z a kk (ls[0]?.getD []) else [.str o, .str s, .int .i64 z, .int .i64 a, kk]) ∧ Qt st st' := by
 have hln := hK.ln
 have hbn := hK.bnd
 refine J5 rfl Tryd.func30 rfl Tryd.ntmps30 rfl (by decide) (by simp) fun T hT => ?_
 have K : KnT [(0, _)] T := (.cons (hT 0) .nil)
 have M := Mem.start hf
 refine Qh <| Qa ?_
 refine Ub K M rfl (Qf rfl (Qf rfl (Qf rfl (Qf rfl (Qf hK.cell Q7))))) (by decide) fun c1 _ _ K M => ?_
 refine Jy K M Jd (by decide) fun c2 _ _ K M => ?_
 refine Qd ?_
 show W _ _ _ _ _ _ _
 refine Qh <| Qh <| Qa <| o1 K (Qe Je rfl) rfl fun _ K => o1 K (Qg rfl (M.load (k := 1) rfl (Qk Qx rfl))) rfl fun _ K => o1 K (os_neS (b := [112, 108, 117, 115]) rfl rfl) rfl fun _ K => ?_
 refine oB K (Qc rfl) rfl fun b7 _ e7 K => ?_
 cases b7
 ·replace e7 : (o = [112, 108, 117, 115]) := by simpa using e7
  refine og K rfl rfl (Qe Qw rfl) rfl fun _ K => og K rfl rfl (Qg rfl (M.load (k := 1) rfl (Qk Qu rfl))) rfl fun _ K => og K rfl rfl (Jn Q9 rfl rfl hK.len) rfl fun _ K => og K rfl rfl (os_neI rfl rfl) rfl fun _ K => o1 K (Qj rfl rfl rfl) rfl fun _ K => Qd ?_
  show W _ _ _ _ _ _ _
  refine Qr (K.opd rfl) (fun h12 => ?_) (fun h12 => ?_)
  ·have hb12 := h12
   replace h12 : ¬ (((l.length : Nat) : Int) = 1) := by simpa using h12
   refine Qh <| Qa <| o1 K (Qg rfl (M.load (k := 1) rfl (Ql Qi rfl))) rfl fun _ K => ?_
   refine Qz (k := 0) K M rfl rfl rfl Q6 rfl (Qf rfl (Qf rfl (Qf rfl (Qf rfl (Qf hK.cell Q7))))) rfl fun _ M => ?_
   refine Qd ?_
   show W _ _ _ _ _ _ _
   refine Qs ?_
   refine ⟨.inr rfl, _, (Qm (Js K rfl (M.load (k := 0) rfl (Ql Qi rfl)))), ?_⟩
   refine ⟨congrArg AV.agg ?_, M.qt⟩
   simp_all [joinC, oPlus, oNum] <;> first | done | rfl
  have hb12 := h12
  replace h12 : (((l.length : Nat) : Int) = 1) := by simpa using h12
  refine Q3 ?_
  show W _ _ _ _ _ _ _
  refine Qh <| Qa <| o1 K (Qe Qw rfl) rfl fun _ K => o1 K (Qg rfl (M.load (k := 1) rfl (Qk Qu rfl))) rfl fun _ K => ?_
  obtain ⟨⟨o16, s16, z16, a16, l16⟩, hi16⟩ : ∃ k, l[0]? = some k := ⟨_, List.getElem?_eq_getElem (by first | omega | (have := bare_len (m := 1) (l := l) (by assumption); omega) | (have := bare_len (m := 2) (l := l) (by assumption); omega) | (have := Q8 (m := 1) (l := l) (by assumption); omega))⟩
  have hm16 := kids_mem hi16
  obtain ⟨_, hc16, hn16⟩ := hK.at_ _ _ hi16
  have hp16 := hn16
  obtain ⟨kk16, ls16, rfl, hK16, hb16⟩ := hp16.open5
  have hnb16 : 0 ≤ z16 ∧ z16 ≤ 100000 := hkb _ hi16
  obtain ⟨x16, m16, f16, q16, _, la16, lo16, lp16⟩ := (hK.r.mem M (by simp)).load (i := 0) (cs := _) hc16
  refine o1 K (Q0 (j := 0) Jf (congrArg some q16) rfl (by rw [hK.ln]; first | omega | (have := bare_len (m := 1) (l := l) (by assumption); omega) | (have := bare_len (m := 2) (l := l) (by assumption); omega) | (have := Q8 (m := 1) (l := l) (by assumption); omega))) rfl fun _ K => o1 K (Qg rfl (la16 _ Qi)) rfl fun _ K => ?_
  refine Jy K M Jd (by decide) fun c3 _ _ K M => ?_
  refine Qz (k := 0) K M rfl rfl rfl Q6 rfl (Qf rfl (Qf rfl (Qf rfl (Qf rfl (Qf hK16.cell Q7))))) rfl fun _ M => ?_
  refine Qd ?_
  show W _ _ _ _ _ _ _
  refine Qh <| Qh <| Qa <| o1 K (Qe Je rfl) rfl fun _ K => o1 K (Qg rfl (M.load (k := 0) rfl (Qk Qx rfl))) rfl fun _ K => Qd ?_
  show W _ _ _ _ _ _ _
  refine Q5 <| Qh <| Qa <| o1 K (Jo (b := [110, 117, 109]) rfl rfl) rfl fun _ K => o1 K (Qb rfl) rfl fun _ K => Qd ?_
  show W _ _ _ _ _ _ _
  refine Qr (K.opd rfl) (fun h20 => ?_) (fun h20 => ?_)
  ·have hb20 := h20
   replace h20 := of_decide_eq_true h20
   refine Qh <| Qa <| o1 K (Qe Jp rfl) rfl fun _ K => o1 K (Qg rfl (M.load (k := 2) rfl (Qk Ju rfl))) rfl fun _ K => o1 K (Qe Jp rfl) rfl fun _ K => o1 K (Qg rfl (M.load (k := 0) rfl (Qk Ju rfl))) rfl fun _ K => o1 K (Jm rfl rfl (by omega) (by omega)) rfl fun _ K => o1 K (Qe fo_api_Node_3 rfl) rfl fun _ K => o1 K (Qg rfl (M.load (k := 2) rfl (Qk Ju rfl))) rfl fun _ K => ?_
   refine o1 K (os_build st_api_Node rfl rfl) rfl fun _ K => ?_
   refine Qz (k := 1) K M rfl rfl rfl Q6 rfl rfl rfl fun _ M => ?_
   refine Qd ?_
   show W _ _ _ _ _ _ _
   refine Qs ?_
   refine ⟨.inr rfl, _, (Qm (Js K rfl (M.load (k := 1) rfl (Ql Qi rfl)))), ?_⟩
   refine ⟨congrArg AV.agg ?_, M.qt⟩
   simp_all [joinC, oPlus, oNum] <;> first | done | rfl
  have hb20 := h20
  replace h20 := of_decide_eq_false h20
  refine Qh <| Qa <| o1 K (Jo (b := [112, 108, 117, 115]) rfl rfl) rfl fun _ K => o1 K (Qb rfl) rfl fun _ K => Qd ?_
  show W _ _ _ _ _ _ _
  refine Qr (K.opd rfl) (fun h30 => ?_) (fun h30 => ?_)
  ·have hb30 := h30
   replace h30 := of_decide_eq_true h30
   refine Qh <| Qa <| o1 K (Qe Jp rfl) rfl fun _ K => o1 K (Qg rfl (M.load (k := 2) rfl (Qk Ju rfl))) rfl fun _ K => o1 K (Qe Jp rfl) rfl fun _ K => o1 K (Qg rfl (M.load (k := 0) rfl (Qk Ju rfl))) rfl fun _ K => o1 K (Jm rfl rfl (by omega) (by omega)) rfl fun _ K => o1 K (Qe Jp rfl) rfl fun _ K => ?_
   refine Qz (k := 2) K M rfl rfl rfl sz_int rfl rfl rfl fun _ M => ?_
   refine Qd ?_
   show W _ _ _ _ _ _ _
   refine Qa <| o1 K (Qe Qw rfl) rfl fun _ K => o1 K (Qg rfl (M.load (k := 0) rfl (Qk Qu rfl))) rfl fun _ K => o1 K (Qe Qw rfl) rfl fun _ K => ?_
   refine wr_store1 (k := 2) K M rfl rfl rfl sz_S_api_Node (hK16.cell) rfl fun _ M => ?_
   refine Qd ?_
   show W _ _ _ _ _ _ _
   refine Qh <| Qa <| o1 K (Qg rfl (M.load (k := 2) rfl (Ql Qi rfl))) rfl fun _ K => ?_
   refine Qz (k := 1) K M rfl rfl rfl Q6 rfl (Qf rfl (Qf rfl (Qf rfl (Qf rfl (Qf hK16.cell Q7))))) rfl fun _ M => ?_
   refine Qd ?_
   show W _ _ _ _ _ _ _
   refine Qs ?_
   refine ⟨.inr rfl, _, (Qm (Js K rfl (M.load (k := 1) rfl (Ql Qi rfl)))), ?_⟩
   refine ⟨congrArg AV.agg ?_, M.qt⟩
   simp_all [joinC, oPlus, oNum] <;> first | done | rfl
  have hb30 := h30
  replace h30 := of_decide_eq_false h30
  refine Q3 ?_
  show W _ _ _ _ _ _ _
  refine Qh <| Qa <| o1 K (Qg rfl (M.load (k := 2) rfl (Ql Qi rfl))) rfl fun _ K => ?_
  refine Qz (k := 1) K M rfl rfl rfl Q6 rfl (Qf rfl (Qf rfl (Qf rfl (Qf rfl (Qf hK.cell Q7))))) rfl fun _ M => ?_
  refine Qd ?_
  show W _ _ _ _ _ _ _
  refine Qs ?_
  refine ⟨.inr rfl, _, (Qm (Js K rfl (M.load (k := 1) rfl (Ql Qi rfl)))), ?_⟩
  refine ⟨congrArg AV.agg ?_, M.qt⟩
  simp_all [joinC, oPlus, oNum] <;> first | done | rfl
 replace e7 : ¬ (o = [112, 108, 117, 115]) := by simpa using e7
 refine gn K rfl rfl rfl rfl fun _ K => gn K rfl rfl rfl rfl fun _ K => gn K rfl rfl rfl rfl fun _ K => gn K rfl rfl rfl rfl fun _ K => o1 K (Qj rfl rfl rfl) rfl fun _ K => Qd ?_
 show W _ _ _ _ _ _ _
 refine Qr (t := true) (K.opd rfl) (fun _ => ?_) (fun h => by cases h)
 refine Qh <| Qa <| o1 K (Qg rfl (M.load (k := 1) rfl (Ql Qi rfl))) rfl fun _ K => ?_
 refine Qz (k := 0) K M rfl rfl rfl Q6 rfl (Qf rfl (Qf rfl (Qf rfl (Qf rfl (Qf hK.cell Q7))))) rfl fun _ M => ?_
 refine Qd ?_
 show W _ _ _ _ _ _ _
 refine Qs ?_
 refine ⟨.inr rfl, _, (Qm (Js K rfl (M.load (k := 0) rfl (Ql Qi rfl)))), ?_⟩
 refine ⟨congrArg AV.agg ?_, M.qt⟩
 simp_all [joinC, oPlus, oNum] <;> first | done | rfl

theorem known7_ev (st : St) : Ev Tryd.prog envD 25 [] st (.bool true) st := ⟨0, 1, rfl⟩
theorem by_num : Bytes [110, 117, 109] ∧ Bytes [] := ⟨by unfold Bytes; decide, by unfold Bytes; decide⟩
end Go.Proofs.YtmjnbdkjekdkgaaDoor
