/-
  Same by the reference, free.Join, FreeJoin.
-/
import Derived.Test.YtmjnbdkjekdkgaaDoorTrD
namespace Go.Proofs.YtmjnbdkjekdkgaaDoor
open Go Go.RowKit
set_option linter.unusedVariables false
set_option linter.unusedSimpArgs false
set_option maxRecDepth 100000
set_option maxHeartbeats 1000000

theorem sameL_step2 {a b : List Nd} {i : Nat} {k k' : Nd} (ha : a[i]? = some k) (hb : b[i]? = some k') : sameL (a.drop i) (b.drop i) = (sameN k k' && sameL (a.drop (i + 1)) (b.drop (i + 1))) := by
  obtain ⟨h1, h2⟩ := List.getElem?_eq_some_iff.1 ha
  obtain ⟨h3, h4⟩ := List.getElem?_eq_some_iff.1 hb
  rw [List.drop_eq_getElem_cons h1, List.drop_eq_getElem_cons h3, h2, h4, sameL]
theorem sameL_len2 {a b : List Nd} (h : sameL a b = true) : a.length = b.length := by
  induction a generalizing b with
  | nil => cases b with
    | nil => rfl
    | cons _ _ => cases h
  | cons k l ih => cases b with
    | nil => cases h
    | cons k' r =>
      rw [sameL, Bool.and_eq_true] at h
      rw [List.length_cons, List.length_cons, ih h.2]
theorem sameL_ne {a b : List Nd} (h : ¬ ((a.length : Nat) : Int) = ((b.length : Nat) : Int)) : sameL a b = false := by
  cases e : sameL a b with
  | false => rfl
  | true => exact absurd (congrArg (fun n : Nat => (n : Int)) (sameL_len2 e)) h
theorem sameL_self2 {l : List Nd} (h : ∀ k, k ∈ l → sameN k k = true) : sameL l l = true := by
  induction l with
  | nil => rfl
  | cons a l ih => rw [sameL, h a (List.mem_cons_self ..), ih fun k hk => h k (List.mem_cons_of_mem _ hk)]; rfl
theorem sameN_self2 (k : Nd) : sameN k k = true := nd_rec (M := fun k => sameN k k = true) (fun op name n at_ kids ih => by rw [sameN, sameL_self2 ih]; simp) k
def Nd.num : Nd → Int
  | .mk _ _ n _ _ => n
/-- What joining yields, by cells. -/
def joinC (o s : List Nat) (z a : Int) (kk : AV) : List AV → List AV
  | [.str ok, .str _, .int _ zk, .int _ _, kkk] => if ok = oNum then [.str oNum, .str [], .int .i64 (z + zk), .int .i64 a, .nils] else if ok = oPlus then [.str o, .str s, .int .i64 (z + zk), .int .i64 a, kkk] else [.str o, .str s, .int .i64 z, .int .i64 a, kk]
  | _ => [.str o, .str s, .int .i64 z, .int .i64 a, kk]
theorem RdN.one {h : Hp} {k : Nd} {kc : List AV} {o s : List Nat} {z a : Int} {c : Nat} (hr : RowV h c 0 kc) (hk : RdN h k kc) (hb : Bytes o ∧ Bytes s) : RdN h (.mk o s z a [k]) [.str o, .str s, .int .i64 z, .int .i64 a, .sl c 0 0 1 5] := by
  have h5 : kc.length = 5 := by
    obtain ⟨ko, ks, kz, ka, kl⟩ := k
    obtain ⟨_, _, rfl, _⟩ := hk.open5
    rfl
  refine .node (kids := [k]) hr (by simp) (by rw [h5]; simp) (fun i k' hi => ?_) hb
  match i, hi with
  | 0, hi =>
    injection hi with hi
    subst hi
    rw [Nat.zero_mul, Nat.zero_add, List.drop_zero, List.take_of_length_le (by omega)]
    exact hk

theorem rSame_ev (x : Nd) : ∀ (y : Nd) (st : St) (cs ct : List AV), Fresh st → RdN st.h.get x cs → RdN st.h.get y ct → ∃ v st', Ev Tryd.prog envD 29 [.agg cs, .agg ct] st v st' ∧ v = .bool (sameN x y) ∧ Qt st st' := by
 refine nd_rec (M := fun x => ∀ (y : Nd) (st : St) (cs ct : List AV), Fresh st → RdN st.h.get x cs → RdN st.h.get y ct → ∃ v st', Ev Tryd.prog envD 29 [.agg cs, .agg ct] st v st' ∧ v = .bool (sameN x y) ∧ Qt st st') (fun o s z a l ih => ?_) x
 intro y st cs ct hf hr hr'
 obtain ⟨ow, sw, zw, aw, lw⟩ := y
 have hr0 := hr
 have hrw := hr'
 obtain ⟨kk, ls, rfl, hK, hb⟩ := hr.open5
 obtain ⟨kkw, lsw, rfl, hKw, hbw⟩ := hr'.open5
 have hln := hK.ln
 have hbn := hK.bnd
 have hbw := hKw.bnd
 refine ev_fn rfl Tryd.func29 rfl Tryd.ntmps29 rfl (by decide) (by simp) fun T hT => ?_
 have K : KnT [(0, _), (1, _)] T := (.cons (hT 0) (.cons (hT 1) .nil))
 have M := Mem.start hf
 refine w_seq ?_
 refine w_region ?_
 refine wr_box K M rfl (cl_cons rfl (cl_cons rfl (cl_cons rfl (cl_cons rfl (cl_cons hK.cell cl_nil))))) (by decide) fun c2 _ _ K M => ?_
 refine wr_box K M rfl (cl_cons rfl (cl_cons rfl (cl_cons rfl (cl_cons rfl (cl_cons hKw.cell cl_nil))))) (by decide) fun c3 _ _ K M => ?_
 refine o1 K (os_assign rfl) rfl fun _ K => ?_
 refine wr_nil ?_
 show W _ _ _ _ _ _ _
 refine w_seq ?_
 refine w_seq ?_
 refine w_region ?_
 refine o1 K (os_fieldAddr fo_api_Node_0 rfl) rfl fun _ K => ?_
 refine o1 K (os_load rfl (M.load (k := 1) rfl (part_one tk_string rfl))) rfl fun _ K => ?_
 refine o1 K (os_fieldAddr fo_api_Node_0 rfl) rfl fun _ K => ?_
 refine o1 K (os_load rfl (M.load (k := 0) rfl (part_one tk_string rfl))) rfl fun _ K => ?_
 refine o1 K (os_neS rfl rfl) rfl fun _ K => ?_
 refine oB K (os_move rfl) rfl fun b11 _ e11 K => ?_
 cases b11
 · replace e11 : (o = ow) := by simpa using e11
   refine og K rfl rfl (os_fieldAddr fo_api_Node_1 rfl) rfl fun _ K => ?_
   refine og K rfl rfl (os_load rfl (M.load (k := 1) rfl (part_one tk_string rfl))) rfl fun _ K => ?_
   refine og K rfl rfl (os_fieldAddr fo_api_Node_1 rfl) rfl fun _ K => ?_
   refine og K rfl rfl (os_load rfl (M.load (k := 0) rfl (part_one tk_string rfl))) rfl fun _ K => ?_
   refine og K rfl rfl (os_neS rfl rfl) rfl fun _ K => ?_
   refine o1 K (os_pick rfl rfl rfl) rfl fun _ K => ?_
   refine oB K (os_move rfl) rfl fun b18 _ e18 K => ?_
   cases b18
   · replace e18 : (s = sw) := by simpa using e18
     refine og K rfl rfl (os_fieldAddr fo_api_Node_2 rfl) rfl fun _ K => ?_
     refine og K rfl rfl (os_load rfl (M.load (k := 1) rfl (part_one tk_int rfl))) rfl fun _ K => ?_
     refine og K rfl rfl (os_fieldAddr fo_api_Node_2 rfl) rfl fun _ K => ?_
     refine og K rfl rfl (os_load rfl (M.load (k := 0) rfl (part_one tk_int rfl))) rfl fun _ K => ?_
     refine og K rfl rfl (os_neI rfl rfl) rfl fun _ K => ?_
     refine o1 K (os_pick rfl rfl rfl) rfl fun _ K => ?_
     refine oB K (os_move rfl) rfl fun b25 _ e25 K => ?_
     cases b25
     · replace e25 : (z = zw) := by simpa using e25
       refine og K rfl rfl (os_fieldAddr fo_api_Node_4 rfl) rfl fun _ K => ?_
       refine og K rfl rfl (os_load rfl (M.load (k := 1) rfl (part_one tk_S_api_Node rfl))) rfl fun _ K => ?_
       refine og K rfl rfl (os_lenL un_S_api_Node rfl rfl hK.len) rfl fun _ K => ?_
       refine og K rfl rfl (os_fieldAddr fo_api_Node_4 rfl) rfl fun _ K => ?_
       refine og K rfl rfl (os_load rfl (M.load (k := 0) rfl (part_one tk_S_api_Node rfl))) rfl fun _ K => ?_
       refine og K rfl rfl (os_lenL un_S_api_Node rfl rfl hKw.len) rfl fun _ K => ?_
       refine og K rfl rfl (os_neI rfl rfl) rfl fun _ K => ?_
       refine o1 K (os_pick rfl rfl rfl) rfl fun _ K => ?_
       refine wr_nil ?_
       show W _ _ _ _ _ _ _
       refine w_cond (K.opd rfl) (fun h33 => ?_) (fun h33 => ?_)
       · have hb33 := h33
         replace h33 : ¬ (((l.length : Nat) : Int) = ((lw.length : Nat) : Int)) := by simpa using h33
         refine w_seq ?_
         refine w_region ?_
         refine o1 K (os_assign rfl) rfl fun _ K => ?_
         refine wr_nil ?_
         show W _ _ _ _ _ _ _
         refine w_ret ?_
         refine ⟨.inr rfl, _, (res_one (rs_tmp K rfl)), ?_⟩
         refine ⟨congrArg AV.bool ?_, M.qt⟩
         rw [sameN]
         try clear M
         try clear ih
         try clear hr
         try clear hr0
         try clear hp
         try clear hn
         try clear hK
         try clear hb
         try clear hc
         try clear hm
         try clear hpw
         try clear hnw
         try clear hKw
         try clear hbw
         try clear hcw
         try clear hmw
         try clear hln
         try clear hbn
         try clear hf
         first | (rw [sameL_ne (by assumption)]; simp; done) | (simp_all; done)
       have hb33 := h33
       replace h33 : (((l.length : Nat) : Int) = ((lw.length : Nat) : Int)) := by simpa using h33
       refine w_skip ?_
       show W _ _ _ _ _ _ _
       refine w_seq ?_
       refine w_seq ?_
       refine w_region ?_
       refine o1 K (os_assign rfl) rfl fun _ K => ?_
       refine wr_nil ?_
       show W _ _ _ _ _ _ _
       refine w_block ?_
       refine w_loop (fun mm1 T st9 => ∃ (i : Nat), mm1 = l.length - i ∧ KnT [(2, .ptr c2 0 0), (3, .ptr c3 0 0), (5, .int .i64 (((i : Nat) : Int)))] T ∧ Mem st.h.get st.n [] st9 [(c3, 0, [.str ow, .str sw, .int .i64 zw, .int .i64 aw, kkw]), (c2, 0, [.str o, .str s, .int .i64 z, .int .i64 a, kk])] ∧ i ≤ l.length ∧ sameL l lw = sameL (l.drop i) (lw.drop i)) (fun mm1 T st9 hI => ?_) _ _ _ ⟨0, rfl, (.cons (K _ _ rfl) (.cons (K _ _ rfl) (.cons (K _ _ rfl) .nil))), M.less (.refl _), (Nat.zero_le _), rfl⟩
       obtain ⟨i, rfl, K, M, hi, hx⟩ := hI
       refine w_seq ?_
       refine w_seq ?_
       refine w_region ?_
       refine o1 K (os_move rfl) rfl fun _ K => ?_
       refine o1 K (os_fieldAddr fo_api_Node_4 rfl) rfl fun _ K => ?_
       refine o1 K (os_load rfl (M.load (k := 1) rfl (part_one tk_S_api_Node rfl))) rfl fun _ K => ?_
       refine o1 K (os_lenL un_S_api_Node rfl rfl hK.len) rfl fun _ K => ?_
       refine o1 K (os_lss rfl rfl) rfl fun _ K => ?_
       refine wr_nil ?_
       show W _ _ _ _ _ _ _
       refine w_cond (K.opd rfl) (fun h38 => ?_) (fun h38 => ?_)
       · have hb38 := h38
         replace h38 := of_decide_eq_true h38
         refine w_skip ?_
         show W _ _ _ _ _ _ _
         refine w_seq ?_
         refine w_block ?_
         refine w_seq ?_
         refine w_drawI (l := [(0, 0), (1, 0), (2, 0), (3, 0), (4, 0), (5, 0), (6, 0), (7, 0), (8, 0), (9, 0), (10, 0), (11, 0)]) (by kernel_rfl) ?_
         refine d1 rfl K (os_fieldAddr fo_api_Node_4 rfl) rfl rfl fun _ K => ?_
         refine d1 rfl K (os_load rfl (M.load (k := 1) rfl (part_one tk_S_api_Node rfl))) rfl rfl fun _ K => ?_
         refine d1 rfl K (os_move rfl) rfl rfl fun _ K => ?_
         obtain ⟨⟨o44, s44, z44, a44, l44⟩, hi44⟩ : ∃ k, l[i]? = some k := ⟨_, List.getElem?_eq_getElem (by first | omega | (have := bare_len (m := 1) (l := l) (by assumption); omega) | (have := bare_len (m := 2) (l := l) (by assumption); omega) | (have := has_len (m := 1) (l := l) (by assumption); omega))⟩
         have hm44 := kids_mem hi44
         obtain ⟨_, hc44, hn44⟩ := hK.at_ _ _ hi44
         have hp44 := hn44
         obtain ⟨kk44, ls44, rfl, hK44, hb44⟩ := hp44.open5
         obtain ⟨x44, m44, f44, q44, _, la44, lo44, lp44⟩ := (hK.r.mem M (by simp)).load (i := i) (cs := _) hc44
         refine d1 rfl K (os_indexAddr (j := i) el_S_api_Node (congrArg some q44) rfl (by rw [hK.ln]; first | omega | (have := bare_len (m := 1) (l := l) (by assumption); omega) | (have := bare_len (m := 2) (l := l) (by assumption); omega) | (have := has_len (m := 1) (l := l) (by assumption); omega))) rfl rfl fun _ K => ?_
         refine d1 rfl K (os_load rfl (la44 _ tk_api_Node)) rfl rfl fun _ K => ?_
         refine d1 rfl K (os_fieldAddr fo_api_Node_4 rfl) rfl rfl fun _ K => ?_
         refine d1 rfl K (os_load rfl (M.load (k := 0) rfl (part_one tk_S_api_Node rfl))) rfl rfl fun _ K => ?_
         refine d1 rfl K (os_move rfl) rfl rfl fun _ K => ?_
         obtain ⟨⟨o49, s49, z49, a49, l49⟩, hi49⟩ : ∃ k, lw[i]? = some k := ⟨_, List.getElem?_eq_getElem (by first | omega | (have := bare_len (m := 1) (l := l) (by assumption); omega) | (have := bare_len (m := 2) (l := l) (by assumption); omega) | (have := has_len (m := 1) (l := l) (by assumption); omega))⟩
         have hm49 := kids_mem hi49
         obtain ⟨_, hc49, hn49⟩ := hKw.at_ _ _ hi49
         have hp49 := hn49
         obtain ⟨kk49, ls49, rfl, hK49, hb49⟩ := hp49.open5
         obtain ⟨x49, m49, f49, q49, _, la49, lo49, lp49⟩ := (hKw.r.mem M (by simp)).load (i := i) (cs := _) hc49
         refine d1 rfl K (os_indexAddr (j := i) el_S_api_Node (congrArg some q49) rfl (by rw [hKw.ln]; first | omega | (have := bare_len (m := 1) (l := l) (by assumption); omega) | (have := bare_len (m := 2) (l := l) (by assumption); omega) | (have := has_len (m := 1) (l := l) (by assumption); omega))) rfl rfl fun _ K => ?_
         refine d1 rfl K (os_load rfl (la49 _ tk_api_Node)) rfl rfl fun _ K => ?_
         obtain ⟨v51, st51, ev51, rfl, q51⟩ := ih _ hm44 _ _ _ _ M.fresh (hn44.mono M.rows) (hn49.mono M.rows)
         refine dA rfl K (os_call rfl ev51) rfl rfl fun _ K => ?_
         replace M := M.quiet q51
         refine d1 rfl K (os_not rfl) rfl rfl fun _ K => ?_
         refine wd_nil ?_
         show W _ _ _ _ _ _ _
         refine w_cond (K.opd rfl) (fun h52 => ?_) (fun h52 => ?_)
         · have hb52 := h52
           replace h52 : (sameN (.mk o44 s44 z44 a44 l44) (.mk o49 s49 z49 a49 l49)) = false := by first | simpa using h52 | (revert h52; cases (sameN (.mk o44 s44 z44 a44 l44) (.mk o49 s49 z49 a49 l49)) <;> simp)
           refine w_seq ?_
           refine w_region ?_
           refine o1 K (os_assign rfl) rfl fun _ K => ?_
           refine wr_nil ?_
           show W _ _ _ _ _ _ _
           refine w_ret ?_
           refine ⟨.inr rfl, _, (res_one (rs_tmp K rfl)), ?_⟩
           refine ⟨congrArg AV.bool ?_, M.qt⟩
           rw [sameN, hx, sameL_step2 hi44 hi49]
           simp [h52]
         have hb52 := h52
         replace h52 : (sameN (.mk o44 s44 z44 a44 l44) (.mk o49 s49 z49 a49 l49)) = true := by first | simpa using h52 | (revert h52; cases (sameN (.mk o44 s44 z44 a44 l44) (.mk o49 s49 z49 a49 l49)) <;> simp)
         refine w_skip ?_
         show W _ _ _ _ _ _ _
         refine w_region ?_
         refine o1 K (os_move rfl) rfl fun _ K => ?_
         refine o1 K (os_add rfl rfl (by omega) (by omega)) rfl fun _ K => ?_
         refine o1 K (os_assign rfl) rfl fun _ K => ?_
         refine wr_nil ?_
         exact ⟨_, (by omega), i + 1, rfl, (.cons (K _ _ rfl) (.cons (K _ _ rfl) (.cons (K _ _ rfl) .nil))), M.less (.refl _), (by omega), (by rw [hx, sameL_step2 hi44 hi49]; simp [h52])⟩
       have hb38 := h38
       replace h38 := of_decide_eq_false h38
       refine w_exit ?_
       show W _ _ _ _ _ _ _
       refine w_seq ?_
       refine w_region ?_
       refine o1 K (os_assign rfl) rfl fun _ K => ?_
       refine wr_nil ?_
       show W _ _ _ _ _ _ _
       refine w_ret ?_
       refine ⟨.inr rfl, _, (res_one (rs_tmp K rfl)), ?_⟩
       refine ⟨congrArg AV.bool ?_, M.qt⟩
       rw [sameN, hx, drop_end (by omega), drop_end (by omega), sameL]
       try clear M
       try clear ih
       try clear hr
       try clear hr0
       try clear hp
       try clear hn
       try clear hK
       try clear hb
       try clear hc
       try clear hm
       try clear hpw
       try clear hnw
       try clear hKw
       try clear hbw
       try clear hcw
       try clear hmw
       try clear hln
       try clear hbn
       try clear hf
       simp_all
     replace e25 : ¬ (z = zw) := by simpa using e25
     refine gn K rfl rfl rfl rfl fun _ K => ?_
     refine gn K rfl rfl rfl rfl fun _ K => ?_
     refine gn K rfl rfl rfl rfl fun _ K => ?_
     refine gn K rfl rfl rfl rfl fun _ K => ?_
     refine gn K rfl rfl rfl rfl fun _ K => ?_
     refine gn K rfl rfl rfl rfl fun _ K => ?_
     refine gn K rfl rfl rfl rfl fun _ K => ?_
     refine o1 K (os_pick rfl rfl rfl) rfl fun _ K => ?_
     refine wr_nil ?_
     show W _ _ _ _ _ _ _
     refine w_cond (t := true) (K.opd rfl) (fun _ => ?_) (fun h => by cases h)
     refine w_seq ?_
     refine w_region ?_
     refine o1 K (os_assign rfl) rfl fun _ K => ?_
     refine wr_nil ?_
     show W _ _ _ _ _ _ _
     refine w_ret ?_
     refine ⟨.inr rfl, _, (res_one (rs_tmp K rfl)), ?_⟩
     refine ⟨congrArg AV.bool ?_, M.qt⟩
     rw [sameN]
     try clear M
     try clear ih
     try clear hr
     try clear hr0
     try clear hp
     try clear hn
     try clear hK
     try clear hb
     try clear hc
     try clear hm
     try clear hpw
     try clear hnw
     try clear hKw
     try clear hbw
     try clear hcw
     try clear hmw
     try clear hln
     try clear hbn
     try clear hf
     first | (rw [sameL_ne (by assumption)]; simp; done) | (simp_all; done)
   replace e18 : ¬ (s = sw) := by simpa using e18
   refine gn K rfl rfl rfl rfl fun _ K => ?_
   refine gn K rfl rfl rfl rfl fun _ K => ?_
   refine gn K rfl rfl rfl rfl fun _ K => ?_
   refine gn K rfl rfl rfl rfl fun _ K => ?_
   refine gn K rfl rfl rfl rfl fun _ K => ?_
   refine o1 K (os_pick rfl rfl rfl) rfl fun _ K => ?_
   refine o1 K (os_move rfl) rfl fun _ K => ?_
   refine gn K rfl rfl rfl rfl fun _ K => ?_
   refine gn K rfl rfl rfl rfl fun _ K => ?_
   refine gn K rfl rfl rfl rfl fun _ K => ?_
   refine gn K rfl rfl rfl rfl fun _ K => ?_
   refine gn K rfl rfl rfl rfl fun _ K => ?_
   refine gn K rfl rfl rfl rfl fun _ K => ?_
   refine gn K rfl rfl rfl rfl fun _ K => ?_
   refine o1 K (os_pick rfl rfl rfl) rfl fun _ K => ?_
   refine wr_nil ?_
   show W _ _ _ _ _ _ _
   refine w_cond (t := true) (K.opd rfl) (fun _ => ?_) (fun h => by cases h)
   refine w_seq ?_
   refine w_region ?_
   refine o1 K (os_assign rfl) rfl fun _ K => ?_
   refine wr_nil ?_
   show W _ _ _ _ _ _ _
   refine w_ret ?_
   refine ⟨.inr rfl, _, (res_one (rs_tmp K rfl)), ?_⟩
   refine ⟨congrArg AV.bool ?_, M.qt⟩
   rw [sameN]
   try clear M
   try clear ih
   try clear hr
   try clear hr0
   try clear hp
   try clear hn
   try clear hK
   try clear hb
   try clear hc
   try clear hm
   try clear hpw
   try clear hnw
   try clear hKw
   try clear hbw
   try clear hcw
   try clear hmw
   try clear hln
   try clear hbn
   try clear hf
   first | (rw [sameL_ne (by assumption)]; simp; done) | (simp_all; done)
 replace e11 : ¬ (o = ow) := by simpa using e11
 refine gn K rfl rfl rfl rfl fun _ K => ?_
 refine gn K rfl rfl rfl rfl fun _ K => ?_
 refine gn K rfl rfl rfl rfl fun _ K => ?_
 refine gn K rfl rfl rfl rfl fun _ K => ?_
 refine gn K rfl rfl rfl rfl fun _ K => ?_
 refine o1 K (os_pick rfl rfl rfl) rfl fun _ K => ?_
 refine o1 K (os_move rfl) rfl fun _ K => ?_
 refine gn K rfl rfl rfl rfl fun _ K => ?_
 refine gn K rfl rfl rfl rfl fun _ K => ?_
 refine gn K rfl rfl rfl rfl fun _ K => ?_
 refine gn K rfl rfl rfl rfl fun _ K => ?_
 refine gn K rfl rfl rfl rfl fun _ K => ?_
 refine o1 K (os_pick rfl rfl rfl) rfl fun _ K => ?_
 refine o1 K (os_move rfl) rfl fun _ K => ?_
 refine gn K rfl rfl rfl rfl fun _ K => ?_
 refine gn K rfl rfl rfl rfl fun _ K => ?_
 refine gn K rfl rfl rfl rfl fun _ K => ?_
 refine gn K rfl rfl rfl rfl fun _ K => ?_
 refine gn K rfl rfl rfl rfl fun _ K => ?_
 refine gn K rfl rfl rfl rfl fun _ K => ?_
 refine gn K rfl rfl rfl rfl fun _ K => ?_
 refine o1 K (os_pick rfl rfl rfl) rfl fun _ K => ?_
 refine wr_nil ?_
 show W _ _ _ _ _ _ _
 refine w_cond (t := true) (K.opd rfl) (fun _ => ?_) (fun h => by cases h)
 refine w_seq ?_
 refine w_region ?_
 refine o1 K (os_assign rfl) rfl fun _ K => ?_
 refine wr_nil ?_
 show W _ _ _ _ _ _ _
 refine w_ret ?_
 refine ⟨.inr rfl, _, (res_one (rs_tmp K rfl)), ?_⟩
 refine ⟨congrArg AV.bool ?_, M.qt⟩
 rw [sameN]
 try clear M
 try clear ih
 try clear hr
 try clear hr0
 try clear hp
 try clear hn
 try clear hK
 try clear hb
 try clear hc
 try clear hm
 try clear hpw
 try clear hnw
 try clear hKw
 try clear hbw
 try clear hcw
 try clear hmw
 try clear hln
 try clear hbn
 try clear hf
 first | (rw [sameL_ne (by assumption)]; simp; done) | (simp_all; done)

theorem join_ev {o s : List Nat} {z a : Int} {l : List Nd} {kk : AV} {ls : List (List AV)} {st : St} (hf : Fresh st) (hK : KidsR st.h.get l kk ls) (hz : 0 ≤ z ∧ z ≤ 100000) (hkb : ∀ k, l[0]? = some k → 0 ≤ k.num ∧ k.num ≤ 100000) : ∃ v st', Ev Tryd.prog envD 30 [.agg [.str o, .str s, .int .i64 z, .int .i64 a, kk]] st v st' ∧ v = .agg (if o = oPlus ∧ ((l.length : Nat) : Int) = 1 then joinC o s z a kk (ls[0]?.getD []) else [.str o, .str s, .int .i64 z, .int .i64 a, kk]) ∧ Qt st st' := by
 have hln := hK.ln
 have hbn := hK.bnd
 refine ev_fn rfl Tryd.func30 rfl Tryd.ntmps30 rfl (by decide) (by simp) fun T hT => ?_
 have K : KnT [(0, _)] T := (.cons (hT 0) .nil)
 have M := Mem.start hf
 refine w_seq ?_
 refine w_region ?_
 refine wr_box K M rfl (cl_cons rfl (cl_cons rfl (cl_cons rfl (cl_cons rfl (cl_cons hK.cell cl_nil))))) (by decide) fun c1 _ _ K M => ?_
 refine wr_alloc K M ze_api_Node (by decide) fun c2 _ _ K M => ?_
 refine wr_nil ?_
 show W _ _ _ _ _ _ _
 refine w_seq ?_
 refine w_seq ?_
 refine w_region ?_
 refine o1 K (os_fieldAddr fo_api_Node_0 rfl) rfl fun _ K => ?_
 refine o1 K (os_load rfl (M.load (k := 1) rfl (part_one tk_string rfl))) rfl fun _ K => ?_
 refine o1 K (os_neS (b := [112, 108, 117, 115]) rfl rfl) rfl fun _ K => ?_
 refine oB K (os_move rfl) rfl fun b7 _ e7 K => ?_
 cases b7
 · replace e7 : (o = [112, 108, 117, 115]) := by simpa using e7
   refine og K rfl rfl (os_fieldAddr fo_api_Node_4 rfl) rfl fun _ K => ?_
   refine og K rfl rfl (os_load rfl (M.load (k := 1) rfl (part_one tk_S_api_Node rfl))) rfl fun _ K => ?_
   refine og K rfl rfl (os_lenL un_S_api_Node rfl rfl hK.len) rfl fun _ K => ?_
   refine og K rfl rfl (os_neI rfl rfl) rfl fun _ K => ?_
   refine o1 K (os_pick rfl rfl rfl) rfl fun _ K => ?_
   refine wr_nil ?_
   show W _ _ _ _ _ _ _
   refine w_cond (K.opd rfl) (fun h12 => ?_) (fun h12 => ?_)
   · have hb12 := h12
     replace h12 : ¬ (((l.length : Nat) : Int) = 1) := by simpa using h12
     refine w_seq ?_
     refine w_region ?_
     refine o1 K (os_load rfl (M.load (k := 1) rfl (part_agg tk_api_Node rfl))) rfl fun _ K => ?_
     refine wr_store (k := 0) K M rfl rfl rfl sz_api_Node rfl (cl_cons rfl (cl_cons rfl (cl_cons rfl (cl_cons rfl (cl_cons hK.cell cl_nil))))) rfl fun _ M => ?_
     refine wr_nil ?_
     show W _ _ _ _ _ _ _
     refine w_ret ?_
     refine ⟨.inr rfl, _, (res_one (rs_cell K rfl (M.load (k := 0) rfl (part_agg tk_api_Node rfl)))), ?_⟩
     refine ⟨congrArg AV.agg ?_, M.qt⟩
     simp_all [joinC, oPlus, oNum] <;> first | done | rfl
   have hb12 := h12
   replace h12 : (((l.length : Nat) : Int) = 1) := by simpa using h12
   refine w_skip ?_
   show W _ _ _ _ _ _ _
   refine w_seq ?_
   refine w_region ?_
   refine o1 K (os_fieldAddr fo_api_Node_4 rfl) rfl fun _ K => ?_
   refine o1 K (os_load rfl (M.load (k := 1) rfl (part_one tk_S_api_Node rfl))) rfl fun _ K => ?_
   obtain ⟨⟨o16, s16, z16, a16, l16⟩, hi16⟩ : ∃ k, l[0]? = some k := ⟨_, List.getElem?_eq_getElem (by first | omega | (have := bare_len (m := 1) (l := l) (by assumption); omega) | (have := bare_len (m := 2) (l := l) (by assumption); omega) | (have := has_len (m := 1) (l := l) (by assumption); omega))⟩
   have hm16 := kids_mem hi16
   obtain ⟨_, hc16, hn16⟩ := hK.at_ _ _ hi16
   have hp16 := hn16
   obtain ⟨kk16, ls16, rfl, hK16, hb16⟩ := hp16.open5
   have hnb16 : 0 ≤ z16 ∧ z16 ≤ 100000 := hkb _ hi16
   obtain ⟨x16, m16, f16, q16, _, la16, lo16, lp16⟩ := (hK.r.mem M (by simp)).load (i := 0) (cs := _) hc16
   refine o1 K (os_indexAddr (j := 0) el_S_api_Node (congrArg some q16) rfl (by rw [hK.ln]; first | omega | (have := bare_len (m := 1) (l := l) (by assumption); omega) | (have := bare_len (m := 2) (l := l) (by assumption); omega) | (have := has_len (m := 1) (l := l) (by assumption); omega))) rfl fun _ K => ?_
   refine o1 K (os_load rfl (la16 _ tk_api_Node)) rfl fun _ K => ?_
   refine wr_alloc K M ze_api_Node (by decide) fun c3 _ _ K M => ?_
   refine wr_store (k := 0) K M rfl rfl rfl sz_api_Node rfl (cl_cons rfl (cl_cons rfl (cl_cons rfl (cl_cons rfl (cl_cons hK16.cell cl_nil))))) rfl fun _ M => ?_
   refine wr_nil ?_
   show W _ _ _ _ _ _ _
   refine w_seq ?_
   refine w_seq ?_
   refine w_region ?_
   refine o1 K (os_fieldAddr fo_api_Node_0 rfl) rfl fun _ K => ?_
   refine o1 K (os_load rfl (M.load (k := 0) rfl (part_one tk_string rfl))) rfl fun _ K => ?_
   refine wr_nil ?_
   show W _ _ _ _ _ _ _
   refine w_block ?_
   refine w_seq ?_
   refine w_region ?_
   refine o1 K (os_eqS (b := [110, 117, 109]) rfl rfl) rfl fun _ K => ?_
   refine o1 K (os_assign rfl) rfl fun _ K => ?_
   refine wr_nil ?_
   show W _ _ _ _ _ _ _
   refine w_cond (K.opd rfl) (fun h20 => ?_) (fun h20 => ?_)
   · have hb20 := h20
     replace h20 := of_decide_eq_true h20
     refine w_seq ?_
     refine w_region ?_
     refine o1 K (os_fieldAddr fo_api_Node_2 rfl) rfl fun _ K => ?_
     refine o1 K (os_load rfl (M.load (k := 2) rfl (part_one tk_int rfl))) rfl fun _ K => ?_
     refine o1 K (os_fieldAddr fo_api_Node_2 rfl) rfl fun _ K => ?_
     refine o1 K (os_load rfl (M.load (k := 0) rfl (part_one tk_int rfl))) rfl fun _ K => ?_
     refine o1 K (os_add rfl rfl (by omega) (by omega)) rfl fun _ K => ?_
     refine o1 K (os_fieldAddr fo_api_Node_3 rfl) rfl fun _ K => ?_
     refine o1 K (os_load rfl (M.load (k := 2) rfl (part_one tk_int rfl))) rfl fun _ K => ?_
     refine o1 K (os_build st_api_Node rfl rfl) rfl fun _ K => ?_
     refine wr_store (k := 1) K M rfl rfl rfl sz_api_Node rfl rfl rfl fun _ M => ?_
     refine wr_nil ?_
     show W _ _ _ _ _ _ _
     refine w_ret ?_
     refine ⟨.inr rfl, _, (res_one (rs_cell K rfl (M.load (k := 1) rfl (part_agg tk_api_Node rfl)))), ?_⟩
     refine ⟨congrArg AV.agg ?_, M.qt⟩
     simp_all [joinC, oPlus, oNum] <;> first | done | rfl
   have hb20 := h20
   replace h20 := of_decide_eq_false h20
   refine w_seq ?_
   refine w_region ?_
   refine o1 K (os_eqS (b := [112, 108, 117, 115]) rfl rfl) rfl fun _ K => ?_
   refine o1 K (os_assign rfl) rfl fun _ K => ?_
   refine wr_nil ?_
   show W _ _ _ _ _ _ _
   refine w_cond (K.opd rfl) (fun h30 => ?_) (fun h30 => ?_)
   · have hb30 := h30
     replace h30 := of_decide_eq_true h30
     refine w_seq ?_
     refine w_region ?_
     refine o1 K (os_fieldAddr fo_api_Node_2 rfl) rfl fun _ K => ?_
     refine o1 K (os_load rfl (M.load (k := 2) rfl (part_one tk_int rfl))) rfl fun _ K => ?_
     refine o1 K (os_fieldAddr fo_api_Node_2 rfl) rfl fun _ K => ?_
     refine o1 K (os_load rfl (M.load (k := 0) rfl (part_one tk_int rfl))) rfl fun _ K => ?_
     refine o1 K (os_add rfl rfl (by omega) (by omega)) rfl fun _ K => ?_
     refine o1 K (os_fieldAddr fo_api_Node_2 rfl) rfl fun _ K => ?_
     refine wr_store (k := 2) K M rfl rfl rfl sz_int rfl rfl rfl fun _ M => ?_
     refine wr_nil ?_
     show W _ _ _ _ _ _ _
     refine w_region ?_
     refine o1 K (os_fieldAddr fo_api_Node_4 rfl) rfl fun _ K => ?_
     refine o1 K (os_load rfl (M.load (k := 0) rfl (part_one tk_S_api_Node rfl))) rfl fun _ K => ?_
     refine o1 K (os_fieldAddr fo_api_Node_4 rfl) rfl fun _ K => ?_
     refine wr_store1 (k := 2) K M rfl rfl rfl sz_S_api_Node (hK16.cell) rfl fun _ M => ?_
     refine wr_nil ?_
     show W _ _ _ _ _ _ _
     refine w_seq ?_
     refine w_region ?_
     refine o1 K (os_load rfl (M.load (k := 2) rfl (part_agg tk_api_Node rfl))) rfl fun _ K => ?_
     refine wr_store (k := 1) K M rfl rfl rfl sz_api_Node rfl (cl_cons rfl (cl_cons rfl (cl_cons rfl (cl_cons rfl (cl_cons hK16.cell cl_nil))))) rfl fun _ M => ?_
     refine wr_nil ?_
     show W _ _ _ _ _ _ _
     refine w_ret ?_
     refine ⟨.inr rfl, _, (res_one (rs_cell K rfl (M.load (k := 1) rfl (part_agg tk_api_Node rfl)))), ?_⟩
     refine ⟨congrArg AV.agg ?_, M.qt⟩
     simp_all [joinC, oPlus, oNum] <;> first | done | rfl
   have hb30 := h30
   replace h30 := of_decide_eq_false h30
   refine w_skip ?_
   show W _ _ _ _ _ _ _
   refine w_seq ?_
   refine w_region ?_
   refine o1 K (os_load rfl (M.load (k := 2) rfl (part_agg tk_api_Node rfl))) rfl fun _ K => ?_
   refine wr_store (k := 1) K M rfl rfl rfl sz_api_Node rfl (cl_cons rfl (cl_cons rfl (cl_cons rfl (cl_cons rfl (cl_cons hK.cell cl_nil))))) rfl fun _ M => ?_
   refine wr_nil ?_
   show W _ _ _ _ _ _ _
   refine w_ret ?_
   refine ⟨.inr rfl, _, (res_one (rs_cell K rfl (M.load (k := 1) rfl (part_agg tk_api_Node rfl)))), ?_⟩
   refine ⟨congrArg AV.agg ?_, M.qt⟩
   simp_all [joinC, oPlus, oNum] <;> first | done | rfl
 replace e7 : ¬ (o = [112, 108, 117, 115]) := by simpa using e7
 refine gn K rfl rfl rfl rfl fun _ K => ?_
 refine gn K rfl rfl rfl rfl fun _ K => ?_
 refine gn K rfl rfl rfl rfl fun _ K => ?_
 refine gn K rfl rfl rfl rfl fun _ K => ?_
 refine o1 K (os_pick rfl rfl rfl) rfl fun _ K => ?_
 refine wr_nil ?_
 show W _ _ _ _ _ _ _
 refine w_cond (t := true) (K.opd rfl) (fun _ => ?_) (fun h => by cases h)
 refine w_seq ?_
 refine w_region ?_
 refine o1 K (os_load rfl (M.load (k := 1) rfl (part_agg tk_api_Node rfl))) rfl fun _ K => ?_
 refine wr_store (k := 0) K M rfl rfl rfl sz_api_Node rfl (cl_cons rfl (cl_cons rfl (cl_cons rfl (cl_cons rfl (cl_cons hK.cell cl_nil))))) rfl fun _ M => ?_
 refine wr_nil ?_
 show W _ _ _ _ _ _ _
 refine w_ret ?_
 refine ⟨.inr rfl, _, (res_one (rs_cell K rfl (M.load (k := 0) rfl (part_agg tk_api_Node rfl)))), ?_⟩
 refine ⟨congrArg AV.agg ?_, M.qt⟩
 simp_all [joinC, oPlus, oNum] <;> first | done | rfl

theorem KidsR.one {h : Hp} {k : Nd} {kc : List AV} {c : Nat} (hr : RowV h c 0 kc) (hk : RdN h k kc) : KidsR h [k] (.sl c 0 0 1 5) [kc] := by
  have h5 : kc.length = 5 := by
    obtain ⟨ko, ks, kz, ka, kl⟩ := k
    obtain ⟨_, _, rfl, _⟩ := hk.open5
    rfl
  refine ⟨⟨rfl, by simp, rfl, fun i cs hi => ?_, fun c' m' off n z e => ?_⟩, rfl, fun i k' hi => ?_⟩
  · match i, hi with
    | 0, hi =>
      injection hi with hi
      subst hi
      exact ⟨c, 0, 0, kc, rfl, by simp, hr, h5, by rw [Nat.zero_mul, Nat.zero_add, List.drop_zero, List.take_of_length_le (by omega)]⟩
  · injection e with e1 e2 e3 e4 e5
    subst e1 e2 e3 e4 e5
    exact ⟨by simp, kc, hr, by omega⟩
  · match i, hi with
    | 0, hi =>
      injection hi with hi
      subst hi
      exact ⟨kc, rfl, hk⟩
theorem tx_num : textOf { data := #[110, 117, 109] } = [110, 117, 109] := rfl
theorem tx_plus : textOf { data := #[112, 108, 117, 115] } = [112, 108, 117, 115] := rfl
theorem tx_var : textOf { data := #[118, 97, 114] } = [118, 97, 114] := rfl
theorem known7_ev (st : St) : Ev Tryd.prog envD 25 [] st (.bool true) st := ⟨0, 1, rfl⟩
theorem by_num : Bytes [110, 117, 109] ∧ Bytes [] := ⟨by unfold Bytes; decide, by unfold Bytes; decide⟩
theorem by_plus : Bytes [112, 108, 117, 115] ∧ Bytes [] := ⟨by unfold Bytes; decide, by unfold Bytes; decide⟩
theorem by_var : Bytes [118, 97, 114] ∧ Bytes [120] := ⟨by unfold Bytes; decide, by unfold Bytes; decide⟩

theorem freeJoin_ev {m n : Int} {st : St} (hf : Fresh st) : ∃ v st', Ev Tryd.prog envD 8 [.int .i64 m, .int .i64 n] st v st' ∧ v = .bool true := by
 refine ev_fn rfl Tryd.func8 rfl Tryd.ntmps8 rfl (by decide) (by simp) fun T hT => ?_
 have K : KnT [(0, _), (1, _)] T := (.cons (hT 0) (.cons (hT 1) .nil))
 have M := Mem.start hf
 refine w_seq ?_
 refine w_region ?_
 refine o1 K (os_assign rfl) rfl fun _ K => ?_
 refine wr_nil ?_
 show W _ _ _ _ _ _ _
 refine w_seq ?_
 refine w_seq ?_
 refine w_region ?_
 refine o1 K (os_move rfl) rfl fun _ K => ?_
 refine o1 K (os_lss rfl rfl) rfl fun _ K => ?_
 refine oB K (os_move rfl) rfl fun b11 _ e11 K => ?_
 cases b11
 · replace e11 := of_decide_eq_false e11
   refine og K rfl rfl (os_move rfl) rfl fun _ K => ?_
   refine og K rfl rfl (os_gtr rfl rfl) rfl fun _ K => ?_
   refine o1 K (os_pick rfl rfl rfl) rfl fun _ K => ?_
   refine oB K (os_move rfl) rfl fun b15 _ e15 K => ?_
   cases b15
   · replace e15 := of_decide_eq_false e15
     refine og K rfl rfl (os_move rfl) rfl fun _ K => ?_
     refine og K rfl rfl (os_lss rfl rfl) rfl fun _ K => ?_
     refine o1 K (os_pick rfl rfl rfl) rfl fun _ K => ?_
     refine oB K (os_move rfl) rfl fun b19 _ e19 K => ?_
     cases b19
     · replace e19 := of_decide_eq_false e19
       refine og K rfl rfl (os_move rfl) rfl fun _ K => ?_
       refine og K rfl rfl (os_gtr rfl rfl) rfl fun _ K => ?_
       refine o1 K (os_pick rfl rfl rfl) rfl fun _ K => ?_
       refine wr_nil ?_
       show W _ _ _ _ _ _ _
       refine w_cond (K.opd rfl) (fun h22 => ?_) (fun h22 => ?_)
       · have hb22 := h22
         replace h22 := of_decide_eq_true h22
         refine w_seq ?_
         refine w_region ?_
         refine o1 K (os_assign rfl) rfl fun _ K => ?_
         refine wr_nil ?_
         show W _ _ _ _ _ _ _
         refine w_ret ?_
         refine ⟨.inr rfl, _, (res_one (rs_tmp K rfl)), ?_⟩
         first
          | rfl
          | (simp_all; done)
          | (exfalso; simp_all; done)
          | (exfalso; omega)
       have hb22 := h22
       replace h22 := of_decide_eq_false h22
       refine w_skip ?_
       show W _ _ _ _ _ _ _
       refine w_seq ?_
       refine w_region ?_
       refine o1 K (os_build st_api_Node rfl rfl) rfl fun _ K => ?_
       refine wr_alloc K M ze_api_Node (by decide) fun c5 _ _ K M => ?_
       refine wr_store (k := 0) K M rfl rfl rfl sz_api_Node rfl rfl rfl fun _ M => ?_
       refine wr_nil ?_
       show W _ _ _ _ _ _ _
       refine w_seq ?_
       refine w_region ?_
       refine o1 K (os_move rfl) rfl fun _ K => ?_
       refine o1 K (os_load rfl (M.load (k := 0) rfl (part_agg tk_api_Node rfl))) rfl fun _ K => ?_
       refine wr_bs K M sl_S_api_Node ze_api_Node rfl rfl rfl rfl rfl fun c26 _ _ K M => ?_
       refine o1 K (os_build st_api_Node rfl rfl) rfl fun _ K => ?_
       refine wr_alloc K M ze_api_Node (by decide) fun c6 _ _ K M => ?_
       refine wr_store (k := 0) K M rfl rfl rfl sz_api_Node rfl rfl rfl fun _ M => ?_
       refine wr_nil ?_
       show W _ _ _ _ _ _ _
       refine w_seq ?_
       refine w_region ?_
       refine o1 K (os_move rfl) rfl fun _ K => ?_
       refine o1 K (os_move rfl) rfl fun _ K => ?_
       refine o1 K (os_build st_api_Node rfl rfl) rfl fun _ K => ?_
       refine wr_bs K M sl_S_api_Node ze_api_Node rfl rfl rfl rfl rfl fun c31 _ _ K M => ?_
       refine o1 K (os_build st_api_Node rfl rfl) rfl fun _ K => ?_
       obtain ⟨v33, st33, ev33, rj33, q33⟩ := join_ev (o := [112, 108, 117, 115]) (s := []) (z := m) (a := 0) (l := [(.mk [110, 117, 109] [] n 0 [])]) M.fresh (KidsR.one ((M.row1 (k := 0) rfl).rowV) (RdN.leaf rfl rfl by_num)) (by omega) (fun k hk => by injection hk with hk; subst hk; show 0 ≤ n ∧ n ≤ 100000; omega)
       refine o1 K (os_call rfl ev33) rfl fun _ K => ?_
       replace rj33 : v33 = .agg [.str [110, 117, 109], .str [], .int .i64 ((m + n)), .int .i64 0, .nils] := rj33.trans (by simp [joinC, oPlus, oNum, tx_num, tx_plus, tx_var])
       subst rj33
       replace M := M.quiet q33
       refine wr_alloc K M ze_api_Node (by decide) fun c7 _ _ K M => ?_
       refine wr_store (k := 0) K M rfl rfl rfl sz_api_Node rfl rfl rfl fun _ M => ?_
       refine wr_nil ?_
       show W _ _ _ _ _ _ _
       refine w_seq ?_
       refine w_region ?_
       refine o1 K (os_move rfl) rfl fun _ K => ?_
       refine o1 K (os_load rfl (M.load (k := 2) rfl (part_agg tk_api_Node rfl))) rfl fun _ K => ?_
       refine wr_bs K M sl_S_api_Node ze_api_Node rfl rfl rfl rfl rfl fun c36 _ _ K M => ?_
       refine o1 K (os_build st_api_Node rfl rfl) rfl fun _ K => ?_
       obtain ⟨v38, st38, ev38, rj38, q38⟩ := join_ev (o := [112, 108, 117, 115]) (s := []) (z := m) (a := 0) (l := [(.mk [112, 108, 117, 115] [] n 0 [(.mk [118, 97, 114] [120] 0 0 [])])]) M.fresh (KidsR.one ((M.row1 (k := 0) rfl).rowV) (RdN.one ((M.row1 (k := 4) rfl).rowV) (RdN.leaf rfl rfl by_var) by_plus)) (by omega) (fun k hk => by injection hk with hk; subst hk; show 0 ≤ n ∧ n ≤ 100000; omega)
       refine o1 K (os_call rfl ev38) rfl fun _ K => ?_
       replace rj38 : v38 = .agg [.str [112, 108, 117, 115], .str [], .int .i64 ((m + n)), .int .i64 0, (.sl c26 0 0 1 5)] := rj38.trans (by simp [joinC, oPlus, oNum, tx_num, tx_plus, tx_var])
       subst rj38
       replace M := M.quiet q38
       refine wr_alloc K M ze_api_Node (by decide) fun c8 _ _ K M => ?_
       refine wr_store (k := 0) K M rfl rfl rfl sz_api_Node rfl rfl rfl fun _ M => ?_
       refine wr_nil ?_
       show W _ _ _ _ _ _ _
       refine w_seq ?_
       refine w_drawI (l := [(0, 0), (1, 0), (2, 0), (3, 0), (4, 0), (5, 0), (6, 0), (7, 0), (8, 0), (9, 0), (10, 0), (11, 0), (12, 0), (13, 0), (14, 0), (15, 0), (16, 0), (17, 0), (18, 0), (19, 0), (20, 0), (21, 0), (22, 0), (23, 0), (24, 0), (25, 0), (26, 0), (27, 0), (28, 0), (29, 0), (30, 0), (31, 0), (32, 0), (33, 0), (34, 0), (35, 0), (36, 0), (37, 0), (38, 0), (39, 0), (40, 0), (41, 1), (42, 0), (43, 0), (44, 0), (45, 0), (46, 0), (47, 0)]) (by kernel_rfl) ?_
       refine d1 rfl K (os_fieldAddr fo_api_Node_0 rfl) rfl rfl fun _ K => ?_
       refine d1 rfl K (os_load rfl (M.load (k := 2) rfl (part_one tk_string rfl))) rfl rfl fun _ K => ?_
       refine d1 rfl K (os_eqS (b := [110, 117, 109]) rfl rfl) rfl rfl fun _ K => ?_
       refine dB rfl K (os_move rfl) rfl rfl fun b42 _ e42 K => ?_
       cases b42
       · replace e42 := of_decide_eq_false e42
         refine dgn rfl K rfl rfl rfl rfl fun _ _ K => ?_
         refine dgn rfl K rfl rfl rfl rfl fun _ _ K => ?_
         refine dgn rfl K rfl rfl rfl rfl fun _ _ K => ?_
         refine dgn rfl K rfl rfl rfl rfl fun _ _ K => ?_
         refine dgn rfl K rfl rfl rfl rfl fun _ _ K => ?_
         refine dgn rfl K rfl rfl rfl rfl fun _ _ K => ?_
         refine d1 rfl K (os_pick rfl rfl rfl) rfl rfl fun _ K => ?_
         refine d1 rfl K (os_move rfl) rfl rfl fun _ K => ?_
         refine dgn rfl K rfl rfl rfl rfl fun _ _ K => ?_
         refine dgn rfl K rfl rfl rfl rfl fun _ _ K => ?_
         refine dgn rfl K rfl rfl rfl rfl fun _ _ K => ?_
         refine d1 rfl K (os_pick rfl rfl rfl) rfl rfl fun _ K => ?_
         refine d1 rfl K (os_move rfl) rfl rfl fun _ K => ?_
         refine dgn rfl K rfl rfl rfl rfl fun _ _ K => ?_
         refine dgn rfl K rfl rfl rfl rfl fun _ _ K => ?_
         refine dgn rfl K rfl rfl rfl rfl fun _ _ K => ?_
         refine dgn rfl K rfl rfl rfl rfl fun _ _ K => ?_
         refine dgn rfl K rfl rfl rfl rfl fun _ _ K => ?_
         refine dgn rfl K rfl rfl rfl rfl fun _ _ K => ?_
         refine d1 rfl K (os_pick rfl rfl rfl) rfl rfl fun _ K => ?_
         refine d1 rfl K (os_move rfl) rfl rfl fun _ K => ?_
         refine dgn rfl K rfl rfl rfl rfl fun _ _ K => ?_
         refine dgn rfl K rfl rfl rfl rfl fun _ _ K => ?_
         refine dgn rfl K rfl rfl rfl rfl fun _ _ K => ?_
         refine dgn rfl K rfl rfl rfl rfl fun _ _ K => ?_
         refine d1 rfl K (os_pick rfl rfl rfl) rfl rfl fun _ K => ?_
         refine d1 rfl K (os_move rfl) rfl rfl fun _ K => ?_
         refine dgn rfl K rfl rfl rfl rfl fun _ _ K => ?_
         refine dgn rfl K rfl rfl rfl rfl fun _ _ K => ?_
         refine dgn rfl K rfl rfl rfl rfl fun _ _ K => ?_
         refine dgn rfl K rfl rfl rfl rfl fun _ _ K => ?_
         refine dgn rfl K rfl rfl rfl rfl fun _ _ K => ?_
         refine dgn rfl K rfl rfl rfl rfl fun _ _ K => ?_
         refine d1 rfl K (os_pick rfl rfl rfl) rfl rfl fun _ K => ?_
         refine d1 rfl K (os_move rfl) rfl rfl fun _ K => ?_
         refine dgn rfl K rfl rfl rfl rfl fun _ _ K => ?_
         refine dgn rfl K rfl rfl rfl rfl fun _ _ K => ?_
         refine dgn rfl K rfl rfl rfl rfl fun _ _ K => ?_
         refine dgn rfl K rfl rfl rfl rfl fun _ _ K => ?_
         refine d1 rfl K (os_pick rfl rfl rfl) rfl rfl fun _ K => ?_
         refine d1 rfl K (os_move rfl) rfl rfl fun _ K => ?_
         refine dgn rfl K rfl rfl rfl rfl fun _ _ K => ?_
         refine d1 rfl K (os_pick rfl rfl rfl) rfl rfl fun _ K => ?_
         refine d1 rfl K (os_assign rfl) rfl rfl fun _ K => ?_
         refine wd_nil ?_
         show W _ _ _ _ _ _ _
         refine w_ret ?_
         refine ⟨.inr rfl, _, (res_one (rs_tmp K rfl)), ?_⟩
         first
          | rfl
          | (simp_all; done)
          | (exfalso; simp_all; done)
          | (exfalso; omega)
       replace e42 := of_decide_eq_true e42
       refine dg rfl K rfl rfl (os_fieldAddr fo_api_Node_2 rfl) rfl rfl fun _ K => ?_
       refine dg rfl K rfl rfl (os_load rfl (M.load (k := 2) rfl (part_one tk_int rfl))) rfl rfl fun _ K => ?_
       refine dg rfl K rfl rfl (os_move rfl) rfl rfl fun _ K => ?_
       refine dg rfl K rfl rfl (os_move rfl) rfl rfl fun _ K => ?_
       refine dg rfl K rfl rfl (os_add rfl rfl (by omega) (by omega)) rfl rfl fun _ K => ?_
       refine dg rfl K rfl rfl (os_eqI rfl rfl) rfl rfl fun _ K => ?_
       refine d1 rfl K (os_pick rfl rfl rfl) rfl rfl fun _ K => ?_
       refine dB rfl K (os_move rfl) rfl rfl fun b50 _ e50 K => ?_
       cases b50
       · replace e50 := of_decide_eq_false e50
         refine dgn rfl K rfl rfl rfl rfl fun _ _ K => ?_
         refine dgn rfl K rfl rfl rfl rfl fun _ _ K => ?_
         refine dgn rfl K rfl rfl rfl rfl fun _ _ K => ?_
         refine d1 rfl K (os_pick rfl rfl rfl) rfl rfl fun _ K => ?_
         refine d1 rfl K (os_move rfl) rfl rfl fun _ K => ?_
         refine dgn rfl K rfl rfl rfl rfl fun _ _ K => ?_
         refine dgn rfl K rfl rfl rfl rfl fun _ _ K => ?_
         refine dgn rfl K rfl rfl rfl rfl fun _ _ K => ?_
         refine dgn rfl K rfl rfl rfl rfl fun _ _ K => ?_
         refine dgn rfl K rfl rfl rfl rfl fun _ _ K => ?_
         refine dgn rfl K rfl rfl rfl rfl fun _ _ K => ?_
         refine d1 rfl K (os_pick rfl rfl rfl) rfl rfl fun _ K => ?_
         refine d1 rfl K (os_move rfl) rfl rfl fun _ K => ?_
         refine dgn rfl K rfl rfl rfl rfl fun _ _ K => ?_
         refine dgn rfl K rfl rfl rfl rfl fun _ _ K => ?_
         refine dgn rfl K rfl rfl rfl rfl fun _ _ K => ?_
         refine dgn rfl K rfl rfl rfl rfl fun _ _ K => ?_
         refine d1 rfl K (os_pick rfl rfl rfl) rfl rfl fun _ K => ?_
         refine d1 rfl K (os_move rfl) rfl rfl fun _ K => ?_
         refine dgn rfl K rfl rfl rfl rfl fun _ _ K => ?_
         refine dgn rfl K rfl rfl rfl rfl fun _ _ K => ?_
         refine dgn rfl K rfl rfl rfl rfl fun _ _ K => ?_
         refine dgn rfl K rfl rfl rfl rfl fun _ _ K => ?_
         refine dgn rfl K rfl rfl rfl rfl fun _ _ K => ?_
         refine dgn rfl K rfl rfl rfl rfl fun _ _ K => ?_
         refine d1 rfl K (os_pick rfl rfl rfl) rfl rfl fun _ K => ?_
         refine d1 rfl K (os_move rfl) rfl rfl fun _ K => ?_
         refine dgn rfl K rfl rfl rfl rfl fun _ _ K => ?_
         refine dgn rfl K rfl rfl rfl rfl fun _ _ K => ?_
         refine dgn rfl K rfl rfl rfl rfl fun _ _ K => ?_
         refine dgn rfl K rfl rfl rfl rfl fun _ _ K => ?_
         refine d1 rfl K (os_pick rfl rfl rfl) rfl rfl fun _ K => ?_
         refine d1 rfl K (os_move rfl) rfl rfl fun _ K => ?_
         refine dgn rfl K rfl rfl rfl rfl fun _ _ K => ?_
         refine d1 rfl K (os_pick rfl rfl rfl) rfl rfl fun _ K => ?_
         refine d1 rfl K (os_assign rfl) rfl rfl fun _ K => ?_
         refine wd_nil ?_
         show W _ _ _ _ _ _ _
         refine w_ret ?_
         refine ⟨.inr rfl, _, (res_one (rs_tmp K rfl)), ?_⟩
         first
          | rfl
          | (simp_all; done)
          | (exfalso; simp_all; done)
          | (exfalso; omega)
       replace e50 := of_decide_eq_true e50
       refine dg rfl K rfl rfl (os_fieldAddr fo_api_Node_0 rfl) rfl rfl fun _ K => ?_
       refine dg rfl K rfl rfl (os_load rfl (M.load (k := 0) rfl (part_one tk_string rfl))) rfl rfl fun _ K => ?_
       refine dg rfl K rfl rfl (os_eqS (b := [112, 108, 117, 115]) rfl rfl) rfl rfl fun _ K => ?_
       refine d1 rfl K (os_pick rfl rfl rfl) rfl rfl fun _ K => ?_
       refine dB rfl K (os_move rfl) rfl rfl fun b55 _ e55 K => ?_
       cases b55
       · replace e55 := of_decide_eq_false e55
         refine dgn rfl K rfl rfl rfl rfl fun _ _ K => ?_
         refine dgn rfl K rfl rfl rfl rfl fun _ _ K => ?_
         refine dgn rfl K rfl rfl rfl rfl fun _ _ K => ?_
         refine dgn rfl K rfl rfl rfl rfl fun _ _ K => ?_
         refine dgn rfl K rfl rfl rfl rfl fun _ _ K => ?_
         refine dgn rfl K rfl rfl rfl rfl fun _ _ K => ?_
         refine d1 rfl K (os_pick rfl rfl rfl) rfl rfl fun _ K => ?_
         refine d1 rfl K (os_move rfl) rfl rfl fun _ K => ?_
         refine dgn rfl K rfl rfl rfl rfl fun _ _ K => ?_
         refine dgn rfl K rfl rfl rfl rfl fun _ _ K => ?_
         refine dgn rfl K rfl rfl rfl rfl fun _ _ K => ?_
         refine dgn rfl K rfl rfl rfl rfl fun _ _ K => ?_
         refine d1 rfl K (os_pick rfl rfl rfl) rfl rfl fun _ K => ?_
         refine d1 rfl K (os_move rfl) rfl rfl fun _ K => ?_
         refine dgn rfl K rfl rfl rfl rfl fun _ _ K => ?_
         refine dgn rfl K rfl rfl rfl rfl fun _ _ K => ?_
         refine dgn rfl K rfl rfl rfl rfl fun _ _ K => ?_
         refine dgn rfl K rfl rfl rfl rfl fun _ _ K => ?_
         refine dgn rfl K rfl rfl rfl rfl fun _ _ K => ?_
         refine dgn rfl K rfl rfl rfl rfl fun _ _ K => ?_
         refine d1 rfl K (os_pick rfl rfl rfl) rfl rfl fun _ K => ?_
         refine d1 rfl K (os_move rfl) rfl rfl fun _ K => ?_
         refine dgn rfl K rfl rfl rfl rfl fun _ _ K => ?_
         refine dgn rfl K rfl rfl rfl rfl fun _ _ K => ?_
         refine dgn rfl K rfl rfl rfl rfl fun _ _ K => ?_
         refine dgn rfl K rfl rfl rfl rfl fun _ _ K => ?_
         refine d1 rfl K (os_pick rfl rfl rfl) rfl rfl fun _ K => ?_
         refine d1 rfl K (os_move rfl) rfl rfl fun _ K => ?_
         refine dgn rfl K rfl rfl rfl rfl fun _ _ K => ?_
         refine d1 rfl K (os_pick rfl rfl rfl) rfl rfl fun _ K => ?_
         refine d1 rfl K (os_assign rfl) rfl rfl fun _ K => ?_
         refine wd_nil ?_
         show W _ _ _ _ _ _ _
         refine w_ret ?_
         refine ⟨.inr rfl, _, (res_one (rs_tmp K rfl)), ?_⟩
         first
          | rfl
          | (simp_all; done)
          | (exfalso; simp_all; done)
          | (exfalso; omega)
       replace e55 := of_decide_eq_true e55
       refine dg rfl K rfl rfl (os_fieldAddr fo_api_Node_2 rfl) rfl rfl fun _ K => ?_
       refine dg rfl K rfl rfl (os_load rfl (M.load (k := 0) rfl (part_one tk_int rfl))) rfl rfl fun _ K => ?_
       refine dg rfl K rfl rfl (os_move rfl) rfl rfl fun _ K => ?_
       refine dg rfl K rfl rfl (os_move rfl) rfl rfl fun _ K => ?_
       refine dg rfl K rfl rfl (os_add rfl rfl (by omega) (by omega)) rfl rfl fun _ K => ?_
       refine dg rfl K rfl rfl (os_eqI rfl rfl) rfl rfl fun _ K => ?_
       refine d1 rfl K (os_pick rfl rfl rfl) rfl rfl fun _ K => ?_
       refine dB rfl K (os_move rfl) rfl rfl fun b63 _ e63 K => ?_
       cases b63
       · replace e63 := of_decide_eq_false e63
         refine dgn rfl K rfl rfl rfl rfl fun _ _ K => ?_
         refine dgn rfl K rfl rfl rfl rfl fun _ _ K => ?_
         refine dgn rfl K rfl rfl rfl rfl fun _ _ K => ?_
         refine dgn rfl K rfl rfl rfl rfl fun _ _ K => ?_
         refine d1 rfl K (os_pick rfl rfl rfl) rfl rfl fun _ K => ?_
         refine d1 rfl K (os_move rfl) rfl rfl fun _ K => ?_
         refine dgn rfl K rfl rfl rfl rfl fun _ _ K => ?_
         refine dgn rfl K rfl rfl rfl rfl fun _ _ K => ?_
         refine dgn rfl K rfl rfl rfl rfl fun _ _ K => ?_
         refine dgn rfl K rfl rfl rfl rfl fun _ _ K => ?_
         refine dgn rfl K rfl rfl rfl rfl fun _ _ K => ?_
         refine dgn rfl K rfl rfl rfl rfl fun _ _ K => ?_
         refine d1 rfl K (os_pick rfl rfl rfl) rfl rfl fun _ K => ?_
         refine d1 rfl K (os_move rfl) rfl rfl fun _ K => ?_
         refine dgn rfl K rfl rfl rfl rfl fun _ _ K => ?_
         refine dgn rfl K rfl rfl rfl rfl fun _ _ K => ?_
         refine dgn rfl K rfl rfl rfl rfl fun _ _ K => ?_
         refine dgn rfl K rfl rfl rfl rfl fun _ _ K => ?_
         refine d1 rfl K (os_pick rfl rfl rfl) rfl rfl fun _ K => ?_
         refine d1 rfl K (os_move rfl) rfl rfl fun _ K => ?_
         refine dgn rfl K rfl rfl rfl rfl fun _ _ K => ?_
         refine d1 rfl K (os_pick rfl rfl rfl) rfl rfl fun _ K => ?_
         refine d1 rfl K (os_assign rfl) rfl rfl fun _ K => ?_
         refine wd_nil ?_
         show W _ _ _ _ _ _ _
         refine w_ret ?_
         refine ⟨.inr rfl, _, (res_one (rs_tmp K rfl)), ?_⟩
         first
          | rfl
          | (simp_all; done)
          | (exfalso; simp_all; done)
          | (exfalso; omega)
       replace e63 := of_decide_eq_true e63
       refine dg rfl K rfl rfl (os_fieldAddr fo_api_Node_4 rfl) rfl rfl fun _ K => ?_
       refine dg rfl K rfl rfl (os_load rfl (M.load (k := 0) rfl (part_one tk_S_api_Node rfl))) rfl rfl fun _ K => ?_
       refine dg rfl K rfl rfl (os_lenL un_S_api_Node rfl rfl rfl) rfl rfl fun _ K => ?_
       refine dg rfl K rfl rfl (os_eqI rfl rfl) rfl rfl fun _ K => ?_
       refine d1 rfl K (os_pick rfl rfl rfl) rfl rfl fun _ K => ?_
       refine dB rfl K (os_move rfl) rfl rfl fun b69 _ e69 K => ?_
       cases b69
       · replace e69 := of_decide_eq_false e69
         refine dgn rfl K rfl rfl rfl rfl fun _ _ K => ?_
         refine dgn rfl K rfl rfl rfl rfl fun _ _ K => ?_
         refine dgn rfl K rfl rfl rfl rfl fun _ _ K => ?_
         refine dgn rfl K rfl rfl rfl rfl fun _ _ K => ?_
         refine dgn rfl K rfl rfl rfl rfl fun _ _ K => ?_
         refine dgn rfl K rfl rfl rfl rfl fun _ _ K => ?_
         refine d1 rfl K (os_pick rfl rfl rfl) rfl rfl fun _ K => ?_
         refine d1 rfl K (os_move rfl) rfl rfl fun _ K => ?_
         refine dgn rfl K rfl rfl rfl rfl fun _ _ K => ?_
         refine dgn rfl K rfl rfl rfl rfl fun _ _ K => ?_
         refine dgn rfl K rfl rfl rfl rfl fun _ _ K => ?_
         refine dgn rfl K rfl rfl rfl rfl fun _ _ K => ?_
         refine d1 rfl K (os_pick rfl rfl rfl) rfl rfl fun _ K => ?_
         refine d1 rfl K (os_move rfl) rfl rfl fun _ K => ?_
         refine dgn rfl K rfl rfl rfl rfl fun _ _ K => ?_
         refine d1 rfl K (os_pick rfl rfl rfl) rfl rfl fun _ K => ?_
         refine d1 rfl K (os_assign rfl) rfl rfl fun _ K => ?_
         refine wd_nil ?_
         show W _ _ _ _ _ _ _
         refine w_ret ?_
         refine ⟨.inr rfl, _, (res_one (rs_tmp K rfl)), ?_⟩
         first
          | rfl
          | (simp_all; done)
          | (exfalso; simp_all; done)
          | (exfalso; omega)
       replace e69 := of_decide_eq_true e69
       refine dg rfl K rfl rfl (os_fieldAddr fo_api_Node_4 rfl) rfl rfl fun _ K => ?_
       refine dg rfl K rfl rfl (os_load rfl (M.load (k := 0) rfl (part_one tk_S_api_Node rfl))) rfl rfl fun _ K => ?_
       refine dg rfl K rfl rfl (os_indexAddr el_S_api_Node rfl rfl (by decide)) rfl rfl fun _ K => ?_
       refine dg rfl K rfl rfl (os_load rfl (M.load (k := 5) rfl (part_agg tk_api_Node rfl))) rfl rfl fun _ K => ?_
       refine dg rfl K rfl rfl (os_load rfl (M.load (k := 6) rfl (part_agg tk_api_Node rfl))) rfl rfl fun _ K => ?_
       obtain ⟨v75, st75, ev75, rj75, q75⟩ := rSame_ev (.mk [118, 97, 114] [120] 0 0 []) (.mk [118, 97, 114] [120] 0 0 []) _ [.str [118, 97, 114], .str [120], .int .i64 0, .int .i64 0, .nils] [.str [118, 97, 114], .str [120], .int .i64 0, .int .i64 0, .nils] M.fresh (RdN.leaf rfl rfl by_var) (RdN.leaf rfl rfl by_var)
       refine dga rfl K rfl rfl (os_call rfl ev75) rfl rfl fun _ K => ?_
       have Mp := M
       rw [sameN_self2] at rj75
       subst rj75
       replace M := M.quiet q75
       refine d1 rfl K (os_pick rfl rfl rfl) rfl rfl fun _ K => ?_
       refine d1 rfl K (os_move rfl) rfl rfl fun _ K => ?_
       refine dg rfl K rfl rfl (os_load rfl (M.load (k := 4) rfl (part_agg tk_api_Node rfl))) rfl rfl fun _ K => ?_
       obtain ⟨v79, st79, ev79, rj79, q79⟩ := join_ev (o := [112, 108, 117, 115]) (s := []) (z := n) (a := 0) (l := [(.mk [118, 97, 114] [120] 0 0 [])]) M.fresh (KidsR.one ((M.row1 (k := 5) rfl).rowV) (RdN.leaf rfl rfl by_var)) (by omega) (fun k hk => by injection hk with hk; subst hk; show (0 : Int) ≤ 0 ∧ (0 : Int) ≤ 100000; omega)
       refine dga rfl K rfl rfl (os_call rfl ev79) rfl rfl fun _ K => ?_
       have Mp := M
       replace rj79 : v79 = .agg [.str [112, 108, 117, 115], .str [], .int .i64 n, .int .i64 0, (.sl c26 0 0 1 5)] := rj79.trans (by simp [joinC, oPlus, oNum, tx_num, tx_plus, tx_var])
       subst rj79
       replace M := M.quiet q79
       refine wd_gload1 rfl K rfl rfl rfl (M.load (k := 4) rfl (part_agg tk_api_Node rfl)) (Mp.load (k := 4) rfl (part_agg tk_api_Node rfl)) (eqV_agg rfl) rfl (by decide) fun _ K => ?_
       obtain ⟨v81, st81, ev81, rj81, q81⟩ := rSame_ev (.mk [112, 108, 117, 115] [] n 0 [(.mk [118, 97, 114] [120] 0 0 [])]) (.mk [112, 108, 117, 115] [] n 0 [(.mk [118, 97, 114] [120] 0 0 [])]) _ [.str [112, 108, 117, 115], .str [], .int .i64 n, .int .i64 0, (.sl c26 0 0 1 5)] [.str [112, 108, 117, 115], .str [], .int .i64 n, .int .i64 0, (.sl c26 0 0 1 5)] M.fresh (RdN.one ((M.row1 (k := 5) rfl).rowV) (RdN.leaf rfl rfl by_var) by_plus) (RdN.one ((M.row1 (k := 5) rfl).rowV) (RdN.leaf rfl rfl by_var) by_plus)
       refine dga rfl K rfl rfl (os_call rfl ev81) rfl rfl fun _ K => ?_
       have Mp := M
       rw [sameN_self2] at rj81
       subst rj81
       replace M := M.quiet q81
       refine d1 rfl K (os_pick rfl rfl rfl) rfl rfl fun _ K => ?_
       refine d1 rfl K (os_move rfl) rfl rfl fun _ K => ?_
       have ev84 := known7_ev
       refine dga rfl K rfl rfl (os_call rfl (ev84 _)) rfl rfl fun _ K => ?_
       have Mp := M
       refine d1 rfl K (os_pick rfl rfl rfl) rfl rfl fun _ K => ?_
       refine d1 rfl K (os_assign rfl) rfl rfl fun _ K => ?_
       refine wd_nil ?_
       show W _ _ _ _ _ _ _
       refine w_ret ?_
       refine ⟨.inr rfl, _, (res_one (rs_tmp K rfl)), ?_⟩
       first
        | rfl
        | (simp_all; done)
        | (exfalso; simp_all; done)
        | (exfalso; omega)
     replace e19 := of_decide_eq_true e19
     refine gn K rfl rfl rfl rfl fun _ K => ?_
     refine gn K rfl rfl rfl rfl fun _ K => ?_
     refine o1 K (os_pick rfl rfl rfl) rfl fun _ K => ?_
     refine wr_nil ?_
     show W _ _ _ _ _ _ _
     refine w_cond (t := true) (K.opd rfl) (fun _ => ?_) (fun h => by cases h)
     refine w_seq ?_
     refine w_region ?_
     refine o1 K (os_assign rfl) rfl fun _ K => ?_
     refine wr_nil ?_
     show W _ _ _ _ _ _ _
     refine w_ret ?_
     refine ⟨.inr rfl, _, (res_one (rs_tmp K rfl)), ?_⟩
     first
      | rfl
      | (simp_all; done)
      | (exfalso; simp_all; done)
      | (exfalso; omega)
   replace e15 := of_decide_eq_true e15
   refine gn K rfl rfl rfl rfl fun _ K => ?_
   refine gn K rfl rfl rfl rfl fun _ K => ?_
   refine o1 K (os_pick rfl rfl rfl) rfl fun _ K => ?_
   refine o1 K (os_move rfl) rfl fun _ K => ?_
   refine gn K rfl rfl rfl rfl fun _ K => ?_
   refine gn K rfl rfl rfl rfl fun _ K => ?_
   refine o1 K (os_pick rfl rfl rfl) rfl fun _ K => ?_
   refine wr_nil ?_
   show W _ _ _ _ _ _ _
   refine w_cond (t := true) (K.opd rfl) (fun _ => ?_) (fun h => by cases h)
   refine w_seq ?_
   refine w_region ?_
   refine o1 K (os_assign rfl) rfl fun _ K => ?_
   refine wr_nil ?_
   show W _ _ _ _ _ _ _
   refine w_ret ?_
   refine ⟨.inr rfl, _, (res_one (rs_tmp K rfl)), ?_⟩
   first
    | rfl
    | (simp_all; done)
    | (exfalso; simp_all; done)
    | (exfalso; omega)
 replace e11 := of_decide_eq_true e11
 refine gn K rfl rfl rfl rfl fun _ K => ?_
 refine gn K rfl rfl rfl rfl fun _ K => ?_
 refine o1 K (os_pick rfl rfl rfl) rfl fun _ K => ?_
 refine o1 K (os_move rfl) rfl fun _ K => ?_
 refine gn K rfl rfl rfl rfl fun _ K => ?_
 refine gn K rfl rfl rfl rfl fun _ K => ?_
 refine o1 K (os_pick rfl rfl rfl) rfl fun _ K => ?_
 refine o1 K (os_move rfl) rfl fun _ K => ?_
 refine gn K rfl rfl rfl rfl fun _ K => ?_
 refine gn K rfl rfl rfl rfl fun _ K => ?_
 refine o1 K (os_pick rfl rfl rfl) rfl fun _ K => ?_
 refine wr_nil ?_
 show W _ _ _ _ _ _ _
 refine w_cond (t := true) (K.opd rfl) (fun _ => ?_) (fun h => by cases h)
 refine w_seq ?_
 refine w_region ?_
 refine o1 K (os_assign rfl) rfl fun _ K => ?_
 refine wr_nil ?_
 show W _ _ _ _ _ _ _
 refine w_ret ?_
 refine ⟨.inr rfl, _, (res_one (rs_tmp K rfl)), ?_⟩
 first
  | rfl
  | (simp_all; done)
  | (exfalso; simp_all; done)
  | (exfalso; omega)
end Go.Proofs.YtmjnbdkjekdkgaaDoor
