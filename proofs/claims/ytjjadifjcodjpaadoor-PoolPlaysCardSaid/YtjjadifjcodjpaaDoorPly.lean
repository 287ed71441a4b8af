/-
  Pools: of any sets all numbers, and back. PoolPlays.
-/
import Derived.Test.YtjjadifjcodjpaaDoorPlx
import Derived.Test.YtjjadifjcodjpaaDoorHdZ
namespace Go.Proofs.YtjjadifjcodjpaaDoor
open Go Go.RowKit
set_option linter.unusedVariables false
set_option linter.unusedSimpArgs false
set_option linter.unnecessarySimpa false
set_option maxRecDepth 100000
set_option maxHeartbeats 1000000

/-- The reference's Pool, of this call's own. -/
structure RefIn (n0 : Nat) (st : St) (F : Nat → Prop) (cp : Nat) (L : List (List Int)) : Prop where
  lo : ∀ c, F c → n0 ≤ c
  hi : ∀ c, F c → c < st.n
  at_ : RefAt st.h.get F cp L
theorem RefIn.quiet {n0 : Nat} {st st' : St} {F : Nat → Prop} {cp : Nat} {L : List (List Int)} (H : RefIn n0 st F cp L) (q : Qt st st') : RefIn n0 st' F cp L :=
  ⟨H.lo, fun c h => Nat.lt_of_lt_of_le (H.hi c h) q.le, H.at_.frame fun c h => q.old c (H.hi c h)⟩
theorem RefIn.apart {n0 : Nat} {st st' : St} {F F2 : Nat → Prop} {cp : Nat} {L : List (List Int)} (H : RefIn n0 st F cp L) (q : ChgF F2 st st') (hd : ∀ c, F c → ¬ F2 c) : RefIn n0 st' F cp L :=
  ⟨H.lo, fun c h => Nat.lt_of_lt_of_le (H.hi c h) q.le, H.at_.frame fun c h => q.old c (H.hi c h) (hd c h)⟩
theorem rOf_in {n0 : Nat} {h0 : Hp} {X : List Nat} {st : St} (hM : Mem h0 n0 X st []) {F : Nat → Prop} {cp : Nat} {L : List (List Int)} (hP : RefIn n0 st F cp L) (hnd : L.Nodup) (hL : L.length ≤ 100000) {l : List Int} {kl : AV} (hl : RdR st.h.get [] 1 (zC l) kl) (hz : In64 l) (hn : l.length ≤ 100000) :
    ∃ v st', Ev Tryd.prog envP 13 [.ptr cp 0 0, kl] st v st' ∧ v = .int .i64 ((ofN L l : Nat) : Int) ∧ ∃ F', RefIn n0 st' F' cp (ofL L l) ∧ (∀ c, F' c → F c ∨ st.n ≤ c) ∧ ChgF F st st' ∧ Mem h0 n0 X st' [] := by
  obtain ⟨v, st', ev, hv, hP', Q⟩ := rOf_ev hM.fresh hP.at_ hP.hi hnd hL hl hz hn
  refine ⟨v, st', ev, hv, _, ⟨fun c h => ?_, fun c h => ?_, hP'⟩, fun c h => h.imp id (fun h => h.1), Q, hM.callF Q hP.lo (by simp)⟩
  · rcases h with h | h
    · exact hP.lo c h
    · exact Nat.le_trans hM.le h.1
  · rcases h with h | h
    · exact Nat.lt_of_lt_of_le (hP.hi c h) Q.le
    · exact h.2
theorem Acc.ge {n0 z : Nat} {A : Rows1} {ks : AV} {ls : List (List AV)} (h : Acc n0 z A ks ls) {c m : Nat} {x : List AV} (hm : (c, m, x) ∈ A) : n0 ≤ c := by
  cases h with
  | none => cases hm
  | own hc hb => simp at hm; omega
theorem ofL_mem {L : List (List Int)} {l s : List Int} (h : s ∈ ofL L l) : s ∈ L ∨ s = sortedZ l := by
  rw [ofL] at h
  split at h
  · exact .inl h
  · rcases List.mem_append.1 h with h | h
    · exact .inl h
    · exact .inr (List.mem_singleton.1 h)
theorem loadA_frame {P : Program} {t : TypeId} {c m o : Nat} {h h' : Hp} (e : h' c = h c) : loadA P t (.ptr c m o) h' = loadA P t (.ptr c m o) h := by
  simp only [loadA, rowOf, e]
theorem again_all {P : Program} {G : Env} {T : Tr AV} {v u : AV} {t : TypeId} {x : Operand} {d : Option Nat} {ty : TypeId} {pos : String} {af : Array Edge} {g : Option (Nat × Bool)} (hx : opd G T x = some u) (he : eqV v v = true) : ∀ (n : Nat) (l : List St), n ≤ l.length → (∀ s ∈ l.take n, loadA P t u s.h.get = some v) → again P G ⟨d, .load t x, ty, pos, af, g⟩ T v n l = true
  | 0, l, _, _ => rfl
  | n + 1, [], h, _ => by simp at h
  | n + 1, s :: l, h, ha => by
    have ih := again_all (d := d) (ty := ty) (pos := pos) (af := af) (g := g) hx he n l (by simpa using h) (fun s' hs => ha s' (by rw [List.take_succ_cons]; exact List.mem_cons_of_mem _ hs))
    show bif' (Option.rec false (fun x => Option.rec false (fun u => eqV u v) (loadA P t x s.h.get)) (opd G T x)) (again P G ⟨d, .load t x, ty, pos, af, g⟩ T v n l) false = true
    rw [hx]
    show bif' (Option.rec false (fun u => eqV u v) (loadA P t u s.h.get)) (again P G ⟨d, .load t x, ty, pos, af, g⟩ T v n l) false = true
    rw [ha s (by simp)]
    show bif' (eqV v v) (again P G ⟨d, .load t x, ty, pos, af, g⟩ T v n l) false = true
    rw [he]; exact ih
theorem wd_gload1 {P : Program} {G : Env} {N : Nat} {st : St} {K : List (Nat × AV)} {T : Tr AV} {ops : List Oper} {R : Tr AV → St → Prop} {sn : List St} {r : List (Nat × Nat)} {i d : Nat} {ty : TypeId} {pos : String} {af : Array Edge} {v : AV} {t : TypeId} {x : Operand} {u : AV} {s0 s1 : St} {j t' : Nat} {pol : Bool}
    (ho : ops[i]? = some ⟨some d, .load t x, ty, pos, af, some (j, pol)⟩) (hK : KnT K T) (ht : dstOf ops j = some t') (hb : K.lookup t' = some (.bool pol)) (hx : opK G K x = some u) (h : loadA P t u st.h.get = some v) (h1 : loadA P t u s1.h.get = some v) (he : eqV v v = true) (hk : Nat.beq (kindA P (.load t x)) 3 = false) (hN : d < N)
    (hn : ∀ T', KnT ((d, v) :: K) T' → WD P G N ops (r.map (plF ops)) R T' st (s0 :: s1 :: sn)) : WD P G N ops (((i, 1) :: r).map (plF ops)) R T st (s0 :: s1 :: sn) := by
  rw [plF_cons ho]
  exact wd_step (by rw [wants_known hK ht hb]; cases pol <;> rfl) (os_load hx h T hK _ _ _ _ _) (by
    show bif' (Option.rec false (fun x => Option.rec false (fun u => eqV u v) (loadA P t x s1.h.get)) (opd G T x)) true false = true
    rw [hK.opd hx]
    show bif' (Option.rec false (fun u => eqV u v) (loadA P t u s1.h.get)) true false = true
    rw [h1]
    show bif' (eqV v v) true false = true
    rw [he]; rfl) (fun e he => by injection he with he; rw [← he]; exact hN) (by
    show WD P G N ops (r.map (plF ops)) R _ st (bif' (Nat.beq (kindA P (.load t x)) 3) _ _)
    rw [hk]; exact hn _ (hK.set d v))
theorem wd_loadN {P : Program} {G : Env} {N : Nat} {st : St} {K : List (Nat × AV)} {T : Tr AV} {ops : List Oper} {R : Tr AV → St → Prop} {sn : List St} {r : List (Nat × Nat)} {i d n : Nat} {ty : TypeId} {pos : String} {af : Array Edge} {v : AV} {t : TypeId} {x : Operand} {u : AV} {s0 : St}
    (ho : ops[i]? = some ⟨some d, .load t x, ty, pos, af, none⟩) (hK : KnT K T) (hx : opK G K x = some u) (h : loadA P t u st.h.get = some v) (hl : n ≤ sn.length) (hall : ∀ s ∈ sn.take n, loadA P t u s.h.get = some v) (he : eqV v v = true) (hk : Nat.beq (kindA P (.load t x)) 3 = false) (hN : d < N)
    (hn : ∀ T', KnT ((d, v) :: K) T' → WD P G N ops (r.map (plF ops)) R T' st (s0 :: sn)) : WD P G N ops (((i, n) :: r).map (plF ops)) R T st (s0 :: sn) := by
  rw [plF_cons ho]
  exact wd_step rfl (os_load hx h T hK _ _ _ _ _) (again_all (hK.opd hx) he n sn hl hall) (fun e he => by injection he with he; rw [← he]; exact hN) (by
    show WD P G N ops (r.map (plF ops)) R _ st (bif' (Nat.beq (kindA P (.load t x)) 3) _ _)
    rw [hk]; exact hn _ (hK.set d v))

theorem poolPlays_ev {st : St} (hf : Fresh st) {LL : List (List Int)} {kL : AV} {lL : List (List AV)} (hLL : LsR st.h.get LL kL lL) (id : Int) : ∃ v st', Ev Tryd.prog envP 4 [kL, .int .i64 id] st v st' ∧ v = .bool true := by
 have hLb := hLL.r.bnd
 rw [hLL.ln] at hLb
 refine ev_fn rfl Tryd.func4 rfl Tryd.ntmps4 rfl (by decide) (by simp) fun T hT => ?_
 have K : KnT [(0, _), (1, _)] T := (.cons (hT 0) (.cons (hT 1) .nil))
 have M := Mem.start hf
 refine w_seq ?_
 refine w_region ?_
 refine o1 K (os_assign rfl) rfl fun _ K => ?_
 refine wr_nil ?_
 show W _ _ _ _ _ _ _
 refine w_seq ?_
 refine w_seq ?_
 refine w_region ?_
 refine o1 K (os_move rfl) rfl fun _ K => ?_
 obtain ⟨v10, st10, ev10, lb, rfl, hlong, q10⟩ := long_ev M.fresh (hLL.old hf fun c hc => M.old c hc (by simp))
 refine o1 K (os_call rfl ev10) rfl fun _ K => ?_
 replace M := M.quiet q10
 refine wr_nil ?_
 show W _ _ _ _ _ _ _
 refine w_cond (K.opd rfl) (fun h10 => ?_) (fun h10 => ?_)
 · have hb10 := h10
   refine w_seq ?_
   refine w_region ?_
   refine o1 K (os_assign rfl) rfl fun _ K => ?_
   refine wr_nil ?_
   show W _ _ _ _ _ _ _
   refine w_ret ?_
   refine ⟨.inr rfl, _, (res_one (rs_tmp K rfl)), ?_⟩
   rfl
 have hb10 := h10
 refine w_skip ?_
 show W _ _ _ _ _ _ _
 refine w_seq ?_
 refine w_region ?_
 obtain ⟨v11, st11, ev11, cp, F0, rfl, hP, hF0, q11⟩ := newP_in M
 refine o1 K (os_call rfl ev11) rfl fun _ K => ?_
 replace M := M.quiet q11
 have M0 := M
 have hlt0 := hP.hi
 have hn11 := M0.le
 have M := Mem.start M0.fresh
 refine o1 K (os_build st_sibylref15_Pool rfl rfl) rfl fun _ K => ?_
 refine wr_box K M rfl rfl (by decide) fun c13 _ _ K M => ?_
 replace M := Mem.cast (M' := [(c13, 0, [.nils])]) M rfl
 have hP := hP.quiet M.qt
 have hc13 : st11.n ≤ c13 := (M.own c13 0 [.nils] (by simp)).resolve_right (by simp)
 have hX : RefIn st.n _ (fun c => c = c13) c13 [] := ⟨fun c h => by omega, fun c h => by rw [h]; exact M.lt c13 0 [.nils] (by simp), .nils, [], [], M.row1 (k := 0) rfl, rfl, ⟨.none, (by simp), rfl, (by simp)⟩⟩
 have hd0 : ∀ c, F0 c → ¬ c = c13 := fun c h e => by have := hlt0 c h; omega
 have M := M0.rejoin M (by simp)
 replace M := M.less (List.nil_sublist _)
 refine o1 K (os_assign rfl) rfl fun _ K => ?_
 refine o1 K (os_assign rfl) rfl fun _ K => ?_
 refine wr_nil ?_
 show W _ _ _ _ _ _ _
 refine w_seq ?_
 refine w_seq ?_
 refine w_region ?_
 refine o1 K (os_assign rfl) rfl fun _ K => ?_
 refine wr_nil ?_
 show W _ _ _ _ _ _ _
 refine w_block ?_
 refine w_loop (fun mm1 T st9 => ∃ (i : Nat) (F F2 : Nat → Prop) (L : List (List Int)), mm1 = LL.length - i ∧ KnT [(0, kL), (1, .int .i64 id), (5, .ptr cp 0 0), (6, .ptr c13 0 0), (7, .int .i64 (((i : Nat) : Int)))] T ∧ Mem st.h.get st.n [] st9 [] ∧ i ≤ LL.length ∧ PoolIn st.n st9 F cp L ∧ RefIn st.n st9 F2 c13 L ∧ (∀ c, F c → ¬ F2 c) ∧ L.length ≤ i ∧ (∀ s ∈ L, s.length ≤ 50)) (fun mm1 T st9 hI => ?_) _ _ _ ⟨0, _, _, _, rfl, (.cons (K _ _ rfl) (.cons (K _ _ rfl) (.cons (K _ _ rfl) (.cons (K _ _ rfl) (.cons (K _ _ rfl) .nil))))), M.less (.refl _), (Nat.zero_le _), hP, hX, hd0, Nat.zero_le _, (by simp)⟩
 obtain ⟨i, F, F2, L, rfl, K, M, hi, hP, hX, hd, hLn, hLs⟩ := hI
 have h80 := hlong h10
 refine w_seq ?_
 refine w_seq ?_
 refine w_region ?_
 refine o1 K (os_move rfl) rfl fun _ K => ?_
 refine o1 K (os_nePN un_P_pool_Pool rfl rfl) rfl fun _ K => ?_
 refine o1 K (os_move rfl) rfl fun _ K => ?_
 refine og K rfl rfl (os_move rfl) rfl fun _ K => ?_
 refine og K rfl rfl (os_move rfl) rfl fun _ K => ?_
 refine og K rfl rfl (os_lenL un_S_S_int rfl rfl hLL.len) rfl fun _ K => ?_
 refine og K rfl rfl (os_lss rfl rfl) rfl fun _ K => ?_
 refine o1 K (os_pick rfl rfl rfl) rfl fun _ K => ?_
 refine wr_nil ?_
 show W _ _ _ _ _ _ _
 refine w_cond (K.opd rfl) (fun h21 => ?_) (fun h21 => ?_)
 · have hb21 := h21
   replace h21 := of_decide_eq_true h21
   refine w_skip ?_
   show W _ _ _ _ _ _ _
   refine w_seq ?_
   refine w_block ?_
   refine w_seq ?_
   refine w_drawI (l := [(1, 0), (2, 0), (3, 0), (4, 0), (5, 0), (6, 0), (0, 0), (7, 0), (8, 0), (9, 0), (10, 0), (11, 0), (12, 2), (13, 0), (14, 0), (15, 0), (16, 0), (17, 0), (18, 0), (19, 0), (20, 0), (21, 1), (22, 0), (23, 0), (24, 0)]) (by kernel_rfl) ?_
   have M0 := M
   have hL9 := hLL.old hf fun c hc => M0.old c hc (by simp)
   have hlt := hP.hi
   have hlt2 := hX.hi
   have M := Mem.start M0.fresh
   refine wd_bs rfl K M sl_S_int ze_int rfl rfl rfl rfl rfl fun c25 _ _ K M => ?_
   refine d1 rfl K (os_move rfl) rfl rfl fun _ K => ?_
   refine d1 rfl K (os_move rfl) rfl rfl fun _ K => ?_
   obtain ⟨s28, hi28⟩ : ∃ x, LL[i]? = some x := ⟨_, List.getElem?_eq_getElem (by omega)⟩
   have hm28 := List.mem_of_getElem? hi28
   obtain ⟨_, hc28, w28, rfl, hr28, hz28⟩ := hL9.at_ _ _ hi28
   have hs50 := h80.1 _ hm28
   obtain ⟨x28, m28, f28, q28, _, la28, lo28, lp28⟩ := (RdR.mem M hL9.r (by simp)).load (i := i) (cs := _) hc28
   refine d1 rfl K (os_indexAddr (j := i) el_S_S_int (congrArg some q28) rfl (by rw [hLL.ln]; omega)) rfl rfl fun _ K => ?_
   refine d1 rfl K (os_load rfl (lo28 _ 0 _ tk_S_int rfl)) rfl rfl fun _ K => ?_
   replace M := Mem.cast (M' := ([(c25, 0, [])] ++ [])) (Mem.perm M (List.perm_append_comm (l₁ := [(c25, 0, [])]) (l₂ := []))) (by first | (simp only [List.append_assoc, List.cons_append, List.nil_append, List.append_nil, List.set_cons_zero, List.set_cons_succ]; done) | (simp only [List.append_assoc, List.cons_append, List.nil_append, List.append_nil, List.set_cons_zero, List.set_cons_succ]; rfl))
   have hA0c25 : Acc st9.n 1 [(c25, 0, [])] (.sl c25 0 0 0 1) [] := Acc.own (n0 := st9.n) (z := 1) (c := c25) (m := 0) (ls := []) ((M.own c25 0 [] (by simp)).resolve_right (by simp)) (by simp) (by simp)
   refine wd_accS (L := []) (A := [(c25, 0, [])]) (B := []) rfl K M hA0c25 sl_S_int rfl rfl (RdR.mem M hr28 (by simp)) (zC_one _) (by rw [zC_len]; simp only [List.length_nil, List.length_cons]; omega) rfl fun ks30 A30 _ _ K hA30 M => ?_
   rw [List.nil_append] at hA30
   have hP := hP.quiet M.qt
   have hX := hX.quiet M.qt
   have hgeA : ∀ c m l, (c, m, l) ∈ A30 → st9.n ≤ c := fun c m l h => hA30.ge h
   have M := M0.rejoin M (by simp)
   replace M := Mem.cast (M' := A30 ++ []) M (by simp)
   have Mz1 := M
   have hlt2' := hX.hi
   have hnd := hP.nodup
   refine d1 rfl K (os_move rfl) rfl rfl fun _ K => ?_
   obtain ⟨v31, st31, ev31, rfl, F', hP, hF', Q1, M⟩ := ofP_in (L := L) M hP (fun c m l hm hF => by have := hlt c hF; have := hgeA c m l (by simpa using hm); omega) (by omega) (Mem.accR (L := []) (A := A30) (B := []) M hA30) hz28 (by omega)
   refine dA rfl K (os_call rfl ev31) rfl rfl fun _ K => ?_
   have hX := hX.apart Q1 (fun c h2 hF => hd c hF h2)
   have hd' : ∀ c, F' c → ¬ F2 c := fun c h h2 => (hF' c h).elim (fun h => hd c h h2) (fun h => by have := hlt2' c h2; omega)
   replace M := M.less (List.nil_sublist _)
   refine d1 rfl K (os_move rfl) rfl rfl fun _ K => ?_
   refine d1 rfl K (os_move rfl) rfl rfl fun _ K => ?_
   refine d1 rfl K (os_move rfl) rfl rfl fun _ K => ?_
   obtain ⟨_, hc35, w35, rfl, hr35, hz35⟩ := hLL.at_ _ _ hi28
   obtain ⟨x35, m35, f35, q35, _, la35, lo35, lp35⟩ := hLL.r.load (P := Tryd.prog) (i := i) (cs := _) hc35
   have hlt35 : x35 < st.n := by
     obtain ⟨_, cells, h2, _⟩ := hLL.r.alive _ _ _ _ _ q35
     exact h2.lt hf
   have lo35 := lo35 22 0 _ tk_S_int rfl
   refine d1 rfl K (os_indexAddr (j := i) el_S_S_int (congrArg some q35) rfl (by rw [hLL.ln]; omega)) rfl rfl fun _ K => ?_
   refine wd_loadN rfl K rfl ((loadA_frame (M.old x35 hlt35 (by simp))).trans lo35) (by simp) (by
     intro s hs
     simp only [List.take_succ_cons, List.take_zero, List.mem_cons, List.not_mem_nil, or_false] at hs
     rcases hs with rfl | rfl
     · exact (loadA_frame (Mz1.old x35 hlt35 (by simp))).trans lo35
     · exact (loadA_frame (M0.old x35 hlt35 (by simp))).trans lo35) (eqV_one (eqOk_len (hr35.len.trans (congrArg some (zC_len _))))) rfl (by decide) fun _ K => ?_
   have hltP := hP.hi
   obtain ⟨v37, st37, ev37, rfl, F2', hX, hF2', Q2, M⟩ := rOf_in (L := L) M hX hnd (by omega) (hr35.old hf fun c hc => M.old c hc (by simp)) hz35 (by omega)
   refine dA rfl K (os_call rfl ev37) rfl rfl fun _ K => ?_
   have hP := hP.apart Q2 hd'
   have hd'' : ∀ c, F' c → ¬ F2' c := fun c h h2 => (hF2' c h2).elim (fun h2 => hd' c h h2) (fun h2 => by have := hltP c h; omega)
   refine d1 rfl K (os_neI rfl rfl) rfl rfl fun _ K => ?_
   refine dB rfl K (os_move rfl) rfl rfl fun b39 _ e39 K => ?_
   cases b39
   · replace e39 : ((((ofN L s28) : Nat) : Int) = (((ofN L s28) : Nat) : Int)) := by simpa using e39
     refine dg rfl K rfl rfl (os_move rfl) rfl rfl fun _ K => ?_
     obtain ⟨ks, A, vs, hrow, hFp, hS⟩ := hX.at_
     obtain ⟨v41, st41, ev41, rfl, q41⟩ := lenP_ev M.fresh hP.at_
     have hrow2 : Row1 st41.h.get c13 0 [ks] := hrow.frame (q41.old c13 (hX.hi c13 hFp))
     refine dga rfl K rfl rfl (os_call rfl ev41) rfl rfl fun _ K => ?_
     replace M := M.quiet q41
     have hP := hP.quiet q41
     have hX := hX.quiet q41
     refine dg rfl K rfl rfl (os_move rfl) rfl rfl fun _ K => ?_
     refine dg rfl K rfl rfl (os_nil rfl rfl) rfl rfl fun _ K => ?_
     refine dg rfl K rfl rfl (os_fieldAddr fo_sibylref15_Pool_0 rfl) rfl rfl fun _ K => ?_
     refine wd_gload1 rfl K rfl rfl rfl (ld_row hrow2.rowV (part_one tk_S_S_int rfl)) (ld_row hrow.rowV (part_one tk_S_S_int rfl)) (eqV_one (eqOk_len hS.len)) rfl (by decide) fun _ K => ?_
     refine dg rfl K rfl rfl (os_lenL un_S_S_int rfl rfl hS.len) rfl rfl fun _ K => ?_
     refine dg rfl K rfl rfl (os_neI rfl rfl) rfl rfl fun _ K => ?_
     refine d1 rfl K (os_pick rfl rfl rfl) rfl rfl fun _ K => ?_
     refine wd_nil ?_
     show W _ _ _ _ _ _ _
     refine w_cond (K.opd rfl) (fun h48 => ?_) (fun h48 => ?_)
     · have hb48 := h48
       replace h48 : ¬ ((((ofL L s28).length : Nat) : Int) = (((ofL L s28).length : Nat) : Int)) := by simpa using h48
       refine w_seq ?_
       refine w_region ?_
       refine o1 K (os_assign rfl) rfl fun _ K => ?_
       refine wr_nil ?_
       show W _ _ _ _ _ _ _
       refine w_ret ?_
       refine ⟨.inr rfl, _, (res_one (rs_tmp K rfl)), ?_⟩
       exact absurd rfl h48
     have hb48 := h48
     replace h48 : ((((ofL L s28).length : Nat) : Int) = (((ofL L s28).length : Nat) : Int)) := by simpa using h48
     refine w_skip ?_
     show W _ _ _ _ _ _ _
     refine w_region ?_
     refine o1 K (os_move rfl) rfl fun _ K => ?_
     refine o1 K (os_add rfl rfl (by omega) (by omega)) rfl fun _ K => ?_
     refine o1 K (os_assign rfl) rfl fun _ K => ?_
     refine wr_nil ?_
     exact ⟨_, (by omega), i + 1, _, _, _, rfl, (.cons (K _ _ rfl) (.cons (K _ _ rfl) (.cons (K _ _ rfl) (.cons (K _ _ rfl) (.cons (K _ _ rfl) .nil))))), M.less (List.nil_sublist _), (by omega), hP, hX, hd'', (by have := ofL_len L s28; omega), (fun s hs => by rcases ofL_mem hs with h | h; exact hLs s h; (rw [h]; have := sortedZ_len s28; omega))⟩
   replace e39 : ¬ ((((ofN L s28) : Nat) : Int) = (((ofN L s28) : Nat) : Int)) := by simpa using e39
   refine dgn rfl K rfl rfl rfl rfl fun _ _ K => ?_
   refine dgn rfl K rfl rfl rfl rfl fun _ _ K => ?_
   refine dgn rfl K rfl rfl rfl rfl fun _ _ K => ?_
   refine dgn rfl K rfl rfl rfl rfl fun _ _ K => ?_
   refine dgn rfl K rfl rfl rfl rfl fun _ _ K => ?_
   refine dgn rfl K rfl rfl rfl rfl fun _ _ K => ?_
   refine dgn rfl K rfl rfl rfl rfl fun _ _ K => ?_
   refine dgn rfl K rfl rfl rfl rfl fun _ _ K => ?_
   refine d1 rfl K (os_pick rfl rfl rfl) rfl rfl fun _ K => ?_
   refine wd_nil ?_
   show W _ _ _ _ _ _ _
   refine w_cond (t := true) (K.opd rfl) (fun _ => ?_) (fun h => by cases h)
   refine w_seq ?_
   refine w_region ?_
   refine o1 K (os_assign rfl) rfl fun _ K => ?_
   refine wr_nil ?_
   show W _ _ _ _ _ _ _
   refine w_ret ?_
   refine ⟨.inr rfl, _, (res_one (rs_tmp K rfl)), ?_⟩
   exact absurd rfl e39
 have hb21 := h21
 replace h21 := of_decide_eq_false h21
 refine w_exit ?_
 show W _ _ _ _ _ _ _
 refine w_seq ?_
 refine w_seq ?_
 refine w_region ?_
 refine o1 K (os_move rfl) rfl fun _ K => ?_
 refine o1 K (os_eqPN un_P_pool_Pool rfl rfl) rfl fun _ K => ?_
 refine o1 K (os_move rfl) rfl fun _ K => ?_
 refine og K rfl rfl (os_move rfl) rfl fun _ K => ?_
 refine og K rfl rfl (os_move rfl) rfl fun _ K => ?_
 obtain ⟨v54, st54, ev54, ks54, rfl, nr54, q54⟩ := getP_in M hP (fun s hs => by have := hLs s hs; omega) id
 refine og K rfl rfl (os_call rfl ev54) rfl fun _ K => ?_
 obtain ⟨A54, hA54, M⟩ := M.callAcc q54 nr54
 replace M := Mem.cast (M' := A54 ++ []) M (by simp)
 have hP := hP.quiet q54
 have hX := hX.quiet q54
 refine og K rfl rfl (os_move rfl) rfl fun _ K => ?_
 refine og K rfl rfl (os_move rfl) rfl fun _ K => ?_
 obtain ⟨v57, st57, ev57, ks57, rfl, hr57, q57⟩ := rGet_ev M.fresh hX.at_ (by omega) id
 refine og K rfl rfl (os_call rfl ev57) rfl fun _ K => ?_
 replace M := M.quiet q57
 have hP := hP.quiet q57
 have hX := hX.quiet q57
 obtain ⟨v58, st58, ev58, rfl, q58⟩ := sameZ_same M.fresh (Mem.accR (L := []) (A := A54) (B := []) M hA54) hr57
 refine og K rfl rfl (os_call rfl ev58) rfl fun _ K => ?_
 replace M := M.quiet q58
 have hP := hP.quiet q58
 have hX := hX.quiet q58
 replace M := M.less (List.nil_sublist _)
 refine og K rfl rfl (os_not rfl) rfl fun _ K => ?_
 refine o1 K (os_pick rfl rfl rfl) rfl fun _ K => ?_
 refine wr_nil ?_
 show W _ _ _ _ _ _ _
 refine w_cond (t := false) (K.opd rfl) (fun h => by cases h) (fun _ => ?_)
 refine w_skip ?_
 show W _ _ _ _ _ _ _
 refine w_seq ?_
 refine w_seq ?_
 refine w_region ?_
 refine o1 K (os_assign rfl) rfl fun _ K => ?_
 refine wr_nil ?_
 show W _ _ _ _ _ _ _
 refine w_block ?_
 refine w_loop (fun mm2 T st9 => ∃ (j : Nat), mm2 = L.length - j ∧ KnT [(5, .ptr cp 0 0), (6, .ptr c13 0 0), (8, .int .i64 (((j : Nat) : Int)))] T ∧ Mem st.h.get st.n [] st9 [] ∧ j ≤ L.length ∧ PoolIn st.n st9 F cp L ∧ RefIn st.n st9 F2 c13 L) (fun mm2 T st9 hI => ?_) _ _ _ ⟨0, rfl, (.cons (K _ _ rfl) (.cons (K _ _ rfl) (.cons (K _ _ rfl) .nil))), M.less (.refl _), (Nat.zero_le _), hP, hX⟩
 obtain ⟨j, rfl, K, M, hj, hP, hX⟩ := hI
 obtain ⟨ks, A, vs, hrow, hFp, hS⟩ := hX.at_
 refine w_seq ?_
 refine w_seq ?_
 refine w_region ?_
 refine o1 K (os_move rfl) rfl fun _ K => ?_
 refine o1 K (os_move rfl) rfl fun _ K => ?_
 refine o1 K (os_nil rfl rfl) rfl fun _ K => ?_
 refine o1 K (os_fieldAddr fo_sibylref15_Pool_0 rfl) rfl fun _ K => ?_
 refine o1 K (os_load rfl (ld_row hrow.rowV (part_one tk_S_S_int rfl))) rfl fun _ K => ?_
 refine o1 K (os_lenL un_S_S_int rfl rfl hS.len) rfl fun _ K => ?_
 refine o1 K (os_lss rfl rfl) rfl fun _ K => ?_
 refine wr_nil ?_
 show W _ _ _ _ _ _ _
 refine w_cond (K.opd rfl) (fun h67 => ?_) (fun h67 => ?_)
 · have hb67 := h67
   replace h67 := of_decide_eq_true h67
   refine w_skip ?_
   show W _ _ _ _ _ _ _
   refine w_seq ?_
   refine w_block ?_
   refine w_seq ?_
   refine w_drawI (l := [(0, 0), (1, 0), (2, 0), (3, 0), (4, 0), (5, 0), (6, 1), (7, 0), (8, 0), (9, 1), (10, 0), (11, 0)]) (by kernel_rfl) ?_
   obtain ⟨s78, hi78⟩ : ∃ x, L[j]? = some x := ⟨_, List.getElem?_eq_getElem (by omega)⟩
   have hg : getZ L ((j : Nat) : Int) = s78 := getZ_at (by omega) (by simpa using hi78)
   refine d1 rfl K (os_move rfl) rfl rfl fun _ K => ?_
   refine d1 rfl K (os_move rfl) rfl rfl fun _ K => ?_
   obtain ⟨v72, st72, ev72, ks72, rfl, nr72, q72⟩ := getP_in M hP (fun s hs => by have := hLs s hs; omega) ((j : Nat) : Int)
   rw [hg] at nr72
   have hrow2 : Row1 st72.h.get c13 0 [ks] := hrow.frame (q72.old c13 (hX.hi c13 hFp))
   have hS2 := hS.frame (fun c h => q72.old c (hX.hi c h))
   refine dA rfl K (os_call rfl ev72) rfl rfl fun _ K => ?_
   obtain ⟨A72, hA72, M⟩ := M.callAcc q72 nr72
   replace M := Mem.cast (M' := A72 ++ []) M (by simp)
   have hP := hP.quiet q72
   have hX := hX.quiet q72
   refine d1 rfl K (os_move rfl) rfl rfl fun _ K => ?_
   refine d1 rfl K (os_nil rfl rfl) rfl rfl fun _ K => ?_
   refine d1 rfl K (os_fieldAddr fo_sibylref15_Pool_0 rfl) rfl rfl fun _ K => ?_
   refine wd_load1 rfl K rfl (ld_row hrow2.rowV (part_one tk_S_S_int rfl)) (ld_row hrow.rowV (part_one tk_S_S_int rfl)) (eqV_one (eqOk_len hS.len)) rfl (by decide) fun _ K => ?_
   refine d1 rfl K (os_move rfl) rfl rfl fun _ K => ?_
   obtain ⟨u78, hc78, hr78, hz78, hq78, hf78⟩ := hS2.inn _ _ hi78
   obtain ⟨x78, m78, f78, q78, _, la78, lo78, lp78, la'78, lo'78, lp'78⟩ := RdR.load2 hS2.rd hS.rd (i := j) (cs := [u78]) (by rw [List.getElem?_map, hc78]; rfl)
   refine d1 rfl K (os_indexAddr (j := j) el_S_S_int (congrArg some q78) rfl (by rw [List.length_map, hS.ln]; omega)) rfl rfl fun _ K => ?_
   refine wd_load1 rfl K rfl (lo78 _ 0 _ tk_S_int rfl) (lo'78 _ 0 _ tk_S_int rfl) (eqV_one (eqOk_len (hr78.len.trans (congrArg some (zC_len _))))) rfl (by decide) fun _ K => ?_
   obtain ⟨v80, st80, ev80, rfl, q80⟩ := sameZ_same M.fresh (Mem.accR (L := []) (A := A72) (B := []) M hA72) hr78
   refine dA rfl K (os_call rfl ev80) rfl rfl fun _ K => ?_
   replace M := M.quiet q80
   have hP := hP.quiet q80
   have hX := hX.quiet q80
   replace M := M.less (List.nil_sublist _)
   refine d1 rfl K (os_not rfl) rfl rfl fun _ K => ?_
   refine wd_nil ?_
   show W _ _ _ _ _ _ _
   refine w_cond (t := false) (K.opd rfl) (fun h => by cases h) (fun _ => ?_)
   refine w_skip ?_
   show W _ _ _ _ _ _ _
   refine w_region ?_
   refine o1 K (os_move rfl) rfl fun _ K => ?_
   refine o1 K (os_add rfl rfl (by omega) (by omega)) rfl fun _ K => ?_
   refine o1 K (os_assign rfl) rfl fun _ K => ?_
   refine wr_nil ?_
   exact ⟨_, (by omega), j + 1, rfl, (.cons (K _ _ rfl) (.cons (K _ _ rfl) (.cons (K _ _ rfl) .nil))), M.less (.refl _), (by omega), hP, hX⟩
 have hb67 := h67
 replace h67 := of_decide_eq_false h67
 refine w_exit ?_
 show W _ _ _ _ _ _ _
 refine w_seq ?_
 refine w_region ?_
 have ev82 := known15_ev
 refine o1 K (os_call rfl (ev82 _)) rfl fun _ K => ?_
 refine o1 K (os_assign rfl) rfl fun _ K => ?_
 refine wr_nil ?_
 show W _ _ _ _ _ _ _
 refine w_ret ?_
 refine ⟨.inr rfl, _, (res_one (rs_tmp K rfl)), ?_⟩
 rfl
theorem walk_poolPlays {H : Type} {enc : TypeId × Value → H} {W : World} {v0 : Value} {d0 : DataW H} {p0 : List MemPlace} (h0 : DataW.Trod enc Tryd.prog W 0 (fun _ => true) true 23 v0 d0 p0) (n0 : ∀ cs, v0 ≠ .agg cs) (i : Int) (hi : -9223372036854775808 ≤ i ∧ i ≤ 9223372036854775807) (hT : TabsP W) :
    Calls Tryd.prog 4 #[v0, .int .i64 i] W fun e w' => e = .returned (.bool true) ∧ Below W.heap.size W w' := by
  obtain ⟨ml1, kl, l, ls, _, hM1, hl, hw, hc⟩ := hand_listsZ GoodM.nil h0 n0
  have := open_true (G := envP) (fun _ => rfl) envP_ok mixed (f := 4) (args := [kl, .int .i64 i]) hM1 ⟨hw, trivial, trivial⟩
    (poolPlays_ev (stM_fresh ml1) (LL := l) (lL := ls) (by rw [stM_get]; exact hl) i) hT
  rw [show concL (plM ml1) [kl, .int .i64 i] = [v0, .int .i64 i] by rw [← hc]; rfl] at this
  exact this
end Go.Proofs.YtjjadifjcodjpaaDoor
