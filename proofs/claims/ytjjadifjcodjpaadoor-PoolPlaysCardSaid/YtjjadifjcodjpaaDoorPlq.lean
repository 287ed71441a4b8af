/-
  Pools: what is long; PoolSame.
-/
import Derived.Test.YtjjadifjcodjpaaDoorPlp
namespace Go.Proofs.YtjjadifjcodjpaaDoor
open Go Go.RowKit
set_option linter.unusedVariables false
set_option linter.unusedSimpArgs false
set_option linter.unnecessarySimpa false
set_option maxRecDepth 100000
set_option maxHeartbeats 1000000

theorem os_eqB {P : Program} {G : Env} {K : List (Nat × AV)} {st : St} {t yt : TypeId} {x y : Operand} {a b : Bool} (ht : P.underlying t = some .bool) (hx : opK G K x = some (.bool a)) (hy : opK G K y = some (.bool b)) : OpS P G K (.binOp .eql t x y yt) st (.bool (a == b)) st :=
  os_bin hx hy (by
    show need (eqFits (P.underlying t) (.bool a)) (ob (eqNil (.bool a) (.bool b)) fun b => some (AV.bool b)) = _
    rw [ht]
    cases a <;> cases b <;> rfl)
/-- A row of rows of numbers. -/
def ListR (h : Hp) (s : List Int) (cs : List AV) : Prop := ∃ v, cs = [v] ∧ RdR h [] 1 (zC s) v ∧ In64 s
def LsR (h : Hp) (l : List (List Int)) (kk : AV) (ls : List (List AV)) : Prop := RowsZ h 1 (ListR h) l kk ls
theorem LsR.len {h : Hp} {l : List (List Int)} {kk : AV} {ls : List (List AV)} (H : LsR h l kk ls) : slLen kk = some l.length := by rw [← RowsZ.ln H]; exact (RowsZ.r H).len
theorem RdR.old {st : St} (hf : Fresh st) {h' : Hp} {z : Nat} {ls : List (List AV)} {v : AV} (r : RdR st.h.get [] z ls v) (hO : ∀ c, c < st.n → h' c = st.h.get c) : RdR h' [] z ls v :=
  r.frame fun c m o n y e => by
    obtain ⟨_, cells, h2, _⟩ := r.alive c m o n y e
    exact hO c (h2.lt hf)
theorem LsR.old {st : St} (hf : Fresh st) {h' : Hp} {l : List (List Int)} {kk : AV} {ls : List (List AV)} (H : LsR st.h.get l kk ls) (hO : ∀ c, c < st.n → h' c = st.h.get c) : LsR h' l kk ls :=
  ⟨(RowsZ.r H).old hf hO, RowsZ.ln H, fun i k hi => by
    obtain ⟨cs, h1, v, h2, h3, h4⟩ := RowsZ.at_ H i k hi
    exact ⟨cs, h1, v, h2, h3.old hf hO, h4⟩⟩
/-- A Pool of this call's own. -/
structure PoolIn (n0 : Nat) (st : St) (F : Nat → Prop) (cp : Nat) (L : List (List Int)) : Prop where
  lo : ∀ c, F c → n0 ≤ c
  hi : ∀ c, F c → c < st.n
  at_ : PoolAt st.h.get F cp L
theorem PoolIn.quiet {n0 : Nat} {st st' : St} {F : Nat → Prop} {cp : Nat} {L : List (List Int)} (H : PoolIn n0 st F cp L) (q : Qt st st') : PoolIn n0 st' F cp L :=
  ⟨H.lo, fun c h => Nat.lt_of_lt_of_le (H.hi c h) q.le, H.at_.frame fun c h => q.old c (H.hi c h)⟩
theorem PoolIn.apart {n0 : Nat} {st st' : St} {F F2 : Nat → Prop} {cp : Nat} {L : List (List Int)} (H : PoolIn n0 st F cp L) (q : ChgF F2 st st') (hd : ∀ c, F c → ¬ F2 c) : PoolIn n0 st' F cp L :=
  ⟨H.lo, fun c h => Nat.lt_of_lt_of_le (H.hi c h) q.le, H.at_.frame fun c h => q.old c (H.hi c h) (hd c h)⟩
theorem PoolIn.nodup {n0 : Nat} {st : St} {F : Nat → Prop} {cp : Nat} {L : List (List Int)} (H : PoolIn n0 st F cp L) : L.Nodup := by
  obtain ⟨_, _, _, _, _, _, _, _, _, _, _, _, h⟩ := H.at_
  exact h
/-- What a call changes lies apart: what was there is there. -/
theorem Mem.callF {h0 : Hp} {n0 : Nat} {X : List Nat} {st st' : St} {M : Rows1} (hM : Mem h0 n0 X st M) {F : Nat → Prop} (Q : ChgF F st st') (hF : ∀ c, F c → n0 ≤ c) (hd : ∀ c m l, (c, m, l) ∈ M → ¬ F c) : Mem h0 n0 X st' M :=
  ⟨Q.fresh, Nat.le_trans hM.le Q.le, hM.base, fun c m l h => by
    have h1 := hM.lt c m l h
    have h2 := hM.row c m l h
    exact Row1.frame h2 (Q.old c h1 (hd c m l h)), fun c m l h => Nat.lt_of_lt_of_le (hM.lt c m l h) Q.le, hM.own, hM.nodup, fun c hc hx => by
    rw [Q.old c (Nat.lt_of_lt_of_le hc hM.le) fun h => by have := hF c h; omega]; exact hM.old c hc hx⟩
theorem newP_in {n0 : Nat} {h0 : Hp} {X : List Nat} {st : St} {M : Rows1} (hM : Mem h0 n0 X st M) : ∃ v st', Ev Tryd.prog envP 8 [] st v st' ∧ ∃ cp F, v = .ptr cp 0 0 ∧ PoolIn n0 st' F cp [] ∧ (∀ c, F c → st.n ≤ c) ∧ Qt st st' := by
  obtain ⟨v, st', ev, cp, hv, hP, q⟩ := newP_ev hM.fresh
  exact ⟨v, st', ev, cp, _, hv, ⟨fun c h => Nat.le_trans hM.le h.1, fun c h => h.2, hP⟩, fun c h => h.1, q⟩
theorem ofP_in {n0 : Nat} {h0 : Hp} {X : List Nat} {st : St} {M : Rows1} (hM : Mem h0 n0 X st M) {F : Nat → Prop} {cp : Nat} {L : List (List Int)} (hP : PoolIn n0 st F cp L) (hd : ∀ c m l, (c, m, l) ∈ M → ¬ F c) (hL : L.length ≤ 100000) {l : List Int} {kl : AV} (hl : RdR st.h.get [] 1 (zC l) kl) (hz : In64 l) (hn : l.length ≤ 100000) :
    ∃ v st', Ev Tryd.prog envP 9 [.ptr cp 0 0, kl] st v st' ∧ v = .int .i64 ((ofN L l : Nat) : Int) ∧ ∃ F', PoolIn n0 st' F' cp (ofL L l) ∧ (∀ c, F' c → F c ∨ st.n ≤ c) ∧ ChgF F st st' ∧ Mem h0 n0 X st' M := by
  obtain ⟨v, st', ev, hv, hP', Q⟩ := ofP_ev hM.fresh hP.at_ hP.hi hL hl hz hn
  refine ⟨v, st', ev, hv, _, ⟨fun c h => ?_, fun c h => ?_, hP'⟩, fun c h => h.imp id (fun h => h.1), Q, hM.callF Q hP.lo hd⟩
  · rcases h with h | h
    · exact hP.lo c h
    · exact Nat.le_trans hM.le h.1
  · rcases h with h | h
    · exact Nat.lt_of_lt_of_le (hP.hi c h) Q.le
    · exact h.2
theorem getP_in {n0 : Nat} {h0 : Hp} {X : List Nat} {st : St} {M : Rows1} (hM : Mem h0 n0 X st M) {F : Nat → Prop} {cp : Nat} {L : List (List Int)} (hP : PoolIn n0 st F cp L) (hbd : ∀ s ∈ L, s.length ≤ 100000) (id : Int) :
    ∃ v st', Ev Tryd.prog envP 15 [.ptr cp 0 0, .int .i64 id] st v st' ∧ ∃ ks, v = ks ∧ NewR st st' 1 ks (zC (getZ L id)) ∧ Qt st st' := getP_ev hM.fresh hP.at_ hbd hP.hi id
theorem sortedZ_len (l : List Int) : (sortedZ l).length ≤ l.length := by
  have key : ∀ (l acc : List Int), (l.foldl (fun o x => insZ x o) acc).length ≤ acc.length + l.length := by
    intro l
    induction l with
    | nil => intro acc; simp
    | cons x l ih =>
      intro acc
      have h1 := ih (insZ x acc)
      have h2 := insZ_len x acc
      rw [List.foldl_cons, List.length_cons]
      omega
  simpa [sortedZ] using key l []
theorem ofL_len (L : List (List Int)) (l : List Int) : (ofL L l).length ≤ L.length + 1 := by
  rw [ofL]; split
  · omega
  · simp
theorem ofL_head {L : List (List Int)} {l s : List Int} (h : L[0]? = some s) : (ofL L l)[0]? = some s := by
  rw [ofL]; split
  · exact h
  · have := (List.getElem?_eq_some_iff.1 h).1
    rw [List.getElem?_append_left this]; exact h
theorem ofL_one (l : List Int) : ofL [] l = [sortedZ l] := rfl
theorem ofN_one (l : List Int) : ofN [] l = 0 := rfl
theorem ofN_zero {L : List (List Int)} {l s : List Int} (h : L[0]? = some s) (hd : L.Nodup) : ((ofN L l : Nat) : Int) = 0 ↔ s = sortedZ l := by
  have hp := (List.getElem?_eq_some_iff.1 h).1
  constructor
  · intro e
    have e : ofN L l = 0 := by omega
    rw [ofN] at e
    cases hn : numF 0 L (sortedZ l) with
    | none => rw [hn] at e; have e : L.length = 0 := e; omega
    | some i =>
      rw [hn] at e
      have e : i = 0 := e
      subst e
      have := (numF_some hn).2
      rw [h] at this
      exact Option.some.inj this
  · rintro rfl
    rw [ofN, numF_first h hd]; rfl

theorem long_ev {st : St} (hf : Fresh st) {LL : List (List Int)} {kL : AV} {lL : List (List AV)} (hLL : LsR st.h.get LL kL lL) : ∃ v st', Ev Tryd.prog envP 7 [kL] st v st' ∧ ∃ b, v = .bool b ∧ (b = false → (∀ s ∈ LL, s.length ≤ 50) ∧ LL.length ≤ 80) ∧ Qt st st' := by
 have hLb := hLL.r.bnd
 rw [hLL.ln] at hLb
 refine ev_fn rfl Tryd.func7 rfl Tryd.ntmps7 rfl (by decide) (by simp) fun T hT => ?_
 have K : KnT [(0, _)] T := (.cons (hT 0) .nil)
 have M := Mem.start hf
 refine w_seq ?_
 refine w_region ?_
 refine o1 K (os_assign rfl) rfl fun _ K => ?_
 refine wr_nil ?_
 show W _ _ _ _ _ _ _
 refine w_seq ?_
 refine w_seq ?_
 refine w_region ?_
 refine o1 K (os_assign rfl) rfl fun _ K => ?_
 refine wr_nil ?_
 show W _ _ _ _ _ _ _
 refine w_block ?_
 refine w_loop (fun mm1 T st9 => ∃ (i : Nat), mm1 = LL.length - i ∧ KnT [(0, kL), (3, .int .i64 (((i : Nat) : Int)))] T ∧ Mem st.h.get st.n [] st9 [] ∧ i ≤ LL.length ∧ (∀ j s, j < i → LL[j]? = some s → s.length ≤ 50)) (fun mm1 T st9 hI => ?_) _ _ _ ⟨0, rfl, (.cons (K _ _ rfl) (.cons (K _ _ rfl) .nil)), M.less (.refl _), (Nat.zero_le _), (fun j s hj => absurd hj (Nat.not_lt_zero j))⟩
 obtain ⟨i, rfl, K, M, hi, hx⟩ := hI
 refine w_seq ?_
 refine w_seq ?_
 refine w_region ?_
 refine o1 K (os_move rfl) rfl fun _ K => ?_
 refine o1 K (os_move rfl) rfl fun _ K => ?_
 refine o1 K (os_lenL un_S_S_int rfl rfl hLL.len) rfl fun _ K => ?_
 refine o1 K (os_lss rfl rfl) rfl fun _ K => ?_
 refine oB K (os_move rfl) rfl fun b8 _ e8 K => ?_
 cases b8
 · replace e8 := of_decide_eq_false e8
   refine gn K rfl rfl rfl rfl fun _ K => ?_
   refine gn K rfl rfl rfl rfl fun _ K => ?_
   refine o1 K (os_pick rfl rfl rfl) rfl fun _ K => ?_
   refine wr_nil ?_
   show W _ _ _ _ _ _ _
   refine w_cond (t := false) (K.opd rfl) (fun h => by cases h) (fun _ => ?_)
   refine w_exit ?_
   show W _ _ _ _ _ _ _
   refine w_seq ?_
   refine w_region ?_
   refine o1 K (os_move rfl) rfl fun _ K => ?_
   refine o1 K (os_lenL un_S_S_int rfl rfl hLL.len) rfl fun _ K => ?_
   refine o1 K (os_gtr rfl rfl) rfl fun _ K => ?_
   refine o1 K (os_assign rfl) rfl fun _ K => ?_
   refine wr_nil ?_
   show W _ _ _ _ _ _ _
   refine w_ret ?_
   refine ⟨.inr rfl, _, (res_one (rs_tmp K rfl)), ?_⟩
   refine ⟨_, rfl, fun h => ⟨fun s hs => ?_, ?_⟩, M.qt⟩
   · obtain ⟨j, hj, rfl⟩ := List.mem_iff_getElem.1 hs
     have h80 : LL.length ≤ 80 := by have := of_decide_eq_false h; omega
     exact hx j _ (by omega) (List.getElem?_eq_getElem hj)
   · have := of_decide_eq_false h; omega
 replace e8 := of_decide_eq_true e8
 refine og K rfl rfl (os_move rfl) rfl fun _ K => ?_
 refine og K rfl rfl (os_lss rfl rfl) rfl fun _ K => ?_
 refine o1 K (os_pick rfl rfl rfl) rfl fun _ K => ?_
 refine wr_nil ?_
 show W _ _ _ _ _ _ _
 refine w_cond (K.opd rfl) (fun h11 => ?_) (fun h11 => ?_)
 · have hb11 := h11
   replace h11 := of_decide_eq_true h11
   refine w_skip ?_
   show W _ _ _ _ _ _ _
   refine w_seq ?_
   refine w_block ?_
   refine w_seq ?_
   refine w_region ?_
   refine o1 K (os_move rfl) rfl fun _ K => ?_
   refine o1 K (os_move rfl) rfl fun _ K => ?_
   obtain ⟨s16, hi16⟩ : ∃ x, LL[i]? = some x := ⟨_, List.getElem?_eq_getElem (by omega)⟩
   have hm16 := List.mem_of_getElem? hi16
   obtain ⟨_, hc16, w16, rfl, hr16, hz16⟩ := hLL.at_ _ _ hi16
   obtain ⟨x16, m16, f16, q16, _, la16, lo16, lp16⟩ := (RdR.mem M hLL.r (by simp)).load (i := i) (cs := _) hc16
   refine o1 K (os_indexAddr (j := i) el_S_S_int (congrArg some q16) rfl (by rw [hLL.ln]; omega)) rfl fun _ K => ?_
   refine o1 K (os_load rfl (lo16 _ 0 _ tk_S_int rfl)) rfl fun _ K => ?_
   refine o1 K (os_lenL un_S_int rfl rfl (hr16.len.trans (congrArg some (zC_len _)))) rfl fun _ K => ?_
   refine o1 K (os_gtr rfl rfl) rfl fun _ K => ?_
   refine wr_nil ?_
   show W _ _ _ _ _ _ _
   refine w_cond (K.opd rfl) (fun h19 => ?_) (fun h19 => ?_)
   · have hb19 := h19
     replace h19 := of_decide_eq_true h19
     refine w_seq ?_
     refine w_region ?_
     refine o1 K (os_assign rfl) rfl fun _ K => ?_
     refine wr_nil ?_
     show W _ _ _ _ _ _ _
     refine w_ret ?_
     refine ⟨.inr rfl, _, (res_one (rs_tmp K rfl)), ?_⟩
     exact ⟨true, rfl, (fun h => by cases h), M.qt⟩
   have hb19 := h19
   replace h19 := of_decide_eq_false h19
   refine w_skip ?_
   show W _ _ _ _ _ _ _
   refine w_region ?_
   refine o1 K (os_move rfl) rfl fun _ K => ?_
   refine o1 K (os_add rfl rfl (by omega) (by omega)) rfl fun _ K => ?_
   refine o1 K (os_assign rfl) rfl fun _ K => ?_
   refine wr_nil ?_
   exact ⟨_, (by omega), i + 1, rfl, (.cons (K _ _ rfl) (.cons (K _ _ rfl) .nil)), M.less (.refl _), (by omega), (fun j s hj hs => by rcases Nat.lt_succ_iff_lt_or_eq.1 hj with h | h; exact hx j s h hs; (subst h; rw [hi16] at hs; injection hs with hs; subst hs; omega))⟩
 have hb11 := h11
 replace h11 := of_decide_eq_false h11
 refine w_exit ?_
 show W _ _ _ _ _ _ _
 refine w_seq ?_
 refine w_region ?_
 refine o1 K (os_move rfl) rfl fun _ K => ?_
 refine o1 K (os_lenL un_S_S_int rfl rfl hLL.len) rfl fun _ K => ?_
 refine o1 K (os_gtr rfl rfl) rfl fun _ K => ?_
 refine o1 K (os_assign rfl) rfl fun _ K => ?_
 refine wr_nil ?_
 show W _ _ _ _ _ _ _
 refine w_ret ?_
 refine ⟨.inr rfl, _, (res_one (rs_tmp K rfl)), ?_⟩
 refine ⟨_, rfl, fun h => ⟨fun s hs => ?_, ?_⟩, M.qt⟩
 · obtain ⟨j, hj, rfl⟩ := List.mem_iff_getElem.1 hs
   have h80 : LL.length ≤ 80 := by have := of_decide_eq_false h; omega
   exact hx j _ (by omega) (List.getElem?_eq_getElem hj)
 · have := of_decide_eq_false h; omega

theorem poolSame_ev {st : St} (hf : Fresh st) {a b : List Int} {ka kb : AV} (ha : RdR st.h.get [] 1 (zC a) ka) (hza : In64 a) (hb : RdR st.h.get [] 1 (zC b) kb) (hzb : In64 b) {LL : List (List Int)} {kL : AV} {lL : List (List AV)} (hLL : LsR st.h.get LL kL lL) : ∃ v st', Ev Tryd.prog envP 3 [ka, kb, kL] st v st' ∧ v = .bool true := by
 have hLb := hLL.r.bnd
 rw [hLL.ln] at hLb
 have hbna : (a.length : Int) ≤ 9223372036854775807 := by have := ha.bnd; rw [zC_len] at this; exact this
 have hbnb : (b.length : Int) ≤ 9223372036854775807 := by have := hb.bnd; rw [zC_len] at this; exact this
 refine ev_fn rfl Tryd.func3 rfl Tryd.ntmps3 rfl (by decide) (by simp) fun T hT => ?_
 have K : KnT [(0, _), (1, _), (2, _)] T := (.cons (hT 0) (.cons (hT 1) (.cons (hT 2) .nil)))
 have M := Mem.start hf
 refine w_seq ?_
 refine w_region ?_
 refine o1 K (os_assign rfl) rfl fun _ K => ?_
 refine wr_nil ?_
 show W _ _ _ _ _ _ _
 refine w_seq ?_
 refine w_seq ?_
 refine w_region ?_
 refine o1 K (os_move rfl) rfl fun _ K => ?_
 obtain ⟨v11, st11, ev11, lb, rfl, hlong, q11⟩ := long_ev M.fresh (hLL.old hf fun c hc => M.old c hc (by simp))
 refine o1 K (os_call rfl ev11) rfl fun _ K => ?_
 replace M := M.quiet q11
 refine oB K (os_move rfl) rfl fun b12 _ e12 K => ?_
 cases b12
 · refine og K rfl rfl (os_move rfl) rfl fun _ K => ?_
   refine og K rfl rfl (os_lenL un_S_int rfl rfl (ha.len.trans (congrArg some (zC_len _)))) rfl fun _ K => ?_
   refine og K rfl rfl (os_gtr rfl rfl) rfl fun _ K => ?_
   refine o1 K (os_pick rfl rfl rfl) rfl fun _ K => ?_
   refine oB K (os_move rfl) rfl fun b17 _ e17 K => ?_
   cases b17
   · replace e17 := of_decide_eq_false e17
     refine og K rfl rfl (os_move rfl) rfl fun _ K => ?_
     refine og K rfl rfl (os_lenL un_S_int rfl rfl (hb.len.trans (congrArg some (zC_len _)))) rfl fun _ K => ?_
     refine og K rfl rfl (os_gtr rfl rfl) rfl fun _ K => ?_
     refine o1 K (os_pick rfl rfl rfl) rfl fun _ K => ?_
     refine wr_nil ?_
     show W _ _ _ _ _ _ _
     refine w_cond (K.opd rfl) (fun h21 => ?_) (fun h21 => ?_)
     · have hb21 := h21
       replace h21 := of_decide_eq_true h21
       refine w_seq ?_
       refine w_region ?_
       refine o1 K (os_assign rfl) rfl fun _ K => ?_
       refine wr_nil ?_
       show W _ _ _ _ _ _ _
       refine w_ret ?_
       refine ⟨.inr rfl, _, (res_one (rs_tmp K rfl)), ?_⟩
       first
        | rfl
        | (rw [hx] at e51; cases e51; done)
        | exact absurd ((ofN_zero (ofL_head hL0) (ofL_nodup hnd)).2 rfl) e58
     have hb21 := h21
     replace h21 := of_decide_eq_false h21
     refine w_skip ?_
     show W _ _ _ _ _ _ _
     refine w_seq ?_
     refine w_region ?_
     obtain ⟨v22, st22, ev22, cp, F22, rfl, hP, hF0, q22⟩ := newP_in M
     refine o1 K (os_call rfl ev22) rfl fun _ K => ?_
     replace M := M.quiet q22
     refine o1 K (os_assign rfl) rfl fun _ K => ?_
     refine wr_nil ?_
     show W _ _ _ _ _ _ _
     refine w_seq ?_
     refine w_seq ?_
     refine w_region ?_
     refine o1 K (os_move rfl) rfl fun _ K => ?_
     refine o1 K (os_eqPN un_P_pool_Pool rfl rfl) rfl fun _ K => ?_
     refine wr_nil ?_
     show W _ _ _ _ _ _ _
     refine w_cond (t := false) (K.opd rfl) (fun h => by cases h) (fun _ => ?_)
     refine w_skip ?_
     show W _ _ _ _ _ _ _
     refine w_seq ?_
     refine w_region ?_
     refine o1 K (os_move rfl) rfl fun _ K => ?_
     refine o1 K (os_move rfl) rfl fun _ K => ?_
     obtain ⟨v27, st27, ev27, rfl, F27, hP, hF27, Q27, M⟩ := ofP_in (L := []) M hP (by simp) (by first | (simp only [List.length_nil]; omega) | (have := ofL_len L b; omega)) (ha.old hf fun c hc => M.old c hc (by simp)) hza (by omega)
     refine o1 K (os_call rfl ev27) rfl fun _ K => ?_
     refine o1 K (os_assign rfl) rfl fun _ K => ?_
     refine wr_nil ?_
     show W _ _ _ _ _ _ _
     refine w_seq ?_
     refine w_seq ?_
     refine w_region ?_
     refine o1 K (os_assign rfl) rfl fun _ K => ?_
     refine wr_nil ?_
     show W _ _ _ _ _ _ _
     refine w_block ?_
     refine w_loop (fun mm1 T st9 => ∃ (k : Nat) (F : Nat → Prop) (L : List (List Int)), mm1 = LL.length - k ∧ KnT [(0, ka), (1, kb), (2, kL), (6, .bool false), (7, .ptr cp 0 0), (8, .int .i64 ((((ofN [] a) : Nat) : Int))), (9, .int .i64 (((k : Nat) : Int)))] T ∧ Mem st.h.get st.n [] st9 [] ∧ k ≤ LL.length ∧ PoolIn st.n st9 F cp L ∧ L[0]? = some (sortedZ a) ∧ L.length ≤ k + 1) (fun mm1 T st9 hI => ?_) _ _ _ ⟨0, _, _, rfl, (.cons (K _ _ rfl) (.cons (K _ _ rfl) (.cons (K _ _ rfl) (.cons (K _ _ rfl) (.cons (K _ _ rfl) (.cons (K _ _ rfl) (.cons (K _ _ rfl) .nil))))))), M.less (.refl _), (Nat.zero_le _), hP, rfl, (by rw [ofL_one]; exact Nat.le_refl _)⟩
     obtain ⟨k, F, L, rfl, K, M, hi, hP, hL0, hLn⟩ := hI
     have h80 := hlong e12
     refine w_seq ?_
     refine w_seq ?_
     refine w_region ?_
     refine o1 K (os_move rfl) rfl fun _ K => ?_
     refine o1 K (os_move rfl) rfl fun _ K => ?_
     refine o1 K (os_lenL un_S_S_int rfl rfl hLL.len) rfl fun _ K => ?_
     refine o1 K (os_lss rfl rfl) rfl fun _ K => ?_
     refine wr_nil ?_
     show W _ _ _ _ _ _ _
     refine w_cond (K.opd rfl) (fun h31 => ?_) (fun h31 => ?_)
     · have hb31 := h31
       replace h31 := of_decide_eq_true h31
       refine w_skip ?_
       show W _ _ _ _ _ _ _
       refine w_seq ?_
       refine w_block ?_
       refine w_region ?_
       refine o1 K (os_move rfl) rfl fun _ K => ?_
       refine o1 K (os_move rfl) rfl fun _ K => ?_
       refine o1 K (os_move rfl) rfl fun _ K => ?_
       obtain ⟨s37, hi37⟩ : ∃ x, LL[k]? = some x := ⟨_, List.getElem?_eq_getElem (by omega)⟩
       have hm37 := List.mem_of_getElem? hi37
       obtain ⟨_, hc37, w37, rfl, hr37, hz37⟩ := hLL.at_ _ _ hi37
       obtain ⟨x37, m37, f37, q37, _, la37, lo37, lp37⟩ := (RdR.mem M hLL.r (by simp)).load (i := k) (cs := _) hc37
       refine o1 K (os_indexAddr (j := k) el_S_S_int (congrArg some q37) rfl (by rw [hLL.ln]; omega)) rfl fun _ K => ?_
       refine o1 K (os_load rfl (lo37 _ 0 _ tk_S_int rfl)) rfl fun _ K => ?_
       have hb9 := h80.1 _ hm37
       obtain ⟨v39, st39, ev39, rfl, F39, hP, hF39, Q39, M⟩ := ofP_in (L := L) M hP (by simp) (by first | (simp only [List.length_nil]; omega) | (have := ofL_len L b; omega)) (hr37.old hf fun c hc => M.old c hc (by simp)) hz37 (by omega)
       refine o1 K (os_call rfl ev39) rfl fun _ K => ?_
       refine wr_nil ?_
       show W _ _ _ _ _ _ _
       refine w_region ?_
       refine o1 K (os_move rfl) rfl fun _ K => ?_
       refine o1 K (os_add rfl rfl (by omega) (by omega)) rfl fun _ K => ?_
       refine o1 K (os_assign rfl) rfl fun _ K => ?_
       refine wr_nil ?_
       exact ⟨_, (by omega), k + 1, _, _, rfl, (.cons (K _ _ rfl) (.cons (K _ _ rfl) (.cons (K _ _ rfl) (.cons (K _ _ rfl) (.cons (K _ _ rfl) (.cons (K _ _ rfl) (.cons (K _ _ rfl) .nil))))))), M.less (.refl _), (by omega), hP, (ofL_head hL0), (by have := ofL_len L s37; omega)⟩
     have hb31 := h31
     replace h31 := of_decide_eq_false h31
     refine w_exit ?_
     show W _ _ _ _ _ _ _
     refine w_seq ?_
     have hnd := hP.nodup
     have hx : (decide (((ofN L b : Nat) : Int) = ((ofN [] a : Nat) : Int)) == decide (sortedZ a = sortedZ b)) = true := by
       rw [beq_iff_eq]
       exact decide_eq_decide.2 (ofN_zero hL0 hnd)
     refine w_region ?_
     refine o1 K (os_move rfl) rfl fun _ K => ?_
     refine o1 K (os_move rfl) rfl fun _ K => ?_
     obtain ⟨v42, st42, ev42, rfl, F42, hP, hF42, Q42, M⟩ := ofP_in (L := L) M hP (by simp) (by first | (simp only [List.length_nil]; omega) | (have := ofL_len L b; omega)) (hb.old hf fun c hc => M.old c hc (by simp)) hzb (by omega)
     refine o1 K (os_call rfl ev42) rfl fun _ K => ?_
     refine o1 K (os_move rfl) rfl fun _ K => ?_
     refine o1 K (os_eqI rfl rfl) rfl fun _ K => ?_
     refine o1 K (os_move rfl) rfl fun _ K => ?_
     obtain ⟨v46, st46, ev46, ks46, rfl, nr46, q46⟩ := rSorted_ev M.fresh (ha.old hf fun c hc => M.old c hc (by simp)) (by omega)
     refine o1 K (os_call rfl ev46) rfl fun _ K => ?_
     have hP := hP.quiet q46
     obtain ⟨A46, hA46, M⟩ := M.callAcc q46 nr46
     replace M := Mem.cast (M' := (A46 ++ [])) M (by first | (simp only [List.append_assoc, List.cons_append, List.nil_append, List.append_nil, List.set_cons_zero, List.set_cons_succ]; done) | (simp only [List.append_assoc, List.cons_append, List.nil_append, List.append_nil, List.set_cons_zero, List.set_cons_succ]; rfl))
     refine o1 K (os_move rfl) rfl fun _ K => ?_
     obtain ⟨v48, st48, ev48, ks48, rfl, nr48, q48⟩ := rSorted_ev M.fresh (hb.old hf fun c hc => M.old c hc (by simp)) (by omega)
     refine o1 K (os_call rfl ev48) rfl fun _ K => ?_
     have hP := hP.quiet q48
     obtain ⟨A48, hA48, M⟩ := M.callAcc q48 nr48
     replace M := Mem.cast (M' := (A46 ++ (A48 ++ []))) M (by first | (simp only [List.append_assoc, List.cons_append, List.nil_append, List.append_nil, List.set_cons_zero, List.set_cons_succ]; done) | (simp only [List.append_assoc, List.cons_append, List.nil_append, List.append_nil, List.set_cons_zero, List.set_cons_succ]; rfl))
     obtain ⟨v49, st49, ev49, rfl, q49⟩ := sameZ_ev M.fresh (Mem.accR (L := []) (A := A46) (B := (A48 ++ [])) M hA46) (Mem.accR (L := ((A46 ++ []))) (A := A48) (B := []) (Mem.cast (M := (A46 ++ (A48 ++ []))) (M' := ((A46 ++ [])) ++ (A48 ++ [])) M (by first | (simp only [List.append_assoc, List.cons_append, List.nil_append, List.append_nil, List.set_cons_zero, List.set_cons_succ]; done) | (simp only [List.append_assoc, List.cons_append, List.nil_append, List.append_nil, List.set_cons_zero, List.set_cons_succ]; rfl))) hA48)
     refine o1 K (os_call rfl ev49) rfl fun _ K => ?_
     replace M := M.quiet q49
     have hP := hP.quiet q49
     refine o1 K (os_eqB un_bool rfl rfl) rfl fun _ K => ?_
     refine oB K (os_move rfl) rfl fun b51 _ e51 K => ?_
     cases b51
     · refine gn K rfl rfl rfl rfl fun _ K => ?_
       refine gn K rfl rfl rfl rfl fun _ K => ?_
       refine gn K rfl rfl rfl rfl fun _ K => ?_
       refine gn K rfl rfl rfl rfl fun _ K => ?_
       refine gn K rfl rfl rfl rfl fun _ K => ?_
       refine o1 K (os_pick rfl rfl rfl) rfl fun _ K => ?_
       refine o1 K (os_move rfl) rfl fun _ K => ?_
       refine gn K rfl rfl rfl rfl fun _ K => ?_
       refine o1 K (os_pick rfl rfl rfl) rfl fun _ K => ?_
       refine o1 K (os_assign rfl) rfl fun _ K => ?_
       refine wr_nil ?_
       show W _ _ _ _ _ _ _
       refine w_ret ?_
       refine ⟨.inr rfl, _, (res_one (rs_tmp K rfl)), ?_⟩
       first
        | rfl
        | (rw [hx] at e51; cases e51; done)
        | exact absurd ((ofN_zero (ofL_head hL0) (ofL_nodup hnd)).2 rfl) e58
     refine og K rfl rfl (os_move rfl) rfl fun _ K => ?_
     refine og K rfl rfl (os_move rfl) rfl fun _ K => ?_
     replace M := M.less (List.nil_sublist _)
     obtain ⟨v54, st54, ev54, rfl, F54, hP, hF54, Q54, M⟩ := ofP_in (L := (ofL L b)) M hP (by simp) (by first | (simp only [List.length_nil]; omega) | (have := ofL_len L b; omega)) (ha.old hf fun c hc => M.old c hc (by simp)) hza (by omega)
     refine og K rfl rfl (os_call rfl ev54) rfl fun _ K => ?_
     refine og K rfl rfl (os_move rfl) rfl fun _ K => ?_
     refine og K rfl rfl (os_eqI rfl rfl) rfl fun _ K => ?_
     refine o1 K (os_pick rfl rfl rfl) rfl fun _ K => ?_
     refine oB K (os_move rfl) rfl fun b58 _ e58 K => ?_
     cases b58
     · replace e58 := of_decide_eq_false e58
       refine gn K rfl rfl rfl rfl fun _ K => ?_
       refine o1 K (os_pick rfl rfl rfl) rfl fun _ K => ?_
       refine o1 K (os_assign rfl) rfl fun _ K => ?_
       refine wr_nil ?_
       show W _ _ _ _ _ _ _
       refine w_ret ?_
       refine ⟨.inr rfl, _, (res_one (rs_tmp K rfl)), ?_⟩
       first
        | rfl
        | (rw [hx] at e51; cases e51; done)
        | exact absurd ((ofN_zero (ofL_head hL0) (ofL_nodup hnd)).2 rfl) e58
     replace e58 := of_decide_eq_true e58
     have ev59 := known15_ev
     refine og K rfl rfl (os_call rfl (ev59 _)) rfl fun _ K => ?_
     refine o1 K (os_pick rfl rfl rfl) rfl fun _ K => ?_
     refine o1 K (os_assign rfl) rfl fun _ K => ?_
     refine wr_nil ?_
     show W _ _ _ _ _ _ _
     refine w_ret ?_
     refine ⟨.inr rfl, _, (res_one (rs_tmp K rfl)), ?_⟩
     first
      | rfl
      | (rw [hx] at e51; cases e51; done)
      | exact absurd ((ofN_zero (ofL_head hL0) (ofL_nodup hnd)).2 rfl) e58
   replace e17 := of_decide_eq_true e17
   refine gn K rfl rfl rfl rfl fun _ K => ?_
   refine gn K rfl rfl rfl rfl fun _ K => ?_
   refine gn K rfl rfl rfl rfl fun _ K => ?_
   refine o1 K (os_pick rfl rfl rfl) rfl fun _ K => ?_
   refine wr_nil ?_
   show W _ _ _ _ _ _ _
   refine w_cond (t := true) (K.opd rfl) (fun _ => ?_) (fun h => by cases h)
   refine w_seq ?_
   refine w_region ?_
   refine o1 K (os_assign rfl) rfl fun _ K => ?_
   refine wr_nil ?_
   show W _ _ _ _ _ _ _
   refine w_ret ?_
   refine ⟨.inr rfl, _, (res_one (rs_tmp K rfl)), ?_⟩
   first
    | rfl
    | (rw [hx] at e51; cases e51; done)
    | exact absurd ((ofN_zero (ofL_head hL0) (ofL_nodup hnd)).2 rfl) e58
 refine gn K rfl rfl rfl rfl fun _ K => ?_
 refine gn K rfl rfl rfl rfl fun _ K => ?_
 refine gn K rfl rfl rfl rfl fun _ K => ?_
 refine o1 K (os_pick rfl rfl rfl) rfl fun _ K => ?_
 refine o1 K (os_move rfl) rfl fun _ K => ?_
 refine gn K rfl rfl rfl rfl fun _ K => ?_
 refine gn K rfl rfl rfl rfl fun _ K => ?_
 refine gn K rfl rfl rfl rfl fun _ K => ?_
 refine o1 K (os_pick rfl rfl rfl) rfl fun _ K => ?_
 refine wr_nil ?_
 show W _ _ _ _ _ _ _
 refine w_cond (t := true) (K.opd rfl) (fun _ => ?_) (fun h => by cases h)
 refine w_seq ?_
 refine w_region ?_
 refine o1 K (os_assign rfl) rfl fun _ K => ?_
 refine wr_nil ?_
 show W _ _ _ _ _ _ _
 refine w_ret ?_
 refine ⟨.inr rfl, _, (res_one (rs_tmp K rfl)), ?_⟩
 first
  | rfl
  | (rw [hx] at e51; cases e51; done)
  | exact absurd ((ofN_zero (ofL_head hL0) (ofL_nodup hnd)).2 rfl) e58
end Go.Proofs.YtjjadifjcodjpaaDoor
