/-
  Size, Depth, IsTerm, IsFormula: the program's answer, the reference's. TreeIs.
-/
import Derived.Test.YtmjnbdkjekdkgaaDoorTrC
namespace Go.Proofs.YtmjnbdkjekdkgaaDoor
open Go Go.RowKit
set_option linter.unusedVariables false
set_option linter.unusedSimpArgs false
set_option maxRecDepth 100000

/-- Small enough. -/
def smallB (x : Nd) (m : Int) : Bool := decide (min ((szN x : Nat) : Int) 2001 ≤ m) && decide (min ((dpN x : Nat) : Int) 31 ≤ 30)
theorem eqOk_str (x : List Nat) : eqOk (.str x) = true := rfl
theorem eqOk_int (k : IntKind) (x : Int) : eqOk (.int k x) = true := rfl
theorem eqOk_bool (b : Bool) : eqOk (.bool b) = true := rfl
theorem os_eqB {P : Program} {G : Env} {K : List (Nat × AV)} {st : St} {t yt : TypeId} {x y : Operand} {a b : Bool} (ht : P.underlying t = some .bool) (hx : opK G K x = some (.bool a)) (hy : opK G K y = some (.bool b)) : OpS P G K (.binOp .eql t x y yt) st (.bool (a == b)) st :=
  os_bin hx hy (by
    show need (eqFits (P.underlying t) (.bool a)) (ob (eqNil (.bool a) (.bool b)) fun b => some (AV.bool b)) = _
    rw [ht]
    cases a <;> cases b <;> rfl)
theorem wd_gload1 {P : Program} {G : Env} {N : Nat} {st : St} {K : List (Nat × AV)} {T : Tr AV} {ops : List Oper} {R : Tr AV → St → Prop} {sn : List St} {r : List (Nat × Nat)} {i d : Nat} {ty : TypeId} {pos : String} {af : Array Edge} {v : AV} {t : TypeId} {x : Operand} {u : AV} {s0 s1 : St} {j t' : Nat} {pol : Bool}
    (ho : ops[i]? = some ⟨some d, .load t x, ty, pos, af, some (j, pol)⟩) (hK : KnT K T) (ht : dstOf ops j = some t') (hb : K.lookup t' = some (.bool pol)) (hx : opK G K x = some u) (h : loadA P t u st.h.get = some v) (h1 : loadA P t u s1.h.get = some v) (he : eqV v v = true) (hk : Nat.beq (kindA P (.load t x)) 3 = false) (hN : d < N)
    (hn : ∀ T', KnT ((d, v) :: K) T' → WD P G N ops (r.map (plF ops)) R T' st (s0 :: s1 :: sn)) : WD P G N ops (((i, 1) :: r).map (plF ops)) R T st (s0 :: s1 :: sn) := by
  rw [plF_cons ho]
  exact wd_step (by rw [wants_known hK ht hb]; cases pol <;> rfl) (os_load hx h T hK _ _ _ _ _) (by
    show bif' (Option.rec false (fun x => Option.rec false (fun u => eqV u v) (loadA P t x s1.h.get)) (opd G T x)) true false = true
    rw [hK.opd hx]
    show bif' (Option.rec false (fun u => eqV u v) (loadA P t u s1.h.get)) true false = true
    rw [h1]
    show bif' (eqV v v) true false = true
    rw [he]; rfl) (fun e he => by injection he with he; rw [← he]; exact hN) (by
    show WD P G N ops (r.map (plF ops)) R _ st (bif' (Nat.beq (kindA P (.load t x)) 3) _ _)
    rw [hk]; exact hn _ (hK.set d v))
theorem bif_eq (a b : Bool) : bif' a b false = (a && b) := by cases a <;> rfl

theorem tSize_ev {o s : List Nat} {z a : Int} {l : List Nd} {st : St} {cs : List AV} (hf : Fresh st) (hr : RdN st.h.get (.mk o s z a l) cs)  : ∃ v st', Ev Tryd.prog envD 15 [.agg cs] st v st' ∧ v = .int .i64 (min ((szN (.mk o s z a l) : Nat) : Int) 2001) ∧ Qt st st' := by
 have hr0 := hr
 obtain ⟨kk, ls, rfl, hK, hb⟩ := hr.open5
 have hln := hK.ln
 have hbn := hK.bnd
 refine ev_fn rfl Tryd.func15 rfl Tryd.ntmps15 rfl (by decide) (by simp) fun T hT => ?_
 have K : KnT [(0, _)] T := (.cons (hT 0) .nil)
 have M := Mem.start hf
 refine w_seq ?_
 refine w_region ?_
 refine wr_box K M rfl (cl_cons rfl (cl_cons rfl (cl_cons rfl (cl_cons rfl (cl_cons hK.cell cl_nil))))) (by decide) fun c1 _ _ K M => ?_
 refine o1 K (os_assign rfl) rfl fun _ K => ?_
 refine wr_nil ?_
 show W _ _ _ _ _ _ _
 refine w_seq ?_
 refine w_region ?_
 refine o1 K (os_load rfl (M.load (k := 0) rfl (part_agg tk_api_Node rfl))) rfl fun _ K => ?_
 obtain ⟨v4, st4, ev4, rfl, q4⟩ := size_ev _ 2001 _ _ M.fresh (hr0.mono M.rows) (by decide) (by decide)
 refine o1 K (os_call rfl ev4) rfl fun _ K => ?_
 replace M := M.quiet q4
 refine o1 K (os_assign rfl) rfl fun _ K => ?_
 refine wr_nil ?_
 show W _ _ _ _ _ _ _
 refine w_ret ?_
 refine ⟨.inr rfl, _, (res_one (rs_tmp K rfl)), ?_⟩
 exact ⟨rfl, M.qt⟩

theorem rSize_ev {o s : List Nat} {z a : Int} {l : List Nd} {st : St} {cs : List AV} (hf : Fresh st) (hr : RdN st.h.get (.mk o s z a l) cs)  : ∃ v st', Ev Tryd.prog envD 16 [.agg cs] st v st' ∧ v = .int .i64 (min ((szN (.mk o s z a l) : Nat) : Int) 2001) ∧ Qt st st' := by
 have hr0 := hr
 obtain ⟨kk, ls, rfl, hK, hb⟩ := hr.open5
 have hln := hK.ln
 have hbn := hK.bnd
 refine ev_fn rfl Tryd.func16 rfl Tryd.ntmps16 rfl (by decide) (by simp) fun T hT => ?_
 have K : KnT [(0, _)] T := (.cons (hT 0) .nil)
 have M := Mem.start hf
 refine w_seq ?_
 refine w_region ?_
 refine wr_box K M rfl (cl_cons rfl (cl_cons rfl (cl_cons rfl (cl_cons rfl (cl_cons hK.cell cl_nil))))) (by decide) fun c1 _ _ K M => ?_
 refine o1 K (os_assign rfl) rfl fun _ K => ?_
 refine wr_nil ?_
 show W _ _ _ _ _ _ _
 refine w_seq ?_
 refine w_region ?_
 refine o1 K (os_load rfl (M.load (k := 0) rfl (part_agg tk_api_Node rfl))) rfl fun _ K => ?_
 obtain ⟨v4, st4, ev4, rfl, q4⟩ := count2_ev _ 2001 _ _ M.fresh (hr0.mono M.rows) (by decide) (by decide)
 refine o1 K (os_call rfl ev4) rfl fun _ K => ?_
 replace M := M.quiet q4
 refine o1 K (os_assign rfl) rfl fun _ K => ?_
 refine wr_nil ?_
 show W _ _ _ _ _ _ _
 refine w_ret ?_
 refine ⟨.inr rfl, _, (res_one (rs_tmp K rfl)), ?_⟩
 exact ⟨rfl, M.qt⟩

theorem tDepth_ev {o s : List Nat} {z a : Int} {l : List Nd} {st : St} {cs : List AV} (hf : Fresh st) (hr : RdN st.h.get (.mk o s z a l) cs)  : ∃ v st', Ev Tryd.prog envD 17 [.agg cs] st v st' ∧ v = .int .i64 (min ((dpN (.mk o s z a l) : Nat) : Int) 31) ∧ Qt st st' := by
 have hr0 := hr
 obtain ⟨kk, ls, rfl, hK, hb⟩ := hr.open5
 have hln := hK.ln
 have hbn := hK.bnd
 refine ev_fn rfl Tryd.func17 rfl Tryd.ntmps17 rfl (by decide) (by simp) fun T hT => ?_
 have K : KnT [(0, _)] T := (.cons (hT 0) .nil)
 have M := Mem.start hf
 refine w_seq ?_
 refine w_region ?_
 refine wr_box K M rfl (cl_cons rfl (cl_cons rfl (cl_cons rfl (cl_cons rfl (cl_cons hK.cell cl_nil))))) (by decide) fun c1 _ _ K M => ?_
 refine o1 K (os_assign rfl) rfl fun _ K => ?_
 refine wr_nil ?_
 show W _ _ _ _ _ _ _
 refine w_seq ?_
 refine w_region ?_
 refine o1 K (os_load rfl (M.load (k := 0) rfl (part_agg tk_api_Node rfl))) rfl fun _ K => ?_
 obtain ⟨v4, st4, ev4, rfl, q4⟩ := depth_ev _ 31 _ _ M.fresh (hr0.mono M.rows) (by decide) (by decide)
 refine o1 K (os_call rfl ev4) rfl fun _ K => ?_
 replace M := M.quiet q4
 refine o1 K (os_assign rfl) rfl fun _ K => ?_
 refine wr_nil ?_
 show W _ _ _ _ _ _ _
 refine w_ret ?_
 refine ⟨.inr rfl, _, (res_one (rs_tmp K rfl)), ?_⟩
 exact ⟨rfl, M.qt⟩

theorem rDepth_ev {o s : List Nat} {z a : Int} {l : List Nd} {st : St} {cs : List AV} (hf : Fresh st) (hr : RdN st.h.get (.mk o s z a l) cs)  : ∃ v st', Ev Tryd.prog envD 18 [.agg cs] st v st' ∧ v = .int .i64 (min ((dpN (.mk o s z a l) : Nat) : Int) 31) ∧ Qt st st' := by
 have hr0 := hr
 obtain ⟨kk, ls, rfl, hK, hb⟩ := hr.open5
 have hln := hK.ln
 have hbn := hK.bnd
 refine ev_fn rfl Tryd.func18 rfl Tryd.ntmps18 rfl (by decide) (by simp) fun T hT => ?_
 have K : KnT [(0, _)] T := (.cons (hT 0) .nil)
 have M := Mem.start hf
 refine w_seq ?_
 refine w_region ?_
 refine wr_box K M rfl (cl_cons rfl (cl_cons rfl (cl_cons rfl (cl_cons rfl (cl_cons hK.cell cl_nil))))) (by decide) fun c1 _ _ K M => ?_
 refine o1 K (os_assign rfl) rfl fun _ K => ?_
 refine wr_nil ?_
 show W _ _ _ _ _ _ _
 refine w_seq ?_
 refine w_region ?_
 refine o1 K (os_load rfl (M.load (k := 0) rfl (part_agg tk_api_Node rfl))) rfl fun _ K => ?_
 obtain ⟨v4, st4, ev4, rfl, q4⟩ := deep2_ev _ 31 _ _ M.fresh (hr0.mono M.rows) (by decide) (by decide)
 refine o1 K (os_call rfl ev4) rfl fun _ K => ?_
 replace M := M.quiet q4
 refine o1 K (os_assign rfl) rfl fun _ K => ?_
 refine wr_nil ?_
 show W _ _ _ _ _ _ _
 refine w_ret ?_
 refine ⟨.inr rfl, _, (res_one (rs_tmp K rfl)), ?_⟩
 exact ⟨rfl, M.qt⟩

theorem may_ev {o s : List Nat} {z a : Int} {l : List Nd} {st : St} {cs : List AV} (hf : Fresh st) (hr : RdN st.h.get (.mk o s z a l) cs)  : ∃ v st', Ev Tryd.prog envD 32 [.agg cs] st v st' ∧ v = .bool (smallB (.mk o s z a l) 2000) ∧ Qt st st' := by
 have hr0 := hr
 obtain ⟨kk, ls, rfl, hK, hb⟩ := hr.open5
 have hln := hK.ln
 have hbn := hK.bnd
 refine ev_fn rfl Tryd.func32 rfl Tryd.ntmps32 rfl (by decide) (by simp) fun T hT => ?_
 have K : KnT [(0, _)] T := (.cons (hT 0) .nil)
 have M := Mem.start hf
 refine w_seq ?_
 refine w_region ?_
 refine wr_box K M rfl (cl_cons rfl (cl_cons rfl (cl_cons rfl (cl_cons rfl (cl_cons hK.cell cl_nil))))) (by decide) fun c1 _ _ K M => ?_
 refine o1 K (os_assign rfl) rfl fun _ K => ?_
 refine wr_nil ?_
 show W _ _ _ _ _ _ _
 refine w_seq ?_
 refine w_region ?_
 refine o1 K (os_load rfl (M.load (k := 0) rfl (part_agg tk_api_Node rfl))) rfl fun _ K => ?_
 obtain ⟨v4, st4, ev4, rfl, q4⟩ := tSize_ev M.fresh (hr0.mono M.rows)
 refine o1 K (os_call rfl ev4) rfl fun _ K => ?_
 replace M := M.quiet q4
 refine o1 K (os_leq rfl rfl) rfl fun _ K => ?_
 refine oB K (os_move rfl) rfl fun b6 _ e6 K => ?_
 cases b6
 · replace e6 := of_decide_eq_false e6
   refine gn K rfl rfl rfl rfl fun _ K => ?_
   refine gn K rfl rfl rfl rfl fun _ K => ?_
   refine gn K rfl rfl rfl rfl fun _ K => ?_
   refine o1 K (os_pick rfl rfl rfl) rfl fun _ K => ?_
   refine o1 K (os_assign rfl) rfl fun _ K => ?_
   refine wr_nil ?_
   show W _ _ _ _ _ _ _
   refine w_ret ?_
   refine ⟨.inr rfl, _, (res_one (rs_tmp K rfl)), ?_⟩
   refine ⟨congrArg AV.bool ?_, M.qt⟩
   rw [smallB]
   simp_all <;> (intros; omega)
 replace e6 := of_decide_eq_true e6
 refine og K rfl rfl (os_load rfl (M.load (k := 0) rfl (part_agg tk_api_Node rfl))) rfl fun _ K => ?_
 obtain ⟨v8, st8, ev8, rfl, q8⟩ := tDepth_ev M.fresh (hr0.mono M.rows)
 refine og K rfl rfl (os_call rfl ev8) rfl fun _ K => ?_
 replace M := M.quiet q8
 refine og K rfl rfl (os_leq rfl rfl) rfl fun _ K => ?_
 refine o1 K (os_pick rfl rfl rfl) rfl fun _ K => ?_
 refine o1 K (os_assign rfl) rfl fun _ K => ?_
 refine wr_nil ?_
 show W _ _ _ _ _ _ _
 refine w_ret ?_
 refine ⟨.inr rfl, _, (res_one (rs_tmp K rfl)), ?_⟩
 refine ⟨congrArg AV.bool ?_, M.qt⟩
 rw [smallB]
 simp_all <;> (intros; omega)

theorem small_ev {o s : List Nat} {z a : Int} {l : List Nd} {st : St} {cs : List AV} (hf : Fresh st) (hr : RdN st.h.get (.mk o s z a l) cs)  : ∃ v st', Ev Tryd.prog envD 34 [.agg cs] st v st' ∧ v = .bool (smallB (.mk o s z a l) 2000) ∧ Qt st st' := by
 have hr0 := hr
 obtain ⟨kk, ls, rfl, hK, hb⟩ := hr.open5
 have hln := hK.ln
 have hbn := hK.bnd
 refine ev_fn rfl Tryd.func34 rfl Tryd.ntmps34 rfl (by decide) (by simp) fun T hT => ?_
 have K : KnT [(0, _)] T := (.cons (hT 0) .nil)
 have M := Mem.start hf
 refine w_seq ?_
 refine w_region ?_
 refine wr_box K M rfl (cl_cons rfl (cl_cons rfl (cl_cons rfl (cl_cons rfl (cl_cons hK.cell cl_nil))))) (by decide) fun c1 _ _ K M => ?_
 refine o1 K (os_assign rfl) rfl fun _ K => ?_
 refine wr_nil ?_
 show W _ _ _ _ _ _ _
 refine w_seq ?_
 refine w_region ?_
 refine o1 K (os_load rfl (M.load (k := 0) rfl (part_agg tk_api_Node rfl))) rfl fun _ K => ?_
 obtain ⟨v4, st4, ev4, rfl, q4⟩ := rDepth_ev M.fresh (hr0.mono M.rows)
 refine o1 K (os_call rfl ev4) rfl fun _ K => ?_
 replace M := M.quiet q4
 refine o1 K (os_leq rfl rfl) rfl fun _ K => ?_
 refine oB K (os_move rfl) rfl fun b6 _ e6 K => ?_
 cases b6
 · replace e6 := of_decide_eq_false e6
   refine gn K rfl rfl rfl rfl fun _ K => ?_
   refine gn K rfl rfl rfl rfl fun _ K => ?_
   refine gn K rfl rfl rfl rfl fun _ K => ?_
   refine o1 K (os_pick rfl rfl rfl) rfl fun _ K => ?_
   refine o1 K (os_assign rfl) rfl fun _ K => ?_
   refine wr_nil ?_
   show W _ _ _ _ _ _ _
   refine w_ret ?_
   refine ⟨.inr rfl, _, (res_one (rs_tmp K rfl)), ?_⟩
   refine ⟨congrArg AV.bool ?_, M.qt⟩
   rw [smallB]
   simp_all <;> (intros; omega)
 replace e6 := of_decide_eq_true e6
 refine og K rfl rfl (os_load rfl (M.load (k := 0) rfl (part_agg tk_api_Node rfl))) rfl fun _ K => ?_
 obtain ⟨v8, st8, ev8, rfl, q8⟩ := rSize_ev M.fresh (hr0.mono M.rows)
 refine og K rfl rfl (os_call rfl ev8) rfl fun _ K => ?_
 replace M := M.quiet q8
 refine og K rfl rfl (os_leq rfl rfl) rfl fun _ K => ?_
 refine o1 K (os_pick rfl rfl rfl) rfl fun _ K => ?_
 refine o1 K (os_assign rfl) rfl fun _ K => ?_
 refine wr_nil ?_
 show W _ _ _ _ _ _ _
 refine w_ret ?_
 refine ⟨.inr rfl, _, (res_one (rs_tmp K rfl)), ?_⟩
 refine ⟨congrArg AV.bool ?_, M.qt⟩
 rw [smallB]
 simp_all <;> (intros; omega)

theorem fine2_ev {o s : List Nat} {z a : Int} {l : List Nd} {st : St} {cs : List AV} (hf : Fresh st) (hr : RdN st.h.get (.mk o s z a l) cs)  : ∃ v st', Ev Tryd.prog envD 10 [.agg cs] st v st' ∧ v = .bool (smallB (.mk o s z a l) 300) ∧ Qt st st' := by
 have hr0 := hr
 obtain ⟨kk, ls, rfl, hK, hb⟩ := hr.open5
 have hln := hK.ln
 have hbn := hK.bnd
 refine ev_fn rfl Tryd.func10 rfl Tryd.ntmps10 rfl (by decide) (by simp) fun T hT => ?_
 have K : KnT [(0, _)] T := (.cons (hT 0) .nil)
 have M := Mem.start hf
 refine w_seq ?_
 refine w_region ?_
 refine wr_box K M rfl (cl_cons rfl (cl_cons rfl (cl_cons rfl (cl_cons rfl (cl_cons hK.cell cl_nil))))) (by decide) fun c1 _ _ K M => ?_
 refine o1 K (os_assign rfl) rfl fun _ K => ?_
 refine wr_nil ?_
 show W _ _ _ _ _ _ _
 refine w_seq ?_
 refine w_region ?_
 refine o1 K (os_load rfl (M.load (k := 0) rfl (part_agg tk_api_Node rfl))) rfl fun _ K => ?_
 obtain ⟨v4, st4, ev4, rfl, q4⟩ := rDepth_ev M.fresh (hr0.mono M.rows)
 refine o1 K (os_call rfl ev4) rfl fun _ K => ?_
 replace M := M.quiet q4
 refine o1 K (os_leq rfl rfl) rfl fun _ K => ?_
 refine oB K (os_move rfl) rfl fun b6 _ e6 K => ?_
 cases b6
 · replace e6 := of_decide_eq_false e6
   refine gn K rfl rfl rfl rfl fun _ K => ?_
   refine gn K rfl rfl rfl rfl fun _ K => ?_
   refine gn K rfl rfl rfl rfl fun _ K => ?_
   refine o1 K (os_pick rfl rfl rfl) rfl fun _ K => ?_
   refine o1 K (os_assign rfl) rfl fun _ K => ?_
   refine wr_nil ?_
   show W _ _ _ _ _ _ _
   refine w_ret ?_
   refine ⟨.inr rfl, _, (res_one (rs_tmp K rfl)), ?_⟩
   refine ⟨congrArg AV.bool ?_, M.qt⟩
   rw [smallB]
   simp_all <;> (intros; omega)
 replace e6 := of_decide_eq_true e6
 refine og K rfl rfl (os_load rfl (M.load (k := 0) rfl (part_agg tk_api_Node rfl))) rfl fun _ K => ?_
 obtain ⟨v8, st8, ev8, rfl, q8⟩ := rSize_ev M.fresh (hr0.mono M.rows)
 refine og K rfl rfl (os_call rfl ev8) rfl fun _ K => ?_
 replace M := M.quiet q8
 refine og K rfl rfl (os_leq rfl rfl) rfl fun _ K => ?_
 refine o1 K (os_pick rfl rfl rfl) rfl fun _ K => ?_
 refine o1 K (os_assign rfl) rfl fun _ K => ?_
 refine wr_nil ?_
 show W _ _ _ _ _ _ _
 refine w_ret ?_
 refine ⟨.inr rfl, _, (res_one (rs_tmp K rfl)), ?_⟩
 refine ⟨congrArg AV.bool ?_, M.qt⟩
 rw [smallB]
 simp_all <;> (intros; omega)

theorem tIsTerm_ev {o s : List Nat} {z a : Int} {l : List Nd} {st : St} {cs : List AV} (hf : Fresh st) (hr : RdN st.h.get (.mk o s z a l) cs)  : ∃ v st', Ev Tryd.prog envD 13 [.agg cs] st v st' ∧ v = .bool (smallB (.mk o s z a l) 2000 && termN (.mk o s z a l)) ∧ Qt st st' := by
 have hr0 := hr
 obtain ⟨kk, ls, rfl, hK, hb⟩ := hr.open5
 have hln := hK.ln
 have hbn := hK.bnd
 refine ev_fn rfl Tryd.func13 rfl Tryd.ntmps13 rfl (by decide) (by simp) fun T hT => ?_
 have K : KnT [(0, _)] T := (.cons (hT 0) .nil)
 have M := Mem.start hf
 refine w_seq ?_
 refine w_region ?_
 refine wr_box K M rfl (cl_cons rfl (cl_cons rfl (cl_cons rfl (cl_cons rfl (cl_cons hK.cell cl_nil))))) (by decide) fun c1 _ _ K M => ?_
 refine o1 K (os_assign rfl) rfl fun _ K => ?_
 refine wr_nil ?_
 show W _ _ _ _ _ _ _
 refine w_seq ?_
 refine w_region ?_
 refine o1 K (os_load rfl (M.load (k := 0) rfl (part_agg tk_api_Node rfl))) rfl fun _ K => ?_
 obtain ⟨v4, st4, ev4, rfl, q4⟩ := may_ev M.fresh (hr0.mono M.rows)
 refine o1 K (os_call rfl ev4) rfl fun _ K => ?_
 replace M := M.quiet q4
 refine oB K (os_move rfl) rfl fun b5 _ e5 K => ?_
 cases b5
 · refine gn K rfl rfl rfl rfl fun _ K => ?_
   refine gn K rfl rfl rfl rfl fun _ K => ?_
   refine o1 K (os_pick rfl rfl rfl) rfl fun _ K => ?_
   refine o1 K (os_assign rfl) rfl fun _ K => ?_
   refine wr_nil ?_
   show W _ _ _ _ _ _ _
   refine w_ret ?_
   refine ⟨.inr rfl, _, (res_one (rs_tmp K rfl)), ?_⟩
   refine ⟨congrArg AV.bool ?_, M.qt⟩
   simp_all
 refine og K rfl rfl (os_load rfl (M.load (k := 0) rfl (part_agg tk_api_Node rfl))) rfl fun _ K => ?_
 obtain ⟨v7, st7, ev7, rfl, q7⟩ := isTerm_ev _ _ _ M.fresh (hr0.mono M.rows)
 refine og K rfl rfl (os_call rfl ev7) rfl fun _ K => ?_
 replace M := M.quiet q7
 refine o1 K (os_pick rfl rfl rfl) rfl fun _ K => ?_
 refine o1 K (os_assign rfl) rfl fun _ K => ?_
 refine wr_nil ?_
 show W _ _ _ _ _ _ _
 refine w_ret ?_
 refine ⟨.inr rfl, _, (res_one (rs_tmp K rfl)), ?_⟩
 refine ⟨congrArg AV.bool ?_, M.qt⟩
 simp_all

theorem rIsTerm_ev {o s : List Nat} {z a : Int} {l : List Nd} {st : St} {cs : List AV} (hf : Fresh st) (hr : RdN st.h.get (.mk o s z a l) cs)  : ∃ v st', Ev Tryd.prog envD 14 [.agg cs] st v st' ∧ v = .bool (smallB (.mk o s z a l) 2000 && termN (.mk o s z a l)) ∧ Qt st st' := by
 have hr0 := hr
 obtain ⟨kk, ls, rfl, hK, hb⟩ := hr.open5
 have hln := hK.ln
 have hbn := hK.bnd
 refine ev_fn rfl Tryd.func14 rfl Tryd.ntmps14 rfl (by decide) (by simp) fun T hT => ?_
 have K : KnT [(0, _)] T := (.cons (hT 0) .nil)
 have M := Mem.start hf
 refine w_seq ?_
 refine w_region ?_
 refine wr_box K M rfl (cl_cons rfl (cl_cons rfl (cl_cons rfl (cl_cons rfl (cl_cons hK.cell cl_nil))))) (by decide) fun c1 _ _ K M => ?_
 refine o1 K (os_assign rfl) rfl fun _ K => ?_
 refine wr_nil ?_
 show W _ _ _ _ _ _ _
 refine w_seq ?_
 refine w_region ?_
 refine o1 K (os_load rfl (M.load (k := 0) rfl (part_agg tk_api_Node rfl))) rfl fun _ K => ?_
 obtain ⟨v4, st4, ev4, rfl, q4⟩ := small_ev M.fresh (hr0.mono M.rows)
 refine o1 K (os_call rfl ev4) rfl fun _ K => ?_
 replace M := M.quiet q4
 refine oB K (os_move rfl) rfl fun b5 _ e5 K => ?_
 cases b5
 · refine gn K rfl rfl rfl rfl fun _ K => ?_
   refine gn K rfl rfl rfl rfl fun _ K => ?_
   refine o1 K (os_pick rfl rfl rfl) rfl fun _ K => ?_
   refine o1 K (os_assign rfl) rfl fun _ K => ?_
   refine wr_nil ?_
   show W _ _ _ _ _ _ _
   refine w_ret ?_
   refine ⟨.inr rfl, _, (res_one (rs_tmp K rfl)), ?_⟩
   refine ⟨congrArg AV.bool ?_, M.qt⟩
   simp_all
 refine og K rfl rfl (os_load rfl (M.load (k := 0) rfl (part_agg tk_api_Node rfl))) rfl fun _ K => ?_
 obtain ⟨v7, st7, ev7, rfl, q7⟩ := rTerm_ev _ _ _ M.fresh (hr0.mono M.rows)
 refine og K rfl rfl (os_call rfl ev7) rfl fun _ K => ?_
 replace M := M.quiet q7
 refine o1 K (os_pick rfl rfl rfl) rfl fun _ K => ?_
 refine o1 K (os_assign rfl) rfl fun _ K => ?_
 refine wr_nil ?_
 show W _ _ _ _ _ _ _
 refine w_ret ?_
 refine ⟨.inr rfl, _, (res_one (rs_tmp K rfl)), ?_⟩
 refine ⟨congrArg AV.bool ?_, M.qt⟩
 simp_all

theorem tIsFormula_ev {o s : List Nat} {z a : Int} {l : List Nd} {st : St} {cs : List AV} (hf : Fresh st) (hr : RdN st.h.get (.mk o s z a l) cs)  : ∃ v st', Ev Tryd.prog envD 11 [.agg cs] st v st' ∧ v = .bool (smallB (.mk o s z a l) 2000 && formN (.mk o s z a l)) ∧ Qt st st' := by
 have hr0 := hr
 obtain ⟨kk, ls, rfl, hK, hb⟩ := hr.open5
 have hln := hK.ln
 have hbn := hK.bnd
 refine ev_fn rfl Tryd.func11 rfl Tryd.ntmps11 rfl (by decide) (by simp) fun T hT => ?_
 have K : KnT [(0, _)] T := (.cons (hT 0) .nil)
 have M := Mem.start hf
 refine w_seq ?_
 refine w_region ?_
 refine wr_box K M rfl (cl_cons rfl (cl_cons rfl (cl_cons rfl (cl_cons rfl (cl_cons hK.cell cl_nil))))) (by decide) fun c1 _ _ K M => ?_
 refine o1 K (os_assign rfl) rfl fun _ K => ?_
 refine wr_nil ?_
 show W _ _ _ _ _ _ _
 refine w_seq ?_
 refine w_region ?_
 refine o1 K (os_load rfl (M.load (k := 0) rfl (part_agg tk_api_Node rfl))) rfl fun _ K => ?_
 obtain ⟨v4, st4, ev4, rfl, q4⟩ := may_ev M.fresh (hr0.mono M.rows)
 refine o1 K (os_call rfl ev4) rfl fun _ K => ?_
 replace M := M.quiet q4
 refine oB K (os_move rfl) rfl fun b5 _ e5 K => ?_
 cases b5
 · refine gn K rfl rfl rfl rfl fun _ K => ?_
   refine gn K rfl rfl rfl rfl fun _ K => ?_
   refine o1 K (os_pick rfl rfl rfl) rfl fun _ K => ?_
   refine o1 K (os_assign rfl) rfl fun _ K => ?_
   refine wr_nil ?_
   show W _ _ _ _ _ _ _
   refine w_ret ?_
   refine ⟨.inr rfl, _, (res_one (rs_tmp K rfl)), ?_⟩
   refine ⟨congrArg AV.bool ?_, M.qt⟩
   simp_all
 refine og K rfl rfl (os_load rfl (M.load (k := 0) rfl (part_agg tk_api_Node rfl))) rfl fun _ K => ?_
 obtain ⟨v7, st7, ev7, rfl, q7⟩ := isFormula_ev _ _ _ M.fresh (hr0.mono M.rows)
 refine og K rfl rfl (os_call rfl ev7) rfl fun _ K => ?_
 replace M := M.quiet q7
 refine o1 K (os_pick rfl rfl rfl) rfl fun _ K => ?_
 refine o1 K (os_assign rfl) rfl fun _ K => ?_
 refine wr_nil ?_
 show W _ _ _ _ _ _ _
 refine w_ret ?_
 refine ⟨.inr rfl, _, (res_one (rs_tmp K rfl)), ?_⟩
 refine ⟨congrArg AV.bool ?_, M.qt⟩
 simp_all

theorem rIsFormula_ev {o s : List Nat} {z a : Int} {l : List Nd} {st : St} {cs : List AV} (hf : Fresh st) (hr : RdN st.h.get (.mk o s z a l) cs)  : ∃ v st', Ev Tryd.prog envD 12 [.agg cs] st v st' ∧ v = .bool (smallB (.mk o s z a l) 2000 && formN (.mk o s z a l)) ∧ Qt st st' := by
 have hr0 := hr
 obtain ⟨kk, ls, rfl, hK, hb⟩ := hr.open5
 have hln := hK.ln
 have hbn := hK.bnd
 refine ev_fn rfl Tryd.func12 rfl Tryd.ntmps12 rfl (by decide) (by simp) fun T hT => ?_
 have K : KnT [(0, _)] T := (.cons (hT 0) .nil)
 have M := Mem.start hf
 refine w_seq ?_
 refine w_region ?_
 refine wr_box K M rfl (cl_cons rfl (cl_cons rfl (cl_cons rfl (cl_cons rfl (cl_cons hK.cell cl_nil))))) (by decide) fun c1 _ _ K M => ?_
 refine o1 K (os_assign rfl) rfl fun _ K => ?_
 refine wr_nil ?_
 show W _ _ _ _ _ _ _
 refine w_seq ?_
 refine w_region ?_
 refine o1 K (os_load rfl (M.load (k := 0) rfl (part_agg tk_api_Node rfl))) rfl fun _ K => ?_
 obtain ⟨v4, st4, ev4, rfl, q4⟩ := small_ev M.fresh (hr0.mono M.rows)
 refine o1 K (os_call rfl ev4) rfl fun _ K => ?_
 replace M := M.quiet q4
 refine oB K (os_move rfl) rfl fun b5 _ e5 K => ?_
 cases b5
 · refine gn K rfl rfl rfl rfl fun _ K => ?_
   refine gn K rfl rfl rfl rfl fun _ K => ?_
   refine o1 K (os_pick rfl rfl rfl) rfl fun _ K => ?_
   refine o1 K (os_assign rfl) rfl fun _ K => ?_
   refine wr_nil ?_
   show W _ _ _ _ _ _ _
   refine w_ret ?_
   refine ⟨.inr rfl, _, (res_one (rs_tmp K rfl)), ?_⟩
   refine ⟨congrArg AV.bool ?_, M.qt⟩
   simp_all
 refine og K rfl rfl (os_load rfl (M.load (k := 0) rfl (part_agg tk_api_Node rfl))) rfl fun _ K => ?_
 obtain ⟨v7, st7, ev7, rfl, q7⟩ := rForm_ev _ _ _ M.fresh (hr0.mono M.rows)
 refine og K rfl rfl (os_call rfl ev7) rfl fun _ K => ?_
 replace M := M.quiet q7
 refine o1 K (os_pick rfl rfl rfl) rfl fun _ K => ?_
 refine o1 K (os_assign rfl) rfl fun _ K => ?_
 refine wr_nil ?_
 show W _ _ _ _ _ _ _
 refine w_ret ?_
 refine ⟨.inr rfl, _, (res_one (rs_tmp K rfl)), ?_⟩
 refine ⟨congrArg AV.bool ?_, M.qt⟩
 simp_all

theorem known3_ev (st : St) : Ev Tryd.prog envD 19 [] st (.bool true) st := ⟨0, 1, rfl⟩

theorem treeIs_ev {o s : List Nat} {z a : Int} {l : List Nd} {st : St} {cs : List AV} (hf : Fresh st) (hr : RdN st.h.get (.mk o s z a l) cs) : ∃ v st', Ev Tryd.prog envD 3 [.agg cs] st v st' ∧ v = .bool true := by
 have hr0 := hr
 obtain ⟨kk, ls, rfl, hK, hb⟩ := hr.open5
 have hln := hK.ln
 have hbn := hK.bnd
 refine ev_fn rfl Tryd.func3 rfl Tryd.ntmps3 rfl (by decide) (by simp) fun T hT => ?_
 have K : KnT [(0, _)] T := (.cons (hT 0) .nil)
 have M := Mem.start hf
 refine w_seq ?_
 refine w_region ?_
 refine wr_box K M rfl (cl_cons rfl (cl_cons rfl (cl_cons rfl (cl_cons rfl (cl_cons hK.cell cl_nil))))) (by decide) fun c1 _ _ K M => ?_
 refine o1 K (os_assign rfl) rfl fun _ K => ?_
 refine wr_nil ?_
 show W _ _ _ _ _ _ _
 refine w_seq ?_
 refine w_seq ?_
 refine w_region ?_
 refine o1 K (os_load rfl (M.load (k := 0) rfl (part_agg tk_api_Node rfl))) rfl fun _ K => ?_
 obtain ⟨v4, st4, ev4, rfl, q4⟩ := fine2_ev M.fresh (hr0.mono M.rows)
 refine o1 K (os_call rfl ev4) rfl fun _ K => ?_
 replace M := M.quiet q4
 refine o1 K (os_not rfl) rfl fun _ K => ?_
 refine wr_nil ?_
 show W _ _ _ _ _ _ _
 refine w_cond (K.opd rfl) (fun h5 => ?_) (fun h5 => ?_)
 · have hb5 := h5
   replace h5 : (smallB (.mk o s z a l) 300) = false := by simpa using h5
   refine w_seq ?_
   refine w_region ?_
   refine o1 K (os_assign rfl) rfl fun _ K => ?_
   refine wr_nil ?_
   show W _ _ _ _ _ _ _
   refine w_ret ?_
   refine ⟨.inr rfl, _, (res_one (rs_tmp K rfl)), ?_⟩
   first
    | rfl
    | (simp_all; done)
    | (exfalso; simp_all; done)
 have hb5 := h5
 replace h5 : (smallB (.mk o s z a l) 300) = true := by simpa using h5
 refine w_skip ?_
 show W _ _ _ _ _ _ _
 refine w_seq ?_
 refine w_drawI (l := [(0, 0), (1, 0), (2, 1), (3, 0), (4, 0), (5, 0), (6, 0), (7, 0), (8, 1), (9, 0), (10, 0), (11, 0), (12, 0), (13, 0), (14, 0), (15, 1), (16, 0), (17, 0), (18, 0), (19, 0), (20, 0), (21, 0), (22, 1), (23, 0), (24, 0), (25, 0), (26, 0), (27, 0), (28, 0), (29, 0)]) (by kernel_rfl) ?_
 refine d1 rfl K (os_load rfl (M.load (k := 0) rfl (part_agg tk_api_Node rfl))) rfl rfl fun _ K => ?_
 obtain ⟨v7, st7, ev7, rfl, q7⟩ := tIsFormula_ev M.fresh (hr0.mono M.rows)
 refine dA rfl K (os_call rfl ev7) rfl rfl fun _ K => ?_
 have Mp := M
 replace M := M.quiet q7
 refine wd_load1 rfl K rfl (M.load (k := 0) rfl (part_agg tk_api_Node rfl)) (Mp.load (k := 0) rfl (part_agg tk_api_Node rfl)) (eqV_agg (by simp [eqOk_str, eqOk_int, eqOk_bool, eqOk_len hK.len])) rfl (by decide) fun _ K => ?_
 obtain ⟨v9, st9, ev9, rfl, q9⟩ := rIsFormula_ev M.fresh (hr0.mono M.rows)
 refine dA rfl K (os_call rfl ev9) rfl rfl fun _ K => ?_
 have Mp := M
 replace M := M.quiet q9
 refine d1 rfl K (os_eqB un_bool rfl rfl) rfl rfl fun _ K => ?_
 refine dB rfl K (os_move rfl) rfl rfl fun b11 _ e11 K => ?_
 cases b11
 · refine dgn rfl K rfl rfl rfl rfl fun _ _ K => ?_
   refine dgn rfl K rfl rfl rfl rfl fun _ _ K => ?_
   refine dgn rfl K rfl rfl rfl rfl fun _ _ K => ?_
   refine dgn rfl K rfl rfl rfl rfl fun _ _ K => ?_
   refine dgn rfl K rfl rfl rfl rfl fun _ _ K => ?_
   refine d1 rfl K (os_pick rfl rfl rfl) rfl rfl fun _ K => ?_
   refine d1 rfl K (os_move rfl) rfl rfl fun _ K => ?_
   refine dgn rfl K rfl rfl rfl rfl fun _ _ K => ?_
   refine dgn rfl K rfl rfl rfl rfl fun _ _ K => ?_
   refine dgn rfl K rfl rfl rfl rfl fun _ _ K => ?_
   refine dgn rfl K rfl rfl rfl rfl fun _ _ K => ?_
   refine dgn rfl K rfl rfl rfl rfl fun _ _ K => ?_
   refine d1 rfl K (os_pick rfl rfl rfl) rfl rfl fun _ K => ?_
   refine d1 rfl K (os_move rfl) rfl rfl fun _ K => ?_
   refine dgn rfl K rfl rfl rfl rfl fun _ _ K => ?_
   refine dgn rfl K rfl rfl rfl rfl fun _ _ K => ?_
   refine dgn rfl K rfl rfl rfl rfl fun _ _ K => ?_
   refine dgn rfl K rfl rfl rfl rfl fun _ _ K => ?_
   refine dgn rfl K rfl rfl rfl rfl fun _ _ K => ?_
   refine d1 rfl K (os_pick rfl rfl rfl) rfl rfl fun _ K => ?_
   refine d1 rfl K (os_move rfl) rfl rfl fun _ K => ?_
   refine dgn rfl K rfl rfl rfl rfl fun _ _ K => ?_
   refine d1 rfl K (os_pick rfl rfl rfl) rfl rfl fun _ K => ?_
   refine d1 rfl K (os_assign rfl) rfl rfl fun _ K => ?_
   refine wd_nil ?_
   show W _ _ _ _ _ _ _
   refine w_ret ?_
   refine ⟨.inr rfl, _, (res_one (rs_tmp K rfl)), ?_⟩
   first
    | rfl
    | (simp_all; done)
    | (exfalso; simp_all; done)
 refine dg rfl K rfl rfl (os_load rfl (M.load (k := 0) rfl (part_agg tk_api_Node rfl))) rfl rfl fun _ K => ?_
 obtain ⟨v13, st13, ev13, rfl, q13⟩ := tIsTerm_ev M.fresh (hr0.mono M.rows)
 refine dga rfl K rfl rfl (os_call rfl ev13) rfl rfl fun _ K => ?_
 have Mp := M
 replace M := M.quiet q13
 refine wd_gload1 rfl K rfl rfl rfl (M.load (k := 0) rfl (part_agg tk_api_Node rfl)) (Mp.load (k := 0) rfl (part_agg tk_api_Node rfl)) (eqV_agg (by simp [eqOk_str, eqOk_int, eqOk_bool, eqOk_len hK.len])) rfl (by decide) fun _ K => ?_
 obtain ⟨v15, st15, ev15, rfl, q15⟩ := rIsTerm_ev M.fresh (hr0.mono M.rows)
 refine dga rfl K rfl rfl (os_call rfl ev15) rfl rfl fun _ K => ?_
 have Mp := M
 replace M := M.quiet q15
 refine dg rfl K rfl rfl (os_eqB un_bool rfl rfl) rfl rfl fun _ K => ?_
 refine d1 rfl K (os_pick rfl rfl rfl) rfl rfl fun _ K => ?_
 refine dB rfl K (os_move rfl) rfl rfl fun b18 _ e18 K => ?_
 cases b18
 · refine dgn rfl K rfl rfl rfl rfl fun _ _ K => ?_
   refine dgn rfl K rfl rfl rfl rfl fun _ _ K => ?_
   refine dgn rfl K rfl rfl rfl rfl fun _ _ K => ?_
   refine dgn rfl K rfl rfl rfl rfl fun _ _ K => ?_
   refine dgn rfl K rfl rfl rfl rfl fun _ _ K => ?_
   refine d1 rfl K (os_pick rfl rfl rfl) rfl rfl fun _ K => ?_
   refine d1 rfl K (os_move rfl) rfl rfl fun _ K => ?_
   refine dgn rfl K rfl rfl rfl rfl fun _ _ K => ?_
   refine dgn rfl K rfl rfl rfl rfl fun _ _ K => ?_
   refine dgn rfl K rfl rfl rfl rfl fun _ _ K => ?_
   refine dgn rfl K rfl rfl rfl rfl fun _ _ K => ?_
   refine dgn rfl K rfl rfl rfl rfl fun _ _ K => ?_
   refine d1 rfl K (os_pick rfl rfl rfl) rfl rfl fun _ K => ?_
   refine d1 rfl K (os_move rfl) rfl rfl fun _ K => ?_
   refine dgn rfl K rfl rfl rfl rfl fun _ _ K => ?_
   refine d1 rfl K (os_pick rfl rfl rfl) rfl rfl fun _ K => ?_
   refine d1 rfl K (os_assign rfl) rfl rfl fun _ K => ?_
   refine wd_nil ?_
   show W _ _ _ _ _ _ _
   refine w_ret ?_
   refine ⟨.inr rfl, _, (res_one (rs_tmp K rfl)), ?_⟩
   first
    | rfl
    | (simp_all; done)
    | (exfalso; simp_all; done)
 refine dg rfl K rfl rfl (os_load rfl (M.load (k := 0) rfl (part_agg tk_api_Node rfl))) rfl rfl fun _ K => ?_
 obtain ⟨v20, st20, ev20, rfl, q20⟩ := tSize_ev M.fresh (hr0.mono M.rows)
 refine dga rfl K rfl rfl (os_call rfl ev20) rfl rfl fun _ K => ?_
 have Mp := M
 replace M := M.quiet q20
 refine wd_gload1 rfl K rfl rfl rfl (M.load (k := 0) rfl (part_agg tk_api_Node rfl)) (Mp.load (k := 0) rfl (part_agg tk_api_Node rfl)) (eqV_agg (by simp [eqOk_str, eqOk_int, eqOk_bool, eqOk_len hK.len])) rfl (by decide) fun _ K => ?_
 obtain ⟨v22, st22, ev22, rfl, q22⟩ := rSize_ev M.fresh (hr0.mono M.rows)
 refine dga rfl K rfl rfl (os_call rfl ev22) rfl rfl fun _ K => ?_
 have Mp := M
 replace M := M.quiet q22
 refine dg rfl K rfl rfl (os_eqI rfl rfl) rfl rfl fun _ K => ?_
 refine d1 rfl K (os_pick rfl rfl rfl) rfl rfl fun _ K => ?_
 refine dB rfl K (os_move rfl) rfl rfl fun b25 _ e25 K => ?_
 cases b25
 · replace e25 := of_decide_eq_false e25
   refine dgn rfl K rfl rfl rfl rfl fun _ _ K => ?_
   refine dgn rfl K rfl rfl rfl rfl fun _ _ K => ?_
   refine dgn rfl K rfl rfl rfl rfl fun _ _ K => ?_
   refine dgn rfl K rfl rfl rfl rfl fun _ _ K => ?_
   refine dgn rfl K rfl rfl rfl rfl fun _ _ K => ?_
   refine d1 rfl K (os_pick rfl rfl rfl) rfl rfl fun _ K => ?_
   refine d1 rfl K (os_move rfl) rfl rfl fun _ K => ?_
   refine dgn rfl K rfl rfl rfl rfl fun _ _ K => ?_
   refine d1 rfl K (os_pick rfl rfl rfl) rfl rfl fun _ K => ?_
   refine d1 rfl K (os_assign rfl) rfl rfl fun _ K => ?_
   refine wd_nil ?_
   show W _ _ _ _ _ _ _
   refine w_ret ?_
   refine ⟨.inr rfl, _, (res_one (rs_tmp K rfl)), ?_⟩
   first
    | rfl
    | (simp_all; done)
    | (exfalso; simp_all; done)
 replace e25 := of_decide_eq_true e25
 refine dg rfl K rfl rfl (os_load rfl (M.load (k := 0) rfl (part_agg tk_api_Node rfl))) rfl rfl fun _ K => ?_
 obtain ⟨v27, st27, ev27, rfl, q27⟩ := tDepth_ev M.fresh (hr0.mono M.rows)
 refine dga rfl K rfl rfl (os_call rfl ev27) rfl rfl fun _ K => ?_
 have Mp := M
 replace M := M.quiet q27
 refine wd_gload1 rfl K rfl rfl rfl (M.load (k := 0) rfl (part_agg tk_api_Node rfl)) (Mp.load (k := 0) rfl (part_agg tk_api_Node rfl)) (eqV_agg (by simp [eqOk_str, eqOk_int, eqOk_bool, eqOk_len hK.len])) rfl (by decide) fun _ K => ?_
 obtain ⟨v29, st29, ev29, rfl, q29⟩ := rDepth_ev M.fresh (hr0.mono M.rows)
 refine dga rfl K rfl rfl (os_call rfl ev29) rfl rfl fun _ K => ?_
 have Mp := M
 replace M := M.quiet q29
 refine dg rfl K rfl rfl (os_eqI rfl rfl) rfl rfl fun _ K => ?_
 refine d1 rfl K (os_pick rfl rfl rfl) rfl rfl fun _ K => ?_
 refine dB rfl K (os_move rfl) rfl rfl fun b32 _ e32 K => ?_
 cases b32
 · replace e32 := of_decide_eq_false e32
   refine dgn rfl K rfl rfl rfl rfl fun _ _ K => ?_
   refine d1 rfl K (os_pick rfl rfl rfl) rfl rfl fun _ K => ?_
   refine d1 rfl K (os_assign rfl) rfl rfl fun _ K => ?_
   refine wd_nil ?_
   show W _ _ _ _ _ _ _
   refine w_ret ?_
   refine ⟨.inr rfl, _, (res_one (rs_tmp K rfl)), ?_⟩
   first
    | rfl
    | (simp_all; done)
    | (exfalso; simp_all; done)
 replace e32 := of_decide_eq_true e32
 have ev33 := known3_ev
 refine dga rfl K rfl rfl (os_call rfl (ev33 _)) rfl rfl fun _ K => ?_
 have Mp := M
 refine d1 rfl K (os_pick rfl rfl rfl) rfl rfl fun _ K => ?_
 refine d1 rfl K (os_assign rfl) rfl rfl fun _ K => ?_
 refine wd_nil ?_
 show W _ _ _ _ _ _ _
 refine w_ret ?_
 refine ⟨.inr rfl, _, (res_one (rs_tmp K rfl)), ?_⟩
 first
  | rfl
  | (simp_all; done)
  | (exfalso; simp_all; done)
end Go.Proofs.YtmjnbdkjekdkgaaDoor
