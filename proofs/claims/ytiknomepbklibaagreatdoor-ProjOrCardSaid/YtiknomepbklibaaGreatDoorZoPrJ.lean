/-
  An automaton without a track: the program's.
-/
import Derived.Test.YtiknomepbklibaaGreatDoorZoPrN
namespace Go.Proofs.YtiknomepbklibaaGreatDoor
open Go Go.RowKit
set_option linter.unusedVariables false
set_option linter.unusedSimpArgs false
set_option linter.unnecessarySimpa false
set_option maxRecDepth 100000
set_option maxHeartbeats 4000000

theorem DfaI.chg {st st' : St} {F X : Fp} {dp : Nat} {a : Au} (hD : DfaI st F dp a) (Q : ChgF X st st') (hd : ∀ c, F c → ¬ X c) : DfaI st' F dp a := ⟨hD.at_.frame fun c hc => Q.old c (hD.hi c hc) (hd c hc), fun c hc => Nat.lt_of_lt_of_le (hD.hi c hc) Q.le⟩
section
variable {st0 st st' : St} {X0 F : Fp} {M A : Rows2} {Os : List Ob} {o : Ob} {xp cp mp l : Nat} {L : List (List Int)}
theorem MemO.mk_ (B : MemO st0 X0 st M Os) {k : Nat} (hk : Os[k]? = some (mkO F xp cp mp L l)) : MkAt st.h.get F xp cp mp L l := B.at_ hk
theorem MemO.mkMk (B : MemO st0 X0 st ((xp, 0, [.ptr cp 0 0, .ptr mp 0 0]) :: M) (poolO F cp L :: o :: mtO mp l false :: Os)) : MemO st0 X0 st M (mkO F xp cp mp L l :: o :: Os) := by
 have d1 := (List.pairwise_cons.1 B.dj).1 (mtO mp l false) (by simp)
 have d2 := B.djM (poolO F cp L) (by simp) xp 0 _ (List.mem_cons_self ..)
 have d3 := B.djM (mtO mp l false) (by simp) xp 0 _ (List.mem_cons_self ..)
 have B1 := B.permO (Os' := poolO F cp L :: mtO mp l false :: o :: Os) (.cons _ (.swap ..))
 have B2 := MemO.freeze (R := [(xp, 0, [.ptr cp 0 0, .ptr mp 0 0])]) (o := rowsO [(xp, 0, [.ptr cp 0 0, .ptr mp 0 0])]) (M := M) B1 (fun c m x h => B.row c m x (by rw [List.mem_singleton.1 h]; exact List.mem_cons_self ..)) (fun c hc => hc)
 have B3 := B2.join (o := ⟨fun c => c = xp ∨ F c, fun h => Row1 h xp 0 [.ptr cp 0 0, .ptr mp 0 0] ∧ PoolAt h F cp L, fun h h' e H => ⟨H.1.frame (e xp (.inl rfl)), H.2.frame fun c hc => e c (.inr hc)⟩⟩) (fun h1 h2 => ⟨h1 xp 0 _ (List.mem_singleton.2 rfl), h2⟩) (fun c hc => by
  rcases hc with hc | hc
  ·exact .inl ⟨0, _, by rw [hc]; exact List.mem_singleton.2 rfl⟩
  ·exact .inr hc)
 refine B3.join (fun h1 h2 => ⟨h1.2, h2, h1.1, fun h => d1 mp h rfl, d2, fun e => d3 e⟩) (fun c hc => ?_)
 rcases hc with hc | hc | hc
 ·exact .inl (.inr hc)
 ·exact .inr hc
 ·exact .inl (.inl hc)
theorem MemO.callRows (B : MemO st0 X0 st M Os) (q : Qt st st') (hA : ∀ c m l, (c, m, l) ∈ A → Row1 st'.h.get c m l ∧ st.n ≤ c) (hn : (A.map Prod.fst).Nodup) : MemO st0 X0 st' (M ++ (A ++ [])) Os := by
 have B1 := B.quiet q
 refine ⟨B1.fresh, B1.le, fun c m l hm => ?_, ?_, fun c m l hm => ?_, B1.obj, B1.hi, B1.dj, fun o ho c m l hm hc => ?_, B1.old⟩
 ·rw [List.append_nil] at hm
  rcases List.mem_append.1 hm with hm | hm
  ·exact B1.row c m l hm
  ·exact (hA c m l hm).1
 ·rw [List.append_nil, List.map_append]
  refine List.nodup_append.2 ⟨B.nodup, hn, fun x hx y hy e => ?_⟩
  subst e
  obtain ⟨⟨c, m, l⟩, k1, rfl⟩ := List.mem_map.1 hx
  obtain ⟨⟨c', m', l'⟩, k2, k3⟩ := List.mem_map.1 hy
  simp only at k3
  subst k3
  have := (B.row _ m l k1).lt B.fresh
  have := (hA _ m' l' k2).2
  omega
 ·rw [List.append_nil] at hm
  rcases List.mem_append.1 hm with hm | hm
  ·exact B1.lo c m l hm
  ·exact .inl (Nat.le_trans B.le (hA c m l hm).2)
 ·rw [List.append_nil] at hm
  rcases List.mem_append.1 hm with hm | hm
  ·exact B1.djM o ho c m l hm hc
  ·have := (B.hi o ho c hc).1
   have := (hA c m l hm).2
   omega
end
theorem ZAcc.inF {n0 : Nat} {A : Rows2} {kr : AV} {l : List Int} (hA : ZAcc n0 A kr l) : InF (rowsO A).F kr := fun c m o n y e => by
 cases hA with
 | none => cases e
 | own h1 h2 => injection e with e1 e2; subst e1; exact ⟨_, _, List.mem_cons_self ..⟩
theorem ZAcc.nodup {n0 : Nat} {A : Rows2} {kr : AV} {l : List Int} (hA : ZAcc n0 A kr l) : (A.map Prod.fst).Nodup := by cases hA <;> simp
theorem one_rd {h : Hp} {c m : Nat} {z : Int} (r : Row1 h c m [.int .i64 z]) : RdR h [] 1 (zC [z]) (.sl c m 0 1 1) := RdR.own (ls := zC [z]) r (zC_one _) (by simp) (by simp [zC])
theorem os_predN {P : Program} {G : Env} {K : List (Nat × AV)} {st : St} {t yt : TypeId} {x y : Operand} {a : Nat} (hx : opK G K x = some (.int .i64 ((a : Nat) : Int))) (hy : opK G K y = some (.int .i64 1)) (h1 : 1 ≤ a) (hb : a ≤ 9223372036854775807) : OpS P G K (.binOp .sub t x y yt) st (.int .i64 ((a - 1 : Nat) : Int)) st := by
 rw [show ((a - 1 : Nat) : Int) = ((a : Nat) : Int) - 1 by omega]
 exact os_sub hx hy (by omega) (by omega)
theorem ofL_ge (L : List (List Int)) (q : List Int) : L.length ≤ (ofL L q).length := by
 unfold ofL; split
 ·exact Nat.le_refl _
 ·simp
theorem ofL_take {L : List (List Int)} {q : List Int} {n : Nat} (h : n ≤ L.length) : (ofL L q).take n = L.take n := by
 unfold ofL; split
 ·rfl
 ·rw [List.take_append_of_le_length h]
theorem take_same {α : Type} {L L2 : List α} {n : Nat} (h : L2.take n = L.take n) (hn : n ≤ L.length) : n ≤ L2.length := by
 have := congrArg List.length h
 rw [List.length_take, List.length_take] at this
 omega
theorem take_at {α : Type} {L L2 : List α} {i : Nat} {q : α} (h : L2.take (i + 1) = L.take (i + 1)) (hq : L[i]? = some q) : L2[i]? = some q := by
 have e := congrArg (fun l => l[i]?) h
 simp only [List.getElem?_take] at e
 simpa [hq] using e
theorem PrI.in64 {α : Type} {δ : α → Nat → α} {s0 : α} {K : Nat} {L : List α} {rows : List (List Int)} {row : List Int} (H : PrI δ s0 K L rows row) (hL : L.length ≤ 400) : In64 row := fun z hz => by
 have := H.bound z (List.mem_append_right _ hz)
 constructor <;> omega
theorem pId0_ev {st : St} (hf : Fresh st) {F : Fp} {xp cp mp l : Nat} (H : MkAt st.h.get F xp cp mp [] l) (hi : ∀ c, mkF F xp mp c → c < st.n) (hl1 : 1 ≤ l) (hl : l ≤ 9223372036854775807) {c0 m0 : Nat} (hq : Row1 st.h.get c0 m0 [.int .i64 0]) (hX : ¬ mkF F xp mp c0) :
  ∃ v st', Ev Tryz.prog envP 37 [.ptr xp 0 0, .sl c0 m0 0 1 1] st v st' ∧ v = .tup [.int .i64 0, .bool true] ∧ ∃ F', MkAt st'.h.get F' xp cp mp [[0]] (l - 1) ∧ MoreF st st' (mkF F xp mp) (mkF F' xp mp) ∧ ChgF (mkF F xp mp) st st' := by
 obtain ⟨v, st', h1, h2, F', h3⟩ := pId_ev hf H hi (by decide) hl1 hl (q := [0]) (one_rd hq) (fun c m o n y e => by injection e with e1; subst e1; exact hX) (fun z hz => by rw [List.mem_singleton.1 hz]; decide) (by decide) (List.pairwise_singleton _ _)
 exact ⟨v, st', h1, h2, F', h3⟩
theorem accAny_ev {st : St} (hf : Fresh st) {F : Fp} {dp : Nat} {a : Au} {acc : List Bool} (hD : DfaI st F dp ⟨a.tr, acc, a.nx⟩) (hn : acc.length = a.n) {q : List Int} {kq : AV} (hq : RdR st.h.get [] 1 (zC q) kq) (hs : SetS a.n q) (hm : a.n ≤ 400) :
  ∃ v st', Ev Tryz.prog envP 42 [kq, .fn 26 [.ptr dp 0 0] []] st v st' ∧ v = .bool (anyS acc q) ∧ Qt st st' := by
 refine containsZ_ev (fa := [.ptr dp 0 0]) (fc := []) (p := fun z => bvl acc z.toNat) hf hq (by have := hs.len; omega) fun x hx st1 q1 => ?_
 have hb := hs.2 x hx
 have := dAccepts_i q1.fresh (hD.q q1) (s := x.toNat) (by show x.toNat < acc.length; omega)
 rw [Int.toNat_of_nonneg hb.1] at this
 exact this
/-- What comes of it. -/
def ProjR (st st' : St) (a : Au) (k : Nat) (acc : List Bool) (mp l : Nat) (v : AV) : Prop :=
  (∃ dp2 F2 L m, v = .tup [.ptr dp2 0 0, .int .i64 0] ∧ DfaI st' F2 dp2 m ∧ NewF st st' F2 ∧ m.tr = a.tr - 1 ∧ MadeA (stepS a k) [0] (anyS acc) L m ∧ Row1 st'.h.get mp 0 [.int .i64 ((l - L.length : Nat) : Int), .bool false]) ∨
  (v = .tup [.nilp, .int .i64 8] ∧ ∃ L : List (List Int), L.length = 401 ∧ L.Nodup ∧ (∀ (Q : List Int → Prop), Q [0] → (∀ s c, Q s → c < 2 ^ (a.tr - 1) → Q (stepS a k s c)) → ∀ s ∈ L, Q s) ∧ Row1 st'.h.get mp 0 [.int .i64 ((l - 401 : Nat) : Int), .bool false])

theorem pProject_ev {st : St} (hf : Fresh st) {F : Fp} {dp : Nat} {a : Au} (hD : DfaI st F dp a) {k : Nat} (hk : k < a.tr) {mp l : Nat} (hm : Row1 st.h.get mp 0 [.int .i64 ((l : Nat) : Int), .bool false]) (hdm : ¬ F mp) (hl1 : 401 ≤ l) (hl : l ≤ 9223372036854775807) : ∃ v st', Ev Tryz.prog envP 12 [.ptr dp 0 0, .int .i64 (((k : Nat) : Int)), .ptr mp 0 0] st v st' ∧ (∃ acc1, ClAcc a k acc1 ∧ ProjR st st' a k acc1 mp l v) ∧ ChgF (fun c => c = mp) st st' := by
 have wf := hD.wf
 have htr := wf.tr; have hmo := wf.most; have hp6 := pow_le64 (T := a.tr - 1) (by omega); have hp0 : 0 < 2 ^ (a.tr - 1) := Nat.two_pow_pos _
 have hdF : ∀ c, F c → ¬ (mtO mp l false).F c := fun c hc e => hdm ((show c = mp from e) ▸ hc)
 have B := MemO.startO (o := mtO mp l false) hf hm (fun c hc => (show c = mp from hc) ▸ hm.lt hf)
 refine ev_fn rfl Tryz.func12 rfl Tryz.ntmps12 rfl (by decide) (by simp) fun T hT => ?_
 have K : KnT [(0, _), (1, _), (2, _)] T := (.cons (hT 0) (.cons (hT 1) (.cons (hT 2) .nil)))
 have M := B.mem
 refine w_seq <| w_region <| o1 K (os_assign rfl) rfl fun _ K => o1 K (os_assign rfl) rfl fun _ K => wr_nil ?_
 show W _ _ _ _ _ _ _
 refine w_seq <| w_region <| o1 K (os_move rfl) rfl fun _ K => o1 K (os_move rfl) rfl fun _ K => ?_
 replace B := B.step M
 obtain ⟨v24, st24, ev24, dpc, Fc, acc1, rfl, hcl, hDc, nfc, q24⟩ := pClose_ev B.fresh (hD.chg B.chgF hdF) hk
 refine o1 K (os_call rfl ev24) rfl fun _ K => ?_
 replace B := B.new (o := dfaO Fc dpc ⟨a.tr, acc1, a.nx⟩) q24 hDc.at_ nfc
 have M := B.mem
 refine o1 K (os_move rfl) rfl fun _ K => o1 K (os_extract rfl rfl) rfl fun _ K => o1 K (os_extract rfl rfl) rfl fun _ K => o1 K (os_assign rfl) rfl fun _ K => o1 K (os_assign rfl) rfl fun _ K => wr_nil ?_
 show W _ _ _ _ _ _ _
 refine w_seq <| w_seq <| w_region <| o1 K (os_move rfl) rfl fun _ K => o1 K (os_neI rfl rfl) rfl fun _ K => wr_nil ?_
 show W _ _ _ _ _ _ _
 refine w_cond (K.opd rfl) (fun h28 => ?_) (fun h28 => ?_)
 ·have hb28 := h28
  replace h28 : ¬ (0 = 0) := by first | simpa using h28 | (intro hq; rw [decide_eq_true hq] at h28; cases h28)
  exfalso; omega
 have hb28 := h28
 replace h28 : (0 = 0) := by first | simpa using h28 | (by_cases hq : (0 = 0); exact hq; rw [decide_eq_false hq] at h28; cases h28)
 refine w_skip ?_
 show W _ _ _ _ _ _ _
 refine w_seq <| w_region ?_
 replace B := B.step M
 obtain ⟨v30, st30, ev30, cp, rfl, hPn, q30⟩ := newP_ev B.fresh
 refine o1 K (os_call rfl ev30) rfl fun _ K => ?_
 obtain ⟨Fq, hPn, hnp⟩ : ∃ Fq, PoolAt _ Fq cp [] ∧ NewF _ _ Fq := ⟨_, hPn, fun c hc => hc⟩
 replace B := B.new (o := poolO Fq cp []) q30 hPn hnp
 have M := B.mem
 refine o1 K (os_move rfl) rfl fun _ K => o1 K (os_build st_proj_maker rfl rfl) rfl fun _ K => ?_
 refine wr_box K M rfl rfl (by decide) fun c33 _ _ K M => ?_
 refine o1 K (os_assign rfl) rfl fun _ K => wr_nil ?_
 show W _ _ _ _ _ _ _
 refine w_seq <| w_seq ?_
 replace B := (B.step M).mkMk
 have M := B.mem
 refine w_region <| o1 K (os_move rfl) rfl fun _ K => ?_
 refine wr_bs K M sl_S_int ze_int rfl rfl rfl rfl rfl fun c36 _ _ K M => ?_
 replace B := B.step M
 obtain ⟨v37, st37, ev37, rfl, F1, hM1, mf1, Q1⟩ := pId0_ev B.fresh (B.mk_ (k := 0) rfl) (B.hi_ (k := 0) rfl) (by omega) hl (B.row c36 0 _ (by simp)) (B.djM _ (List.mem_cons_self ..) c36 0 _ (List.mem_cons_self ..))
 refine o1 K (os_call rfl ev37) rfl fun _ K => ?_
 replace B := B.call (k := 0) (o' := mkO F1 c33 cp mp [[0]] (l - 1)) rfl Q1 hM1 mf1
 have M := B.mem
 refine o1 K (os_move rfl) rfl fun _ K => o1 K (os_extract rfl rfl) rfl fun _ K => o1 K (os_extract rfl rfl) rfl fun _ K => o1 K (os_assign rfl) rfl fun _ K => o1 K (os_assign rfl) rfl fun _ K => wr_nil ?_
 show W _ _ _ _ _ _ _
 refine w_seq <| w_region <| o1 K (os_move rfl) rfl fun _ K => o1 K (os_not rfl) rfl fun _ K => wr_nil ?_
 show W _ _ _ _ _ _ _
 refine w_cond (t := false) (K.opd rfl) (fun h => by cases h) (fun _ => ?_)
 refine w_skip ?_
 show W _ _ _ _ _ _ _
 refine w_seq <| w_region <| o1 K (os_move rfl) rfl fun _ K => ?_
 obtain ⟨v43, st43, ev43, rfl, q43⟩ := dTracks_i M.fresh (hD.chg (B.step M).chgF hdF)
 refine o1 K (os_call rfl ev43) rfl fun _ K => ?_
 replace M := M.quiet q43
 refine o1 K (os_predN rfl rfl (by omega) (by omega)) rfl fun _ K => o1 K (os_build st_api_Auto rfl rfl) rfl fun _ K => ?_
 refine wr_alloc K M ze_api_Auto (by decide) fun c13 _ _ K M => ?_
 refine wr_store (k := 0) K M rfl rfl rfl sz_api_Auto rfl rfl rfl fun _ M => ?_
 refine wr_nil ?_
 show W _ _ _ _ _ _ _
 refine w_seq <| w_region <| o1 K (os_move rfl) rfl fun _ K => ?_
 replace B := B.step M
 obtain ⟨v47, st47, ev47, nau, q47⟩ := dTo_i B.fresh (hD.chg B.chgF hdF)
 refine o1 K (os_call rfl ev47) rfl fun _ K => ?_
 obtain ⟨kato, knto, vsto, Ato, Fto, rfl, hAto, B⟩ := B.newAu q47 nau
 replace B := B.less (List.sublist_append_left _ _)
 have hnto : isCell knto = true := (LsAt.rd (B.at_ (k := 0) rfl)).cell
 have M := B.mem
 refine o1 K (os_field rfl ((fi_api_Auto_2 _).trans (part_one tk_S_S_int rfl))) rfl fun _ K => o1 K (os_assign rfl) rfl fun _ K => wr_nil ?_
 show W _ _ _ _ _ _ _
 refine w_seq <| w_seq ?_
 replace B := (B.step M).noRows
 have M := B.mem
 refine w_region <| o1 K (os_assign rfl) rfl fun _ K => wr_nil ?_
 show W _ _ _ _ _ _ _
 refine w_block ?_
 refine w_loop (fun mm1 T st9 => ∃ (i : Nat) (L : List (List Int)) (Fk : Fp) (LLr : List (List Int)) (vsr : List AV) (Fr : Fp) (ka : AV) (Aa : Rows2) (kr : AV) (Ar : Rows2), mm1 = 400 - i ∧ KnT [(1, .int .i64 (((k : Nat) : Int))), (8, .ptr dpc 0 0), (10, .ptr c33 0 0), (13, .ptr c13 0 0), (14, knto), (15, .int .i64 (((i : Nat) : Int)))] T ∧ MemO st (mtO mp l false).F st9 ((c13, 0, [.int .i64 ((((a.tr - 1) : Nat) : Int)), ka, kr]) :: (c36, 0, [.int .i64 0]) :: (Aa ++ (Ar ++ []))) [vsO Fr vsr LLr, lsO Fto knto vsto a.nx, mkO Fk c33 cp mp L (l - L.length), dfaO Fc dpc ⟨a.tr, acc1, a.nx⟩] ∧ PrI (stepS a k) [0] (2 ^ (a.tr - 1)) L LLr [] ∧ LLr.length = i ∧ i ≤ L.length ∧ L.length ≤ 400 ∧ Acc 0 1 Aa ka (bC ((L.take i).map (anyS acc1))) ∧ AccX Ar kr vsr) (fun mm1 T st9 hI => ?_) _ _ _ ⟨0, [[0]], _, [], [], _, .nils, [], .nils, [], rfl, (.cons (K _ _ rfl) (.cons (K _ _ rfl) (.cons (K _ _ rfl) (.cons (K _ _ rfl) (.cons (K _ _ rfl) (.cons (K _ _ rfl) .nil)))))), (B.step M).less (.refl _), (PrI.start _ _ _), rfl, (by decide), (by decide), .none, .none⟩
 obtain ⟨i, L, Fk, LLr, vsr, Fr, ka, Aa, kr, Ar, rfl, K, B, hP, hLL, hiL, hL, hAa, hAr⟩ := hI
 have M := B.mem
 have hall : ∀ s ∈ L, SetS a.n s := fun s hs => hP.all (Q := SetS a.n) (SetS.zero wf.pos) (fun s c hs hc => hs.step wf hk hc) (Nat.two_pow_pos _) hs
 refine w_seq <| w_seq <| w_region <| o1 K (os_move rfl) rfl fun _ K => o1 K (os_move rfl) rfl fun _ K => o1 K (os_nil rfl rfl) rfl fun _ K => o1 K (os_fieldAddr fo_proj_maker_0 rfl) rfl fun _ K => o1 K (os_load rfl (ld_row ((B.step M).mk_ (k := 2) rfl).row.rowV (part_one tk_P_pool_Pool rfl))) rfl fun _ K => ?_
 obtain ⟨v54, st54, ev54, rfl, q54⟩ := lenP_ev (L := L) M.fresh ((B.step M).mk_ (k := 2) rfl).pool
 refine o1 K (os_call rfl ev54) rfl fun _ K => ?_
 replace M := M.quiet q54
 refine o1 K (os_lss rfl rfl) rfl fun _ K => wr_nil ?_
 show W _ _ _ _ _ _ _
 refine w_cond (K.opd rfl) (fun h55 => ?_) (fun h55 => ?_)
 ·have hb55 := h55
  replace h55 := of_decide_eq_true h55
  refine w_skip ?_
  show W _ _ _ _ _ _ _
  refine w_seq <| w_block <| w_seq <| w_region <| o1 K (os_move rfl) rfl fun _ K => o1 K (os_nil rfl rfl) rfl fun _ K => o1 K (os_fieldAddr fo_proj_maker_0 rfl) rfl fun _ K => o1 K (os_load rfl (ld_row ((B.step M).mk_ (k := 2) rfl).row.rowV (part_one tk_P_pool_Pool rfl))) rfl fun _ K => o1 K (os_move rfl) rfl fun _ K => ?_
  obtain ⟨q, hqi⟩ : ∃ q, L[i]? = some q := ⟨_, List.getElem?_eq_getElem (by omega)⟩
  have hqS := hall q (List.mem_of_getElem? hqi)
  obtain ⟨v63, st63, ev63, kg, rfl, nrg, q63⟩ := getP_ev M.fresh ((B.step M).mk_ (k := 2) rfl).pool (fun s hs => Nat.le_trans (hall s hs).len (by omega)) (fun c hc => (B.step M).hi_ (k := 2) rfl c (.inl hc)) ((i : Nat) : Int)
  refine o1 K (os_call rfl ev63) rfl fun _ K => ?_
  rw [getZ_at (by omega) (show L[((i : Nat) : Int).toNat]? = some q from hqi)] at nrg
  obtain ⟨Ag, hAg, M⟩ := M.callAcc q63 nrg
  replace hAg := hAg.z0
  replace M := Mem.cast (M' := ((c13, 0, [.int .i64 ((((a.tr - 1) : Nat) : Int)), ka, kr]) :: (c36, 0, [.int .i64 0]) :: (Aa ++ (Ar ++ (Ag ++ []))))) M (by first | (simp only [List.append_assoc, List.cons_append, List.nil_append, List.append_nil, List.set_cons_zero, List.set_cons_succ]; done) | (simp only [List.append_assoc, List.cons_append, List.nil_append, List.append_nil, List.set_cons_zero, List.set_cons_succ]; rfl))
  refine o1 K (os_assign rfl) rfl fun _ K => wr_nil ?_
  show W _ _ _ _ _ _ _
  refine w_seq <| w_region <| o1 K (os_assign rfl) rfl fun _ K => wr_nil ?_
  show W _ _ _ _ _ _ _
  refine w_seq <| w_seq <| w_region <| o1 K (os_fieldAddr fo_api_Auto_0 rfl) rfl fun _ K => o1 K (os_load rfl (M.load (k := 0) rfl (part_one tk_int rfl))) rfl fun _ K => o1 K (os_shl1 (n := (a.tr - 1)) rfl rfl (by omega)) rfl fun _ K => o1 K (os_move rfl) rfl fun _ K => wr_nil ?_
  show W _ _ _ _ _ _ _
  refine w_block ?_
  refine w_loop (fun mm2 T st9 => ∃ (c : Nat) (L2 : List (List Int)) (F2 : Fp) (row : List Int) (kw : AV) (Aw : Rows2), mm2 = 2 ^ (a.tr - 1) - c ∧ KnT [(1, .int .i64 (((k : Nat) : Int))), (8, .ptr dpc 0 0), (10, .ptr c33 0 0), (13, .ptr c13 0 0), (14, knto), (15, .int .i64 (((i : Nat) : Int))), (16, v63), (17, kw), (66, .int .i64 (((2 ^ (a.tr - 1) : Nat) : Int))), (67, .int .i64 (((c : Nat) : Int)))] T ∧ MemO st (mtO mp l false).F st9 ((c13, 0, [.int .i64 ((((a.tr - 1) : Nat) : Int)), ka, kr]) :: (c36, 0, [.int .i64 0]) :: (Aa ++ (Ar ++ (Ag ++ (Aw ++ []))))) [vsO Fr vsr LLr, lsO Fto knto vsto a.nx, mkO F2 c33 cp mp L2 (l - L2.length), dfaO Fc dpc ⟨a.tr, acc1, a.nx⟩] ∧ PrI (stepS a k) [0] (2 ^ (a.tr - 1)) L2 LLr row ∧ row.length = c ∧ c ≤ 2 ^ (a.tr - 1) ∧ L2.length ≤ 400 ∧ L2.take (i + 1) = L.take (i + 1) ∧ Acc 0 1 Aw kw (zC row)) (fun mm2 T st9 hI => ?_) _ _ _ ⟨0, L, Fk, [], .nils, [], rfl, (.cons (K _ _ rfl) (.cons (K _ _ rfl) (.cons (K _ _ rfl) (.cons (K _ _ rfl) (.cons (K _ _ rfl) (.cons (K _ _ rfl) (.cons (K _ _ rfl) (.cons (K _ _ rfl) (.cons (K _ _ rfl) (.cons (K _ _ rfl) .nil)))))))))), (B.step M).less (.refl _), hP, rfl, (Nat.zero_le _), hL, rfl, .none⟩
  obtain ⟨c, L2, F2, row, kw, Aw, rfl, K, B, hP2, hrow, hcK, hL2, htk, hAw⟩ := hI
  have M := B.mem
  refine w_seq <| w_region <| o1 K (os_lss rfl rfl) rfl fun _ K => wr_nil ?_
  show W _ _ _ _ _ _ _
  refine w_seq ?_
  refine w_cond (K.opd rfl) (fun h68 => ?_) (fun h68 => ?_)
  ·have hb68 := h68
   replace h68 := of_decide_eq_true h68
   refine w_skip ?_
   show W _ _ _ _ _ _ _
   refine w_seq <| w_block <| w_seq <| w_region <| o1 K (os_move rfl) rfl fun _ K => o1 K (os_assign rfl) rfl fun _ K => wr_nil ?_
   show W _ _ _ _ _ _ _
   refine w_seq <| w_region <| o1 K (os_move rfl) rfl fun _ K => o1 K (os_move rfl) rfl fun _ K => o1 K (os_move rfl) rfl fun _ K => o1 K (os_move rfl) rfl fun _ K => o1 K (os_move rfl) rfl fun _ K => ?_
   replace B := B.step M
   obtain ⟨v76, st76, ev76, kx, Ax, rfl, hAx, hrx, q76⟩ := pNext_ev (c := c) (q := q) B.fresh wf (LsAt.r (B.at_ (k := 1) rfl)) (Mem.accR (L := ((c13, 0, [.int .i64 ((((a.tr - 1) : Nat) : Int)), ka, kr]) :: (c36, 0, [.int .i64 0]) :: (Aa ++ (Ar ++ [])))) (A := Ag) (B := (Aw ++ [])) (Mem.cast (M := ((c13, 0, [.int .i64 ((((a.tr - 1) : Nat) : Int)), ka, kr]) :: (c36, 0, [.int .i64 0]) :: (Aa ++ (Ar ++ (Ag ++ (Aw ++ [])))))) (M' := ((c13, 0, [.int .i64 ((((a.tr - 1) : Nat) : Int)), ka, kr]) :: (c36, 0, [.int .i64 0]) :: (Aa ++ (Ar ++ []))) ++ (Ag ++ (Aw ++ []))) M (by first | (simp only [List.append_assoc, List.cons_append, List.nil_append, List.append_nil, List.set_cons_zero, List.set_cons_succ]; done) | (simp only [List.append_assoc, List.cons_append, List.nil_append, List.append_nil, List.set_cons_zero, List.set_cons_succ]; rfl))) hAg) hqS.2 (Nat.le_trans hqS.len wf.most) hk (by omega)
   refine o1 K (os_call rfl ev76) rfl fun _ K => ?_
   replace B := B.callRows q76 (fun c m l h => ⟨hrx c m l h, hAx.ge h⟩) hAx.nodup
   replace B := B.cast (M' := ((c13, 0, [.int .i64 ((((a.tr - 1) : Nat) : Int)), ka, kr]) :: (c36, 0, [.int .i64 0]) :: (Aa ++ (Ar ++ (Ag ++ (Aw ++ (Ax ++ []))))))) (by first | (simp only [List.append_assoc, List.cons_append, List.nil_append, List.append_nil, List.set_cons_zero, List.set_cons_succ]; done) | (simp only [List.append_assoc, List.cons_append, List.nil_append, List.append_nil, List.set_cons_zero, List.set_cons_succ]; rfl))
   have M := B.mem
   replace B := B.step M
   have hq2S := hqS.step wf hk (c := c) (by omega)
   have hge := ofL_ge L2 (stepS a k q c)
   have hle := ofL_len L2 (stepS a k q c)
   have hPid := hP2.id (by omega) (show L2[LLr.length]? = some q by rw [hLL]; exact take_at htk hqi)
   rw [hrow] at hPid
   obtain ⟨v77, st77, ev77, rfl, F3, hM3, mf3, Q3⟩ := pId_ev B.fresh (B.mk_ (k := 2) rfl) (B.hi_ (k := 2) rfl) hL2 (by omega) (by omega) (Mem.zaccR (L := ((c13, 0, [.int .i64 ((((a.tr - 1) : Nat) : Int)), ka, kr]) :: (c36, 0, [.int .i64 0]) :: (Aa ++ (Ar ++ (Ag ++ (Aw ++ [])))))) (A := Ax) (B := []) (Mem.cast (M := ((c13, 0, [.int .i64 ((((a.tr - 1) : Nat) : Int)), ka, kr]) :: (c36, 0, [.int .i64 0]) :: (Aa ++ (Ar ++ (Ag ++ (Aw ++ (Ax ++ []))))))) (M' := ((c13, 0, [.int .i64 ((((a.tr - 1) : Nat) : Int)), ka, kr]) :: (c36, 0, [.int .i64 0]) :: (Aa ++ (Ar ++ (Ag ++ (Aw ++ []))))) ++ (Ax ++ [])) M (by first | (simp only [List.append_assoc, List.cons_append, List.nil_append, List.append_nil, List.set_cons_zero, List.set_cons_succ]; done) | (simp only [List.append_assoc, List.cons_append, List.nil_append, List.append_nil, List.set_cons_zero, List.set_cons_succ]; rfl))) hAx) (fun c m o n y e hc => by obtain ⟨m', l', hm'⟩ := hAx.inF c m o n y e; exact B.djM (mkO F2 c33 cp mp L2 (l - L2.length)) (by simp) c m' l' (by simp [hm']) hc) (hq2S.in64 wf.most) (Nat.le_trans hq2S.len (by omega)) hq2S.1
   refine o1 K (os_call rfl ev77) rfl fun _ K => ?_
   rw [show l - L2.length - ((ofL L2 (stepS a k q c)).length - L2.length) = l - (ofL L2 (stepS a k q c)).length by omega] at hM3
   replace B := B.call (k := 2) (o' := mkO F3 c33 cp mp (ofL L2 (stepS a k q c)) (l - (ofL L2 (stepS a k q c)).length)) rfl Q3 hM3 mf3
   have M := B.mem
   refine o1 K (os_move rfl) rfl fun _ K => o1 K (os_extract rfl rfl) rfl fun _ K => o1 K (os_extract rfl rfl) rfl fun _ K => o1 K (os_assign rfl) rfl fun _ K => o1 K (os_assign rfl) rfl fun _ K => wr_nil ?_
   show W _ _ _ _ _ _ _
   refine w_seq <| w_seq <| w_region <| o1 K (os_move rfl) rfl fun _ K => o1 K (os_not rfl) rfl fun _ K => wr_nil ?_
   show W _ _ _ _ _ _ _
   refine w_cond (K.opd rfl) (fun h81 => ?_) (fun h81 => ?_)
   ·have hb81 := h81
    replace h81 : ¬ (((ofL L2 (stepS a k q c)).length : Int) ≤ 400) := by first | simpa using h81 | (intro hq; rw [decide_eq_true hq] at h81; cases h81)
    refine w_seq <| w_region <| o1 K (os_assign rfl) rfl fun _ K => o1 K (os_assign rfl) rfl fun _ K => wr_nil ?_
    show W _ _ _ _ _ _ _
    refine w_ret ?_
    refine ⟨.inr rfl, _, (res_two (rs_tmp K rfl) (rs_tmp K rfl)), ?_⟩
    replace B := B.step M
    have h401 : (ofL L2 (stepS a k q c)).length = 401 := by omega
    have hmt := (B.mk_ (k := 2) rfl).met
    rw [h401] at hmt
    exact ⟨⟨acc1, hcl, .inr ⟨rfl, _, h401, hPid.nodup, fun Q h0 hs s hm => hPid.all h0 hs (Nat.two_pow_pos _) hm, hmt⟩⟩, B.chgF⟩
   have hb81 := h81
   replace h81 : (((ofL L2 (stepS a k q c)).length : Int) ≤ 400) := by first | simpa using h81 | (by_cases hq : (((ofL L2 (stepS a k q c)).length : Int) ≤ 400); exact hq; rw [decide_eq_false hq] at h81; cases h81)
   refine w_skip ?_
   show W _ _ _ _ _ _ _
   refine w_region <| o1 K (os_move rfl) rfl fun _ K => o1 K (os_move rfl) rfl fun _ K => ?_
   refine wr_bs K M sl_S_int ze_int rfl rfl rfl rfl rfl fun c84 _ _ K M => ?_
   refine wr_acc00 (k2 := 0) (L := ((c84, 0, [.int .i64 ((((ofN L2 (stepS a k q c)) : Nat) : Int))]) :: (c13, 0, [.int .i64 ((((a.tr - 1) : Nat) : Int)), ka, kr]) :: (c36, 0, [.int .i64 0]) :: (Aa ++ (Ar ++ (Ag ++ []))))) (A := Aw) (B := (Ax ++ [])) K (Mem.cast (M := ((c84, 0, [.int .i64 ((((ofN L2 (stepS a k q c)) : Nat) : Int))]) :: (c13, 0, [.int .i64 ((((a.tr - 1) : Nat) : Int)), ka, kr]) :: (c36, 0, [.int .i64 0]) :: (Aa ++ (Ar ++ (Ag ++ (Aw ++ (Ax ++ []))))))) (M' := ((c84, 0, [.int .i64 ((((ofN L2 (stepS a k q c)) : Nat) : Int))]) :: (c13, 0, [.int .i64 ((((a.tr - 1) : Nat) : Int)), ka, kr]) :: (c36, 0, [.int .i64 0]) :: (Aa ++ (Ar ++ (Ag ++ [])))) ++ (Aw ++ (Ax ++ []))) M (by first | (simp only [List.append_assoc, List.cons_append, List.nil_append, List.append_nil, List.set_cons_zero, List.set_cons_succ]; done) | (simp only [List.append_assoc, List.cons_append, List.nil_append, List.append_nil, List.set_cons_zero, List.set_cons_succ]; rfl))) hAw sl_S_int rfl rfl rfl rfl (by rw [zC_len]; omega) rfl fun ks85 A85 _ _ K hA85 M => ?_
   replace M := Mem.cast (M := ((c84, 0, [.int .i64 ((((ofN L2 (stepS a k q c)) : Nat) : Int))]) :: (c13, 0, [.int .i64 ((((a.tr - 1) : Nat) : Int)), ka, kr]) :: (c36, 0, [.int .i64 0]) :: (Aa ++ (Ar ++ (Ag ++ [])))) ++ (A85 ++ (Ax ++ []))) (M' := ((c84, 0, [.int .i64 ((((ofN L2 (stepS a k q c)) : Nat) : Int))]) :: (c13, 0, [.int .i64 ((((a.tr - 1) : Nat) : Int)), ka, kr]) :: (c36, 0, [.int .i64 0]) :: (Aa ++ (Ar ++ (Ag ++ (A85 ++ (Ax ++ []))))))) M (by first | (simp only [List.append_assoc, List.cons_append, List.nil_append, List.append_nil, List.set_cons_zero, List.set_cons_succ]; done) | (simp only [List.append_assoc, List.cons_append, List.nil_append, List.append_nil, List.set_cons_zero, List.set_cons_succ]; rfl))
   refine o1 K (os_assign rfl) rfl fun _ K => wr_nil ?_
   show W _ _ _ _ _ _ _
   refine w_region <| o1 K (os_add rfl rfl (by omega) (by omega)) rfl fun _ K => o1 K (os_move rfl) rfl fun _ K => wr_nil ?_
   exact ⟨_, (by omega), c + 1, _, F3, (row ++ [((ofN L2 (stepS a k q c) : Nat) : Int)]), ks85, A85, rfl, (.cons (K _ _ rfl) (.cons (K _ _ rfl) (.cons (K _ _ rfl) (.cons (K _ _ rfl) (.cons (K _ _ rfl) (.cons (K _ _ rfl) (.cons (K _ _ rfl) (.cons (K _ _ rfl) (.cons (K _ _ rfl) (.cons (K _ _ rfl) .nil)))))))))), (B.step M).less (.cons _ (.cons_cons _ (.cons_cons _ (List.Sublist.append_left (List.Sublist.append_left (List.Sublist.append_left (List.Sublist.append_left (List.nil_sublist _) _) _) _) _)))), hPid, (by rw [List.length_append, hrow]; rfl), (by omega), (by omega), (by rw [ofL_take (take_same htk (by omega)), htk]), (by rw [zC_app]; exact hA85)⟩
  have hb68 := h68
  replace h68 := of_decide_eq_false h68
  refine w_exit ?_
  show W _ _ _ _ _ _ _
  refine w_seq <| w_region <| o1 K (os_fieldAddr fo_api_Auto_2 rfl) rfl fun _ K => o1 K (os_load rfl (M.load (k := 0) rfl (part_one tk_S_S_int rfl))) rfl fun _ K => o1 K (os_move rfl) rfl fun _ K => ?_
  refine wr_bs K M sl_S_S_int ze_S_int rfl ((fillA_one rfl hAw.cell rfl).trans rfl) (cl_cons hAw.cell cl_nil) rfl rfl fun c90 _ _ K M => ?_
  refine wr_accX (k2 := 0) (L := ((c90, 0, [kw]) :: (c13, 0, [.int .i64 ((((a.tr - 1) : Nat) : Int)), ka, kr]) :: (c36, 0, [.int .i64 0]) :: (Aa ++ []))) (A := Ar) (B := (Ag ++ (Aw ++ []))) K (Mem.cast (M := ((c90, 0, [kw]) :: (c13, 0, [.int .i64 ((((a.tr - 1) : Nat) : Int)), ka, kr]) :: (c36, 0, [.int .i64 0]) :: (Aa ++ (Ar ++ (Ag ++ (Aw ++ [])))))) (M' := ((c90, 0, [kw]) :: (c13, 0, [.int .i64 ((((a.tr - 1) : Nat) : Int)), ka, kr]) :: (c36, 0, [.int .i64 0]) :: (Aa ++ [])) ++ (Ar ++ (Ag ++ (Aw ++ [])))) M (by first | (simp only [List.append_assoc, List.cons_append, List.nil_append, List.append_nil, List.set_cons_zero, List.set_cons_succ]; done) | (simp only [List.append_assoc, List.cons_append, List.nil_append, List.append_nil, List.set_cons_zero, List.set_cons_succ]; rfl))) hAr sl_S_S_int rfl rfl rfl (by have := VsAt.ln ((B.step M).at_ (k := 0) rfl); omega) rfl fun ks91 A91 _ _ K hA91 _ M => ?_
  replace M := Mem.cast (M := ((c90, 0, [kw]) :: (c13, 0, [.int .i64 ((((a.tr - 1) : Nat) : Int)), ka, kr]) :: (c36, 0, [.int .i64 0]) :: (Aa ++ [])) ++ (A91 ++ (Ag ++ (Aw ++ [])))) (M' := ((c90, 0, [kw]) :: (c13, 0, [.int .i64 ((((a.tr - 1) : Nat) : Int)), ka, kr]) :: (c36, 0, [.int .i64 0]) :: (Aa ++ (A91 ++ (Ag ++ (Aw ++ [])))))) M (by first | (simp only [List.append_assoc, List.cons_append, List.nil_append, List.append_nil, List.set_cons_zero, List.set_cons_succ]; done) | (simp only [List.append_assoc, List.cons_append, List.nil_append, List.append_nil, List.set_cons_zero, List.set_cons_succ]; rfl))
  refine o1 K (os_fieldAddr fo_api_Auto_2 rfl) rfl fun _ K => ?_
  refine wr_store1 (k := 1) K M rfl rfl rfl sz_S_S_int (hA91.cell) rfl fun _ M => ?_
  refine wr_nil ?_
  show W _ _ _ _ _ _ _
  refine w_drawI (l := [(2, 0), (3, 0), (4, 0), (5, 0), (0, 0), (1, 1), (6, 0), (7, 0), (8, 0), (9, 0)]) (by kernel_rfl) ?_
  have Mq := M
  refine d1 rfl K (os_move rfl) rfl rfl fun _ K => d1 rfl K (os_move rfl) rfl rfl fun _ K => d1 rfl K (os_func rfl rfl) rfl rfl fun _ K => ?_
  obtain ⟨v98, st98, ev98, rfl, q98⟩ := accAny_ev M.fresh ((B.step M).dfa (k := 3) rfl) hcl.len (Mem.accR (L := ((c90, 0, [kw]) :: (c13, 0, [.int .i64 ((((a.tr - 1) : Nat) : Int)), ka, ks91]) :: (c36, 0, [.int .i64 0]) :: (Aa ++ (A91 ++ [])))) (A := Ag) (B := (Aw ++ [])) (Mem.cast (M := ((c90, 0, [kw]) :: (c13, 0, [.int .i64 ((((a.tr - 1) : Nat) : Int)), ka, ks91]) :: (c36, 0, [.int .i64 0]) :: (Aa ++ (A91 ++ (Ag ++ (Aw ++ [])))))) (M' := ((c90, 0, [kw]) :: (c13, 0, [.int .i64 ((((a.tr - 1) : Nat) : Int)), ka, ks91]) :: (c36, 0, [.int .i64 0]) :: (Aa ++ (A91 ++ []))) ++ (Ag ++ (Aw ++ []))) M (by first | (simp only [List.append_assoc, List.cons_append, List.nil_append, List.append_nil, List.set_cons_zero, List.set_cons_succ]; done) | (simp only [List.append_assoc, List.cons_append, List.nil_append, List.append_nil, List.set_cons_zero, List.set_cons_succ]; rfl))) hAg) hqS wf.most
  refine dA rfl K (os_call rfl ev98) rfl rfl fun _ K => ?_
  replace M := M.quiet q98
  have Mp := Mq
  have Mq := M
  refine d1 rfl K (os_fieldAddr fo_api_Auto_1 rfl) rfl rfl fun _ K => ?_
  refine wd_load1 rfl K rfl (M.load (k := 1) rfl (part_one tk_S_bool rfl)) (Mp.load (k := 1) rfl (part_one tk_S_bool rfl)) (eqV_one (eqOk_len hAa.len)) rfl (by decide) fun _ K => ?_
  refine wd_bs rfl K M sl_S_bool ze_bool rfl rfl rfl rfl rfl fun c99 _ _ K M => ?_
  refine wd_acc00 (k2 := 0) (L := [(c99, 0, [.bool (anyS acc1 q)]), (c90, 0, [kw]), (c13, 0, [.int .i64 ((((a.tr - 1) : Nat) : Int)), ka, ks91]), (c36, 0, [.int .i64 0])]) (A := Aa) (B := (A91 ++ (Ag ++ (Aw ++ [])))) rfl K M hAa sl_S_bool rfl rfl rfl rfl (by rw [bC_len, List.length_map, List.length_take]; omega) rfl fun ks100 A100 _ _ K hA100 M => ?_
  have Mp := Mq
  have Mq := M
  refine d1 rfl K (os_fieldAddr fo_api_Auto_1 rfl) rfl rfl fun _ K => ?_
  refine wd_store1 (k := 2) rfl K M rfl rfl rfl sz_S_bool (hA100.cell) rfl fun _ M => ?_
  have Mp := Mq
  have Mq := M
  refine wd_nil ?_
  show W _ _ _ _ _ _ _
  refine w_region <| o1 K (os_move rfl) rfl fun _ K => o1 K (os_add rfl rfl (by omega) (by omega)) rfl fun _ K => o1 K (os_assign rfl) rfl fun _ K => wr_nil ?_
  replace B := B.step M
  obtain ⟨Fr, B⟩ := MemO.addRow (L := ((c99, 0, [.bool (anyS acc1 q)]) :: (c90, 0, [kw]) :: (c13, 0, [.int .i64 ((((a.tr - 1) : Nat) : Int)), ks100, ks91]) :: (c36, 0, [.int .i64 0]) :: (A100 ++ (A91 ++ (Ag ++ []))))) (A := Aw) (B := []) (B.cast (by first | (simp only [List.append_assoc, List.cons_append, List.nil_append, List.append_nil, List.set_cons_zero, List.set_cons_succ]; done) | (simp only [List.append_assoc, List.cons_append, List.nil_append, List.append_nil, List.set_cons_zero, List.set_cons_succ]; rfl))) hAw (hP2.in64 hL2)
  replace B := B.cast (M' := ((c99, 0, [.bool (anyS acc1 q)]) :: (c90, 0, [kw]) :: (c13, 0, [.int .i64 ((((a.tr - 1) : Nat) : Int)), ks100, ks91]) :: (c36, 0, [.int .i64 0]) :: (A100 ++ (A91 ++ (Ag ++ []))))) (by first | (simp only [List.append_assoc, List.cons_append, List.nil_append, List.append_nil, List.set_cons_zero, List.set_cons_succ]; done) | (simp only [List.append_assoc, List.cons_append, List.nil_append, List.append_nil, List.set_cons_zero, List.set_cons_succ]; rfl))
  have M := B.mem
  have hi2 := take_same htk (by omega)
  have htq : L.take (i + 1) = L.take i ++ [q] := by rw [List.take_add_one, hqi]; rfl
  exact ⟨_, (by omega), i + 1, L2, F2, (LLr ++ [row]), _, _, ks100, A100, ks91, A91, rfl, (.cons (K _ _ rfl) (.cons (K _ _ rfl) (.cons (K _ _ rfl) (.cons (K _ _ rfl) (.cons (K _ _ rfl) (.cons (K _ _ rfl) .nil)))))), (B.step M).less (.cons _ (.cons _ (.cons_cons _ (.cons_cons _ (List.Sublist.append_left (List.Sublist.append_left (List.nil_sublist _) _) _))))), (hP2.whole (by omega)), (by rw [List.length_append, hLL]; rfl), hi2, hL2, (by rw [htk, htq, List.map_append, bC_app]; exact hA100), hA91⟩
 have hb55 := h55
 replace h55 := of_decide_eq_false h55
 refine w_exit ?_
 show W _ _ _ _ _ _ _
 refine w_seq <| w_region <| o1 K (os_load rfl (M.load (k := 0) rfl (part_agg tk_api_Auto rfl))) rfl fun _ K => ?_
 replace B := B.step M
 have hti : L.take i = L := List.take_of_length_le (by omega)
 rw [hti] at hAa
 have hMd := hP.made (p := anyS acc1) (m := ⟨a.tr - 1, L.map (anyS acc1), LLr⟩) (by show LLr.length = _; omega) rfl (by show a.tr - 1 ≤ 6; omega) hL
 obtain ⟨Fo, B⟩ := MemO.toLs (L := ((c13, 0, [.int .i64 ((((a.tr - 1) : Nat) : Int)), ka, kr]) :: (c36, 0, [.int .i64 0]) :: (Aa ++ []))) (A := Ar) (B := []) (B.cast (by first | (simp only [List.append_assoc, List.cons_append, List.nil_append, List.append_nil, List.set_cons_zero, List.set_cons_succ]; done) | (simp only [List.append_assoc, List.cons_append, List.nil_append, List.append_nil, List.set_cons_zero, List.set_cons_succ]; rfl))) hAr
 replace B := B.cast (M' := ((c13, 0, [.int .i64 ((((a.tr - 1) : Nat) : Int)), ka, kr]) :: (c36, 0, [.int .i64 0]) :: (Aa ++ []))) (by first | (simp only [List.append_assoc, List.cons_append, List.nil_append, List.append_nil, List.set_cons_zero, List.set_cons_succ]; done) | (simp only [List.append_assoc, List.cons_append, List.nil_append, List.append_nil, List.set_cons_zero, List.set_cons_succ]; rfl))
 have M := B.mem
 obtain ⟨v103, st103, ev103, dp2, F2, rfl, hD2, nf2, q103⟩ := aFrom_ev (a := ⟨a.tr - 1, L.map (anyS acc1), LLr⟩) B.fresh hMd.wf (Mem.accR (L := [(c13, 0, [.int .i64 ((((a.tr - 1) : Nat) : Int)), ka, kr]), (c36, 0, [.int .i64 0])]) (A := Aa) (B := []) M hAa) (LsAt.r (B.at_ (k := 0) rfl))
 refine o1 K (os_call rfl ev103) rfl fun _ K => ?_
 have hle0 := B.le
 replace B := B.quiet q103
 have M := B.mem
 refine o1 K (os_extract rfl rfl) rfl fun _ K => o1 K (os_extract rfl rfl) rfl fun _ K => o1 K (os_assign rfl) rfl fun _ K => o1 K (os_assign rfl) rfl fun _ K => wr_nil ?_
 show W _ _ _ _ _ _ _
 refine w_ret ?_
 refine ⟨.inr rfl, _, (res_two (rs_tmp K rfl) (rs_tmp K rfl)), ?_⟩
 exact ⟨⟨acc1, hcl, .inl ⟨dp2, F2, L, _, rfl, hD2, fun c hc => ⟨Nat.le_trans hle0 (nf2 c hc).1, (nf2 c hc).2⟩, rfl, hMd, (B.mk_ (k := 2) rfl).met⟩⟩, B.chgF⟩
end Go.Proofs.YtiknomepbklibaaGreatDoor
