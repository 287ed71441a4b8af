/-
  utf8.RuneCountInString: how many runes a text has.
-/
import Derived.Test.YtmjnbdkjekdkgaaDoorFbSeg
namespace Go.Proofs.YtmjnbdkjekdkgaaDoor
open Go Go.RowKit
set_option linter.unusedVariables false
set_option linter.unusedSimpArgs false
set_option maxRecDepth 100000

section
variable {P : Program} {G : Env} {K : List (Nat × AV)} {st : St}
theorem os_range {t : TypeId} {x : Operand} {l : List Nat} (ht : P.underlying t = some .string) (hx : opK G K x = some (.str l)) : OpS P G K (.range t x) st (.ptr st.n 0 0) ⟨st.n + 1, st.h.set st.n (.iter l l 0)⟩ := .of fun T hT c d ty pos af g => by
 show (ob (opd G T x) fun x => rangeA P t x st) = _
 rw [hT.opd hx, Qo]
 unfold rangeA
 simp only [ht]
 rw [newCls_eq]
theorem os_next0 {x : Operand} {c pos : Nat} {s : List Nat} (hx : opK G K x = some (.ptr c 0 0)) (hc : st.h.get c = some (.iter s [] pos)) : OpS P G K (.next x true) st (.tup [.bool false]) st := .of fun T hT cc d ty p af g => by
 show (ob (opd G T x) fun x => nextA x st) = _
 rw [hT.opd hx, Qo]
 unfold nextA
 simp only [Nat.beq_refl, Ji, hc, Qo]
theorem os_next1 {x : Operand} {c pos b : Nat} {s t : List Nat} (hx : opK G K x = some (.ptr c 0 0)) (hc : st.h.get c = some (.iter s (b :: t) pos)) : OpS P G K (.next x true) st (.tup [.bool true, .int .i64 (Int.ofNat pos), .int .i32 (Int.ofNat (decA (b :: t)).1)]) ⟨st.n, st.h.set c (.iter s ((b :: t).drop (decA (b :: t)).2) (pos + (decA (b :: t)).2))⟩ := .of fun T hT cc d ty p af g => by
 show (ob (opd G T x) fun x => nextA x st) = _
 rw [hT.opd hx, Qo]
 unfold nextA
 simp only [Nat.beq_refl, Ji, hc, Qo, Jk, sList_eq, withCls_eq, J0]
end
noncomputable def runsN : Nat → List Nat → Nat
 | 0, _ => 0
 | _ + 1, [] => 0
 | f + 1, b :: t => 1 + runsN f ((b :: t).drop (decA (b :: t)).2)
/-- How many runes a text has. -/
noncomputable def cntN (s : List Nat) : Int := ((runsN s.length s : Nat) : Int)
theorem dec_w {r : List Nat} (hr : Bytes r) (h : r ≠ []) : 1 ≤ (decA r).2 := by
 have hp : 0 < r.length := List.length_pos_iff.2 h
 have h1 := decA_eq hr 0 hp
 rw [List.drop_zero] at h1
 rw [h1]
 exact (dec_width (bytesOf r) 0 (by rw [Jg]; exact hp)).1
theorem bytes_drop {r : List Nat} (hr : Bytes r) (n : Nat) : Bytes (r.drop n) := fun x hx => hr x (List.mem_of_mem_drop hx)
theorem runsN_enough : ∀ (f : Nat) (r : List Nat), Bytes r → r.length ≤ f → runsN f r = runsN r.length r := by
 intro f
 induction f using Nat.strongRecOn with
 | _ f ih =>
  intro r hr hf
  cases r with
  | nil => cases f <;> rfl
  | cons b t =>
   cases f with
   | zero => simp at hf
   | succ f =>
    have hw := dec_w hr (by simp)
    show 1 + runsN f _ = 1 + runsN t.length _
    have hl : ((b :: t).drop (decA (b :: t)).2).length ≤ t.length := by rw [List.length_drop]; simp; omega
    simp only [List.length_cons] at hf
    rw [ih f (by omega) _ (bytes_drop hr _) (by omega)]
    by_cases htf : t.length < f + 1
    ·rw [ih t.length htf _ (bytes_drop hr _) hl]
    ·omega
theorem runsN_step {b : Nat} {t : List Nat} (hr : Bytes (b :: t)) : runsN (b :: t).length (b :: t) = 1 + runsN ((b :: t).drop (decA (b :: t)).2).length ((b :: t).drop (decA (b :: t)).2) := by
 have hw := dec_w hr (by simp)
 show 1 + runsN t.length _ = _
 rw [runsN_enough t.length _ (bytes_drop hr _) (by rw [List.length_drop]; simp; omega)]
theorem runCount_ev {st : St} (hf : Fresh st) (s : List Nat) (hs : Bytes s) (hl : s.length ≤ 1000000) : ∃ v st', Ev Tryd.prog envD 130 [.str s] st v st' ∧ v = .int .i64 (cntN s) ∧ Qt st st' := by
 refine J5 rfl Tryd.func130 rfl Tryd.ntmps130 rfl (by decide) (by simp) fun T hT => ?_
 have K : KnT [(0, _)] T := .cons (hT 0) .nil
 refine Qh <| Qa <| o1 K (Qb rfl) rfl fun _ K => Qd ?_
 show W _ _ _ _ _ _ _
 refine Qh <| Qh <| Qa <| o1 K (Qc rfl) rfl fun _ K => o1 K (os_range un_string rfl) rfl fun _ K => Qd ?_
 show W _ _ _ _ _ _ _
 refine Q5 ?_
 refine w_loop (fun mm T st9 => ∃ (n : Nat) (r : List Nat) (pos : Nat), mm = r.length ∧ KnT [(2, .int .i64 ((n : Nat) : Int)), (4, .ptr st.n 0 0)] T ∧ Fresh st9 ∧ st.n + 1 = st9.n ∧ (∀ c, c < st.n → st9.h.get c = st.h.get c) ∧ st9.h.get st.n = some (.iter s r pos) ∧ Bytes r ∧ n + runsN r.length r = runsN s.length s ∧ n + r.length ≤ s.length) (fun mm T st9 hI => ?_) _ _ _ ⟨0, s, 0, rfl, .cons (K _ _ rfl) (.cons (K _ _ rfl) .nil), ?_, rfl, ?_, ?_, hs, by omega, by omega⟩
 ·obtain ⟨n, r, pos, rfl, K, hf9, hn9, hold, hit, hbr, hcnt, hlen⟩ := hI
  cases r with
  | nil =>
   refine Qh <| Qa <| o1 K (os_next0 rfl hit) rfl fun _ K => o1 K (Jx rfl rfl) rfl fun _ K => Qd ?_
   show W _ _ _ _ _ _ _
   refine Qh ?_
   refine Qr (t := false) (K.opd rfl) (fun h => by cases h) (fun _ => ?_)
   refine Uk ?_
   show W _ _ _ _ _ _ _
   refine Qh <| Qa <| o1 K (Qc rfl) rfl fun _ K => o1 K (Qb rfl) rfl fun _ K => Qd ?_
   show W _ _ _ _ _ _ _
   refine Qs ?_
   refine ⟨.inr rfl, _, Qm (Qp K rfl), ?_, hf9, by omega, fun c hc => hold c hc⟩
   have : n = runsN s.length s := by simpa [runsN] using hcnt
   rw [cntN, ← this]
  | cons b t =>
   have hw := dec_w hbr (by simp)
   rw [runsN_step hbr] at hcnt
   have hln : ((b :: t).drop (decA (b :: t)).2).length + 1 ≤ (b :: t).length := by rw [List.length_drop]; simp; omega
   refine Qh <| Qa <| o1 K (os_next1 rfl hit) rfl fun _ K => o1 K (Jx rfl rfl) rfl fun _ K => Qd ?_
   show W _ _ _ _ _ _ _
   refine Qh ?_
   refine Qr (t := true) (K.opd rfl) (fun _ => ?_) (fun h => by cases h)
   refine Q3 ?_
   show W _ _ _ _ _ _ _
   refine Q5 <| Qa <| o1 K (Qc rfl) rfl fun _ K => o1 K (Jm rfl rfl (by omega) (by omega)) rfl fun _ K => o1 K (Qb rfl) rfl fun _ K => Qd ?_
   refine ⟨_, Nat.lt_of_lt_of_le (Nat.lt_succ_self _) hln, n + 1, (b :: t).drop (decA (b :: t)).2, pos + (decA (b :: t)).2, rfl, .cons (K _ _ rfl) (.cons (K _ _ rfl) .nil), ?_, hn9, fun c hc => ?_, ?_, bytes_drop hbr _, by omega, by omega⟩
   ·intro c hc
    have hc : st9.n ≤ c := hc
    show (st9.h.set st.n _).get c = none
    rw [Tr.get_set, if_neg (by omega)]
    exact hf9 c hc
   ·show (st9.h.set st.n _).get c = _
    rw [Tr.get_set, if_neg (by omega)]
    exact hold c hc
   ·show (st9.h.set st.n _).get st.n = _
    rw [Tr.get_set, if_pos rfl]
 ·intro c hc
  have hc : st.n + 1 ≤ c := hc
  show (st.h.set st.n _).get c = none
  rw [Tr.get_set, if_neg (by omega)]
  exact hf c (by omega)
 ·intro c hc
  show (st.h.set st.n _).get c = _
  rw [Tr.get_set, if_neg (by omega)]
 ·show (st.h.set st.n _).get st.n = _
  rw [Tr.get_set, if_pos rfl]
end Go.Proofs.YtmjnbdkjekdkgaaDoor
