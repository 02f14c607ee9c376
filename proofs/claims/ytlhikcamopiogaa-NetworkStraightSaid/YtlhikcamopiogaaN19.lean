/- Networks: the law of lines of points. -/
import Derived.Test.YtlhikcamopiogaaN16
import Derived.Test.YtlhikcamopiogaaN14
set_option linter.unusedSimpArgs false
set_option linter.unusedVariables false
set_option maxRecDepth 100000
namespace Go.Proofs.Ytlhikcamopiogaa
open Go Go.Proofs Go.AW

theorem getD_app_l {α : Type} {l r : List α} {d : α} {i : Nat} (h : i < l.length) : (l ++ r).getD i d = l.getD i d := by
  simp [List.getD_eq_getElem?_getD, List.getElem?_append_left h]
theorem getD_app_r {α : Type} {l r : List α} {d : α} {i : Nat} (h : l.length ≤ i) : (l ++ r).getD i d = r.getD (i - l.length) d := by
  simp [List.getD_eq_getElem?_getD, List.getElem?_append_right h]
theorem lnS_get {f t w : Int} {m j : Nat} (h : j < m) : (lnS f t w m).getD j 0 = lnV f t w ((j : Int) + 1) := by
  simp [lnS, List.getD_eq_getElem?_getD, h]

/-- What a height is, without a quotient: P = w * V. -/
theorem lnV_div {f t w x : Int} (f0 : 0 ≤ f) (f1 : f ≤ 1000) (t0 : 0 ≤ t) (t1 : t ≤ 1000) (x0 : 0 ≤ x) (x1 : x ≤ w) (w0 : 1 ≤ w) (w1 : w ≤ 64) : 2 * (w * lnV f t w x) ≤ 2 * (f * w + (t - f) * x) + w ∧ 2 * (f * w + (t - f) * x) + w < 2 * (w * lnV f t w x) + 2 * w := by
  obtain ⟨b1, b2, b3, b4, b5, b6, _⟩ := ln_bds f0 f1 t0 t1 x0 x1 w1
  unfold lnV
  generalize f * w + (t - f) * x = ex at *
  obtain ⟨W, rfl⟩ : ∃ W : Nat, w = W := ⟨w.toNat, by omega⟩
  obtain ⟨F, hF⟩ : ∃ F : Nat, 2 * ex + (W : Int) = F := ⟨(2 * ex + (W : Int)).toNat, by omega⟩
  rw [hF]
  have e1 : (2 * (W : Int)).toNat = 2 * W := by omega
  rw [e1, Int.toNat_natCast]
  have d1 := Nat.div_add_mod F (2 * W)
  have d2 := Nat.mod_lt F (show 0 < 2 * W by omega)
  have e2 : 2 * ((W : Int) * ((F / (2 * W) : Nat) : Int)) = ((2 * W * (F / (2 * W)) : Nat) : Int) := by rw [Int.natCast_mul, Int.natCast_mul, Int.mul_assoc]; rfl
  rw [e2]
  omega
theorem lnV_facts {f t w x : Int} (f0 : 0 ≤ f) (f1 : f ≤ 1000) (t0 : 0 ≤ t) (t1 : t ≤ 1000) (x0 : 0 ≤ x) (x1 : x ≤ w) (w0 : 1 ≤ w) (w1 : w ≤ 64) : min f t ≤ lnV f t w x ∧ lnV f t w x ≤ max f t := by
  obtain ⟨d1, d2⟩ := lnV_div f0 f1 t0 t1 x0 x1 w0 w1
  obtain ⟨b1, b2, b3, b4, b5, b6, b7, _⟩ := ln_bds f0 f1 t0 t1 x0 x1 w1
  rw [b7] at d1 d2
  generalize lnV f t w x = V at *
  have u1 : f * (w - x) ≤ max f t * (w - x) := Int.mul_le_mul_of_nonneg_right (by omega) (by omega)
  have u2 : t * x ≤ max f t * x := Int.mul_le_mul_of_nonneg_right (by omega) (by omega)
  have l1 : min f t * (w - x) ≤ f * (w - x) := Int.mul_le_mul_of_nonneg_right (by omega) (by omega)
  have l2 : min f t * x ≤ t * x := Int.mul_le_mul_of_nonneg_right (by omega) (by omega)
  have eu : max f t * (w - x) + max f t * x = w * max f t := by rw [← Int.mul_add, show w - x + x = w by omega, Int.mul_comm]
  have el : min f t * (w - x) + min f t * x = w * min f t := by rw [← Int.mul_add, show w - x + x = w by omega, Int.mul_comm]
  constructor
  · rcases Int.lt_or_le V (min f t) with h | h
    · have : w * V ≤ w * (min f t - 1) := Int.mul_le_mul_of_nonneg_left (by omega) (by omega)
      rw [Int.mul_sub, Int.mul_one] at this
      omega
    · exact h
  · rcases Int.lt_or_le (max f t) V with h | h
    · have : w * (max f t + 1) ≤ w * V := Int.mul_le_mul_of_nonneg_left (by omega) (by omega)
      rw [Int.mul_add, Int.mul_one] at this
      omega
    · exact h
theorem lnV_0 {f t w : Int} (f0 : 0 ≤ f) (f1 : f ≤ 1000) (t0 : 0 ≤ t) (t1 : t ≤ 1000) (w0 : 1 ≤ w) (w1 : w ≤ 64) : lnV f t w 0 = f := by
  obtain ⟨d1, d2⟩ := lnV_div f0 f1 t0 t1 (show (0 : Int) ≤ 0 by omega) (by omega) w0 w1
  rw [Int.mul_zero, Int.add_zero, Int.mul_comm f w] at d1 d2
  generalize lnV f t w 0 = V at *
  rcases Int.lt_trichotomy V f with h | h | h
  · have : w * V ≤ w * (f - 1) := Int.mul_le_mul_of_nonneg_left (by omega) (by omega)
    rw [Int.mul_sub, Int.mul_one] at this
    omega
  · exact h
  · have : w * (f + 1) ≤ w * V := Int.mul_le_mul_of_nonneg_left (by omega) (by omega)
    rw [Int.mul_add, Int.mul_one] at this
    omega
theorem lnV_w {f t w : Int} (f0 : 0 ≤ f) (f1 : f ≤ 1000) (t0 : 0 ≤ t) (t1 : t ≤ 1000) (w0 : 1 ≤ w) (w1 : w ≤ 64) : lnV f t w w = t := by
  obtain ⟨d1, d2⟩ := lnV_div f0 f1 t0 t1 (show 0 ≤ w by omega) (Int.le_refl w) w0 w1
  rw [Int.sub_mul, Int.mul_comm t w] at d1 d2
  generalize lnV f t w w = V at *
  rcases Int.lt_trichotomy V t with h | h | h
  · have : w * V ≤ w * (t - 1) := Int.mul_le_mul_of_nonneg_left (by omega) (by omega)
    rw [Int.mul_sub, Int.mul_one] at this
    omega
  · exact h
  · have : w * (t + 1) ≤ w * V := Int.mul_le_mul_of_nonneg_left (by omega) (by omega)
    rw [Int.mul_add, Int.mul_one] at this
    omega
theorem lnV_slope {f t w x : Int} (f0 : 0 ≤ f) (f1 : f ≤ 1000) (t0 : 0 ≤ t) (t1 : t ≤ 1000) (x0 : 0 ≤ x) (x1 : x + 1 ≤ w) (w0 : 1 ≤ w) (w1 : w ≤ 64) : awayI (lnV f t w (x + 1)) (lnV f t w x) * w < max f t - min f t + w := by
  obtain ⟨d1, d2⟩ := lnV_div f0 f1 t0 t1 x0 (by omega) w0 w1
  obtain ⟨d3, d4⟩ := lnV_div f0 f1 t0 t1 (show 0 ≤ x + 1 by omega) x1 w0 w1
  have e0 : (t - f) * (x + 1) = (t - f) * x + (t - f) := by rw [Int.mul_add, Int.mul_one]
  rw [e0] at d3 d4
  generalize lnV f t w (x + 1) = V1 at *
  generalize lnV f t w x = V0 at *
  unfold awayI
  have e1 : (V0 - V1) * w = w * V0 - w * V1 := by rw [Int.mul_comm, Int.mul_sub]
  have e2 : (V1 - V0) * w = w * V1 - w * V0 := by rw [Int.mul_comm, Int.mul_sub]
  split
  · rw [e1]; omega
  · rw [e2]; omega

/-- The line of the first points begins the line of more. -/
theorem lnN_pre {l : List (Int × Int)} (h : ptOk l) : ∀ (d k : Nat) (i : Nat), k + d < l.length → (i : Int) ≤ pX l k → (lnN l (k + d)).getD i 0 = (lnN l k).getD i 0 := by
  intro d
  induction d with
  | zero => intro k i _ _; rfl
  | succ d ih =>
    intro k i hk hi
    have h1 := lnN_len h (k + d) (by omega)
    have hmon : pX l k ≤ pX l (k + d) := by
      clear ih
      have : ∀ d, k + d < l.length → pX l k ≤ pX l (k + d) := by
        intro d
        induction d with
        | zero => intro _; exact Int.le_refl _
        | succ d ih =>
          intro hd
          have := ih (by omega)
          have h4 := (h.1 (k + (d + 1)) hd).2.2.2.2 (by omega)
          rw [show k + (d + 1) - 1 = k + d by omega] at h4
          omega
      exact this d (by omega)
    show (lnN l (k + d + 1)).getD i 0 = _
    rw [lnN, getD_app_l (by omega)]
    exact ih k i (by omega) hi

/-- Between two points. -/
theorem lnN_at {l : List (Int × Int)} (h : ptOk l) {k : Nat} (hk : k + 1 < l.length) {x : Nat} (hx0 : pX l k < x) (hx1 : (x : Int) ≤ pX l (k + 1)) : (lnN l (l.length - 1)).getD x 0 = lnV (pY l k) (pY l (k + 1)) (pX l (k + 1) - pX l k) ((x : Int) - pX l k) := by
  have h1 := lnN_len h k (by omega)
  have h0 := (h.1 k (by omega)).1
  rw [show l.length - 1 = (k + 1) + (l.length - 1 - (k + 1)) by omega, lnN_pre h _ (k + 1) x (by omega) hx1, lnN, getD_app_r (by omega)]
  rw [lnS_get (by omega)]
  congr 1
  omega
theorem pt_step {l : List (Int × Int)} (h : ptOk l) {k : Nat} (hk : k + 1 < l.length) : 0 ≤ pY l k ∧ pY l k ≤ 1000 ∧ 0 ≤ pY l (k + 1) ∧ pY l (k + 1) ≤ 1000 ∧ pX l k < pX l (k + 1) ∧ 0 ≤ pX l k ∧ pX l (k + 1) < 64 := by
  have h1 := h.1 k (by omega)
  have h2 := h.1 (k + 1) (by omega)
  have h3 := h2.2.2.2.2 (by omega)
  simp only [Nat.add_sub_cancel] at h3
  exact ⟨h1.2.2.1, h1.2.2.2.1, h2.2.2.1, h2.2.2.2.1, h3, h1.1, h2.2.1⟩
theorem lnN_pt {l : List (Int × Int)} (h : ptOk l) : ∀ k : Nat, k < l.length → (lnN l (l.length - 1)).getD (pX l k).toNat 0 = pY l k := by
  intro k hk
  have h0 := (h.1 k hk).1
  cases k with
  | zero =>
    rw [show l.length - 1 = 0 + (l.length - 1 - 0) by omega, lnN_pre h _ 0 _ (by omega) (by omega), h.2.2]; rfl
  | succ k =>
    obtain ⟨q1, q2, q3, q4, q5, q6, q7⟩ := pt_step h hk
    rw [lnN_at h hk (x := (pX l (k + 1)).toNat) (by omega) (by omega), show (((pX l (k + 1)).toNat : Nat) : Int) = pX l (k + 1) by omega]
    exact lnV_w q1 q2 q3 q4 (by omega) (by omega)
/-- From one point to the next. -/
theorem lnN_at0 {l : List (Int × Int)} (h : ptOk l) {k : Nat} (hk : k + 1 < l.length) {x : Nat} (hx0 : pX l k ≤ x) (hx1 : (x : Int) ≤ pX l (k + 1)) : (lnN l (l.length - 1)).getD x 0 = lnV (pY l k) (pY l (k + 1)) (pX l (k + 1) - pX l k) ((x : Int) - pX l k) := by
  obtain ⟨q1, q2, q3, q4, q5, q6, q7⟩ := pt_step h hk
  by_cases he : pX l k < x
  · exact lnN_at h hk he hx1
  · have e : (x : Int) = pX l k := by omega
    rw [e, Int.sub_self, lnV_0 q1 q2 q3 q4 (by omega) (by omega), ← lnN_pt h k (by omega), ← e, Int.toNat_natCast]

theorem networkStraight_c (b : Bool) (p : List (Int × Int)) : Contract Try.prog 6 [PA b p] (B true) := by
  refine Contract.intro (effS [] false) 6 follows Try.func6 rfl rfl (by kernel_rfl) (Nat.le_of_ble_eq_true rfl) ?_
  simp (disch := first | assumption | omega | rfl | simp only [hAt_app, hAt_app0, List.getElem?_cons_zero, List.getElem?_cons_succ]) only [↓RP, RG, FX, decide_eq_true, decide_eq_false, Bool.not_true, Bool.not_false, Option.map_some, List.map_cons, List.map_nil, List.getElem?_cons_zero, List.getElem?_cons_succ, ↓reduceIte, Nat.reduceEqDiff, reduceCtorEq, decide_eq_true_eq, decide_eq_false_iff_not, Option.map_none, Option.bind_some, List.contains_nil, List.contains_cons, Nat.reduceBEq, Bool.or_false, Bool.false_or, Bool.or_self, List.set_cons_zero, List.set_cons_succ, List.take_succ_cons, List.take_zero, List.drop_succ_cons, List.drop_zero, List.length_cons, List.length_nil, List.length_append, Nat.reduceAdd, Nat.reduceLeDiff, List.all_cons, List.all_nil, Bool.and_true, and_true, true_and, and_self, ne_eq, not_false_eq_true, List.cons_append, List.nil_append, List.append_nil, List.append_assoc, Nat.zero_add, Nat.add_zero, Int.toNat_natCast, args0_1]
  refine callK_F 6 (alive16_c) (by simp (disch := first | assumption | omega | rfl | simp only [hAt_app, hAt_app0, List.getElem?_cons_zero, List.getElem?_cons_succ]) only [↓RP, RG, FX, decide_eq_true, decide_eq_false, Bool.not_true, Bool.not_false, Option.map_some, List.map_cons, List.map_nil, List.getElem?_cons_zero, List.getElem?_cons_succ, ↓reduceIte, Nat.reduceEqDiff, reduceCtorEq, decide_eq_true_eq, decide_eq_false_iff_not, Option.map_none, Option.bind_some, List.contains_nil, List.contains_cons, Nat.reduceBEq, Bool.or_false, Bool.false_or, Bool.or_self, List.set_cons_zero, List.set_cons_succ, List.take_succ_cons, List.take_zero, List.drop_succ_cons, List.drop_zero, List.length_cons, List.length_nil, List.length_append, Nat.reduceAdd, Nat.reduceLeDiff, List.all_cons, List.all_nil, Bool.and_true, and_true, true_and, and_self, ne_eq, not_false_eq_true, List.cons_append, List.nil_append, List.append_nil, List.append_assoc, Nat.zero_add, Nat.add_zero, Int.toNat_natCast, RA] <;> rfl) (.inl (by simp [allFresh, ints_fresh, bools_fresh])) ?_
  by_cases g : 20 < p.length
  · simp (disch := first | assumption | omega | rfl | simp only [hAt_app, hAt_app0, List.getElem?_cons_zero, List.getElem?_cons_succ]) only [↓RP, RG, FX, decide_eq_true, decide_eq_false, Bool.not_true, Bool.not_false, Option.map_some, List.map_cons, List.map_nil, List.getElem?_cons_zero, List.getElem?_cons_succ, ↓reduceIte, Nat.reduceEqDiff, reduceCtorEq, decide_eq_true_eq, decide_eq_false_iff_not, Option.map_none, Option.bind_some, List.contains_nil, List.contains_cons, Nat.reduceBEq, Bool.or_false, Bool.false_or, Bool.or_self, List.set_cons_zero, List.set_cons_succ, List.take_succ_cons, List.take_zero, List.drop_succ_cons, List.drop_zero, List.length_cons, List.length_nil, List.length_append, Nat.reduceAdd, Nat.reduceLeDiff, List.all_cons, List.all_nil, Bool.and_true, and_true, true_and, and_self, ne_eq, not_false_eq_true, List.cons_append, List.nil_append, List.append_nil, List.append_assoc, Nat.zero_add, Nat.add_zero, Int.toNat_natCast]
    rw [resVal_1 rfl]; simp (disch := first | assumption | omega | rfl | simp only [hAt_app, hAt_app0, List.getElem?_cons_zero, List.getElem?_cons_succ]) only [↓RP, RG, FX, decide_eq_true, decide_eq_false, Bool.not_true, Bool.not_false, Option.map_some, List.map_cons, List.map_nil, List.getElem?_cons_zero, List.getElem?_cons_succ, ↓reduceIte, Nat.reduceEqDiff, reduceCtorEq, decide_eq_true_eq, decide_eq_false_iff_not, Option.map_none, Option.bind_some, List.contains_nil, List.contains_cons, Nat.reduceBEq, Bool.or_false, Bool.false_or, Bool.or_self, List.set_cons_zero, List.set_cons_succ, List.take_succ_cons, List.take_zero, List.drop_succ_cons, List.drop_zero, List.length_cons, List.length_nil, List.length_append, Nat.reduceAdd, Nat.reduceLeDiff, List.all_cons, List.all_nil, Bool.and_true, and_true, true_and, and_self, ne_eq, not_false_eq_true, List.cons_append, List.nil_append, List.append_nil, List.append_assoc, Nat.zero_add, Nat.add_zero, Int.toNat_natCast, RS]
  simp (disch := first | assumption | omega | rfl | simp only [hAt_app, hAt_app0, List.getElem?_cons_zero, List.getElem?_cons_succ]) only [↓RP, RG, FX, decide_eq_true, decide_eq_false, Bool.not_true, Bool.not_false, Option.map_some, List.map_cons, List.map_nil, List.getElem?_cons_zero, List.getElem?_cons_succ, ↓reduceIte, Nat.reduceEqDiff, reduceCtorEq, decide_eq_true_eq, decide_eq_false_iff_not, Option.map_none, Option.bind_some, List.contains_nil, List.contains_cons, Nat.reduceBEq, Bool.or_false, Bool.false_or, Bool.or_self, List.set_cons_zero, List.set_cons_succ, List.take_succ_cons, List.take_zero, List.drop_succ_cons, List.drop_zero, List.length_cons, List.length_nil, List.length_append, Nat.reduceAdd, Nat.reduceLeDiff, List.all_cons, List.all_nil, Bool.and_true, and_true, true_and, and_self, ne_eq, not_false_eq_true, List.cons_append, List.nil_append, List.append_nil, List.append_assoc, Nat.zero_add, Nat.add_zero, Int.toNat_natCast]
  by_cases h : ptOk p
  rotate_left
  · refine callK_F 6 (lineP_bad b (by omega) h) (by simp (disch := first | assumption | omega | rfl | simp only [hAt_app, hAt_app0, List.getElem?_cons_zero, List.getElem?_cons_succ]) only [↓RP, RG, FX, decide_eq_true, decide_eq_false, Bool.not_true, Bool.not_false, Option.map_some, List.map_cons, List.map_nil, List.getElem?_cons_zero, List.getElem?_cons_succ, ↓reduceIte, Nat.reduceEqDiff, reduceCtorEq, decide_eq_true_eq, decide_eq_false_iff_not, Option.map_none, Option.bind_some, List.contains_nil, List.contains_cons, Nat.reduceBEq, Bool.or_false, Bool.false_or, Bool.or_self, List.set_cons_zero, List.set_cons_succ, List.take_succ_cons, List.take_zero, List.drop_succ_cons, List.drop_zero, List.length_cons, List.length_nil, List.length_append, Nat.reduceAdd, Nat.reduceLeDiff, List.all_cons, List.all_nil, Bool.and_true, and_true, true_and, and_self, ne_eq, not_false_eq_true, List.cons_append, List.nil_append, List.append_nil, List.append_assoc, Nat.zero_add, Nat.add_zero, Int.toNat_natCast, RA, pts_arg]) (.inl (by simp [allFresh, ints])) ?_
    simp (disch := first | assumption | omega | rfl | simp only [hAt_app, hAt_app0, List.getElem?_cons_zero, List.getElem?_cons_succ]) only [↓RP, RG, FX, decide_eq_true, decide_eq_false, Bool.not_true, Bool.not_false, Option.map_some, List.map_cons, List.map_nil, List.getElem?_cons_zero, List.getElem?_cons_succ, ↓reduceIte, Nat.reduceEqDiff, reduceCtorEq, decide_eq_true_eq, decide_eq_false_iff_not, Option.map_none, Option.bind_some, List.contains_nil, List.contains_cons, Nat.reduceBEq, Bool.or_false, Bool.false_or, Bool.or_self, List.set_cons_zero, List.set_cons_succ, List.take_succ_cons, List.take_zero, List.drop_succ_cons, List.drop_zero, List.length_cons, List.length_nil, List.length_append, Nat.reduceAdd, Nat.reduceLeDiff, List.all_cons, List.all_nil, Bool.and_true, and_true, true_and, and_self, ne_eq, not_false_eq_true, List.cons_append, List.nil_append, List.append_nil, List.append_assoc, Nat.zero_add, Nat.add_zero, Int.toNat_natCast, eqN_t (show (8 : Int) = 8 by omega)]
    rw [resVal_1 rfl]; simp (disch := first | assumption | omega | rfl | simp only [hAt_app, hAt_app0, List.getElem?_cons_zero, List.getElem?_cons_succ]) only [↓RP, RG, FX, decide_eq_true, decide_eq_false, Bool.not_true, Bool.not_false, Option.map_some, List.map_cons, List.map_nil, List.getElem?_cons_zero, List.getElem?_cons_succ, ↓reduceIte, Nat.reduceEqDiff, reduceCtorEq, decide_eq_true_eq, decide_eq_false_iff_not, Option.map_none, Option.bind_some, List.contains_nil, List.contains_cons, Nat.reduceBEq, Bool.or_false, Bool.false_or, Bool.or_self, List.set_cons_zero, List.set_cons_succ, List.take_succ_cons, List.take_zero, List.drop_succ_cons, List.drop_zero, List.length_cons, List.length_nil, List.length_append, Nat.reduceAdd, Nat.reduceLeDiff, List.all_cons, List.all_nil, Bool.and_true, and_true, true_and, and_self, ne_eq, not_false_eq_true, List.cons_append, List.nil_append, List.append_nil, List.append_assoc, Nat.zero_add, Nat.add_zero, Int.toNat_natCast, RS]
  have h0 := h.2.1
  refine callK_F 6 (linePoint_c b h) (by simp (disch := first | assumption | omega | rfl | simp only [hAt_app, hAt_app0, List.getElem?_cons_zero, List.getElem?_cons_succ]) only [↓RP, RG, FX, decide_eq_true, decide_eq_false, Bool.not_true, Bool.not_false, Option.map_some, List.map_cons, List.map_nil, List.getElem?_cons_zero, List.getElem?_cons_succ, ↓reduceIte, Nat.reduceEqDiff, reduceCtorEq, decide_eq_true_eq, decide_eq_false_iff_not, Option.map_none, Option.bind_some, List.contains_nil, List.contains_cons, Nat.reduceBEq, Bool.or_false, Bool.false_or, Bool.or_self, List.set_cons_zero, List.set_cons_succ, List.take_succ_cons, List.take_zero, List.drop_succ_cons, List.drop_zero, List.length_cons, List.length_nil, List.length_append, Nat.reduceAdd, Nat.reduceLeDiff, List.all_cons, List.all_nil, Bool.and_true, and_true, true_and, and_self, ne_eq, not_false_eq_true, List.cons_append, List.nil_append, List.append_nil, List.append_assoc, Nat.zero_add, Nat.add_zero, Int.toNat_natCast, RA, pts_arg]) (.inl (by simp [allFresh, ints_fresh])) ?_
  have hLl := lnN_len h (p.length - 1) (by omega)
  have hLp := lnN_pt h
  have hLa := fun (k : Nat) (hk : k + 1 < p.length) (x : Nat) => lnN_at0 h hk (x := x)
  have hlast : ∀ k, k < p.length → pX p k ≤ pX p (p.length - 1) := by
    have : ∀ d k, k + d < p.length → pX p k ≤ pX p (k + d) := by
      intro d
      induction d with
      | zero => intro k _; exact Int.le_refl _
      | succ d ih =>
        intro k hd
        have h1 := ih k (by omega)
        have h2 := (pt_step h (k := k + d) (by omega)).2.2.2.2.1
        exact Int.le_trans h1 (Int.le_of_lt h2)
    intro k hk
    have := this (p.length - 1 - k) k (by omega)
    rwa [show k + (p.length - 1 - k) = p.length - 1 by omega] at this
  generalize hL : lnN p (p.length - 1) = L at *
  have e0 : ((p.length : Int) - 1).toNat = p.length - 1 := by omega
  have ez : ¬ (p.length : Int) = 0 := by omega
  have hbL := h.1 (p.length - 1) (by omega)
  have hb0 := hbL.1
  have hb1 := hbL.2.1
  obtain ⟨XL, hXL⟩ : ∃ v, (p.getD (p.length - 1) (0, 0)).1 = v := ⟨_, rfl⟩
  simp only [pX, hXL] at hb0 hb1 hLl
  have hle : (((L.length : Nat) : Int) != XL + 1) = false := neN_f hLl
  simp (disch := first | assumption | omega | rfl | simp only [hAt_app, hAt_app0, List.getElem?_cons_zero, List.getElem?_cons_succ]) only [↓RP, RG, FX, decide_eq_true, decide_eq_false, Bool.not_true, Bool.not_false, Option.map_some, List.map_cons, List.map_nil, List.getElem?_cons_zero, List.getElem?_cons_succ, ↓reduceIte, Nat.reduceEqDiff, reduceCtorEq, decide_eq_true_eq, decide_eq_false_iff_not, Option.map_none, Option.bind_some, List.contains_nil, List.contains_cons, Nat.reduceBEq, Bool.or_false, Bool.false_or, Bool.or_self, List.set_cons_zero, List.set_cons_succ, List.take_succ_cons, List.take_zero, List.drop_succ_cons, List.drop_zero, List.length_cons, List.length_nil, List.length_append, Nat.reduceAdd, Nat.reduceLeDiff, List.all_cons, List.all_nil, Bool.and_true, and_true, true_and, and_self, ne_eq, not_false_eq_true, List.cons_append, List.nil_append, List.append_nil, List.append_assoc, Nat.zero_add, Nat.add_zero, Int.toNat_natCast, pts_drop, e0, eqN_f ez, hXL, hle]
  refine loopK_I [0, 3, 4, 6] (fun k : Nat => k ≤ p.length) (fun k => ⟨[(0, PA b p), (3, B true), (4, LR false L), (6, I k)], []⟩) (fun k => p.length - k) 0 (by simp) (by simp only [↓RP, RG, FX, decide_eq_true, decide_eq_false, Bool.not_true, Bool.not_false, Option.map_some, List.map_cons, List.map_nil, List.getElem?_cons_zero, List.getElem?_cons_succ, ↓reduceIte, Nat.reduceEqDiff, reduceCtorEq, decide_eq_true_eq, decide_eq_false_iff_not, Option.map_none, Option.bind_some, List.contains_nil, List.contains_cons, Nat.reduceBEq, Bool.or_false, Bool.false_or, Bool.or_self, List.set_cons_zero, List.set_cons_succ, List.take_succ_cons, List.take_zero, List.drop_succ_cons, List.drop_zero, List.length_cons, List.length_nil, List.length_append, Nat.reduceAdd, Nat.reduceLeDiff, List.all_cons, List.all_nil, Bool.and_true, and_true, true_and, and_self, ne_eq, not_false_eq_true, List.cons_append, List.nil_append, List.append_nil, List.append_assoc, Nat.zero_add, Nat.add_zero, Int.toNat_natCast]; rfl) ?_
  intro k hk
  by_cases hlt : k < p.length
  rotate_left
  · obtain rfl : k = p.length := by omega
    simp (disch := first | assumption | omega | rfl | simp only [hAt_app, hAt_app0, List.getElem?_cons_zero, List.getElem?_cons_succ]) only [↓RP, RG, FX, decide_eq_true, decide_eq_false, Bool.not_true, Bool.not_false, Option.map_some, List.map_cons, List.map_nil, List.getElem?_cons_zero, List.getElem?_cons_succ, ↓reduceIte, Nat.reduceEqDiff, reduceCtorEq, decide_eq_true_eq, decide_eq_false_iff_not, Option.map_none, Option.bind_some, List.contains_nil, List.contains_cons, Nat.reduceBEq, Bool.or_false, Bool.false_or, Bool.or_self, List.set_cons_zero, List.set_cons_succ, List.take_succ_cons, List.take_zero, List.drop_succ_cons, List.drop_zero, List.length_cons, List.length_nil, List.length_append, Nat.reduceAdd, Nat.reduceLeDiff, List.all_cons, List.all_nil, Bool.and_true, and_true, true_and, and_self, ne_eq, not_false_eq_true, List.cons_append, List.nil_append, List.append_nil, List.append_assoc, Nat.zero_add, Nat.add_zero, Int.toNat_natCast]
    rw [resVal_1 rfl]; simp (disch := first | assumption | omega | rfl | simp only [hAt_app, hAt_app0, List.getElem?_cons_zero, List.getElem?_cons_succ]) only [↓RP, RG, FX, decide_eq_true, decide_eq_false, Bool.not_true, Bool.not_false, Option.map_some, List.map_cons, List.map_nil, List.getElem?_cons_zero, List.getElem?_cons_succ, ↓reduceIte, Nat.reduceEqDiff, reduceCtorEq, decide_eq_true_eq, decide_eq_false_iff_not, Option.map_none, Option.bind_some, List.contains_nil, List.contains_cons, Nat.reduceBEq, Bool.or_false, Bool.false_or, Bool.or_self, List.set_cons_zero, List.set_cons_succ, List.take_succ_cons, List.take_zero, List.drop_succ_cons, List.drop_zero, List.length_cons, List.length_nil, List.length_append, Nat.reduceAdd, Nat.reduceLeDiff, List.all_cons, List.all_nil, Bool.and_true, and_true, true_and, and_self, ne_eq, not_false_eq_true, List.cons_append, List.nil_append, List.append_nil, List.append_assoc, Nat.zero_add, Nat.add_zero, Int.toNat_natCast, RS]
  have hpk := h.1 k hlt
  have hk0 := hpk.1
  have hk1 := hlast k hlt
  have hk2 := hLp k hlt
  have hk3 := hpk.2.1
  have hk4 := hpk.2.2.1
  have hk5 := hpk.2.2.2.1
  simp only [pX, pY, hXL] at hk0 hk1 hk2 hk3 hk4 hk5
  obtain ⟨X1, hX1⟩ : ∃ v, (p.getD k (0, 0)).1 = v := ⟨_, rfl⟩
  obtain ⟨g1, hg⟩ : ∃ v, (p.getD k (0, 0)).2 = v := ⟨_, rfl⟩
  rw [hX1] at hk0 hk1 hk2 hk3
  rw [hg] at hk2 hk4 hk5
  have hne : (L.getD X1.toNat 0 != g1) = false := neN_f hk2
  by_cases hz : k = 0
  · subst hz
    simp (disch := first | assumption | omega | rfl | simp only [hAt_app, hAt_app0, List.getElem?_cons_zero, List.getElem?_cons_succ]) only [↓RP, RG, FX, decide_eq_true, decide_eq_false, Bool.not_true, Bool.not_false, Option.map_some, List.map_cons, List.map_nil, List.getElem?_cons_zero, List.getElem?_cons_succ, ↓reduceIte, Nat.reduceEqDiff, reduceCtorEq, decide_eq_true_eq, decide_eq_false_iff_not, Option.map_none, Option.bind_some, List.contains_nil, List.contains_cons, Nat.reduceBEq, Bool.or_false, Bool.false_or, Bool.or_self, List.set_cons_zero, List.set_cons_succ, List.take_succ_cons, List.take_zero, List.drop_succ_cons, List.drop_zero, List.length_cons, List.length_nil, List.length_append, Nat.reduceAdd, Nat.reduceLeDiff, List.all_cons, List.all_nil, Bool.and_true, and_true, true_and, and_self, ne_eq, not_false_eq_true, List.cons_append, List.nil_append, List.append_nil, List.append_assoc, Nat.zero_add, Nat.add_zero, Int.toNat_natCast, pts_drop, Int.natCast_zero, Int.toNat_zero, hX1, hg, hne, eqN_t (show (0 : Int) = 0 by omega)]
    exact ⟨1, by omega, rfl, by omega⟩
  obtain ⟨q, rfl⟩ : ∃ q, k = q + 1 := ⟨k - 1, by omega⟩
  obtain ⟨y0, y1, z0, z1, xl, x0, x1⟩ := pt_step h hlt
  have hLq := hLa q hlt
  obtain ⟨X0, hX0⟩ : ∃ v, (p.getD q (0, 0)).1 = v := ⟨_, rfl⟩
  obtain ⟨f, hf⟩ : ∃ v, (p.getD q (0, 0)).2 = v := ⟨_, rfl⟩
  simp only [pX, pY, hX1, hX0, hg, hf] at y0 y1 z0 z1 xl x0 x1 hLq
  have eq1 : (((q + 1 : Nat) : Int) - 1).toNat = q := by omega
  have ez1 : ¬ ((q + 1 : Nat) : Int) = 0 := by omega
  simp (disch := first | assumption | omega | rfl | simp only [hAt_app, hAt_app0, List.getElem?_cons_zero, List.getElem?_cons_succ]) only [↓RP, RG, FX, decide_eq_true, decide_eq_false, Bool.not_true, Bool.not_false, Option.map_some, List.map_cons, List.map_nil, List.getElem?_cons_zero, List.getElem?_cons_succ, ↓reduceIte, Nat.reduceEqDiff, reduceCtorEq, decide_eq_true_eq, decide_eq_false_iff_not, Option.map_none, Option.bind_some, List.contains_nil, List.contains_cons, Nat.reduceBEq, Bool.or_false, Bool.false_or, Bool.or_self, List.set_cons_zero, List.set_cons_succ, List.take_succ_cons, List.take_zero, List.drop_succ_cons, List.drop_zero, List.length_cons, List.length_nil, List.length_append, Nat.reduceAdd, Nat.reduceLeDiff, List.all_cons, List.all_nil, Bool.and_true, and_true, true_and, and_self, ne_eq, not_false_eq_true, List.cons_append, List.nil_append, List.append_nil, List.append_assoc, Nat.zero_add, Nat.add_zero, Int.toNat_natCast, pts_drop, eq1, hX0, hf, hX1, hg, hne, eqN_f ez1]
  refine loopK_I [0, 3, 4, 6, 7, 8, 9, 10] (fun x : Nat => X0 + 1 ≤ x ∧ (x : Int) ≤ X1 + 1) (fun x => ⟨[(0, PA b p), (3, B true), (4, LR false L), (6, I ((q + 1 : Nat) : Int)), (7, I (min f g1)), (8, I (max f g1)), (9, I (X1 - X0)), (10, I x)], []⟩) (fun x => X1.toNat + 1 - x) (X0 + 1).toNat (by omega) (by simp only [↓RP, RG, FX, decide_eq_true, decide_eq_false, Bool.not_true, Bool.not_false, Option.map_some, List.map_cons, List.map_nil, List.getElem?_cons_zero, List.getElem?_cons_succ, ↓reduceIte, Nat.reduceEqDiff, reduceCtorEq, decide_eq_true_eq, decide_eq_false_iff_not, Option.map_none, Option.bind_some, List.contains_nil, List.contains_cons, Nat.reduceBEq, Bool.or_false, Bool.false_or, Bool.or_self, List.set_cons_zero, List.set_cons_succ, List.take_succ_cons, List.take_zero, List.drop_succ_cons, List.drop_zero, List.length_cons, List.length_nil, List.length_append, Nat.reduceAdd, Nat.reduceLeDiff, List.all_cons, List.all_nil, Bool.and_true, and_true, true_and, and_self, ne_eq, not_false_eq_true, List.cons_append, List.nil_append, List.append_nil, List.append_assoc, Nat.zero_add, Nat.add_zero, Int.toNat_natCast]; rw [show (((X0 + 1).toNat : Nat) : Int) = X0 + 1 by omega]) ?_
  rintro x ⟨hx0, hx1⟩
  by_cases hx2 : (x : Int) ≤ X1
  rotate_left
  · simp (disch := first | assumption | omega | rfl | simp only [hAt_app, hAt_app0, List.getElem?_cons_zero, List.getElem?_cons_succ]) only [↓RP, RG, FX, decide_eq_true, decide_eq_false, Bool.not_true, Bool.not_false, Option.map_some, List.map_cons, List.map_nil, List.getElem?_cons_zero, List.getElem?_cons_succ, ↓reduceIte, Nat.reduceEqDiff, reduceCtorEq, decide_eq_true_eq, decide_eq_false_iff_not, Option.map_none, Option.bind_some, List.contains_nil, List.contains_cons, Nat.reduceBEq, Bool.or_false, Bool.false_or, Bool.or_self, List.set_cons_zero, List.set_cons_succ, List.take_succ_cons, List.take_zero, List.drop_succ_cons, List.drop_zero, List.length_cons, List.length_nil, List.length_append, Nat.reduceAdd, Nat.reduceLeDiff, List.all_cons, List.all_nil, Bool.and_true, and_true, true_and, and_self, ne_eq, not_false_eq_true, List.cons_append, List.nil_append, List.append_nil, List.append_assoc, Nat.zero_add, Nat.add_zero, Int.toNat_natCast, pts_drop, eq1, hX0, hf, hX1, hg]
    exact ⟨q + 2, by omega, rfl, by omega⟩
  have v1 := hLq x (by omega) hx2
  have v0 := hLq (x - 1) (by omega) (by omega)
  have fa := lnV_facts (w := X1 - X0) (x := (x : Int) - X0) y0 y1 z0 z1 (by omega) (by omega) (by omega) (by omega)
  have fb := lnV_facts (w := X1 - X0) (x := ((x - 1 : Nat) : Int) - X0) y0 y1 z0 z1 (by omega) (by omega) (by omega) (by omega)
  have sl := lnV_slope (w := X1 - X0) (x := ((x - 1 : Nat) : Int) - X0) y0 y1 z0 z1 (by omega) (by omega) (by omega) (by omega)
  rw [show ((x - 1 : Nat) : Int) - X0 + 1 = (x : Int) - X0 by omega, ← v1, ← v0] at sl
  rw [← v1] at fa
  rw [← v0] at fb
  have ex : ((x : Int) - 1).toNat = x - 1 := by omega
  generalize hu1 : L.getD x 0 = u1 at *
  generalize hu0 : L.getD (x - 1) 0 = u0 at *
  have ab : 0 ≤ awayI u1 u0 ∧ awayI u1 u0 ≤ 1000 := by unfold awayI; split <;> omega
  have pb := mul_bds (N := 64) ab.1 ab.2 (show 0 ≤ X1 - X0 by omega) (by omega)
  simp (disch := first | assumption | omega | rfl | simp only [hAt_app, hAt_app0, List.getElem?_cons_zero, List.getElem?_cons_succ]) only [↓RP, RG, FX, decide_eq_true, decide_eq_false, Bool.not_true, Bool.not_false, Option.map_some, List.map_cons, List.map_nil, List.getElem?_cons_zero, List.getElem?_cons_succ, ↓reduceIte, Nat.reduceEqDiff, reduceCtorEq, decide_eq_true_eq, decide_eq_false_iff_not, Option.map_none, Option.bind_some, List.contains_nil, List.contains_cons, Nat.reduceBEq, Bool.or_false, Bool.false_or, Bool.or_self, List.set_cons_zero, List.set_cons_succ, List.take_succ_cons, List.take_zero, List.drop_succ_cons, List.drop_zero, List.length_cons, List.length_nil, List.length_append, Nat.reduceAdd, Nat.reduceLeDiff, List.all_cons, List.all_nil, Bool.and_true, and_true, true_and, and_self, ne_eq, not_false_eq_true, List.cons_append, List.nil_append, List.append_nil, List.append_assoc, Nat.zero_add, Nat.add_zero, Int.toNat_natCast, pts_drop, eq1, ex, hX0, hf, hX1, hg, hu1, hu0]
  refine callK_F 6 (awayI_c u1 u0 (by omega) (by omega) (by omega) (by omega)) (by simp (disch := first | assumption | omega | rfl | simp only [hAt_app, hAt_app0, List.getElem?_cons_zero, List.getElem?_cons_succ]) only [↓RP, RG, FX, decide_eq_true, decide_eq_false, Bool.not_true, Bool.not_false, Option.map_some, List.map_cons, List.map_nil, List.getElem?_cons_zero, List.getElem?_cons_succ, ↓reduceIte, Nat.reduceEqDiff, reduceCtorEq, decide_eq_true_eq, decide_eq_false_iff_not, Option.map_none, Option.bind_some, List.contains_nil, List.contains_cons, Nat.reduceBEq, Bool.or_false, Bool.false_or, Bool.or_self, List.set_cons_zero, List.set_cons_succ, List.take_succ_cons, List.take_zero, List.drop_succ_cons, List.drop_zero, List.length_cons, List.length_nil, List.length_append, Nat.reduceAdd, Nat.reduceLeDiff, List.all_cons, List.all_nil, Bool.and_true, and_true, true_and, and_self, ne_eq, not_false_eq_true, List.cons_append, List.nil_append, List.append_nil, List.append_assoc, Nat.zero_add, Nat.add_zero, Int.toNat_natCast, RA]) (.inl rfl) ?_
  simp (disch := first | assumption | omega | rfl | simp only [hAt_app, hAt_app0, List.getElem?_cons_zero, List.getElem?_cons_succ]) only [↓RP, RG, FX, decide_eq_true, decide_eq_false, Bool.not_true, Bool.not_false, Option.map_some, List.map_cons, List.map_nil, List.getElem?_cons_zero, List.getElem?_cons_succ, ↓reduceIte, Nat.reduceEqDiff, reduceCtorEq, decide_eq_true_eq, decide_eq_false_iff_not, Option.map_none, Option.bind_some, List.contains_nil, List.contains_cons, Nat.reduceBEq, Bool.or_false, Bool.false_or, Bool.or_self, List.set_cons_zero, List.set_cons_succ, List.take_succ_cons, List.take_zero, List.drop_succ_cons, List.drop_zero, List.length_cons, List.length_nil, List.length_append, Nat.reduceAdd, Nat.reduceLeDiff, List.all_cons, List.all_nil, Bool.and_true, and_true, true_and, and_self, ne_eq, not_false_eq_true, List.cons_append, List.nil_append, List.append_nil, List.append_assoc, Nat.zero_add, Nat.add_zero, Int.toNat_natCast]
  exact ⟨x + 1, ⟨by omega, by omega⟩, rfl, by omega⟩
end Go.Proofs.Ytlhikcamopiogaa
