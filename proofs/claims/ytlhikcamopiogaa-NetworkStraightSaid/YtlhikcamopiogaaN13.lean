/- Networks: the line of points, by the code. -/
import Derived.Test.YtlhikcamopiogaaN12
set_option linter.unusedSimpArgs false
set_option linter.unusedVariables false
set_option maxRecDepth 100000
namespace Go.Proofs.Ytlhikcamopiogaa
open Go Go.Proofs Go.AW

/-- The height of a line, x steps behind a point. -/
def lnV (f t w x : Int) : Int := (((2 * (f * w + (t - f) * x) + w).toNat / (2 * w).toNat : Nat) : Int)
def lnS (f t w : Int) (m : Nat) : List Int := (List.range m).map fun j : Nat => lnV f t w ((j : Int) + 1)
theorem lnS_succ (f t w : Int) (m : Nat) : lnS f t w (m + 1) = lnS f t w m ++ [lnV f t w ((m : Int) + 1)] := by simp [lnS, List.range_succ]
theorem lnS_len (f t w : Int) (m : Nat) : (lnS f t w m).length = m := by simp [lnS]
/-- The line's heights up to the point k. -/
def lnN (l : List (Int × Int)) : Nat → List Int
  | 0 => [pY l 0]
  | k + 1 => lnN l k ++ lnS (pY l k) (pY l (k + 1)) (pX l (k + 1) - pX l k) (pX l (k + 1) - pX l k).toNat

theorem lnN_len {l : List (Int × Int)} (h : ptOk l) : ∀ k, k < l.length → ((lnN l k).length : Int) = pX l k + 1 := by
  intro k
  induction k with
  | zero => intro _; have := h.2.2; simp [lnN]; omega
  | succ k ih =>
    intro hk
    have h1 := ih (by omega)
    have h2 := (h.1 (k + 1) hk).2.2.2.2 (by omega)
    simp only [Nat.add_sub_cancel] at h2
    simp only [lnN, List.length_append, lnS_len]
    omega

theorem mul_bds {a b A : Int} {N : Nat} (h0 : 0 ≤ a) (h1 : a ≤ A) (h2 : 0 ≤ b) (h3 : b ≤ N) : 0 ≤ a * b ∧ a * b ≤ A * N :=
  ⟨Int.mul_nonneg h0 h2, Int.le_trans (Int.mul_le_mul_of_nonneg_right h1 h2) (Int.mul_le_mul_of_nonneg_left h3 (by omega))⟩

/-- Bounds on what is reckoned. -/
theorem ln_bds {f t w x : Int} (f0 : 0 ≤ f) (f1 : f ≤ 1000) (t0 : 0 ≤ t) (t1 : t ≤ 1000) (x0 : 0 ≤ x) (x1 : x ≤ w) (w1 : w ≤ 64) :
    0 ≤ f * w ∧ f * w ≤ 64000 ∧ -64000 ≤ (t - f) * x ∧ (t - f) * x ≤ 64000 ∧ 0 ≤ f * w + (t - f) * x ∧ f * w + (t - f) * x ≤ 64000 ∧ f * w + (t - f) * x = f * (w - x) + t * x ∧ 0 ≤ f * (w - x) ∧ f * (w - x) ≤ 64000 ∧ 0 ≤ t * x ∧ t * x ≤ 64000 := by
  have a1 := mul_bds (N := 64) f0 f1 (show 0 ≤ w by omega) w1
  have a2 := mul_bds (N := 64) t0 t1 x0 (by omega)
  have a3 := mul_bds (N := 64) f0 f1 x0 (by omega)
  have a4 := mul_bds (N := 64) f0 f1 (show 0 ≤ w - x by omega) (by omega)
  have e1 : (t - f) * x = t * x - f * x := Int.sub_mul t f x
  have e2 : f * (w - x) = f * w - f * x := Int.mul_sub f w x
  have a5 : f * w - f * x + t * x ≤ 64000 := by
    have b1 : f * (w - x) ≤ 1000 * (w - x) := Int.mul_le_mul_of_nonneg_right f1 (by omega)
    have b2 : t * x ≤ 1000 * x := Int.mul_le_mul_of_nonneg_right t1 x0
    omega
  omega

theorem linePoint_c (b : Bool) {l : List (Int × Int)} (h : ptOk l) : Contract Try.prog 23 [PA b l] (.tuple [LR false (lnN l (l.length - 1)), I 0]) := by
  have hlen : l.length ≤ 64 := by
    have := lnN_len h (l.length - 1) (by have := h.2.1; omega)
    have h2 := (h.1 (l.length - 1) (by have := h.2.1; omega)).2.1
    have key : ∀ k, k < l.length → (k : Int) ≤ pX l k := by
      intro k
      induction k with
      | zero => intro _; have := h.2.2; omega
      | succ k ih =>
        intro hk
        have h3 := ih (by omega)
        have h4 := (h.1 (k + 1) hk).2.2.2.2 (by omega)
        simp only [Nat.add_sub_cancel] at h4
        omega
    have := key (l.length - 1) (by have := h.2.1; omega)
    omega
  have h0 := h.2.1
  refine Contract.intro (effS [] false) 6 follows Try.func23 rfl rfl (by kernel_rfl) (Nat.le_of_ble_eq_true rfl) ?_
  simp (disch := first | assumption | omega | rfl | simp only [hAt_app, hAt_app0, List.getElem?_cons_zero, List.getElem?_cons_succ]) only [↓RP, RG, FX, decide_eq_true, decide_eq_false, Bool.not_true, Bool.not_false, Option.map_some, List.map_cons, List.map_nil, List.getElem?_cons_zero, List.getElem?_cons_succ, ↓reduceIte, Nat.reduceEqDiff, reduceCtorEq, decide_eq_true_eq, decide_eq_false_iff_not, Option.map_none, Option.bind_some, List.contains_nil, List.contains_cons, Nat.reduceBEq, Bool.or_false, Bool.false_or, Bool.or_self, List.set_cons_zero, List.set_cons_succ, List.take_succ_cons, List.take_zero, List.drop_succ_cons, List.drop_zero, List.length_cons, List.length_nil, List.length_append, Nat.reduceAdd, Nat.reduceLeDiff, List.all_cons, List.all_nil, Bool.and_true, and_true, true_and, and_self, ne_eq, not_false_eq_true, List.cons_append, List.nil_append, List.append_nil, List.append_assoc, Nat.zero_add, Nat.add_zero, Int.toNat_natCast, args0_1]
  refine callK_F 6 (points_c b l (by omega)) (by simp (disch := first | assumption | omega | rfl | simp only [hAt_app, hAt_app0, List.getElem?_cons_zero, List.getElem?_cons_succ]) only [↓RP, RG, FX, decide_eq_true, decide_eq_false, Bool.not_true, Bool.not_false, Option.map_some, List.map_cons, List.map_nil, List.getElem?_cons_zero, List.getElem?_cons_succ, ↓reduceIte, Nat.reduceEqDiff, reduceCtorEq, decide_eq_true_eq, decide_eq_false_iff_not, Option.map_none, Option.bind_some, List.contains_nil, List.contains_cons, Nat.reduceBEq, Bool.or_false, Bool.false_or, Bool.or_self, List.set_cons_zero, List.set_cons_succ, List.take_succ_cons, List.take_zero, List.drop_succ_cons, List.drop_zero, List.length_cons, List.length_nil, List.length_append, Nat.reduceAdd, Nat.reduceLeDiff, List.all_cons, List.all_nil, Bool.and_true, and_true, true_and, and_self, ne_eq, not_false_eq_true, List.cons_append, List.nil_append, List.append_nil, List.append_assoc, Nat.zero_add, Nat.add_zero, Int.toNat_natCast, RA, pts_arg]) (.inl rfl) ?_
  have e1 : Int.toNat 1 = 1 := rfl
  have e2 : ((l.length : Int) - 1).toNat = l.length - 1 := by omega
  have e3 : ((pts l).drop (1 * 2)).take ((l.length - 1) * 2) = pts (l.drop 1) := by
    rw [pts_drop_pts, pts_take_all _ (by simp)]
  simp (disch := first | assumption | omega | rfl | simp only [hAt_app, hAt_app0, List.getElem?_cons_zero, List.getElem?_cons_succ]) only [↓RP, RG, FX, decide_eq_true, decide_eq_false, Bool.not_true, Bool.not_false, Option.map_some, List.map_cons, List.map_nil, List.getElem?_cons_zero, List.getElem?_cons_succ, ↓reduceIte, Nat.reduceEqDiff, reduceCtorEq, decide_eq_true_eq, decide_eq_false_iff_not, Option.map_none, Option.bind_some, List.contains_nil, List.contains_cons, Nat.reduceBEq, Bool.or_false, Bool.false_or, Bool.or_self, List.set_cons_zero, List.set_cons_succ, List.take_succ_cons, List.take_zero, List.drop_succ_cons, List.drop_zero, List.length_cons, List.length_nil, List.length_append, Nat.reduceAdd, Nat.reduceLeDiff, List.all_cons, List.all_nil, Bool.and_true, and_true, true_and, and_self, ne_eq, not_false_eq_true, List.cons_append, List.nil_append, List.append_nil, List.append_assoc, Nat.zero_add, Nat.add_zero, Int.toNat_natCast, decide_eq_true h, Bool.not_true, pts_drop, Int.toNat_zero, sliceM_mx, e1, e2, e3]
  have hdl : (l.drop 1).length = l.length - 1 := by simp
  have hdg : ∀ k, (l.drop 1).getD k (0, 0) = l.getD (k + 1) (0, 0) := fun k => by simp [List.getD_eq_getElem?_getD, Nat.add_comm]
  generalize hN : l.length - 1 = N at *
  refine loopK_WW (σ := Option Nat) [0, 4, 24, 25, 26] (fun | none => True | some k => 1 ≤ k ∧ k ≤ N)
    (fun | none => ⟨[(0, PA b l), (4, .lit 1 [I (pY l 0)]), (24, .list false b N (pts (l.drop 1))), (25, I N), (26, I 0)], []⟩
         | some k => ⟨[(0, PA b l), (4, .ref 0 0 (lnN l k).length (lnN l k).length), (24, .list false b N (pts (l.drop 1))), (25, I N), (26, I k)], [⟨3, 1, ints (lnN l k)⟩]⟩)
    (fun | none => N + 1 | some k => N - k) none trivial (Wk.of_eq (by simp only [↓RP, RG, FX, decide_eq_true, decide_eq_false, Bool.not_true, Bool.not_false, Option.map_some, List.map_cons, List.map_nil, List.getElem?_cons_zero, List.getElem?_cons_succ, ↓reduceIte, Nat.reduceEqDiff, reduceCtorEq, decide_eq_true_eq, decide_eq_false_iff_not, Option.map_none, Option.bind_some, List.contains_nil, List.contains_cons, Nat.reduceBEq, Bool.or_false, Bool.false_or, Bool.or_self, List.set_cons_zero, List.set_cons_succ, List.take_succ_cons, List.take_zero, List.drop_succ_cons, List.drop_zero, List.length_cons, List.length_nil, List.length_append, Nat.reduceAdd, Nat.reduceLeDiff, List.all_cons, List.all_nil, Bool.and_true, and_true, true_and, and_self, ne_eq, not_false_eq_true, List.cons_append, List.nil_append, List.append_nil, List.append_assoc, Nat.zero_add, Nat.add_zero, Int.toNat_natCast] <;> rfl)) ?_
  intro st hst
  have hstep : ∀ k, k < N → 0 ≤ pY l k ∧ pY l k ≤ 1000 ∧ 0 ≤ pY l (k + 1) ∧ pY l (k + 1) ≤ 1000 ∧ pX l k < pX l (k + 1) ∧ 0 ≤ pX l k ∧ pX l (k + 1) < 64 := fun k hk => by
    have h1 := h.1 k (by omega)
    have h2 := h.1 (k + 1) (by omega)
    have h3 := h2.2.2.2.2 (by omega)
    simp only [Nat.add_sub_cancel] at h3
    exact ⟨h1.2.2.1, h1.2.2.2.1, h2.2.2.1, h2.2.2.2.1, h3, h1.1, h2.2.1⟩
  match st, hst with
  | none, _ =>
    by_cases hN0 : N = 0
    · subst hN0
      simp (disch := first | assumption | omega | rfl | simp only [hAt_app, hAt_app0, List.getElem?_cons_zero, List.getElem?_cons_succ]) only [↓RP, RG, FX, decide_eq_true, decide_eq_false, Bool.not_true, Bool.not_false, Option.map_some, List.map_cons, List.map_nil, List.getElem?_cons_zero, List.getElem?_cons_succ, ↓reduceIte, Nat.reduceEqDiff, reduceCtorEq, decide_eq_true_eq, decide_eq_false_iff_not, Option.map_none, Option.bind_some, List.contains_nil, List.contains_cons, Nat.reduceBEq, Bool.or_false, Bool.false_or, Bool.or_self, List.set_cons_zero, List.set_cons_succ, List.take_succ_cons, List.take_zero, List.drop_succ_cons, List.drop_zero, List.length_cons, List.length_nil, List.length_append, Nat.reduceAdd, Nat.reduceLeDiff, List.all_cons, List.all_nil, Bool.and_true, and_true, true_and, and_self, ne_eq, not_false_eq_true, List.cons_append, List.nil_append, List.append_nil, List.append_assoc, Nat.zero_add, Nat.add_zero, Int.toNat_natCast, Int.natCast_zero]
      rw [resVal_2 rfl]; simp (disch := first | assumption | omega | rfl | simp only [hAt_app, hAt_app0, List.getElem?_cons_zero, List.getElem?_cons_succ]) only [↓RP, RG, FX, decide_eq_true, decide_eq_false, Bool.not_true, Bool.not_false, Option.map_some, List.map_cons, List.map_nil, List.getElem?_cons_zero, List.getElem?_cons_succ, ↓reduceIte, Nat.reduceEqDiff, reduceCtorEq, decide_eq_true_eq, decide_eq_false_iff_not, Option.map_none, Option.bind_some, List.contains_nil, List.contains_cons, Nat.reduceBEq, Bool.or_false, Bool.false_or, Bool.or_self, List.set_cons_zero, List.set_cons_succ, List.take_succ_cons, List.take_zero, List.drop_succ_cons, List.drop_zero, List.length_cons, List.length_nil, List.length_append, Nat.reduceAdd, Nat.reduceLeDiff, List.all_cons, List.all_nil, Bool.and_true, and_true, true_and, and_self, ne_eq, not_false_eq_true, List.cons_append, List.nil_append, List.append_nil, List.append_assoc, Nat.zero_add, Nat.add_zero, Int.toNat_natCast, RS]
      first | done | rfl
    · obtain ⟨y0, y1, z0, z1, xl, x0, x1⟩ := hstep 0 (by omega)
      have hl0 : (l.drop 1).getD 0 (0, 0) = l.getD 1 (0, 0) := hdg 0
      have hsm := lnS_succ (pY l 0) (pY l 1) (pX l 1 - pX l 0)
      have hln : lnN l 1 = pY l 0 :: lnS (pY l 0) (pY l 1) (pX l 1 - pX l 0) (pX l 1 - pX l 0).toNat := rfl
      change 0 ≤ pY l 1 at z0
      change pY l 1 ≤ 1000 at z1
      change pX l 0 < pX l 1 at xl
      change pX l 1 < 64 at x1
      obtain ⟨X0, hX0⟩ : ∃ v, (l.getD 0 (0, 0)).1 = v := ⟨_, rfl⟩
      obtain ⟨X1, hX1⟩ : ∃ v, (l.getD 1 (0, 0)).1 = v := ⟨_, rfl⟩
      obtain ⟨f, hf⟩ : ∃ v, (l.getD 0 (0, 0)).2 = v := ⟨_, rfl⟩
      obtain ⟨g, hg⟩ : ∃ v, (l.getD 1 (0, 0)).2 = v := ⟨_, rfl⟩
      obtain ⟨w, hw⟩ : ∃ v, X1 - X0 = v := ⟨_, rfl⟩
      simp only [pX, pY, hX0, hX1, hf, hg, hw] at y0 y1 z0 z1 xl x0 x1 hsm hln ⊢
      simp (disch := first | assumption | omega | rfl | simp only [hAt_app, hAt_app0, List.getElem?_cons_zero, List.getElem?_cons_succ]) only [↓RP, RG, FX, decide_eq_true, decide_eq_false, Bool.not_true, Bool.not_false, Option.map_some, List.map_cons, List.map_nil, List.getElem?_cons_zero, List.getElem?_cons_succ, ↓reduceIte, Nat.reduceEqDiff, reduceCtorEq, decide_eq_true_eq, decide_eq_false_iff_not, Option.map_none, Option.bind_some, List.contains_nil, List.contains_cons, Nat.reduceBEq, Bool.or_false, Bool.false_or, Bool.or_self, List.set_cons_zero, List.set_cons_succ, List.take_succ_cons, List.take_zero, List.drop_succ_cons, List.drop_zero, List.length_cons, List.length_nil, List.length_append, Nat.reduceAdd, Nat.reduceLeDiff, List.all_cons, List.all_nil, Bool.and_true, and_true, true_and, and_self, ne_eq, not_false_eq_true, List.cons_append, List.nil_append, List.append_nil, List.append_assoc, Nat.zero_add, Nat.add_zero, Int.toNat_natCast, pts_drop, Int.toNat_zero, hl0, hX0, hX1, hf, hg, hw]
      refine loopK_WW (σ := Option Nat) [0, 4, 6, 7, 8, 9, 10, 24, 25, 26] (fun | none => True | some j => 1 ≤ j ∧ j ≤ w.toNat)
        (fun | none => ⟨[(0, PA b l), (4, .lit 1 [I f]), (6, .ptr 0 0 2), (7, .ptr 1 0 2), (8, I w), (9, I (g - f)), (10, I 1), (24, .list false b N (pts (l.drop 1))), (25, I N), (26, I 0)], [⟨51, 2, [I X1, I g]⟩, ⟨51, 2, [I X0, I f]⟩]⟩
             | some j => ⟨[(0, PA b l), (4, .ref 2 0 (j + 1) (j + 1)), (6, .ptr 0 0 2), (7, .ptr 1 0 2), (8, I w), (9, I (g - f)), (10, I ((j : Int) + 1)), (24, .list false b N (pts (l.drop 1))), (25, I N), (26, I 0)], [⟨51, 2, [I X1, I g]⟩, ⟨51, 2, [I X0, I f]⟩, ⟨3, 1, ints (f :: lnS f g w j)⟩]⟩)
        (fun | none => w.toNat + 1 | some j => w.toNat - j) none trivial (Wk.of_eq (by simp only [↓RP, RG, FX, decide_eq_true, decide_eq_false, Bool.not_true, Bool.not_false, Option.map_some, List.map_cons, List.map_nil, List.getElem?_cons_zero, List.getElem?_cons_succ, ↓reduceIte, Nat.reduceEqDiff, reduceCtorEq, decide_eq_true_eq, decide_eq_false_iff_not, Option.map_none, Option.bind_some, List.contains_nil, List.contains_cons, Nat.reduceBEq, Bool.or_false, Bool.false_or, Bool.or_self, List.set_cons_zero, List.set_cons_succ, List.take_succ_cons, List.take_zero, List.drop_succ_cons, List.drop_zero, List.length_cons, List.length_nil, List.length_append, Nat.reduceAdd, Nat.reduceLeDiff, List.all_cons, List.all_nil, Bool.and_true, and_true, true_and, and_self, ne_eq, not_false_eq_true, List.cons_append, List.nil_append, List.append_nil, List.append_assoc, Nat.zero_add, Nat.add_zero, Int.toNat_natCast] <;> rfl)) ?_
      intro sj hsj
      match sj, hsj with
      | none, _ =>
        obtain ⟨b1, b2, b3, b4, b5, b6, _⟩ := ln_bds (w := w) (x := 1) y0 y1 z0 z1 (by omega) (by omega) (by omega)
        simp (disch := first | assumption | omega | rfl | simp only [hAt_app, hAt_app0, List.getElem?_cons_zero, List.getElem?_cons_succ]) only [↓RP, RG, FX, decide_eq_true, decide_eq_false, Bool.not_true, Bool.not_false, Option.map_some, List.map_cons, List.map_nil, List.getElem?_cons_zero, List.getElem?_cons_succ, ↓reduceIte, Nat.reduceEqDiff, reduceCtorEq, decide_eq_true_eq, decide_eq_false_iff_not, Option.map_none, Option.bind_some, List.contains_nil, List.contains_cons, Nat.reduceBEq, Bool.or_false, Bool.false_or, Bool.or_self, List.set_cons_zero, List.set_cons_succ, List.take_succ_cons, List.take_zero, List.drop_succ_cons, List.drop_zero, List.length_cons, List.length_nil, List.length_append, Nat.reduceAdd, Nat.reduceLeDiff, List.all_cons, List.all_nil, Bool.and_true, and_true, true_and, and_self, ne_eq, not_false_eq_true, List.cons_append, List.nil_append, List.append_nil, List.append_assoc, Nat.zero_add, Nat.add_zero, Int.toNat_natCast, append_litI, quo_int]
        exact ⟨some 1, ⟨by omega, by omega⟩, Wk.of_eq rfl, by show w.toNat - 1 < w.toNat + 1; omega⟩
      | some j, ⟨hj1, hj⟩ =>
        by_cases hj2 : j < w.toNat
        · obtain ⟨b1, b2, b3, b4, b5, b6, _⟩ := ln_bds (w := w) (x := (j : Int) + 1) y0 y1 z0 z1 (by omega) (by omega) (by omega)
          have hll : (f :: lnS f g w j).length = j + 1 := by simp [lnS_len]
          simp (disch := first | assumption | omega | rfl | simp only [hAt_app, hAt_app0, List.getElem?_cons_zero, List.getElem?_cons_succ]) only [↓RP, RG, FX, decide_eq_true, decide_eq_false, Bool.not_true, Bool.not_false, Option.map_some, List.map_cons, List.map_nil, List.getElem?_cons_zero, List.getElem?_cons_succ, ↓reduceIte, Nat.reduceEqDiff, reduceCtorEq, decide_eq_true_eq, decide_eq_false_iff_not, Option.map_none, Option.bind_some, List.contains_nil, List.contains_cons, Nat.reduceBEq, Bool.or_false, Bool.false_or, Bool.or_self, List.set_cons_zero, List.set_cons_succ, List.take_succ_cons, List.take_zero, List.drop_succ_cons, List.drop_zero, List.length_cons, List.length_nil, List.length_append, Nat.reduceAdd, Nat.reduceLeDiff, List.all_cons, List.all_nil, Bool.and_true, and_true, true_and, and_self, ne_eq, not_false_eq_true, List.cons_append, List.nil_append, List.append_nil, List.append_assoc, Nat.zero_add, Nat.add_zero, Int.toNat_natCast, append_refI (l := f :: lnS f g w j), quo_int]
          refine ⟨some (j + 1), ⟨by omega, by omega⟩, Wk.of_eq ?_, by show w.toNat - (j + 1) < w.toNat - j; omega⟩
          simp only [hsm, List.cons_append]
          rfl
        · obtain rfl : j = w.toNat := by omega
          simp (disch := first | assumption | omega | rfl | simp only [hAt_app, hAt_app0, List.getElem?_cons_zero, List.getElem?_cons_succ]) only [↓RP, RG, FX, decide_eq_true, decide_eq_false, Bool.not_true, Bool.not_false, Option.map_some, List.map_cons, List.map_nil, List.getElem?_cons_zero, List.getElem?_cons_succ, ↓reduceIte, Nat.reduceEqDiff, reduceCtorEq, decide_eq_true_eq, decide_eq_false_iff_not, Option.map_none, Option.bind_some, List.contains_nil, List.contains_cons, Nat.reduceBEq, Bool.or_false, Bool.false_or, Bool.or_self, List.set_cons_zero, List.set_cons_succ, List.take_succ_cons, List.take_zero, List.drop_succ_cons, List.drop_zero, List.length_cons, List.length_nil, List.length_append, Nat.reduceAdd, Nat.reduceLeDiff, List.all_cons, List.all_nil, Bool.and_true, and_true, true_and, and_self, ne_eq, not_false_eq_true, List.cons_append, List.nil_append, List.append_nil, List.append_assoc, Nat.zero_add, Nat.add_zero, Int.toNat_natCast]
          refine ⟨some 1, ⟨by omega, by omega⟩, (Wk.drop (hb := []) (h1 := []) (gs := [_, _, _]) 8 [2] rfl (by simp) (by simp) (by simp)).trans (Wk.of_eq ?_), by show N - 1 < N + 1; omega⟩
          simp only [RK, List.idxOf?_cons, List.idxOf?_nil, Nat.reduceBEq, Option.map_some, Option.map_none, List.map_cons, List.map_nil, List.getD_cons_zero, List.getD_cons_succ, Bool.false_eq_true, ↓reduceIte, Nat.add_zero, List.append_nil, map_ren_pts]
          rw [hln, List.length_cons, lnS_len]
          rfl
  | some k, ⟨hk1, hk⟩ =>
    by_cases hlt : k < N
    · obtain ⟨y0, y1, z0, z1, xl, x0, x1⟩ := hstep k hlt
      have hl0 : (l.drop 1).getD k (0, 0) = l.getD (k + 1) (0, 0) := hdg k
      have hsm := lnS_succ (pY l k) (pY l (k + 1)) (pX l (k + 1) - pX l k)
      have hln : lnN l (k + 1) = lnN l k ++ lnS (pY l k) (pY l (k + 1)) (pX l (k + 1) - pX l k) (pX l (k + 1) - pX l k).toNat := rfl
      have hlk := lnN_len h k (by omega)
      obtain ⟨X0, hX0⟩ : ∃ v, (l.getD k (0, 0)).1 = v := ⟨_, rfl⟩
      obtain ⟨X1, hX1⟩ : ∃ v, (l.getD (k + 1) (0, 0)).1 = v := ⟨_, rfl⟩
      obtain ⟨f, hf⟩ : ∃ v, (l.getD k (0, 0)).2 = v := ⟨_, rfl⟩
      obtain ⟨g, hg⟩ : ∃ v, (l.getD (k + 1) (0, 0)).2 = v := ⟨_, rfl⟩
      obtain ⟨w, hw⟩ : ∃ v, X1 - X0 = v := ⟨_, rfl⟩
      simp only [pX, pY, hX0, hX1, hf, hg, hw] at y0 y1 z0 z1 xl x0 x1 hsm hln hlk ⊢
      generalize hq : lnN l k = q at *
      simp (disch := first | assumption | omega | rfl | simp only [hAt_app, hAt_app0, List.getElem?_cons_zero, List.getElem?_cons_succ]) only [↓RP, RG, FX, decide_eq_true, decide_eq_false, Bool.not_true, Bool.not_false, Option.map_some, List.map_cons, List.map_nil, List.getElem?_cons_zero, List.getElem?_cons_succ, ↓reduceIte, Nat.reduceEqDiff, reduceCtorEq, decide_eq_true_eq, decide_eq_false_iff_not, Option.map_none, Option.bind_some, List.contains_nil, List.contains_cons, Nat.reduceBEq, Bool.or_false, Bool.false_or, Bool.or_self, List.set_cons_zero, List.set_cons_succ, List.take_succ_cons, List.take_zero, List.drop_succ_cons, List.drop_zero, List.length_cons, List.length_nil, List.length_append, Nat.reduceAdd, Nat.reduceLeDiff, List.all_cons, List.all_nil, Bool.and_true, and_true, true_and, and_self, ne_eq, not_false_eq_true, List.cons_append, List.nil_append, List.append_nil, List.append_assoc, Nat.zero_add, Nat.add_zero, Int.toNat_natCast, pts_drop, hl0, hX0, hX1, hf, hg, hw]
      refine loopK_I [0, 4, 6, 7, 8, 9, 10, 24, 25, 26] (fun j : Nat => j ≤ w.toNat)
        (fun j => ⟨[(0, PA b l), (4, .ref 0 0 (q.length + j) (q.length + j)), (6, .ptr 1 0 2), (7, .ptr 2 0 2), (8, I w), (9, I (g - f)), (10, I ((j : Int) + 1)), (24, .list false b N (pts (l.drop 1))), (25, I N), (26, I k)], [⟨3, 1, ints (q ++ lnS f g w j)⟩, ⟨51, 2, [I X1, I g]⟩, ⟨51, 2, [I X0, I f]⟩]⟩)
        (fun j => w.toNat - j) 0 (by omega) (by simp only [↓RP, RG, FX, decide_eq_true, decide_eq_false, Bool.not_true, Bool.not_false, Option.map_some, List.map_cons, List.map_nil, List.getElem?_cons_zero, List.getElem?_cons_succ, ↓reduceIte, Nat.reduceEqDiff, reduceCtorEq, decide_eq_true_eq, decide_eq_false_iff_not, Option.map_none, Option.bind_some, List.contains_nil, List.contains_cons, Nat.reduceBEq, Bool.or_false, Bool.false_or, Bool.or_self, List.set_cons_zero, List.set_cons_succ, List.take_succ_cons, List.take_zero, List.drop_succ_cons, List.drop_zero, List.length_cons, List.length_nil, List.length_append, Nat.reduceAdd, Nat.reduceLeDiff, List.all_cons, List.all_nil, Bool.and_true, and_true, true_and, and_self, ne_eq, not_false_eq_true, List.cons_append, List.nil_append, List.append_nil, List.append_assoc, Nat.zero_add, Nat.add_zero, Int.toNat_natCast]; simp [lnS]) ?_
      intro j hj
      by_cases hj2 : j < w.toNat
      · obtain ⟨b1, b2, b3, b4, b5, b6, _⟩ := ln_bds (w := w) (x := (j : Int) + 1) y0 y1 z0 z1 (by omega) (by omega) (by omega)
        have hll : (q ++ lnS f g w j).length = q.length + j := by simp [lnS_len]
        simp (disch := first | assumption | omega | rfl | simp only [hAt_app, hAt_app0, List.getElem?_cons_zero, List.getElem?_cons_succ]) only [↓RP, RG, FX, decide_eq_true, decide_eq_false, Bool.not_true, Bool.not_false, Option.map_some, List.map_cons, List.map_nil, List.getElem?_cons_zero, List.getElem?_cons_succ, ↓reduceIte, Nat.reduceEqDiff, reduceCtorEq, decide_eq_true_eq, decide_eq_false_iff_not, Option.map_none, Option.bind_some, List.contains_nil, List.contains_cons, Nat.reduceBEq, Bool.or_false, Bool.false_or, Bool.or_self, List.set_cons_zero, List.set_cons_succ, List.take_succ_cons, List.take_zero, List.drop_succ_cons, List.drop_zero, List.length_cons, List.length_nil, List.length_append, Nat.reduceAdd, Nat.reduceLeDiff, List.all_cons, List.all_nil, Bool.and_true, and_true, true_and, and_self, ne_eq, not_false_eq_true, List.cons_append, List.nil_append, List.append_nil, List.append_assoc, Nat.zero_add, Nat.add_zero, Int.toNat_natCast, append_refI (l := q ++ lnS f g w j), quo_int]
        refine ⟨j + 1, by omega, ?_, by omega⟩
        rw [hsm]
        rfl
      · obtain rfl : j = w.toNat := by omega
        simp (disch := first | assumption | omega | rfl | simp only [hAt_app, hAt_app0, List.getElem?_cons_zero, List.getElem?_cons_succ]) only [↓RP, RG, FX, decide_eq_true, decide_eq_false, Bool.not_true, Bool.not_false, Option.map_some, List.map_cons, List.map_nil, List.getElem?_cons_zero, List.getElem?_cons_succ, ↓reduceIte, Nat.reduceEqDiff, reduceCtorEq, decide_eq_true_eq, decide_eq_false_iff_not, Option.map_none, Option.bind_some, List.contains_nil, List.contains_cons, Nat.reduceBEq, Bool.or_false, Bool.false_or, Bool.or_self, List.set_cons_zero, List.set_cons_succ, List.take_succ_cons, List.take_zero, List.drop_succ_cons, List.drop_zero, List.length_cons, List.length_nil, List.length_append, Nat.reduceAdd, Nat.reduceLeDiff, List.all_cons, List.all_nil, Bool.and_true, and_true, true_and, and_self, ne_eq, not_false_eq_true, List.cons_append, List.nil_append, List.append_nil, List.append_assoc, Nat.zero_add, Nat.add_zero, Int.toNat_natCast]
        refine ⟨some (k + 1), ⟨by omega, by omega⟩, (Wk.drop (hb := []) (h1 := []) (gs := [_, _, _]) 8 [0] rfl (by simp) (by simp) (by simp)).trans (Wk.of_eq ?_), by show N - (k + 1) < N - k; omega⟩
        simp only [RK, List.idxOf?_cons, List.idxOf?_nil, Nat.reduceBEq, Option.map_some, Option.map_none, List.map_cons, List.map_nil, List.getD_cons_zero, List.getD_cons_succ, Bool.false_eq_true, ↓reduceIte, Nat.add_zero, List.append_nil, map_ren_pts]
        rw [hln, List.length_append, lnS_len]
        rfl
    · obtain rfl : k = N := by omega
      simp (disch := first | assumption | omega | rfl | simp only [hAt_app, hAt_app0, List.getElem?_cons_zero, List.getElem?_cons_succ]) only [↓RP, RG, FX, decide_eq_true, decide_eq_false, Bool.not_true, Bool.not_false, Option.map_some, List.map_cons, List.map_nil, List.getElem?_cons_zero, List.getElem?_cons_succ, ↓reduceIte, Nat.reduceEqDiff, reduceCtorEq, decide_eq_true_eq, decide_eq_false_iff_not, Option.map_none, Option.bind_some, List.contains_nil, List.contains_cons, Nat.reduceBEq, Bool.or_false, Bool.false_or, Bool.or_self, List.set_cons_zero, List.set_cons_succ, List.take_succ_cons, List.take_zero, List.drop_succ_cons, List.drop_zero, List.length_cons, List.length_nil, List.length_append, Nat.reduceAdd, Nat.reduceLeDiff, List.all_cons, List.all_nil, Bool.and_true, and_true, true_and, and_self, ne_eq, not_false_eq_true, List.cons_append, List.nil_append, List.append_nil, List.append_assoc, Nat.zero_add, Nat.add_zero, Int.toNat_natCast]
      rw [resVal_2 rfl]; simp (disch := first | assumption | omega | rfl | simp only [hAt_app, hAt_app0, List.getElem?_cons_zero, List.getElem?_cons_succ]) only [↓RP, RG, FX, decide_eq_true, decide_eq_false, Bool.not_true, Bool.not_false, Option.map_some, List.map_cons, List.map_nil, List.getElem?_cons_zero, List.getElem?_cons_succ, ↓reduceIte, Nat.reduceEqDiff, reduceCtorEq, decide_eq_true_eq, decide_eq_false_iff_not, Option.map_none, Option.bind_some, List.contains_nil, List.contains_cons, Nat.reduceBEq, Bool.or_false, Bool.false_or, Bool.or_self, List.set_cons_zero, List.set_cons_succ, List.take_succ_cons, List.take_zero, List.drop_succ_cons, List.drop_zero, List.length_cons, List.length_nil, List.length_append, Nat.reduceAdd, Nat.reduceLeDiff, List.all_cons, List.all_nil, Bool.and_true, and_true, true_and, and_self, ne_eq, not_false_eq_true, List.cons_append, List.nil_append, List.append_nil, List.append_assoc, Nat.zero_add, Nat.add_zero, Int.toNat_natCast, RS]
      first | done | rfl
end Go.Proofs.Ytlhikcamopiogaa
