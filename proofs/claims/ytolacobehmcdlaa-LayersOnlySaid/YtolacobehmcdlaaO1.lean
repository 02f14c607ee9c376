/- The cloth of only some threads. -/
import Derived.Test.YtolacobehmcdlaaH1
set_option linter.unusedSimpArgs false
set_option linter.unusedVariables false
set_option maxRecDepth 100000
namespace Go.Proofs.Ytolacobehmcdlaa
open Go Go.Proofs Go.AW

/-- Ends and picks among the first k threads of a list. -/
def endsOf (w : Int) (s : List Int) : Nat → List Int
  | 0 => []
  | k + 1 => if s.getD k 0 < w then endsOf w s k ++ [s.getD k 0] else endsOf w s k
def picksOf (w : Int) (s : List Int) : Nat → List Int
  | 0 => []
  | k + 1 => if s.getD k 0 < w then picksOf w s k else picksOf w s k ++ [s.getD k 0 - w]
theorem endsOf_len (w : Int) (s : List Int) (k : Nat) : (endsOf w s k).length + (picksOf w s k).length = k := by
  induction k with
  | zero => rfl
  | succ k ih => simp only [endsOf, picksOf]; split <;> simp <;> omega
theorem endsOf_in {w n : Int} {s : List Int} {k : Nat} (h : ascTo n s k) : ∀ j, j < (endsOf w s k).length → 0 ≤ (endsOf w s k).getD j 0 ∧ (endsOf w s k).getD j 0 < w := by
  induction k with
  | zero => intro j hj; simp [endsOf] at hj
  | succ k ih =>
    have ih := ih (fun i hi => h i (by omega))
    intro j hj
    simp only [endsOf] at hj ⊢
    split at hj
    · rename_i hlt
      rw [if_pos hlt]
      by_cases hj2 : j < (endsOf w s k).length
      · simpa [List.getD_eq_getElem?_getD, List.getElem?_append_left hj2] using ih j hj2
      · obtain rfl : j = (endsOf w s k).length := by simp at hj; omega
        have := h k (by omega)
        simp [List.getD_eq_getElem?_getD] at this hlt ⊢
        omega
    · rename_i hlt
      rw [if_neg hlt]
      exact ih j hj
theorem picksOf_in {w n : Int} {s : List Int} {k : Nat} (h : ascTo n s k) : ∀ j, j < (picksOf w s k).length → 0 ≤ (picksOf w s k).getD j 0 ∧ (picksOf w s k).getD j 0 < n - w := by
  induction k with
  | zero => intro j hj; simp [picksOf] at hj
  | succ k ih =>
    have ih := ih (fun i hi => h i (by omega))
    intro j hj
    simp only [picksOf] at hj ⊢
    split at hj
    · rename_i hlt
      rw [if_pos hlt]
      exact ih j hj
    · rename_i hlt
      rw [if_neg hlt]
      by_cases hj2 : j < (picksOf w s k).length
      · simpa [List.getD_eq_getElem?_getD, List.getElem?_append_left hj2] using ih j hj2
      · obtain rfl : j = (picksOf w s k).length := by simp at hj; omega
        have := h k (by omega)
        simp [List.getD_eq_getElem?_getD] at this hlt ⊢
        omega

abbrev LayR (e p : List Int) : AVal := .agg [LR e.isEmpty e, LR p.isEmpty p]

theorem layer_c (w h : Int) (b : Bool) (l : List Bool) (b2 : Bool) (s : List Int) (h1 : 1 ≤ w) (h2 : w ≤ 64) (hs : ascTo 128 s s.length) (hl : s.length ≤ 1000000) : Contract Try.prog 11 [GA w h b l, LA b2 s] (LayR (endsOf w s s.length) (picksOf w s s.length)) := by
  refine Contract.intro (effS [] false) 6 follows Try.func11 rfl rfl (by kernel_rfl) (Nat.le_of_ble_eq_true rfl) ?_
  simp (disch := first | assumption | omega | rfl | simp only [hAt_app, hAt_app0, List.getElem?_cons_zero, List.getElem?_cons_succ]) only [↓RP, RG, FX, decide_eq_true, decide_eq_false, Bool.not_true, Bool.not_false, Option.map_some, List.map_cons, List.map_nil, List.getElem?_cons_zero, List.getElem?_cons_succ, ↓reduceIte, Nat.reduceEqDiff, reduceCtorEq, decide_eq_true_eq, decide_eq_false_iff_not, Option.map_none, Option.bind_some, List.contains_nil, List.contains_cons, Nat.reduceBEq, Bool.or_false, Bool.false_or, Bool.or_self, List.set_cons_zero, List.set_cons_succ, List.take_succ_cons, List.take_zero, List.drop_succ_cons, List.drop_zero, List.length_cons, List.length_nil, List.length_append, Nat.reduceAdd, Nat.reduceLeDiff, List.all_cons, List.all_nil, Bool.and_true, and_true, true_and, and_self, ne_eq, not_false_eq_true, List.cons_append, List.nil_append, List.append_nil, List.append_assoc, Nat.zero_add, Nat.add_zero, Int.toNat_natCast, args0_2]
  refine loopK_W [2, 4, 5, 8, 9, 10] (fun k : Nat => k ≤ s.length) (fun k : Nat => ⟨[(2, .ptr 0 0 3), (4, .ptr 1 0 2), (5, .ptr 2 0 2), (8, LA b2 s), (9, I s.length), (10, I k)], [⟨24, 3, [I w, I h, BA b l]⟩, ⟨37, 2, [.cap0 true, .cap0 true]⟩, ⟨37, 2, [gw true 3 (ints (endsOf w s k)), gw true 4 (ints (picksOf w s k))]⟩, go 3 (ints (endsOf w s k)), go 3 (ints (picksOf w s k))]⟩) (fun k => s.length - k) 0 (by omega) ?_ ?_
  · simp only [↓RP, RG, FX, decide_eq_true, decide_eq_false, Bool.not_true, Bool.not_false, Option.map_some, List.map_cons, List.map_nil, List.getElem?_cons_zero, List.getElem?_cons_succ, ↓reduceIte, Nat.reduceEqDiff, reduceCtorEq, decide_eq_true_eq, decide_eq_false_iff_not, Option.map_none, Option.bind_some, List.contains_nil, List.contains_cons, Nat.reduceBEq, Bool.or_false, Bool.false_or, Bool.or_self, List.set_cons_zero, List.set_cons_succ, List.take_succ_cons, List.take_zero, List.drop_succ_cons, List.drop_zero, List.length_cons, List.length_nil, List.length_append, Nat.reduceAdd, Nat.reduceLeDiff, List.all_cons, List.all_nil, Bool.and_true, and_true, true_and, and_self, ne_eq, not_false_eq_true, List.cons_append, List.nil_append, List.append_nil, List.append_assoc, Nat.zero_add, Nat.add_zero, Int.toNat_natCast]
    exact Wk.weak (fun t => .refl _) (.cons _ _ _ _ (WL.refl _) (.cons _ _ _ _ (WL.refl _) (.cons _ _ _ _ (.cons (.nil _) (.cons (.nil _) .nil)) (.nil _ (by simp [go, endsOf, picksOf, ints])))))
  intro k hk
  have hlen := endsOf_len w s k
  by_cases hlt : k < s.length
  · have hin := hs k hlt
    by_cases hw : s.getD k 0 < w
    · simp (disch := first | assumption | omega | rfl | simp only [hAt_app, hAt_app0, List.getElem?_cons_zero, List.getElem?_cons_succ]) only [↓RP, RG, FX, decide_eq_true, decide_eq_false, Bool.not_true, Bool.not_false, Option.map_some, List.map_cons, List.map_nil, List.getElem?_cons_zero, List.getElem?_cons_succ, ↓reduceIte, Nat.reduceEqDiff, reduceCtorEq, decide_eq_true_eq, decide_eq_false_iff_not, Option.map_none, Option.bind_some, List.contains_nil, List.contains_cons, Nat.reduceBEq, Bool.or_false, Bool.false_or, Bool.or_self, List.set_cons_zero, List.set_cons_succ, List.take_succ_cons, List.take_zero, List.drop_succ_cons, List.drop_zero, List.length_cons, List.length_nil, List.length_append, Nat.reduceAdd, Nat.reduceLeDiff, List.all_cons, List.all_nil, Bool.and_true, and_true, true_and, and_self, ne_eq, not_false_eq_true, List.cons_append, List.nil_append, List.append_nil, List.append_assoc, Nat.zero_add, Nat.add_zero, Int.toNat_natCast, append_int]
      exact ⟨k + 1, by omega, by rw [endsOf, picksOf, if_pos hw, if_pos hw]; rfl, by omega⟩
    · simp (disch := first | assumption | omega | rfl | simp only [hAt_app, hAt_app0, List.getElem?_cons_zero, List.getElem?_cons_succ]) only [↓RP, RG, FX, decide_eq_true, decide_eq_false, Bool.not_true, Bool.not_false, Option.map_some, List.map_cons, List.map_nil, List.getElem?_cons_zero, List.getElem?_cons_succ, ↓reduceIte, Nat.reduceEqDiff, reduceCtorEq, decide_eq_true_eq, decide_eq_false_iff_not, Option.map_none, Option.bind_some, List.contains_nil, List.contains_cons, Nat.reduceBEq, Bool.or_false, Bool.false_or, Bool.or_self, List.set_cons_zero, List.set_cons_succ, List.take_succ_cons, List.take_zero, List.drop_succ_cons, List.drop_zero, List.length_cons, List.length_nil, List.length_append, Nat.reduceAdd, Nat.reduceLeDiff, List.all_cons, List.all_nil, Bool.and_true, and_true, true_and, and_self, ne_eq, not_false_eq_true, List.cons_append, List.nil_append, List.append_nil, List.append_assoc, Nat.zero_add, Nat.add_zero, Int.toNat_natCast, append_int]
      exact ⟨k + 1, by omega, by rw [endsOf, picksOf, if_neg hw, if_neg hw]; rfl, by omega⟩
  · obtain rfl : k = s.length := by omega
    simp (disch := first | assumption | omega | rfl | simp only [hAt_app, hAt_app0, List.getElem?_cons_zero, List.getElem?_cons_succ]) only [↓RP, RG, FX, decide_eq_true, decide_eq_false, Bool.not_true, Bool.not_false, Option.map_some, List.map_cons, List.map_nil, List.getElem?_cons_zero, List.getElem?_cons_succ, ↓reduceIte, Nat.reduceEqDiff, reduceCtorEq, decide_eq_true_eq, decide_eq_false_iff_not, Option.map_none, Option.bind_some, List.contains_nil, List.contains_cons, Nat.reduceBEq, Bool.or_false, Bool.false_or, Bool.or_self, List.set_cons_zero, List.set_cons_succ, List.take_succ_cons, List.take_zero, List.drop_succ_cons, List.drop_zero, List.length_cons, List.length_nil, List.length_append, Nat.reduceAdd, Nat.reduceLeDiff, List.all_cons, List.all_nil, Bool.and_true, and_true, true_and, and_self, ne_eq, not_false_eq_true, List.cons_append, List.nil_append, List.append_nil, List.append_assoc, Nat.zero_add, Nat.add_zero, Int.toNat_natCast]
    rw [resVal_1 rfl]; simp (disch := first | assumption | omega | rfl | simp only [hAt_app, hAt_app0, List.getElem?_cons_zero, List.getElem?_cons_succ]) only [↓RP, RG, FX, decide_eq_true, decide_eq_false, Bool.not_true, Bool.not_false, Option.map_some, List.map_cons, List.map_nil, List.getElem?_cons_zero, List.getElem?_cons_succ, ↓reduceIte, Nat.reduceEqDiff, reduceCtorEq, decide_eq_true_eq, decide_eq_false_iff_not, Option.map_none, Option.bind_some, List.contains_nil, List.contains_cons, Nat.reduceBEq, Bool.or_false, Bool.false_or, Bool.or_self, List.set_cons_zero, List.set_cons_succ, List.take_succ_cons, List.take_zero, List.drop_succ_cons, List.drop_zero, List.length_cons, List.length_nil, List.length_append, Nat.reduceAdd, Nat.reduceLeDiff, List.all_cons, List.all_nil, Bool.and_true, and_true, true_and, and_self, ne_eq, not_false_eq_true, List.cons_append, List.nil_append, List.append_nil, List.append_assoc, Nat.zero_add, Nat.add_zero, Int.toNat_natCast, RS]
    simp only [Bool.true_and, ints_isEmpty]

theorem divided_c (w h : Int) (b : Bool) (l : List Bool) (b2 : Bool) (s : List Int) (h1 : 1 ≤ w) (h2 : w ≤ 64) (hs : ascTo 128 s s.length) (hl : s.length ≤ 1000000) : Contract Try.prog 13 [GA w h b l, LA b2 s] (LayR (endsOf w s s.length) (picksOf w s s.length)) := by
  refine Contract.intro (effS [] false) 6 follows Try.func13 rfl rfl (by kernel_rfl) (Nat.le_of_ble_eq_true rfl) ?_
  simp (disch := first | assumption | omega | rfl | simp only [hAt_app, hAt_app0, List.getElem?_cons_zero, List.getElem?_cons_succ]) only [↓RP, RG, FX, decide_eq_true, decide_eq_false, Bool.not_true, Bool.not_false, Option.map_some, List.map_cons, List.map_nil, List.getElem?_cons_zero, List.getElem?_cons_succ, ↓reduceIte, Nat.reduceEqDiff, reduceCtorEq, decide_eq_true_eq, decide_eq_false_iff_not, Option.map_none, Option.bind_some, List.contains_nil, List.contains_cons, Nat.reduceBEq, Bool.or_false, Bool.false_or, Bool.or_self, List.set_cons_zero, List.set_cons_succ, List.take_succ_cons, List.take_zero, List.drop_succ_cons, List.drop_zero, List.length_cons, List.length_nil, List.length_append, Nat.reduceAdd, Nat.reduceLeDiff, List.all_cons, List.all_nil, Bool.and_true, and_true, true_and, and_self, ne_eq, not_false_eq_true, List.cons_append, List.nil_append, List.append_nil, List.append_assoc, Nat.zero_add, Nat.add_zero, Int.toNat_natCast, args0_2]
  refine loopK_W [1, 2, 4, 5, 6] (fun k : Nat => k ≤ s.length) (fun k : Nat => ⟨[(1, LA b2 s), (2, .ptr 0 0 3), (4, .ptr 1 0 2), (5, .ptr 2 0 2), (6, I k)], [⟨24, 3, [I w, I h, BA b l]⟩, ⟨37, 2, [.cap0 true, .cap0 true]⟩, ⟨37, 2, [gw true 3 (ints (endsOf w s k)), gw true 4 (ints (picksOf w s k))]⟩, go 3 (ints (endsOf w s k)), go 3 (ints (picksOf w s k))]⟩) (fun k => s.length - k) 0 (by omega) ?_ ?_
  · simp only [↓RP, RG, FX, decide_eq_true, decide_eq_false, Bool.not_true, Bool.not_false, Option.map_some, List.map_cons, List.map_nil, List.getElem?_cons_zero, List.getElem?_cons_succ, ↓reduceIte, Nat.reduceEqDiff, reduceCtorEq, decide_eq_true_eq, decide_eq_false_iff_not, Option.map_none, Option.bind_some, List.contains_nil, List.contains_cons, Nat.reduceBEq, Bool.or_false, Bool.false_or, Bool.or_self, List.set_cons_zero, List.set_cons_succ, List.take_succ_cons, List.take_zero, List.drop_succ_cons, List.drop_zero, List.length_cons, List.length_nil, List.length_append, Nat.reduceAdd, Nat.reduceLeDiff, List.all_cons, List.all_nil, Bool.and_true, and_true, true_and, and_self, ne_eq, not_false_eq_true, List.cons_append, List.nil_append, List.append_nil, List.append_assoc, Nat.zero_add, Nat.add_zero, Int.toNat_natCast]
    exact Wk.weak (fun t => .refl _) (.cons _ _ _ _ (WL.refl _) (.cons _ _ _ _ (WL.refl _) (.cons _ _ _ _ (.cons (.nil _) (.cons (.nil _) .nil)) (.nil _ (by simp [go, endsOf, picksOf, ints])))))
  intro k hk
  have hlen := endsOf_len w s k
  by_cases hlt : k < s.length
  · have hin := hs k hlt
    by_cases hw : s.getD k 0 < w
    · simp (disch := first | assumption | omega | rfl | simp only [hAt_app, hAt_app0, List.getElem?_cons_zero, List.getElem?_cons_succ]) only [↓RP, RG, FX, decide_eq_true, decide_eq_false, Bool.not_true, Bool.not_false, Option.map_some, List.map_cons, List.map_nil, List.getElem?_cons_zero, List.getElem?_cons_succ, ↓reduceIte, Nat.reduceEqDiff, reduceCtorEq, decide_eq_true_eq, decide_eq_false_iff_not, Option.map_none, Option.bind_some, List.contains_nil, List.contains_cons, Nat.reduceBEq, Bool.or_false, Bool.false_or, Bool.or_self, List.set_cons_zero, List.set_cons_succ, List.take_succ_cons, List.take_zero, List.drop_succ_cons, List.drop_zero, List.length_cons, List.length_nil, List.length_append, Nat.reduceAdd, Nat.reduceLeDiff, List.all_cons, List.all_nil, Bool.and_true, and_true, true_and, and_self, ne_eq, not_false_eq_true, List.cons_append, List.nil_append, List.append_nil, List.append_assoc, Nat.zero_add, Nat.add_zero, Int.toNat_natCast, append_int]
      exact ⟨k + 1, by omega, by rw [endsOf, picksOf, if_pos hw, if_pos hw]; rfl, by omega⟩
    · simp (disch := first | assumption | omega | rfl | simp only [hAt_app, hAt_app0, List.getElem?_cons_zero, List.getElem?_cons_succ]) only [↓RP, RG, FX, decide_eq_true, decide_eq_false, Bool.not_true, Bool.not_false, Option.map_some, List.map_cons, List.map_nil, List.getElem?_cons_zero, List.getElem?_cons_succ, ↓reduceIte, Nat.reduceEqDiff, reduceCtorEq, decide_eq_true_eq, decide_eq_false_iff_not, Option.map_none, Option.bind_some, List.contains_nil, List.contains_cons, Nat.reduceBEq, Bool.or_false, Bool.false_or, Bool.or_self, List.set_cons_zero, List.set_cons_succ, List.take_succ_cons, List.take_zero, List.drop_succ_cons, List.drop_zero, List.length_cons, List.length_nil, List.length_append, Nat.reduceAdd, Nat.reduceLeDiff, List.all_cons, List.all_nil, Bool.and_true, and_true, true_and, and_self, ne_eq, not_false_eq_true, List.cons_append, List.nil_append, List.append_nil, List.append_assoc, Nat.zero_add, Nat.add_zero, Int.toNat_natCast, append_int]
      exact ⟨k + 1, by omega, by rw [endsOf, picksOf, if_neg hw, if_neg hw]; rfl, by omega⟩
  · obtain rfl : k = s.length := by omega
    simp (disch := first | assumption | omega | rfl | simp only [hAt_app, hAt_app0, List.getElem?_cons_zero, List.getElem?_cons_succ]) only [↓RP, RG, FX, decide_eq_true, decide_eq_false, Bool.not_true, Bool.not_false, Option.map_some, List.map_cons, List.map_nil, List.getElem?_cons_zero, List.getElem?_cons_succ, ↓reduceIte, Nat.reduceEqDiff, reduceCtorEq, decide_eq_true_eq, decide_eq_false_iff_not, Option.map_none, Option.bind_some, List.contains_nil, List.contains_cons, Nat.reduceBEq, Bool.or_false, Bool.false_or, Bool.or_self, List.set_cons_zero, List.set_cons_succ, List.take_succ_cons, List.take_zero, List.drop_succ_cons, List.drop_zero, List.length_cons, List.length_nil, List.length_append, Nat.reduceAdd, Nat.reduceLeDiff, List.all_cons, List.all_nil, Bool.and_true, and_true, true_and, and_self, ne_eq, not_false_eq_true, List.cons_append, List.nil_append, List.append_nil, List.append_assoc, Nat.zero_add, Nat.add_zero, Int.toNat_natCast]
    rw [resVal_1 rfl]; simp (disch := first | assumption | omega | rfl | simp only [hAt_app, hAt_app0, List.getElem?_cons_zero, List.getElem?_cons_succ]) only [↓RP, RG, FX, decide_eq_true, decide_eq_false, Bool.not_true, Bool.not_false, Option.map_some, List.map_cons, List.map_nil, List.getElem?_cons_zero, List.getElem?_cons_succ, ↓reduceIte, Nat.reduceEqDiff, reduceCtorEq, decide_eq_true_eq, decide_eq_false_iff_not, Option.map_none, Option.bind_some, List.contains_nil, List.contains_cons, Nat.reduceBEq, Bool.or_false, Bool.false_or, Bool.or_self, List.set_cons_zero, List.set_cons_succ, List.take_succ_cons, List.take_zero, List.drop_succ_cons, List.drop_zero, List.length_cons, List.length_nil, List.length_append, Nat.reduceAdd, Nat.reduceLeDiff, List.all_cons, List.all_nil, Bool.and_true, and_true, true_and, and_self, ne_eq, not_false_eq_true, List.cons_append, List.nil_append, List.append_nil, List.append_assoc, Nat.zero_add, Nat.add_zero, Int.toNat_natCast, RS]
    simp only [Bool.true_and, ints_isEmpty]
end Go.Proofs.Ytolacobehmcdlaa
