/- Drafts turned in a frame; lists copied. -/
import Derived.Test.YtoliobpligbbjaaQ3
import Derived.Test.YtoliobpligbbjaaT2
import Derived.Test.YtoliobpligbbjaaK4
set_option linter.unusedSimpArgs false
set_option linter.unusedVariables false
set_option maxRecDepth 100000
namespace Go.Proofs.Ytoliobpligbbjaa
open Go Go.Proofs Go.AW

theorem ints_val (l : List Int) : ∀ x ∈ ints l, ∃ u, x = .val u := by intro x hx; simp [ints] at hx; obtain ⟨a, _, rfl⟩ := hx; exact ⟨_, rfl⟩
theorem bools_val (l : List Bool) : ∀ x ∈ bools l, ∃ u, x = .val u := by intro x hx; simp [bools] at hx; rcases hx with ⟨_, rfl⟩ | ⟨_, rfl⟩ <;> exact ⟨_, rfl⟩

theorem clone_s (l : List Int) (h0 : List AObj) (hp : 0 < l.length) (hl : l.length ≤ 1000000000000) : SpecTo Try.prog 38 [LA false l] h0 (.ref h0.length 0 l.length l.length) (h0 ++ [⟨3, 1, ints l⟩]) := by
  have hp' : 0 < (ints l).length := by rw [ints_length]; exact hp
  refine SpecTo.intro (effS [] false) follows Try.func38 rfl rfl (by kernel_rfl) (Nat.le_of_ble_eq_true rfl) ?_
  simp (disch := first | assumption | omega | rfl | simp only [hAt_app, hAt_app0, List.getElem?_cons_zero, List.getElem?_cons_succ]) only [↓RP, RG, FX, decide_eq_true, decide_eq_false, Bool.not_true, Bool.not_false, Option.map_some, List.map_cons, List.map_nil, List.getElem?_cons_zero, List.getElem?_cons_succ, ↓reduceIte, Nat.reduceEqDiff, reduceCtorEq, decide_eq_true_eq, decide_eq_false_iff_not, Option.map_none, Option.bind_some, List.contains_nil, List.contains_cons, Nat.reduceBEq, Bool.or_false, Bool.false_or, Bool.or_self, List.set_cons_zero, List.set_cons_succ, List.take_succ_cons, List.take_zero, List.drop_succ_cons, List.drop_zero, List.length_cons, List.length_nil, List.length_append, Nat.reduceAdd, Nat.reduceLeDiff, List.all_cons, List.all_nil, Bool.and_true, and_true, true_and, and_self, ne_eq, not_false_eq_true, List.cons_append, List.nil_append, List.append_nil, List.append_assoc, Nat.zero_add, Nat.add_zero, Int.toNat_natCast, args0_1, copy_ints, gw_pos hp', go_pos hp', ints_length]
  refine ⟨_, by rw [resVal_1 rfl]; simp (disch := first | assumption | omega | rfl | simp only [hAt_app, hAt_app0, List.getElem?_cons_zero, List.getElem?_cons_succ]) only [↓RP, RG, FX, decide_eq_true, decide_eq_false, Bool.not_true, Bool.not_false, Option.map_some, List.map_cons, List.map_nil, List.getElem?_cons_zero, List.getElem?_cons_succ, ↓reduceIte, Nat.reduceEqDiff, reduceCtorEq, decide_eq_true_eq, decide_eq_false_iff_not, Option.map_none, Option.bind_some, List.contains_nil, List.contains_cons, Nat.reduceBEq, Bool.or_false, Bool.false_or, Bool.or_self, List.set_cons_zero, List.set_cons_succ, List.take_succ_cons, List.take_zero, List.drop_succ_cons, List.drop_zero, List.length_cons, List.length_nil, List.length_append, Nat.reduceAdd, Nat.reduceLeDiff, List.all_cons, List.all_nil, Bool.and_true, and_true, true_and, and_self, ne_eq, not_false_eq_true, List.cons_append, List.nil_append, List.append_nil, List.append_assoc, Nat.zero_add, Nat.add_zero, Int.toNat_natCast, raX_tmp, raX_cell, rvX_0, rvX_1, rvX_2, rvX_3, rvX_4, rvX_5]; rfl, (Wk.drop 8 [0] (by simp) (by decide) (by simp) (same_refl)).trans (Wk.of_eq (by simp (disch := omega) only [RK, List.idxOf?_cons, List.idxOf?_nil, Nat.reduceBEq, Option.map_some, Option.map_none, List.map_cons, List.map_nil, List.getD_cons_zero, List.getD_cons_succ, Bool.false_eq_true, ↓reduceIte, Nat.add_zero, List.append_nil]))⟩

theorem turnP_s (h0 : List AObj) {S T : Nat} {th td : List Int} (b3 : Bool) {l : List Bool} (hd : dOk S T th td T S l.length) :
    SpecTo Try.prog 16 [DA S T false th false td T S b3 l] h0 (.tuple [.agg [I T, I S, .ref h0.length 0 td.length td.length, .ref (h0.length + 1) 0 th.length th.length, I S, I T, BR false (tabN S (uT T l) (S * T))], I 0]) (h0 ++ [⟨3, 1, ints td⟩, ⟨3, 1, ints th⟩]) := by
  have e1 := hd.2.2.1
  have e2 := hd.2.2.2.1
  have p1 := hd.2.2.2.2.1.1
  have p2 := hd.2.2.2.2.2.1.1
  obtain ⟨g1, g2, g3, g4, g5⟩ := hd.2.2.2.2.2.2.1
  have hn : l.length = T * S := by rw [← Int.natCast_mul] at g5; omega
  have d0 : (h0.length == h0.length + 1) = false := by simp
  have d2 : (h0.length + 2 == h0.length + 1) = false := by simp
  refine SpecTo.intro (effS [38] false [] [] [1, 26, 5] (fun i => i == h0.length + 1) [] [38]) follows Try.func16 rfl rfl (by kernel_rfl) (Nat.le_of_ble_eq_true rfl) ?_
  simp (disch := first | assumption | omega | rfl | simp only [hAt_app, hAt_app0, List.getElem?_cons_zero, List.getElem?_cons_succ]) only [↓RP, RG, FX, decide_eq_true, decide_eq_false, Bool.not_true, Bool.not_false, Option.map_some, List.map_cons, List.map_nil, List.getElem?_cons_zero, List.getElem?_cons_succ, ↓reduceIte, Nat.reduceEqDiff, reduceCtorEq, decide_eq_true_eq, decide_eq_false_iff_not, Option.map_none, Option.bind_some, List.contains_nil, List.contains_cons, Nat.reduceBEq, Bool.or_false, Bool.false_or, Bool.or_self, List.set_cons_zero, List.set_cons_succ, List.take_succ_cons, List.take_zero, List.drop_succ_cons, List.drop_zero, List.length_cons, List.length_nil, List.length_append, Nat.reduceAdd, Nat.reduceLeDiff, List.all_cons, List.all_nil, Bool.and_true, and_true, true_and, and_self, ne_eq, not_false_eq_true, List.cons_append, List.nil_append, List.append_nil, List.append_assoc, Nat.zero_add, Nat.add_zero, Int.toNat_natCast, args0_1]
  refine callK_F 6 (dcheckP_c S T false th false td T S b3 l (by omega) (by omega)) (by simp (disch := first | assumption | omega | rfl | simp only [hAt_app, hAt_app0, List.getElem?_cons_zero, List.getElem?_cons_succ]) only [↓RP, RG, FX, decide_eq_true, decide_eq_false, Bool.not_true, Bool.not_false, Option.map_some, List.map_cons, List.map_nil, List.getElem?_cons_zero, List.getElem?_cons_succ, ↓reduceIte, Nat.reduceEqDiff, reduceCtorEq, decide_eq_true_eq, decide_eq_false_iff_not, Option.map_none, Option.bind_some, List.contains_nil, List.contains_cons, Nat.reduceBEq, Bool.or_false, Bool.false_or, Bool.or_self, List.set_cons_zero, List.set_cons_succ, List.take_succ_cons, List.take_zero, List.drop_succ_cons, List.drop_zero, List.length_cons, List.length_nil, List.length_append, Nat.reduceAdd, Nat.reduceLeDiff, List.all_cons, List.all_nil, Bool.and_true, and_true, true_and, and_self, ne_eq, not_false_eq_true, List.cons_append, List.nil_append, List.append_nil, List.append_assoc, Nat.zero_add, Nat.add_zero, Int.toNat_natCast, RA] <;> rfl) (.inl (by simp [allFresh, ints_fresh, bools_fresh])) ?_
  simp (disch := first | assumption | omega | rfl | simp only [hAt_app, hAt_app0, List.getElem?_cons_zero, List.getElem?_cons_succ]) only [↓RP, RG, FX, decide_eq_true, decide_eq_false, Bool.not_true, Bool.not_false, Option.map_some, List.map_cons, List.map_nil, List.getElem?_cons_zero, List.getElem?_cons_succ, ↓reduceIte, Nat.reduceEqDiff, reduceCtorEq, decide_eq_true_eq, decide_eq_false_iff_not, Option.map_none, Option.bind_some, List.contains_nil, List.contains_cons, Nat.reduceBEq, Bool.or_false, Bool.false_or, Bool.or_self, List.set_cons_zero, List.set_cons_succ, List.take_succ_cons, List.take_zero, List.drop_succ_cons, List.drop_zero, List.length_cons, List.length_nil, List.length_append, Nat.reduceAdd, Nat.reduceLeDiff, List.all_cons, List.all_nil, Bool.and_true, and_true, true_and, and_self, ne_eq, not_false_eq_true, List.cons_append, List.nil_append, List.append_nil, List.append_assoc, Nat.zero_add, Nat.add_zero, Int.toNat_natCast, dchk_ok hd]
  refine callK_F 6 (gturnP_c (W := T) (H := S) (by omega) (by omega) (by omega) (by omega) b3 hn) (by simp (disch := first | assumption | omega | rfl | simp only [hAt_app, hAt_app0, List.getElem?_cons_zero, List.getElem?_cons_succ]) only [↓RP, RG, FX, decide_eq_true, decide_eq_false, Bool.not_true, Bool.not_false, Option.map_some, List.map_cons, List.map_nil, List.getElem?_cons_zero, List.getElem?_cons_succ, ↓reduceIte, Nat.reduceEqDiff, reduceCtorEq, decide_eq_true_eq, decide_eq_false_iff_not, Option.map_none, Option.bind_some, List.contains_nil, List.contains_cons, Nat.reduceBEq, Bool.or_false, Bool.false_or, Bool.or_self, List.set_cons_zero, List.set_cons_succ, List.take_succ_cons, List.take_zero, List.drop_succ_cons, List.drop_zero, List.length_cons, List.length_nil, List.length_append, Nat.reduceAdd, Nat.reduceLeDiff, List.all_cons, List.all_nil, Bool.and_true, and_true, true_and, and_self, ne_eq, not_false_eq_true, List.cons_append, List.nil_append, List.append_nil, List.append_assoc, Nat.zero_add, Nat.add_zero, Int.toNat_natCast, RA] <;> rfl) (.inl (by simp [allFresh, ints_fresh, bools_fresh])) ?_
  simp (disch := first | assumption | omega | rfl | simp only [hAt_app, hAt_app0, List.getElem?_cons_zero, List.getElem?_cons_succ]) only [↓RP, RG, FX, decide_eq_true, decide_eq_false, Bool.not_true, Bool.not_false, Option.map_some, List.map_cons, List.map_nil, List.getElem?_cons_zero, List.getElem?_cons_succ, ↓reduceIte, Nat.reduceEqDiff, reduceCtorEq, decide_eq_true_eq, decide_eq_false_iff_not, Option.map_none, Option.bind_some, List.contains_nil, List.contains_cons, Nat.reduceBEq, Bool.or_false, Bool.false_or, Bool.or_self, List.set_cons_zero, List.set_cons_succ, List.take_succ_cons, List.take_zero, List.drop_succ_cons, List.drop_zero, List.length_cons, List.length_nil, List.length_append, Nat.reduceAdd, Nat.reduceLeDiff, List.all_cons, List.all_nil, Bool.and_true, and_true, true_and, and_self, ne_eq, not_false_eq_true, List.cons_append, List.nil_append, List.append_nil, List.append_assoc, Nat.zero_add, Nat.add_zero, Int.toNat_natCast, d0, d2, beq_self_eq_true]
  refine callK_M (fun k => .ref k 0 td.length td.length) (.ref 0 _ _) rfl rfl (fun h2 => clone_s td h2 (by omega) (by omega)) ?_ (by simp) (ints_val td)
  simp (disch := first | assumption | omega | rfl | simp only [hAt_app, hAt_app0, List.getElem?_cons_zero, List.getElem?_cons_succ]) only [↓RP, RG, FX, decide_eq_true, decide_eq_false, Bool.not_true, Bool.not_false, Option.map_some, List.map_cons, List.map_nil, List.getElem?_cons_zero, List.getElem?_cons_succ, ↓reduceIte, Nat.reduceEqDiff, reduceCtorEq, decide_eq_true_eq, decide_eq_false_iff_not, Option.map_none, Option.bind_some, List.contains_nil, List.contains_cons, Nat.reduceBEq, Bool.or_false, Bool.false_or, Bool.or_self, List.set_cons_zero, List.set_cons_succ, List.take_succ_cons, List.take_zero, List.drop_succ_cons, List.drop_zero, List.length_cons, List.length_nil, List.length_append, Nat.reduceAdd, Nat.reduceLeDiff, List.all_cons, List.all_nil, Bool.and_true, and_true, true_and, and_self, ne_eq, not_false_eq_true, List.cons_append, List.nil_append, List.append_nil, List.append_assoc, Nat.zero_add, Nat.add_zero, Int.toNat_natCast, d0, d2, beq_self_eq_true]
  refine callK_M (fun k => .ref k 0 th.length th.length) (.ref 0 _ _) rfl rfl (fun h2 => clone_s th h2 (by omega) (by omega)) ?_ (by simp) (ints_val th)
  simp (disch := first | assumption | omega | rfl | simp only [hAt_app, hAt_app0, List.getElem?_cons_zero, List.getElem?_cons_succ]) only [↓RP, RG, FX, decide_eq_true, decide_eq_false, Bool.not_true, Bool.not_false, Option.map_some, List.map_cons, List.map_nil, List.getElem?_cons_zero, List.getElem?_cons_succ, ↓reduceIte, Nat.reduceEqDiff, reduceCtorEq, decide_eq_true_eq, decide_eq_false_iff_not, Option.map_none, Option.bind_some, List.contains_nil, List.contains_cons, Nat.reduceBEq, Bool.or_false, Bool.false_or, Bool.or_self, List.set_cons_zero, List.set_cons_succ, List.take_succ_cons, List.take_zero, List.drop_succ_cons, List.drop_zero, List.length_cons, List.length_nil, List.length_append, Nat.reduceAdd, Nat.reduceLeDiff, List.all_cons, List.all_nil, Bool.and_true, and_true, true_and, and_self, ne_eq, not_false_eq_true, List.cons_append, List.nil_append, List.append_nil, List.append_assoc, Nat.zero_add, Nat.add_zero, Int.toNat_natCast, d0, d2, beq_self_eq_true]
  refine ⟨_, by rw [resVal_2 rfl]; simp (disch := first | assumption | omega | rfl | simp only [hAt_app, hAt_app0, List.getElem?_cons_zero, List.getElem?_cons_succ]) only [↓RP, RG, FX, decide_eq_true, decide_eq_false, Bool.not_true, Bool.not_false, Option.map_some, List.map_cons, List.map_nil, List.getElem?_cons_zero, List.getElem?_cons_succ, ↓reduceIte, Nat.reduceEqDiff, reduceCtorEq, decide_eq_true_eq, decide_eq_false_iff_not, Option.map_none, Option.bind_some, List.contains_nil, List.contains_cons, Nat.reduceBEq, Bool.or_false, Bool.false_or, Bool.or_self, List.set_cons_zero, List.set_cons_succ, List.take_succ_cons, List.take_zero, List.drop_succ_cons, List.drop_zero, List.length_cons, List.length_nil, List.length_append, Nat.reduceAdd, Nat.reduceLeDiff, List.all_cons, List.all_nil, Bool.and_true, and_true, true_and, and_self, ne_eq, not_false_eq_true, List.cons_append, List.nil_append, List.append_nil, List.append_assoc, Nat.zero_add, Nat.add_zero, Int.toNat_natCast, raX_tmp, raX_cell, rvX_0, rvX_1, rvX_2, rvX_3, rvX_4, rvX_5]; rfl, (Wk.drop 8 [3, 4] (by simp) (by decide) (by simp) (same_refl)).trans (Wk.of_eq (by simp (disch := omega) only [RK, List.idxOf?_cons, List.idxOf?_nil, Nat.reduceBEq, Option.map_some, Option.map_none, List.map_cons, List.map_nil, List.getD_cons_zero, List.getD_cons_succ, Bool.false_eq_true, ↓reduceIte, Nat.add_zero, List.append_nil]))⟩

/-- What is kept of a list below n is what it uses. -/
theorem keptL_mem (l : List Int) (n : Nat) (x : Int) : x ∈ keptL l n ↔ ∃ k : Nat, k < n ∧ x = k ∧ has l k := by
  induction n with
  | zero => simp [keptL]
  | succ n ih =>
    simp only [keptL]
    split
    · rename_i h
      rw [List.mem_append, ih]
      constructor
      · rintro (⟨k, h1, h2, h3⟩ | h1)
        · exact ⟨k, by omega, h2, h3⟩
        · simp at h1; exact ⟨n, by omega, h1, h⟩
      · rintro ⟨k, h1, h2, h3⟩
        by_cases hk : k = n
        · subst hk; right; simp [h2]
        · left; exact ⟨k, by omega, h2, h3⟩
    · rename_i h
      rw [ih]
      constructor
      · rintro ⟨k, h1, h2, h3⟩; exact ⟨k, by omega, h2, h3⟩
      · rintro ⟨k, h1, h2, h3⟩
        by_cases hk : k = n
        · subst hk; exact absurd h3 h
        · exact ⟨k, by omega, h2, h3⟩
theorem keptL_inc (l : List Int) (n : Nat) : (keptL l n).Pairwise (· < ·) := by
  induction n with
  | zero => exact List.Pairwise.nil
  | succ n ih =>
    simp only [keptL]
    split
    · rw [List.pairwise_append]
      refine ⟨ih, List.pairwise_singleton _ _, fun a ha b hb => ?_⟩
      obtain ⟨k, h1, h2, _⟩ := (keptL_mem l n a).1 ha
      simp at hb
      omega
    · exact ih
theorem keptL_uniq {l : List Int} {n : Nat} (h : ∀ j, j < l.length → 0 ≤ l.getD j 0 ∧ l.getD j 0 < n) : keptL l n = uniq l := by
  refine sinc_ext _ _ (keptL_inc l n) (uniq_spec l).1 fun x => ?_
  rw [keptL_mem, (uniq_spec l).2]
  constructor
  · rintro ⟨k, _, rfl, i, hi, he⟩
    rw [← he, List.getD_eq_getElem?_getD, List.getElem?_eq_getElem hi]; exact List.getElem_mem hi
  · intro hx
    obtain ⟨i, hi, e⟩ := List.mem_iff_getElem.1 hx
    have h1 := h i hi
    have e2 : l.getD i 0 = x := by rw [List.getD_eq_getElem?_getD, List.getElem?_eq_getElem hi]; exact e
    rw [e2] at h1
    exact ⟨x.toNat, by omega, by omega, i, hi, by rw [e2]; omega⟩
end Go.Proofs.Ytoliobpligbbjaa
