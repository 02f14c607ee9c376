/- A number, repeated; the inverse of a numbering. -/
import Derived.Test.YtefhmecaoefpbaaD3
import Derived.Test.YtefhmecaoefpbaaK4
import Derived.Test.YtefhmecaoefpbaaA1
import Derived.Test.YtefhmecaoefpbaaBw3
set_option linter.unusedSimpArgs false
set_option linter.unusedVariables false
set_option maxRecDepth 100000
namespace Go.Proofs.Ytefhmecaoefpbaa
open Go Go.Proofs Go.AW

/-- k times -1, and 0 behind. -/
def rep (n k : Nat) : List Int := List.replicate k (-1) ++ List.replicate (n - k) 0
theorem rep_len {n k : Nat} (hk : k ≤ n) : (rep n k).length = n := by simp [rep]; omega
theorem rep_more {n k : Nat} (hk : 0 < k) (hn : k < n) : over (rep n k) k ((rep n k).take (Nat.min k (n - k))) = rep n (k + Nat.min k (n - k)) := by
  have hm : Nat.min k (n - k) ≤ k := Nat.min_le_left _ _
  have hm2 : Nat.min k (n - k) ≤ n - k := Nat.min_le_right _ _
  generalize Nat.min k (n - k) = m at *
  have e1 : (rep n k).take m = List.replicate m (-1) := by
    rw [rep, List.take_append_of_le_length (by simp; omega), List.take_replicate, Nat.min_eq_left hm]
  have e2 : (rep n k).take k = List.replicate k (-1) := by rw [rep, List.take_left' (by simp)]
  have e3 : (rep n k).drop (k + m) = List.replicate (n - (k + m)) 0 := by
    rw [rep, List.drop_append, List.drop_eq_nil_of_le (by simp), List.nil_append, List.drop_replicate]
    congr 1
    simp; omega
  rw [over, e1, e2, List.length_replicate, e3, rep, List.replicate_append_replicate]

theorem ki3 : ∃ T, tyI Try.prog 3 = some T ∧ T.kind = some .i64 := by
  have h : (tyI Try.prog 3).any (fun T => T.kind == some .i64) = true := by kernel_rfl
  revert h
  cases tyI Try.prog 3 with
  | none => intro h; cases h
  | some T => intro h; exact ⟨T, rfl, by simpa using h⟩
theorem ki99 : ∃ T, tyI Try.prog 74 = some T ∧ T.kind = some .u64 := by
  have h : (tyI Try.prog 74).any (fun T => T.kind == some .u64) = true := by kernel_rfl
  revert h
  cases tyI Try.prog 74 with
  | none => intro h; cases h
  | some T => intro h; exact ⟨T, rfl, by simpa using h⟩
theorem wrap_u64 {n : Int} (h1 : 0 ≤ n) (h2 : n ≤ 9223372036854775807) : IntKind.u64.wrap n = n := by
  have e1 : IntKind.u64.bits = 64 := rfl
  have e2 : IntKind.u64.signed = false := rfl
  simp only [IntKind.wrap, e1, e2]
  simp
  omega

theorem repeat_s (h0 : List AObj) {n : Nat} (hn0 : 0 < n) (hn : n ≤ 40) : SpecTo Try.prog 50 [.lit 1 [I (-1)], I n] h0 (.ref h0.length 0 n n) (h0 ++ [⟨3, 1, ints (List.replicate n (-1))⟩]) := by
  obtain ⟨T3, hT3, hk3⟩ := ki3
  obtain ⟨T9, hT9, hk9⟩ := ki99
  refine SpecTo.intro (effS [] false) follows Try.func50 rfl rfl (by kernel_rfl) (Nat.le_of_ble_eq_true rfl) ?_
  simp (disch := first | assumption | omega | rfl | simp only [hAt_app, hAt_app0, List.getElem?_cons_zero, List.getElem?_cons_succ]) only [↓RP, RG, FX, decide_eq_true, decide_eq_false, Bool.not_true, Bool.not_false, Option.map_some, List.map_cons, List.map_nil, List.getElem?_cons_zero, List.getElem?_cons_succ, ↓reduceIte, Nat.reduceEqDiff, reduceCtorEq, decide_eq_true_eq, decide_eq_false_iff_not, Option.map_none, Option.bind_some, List.contains_nil, List.contains_cons, Nat.reduceBEq, Bool.or_false, Bool.false_or, Bool.or_self, List.set_cons_zero, List.set_cons_succ, List.take_succ_cons, List.take_zero, List.drop_succ_cons, List.drop_zero, List.length_cons, List.length_nil, List.length_append, Nat.reduceAdd, Nat.reduceLeDiff, List.all_cons, List.all_nil, Bool.and_true, and_true, true_and, and_self, ne_eq, not_false_eq_true, List.cons_append, List.nil_append, List.append_nil, List.append_assoc, Nat.zero_add, Nat.add_zero, Int.toNat_natCast, args0_2, hT3, hT9, hk3, hk9, wrap_u64, wrap_id]
  refine callK_F 6 (mul_c (n := n) (by omega)) (by simp (disch := first | assumption | omega | rfl | simp only [hAt_app, hAt_app0, List.getElem?_cons_zero, List.getElem?_cons_succ]) only [↓RP, RG, FX, decide_eq_true, decide_eq_false, Bool.not_true, Bool.not_false, Option.map_some, List.map_cons, List.map_nil, List.getElem?_cons_zero, List.getElem?_cons_succ, ↓reduceIte, Nat.reduceEqDiff, reduceCtorEq, decide_eq_true_eq, decide_eq_false_iff_not, Option.map_none, Option.bind_some, List.contains_nil, List.contains_cons, Nat.reduceBEq, Bool.or_false, Bool.false_or, Bool.or_self, List.set_cons_zero, List.set_cons_succ, List.take_succ_cons, List.take_zero, List.drop_succ_cons, List.drop_zero, List.length_cons, List.length_nil, List.length_append, Nat.reduceAdd, Nat.reduceLeDiff, List.all_cons, List.all_nil, Bool.and_true, and_true, true_and, and_self, ne_eq, not_false_eq_true, List.cons_append, List.nil_append, List.append_nil, List.append_assoc, Nat.zero_add, Nat.add_zero, Int.toNat_natCast, RA] <;> rfl) (.inl (by simp [allFresh, ints_fresh, bools_fresh])) ?_
  simp (disch := first | assumption | omega | rfl | simp only [hAt_app, hAt_app0, List.getElem?_cons_zero, List.getElem?_cons_succ]) only [↓RP, RG, FX, decide_eq_true, decide_eq_false, Bool.not_true, Bool.not_false, Option.map_some, List.map_cons, List.map_nil, List.getElem?_cons_zero, List.getElem?_cons_succ, ↓reduceIte, Nat.reduceEqDiff, reduceCtorEq, decide_eq_true_eq, decide_eq_false_iff_not, Option.map_none, Option.bind_some, List.contains_nil, List.contains_cons, Nat.reduceBEq, Bool.or_false, Bool.false_or, Bool.or_self, List.set_cons_zero, List.set_cons_succ, List.take_succ_cons, List.take_zero, List.drop_succ_cons, List.drop_zero, List.length_cons, List.length_nil, List.length_append, Nat.reduceAdd, Nat.reduceLeDiff, List.all_cons, List.all_nil, Bool.and_true, and_true, true_and, and_self, ne_eq, not_false_eq_true, List.cons_append, List.nil_append, List.append_nil, List.append_assoc, Nat.zero_add, Nat.add_zero, Int.toNat_natCast, hT3, hT9, hk3, hk9, wrap_u64, wrap_id]
  simp (disch := first | assumption | omega | rfl | simp only [hAt_app, hAt_app0, List.getElem?_cons_zero, List.getElem?_cons_succ]) only [↓RP, RG, FX, decide_eq_true, decide_eq_false, Bool.not_true, Bool.not_false, Option.map_some, List.map_cons, List.map_nil, List.getElem?_cons_zero, List.getElem?_cons_succ, ↓reduceIte, Nat.reduceEqDiff, reduceCtorEq, decide_eq_true_eq, decide_eq_false_iff_not, Option.map_none, Option.bind_some, List.contains_nil, List.contains_cons, Nat.reduceBEq, Bool.or_false, Bool.false_or, Bool.or_self, List.set_cons_zero, List.set_cons_succ, List.take_succ_cons, List.take_zero, List.drop_succ_cons, List.drop_zero, List.length_cons, List.length_nil, List.length_append, Nat.reduceAdd, Nat.reduceLeDiff, List.all_cons, List.all_nil, Bool.and_true, and_true, true_and, and_self, ne_eq, not_false_eq_true, List.cons_append, List.nil_append, List.append_nil, List.append_assoc, Nat.zero_add, Nat.add_zero, Int.toNat_natCast, make_int, Int.toNat_natCast]
  have hc : ∀ h : List AObj, h[h0.length]? = some ⟨3, 1, ints (List.replicate n 0)⟩ → aCopy Try.prog 25 h (.ref h0.length 0 n n) (.lit 1 [I (-1)]) = some (I 1, h.set h0.length ⟨3, 1, ints (rep n 1)⟩) := by
    intro h hh
    have e1 : Nat.min 1 n = 1 := by have := Nat.min_eq_left (show 1 ≤ n by omega); exact this
    have := copy_ints_at (P := Try.prog) (t := 25) (h := h) (off := 0) (n := n) (ext := n) (m := 1) (x := .lit 1 [I (-1)]) (l := [-1]) hh (by decide) (by simp) rfl (by simp) (by rw [e1]; decide) (by rw [e1]; omega)
    rw [this, e1]
    simp [over, rep, List.drop_replicate]
  simp (disch := simp) only [↓RP, RG, FX, decide_eq_true, decide_eq_false, Bool.not_true, Bool.not_false, Option.map_some, List.map_cons, List.map_nil, List.getElem?_cons_zero, List.getElem?_cons_succ, ↓reduceIte, Nat.reduceEqDiff, reduceCtorEq, decide_eq_true_eq, decide_eq_false_iff_not, Option.map_none, Option.bind_some, List.contains_nil, List.contains_cons, Nat.reduceBEq, Bool.or_false, Bool.false_or, Bool.or_self, List.set_cons_zero, List.set_cons_succ, List.take_succ_cons, List.take_zero, List.drop_succ_cons, List.drop_zero, List.length_cons, List.length_nil, List.length_append, Nat.reduceAdd, Nat.reduceLeDiff, List.all_cons, List.all_nil, Bool.and_true, and_true, true_and, and_self, ne_eq, not_false_eq_true, List.cons_append, List.nil_append, List.append_nil, List.append_assoc, Nat.zero_add, Nat.add_zero, Int.toNat_natCast, opK_copy, hc, List.set_append_right, Nat.sub_self, List.set_cons_zero, Nat.le_refl]
  have hq : ∀ (h : List AObj) (k : Nat), h[h0.length]? = some ⟨3, 1, ints (rep n k)⟩ → 0 < k → k < n → aCopy Try.prog 25 h (.ref h0.length k (n - k) n) (.ref h0.length 0 k n) = some (I (Nat.min k (n - k) : Nat), h.set h0.length ⟨3, 1, ints (rep n (k + Nat.min k (n - k)))⟩) := by
    intro h k hh h1 h2
    have e1 : Nat.min k (n - k) ≤ n - k := Nat.min_le_right _ _
    have e2 : 0 < Nat.min k (n - k) := by have : Nat.min k (n - k) = min k (n - k) := rfl; omega
    have hl := rep_len (n := n) (k := k) (by omega)
    have := copy_ints_at (P := Try.prog) (t := 25) (h := h) (id := h0.length) (off := k) (n := n - k) (ext := n) (m := k) (x := .ref h0.length 0 k n) (l := rep n k) hh (by decide) hl (by simp [sview, cellsAt, hh, hl, ints_length]) (by omega) (by omega) (by omega)
    rw [this, rep_more h1 h2]
  refine loopK_I [7, 8] (fun k : Nat => 0 < k ∧ k ≤ n) (fun k => ⟨[(7, .ref h0.length 0 n n), (8, I k)], h0 ++ [⟨3, 1, ints (rep n k)⟩]⟩) (fun k => n - k) 1 (by omega) (by simp only [↓RP, RG, FX, decide_eq_true, decide_eq_false, Bool.not_true, Bool.not_false, Option.map_some, List.map_cons, List.map_nil, List.getElem?_cons_zero, List.getElem?_cons_succ, ↓reduceIte, Nat.reduceEqDiff, reduceCtorEq, decide_eq_true_eq, decide_eq_false_iff_not, Option.map_none, Option.bind_some, List.contains_nil, List.contains_cons, Nat.reduceBEq, Bool.or_false, Bool.false_or, Bool.or_self, List.set_cons_zero, List.set_cons_succ, List.take_succ_cons, List.take_zero, List.drop_succ_cons, List.drop_zero, List.length_cons, List.length_nil, List.length_append, Nat.reduceAdd, Nat.reduceLeDiff, List.all_cons, List.all_nil, Bool.and_true, and_true, true_and, and_self, ne_eq, not_false_eq_true, List.cons_append, List.nil_append, List.append_nil, List.append_assoc, Nat.zero_add, Nat.add_zero, Int.toNat_natCast]; rfl) ?_
  intro k ⟨hk0, hk⟩
  have hl := rep_len (n := n) (k := k) (by omega)
  by_cases hlt : k < n
  · have e1 : Nat.min k (n - k) ≤ n - k := Nat.min_le_right _ _
    have e2 : 0 < Nat.min k (n - k) := by have : Nat.min k (n - k) = min k (n - k) := rfl; omega
    simp (disch := first | omega | simp) only [↓RP, RG, FX, decide_eq_true, decide_eq_false, Bool.not_true, Bool.not_false, Option.map_some, List.map_cons, List.map_nil, List.getElem?_cons_zero, List.getElem?_cons_succ, ↓reduceIte, Nat.reduceEqDiff, reduceCtorEq, decide_eq_true_eq, decide_eq_false_iff_not, Option.map_none, Option.bind_some, List.contains_nil, List.contains_cons, Nat.reduceBEq, Bool.or_false, Bool.false_or, Bool.or_self, List.set_cons_zero, List.set_cons_succ, List.take_succ_cons, List.take_zero, List.drop_succ_cons, List.drop_zero, List.length_cons, List.length_nil, List.length_append, Nat.reduceAdd, Nat.reduceLeDiff, List.all_cons, List.all_nil, Bool.and_true, and_true, true_and, and_self, ne_eq, not_false_eq_true, List.cons_append, List.nil_append, List.append_nil, List.append_assoc, Nat.zero_add, Nat.add_zero, Int.toNat_natCast, opK_copy, hq, sl_ref_lo, sl_ref_hi, List.set_append_right, Nat.sub_self, List.set_cons_zero, Nat.le_refl]
    exact ⟨k + Nat.min k (n - k), ⟨by omega, by omega⟩, by simp, by omega⟩
  · obtain rfl : k = n := by omega
    simp (disch := first | assumption | omega | rfl | simp only [hAt_app, hAt_app0, List.getElem?_cons_zero, List.getElem?_cons_succ]) only [↓RP, RG, FX, decide_eq_true, decide_eq_false, Bool.not_true, Bool.not_false, Option.map_some, List.map_cons, List.map_nil, List.getElem?_cons_zero, List.getElem?_cons_succ, ↓reduceIte, Nat.reduceEqDiff, reduceCtorEq, decide_eq_true_eq, decide_eq_false_iff_not, Option.map_none, Option.bind_some, List.contains_nil, List.contains_cons, Nat.reduceBEq, Bool.or_false, Bool.false_or, Bool.or_self, List.set_cons_zero, List.set_cons_succ, List.take_succ_cons, List.take_zero, List.drop_succ_cons, List.drop_zero, List.length_cons, List.length_nil, List.length_append, Nat.reduceAdd, Nat.reduceLeDiff, List.all_cons, List.all_nil, Bool.and_true, and_true, true_and, and_self, ne_eq, not_false_eq_true, List.cons_append, List.nil_append, List.append_nil, List.append_assoc, Nat.zero_add, Nat.add_zero, Int.toNat_natCast]
    refine ⟨_, rfl, ?_⟩
    rw [show rep k k = List.replicate k (-1) by simp [rep]]
    exact Wk.of_eq rfl
end Go.Proofs.Ytefhmecaoefpbaa
