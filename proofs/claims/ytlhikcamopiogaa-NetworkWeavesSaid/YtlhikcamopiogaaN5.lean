/- Networks: the threading of a line, by the reference. -/
import Derived.Test.YtlhikcamopiogaaN4
set_option linter.unusedSimpArgs false
set_option linter.unusedVariables false
set_option maxRecDepth 100000
namespace Go.Proofs.Ytlhikcamopiogaa
open Go Go.Proofs Go.AW

/-- An end is allowed on a shaft. -/
def isAl16 (s n : Int) (l : List Int) (x : Nat) (a : Int) : Prop := 0 ≤ a ∧ a < s ∧ ((a.toNat % n.toNat : Nat) : Int) = baseAt l x
instance (s n : Int) (l : List Int) (x : Nat) (a : Int) : Decidable (isAl16 s n l x a) := by unfold isAl16; infer_instance

theorem eqN_t {a b : Int} (h : a = b) : (a == b) = true := by simp [h]
theorem eqN_f {a b : Int} (h : ¬ a = b) : (a == b) = false := by simp [h]

theorem is16_c {s n : Int} (b : Bool) {l : List Int} (hn : netOk s n l) {x : Nat} (hx : x ≤ 1000000000000) {a : Int} : Contract Try.prog 42 [NA s n b l, I x, I a] (B (decide (isAl16 s n l x a))) := by
  have hl0 := hn.2.2.2.2.1
  have hl1 := hn.2.2.2.1
  have hn1 := wIn_pos' hn.2.2.2.2
  have hxm := Nat.mod_lt x hl0
  refine Contract.intro (effS [] false) 6 follows Try.func42 rfl rfl (by kernel_rfl) (Nat.le_of_ble_eq_true rfl) ?_
  by_cases h1 : 0 ≤ a
  rotate_left
  · simp (disch := first | assumption | omega | rfl | simp only [hAt_app, hAt_app0, List.getElem?_cons_zero, List.getElem?_cons_succ]) only [↓RP, RG, FX, decide_eq_true, decide_eq_false, Bool.not_true, Bool.not_false, Option.map_some, List.map_cons, List.map_nil, List.getElem?_cons_zero, List.getElem?_cons_succ, ↓reduceIte, Nat.reduceEqDiff, reduceCtorEq, decide_eq_true_eq, decide_eq_false_iff_not, Option.map_none, Option.bind_some, List.contains_nil, List.contains_cons, Nat.reduceBEq, Bool.or_false, Bool.false_or, Bool.or_self, List.set_cons_zero, List.set_cons_succ, List.take_succ_cons, List.take_zero, List.drop_succ_cons, List.drop_zero, List.length_cons, List.length_nil, List.length_append, Nat.reduceAdd, Nat.reduceLeDiff, List.all_cons, List.all_nil, Bool.and_true, and_true, true_and, and_self, ne_eq, not_false_eq_true, List.cons_append, List.nil_append, List.append_nil, List.append_assoc, Nat.zero_add, Nat.add_zero, Int.toNat_natCast, args0_3]
    rw [resVal_1 rfl]; simp (disch := first | assumption | omega | rfl | simp only [hAt_app, hAt_app0, List.getElem?_cons_zero, List.getElem?_cons_succ]) only [↓RP, RG, FX, decide_eq_true, decide_eq_false, Bool.not_true, Bool.not_false, Option.map_some, List.map_cons, List.map_nil, List.getElem?_cons_zero, List.getElem?_cons_succ, ↓reduceIte, Nat.reduceEqDiff, reduceCtorEq, decide_eq_true_eq, decide_eq_false_iff_not, Option.map_none, Option.bind_some, List.contains_nil, List.contains_cons, Nat.reduceBEq, Bool.or_false, Bool.false_or, Bool.or_self, List.set_cons_zero, List.set_cons_succ, List.take_succ_cons, List.take_zero, List.drop_succ_cons, List.drop_zero, List.length_cons, List.length_nil, List.length_append, Nat.reduceAdd, Nat.reduceLeDiff, List.all_cons, List.all_nil, Bool.and_true, and_true, true_and, and_self, ne_eq, not_false_eq_true, List.cons_append, List.nil_append, List.append_nil, List.append_assoc, Nat.zero_add, Nat.add_zero, Int.toNat_natCast, RS]
    first | done | exact okF (fun h => h1 h.1)
  by_cases h2 : a < s
  rotate_left
  · simp (disch := first | assumption | omega | rfl | simp only [hAt_app, hAt_app0, List.getElem?_cons_zero, List.getElem?_cons_succ]) only [↓RP, RG, FX, decide_eq_true, decide_eq_false, Bool.not_true, Bool.not_false, Option.map_some, List.map_cons, List.map_nil, List.getElem?_cons_zero, List.getElem?_cons_succ, ↓reduceIte, Nat.reduceEqDiff, reduceCtorEq, decide_eq_true_eq, decide_eq_false_iff_not, Option.map_none, Option.bind_some, List.contains_nil, List.contains_cons, Nat.reduceBEq, Bool.or_false, Bool.false_or, Bool.or_self, List.set_cons_zero, List.set_cons_succ, List.take_succ_cons, List.take_zero, List.drop_succ_cons, List.drop_zero, List.length_cons, List.length_nil, List.length_append, Nat.reduceAdd, Nat.reduceLeDiff, List.all_cons, List.all_nil, Bool.and_true, and_true, true_and, and_self, ne_eq, not_false_eq_true, List.cons_append, List.nil_append, List.append_nil, List.append_assoc, Nat.zero_add, Nat.add_zero, Int.toNat_natCast, args0_3]
    rw [resVal_1 rfl]; simp (disch := first | assumption | omega | rfl | simp only [hAt_app, hAt_app0, List.getElem?_cons_zero, List.getElem?_cons_succ]) only [↓RP, RG, FX, decide_eq_true, decide_eq_false, Bool.not_true, Bool.not_false, Option.map_some, List.map_cons, List.map_nil, List.getElem?_cons_zero, List.getElem?_cons_succ, ↓reduceIte, Nat.reduceEqDiff, reduceCtorEq, decide_eq_true_eq, decide_eq_false_iff_not, Option.map_none, Option.bind_some, List.contains_nil, List.contains_cons, Nat.reduceBEq, Bool.or_false, Bool.false_or, Bool.or_self, List.set_cons_zero, List.set_cons_succ, List.take_succ_cons, List.take_zero, List.drop_succ_cons, List.drop_zero, List.length_cons, List.length_nil, List.length_append, Nat.reduceAdd, Nat.reduceLeDiff, List.all_cons, List.all_nil, Bool.and_true, and_true, true_and, and_self, ne_eq, not_false_eq_true, List.cons_append, List.nil_append, List.append_nil, List.append_assoc, Nat.zero_add, Nat.add_zero, Int.toNat_natCast, RS]
    first | done | exact okF (fun h => h2 h.2.1)
  by_cases h3 : ((a.toNat % n.toNat : Nat) : Int) = l.getD (x % l.length) 0
  · simp (disch := first | assumption | omega | rfl | simp only [hAt_app, hAt_app0, List.getElem?_cons_zero, List.getElem?_cons_succ]) only [↓RP, RG, FX, decide_eq_true, decide_eq_false, Bool.not_true, Bool.not_false, Option.map_some, List.map_cons, List.map_nil, List.getElem?_cons_zero, List.getElem?_cons_succ, ↓reduceIte, Nat.reduceEqDiff, reduceCtorEq, decide_eq_true_eq, decide_eq_false_iff_not, Option.map_none, Option.bind_some, List.contains_nil, List.contains_cons, Nat.reduceBEq, Bool.or_false, Bool.false_or, Bool.or_self, List.set_cons_zero, List.set_cons_succ, List.take_succ_cons, List.take_zero, List.drop_succ_cons, List.drop_zero, List.length_cons, List.length_nil, List.length_append, Nat.reduceAdd, Nat.reduceLeDiff, List.all_cons, List.all_nil, Bool.and_true, and_true, true_and, and_self, ne_eq, not_false_eq_true, List.cons_append, List.nil_append, List.append_nil, List.append_assoc, Nat.zero_add, Nat.add_zero, Int.toNat_natCast, args0_3, eqN_t h3]
    rw [resVal_1 rfl]; simp (disch := first | assumption | omega | rfl | simp only [hAt_app, hAt_app0, List.getElem?_cons_zero, List.getElem?_cons_succ]) only [↓RP, RG, FX, decide_eq_true, decide_eq_false, Bool.not_true, Bool.not_false, Option.map_some, List.map_cons, List.map_nil, List.getElem?_cons_zero, List.getElem?_cons_succ, ↓reduceIte, Nat.reduceEqDiff, reduceCtorEq, decide_eq_true_eq, decide_eq_false_iff_not, Option.map_none, Option.bind_some, List.contains_nil, List.contains_cons, Nat.reduceBEq, Bool.or_false, Bool.false_or, Bool.or_self, List.set_cons_zero, List.set_cons_succ, List.take_succ_cons, List.take_zero, List.drop_succ_cons, List.drop_zero, List.length_cons, List.length_nil, List.length_append, Nat.reduceAdd, Nat.reduceLeDiff, List.all_cons, List.all_nil, Bool.and_true, and_true, true_and, and_self, ne_eq, not_false_eq_true, List.cons_append, List.nil_append, List.append_nil, List.append_assoc, Nat.zero_add, Nat.add_zero, Int.toNat_natCast, RS]
    first | done | exact okT ⟨h1, h2, h3⟩
  · simp (disch := first | assumption | omega | rfl | simp only [hAt_app, hAt_app0, List.getElem?_cons_zero, List.getElem?_cons_succ]) only [↓RP, RG, FX, decide_eq_true, decide_eq_false, Bool.not_true, Bool.not_false, Option.map_some, List.map_cons, List.map_nil, List.getElem?_cons_zero, List.getElem?_cons_succ, ↓reduceIte, Nat.reduceEqDiff, reduceCtorEq, decide_eq_true_eq, decide_eq_false_iff_not, Option.map_none, Option.bind_some, List.contains_nil, List.contains_cons, Nat.reduceBEq, Bool.or_false, Bool.false_or, Bool.or_self, List.set_cons_zero, List.set_cons_succ, List.take_succ_cons, List.take_zero, List.drop_succ_cons, List.drop_zero, List.length_cons, List.length_nil, List.length_append, Nat.reduceAdd, Nat.reduceLeDiff, List.all_cons, List.all_nil, Bool.and_true, and_true, true_and, and_self, ne_eq, not_false_eq_true, List.cons_append, List.nil_append, List.append_nil, List.append_assoc, Nat.zero_add, Nat.add_zero, Int.toNat_natCast, args0_3, eqN_f h3]
    rw [resVal_1 rfl]; simp (disch := first | assumption | omega | rfl | simp only [hAt_app, hAt_app0, List.getElem?_cons_zero, List.getElem?_cons_succ]) only [↓RP, RG, FX, decide_eq_true, decide_eq_false, Bool.not_true, Bool.not_false, Option.map_some, List.map_cons, List.map_nil, List.getElem?_cons_zero, List.getElem?_cons_succ, ↓reduceIte, Nat.reduceEqDiff, reduceCtorEq, decide_eq_true_eq, decide_eq_false_iff_not, Option.map_none, Option.bind_some, List.contains_nil, List.contains_cons, Nat.reduceBEq, Bool.or_false, Bool.false_or, Bool.or_self, List.set_cons_zero, List.set_cons_succ, List.take_succ_cons, List.take_zero, List.drop_succ_cons, List.drop_zero, List.length_cons, List.length_nil, List.length_append, Nat.reduceAdd, Nat.reduceLeDiff, List.all_cons, List.all_nil, Bool.and_true, and_true, true_and, and_self, ne_eq, not_false_eq_true, List.cons_append, List.nil_append, List.append_nil, List.append_assoc, Nat.zero_add, Nat.add_zero, Int.toNat_natCast, RS]
    first | done | exact okF (fun h => h3 h.2.2)

theorem heights_c (b : Bool) (l : List Int) (hl : l.length ≤ 1000000000000) : Contract Try.prog 41 [LA b l] (B (decide (lineOk l))) := by
  refine Contract.intro (effS [] false) 6 follows Try.func41 rfl rfl (by kernel_rfl) (Nat.le_of_ble_eq_true rfl) ?_
  simp (disch := first | assumption | omega | rfl | simp only [hAt_app, hAt_app0, List.getElem?_cons_zero, List.getElem?_cons_succ]) only [↓RP, RG, FX, decide_eq_true, decide_eq_false, Bool.not_true, Bool.not_false, Option.map_some, List.map_cons, List.map_nil, List.getElem?_cons_zero, List.getElem?_cons_succ, ↓reduceIte, Nat.reduceEqDiff, reduceCtorEq, decide_eq_true_eq, decide_eq_false_iff_not, Option.map_none, Option.bind_some, List.contains_nil, List.contains_cons, Nat.reduceBEq, Bool.or_false, Bool.false_or, Bool.or_self, List.set_cons_zero, List.set_cons_succ, List.take_succ_cons, List.take_zero, List.drop_succ_cons, List.drop_zero, List.length_cons, List.length_nil, List.length_append, Nat.reduceAdd, Nat.reduceLeDiff, List.all_cons, List.all_nil, Bool.and_true, and_true, true_and, and_self, ne_eq, not_false_eq_true, List.cons_append, List.nil_append, List.append_nil, List.append_assoc, Nat.zero_add, Nat.add_zero, Int.toNat_natCast, args0_1]
  refine loopK_I [0, 3] (fun k : Nat => k ≤ l.length ∧ ∀ j, j < k → 0 ≤ l.getD j 0 ∧ l.getD j 0 ≤ 1000) (fun k : Nat => ⟨[(0, LA b l), (3, I k)], []⟩) (fun k => l.length - k) 0 (by simp) (by simp only [↓RP, RG, FX, decide_eq_true, decide_eq_false, Bool.not_true, Bool.not_false, Option.map_some, List.map_cons, List.map_nil, List.getElem?_cons_zero, List.getElem?_cons_succ, ↓reduceIte, Nat.reduceEqDiff, reduceCtorEq, decide_eq_true_eq, decide_eq_false_iff_not, Option.map_none, Option.bind_some, List.contains_nil, List.contains_cons, Nat.reduceBEq, Bool.or_false, Bool.false_or, Bool.or_self, List.set_cons_zero, List.set_cons_succ, List.take_succ_cons, List.take_zero, List.drop_succ_cons, List.drop_zero, List.length_cons, List.length_nil, List.length_append, Nat.reduceAdd, Nat.reduceLeDiff, List.all_cons, List.all_nil, Bool.and_true, and_true, true_and, and_self, ne_eq, not_false_eq_true, List.cons_append, List.nil_append, List.append_nil, List.append_assoc, Nat.zero_add, Nat.add_zero, Int.toNat_natCast]; rfl) ?_
  rintro k ⟨hk, hj⟩
  by_cases hlt : k < l.length
  · by_cases h1 : l.getD k 0 < 0
    · simp (disch := first | assumption | omega | rfl | simp only [hAt_app, hAt_app0, List.getElem?_cons_zero, List.getElem?_cons_succ]) only [↓RP, RG, FX, decide_eq_true, decide_eq_false, Bool.not_true, Bool.not_false, Option.map_some, List.map_cons, List.map_nil, List.getElem?_cons_zero, List.getElem?_cons_succ, ↓reduceIte, Nat.reduceEqDiff, reduceCtorEq, decide_eq_true_eq, decide_eq_false_iff_not, Option.map_none, Option.bind_some, List.contains_nil, List.contains_cons, Nat.reduceBEq, Bool.or_false, Bool.false_or, Bool.or_self, List.set_cons_zero, List.set_cons_succ, List.take_succ_cons, List.take_zero, List.drop_succ_cons, List.drop_zero, List.length_cons, List.length_nil, List.length_append, Nat.reduceAdd, Nat.reduceLeDiff, List.all_cons, List.all_nil, Bool.and_true, and_true, true_and, and_self, ne_eq, not_false_eq_true, List.cons_append, List.nil_append, List.append_nil, List.append_assoc, Nat.zero_add, Nat.add_zero, Int.toNat_natCast]
      rw [resVal_1 rfl]; simp (disch := first | assumption | omega | rfl | simp only [hAt_app, hAt_app0, List.getElem?_cons_zero, List.getElem?_cons_succ]) only [↓RP, RG, FX, decide_eq_true, decide_eq_false, Bool.not_true, Bool.not_false, Option.map_some, List.map_cons, List.map_nil, List.getElem?_cons_zero, List.getElem?_cons_succ, ↓reduceIte, Nat.reduceEqDiff, reduceCtorEq, decide_eq_true_eq, decide_eq_false_iff_not, Option.map_none, Option.bind_some, List.contains_nil, List.contains_cons, Nat.reduceBEq, Bool.or_false, Bool.false_or, Bool.or_self, List.set_cons_zero, List.set_cons_succ, List.take_succ_cons, List.take_zero, List.drop_succ_cons, List.drop_zero, List.length_cons, List.length_nil, List.length_append, Nat.reduceAdd, Nat.reduceLeDiff, List.all_cons, List.all_nil, Bool.and_true, and_true, true_and, and_self, ne_eq, not_false_eq_true, List.cons_append, List.nil_append, List.append_nil, List.append_assoc, Nat.zero_add, Nat.add_zero, Int.toNat_natCast, RS]
      first | done | exact okF (fun h => by have := h.2.2 k hlt; omega)
    · by_cases h2 : 1000 < l.getD k 0
      · simp (disch := first | assumption | omega | rfl | simp only [hAt_app, hAt_app0, List.getElem?_cons_zero, List.getElem?_cons_succ]) only [↓RP, RG, FX, decide_eq_true, decide_eq_false, Bool.not_true, Bool.not_false, Option.map_some, List.map_cons, List.map_nil, List.getElem?_cons_zero, List.getElem?_cons_succ, ↓reduceIte, Nat.reduceEqDiff, reduceCtorEq, decide_eq_true_eq, decide_eq_false_iff_not, Option.map_none, Option.bind_some, List.contains_nil, List.contains_cons, Nat.reduceBEq, Bool.or_false, Bool.false_or, Bool.or_self, List.set_cons_zero, List.set_cons_succ, List.take_succ_cons, List.take_zero, List.drop_succ_cons, List.drop_zero, List.length_cons, List.length_nil, List.length_append, Nat.reduceAdd, Nat.reduceLeDiff, List.all_cons, List.all_nil, Bool.and_true, and_true, true_and, and_self, ne_eq, not_false_eq_true, List.cons_append, List.nil_append, List.append_nil, List.append_assoc, Nat.zero_add, Nat.add_zero, Int.toNat_natCast]
        rw [resVal_1 rfl]; simp (disch := first | assumption | omega | rfl | simp only [hAt_app, hAt_app0, List.getElem?_cons_zero, List.getElem?_cons_succ]) only [↓RP, RG, FX, decide_eq_true, decide_eq_false, Bool.not_true, Bool.not_false, Option.map_some, List.map_cons, List.map_nil, List.getElem?_cons_zero, List.getElem?_cons_succ, ↓reduceIte, Nat.reduceEqDiff, reduceCtorEq, decide_eq_true_eq, decide_eq_false_iff_not, Option.map_none, Option.bind_some, List.contains_nil, List.contains_cons, Nat.reduceBEq, Bool.or_false, Bool.false_or, Bool.or_self, List.set_cons_zero, List.set_cons_succ, List.take_succ_cons, List.take_zero, List.drop_succ_cons, List.drop_zero, List.length_cons, List.length_nil, List.length_append, Nat.reduceAdd, Nat.reduceLeDiff, List.all_cons, List.all_nil, Bool.and_true, and_true, true_and, and_self, ne_eq, not_false_eq_true, List.cons_append, List.nil_append, List.append_nil, List.append_assoc, Nat.zero_add, Nat.add_zero, Int.toNat_natCast, RS]
        first | done | exact okF (fun h => by have := h.2.2 k hlt; omega)
      · simp (disch := first | assumption | omega | rfl | simp only [hAt_app, hAt_app0, List.getElem?_cons_zero, List.getElem?_cons_succ]) only [↓RP, RG, FX, decide_eq_true, decide_eq_false, Bool.not_true, Bool.not_false, Option.map_some, List.map_cons, List.map_nil, List.getElem?_cons_zero, List.getElem?_cons_succ, ↓reduceIte, Nat.reduceEqDiff, reduceCtorEq, decide_eq_true_eq, decide_eq_false_iff_not, Option.map_none, Option.bind_some, List.contains_nil, List.contains_cons, Nat.reduceBEq, Bool.or_false, Bool.false_or, Bool.or_self, List.set_cons_zero, List.set_cons_succ, List.take_succ_cons, List.take_zero, List.drop_succ_cons, List.drop_zero, List.length_cons, List.length_nil, List.length_append, Nat.reduceAdd, Nat.reduceLeDiff, List.all_cons, List.all_nil, Bool.and_true, and_true, true_and, and_self, ne_eq, not_false_eq_true, List.cons_append, List.nil_append, List.append_nil, List.append_assoc, Nat.zero_add, Nat.add_zero, Int.toNat_natCast]
        refine ⟨k + 1, ⟨by omega, fun j hj' => ?_⟩, rfl, by omega⟩
        rcases Nat.lt_or_ge j k with h3 | h3
        · exact hj j h3
        · obtain rfl : j = k := by omega
          omega
  · obtain rfl : k = l.length := by omega
    by_cases h1 : 1 ≤ l.length
    · by_cases h2 : l.length ≤ 64
      · simp (disch := first | assumption | omega | rfl | simp only [hAt_app, hAt_app0, List.getElem?_cons_zero, List.getElem?_cons_succ]) only [↓RP, RG, FX, decide_eq_true, decide_eq_false, Bool.not_true, Bool.not_false, Option.map_some, List.map_cons, List.map_nil, List.getElem?_cons_zero, List.getElem?_cons_succ, ↓reduceIte, Nat.reduceEqDiff, reduceCtorEq, decide_eq_true_eq, decide_eq_false_iff_not, Option.map_none, Option.bind_some, List.contains_nil, List.contains_cons, Nat.reduceBEq, Bool.or_false, Bool.false_or, Bool.or_self, List.set_cons_zero, List.set_cons_succ, List.take_succ_cons, List.take_zero, List.drop_succ_cons, List.drop_zero, List.length_cons, List.length_nil, List.length_append, Nat.reduceAdd, Nat.reduceLeDiff, List.all_cons, List.all_nil, Bool.and_true, and_true, true_and, and_self, ne_eq, not_false_eq_true, List.cons_append, List.nil_append, List.append_nil, List.append_assoc, Nat.zero_add, Nat.add_zero, Int.toNat_natCast]
        rw [resVal_1 rfl]; simp (disch := first | assumption | omega | rfl | simp only [hAt_app, hAt_app0, List.getElem?_cons_zero, List.getElem?_cons_succ]) only [↓RP, RG, FX, decide_eq_true, decide_eq_false, Bool.not_true, Bool.not_false, Option.map_some, List.map_cons, List.map_nil, List.getElem?_cons_zero, List.getElem?_cons_succ, ↓reduceIte, Nat.reduceEqDiff, reduceCtorEq, decide_eq_true_eq, decide_eq_false_iff_not, Option.map_none, Option.bind_some, List.contains_nil, List.contains_cons, Nat.reduceBEq, Bool.or_false, Bool.false_or, Bool.or_self, List.set_cons_zero, List.set_cons_succ, List.take_succ_cons, List.take_zero, List.drop_succ_cons, List.drop_zero, List.length_cons, List.length_nil, List.length_append, Nat.reduceAdd, Nat.reduceLeDiff, List.all_cons, List.all_nil, Bool.and_true, and_true, true_and, and_self, ne_eq, not_false_eq_true, List.cons_append, List.nil_append, List.append_nil, List.append_assoc, Nat.zero_add, Nat.add_zero, Int.toNat_natCast, RS]
        first | done | exact okT ⟨h1, h2, hj⟩
      · simp (disch := first | assumption | omega | rfl | simp only [hAt_app, hAt_app0, List.getElem?_cons_zero, List.getElem?_cons_succ]) only [↓RP, RG, FX, decide_eq_true, decide_eq_false, Bool.not_true, Bool.not_false, Option.map_some, List.map_cons, List.map_nil, List.getElem?_cons_zero, List.getElem?_cons_succ, ↓reduceIte, Nat.reduceEqDiff, reduceCtorEq, decide_eq_true_eq, decide_eq_false_iff_not, Option.map_none, Option.bind_some, List.contains_nil, List.contains_cons, Nat.reduceBEq, Bool.or_false, Bool.false_or, Bool.or_self, List.set_cons_zero, List.set_cons_succ, List.take_succ_cons, List.take_zero, List.drop_succ_cons, List.drop_zero, List.length_cons, List.length_nil, List.length_append, Nat.reduceAdd, Nat.reduceLeDiff, List.all_cons, List.all_nil, Bool.and_true, and_true, true_and, and_self, ne_eq, not_false_eq_true, List.cons_append, List.nil_append, List.append_nil, List.append_assoc, Nat.zero_add, Nat.add_zero, Int.toNat_natCast]
        rw [resVal_1 rfl]; simp (disch := first | assumption | omega | rfl | simp only [hAt_app, hAt_app0, List.getElem?_cons_zero, List.getElem?_cons_succ]) only [↓RP, RG, FX, decide_eq_true, decide_eq_false, Bool.not_true, Bool.not_false, Option.map_some, List.map_cons, List.map_nil, List.getElem?_cons_zero, List.getElem?_cons_succ, ↓reduceIte, Nat.reduceEqDiff, reduceCtorEq, decide_eq_true_eq, decide_eq_false_iff_not, Option.map_none, Option.bind_some, List.contains_nil, List.contains_cons, Nat.reduceBEq, Bool.or_false, Bool.false_or, Bool.or_self, List.set_cons_zero, List.set_cons_succ, List.take_succ_cons, List.take_zero, List.drop_succ_cons, List.drop_zero, List.length_cons, List.length_nil, List.length_append, Nat.reduceAdd, Nat.reduceLeDiff, List.all_cons, List.all_nil, Bool.and_true, and_true, true_and, and_self, ne_eq, not_false_eq_true, List.cons_append, List.nil_append, List.append_nil, List.append_assoc, Nat.zero_add, Nat.add_zero, Int.toNat_natCast, RS]
        first | done | exact okF (fun h => h2 h.2.1)
    · simp (disch := first | assumption | omega | rfl | simp only [hAt_app, hAt_app0, List.getElem?_cons_zero, List.getElem?_cons_succ]) only [↓RP, RG, FX, decide_eq_true, decide_eq_false, Bool.not_true, Bool.not_false, Option.map_some, List.map_cons, List.map_nil, List.getElem?_cons_zero, List.getElem?_cons_succ, ↓reduceIte, Nat.reduceEqDiff, reduceCtorEq, decide_eq_true_eq, decide_eq_false_iff_not, Option.map_none, Option.bind_some, List.contains_nil, List.contains_cons, Nat.reduceBEq, Bool.or_false, Bool.false_or, Bool.or_self, List.set_cons_zero, List.set_cons_succ, List.take_succ_cons, List.take_zero, List.drop_succ_cons, List.drop_zero, List.length_cons, List.length_nil, List.length_append, Nat.reduceAdd, Nat.reduceLeDiff, List.all_cons, List.all_nil, Bool.and_true, and_true, true_and, and_self, ne_eq, not_false_eq_true, List.cons_append, List.nil_append, List.append_nil, List.append_assoc, Nat.zero_add, Nat.add_zero, Int.toNat_natCast]
      rw [resVal_1 rfl]; simp (disch := first | assumption | omega | rfl | simp only [hAt_app, hAt_app0, List.getElem?_cons_zero, List.getElem?_cons_succ]) only [↓RP, RG, FX, decide_eq_true, decide_eq_false, Bool.not_true, Bool.not_false, Option.map_some, List.map_cons, List.map_nil, List.getElem?_cons_zero, List.getElem?_cons_succ, ↓reduceIte, Nat.reduceEqDiff, reduceCtorEq, decide_eq_true_eq, decide_eq_false_iff_not, Option.map_none, Option.bind_some, List.contains_nil, List.contains_cons, Nat.reduceBEq, Bool.or_false, Bool.false_or, Bool.or_self, List.set_cons_zero, List.set_cons_succ, List.take_succ_cons, List.take_zero, List.drop_succ_cons, List.drop_zero, List.length_cons, List.length_nil, List.length_append, Nat.reduceAdd, Nat.reduceLeDiff, List.all_cons, List.all_nil, Bool.and_true, and_true, true_and, and_self, ne_eq, not_false_eq_true, List.cons_append, List.nil_append, List.append_nil, List.append_assoc, Nat.zero_add, Nat.add_zero, Int.toNat_natCast, RS]
      first | done | exact okF (fun h => h1 h.1)

def awayI (a b : Int) : Int := if a < b then b - a else a - b
theorem awayI_eq (a h : Int) : awayI a h = max (a - h) (h - a) := by unfold awayI; split <;> omega

/-- The best of the last k shafts. -/
def dnN (s n : Int) (l : List Int) (x : Nat) (h : Int) : Nat → Int
  | 0 => -1
  | k + 1 => if isAl16 s n l x (s - 1 - k) ∧ (dnN s n l x h k < 0 ∨ awayI (s - 1 - k) h ≤ awayI (dnN s n l x h k) h) then s - 1 - k else dnN s n l x h k

theorem dnN_bd {s n : Int} {l : List Int} {x : Nat} {h : Int} : ∀ k : Nat, -1 ≤ dnN s n l x h k ∧ (dnN s n l x h k < s ∨ dnN s n l x h k = -1) := by
  intro k
  induction k with
  | zero => simp [dnN]
  | succ k ih =>
    simp only [dnN]
    split
    · rename_i hh; have := hh.1.1; have := hh.1.2.1; omega
    · exact ih

/-- What the search finds: an allowed shaft, the nearest one, the first one of several. -/
def minS (A : Int → Prop) (h r : Int) : Prop := A r ∧ ∀ a, A a → awayI r h ≤ awayI a h ∧ (awayI a h = awayI r h → r ≤ a)
theorem minS_uniq {A : Int → Prop} {h r r' : Int} (h1 : minS A h r) (h2 : minS A h r') : r = r' := by
  have a1 := h1.2 r' h2.1
  have a2 := h2.2 r h1.1
  have := a1.2 (by omega)
  have := a2.2 (by omega)
  omega

theorem dnN_min {s n : Int} {l : List Int} {x : Nat} {h : Int} : ∀ k : Nat, (k : Int) ≤ s → (dnN s n l x h k = -1 ∧ ∀ a, isAl16 s n l x a → a < s - k) ∨ (0 ≤ dnN s n l x h k ∧ minS (fun a => isAl16 s n l x a ∧ s - k ≤ a) h (dnN s n l x h k)) := by
  intro k
  induction k with
  | zero => intro _; left; exact ⟨rfl, fun a ha => by have := ha.2.1; omega⟩
  | succ k ih =>
    intro hk
    have ih := ih (by omega)
    simp only [dnN]
    by_cases hal : isAl16 s n l x (s - 1 - k)
    · rcases ih with ⟨h1, h2⟩ | ⟨h1, h2⟩
      · right
        rw [if_pos ⟨hal, .inl (by omega)⟩]
        refine ⟨hal.1, ⟨hal, by omega⟩, fun a ha => ?_⟩
        have := h2 a ha.1
        have : a = s - 1 - k := by omega
        subst this; exact ⟨Int.le_refl _, fun _ => Int.le_refl _⟩
      · right
        by_cases hc : awayI (s - 1 - k) h ≤ awayI (dnN s n l x h k) h
        · rw [if_pos ⟨hal, .inr hc⟩]
          refine ⟨hal.1, ⟨hal, by omega⟩, fun a ha => ?_⟩
          by_cases hak : s - k ≤ a
          · have := h2.2 a ⟨ha.1, hak⟩
            omega
          · have : a = s - 1 - k := by omega
            subst this; exact ⟨Int.le_refl _, fun _ => Int.le_refl _⟩
        · rw [if_neg (by rintro ⟨_, h3 | h3⟩ <;> omega)]
          refine ⟨h1, ⟨h2.1.1, by have := h2.1.2; omega⟩, fun a ha => ?_⟩
          by_cases hak : s - k ≤ a
          · exact h2.2 a ⟨ha.1, hak⟩
          · have : a = s - 1 - k := by omega
            subst this
            exact ⟨by omega, fun h => by omega⟩
    · rw [if_neg (fun h => hal h.1)]
      have hne : ∀ a, isAl16 s n l x a → a ≠ s - 1 - k := fun a ha he => hal (he ▸ ha)
      rcases ih with ⟨h1, h2⟩ | ⟨h1, h2⟩
      · left
        refine ⟨h1, fun a ha => ?_⟩
        have := h2 a ha
        have := hne a ha
        omega
      · right
        refine ⟨h1, ⟨h2.1.1, by have := h2.1.2; omega⟩, fun a ha => h2.2 a ⟨ha.1, ?_⟩⟩
        have := hne a ha.1
        have := ha.2
        omega

theorem isAl16_iff {s n : Int} {l : List Int} (h : netOk s n l) (x : Nat) (a : Int) : isAl16 s n l x a ↔ ∃ i, i < s.toNat / n.toNat ∧ a = (allowL s n l x).getD i 0 := by
  obtain ⟨hd, hn⟩ := netOk_div h
  obtain ⟨hb0, hb1⟩ := baseAt_in h x
  obtain ⟨m, rfl⟩ : ∃ m : Nat, n = m := ⟨n.toNat, by omega⟩
  obtain ⟨c, hc⟩ : ∃ c : Nat, baseAt l x = c := ⟨(baseAt l x).toNat, by omega⟩
  simp only [Int.toNat_natCast] at *
  have hns := h.1
  obtain ⟨t, rfl⟩ : ∃ t : Nat, s = t := ⟨s.toNat, by omega⟩
  simp only [Int.toNat_natCast] at *
  have hm : 0 < m := by omega
  constructor
  · rintro ⟨h1, h2, h3⟩
    obtain ⟨u, rfl⟩ : ∃ u : Nat, a = u := ⟨a.toNat, by omega⟩
    simp only [Int.toNat_natCast] at h3
    have e := Nat.div_add_mod u m
    have hu : u < m * (t / m) := by omega
    have hi : u / m < t / m := Nat.div_lt_of_lt_mul hu
    refine ⟨u / m, by simpa using hi, ?_⟩
    rw [allowL_get (by simpa using hi), ← h3]
    rw [← Int.natCast_mul, ← Int.natCast_add, Nat.mul_comm (u / m)]
    omega
  · rintro ⟨i, hi, rfl⟩
    have hb := allow_bd h x (i := i) (by simpa using hi)
    refine ⟨hb.1, hb.2, ?_⟩
    rw [allowL_get (by simpa using hi), hc, ← Int.natCast_mul, ← Int.natCast_add, Int.toNat_natCast, Int.toNat_natCast, Nat.add_mul_mod_self_right, Nat.mod_eq_of_lt (by omega)]

theorem allow_lt {s n : Int} {l : List Int} (h : netOk s n l) (x : Nat) {i j : Nat} (hij : i < j) (hj : j < s.toNat / n.toNat) : (allowL s n l x).getD i 0 < (allowL s n l x).getD j 0 := by
  obtain ⟨hd, hn⟩ := netOk_div h
  rw [allowL_get (by omega), allowL_get hj]
  have : (i : Int) * n < (j : Int) * n := Int.mul_lt_mul_of_pos_right (by omega) (by omega)
  omega

theorem lstN_min {s n : Int} {l : List Int} (hn : netOk s n l) (x : Nat) (h : Int) : ∀ k : Nat, k < s.toNat / n.toNat → ∃ i, i ≤ k ∧ lstN (fun a => max (a - h) (h - a)) (allowL s n l x) (k + 1) = (allowL s n l x).getD i 0 ∧
    ∀ j, j ≤ k → awayI ((allowL s n l x).getD i 0) h ≤ awayI ((allowL s n l x).getD j 0) h ∧ (awayI ((allowL s n l x).getD j 0) h = awayI ((allowL s n l x).getD i 0) h → i ≤ j) := by
  intro k
  induction k with
  | zero =>
    intro hk
    refine ⟨0, Nat.le_refl _, by simp [lstN], fun j hj => ?_⟩
    obtain rfl : j = 0 := by omega
    exact ⟨Int.le_refl _, fun _ => Nat.le_refl _⟩
  | succ k ih =>
    intro hk
    obtain ⟨i, hi, he, hmin⟩ := ih (by omega)
    rw [lstN, he]
    simp only [← awayI_eq]
    by_cases hc : awayI ((allowL s n l x).getD (k + 1) 0) h < awayI ((allowL s n l x).getD i 0) h
    · rw [if_pos (.inr hc)]
      refine ⟨k + 1, Nat.le_refl _, rfl, fun j hj => ?_⟩
      rcases Nat.lt_or_ge j (k + 1) with h1 | h1
      · have := (hmin j (by omega)).1
        exact ⟨by omega, fun h => by omega⟩
      · obtain rfl : j = k + 1 := by omega
        exact ⟨Int.le_refl _, fun _ => Nat.le_refl _⟩
    · rw [if_neg (by rintro (h1 | h1) <;> first | omega | exact hc h1)]
      refine ⟨i, by omega, rfl, fun j hj => ?_⟩
      rcases Nat.lt_or_ge j (k + 1) with h1 | h1
      · exact hmin j (by omega)
      · obtain rfl : j = k + 1 := by omega
        exact ⟨by omega, fun _ => by omega⟩

theorem near_min {s n : Int} {l : List Int} (hn : netOk s n l) (x : Nat) (h : Int) : minS (isAl16 s n l x) h (nearS s n l x h) := by
  obtain ⟨hd, hn1⟩ := netOk_div hn
  have hpos : 0 < s.toNat / n.toNat := by
    rcases Nat.eq_zero_or_pos (s.toNat / n.toNat) with h0 | h0
    · rw [h0] at hd; have := hn.1; omega
    · exact h0
  unfold nearS
  rw [allowL_len]
  obtain ⟨i, hi, he, hmin⟩ := lstN_min hn x h (s.toNat / n.toNat - 1) (by omega)
  rw [show s.toNat / n.toNat - 1 + 1 = s.toNat / n.toNat by omega] at he
  rw [he]
  refine ⟨(isAl16_iff hn x _).2 ⟨i, by omega, rfl⟩, fun a ha => ?_⟩
  obtain ⟨j, hj, rfl⟩ := (isAl16_iff hn x a).1 ha
  obtain ⟨h1, h2⟩ := hmin j (by omega)
  refine ⟨h1, fun h => ?_⟩
  have := h2 h
  rcases Nat.lt_or_ge i j with h3 | h3
  · exact Int.le_of_lt (allow_lt hn x h3 hj)
  · obtain rfl : i = j := by omega
    exact Int.le_refl _

theorem dn_near {s n : Int} {l : List Int} (hn : netOk s n l) (x : Nat) (h : Int) : dnN s n l x h s.toNat = nearS s n l x h := by
  have h1 := near_min hn x h
  have hs : ((s.toNat : Nat) : Int) = s := by have := hn.1; have := wIn_pos' hn.2.2.2.2; omega
  rcases dnN_min (s := s) (n := n) (l := l) (x := x) (h := h) s.toNat (by omega) with ⟨_, h2⟩ | ⟨h0, h2⟩
  · have := h2 _ h1.1
    have := h1.1.1
    omega
  · refine minS_uniq (A := isAl16 s n l x) ⟨h2.1.1, fun a ha => h2.2 a ⟨ha, by have := ha.1; omega⟩⟩ h1
end Go.Proofs.Ytlhikcamopiogaa
