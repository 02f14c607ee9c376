/- Part 3 of the proof's own texts: the contracts of functions, and what they rest on. -/
import Derived.Test.YtkcicgadggiklaaGreatDoorJ2
import Derived.Test.YtkcicgadggiklaaGreatDoorBw5
/- Apart and Hangs, of both. -/
set_option linter.unusedSimpArgs false
set_option linter.unusedVariables false
set_option maxRecDepth 100000
namespace Go.Proofs.YtkcicgadggiklaaGreatDoor
open Go Go.Proofs Go.AW

/-- The part that comes apart; none: it hangs together. -/
def apt (W n : Nat) (l : List Bool) : List Int := if (best W n l (n - 1)).length = n then [] else best W n l (n - 1)
theorem apartP_c {W H n : Nat} (hN : W + H = n) (hW0 : 0 < W) (hH0 : 0 < H) (hn40 : n ≤ 40) (b : Bool) {l : List Bool} (hn : l.length = W * H) :
    Contract Tryz.prog 22 [GA W H b l] (.tuple [LR (apt W n l).isEmpty (apt W n l), I 0]) := by
  have hz : gchk W H l.length = 0 := gchk_ok ⟨by omega, by omega, by omega, by omega, by rw [hn, Int.natCast_mul]⟩
  have hNc : (W : Int) + (H : Int) = (n : Int) := by omega
  have hO := order_c hN hW0 hH0 (by omega) (by omega) b hn
  have hF := fun lz => firstP_c (W := W) (n := n) (by omega) hn40 l lz
  obtain ⟨b1, b2⟩ := best_ok (W := W) (n := n) l (n - 1) (by omega)
  have hag : ∀ (h : List AObj) (m : Nat), (LL (abv W n l)).map (argOf h (m + 2)) = LLa (abv W n l) := fun h m => argOf_LL h m _
  have hag2 : ∀ (h : List AObj) (m : Nat), (LL (bel W n l)).map (argOf h (m + 2)) = LLa (bel W n l) := fun h m => argOf_LL h m _
  have hap : apt W n l = if (best W n l (n - 1)).length = n then [] else best W n l (n - 1) := rfl
  generalize LLa (abv W n l) = lb at *
  generalize LLa (bel W n l) = lc at *
  generalize LL (abv W n l) = la at *
  generalize LL (bel W n l) = ld at *
  generalize best W n l (n - 1) = x at *
  generalize apt W n l = y at *
  refine Contract.intro (effS [] false) 6 follows Tryz.func22 rfl rfl (by kernel_rfl) (Nat.le_of_ble_eq_true rfl) ?_
  simp (disch := first | assumption | omega | rfl | simp only [hAt_app, hAt_app0, List.getElem?_cons_zero, List.getElem?_cons_succ]) only [↓RP, RG, FX, decide_eq_true, decide_eq_false, Bool.not_true, Bool.not_false, Option.map_some, List.map_cons, List.map_nil, List.getElem?_cons_zero, List.getElem?_cons_succ, ↓reduceIte, Nat.reduceEqDiff, reduceCtorEq, decide_eq_true_eq, decide_eq_false_iff_not, Option.map_none, Option.bind_some, List.contains_nil, List.contains_cons, Nat.reduceBEq, Bool.or_false, Bool.false_or, Bool.or_self, List.set_cons_zero, List.set_cons_succ, List.take_succ_cons, List.take_zero, List.drop_succ_cons, List.drop_zero, List.length_cons, List.length_nil, List.length_append, Nat.reduceAdd, Nat.reduceLeDiff, List.all_cons, List.all_nil, Bool.and_true, and_true, true_and, and_self, ne_eq, not_false_eq_true, List.cons_append, List.nil_append, List.append_nil, List.append_assoc, Nat.zero_add, Nat.add_zero, Int.toNat_natCast, args0_1]
  refine callK_F 6 (gcheckP_c W H b l) (by simp (disch := first | assumption | omega | rfl | simp only [hAt_app, hAt_app0, List.getElem?_cons_zero, List.getElem?_cons_succ]) only [↓RP, RG, FX, decide_eq_true, decide_eq_false, Bool.not_true, Bool.not_false, Option.map_some, List.map_cons, List.map_nil, List.getElem?_cons_zero, List.getElem?_cons_succ, ↓reduceIte, Nat.reduceEqDiff, reduceCtorEq, decide_eq_true_eq, decide_eq_false_iff_not, Option.map_none, Option.bind_some, List.contains_nil, List.contains_cons, Nat.reduceBEq, Bool.or_false, Bool.false_or, Bool.or_self, List.set_cons_zero, List.set_cons_succ, List.take_succ_cons, List.take_zero, List.drop_succ_cons, List.drop_zero, List.length_cons, List.length_nil, List.length_append, Nat.reduceAdd, Nat.reduceLeDiff, List.all_cons, List.all_nil, Bool.and_true, and_true, true_and, and_self, ne_eq, not_false_eq_true, List.cons_append, List.nil_append, List.append_nil, List.append_assoc, Nat.zero_add, Nat.add_zero, Int.toNat_natCast, RA] <;> rfl) (.inl (by simp [allFresh, ints_fresh, bools_fresh])) ?_
  simp (disch := first | assumption | omega | rfl | simp only [hAt_app, hAt_app0, List.getElem?_cons_zero, List.getElem?_cons_succ]) only [↓RP, RG, FX, decide_eq_true, decide_eq_false, Bool.not_true, Bool.not_false, Option.map_some, List.map_cons, List.map_nil, List.getElem?_cons_zero, List.getElem?_cons_succ, ↓reduceIte, Nat.reduceEqDiff, reduceCtorEq, decide_eq_true_eq, decide_eq_false_iff_not, Option.map_none, Option.bind_some, List.contains_nil, List.contains_cons, Nat.reduceBEq, Bool.or_false, Bool.false_or, Bool.or_self, List.set_cons_zero, List.set_cons_succ, List.take_succ_cons, List.take_zero, List.drop_succ_cons, List.drop_zero, List.length_cons, List.length_nil, List.length_append, Nat.reduceAdd, Nat.reduceLeDiff, List.all_cons, List.all_nil, Bool.and_true, and_true, true_and, and_self, ne_eq, not_false_eq_true, List.cons_append, List.nil_append, List.append_nil, List.append_assoc, Nat.zero_add, Nat.add_zero, Int.toNat_natCast, hz]
  refine callK_F 6 hO (by simp (disch := first | assumption | omega | rfl | simp only [hAt_app, hAt_app0, List.getElem?_cons_zero, List.getElem?_cons_succ]) only [↓RP, RG, FX, decide_eq_true, decide_eq_false, Bool.not_true, Bool.not_false, Option.map_some, List.map_cons, List.map_nil, List.getElem?_cons_zero, List.getElem?_cons_succ, ↓reduceIte, Nat.reduceEqDiff, reduceCtorEq, decide_eq_true_eq, decide_eq_false_iff_not, Option.map_none, Option.bind_some, List.contains_nil, List.contains_cons, Nat.reduceBEq, Bool.or_false, Bool.false_or, Bool.or_self, List.set_cons_zero, List.set_cons_succ, List.take_succ_cons, List.take_zero, List.drop_succ_cons, List.drop_zero, List.length_cons, List.length_nil, List.length_append, Nat.reduceAdd, Nat.reduceLeDiff, List.all_cons, List.all_nil, Bool.and_true, and_true, true_and, and_self, ne_eq, not_false_eq_true, List.cons_append, List.nil_append, List.append_nil, List.append_assoc, Nat.zero_add, Nat.add_zero, Int.toNat_natCast, RA] <;> rfl) (.inr (by simp [noRef, bools_noRef])) ?_
  simp (disch := first | assumption | omega | rfl | simp only [hAt_app, hAt_app0, List.getElem?_cons_zero, List.getElem?_cons_succ]) only [↓RP, RG, FX, decide_eq_true, decide_eq_false, Bool.not_true, Bool.not_false, Option.map_some, List.map_cons, List.map_nil, List.getElem?_cons_zero, List.getElem?_cons_succ, ↓reduceIte, Nat.reduceEqDiff, reduceCtorEq, decide_eq_true_eq, decide_eq_false_iff_not, Option.map_none, Option.bind_some, List.contains_nil, List.contains_cons, Nat.reduceBEq, Bool.or_false, Bool.false_or, Bool.or_self, List.set_cons_zero, List.set_cons_succ, List.take_succ_cons, List.take_zero, List.drop_succ_cons, List.drop_zero, List.length_cons, List.length_nil, List.length_append, Nat.reduceAdd, Nat.reduceLeDiff, List.all_cons, List.all_nil, Bool.and_true, and_true, true_and, and_self, ne_eq, not_false_eq_true, List.cons_append, List.nil_append, List.append_nil, List.append_assoc, Nat.zero_add, Nat.add_zero, Int.toNat_natCast]
  refine callK_F 6 (hF lc) (by simp (disch := first | assumption | omega | rfl | simp only [hAt_app, hAt_app0, List.getElem?_cons_zero, List.getElem?_cons_succ]) only [↓RP, RG, FX, decide_eq_true, decide_eq_false, Bool.not_true, Bool.not_false, Option.map_some, List.map_cons, List.map_nil, List.getElem?_cons_zero, List.getElem?_cons_succ, ↓reduceIte, Nat.reduceEqDiff, reduceCtorEq, decide_eq_true_eq, decide_eq_false_iff_not, Option.map_none, Option.bind_some, List.contains_nil, List.contains_cons, Nat.reduceBEq, Bool.or_false, Bool.false_or, Bool.or_self, List.set_cons_zero, List.set_cons_succ, List.take_succ_cons, List.take_zero, List.drop_succ_cons, List.drop_zero, List.length_cons, List.length_nil, List.length_append, Nat.reduceAdd, Nat.reduceLeDiff, List.all_cons, List.all_nil, Bool.and_true, and_true, true_and, and_self, ne_eq, not_false_eq_true, List.cons_append, List.nil_append, List.append_nil, List.append_assoc, Nat.zero_add, Nat.add_zero, Int.toNat_natCast, RA, hag, hag2] <;> rfl) (.inl (by simp [allFresh, ints_fresh])) ?_
  by_cases c : x.length = n
  · rw [if_pos c] at hap
    subst hap
    simp (disch := first | assumption | omega | rfl | simp only [hAt_app, hAt_app0, List.getElem?_cons_zero, List.getElem?_cons_succ]) only [↓RP, RG, FX, decide_eq_true, decide_eq_false, Bool.not_true, Bool.not_false, Option.map_some, List.map_cons, List.map_nil, List.getElem?_cons_zero, List.getElem?_cons_succ, ↓reduceIte, Nat.reduceEqDiff, reduceCtorEq, decide_eq_true_eq, decide_eq_false_iff_not, Option.map_none, Option.bind_some, List.contains_nil, List.contains_cons, Nat.reduceBEq, Bool.or_false, Bool.false_or, Bool.or_self, List.set_cons_zero, List.set_cons_succ, List.take_succ_cons, List.take_zero, List.drop_succ_cons, List.drop_zero, List.length_cons, List.length_nil, List.length_append, Nat.reduceAdd, Nat.reduceLeDiff, List.all_cons, List.all_nil, Bool.and_true, and_true, true_and, and_self, ne_eq, not_false_eq_true, List.cons_append, List.nil_append, List.append_nil, List.append_assoc, Nat.zero_add, Nat.add_zero, Int.toNat_natCast, hNc]
    rw [resVal_2 rfl]; simp (disch := first | assumption | omega | rfl | simp only [hAt_app, hAt_app0, List.getElem?_cons_zero, List.getElem?_cons_succ]) only [↓RP, RG, FX, decide_eq_true, decide_eq_false, Bool.not_true, Bool.not_false, Option.map_some, List.map_cons, List.map_nil, List.getElem?_cons_zero, List.getElem?_cons_succ, ↓reduceIte, Nat.reduceEqDiff, reduceCtorEq, decide_eq_true_eq, decide_eq_false_iff_not, Option.map_none, Option.bind_some, List.contains_nil, List.contains_cons, Nat.reduceBEq, Bool.or_false, Bool.false_or, Bool.or_self, List.set_cons_zero, List.set_cons_succ, List.take_succ_cons, List.take_zero, List.drop_succ_cons, List.drop_zero, List.length_cons, List.length_nil, List.length_append, Nat.reduceAdd, Nat.reduceLeDiff, List.all_cons, List.all_nil, Bool.and_true, and_true, true_and, and_self, ne_eq, not_false_eq_true, List.cons_append, List.nil_append, List.append_nil, List.append_assoc, Nat.zero_add, Nat.add_zero, Int.toNat_natCast, RS]
    first | done | rfl
  · rw [if_neg c] at hap
    subst hap
    simp (disch := first | assumption | omega | rfl | simp only [hAt_app, hAt_app0, List.getElem?_cons_zero, List.getElem?_cons_succ]) only [↓RP, RG, FX, decide_eq_true, decide_eq_false, Bool.not_true, Bool.not_false, Option.map_some, List.map_cons, List.map_nil, List.getElem?_cons_zero, List.getElem?_cons_succ, ↓reduceIte, Nat.reduceEqDiff, reduceCtorEq, decide_eq_true_eq, decide_eq_false_iff_not, Option.map_none, Option.bind_some, List.contains_nil, List.contains_cons, Nat.reduceBEq, Bool.or_false, Bool.false_or, Bool.or_self, List.set_cons_zero, List.set_cons_succ, List.take_succ_cons, List.take_zero, List.drop_succ_cons, List.drop_zero, List.length_cons, List.length_nil, List.length_append, Nat.reduceAdd, Nat.reduceLeDiff, List.all_cons, List.all_nil, Bool.and_true, and_true, true_and, and_self, ne_eq, not_false_eq_true, List.cons_append, List.nil_append, List.append_nil, List.append_assoc, Nat.zero_add, Nat.add_zero, Int.toNat_natCast, hNc]
    rw [resVal_2 rfl]; simp (disch := first | assumption | omega | rfl | simp only [hAt_app, hAt_app0, List.getElem?_cons_zero, List.getElem?_cons_succ]) only [↓RP, RG, FX, decide_eq_true, decide_eq_false, Bool.not_true, Bool.not_false, Option.map_some, List.map_cons, List.map_nil, List.getElem?_cons_zero, List.getElem?_cons_succ, ↓reduceIte, Nat.reduceEqDiff, reduceCtorEq, decide_eq_true_eq, decide_eq_false_iff_not, Option.map_none, Option.bind_some, List.contains_nil, List.contains_cons, Nat.reduceBEq, Bool.or_false, Bool.false_or, Bool.or_self, List.set_cons_zero, List.set_cons_succ, List.take_succ_cons, List.take_zero, List.drop_succ_cons, List.drop_zero, List.length_cons, List.length_nil, List.length_append, Nat.reduceAdd, Nat.reduceLeDiff, List.all_cons, List.all_nil, Bool.and_true, and_true, true_and, and_self, ne_eq, not_false_eq_true, List.cons_append, List.nil_append, List.append_nil, List.append_assoc, Nat.zero_add, Nat.add_zero, Int.toNat_natCast, RS]
    first | done | (rw [isEmpty_pos b1]; rfl) | rw [isEmpty_pos b1]
theorem hangsP_c {W H n : Nat} (hN : W + H = n) (hW0 : 0 < W) (hH0 : 0 < H) (hn40 : n ≤ 40) (b : Bool) {l : List Bool} (hn : l.length = W * H) :
    Contract Tryz.prog 7 [GA W H b l] (.tuple [B (decide ((best W n l (n - 1)).length = n)), I 0]) := by
  have hF := apartP_c hN hW0 hH0 hn40 b hn
  obtain ⟨b1, b2⟩ := best_ok (W := W) (n := n) l (n - 1) (by omega)
  have hap : apt W n l = if (best W n l (n - 1)).length = n then [] else best W n l (n - 1) := rfl
  generalize best W n l (n - 1) = x at *
  generalize apt W n l = y at *
  refine Contract.intro (effS [] false) 6 follows Tryz.func7 rfl rfl (by kernel_rfl) (Nat.le_of_ble_eq_true rfl) ?_
  simp (disch := first | assumption | omega | rfl | simp only [hAt_app, hAt_app0, List.getElem?_cons_zero, List.getElem?_cons_succ]) only [↓RP, RG, FX, decide_eq_true, decide_eq_false, Bool.not_true, Bool.not_false, Option.map_some, List.map_cons, List.map_nil, List.getElem?_cons_zero, List.getElem?_cons_succ, ↓reduceIte, Nat.reduceEqDiff, reduceCtorEq, decide_eq_true_eq, decide_eq_false_iff_not, Option.map_none, Option.bind_some, List.contains_nil, List.contains_cons, Nat.reduceBEq, Bool.or_false, Bool.false_or, Bool.or_self, List.set_cons_zero, List.set_cons_succ, List.take_succ_cons, List.take_zero, List.drop_succ_cons, List.drop_zero, List.length_cons, List.length_nil, List.length_append, Nat.reduceAdd, Nat.reduceLeDiff, List.all_cons, List.all_nil, Bool.and_true, and_true, true_and, and_self, ne_eq, not_false_eq_true, List.cons_append, List.nil_append, List.append_nil, List.append_assoc, Nat.zero_add, Nat.add_zero, Int.toNat_natCast, args0_1]
  refine callK_F 6 hF (by simp (disch := first | assumption | omega | rfl | simp only [hAt_app, hAt_app0, List.getElem?_cons_zero, List.getElem?_cons_succ]) only [↓RP, RG, FX, decide_eq_true, decide_eq_false, Bool.not_true, Bool.not_false, Option.map_some, List.map_cons, List.map_nil, List.getElem?_cons_zero, List.getElem?_cons_succ, ↓reduceIte, Nat.reduceEqDiff, reduceCtorEq, decide_eq_true_eq, decide_eq_false_iff_not, Option.map_none, Option.bind_some, List.contains_nil, List.contains_cons, Nat.reduceBEq, Bool.or_false, Bool.false_or, Bool.or_self, List.set_cons_zero, List.set_cons_succ, List.take_succ_cons, List.take_zero, List.drop_succ_cons, List.drop_zero, List.length_cons, List.length_nil, List.length_append, Nat.reduceAdd, Nat.reduceLeDiff, List.all_cons, List.all_nil, Bool.and_true, and_true, true_and, and_self, ne_eq, not_false_eq_true, List.cons_append, List.nil_append, List.append_nil, List.append_assoc, Nat.zero_add, Nat.add_zero, Int.toNat_natCast, RA] <;> rfl) (.inl (by simp [allFresh, ints_fresh])) ?_
  by_cases c : x.length = n
  · rw [if_pos c] at hap
    have hy : y.length = 0 := by rw [hap]; rfl
    simp (disch := first | assumption | omega | rfl | simp only [hAt_app, hAt_app0, List.getElem?_cons_zero, List.getElem?_cons_succ]) only [↓RP, RG, FX, decide_eq_true, decide_eq_false, Bool.not_true, Bool.not_false, Option.map_some, List.map_cons, List.map_nil, List.getElem?_cons_zero, List.getElem?_cons_succ, ↓reduceIte, Nat.reduceEqDiff, reduceCtorEq, decide_eq_true_eq, decide_eq_false_iff_not, Option.map_none, Option.bind_some, List.contains_nil, List.contains_cons, Nat.reduceBEq, Bool.or_false, Bool.false_or, Bool.or_self, List.set_cons_zero, List.set_cons_succ, List.take_succ_cons, List.take_zero, List.drop_succ_cons, List.drop_zero, List.length_cons, List.length_nil, List.length_append, Nat.reduceAdd, Nat.reduceLeDiff, List.all_cons, List.all_nil, Bool.and_true, and_true, true_and, and_self, ne_eq, not_false_eq_true, List.cons_append, List.nil_append, List.append_nil, List.append_assoc, Nat.zero_add, Nat.add_zero, Int.toNat_natCast]
    rw [resVal_2 rfl]; simp (disch := first | assumption | omega | rfl | simp only [hAt_app, hAt_app0, List.getElem?_cons_zero, List.getElem?_cons_succ]) only [↓RP, RG, FX, decide_eq_true, decide_eq_false, Bool.not_true, Bool.not_false, Option.map_some, List.map_cons, List.map_nil, List.getElem?_cons_zero, List.getElem?_cons_succ, ↓reduceIte, Nat.reduceEqDiff, reduceCtorEq, decide_eq_true_eq, decide_eq_false_iff_not, Option.map_none, Option.bind_some, List.contains_nil, List.contains_cons, Nat.reduceBEq, Bool.or_false, Bool.false_or, Bool.or_self, List.set_cons_zero, List.set_cons_succ, List.take_succ_cons, List.take_zero, List.drop_succ_cons, List.drop_zero, List.length_cons, List.length_nil, List.length_append, Nat.reduceAdd, Nat.reduceLeDiff, List.all_cons, List.all_nil, Bool.and_true, and_true, true_and, and_self, ne_eq, not_false_eq_true, List.cons_append, List.nil_append, List.append_nil, List.append_assoc, Nat.zero_add, Nat.add_zero, Int.toNat_natCast, RS]
    first | done | simp [c]
  · rw [if_neg c] at hap
    have hy : 0 < y.length := by rw [hap]; exact b1
    simp (disch := first | assumption | omega | rfl | simp only [hAt_app, hAt_app0, List.getElem?_cons_zero, List.getElem?_cons_succ]) only [↓RP, RG, FX, decide_eq_true, decide_eq_false, Bool.not_true, Bool.not_false, Option.map_some, List.map_cons, List.map_nil, List.getElem?_cons_zero, List.getElem?_cons_succ, ↓reduceIte, Nat.reduceEqDiff, reduceCtorEq, decide_eq_true_eq, decide_eq_false_iff_not, Option.map_none, Option.bind_some, List.contains_nil, List.contains_cons, Nat.reduceBEq, Bool.or_false, Bool.false_or, Bool.or_self, List.set_cons_zero, List.set_cons_succ, List.take_succ_cons, List.take_zero, List.drop_succ_cons, List.drop_zero, List.length_cons, List.length_nil, List.length_append, Nat.reduceAdd, Nat.reduceLeDiff, List.all_cons, List.all_nil, Bool.and_true, and_true, true_and, and_self, ne_eq, not_false_eq_true, List.cons_append, List.nil_append, List.append_nil, List.append_assoc, Nat.zero_add, Nat.add_zero, Int.toNat_natCast]
    rw [resVal_2 rfl]; simp (disch := first | assumption | omega | rfl | simp only [hAt_app, hAt_app0, List.getElem?_cons_zero, List.getElem?_cons_succ]) only [↓RP, RG, FX, decide_eq_true, decide_eq_false, Bool.not_true, Bool.not_false, Option.map_some, List.map_cons, List.map_nil, List.getElem?_cons_zero, List.getElem?_cons_succ, ↓reduceIte, Nat.reduceEqDiff, reduceCtorEq, decide_eq_true_eq, decide_eq_false_iff_not, Option.map_none, Option.bind_some, List.contains_nil, List.contains_cons, Nat.reduceBEq, Bool.or_false, Bool.false_or, Bool.or_self, List.set_cons_zero, List.set_cons_succ, List.take_succ_cons, List.take_zero, List.drop_succ_cons, List.drop_zero, List.length_cons, List.length_nil, List.length_append, Nat.reduceAdd, Nat.reduceLeDiff, List.all_cons, List.all_nil, Bool.and_true, and_true, true_and, and_self, ne_eq, not_false_eq_true, List.cons_append, List.nil_append, List.append_nil, List.append_assoc, Nat.zero_add, Nat.add_zero, Int.toNat_natCast, RS]
    first | done | simp [c]
end Go.Proofs.YtkcicgadggiklaaGreatDoor

/- A set of threads: is it one, and which are in it. -/
set_option linter.unusedSimpArgs false
set_option linter.unusedVariables false
set_option maxRecDepth 100000
namespace Go.Proofs.YtkcicgadggiklaaGreatDoor
open Go Go.Proofs Go.AW

/-- The first k are threads, and each is more than the one ahead of it. -/
def okS (n : Nat) (s : List Int) (k : Nat) : Prop := ∀ i, i < k → (0 ≤ s.getD i 0 ∧ s.getD i 0 < n) ∧ (0 < i → s.getD (i - 1) 0 < s.getD i 0)
end Go.Proofs.YtkcicgadggiklaaGreatDoor

/- Off, of both. -/
set_option linter.unusedSimpArgs false
set_option linter.unusedVariables false
set_option maxRecDepth 100000
namespace Go.Proofs.YtkcicgadggiklaaGreatDoor
open Go Go.Proofs Go.AW

end Go.Proofs.YtkcicgadggiklaaGreatDoor

/- Off, by the program. -/
set_option linter.unusedSimpArgs false
set_option linter.unusedVariables false
set_option maxRecDepth 100000
namespace Go.Proofs.YtkcicgadggiklaaGreatDoor
open Go Go.Proofs Go.AW

end Go.Proofs.YtkcicgadggiklaaGreatDoor

/- The law HangAsks. -/
set_option linter.unusedSimpArgs false
set_option linter.unusedVariables false
set_option maxRecDepth 100000
namespace Go.Proofs.YtkcicgadggiklaaGreatDoor
open Go Go.Proofs Go.AW

end Go.Proofs.YtkcicgadggiklaaGreatDoor

/- What the search says: each thread that is reached has a next one that is nearer. -/
set_option linter.unusedSimpArgs false
set_option linter.unusedVariables false
set_option maxRecDepth 100000
namespace Go.Proofs.YtkcicgadggiklaaGreatDoor
open Go Go.Proofs Go.AW

/-- What holds all along, of the ways. -/
structure Near (n a : Nat) (adj : Nat → List Nat) (far : List Int) (q : List Nat) : Prop where
  q0 : ∀ c ∈ q, 0 ≤ far.getD c 0
  one : ∀ x, x < n → far.getD x 0 = 0 → x = a
  zero : far.getD a 0 = 0
  next : ∀ x, x < n → 0 < far.getD x 0 → ∃ c, c < n ∧ far.getD c 0 = far.getD x 0 - 1 ∧ x ∈ adj c
theorem Near.push {n a : Nat} {adj : Nat → List Nat} {far : List Int} {q : List Nat} (h : Near n a adj far q) (hs : far.length = n) {b c : Nat} (hb : b < n) (hc : c < n) (hc0 : 0 ≤ far.getD c 0) (hn : far.getD b 0 < 0) (hadj : b ∈ adj c) : Near n a adj (far.set b (far.getD c 0 + 1)) (q ++ [b]) := by
  have hbl : b < far.length := by omega
  refine ⟨fun x hx => ?_, fun x hx h0 => ?_, ?_, fun x hx h0 => ?_⟩
  · rw [getD_set' hbl]
    split
    · omega
    · rcases List.mem_append.1 hx with g | g
      · exact h.q0 x g
      · rename_i hne
        exact absurd (by simpa using g) hne
  · rw [getD_set' hbl] at h0
    split at h0
    · omega
    · exact h.one x hx h0
  · rw [getD_set' hbl]
    have := h.zero
    rw [if_neg (fun e => by subst e; omega)]
    exact this
  · rw [getD_set' hbl] at h0 ⊢
    by_cases e : x = b
    · subst e
      rw [if_pos rfl] at h0 ⊢
      refine ⟨c, hc, ?_, hadj⟩
      rw [getD_set' hbl, if_neg (fun e => by subst e; omega)]
      omega
    · rw [if_neg e] at h0 ⊢
      obtain ⟨d, h1, h2, h3⟩ := h.next x hx h0
      refine ⟨d, h1, ?_, h3⟩
      rw [getD_set' hbl, if_neg (fun e => by subst e; omega)]
      exact h2
theorem inner_near {n a : Nat} {adj : Nat → List Nat} {c : Nat} (hc : c < n) : ∀ (ds : List Nat) (far : List Int) (q : List Nat), (∀ b ∈ ds, b < n ∧ b ∈ adj c) → Sound n far q → 0 ≤ far.getD c 0 → Near n a adj far q → Near n a adj (inner c ds (far, q)).1 (inner c ds (far, q)).2
  | [], far, q, _, _, _, h => h
  | b :: r, far, q, hd, hs, hc0, h => by
    have hd' : ∀ x ∈ r, x < n ∧ x ∈ adj c := fun x hx => hd x (List.mem_cons_of_mem _ hx)
    obtain ⟨hb, hbc⟩ := hd b List.mem_cons_self
    simp only [inner]
    split
    · rename_i hneg
      obtain ⟨h1, h2⟩ := hs.push hb hc hneg
      refine inner_near hc r _ _ hd' h1 ?_ (h.push hs.len hb hc hc0 hneg hbc)
      rw [getD_set' (by rw [hs.len]; exact hb), if_neg (fun e => by subst e; omega)]
      exact hc0
    · exact inner_near hc r far q hd' hs hc0 h
theorem bfs_near {n a : Nat} {adj : Nat → List Nat} (ha : ∀ c, c < n → ∀ b ∈ adj c, b < n) : ∀ (k : Nat) (far : List Int) (q : List Nat), Sound n far q → Near n a adj far q → ∃ q', Near n a adj (bfs adj k far q) q'
  | 0, far, q, _, h => ⟨q, h⟩
  | k + 1, far, [], _, h => ⟨[], h⟩
  | k + 1, far, c :: q, hs, h =>
    have hc := hs.mem c List.mem_cons_self
    bfs_near ha k _ _ (inner_ok hc (adj c) far q (ha c hc) hs.tail).1
      (inner_near hc (adj c) far q (fun b hb => ⟨ha c hc b hb, hb⟩) hs.tail (h.q0 c List.mem_cons_self) ⟨fun x hx => h.q0 x (List.mem_cons_of_mem _ hx), h.one, h.zero, h.next⟩)
theorem srch_near {W n : Nat} (l : List Bool) {a : Nat} (ha : a < n) : ∃ q, Near n a (adjT W n l) (srch (adjT W n l) (far0 n a) [a]) q := by
  refine bfs_near (fun c hc x hx => adjT_lt hx) _ _ _ (far0_sound ha).1 ?_
  have hl : a < (List.replicate n (-1 : Int)).length := by simpa using ha
  have hrep : ∀ x, x < n → (List.replicate n (-1 : Int)).getD x 0 = -1 := fun x hx => by simp [List.getD_eq_getElem?_getD, List.getElem?_replicate, hx]
  unfold far0
  refine ⟨fun x hx => ?_, fun x hx h0 => ?_, ?_, fun x hx h0 => ?_⟩
  · rw [getD_set' hl, if_pos (by simpa using hx)]; omega
  · rw [getD_set' hl] at h0
    by_cases e : x = a
    · exact e
    · rw [if_neg e, hrep x hx] at h0; omega
  · rw [getD_set' hl, if_pos rfl]
  · rw [getD_set' hl] at h0
    by_cases e : x = a
    · rw [if_pos e] at h0; omega
    · rw [if_neg e, hrep x hx] at h0; omega
end Go.Proofs.YtkcicgadggiklaaGreatDoor

/- The way, by the reference. -/
set_option linter.unusedSimpArgs false
set_option linter.unusedVariables false
set_option maxRecDepth 100000
namespace Go.Proofs.YtkcicgadggiklaaGreatDoor
open Go Go.Proofs Go.AW

/-- What the distances to a are. -/
structure Dist (W n : Nat) (l : List Bool) (a : Nat) (far : List Int) : Prop where
  len : far.length = n
  low : ∀ i, i < n → -1 ≤ far.getD i 0
  high : ∀ i, i < n → far.getD i 0 ≤ n
  one : ∀ x, x < n → far.getD x 0 = 0 → x = a
  zero : far.getD a 0 = 0
  next : ∀ x, x < n → 0 < far.getD x 0 → ∃ c, c < n ∧ far.getD c 0 = far.getD x 0 - 1 ∧ ov W l x c = true
end Go.Proofs.YtkcicgadggiklaaGreatDoor

/- A cloth that hangs together: every way is there. The walk, plain. -/
set_option linter.unusedSimpArgs false
set_option linter.unusedVariables false
set_option maxRecDepth 100000
namespace Go.Proofs.YtkcicgadggiklaaGreatDoor
open Go Go.Proofs Go.AW

theorem upN_all {far : List Int} : ∀ {n : Nat}, (upN far n).length = n → ∀ i, i < n → 0 ≤ far.getD i 0 := by
  intro n
  induction n with
  | zero => intro _ i hi; omega
  | succ n ih =>
    intro h i hi
    have hle := upN_le far n
    simp only [upN] at h
    split at h
    · rename_i h0
      simp only [List.length_append, List.length_singleton] at h
      by_cases e : i = n
      · subst e; exact h0
      · exact ih (by omega) i (by omega)
    · omega
theorem best_least (W n : Nat) (l : List Bool) : ∀ k j, j ≤ k → (best W n l k).length ≤ (upon W n l j).length := by
  intro k
  induction k with
  | zero => intro j hj; obtain rfl : j = 0 := by omega
            exact Nat.le_refl _
  | succ k ih =>
    intro j hj
    simp only [best]
    by_cases e : j = k + 1
    · subst e
      split
      · exact Nat.le_refl _
      · rename_i h
        unfold less at h
        have := Classical.byContradiction fun hh => h (.inl (Nat.lt_of_not_le hh))
        exact this
    · have := ih j (by omega)
      split
      · rename_i h
        unfold less at h
        rcases h with h | h <;> omega
      · exact this
/-- Where the cloth hangs together, each thread is reached from each. -/
theorem all_near {W n : Nat} (l : List Bool) (hb : (best W n l (n - 1)).length = n) {a x : Nat} (ha : a < n) (hx : x < n) : 0 ≤ (srch (adjT W n l) (far0 n a) [a]).getD x 0 := by
  have h1 := best_least W n l (n - 1) a (by omega)
  have h2 := upon_le W n l a
  exact upN_all (show (upN (srch (adjT W n l) (far0 n a) [a]) n).length = n by show (upon W n l a).length = n; omega) x hx
end Go.Proofs.YtkcicgadggiklaaGreatDoor

/- The next thread of the way, by the program. -/
set_option linter.unusedSimpArgs false
set_option linter.unusedVariables false
set_option maxRecDepth 100000
namespace Go.Proofs.YtkcicgadggiklaaGreatDoor
open Go Go.Proofs Go.AW

end Go.Proofs.YtkcicgadggiklaaGreatDoor

/- Accept, by the reference. -/
set_option linter.unusedSimpArgs false
set_option linter.unusedVariables false
set_option maxRecDepth 100000
namespace Go.Proofs.YtkcicgadggiklaaGreatDoor
open Go Go.Proofs Go.AW

end Go.Proofs.YtkcicgadggiklaaGreatDoor

/- The walk, by the reference. -/
set_option linter.unusedSimpArgs false
set_option linter.unusedVariables false
set_option maxRecDepth 100000
namespace Go.Proofs.YtkcicgadggiklaaGreatDoor
open Go Go.Proofs Go.AW

end Go.Proofs.YtkcicgadggiklaaGreatDoor

/- The walk, by the program. -/
set_option linter.unusedSimpArgs false
set_option linter.unusedVariables false
set_option maxRecDepth 100000
namespace Go.Proofs.YtkcicgadggiklaaGreatDoor
open Go Go.Proofs Go.AW

/-- The walk as yet: the literal, or a row of its own at id. -/
def pv (id : Nat) (p : Bool) (o : List Int) : AVal := if p then .ref id 0 o.length o.length else .lit 1 (ints [0])
end Go.Proofs.YtkcicgadggiklaaGreatDoor

/- The different numbers of a list: sequences of its values, sorted, compacted. -/
set_option linter.unusedSimpArgs false
set_option linter.unusedVariables false
set_option maxRecDepth 100000
namespace Go.Proofs.YtkcicgadggiklaaGreatDoor
open Go Go.Proofs Go.AW

end Go.Proofs.YtkcicgadggiklaaGreatDoor

/- The different numbers of a list, and its elements' places among them. -/
set_option linter.unusedSimpArgs false
set_option linter.unusedVariables false
set_option maxRecDepth 100000
namespace Go.Proofs.YtkcicgadggiklaaGreatDoor
open Go Go.Proofs Go.AW

end Go.Proofs.YtkcicgadggiklaaGreatDoor

/- Parts of Accept, by the program. -/
set_option linter.unusedSimpArgs false
set_option linter.unusedVariables false
set_option maxRecDepth 100000
namespace Go.Proofs.YtkcicgadggiklaaGreatDoor
open Go Go.Proofs Go.AW

end Go.Proofs.YtkcicgadggiklaaGreatDoor

/- Accept, by the program. -/
set_option linter.unusedSimpArgs false
set_option linter.unusedVariables false
set_option maxRecDepth 100000
namespace Go.Proofs.YtkcicgadggiklaaGreatDoor
open Go Go.Proofs Go.AW

end Go.Proofs.YtkcicgadggiklaaGreatDoor

/- What hanging together is: no closed set but all. Plain. -/
set_option linter.unusedSimpArgs false
set_option linter.unusedVariables false
set_option maxRecDepth 100000
namespace Go.Proofs.YtkcicgadggiklaaGreatDoor
open Go Go.Proofs Go.AW

/-- With a thread, all that lie over it. -/
def Cl (W n : Nat) (l : List Bool) (M : Nat → Prop) : Prop := ∀ c, c < n → M c → ∀ a, a < n → ov W l a c = true → M a
theorem mem_adjT {W n : Nat} {l : List Bool} {c a : Nat} : a ∈ adjT W n l c ↔ a < n ∧ ov W l a c = true := by
  simp only [adjT, List.mem_filter, List.mem_range]
/-- What is reached from a is in each closed set that a is in. -/
theorem reach_in {W n : Nat} {l : List Bool} {a : Nat} (ha : a < n) {M : Nat → Prop} (hM : Cl W n l M) (h0 : M a) : ∀ (d x : Nat), x < n → (srch (adjT W n l) (far0 n a) [a]).getD x 0 = d → M x := by
  obtain ⟨q, hN⟩ := srch_near (W := W) l ha
  intro d
  induction d with
  | zero => intro x hx h; rw [hN.one x hx h]; exact h0
  | succ d ih =>
    intro x hx h
    obtain ⟨c, c1, c2, c3⟩ := hN.next x hx (by omega)
    exact hM c c1 (ih c c1 (by omega)) x hx (mem_adjT.1 c3).2
theorem inner_done {n c : Nat} (hc : c < n) : ∀ (ds : List Nat) (far : List Int) (q : List Nat), (∀ b ∈ ds, b < n) → Sound n far q → 0 ≤ far.getD c 0 →
    (∀ x, 0 ≤ far.getD x 0 → 0 ≤ (inner c ds (far, q)).1.getD x 0) ∧ (∀ b ∈ ds, 0 ≤ (inner c ds (far, q)).1.getD b 0) ∧ (∀ x, x < n → 0 ≤ (inner c ds (far, q)).1.getD x 0 → 0 ≤ far.getD x 0 ∨ x ∈ (inner c ds (far, q)).2) ∧ ∀ x ∈ q, x ∈ (inner c ds (far, q)).2
  | [], far, q, _, _, _ => ⟨fun x h => h, fun b hb => absurd hb (by simp), fun x hx h => Or.inl h, fun x h => h⟩
  | b :: r, far, q, hd, hs, hc0 => by
    have hd' : ∀ x ∈ r, x < n := fun x hx => hd x (List.mem_cons_of_mem _ hx)
    have hb := hd b List.mem_cons_self
    have hbl : b < far.length := by rw [hs.len]; exact hb
    simp only [inner]
    split
    · rename_i hneg
      obtain ⟨h1, h2⟩ := hs.push hb hc hneg
      have hc1 : 0 ≤ (far.set b (far.getD c 0 + 1)).getD c 0 := by
        rw [getD_set' hbl]; split <;> omega
      obtain ⟨i1, i2, i3, i4⟩ := inner_done hc r _ _ hd' h1 hc1
      refine ⟨fun x hx => i1 x ?_, fun x hx => ?_, fun x hx h => ?_, fun x hx => i4 x (List.mem_append_left _ hx)⟩
      · rw [getD_set' hbl]; split <;> omega
      · rcases List.mem_cons.1 hx with e | e
        · subst e
          refine i1 x ?_
          rw [getD_set' hbl, if_pos rfl]; omega
        · exact i2 x e
      · rcases i3 x hx h with g | g
        · rw [getD_set' hbl] at g
          by_cases e : x = b
          · exact .inr (i4 x (by simp [e]))
          · rw [if_neg e] at g; exact .inl g
        · exact .inr g
    · rename_i hneg
      obtain ⟨i1, i2, i3, i4⟩ := inner_done hc r far q hd' hs hc0
      refine ⟨i1, fun x hx => ?_, i3, i4⟩
      rcases List.mem_cons.1 hx with e | e
      · subst e; exact i1 x (by omega)
      · exact i2 x e
/-- Each one that is reached is in the queue, or all next to it are reached. -/
def Done (n : Nat) (adj : Nat → List Nat) (far : List Int) (q : List Nat) : Prop := (∀ c ∈ q, 0 ≤ far.getD c 0) ∧ ∀ c, c < n → 0 ≤ far.getD c 0 → c ∈ q ∨ ∀ b ∈ adj c, 0 ≤ far.getD b 0
theorem bfs_done {n : Nat} {adj : Nat → List Nat} (ha : ∀ c, c < n → ∀ b ∈ adj c, b < n) : ∀ (k : Nat) (far : List Int) (q : List Nat), Sound n far q → Done n adj far q → 2 * neg far + q.length ≤ k → Done n adj (bfs adj k far q) []
  | 0, far, q, _, h, hk => by
    have : q = [] := List.eq_nil_of_length_eq_zero (by omega)
    subst this; exact h
  | k + 1, far, [], _, h, _ => h
  | k + 1, far, c :: q, hs, h, hk => by
    have hc := hs.mem c List.mem_cons_self
    have hc0 := h.1 c List.mem_cons_self
    obtain ⟨h1, h2⟩ := inner_ok hc (adj c) far q (ha c hc) hs.tail
    obtain ⟨i1, i2, i3, i4⟩ := inner_done hc (adj c) far q (ha c hc) hs.tail hc0
    simp only [List.length_cons] at hk
    refine bfs_done ha k _ _ h1 ⟨fun x hx => ?_, fun x hx hx0 => ?_⟩ (by omega)
    · refine Classical.byContradiction fun hneg => ?_
      have hN : ∀ (ds : List Nat) (far : List Int) (q : List Nat), (∀ b ∈ ds, b < n) → Sound n far q → 0 ≤ far.getD c 0 → (∀ y ∈ q, 0 ≤ far.getD y 0) → ∀ y ∈ (inner c ds (far, q)).2, 0 ≤ (inner c ds (far, q)).1.getD y 0 := by
        intro ds
        induction ds with
        | nil => intro far q _ _ _ hq; exact hq
        | cons b r ih =>
          intro far q hd hs hc0 hq
          have hb := hd b List.mem_cons_self
          have hbl : b < far.length := by rw [hs.len]; exact hb
          simp only [inner]
          split
          · rename_i hneg
            refine ih _ _ (fun x hx => hd x (List.mem_cons_of_mem _ hx)) (hs.push hb hc hneg).1 ?_ (fun y hy => ?_)
            · rw [getD_set' hbl]; split <;> omega
            · rw [getD_set' hbl]
              split
              · omega
              · rename_i hne
                rcases List.mem_append.1 hy with g | g
                · exact hq y g
                · exact absurd (by simpa using g) hne
          · exact ih _ _ (fun x hx => hd x (List.mem_cons_of_mem _ hx)) hs hc0 hq
      exact hneg (hN (adj c) far q (ha c hc) hs.tail hc0 (fun y hy => h.1 y (List.mem_cons_of_mem _ hy)) x hx)
    · rcases i3 x hx hx0 with g | g
      · rcases h.2 x hx g with e | e
        · rcases List.mem_cons.1 e with e | e
          · subst e; exact .inr i2
          · exact .inl (i4 x e)
        · exact .inr fun b hb => i1 b (e b hb)
      · exact .inl g
/-- What is reached from a. -/
def Rch (W n : Nat) (l : List Bool) (a x : Nat) : Prop := 0 ≤ (srch (adjT W n l) (far0 n a) [a]).getD x 0
instance (W n : Nat) (l : List Bool) (a x : Nat) : Decidable (Rch W n l a x) := by unfold Rch; infer_instance
theorem rch_cl {W n : Nat} (l : List Bool) {a : Nat} (ha : a < n) : Cl W n l (Rch W n l a) := by
  have h : Done n (adjT W n l) (srch (adjT W n l) (far0 n a) [a]) [] := by
    refine bfs_done (fun c hc x hx => adjT_lt hx) _ _ _ (far0_sound ha).1 ⟨fun c hc => ?_, fun c hc hc0 => ?_⟩ (Nat.le_refl _)
    · obtain rfl : c = a := by simpa using hc
      unfold far0
      rw [getD_set' (by simpa using ha), if_pos rfl]; omega
    · by_cases e : c = a
      · exact .inl (by simp [e])
      · unfold far0 at hc0
        rw [getD_set' (by simpa using ha), if_neg e] at hc0
        simp [List.getD_eq_getElem?_getD, List.getElem?_replicate, hc] at hc0
  intro c hc hR x hx hov
  rcases h.2 c hc hR with g | g
  · cases g
  · exact g x (mem_adjT.2 ⟨hx, hov⟩)
theorem rch_self {W n : Nat} (l : List Bool) {a : Nat} (ha : a < n) : Rch W n l a a := srch_self l ha
theorem rch_in {W n : Nat} {l : List Bool} {a x : Nat} (ha : a < n) (hx : x < n) {M : Nat → Prop} (hM : Cl W n l M) (h0 : M a) (h : Rch W n l a x) : M x :=
  reach_in ha hM h0 ((srch (adjT W n l) (far0 n a) [a]).getD x 0).toNat x hx (by unfold Rch at h; omega)
/-- The numbers below k that are wanted: upN, upon. -/
theorem upN_eq (far : List Int) (k : Nat) : upN far k = nI ((List.range k).filter fun i => decide (0 ≤ far.getD i 0)) := by
  induction k with
  | zero => rfl
  | succ k ih =>
    simp only [upN]
    rw [List.range_succ, List.filter_append, ih]
    split
    · rename_i h
      rw [List.filter_cons_of_pos (by simpa using h), List.filter_nil, nI_app]
    · rename_i h
      rw [List.filter_cons_of_neg (by simpa using h), List.filter_nil, List.append_nil]
theorem upon_eq (W n : Nat) (l : List Bool) (a : Nat) : upon W n l a = nI ((List.range n).filter fun i => decide (Rch W n l a i)) := upN_eq _ _
theorem best_upon (W n : Nat) (l : List Bool) : ∀ k, ∃ j, j ≤ k ∧ best W n l k = upon W n l j := by
  intro k
  induction k with
  | zero => exact ⟨0, Nat.le_refl _, rfl⟩
  | succ k ih =>
    simp only [best]
    split
    · exact ⟨k + 1, Nat.le_refl _, rfl⟩
    · obtain ⟨j, h1, h2⟩ := ih; exact ⟨j, by omega, h2⟩
/-- The cloth hangs together. -/
def Hg (W n : Nat) (l : List Bool) : Prop := ∀ M : Nat → Prop, Cl W n l M → (∃ c, c < n ∧ M c) → ∀ x, x < n → M x
theorem hg_best {W n : Nat} {l : List Bool} (hn : 0 < n) : (best W n l (n - 1)).length = n ↔ Hg W n l := by
  constructor
  · rintro hb M hM ⟨c, hc, h0⟩ x hx
    exact rch_in hc hx hM h0 (all_near l hb hc hx)
  · intro h
    obtain ⟨j, h1, h2⟩ := best_upon W n l (n - 1)
    have hall : ∀ x, x < n → Rch W n l j x := h _ (rch_cl l (by omega)) ⟨j, by omega, rch_self l (by omega)⟩
    rw [h2, upon_eq, List.filter_eq_self.2 (fun x hx => decide_eq_true (hall x (List.mem_range.1 hx))), nI_len, List.length_range]
end Go.Proofs.YtkcicgadggiklaaGreatDoor

/- Whole walks, and sets that come off. Plain. -/
set_option linter.unusedSimpArgs false
set_option linter.unusedVariables false
set_option maxRecDepth 100000
namespace Go.Proofs.YtkcicgadggiklaaGreatDoor
open Go Go.Proofs Go.AW

end Go.Proofs.YtkcicgadggiklaaGreatDoor

/- Sets told by their threads; the back. Plain. -/
set_option linter.unusedSimpArgs false
set_option linter.unusedVariables false
set_option maxRecDepth 100000
namespace Go.Proofs.YtkcicgadggiklaaGreatDoor
open Go Go.Proofs Go.AW

/-- The back. -/
theorem hg_rev {W n W' : Nat} {l l' : List Bool} (φ : Nat → Nat) (h1 : ∀ a, a < n → φ a < n) (h2 : ∀ a, a < n → φ (φ a) = a) (hov : ∀ a, a < n → ∀ c, c < n → ov W' l' a c = ov W l (φ c) (φ a)) : Hg W n l → Hg W' n l' := by
  rintro h M hM ⟨c0, hc0, m0⟩ x hx
  refine Classical.byContradiction fun hx0 => ?_
  refine h (fun y => ¬ M (φ y)) (fun c hc hm a ha ho hma => ?_) ⟨φ x, h1 x hx, by rw [h2 x hx]; exact hx0⟩ (φ c0) (h1 c0 hc0) (by rw [h2 c0 hc0]; exact m0)
  exact hm (hM (φ a) (h1 a ha) hma (φ c) (h1 c hc) (by rw [hov _ (h1 c hc) _ (h1 a ha), h2 a ha, h2 c hc]; exact ho))
end Go.Proofs.YtkcicgadggiklaaGreatDoor

/- Faces, backs and tubes, by the program; the back hangs together where the cloth does. -/
set_option linter.unusedSimpArgs false
set_option linter.unusedVariables false
set_option maxRecDepth 100000
namespace Go.Proofs.YtkcicgadggiklaaGreatDoor
open Go Go.Proofs Go.AW

theorem thr_same {W H : Nat} (hW0 : 0 < W) (hH0 : 0 < H) (hW : W ≤ 64) (hH : H ≤ 64) {l1 l2 l3 : List Bool} (n1 : l1.length = W * H) (n2 : l2.length = W * H) (n3 : l3.length = W * H) : thr W H l1.length W H l2.length W H l3.length = 0 := by
  have g1 : gchk W H l1.length = 0 := gchk_ok ⟨by omega, by omega, by omega, by omega, by rw [n1, Int.natCast_mul]⟩
  have g2 : gchk W H l2.length = 0 := by rw [n2, ← n1]; exact g1
  have g3 : gchk W H l3.length = 0 := by rw [n3, ← n1]; exact g1
  unfold thr
  rw [if_neg (by omega), if_neg (by omega), if_neg (by omega), if_pos ⟨rfl, rfl, rfl, rfl⟩]
theorem faceP_c {W H : Nat} (hW0 : 0 < W) (hH0 : 0 < H) (hW : W ≤ 64) (hH : H ≤ 64) (b1 b2 b3 : Bool) {l1 l2 l3 : List Bool} (n1 : l1.length = W * H) (n2 : l2.length = W * H) (n3 : l3.length = W * H) :
    Contract Tryz.prog 8 [GA W H b1 l1, GA W H b2 l2, GA W H b3 l3] (.tuple [GR W H false (tabN W (uF W l1 l2 l3) (W * H)), I 0]) := by
  have hch := check3_c W H b1 l1 W H b2 l2 W H b3 l3
  rw [thr_same hW0 hH0 hW hH n1 n2 n3] at hch
  have ht := table_c 23 [GS W H b3 l3, GS W H b1 l1, GS W H b2 l2] W H (uF W l1 l2 l3) (by omega) (by omega) (fun r => by simp only [RA, List.map_cons, List.map_nil]) (fun x y hx hy => faceF_c hW hH b1 b2 b3 n1 n2 n3 hx hy)
  rw [tabN_nil hW0 hH0] at ht
  refine Contract.intro (effS [] false) 6 follows Tryz.func8 rfl rfl (by kernel_rfl) (Nat.le_of_ble_eq_true rfl) ?_
  simp (disch := first | assumption | omega | rfl | simp only [hAt_app, hAt_app0, List.getElem?_cons_zero, List.getElem?_cons_succ]) only [↓RP, RG, FX, decide_eq_true, decide_eq_false, Bool.not_true, Bool.not_false, Option.map_some, List.map_cons, List.map_nil, List.getElem?_cons_zero, List.getElem?_cons_succ, ↓reduceIte, Nat.reduceEqDiff, reduceCtorEq, decide_eq_true_eq, decide_eq_false_iff_not, Option.map_none, Option.bind_some, List.contains_nil, List.contains_cons, Nat.reduceBEq, Bool.or_false, Bool.false_or, Bool.or_self, List.set_cons_zero, List.set_cons_succ, List.take_succ_cons, List.take_zero, List.drop_succ_cons, List.drop_zero, List.length_cons, List.length_nil, List.length_append, Nat.reduceAdd, Nat.reduceLeDiff, List.all_cons, List.all_nil, Bool.and_true, and_true, true_and, and_self, ne_eq, not_false_eq_true, List.cons_append, List.nil_append, List.append_nil, List.append_assoc, Nat.zero_add, Nat.add_zero, Int.toNat_natCast, args0_3]
  refine callK_F 6 (hch) (by simp (disch := first | assumption | omega | rfl | simp only [hAt_app, hAt_app0, List.getElem?_cons_zero, List.getElem?_cons_succ]) only [↓RP, RG, FX, decide_eq_true, decide_eq_false, Bool.not_true, Bool.not_false, Option.map_some, List.map_cons, List.map_nil, List.getElem?_cons_zero, List.getElem?_cons_succ, ↓reduceIte, Nat.reduceEqDiff, reduceCtorEq, decide_eq_true_eq, decide_eq_false_iff_not, Option.map_none, Option.bind_some, List.contains_nil, List.contains_cons, Nat.reduceBEq, Bool.or_false, Bool.false_or, Bool.or_self, List.set_cons_zero, List.set_cons_succ, List.take_succ_cons, List.take_zero, List.drop_succ_cons, List.drop_zero, List.length_cons, List.length_nil, List.length_append, Nat.reduceAdd, Nat.reduceLeDiff, List.all_cons, List.all_nil, Bool.and_true, and_true, true_and, and_self, ne_eq, not_false_eq_true, List.cons_append, List.nil_append, List.append_nil, List.append_assoc, Nat.zero_add, Nat.add_zero, Int.toNat_natCast, RA] <;> rfl) (.inl (by simp [allFresh, ints_fresh, bools_fresh])) ?_
  simp (disch := first | assumption | omega | rfl | simp only [hAt_app, hAt_app0, List.getElem?_cons_zero, List.getElem?_cons_succ]) only [↓RP, RG, FX, decide_eq_true, decide_eq_false, Bool.not_true, Bool.not_false, Option.map_some, List.map_cons, List.map_nil, List.getElem?_cons_zero, List.getElem?_cons_succ, ↓reduceIte, Nat.reduceEqDiff, reduceCtorEq, decide_eq_true_eq, decide_eq_false_iff_not, Option.map_none, Option.bind_some, List.contains_nil, List.contains_cons, Nat.reduceBEq, Bool.or_false, Bool.false_or, Bool.or_self, List.set_cons_zero, List.set_cons_succ, List.take_succ_cons, List.take_zero, List.drop_succ_cons, List.drop_zero, List.length_cons, List.length_nil, List.length_append, Nat.reduceAdd, Nat.reduceLeDiff, List.all_cons, List.all_nil, Bool.and_true, and_true, true_and, and_self, ne_eq, not_false_eq_true, List.cons_append, List.nil_append, List.append_nil, List.append_assoc, Nat.zero_add, Nat.add_zero, Int.toNat_natCast]
  refine callK_F 6 (ht) (by simp (disch := first | assumption | omega | rfl | simp only [hAt_app, hAt_app0, List.getElem?_cons_zero, List.getElem?_cons_succ]) only [↓RP, RG, FX, decide_eq_true, decide_eq_false, Bool.not_true, Bool.not_false, Option.map_some, List.map_cons, List.map_nil, List.getElem?_cons_zero, List.getElem?_cons_succ, ↓reduceIte, Nat.reduceEqDiff, reduceCtorEq, decide_eq_true_eq, decide_eq_false_iff_not, Option.map_none, Option.bind_some, List.contains_nil, List.contains_cons, Nat.reduceBEq, Bool.or_false, Bool.false_or, Bool.or_self, List.set_cons_zero, List.set_cons_succ, List.take_succ_cons, List.take_zero, List.drop_succ_cons, List.drop_zero, List.length_cons, List.length_nil, List.length_append, Nat.reduceAdd, Nat.reduceLeDiff, List.all_cons, List.all_nil, Bool.and_true, and_true, true_and, and_self, ne_eq, not_false_eq_true, List.cons_append, List.nil_append, List.append_nil, List.append_assoc, Nat.zero_add, Nat.add_zero, Int.toNat_natCast, RA] <;> rfl) (.inl (by simp [allFresh, ints_fresh, bools_fresh])) ?_
  simp (disch := first | assumption | omega | rfl | simp only [hAt_app, hAt_app0, List.getElem?_cons_zero, List.getElem?_cons_succ]) only [↓RP, RG, FX, decide_eq_true, decide_eq_false, Bool.not_true, Bool.not_false, Option.map_some, List.map_cons, List.map_nil, List.getElem?_cons_zero, List.getElem?_cons_succ, ↓reduceIte, Nat.reduceEqDiff, reduceCtorEq, decide_eq_true_eq, decide_eq_false_iff_not, Option.map_none, Option.bind_some, List.contains_nil, List.contains_cons, Nat.reduceBEq, Bool.or_false, Bool.false_or, Bool.or_self, List.set_cons_zero, List.set_cons_succ, List.take_succ_cons, List.take_zero, List.drop_succ_cons, List.drop_zero, List.length_cons, List.length_nil, List.length_append, Nat.reduceAdd, Nat.reduceLeDiff, List.all_cons, List.all_nil, Bool.and_true, and_true, true_and, and_self, ne_eq, not_false_eq_true, List.cons_append, List.nil_append, List.append_nil, List.append_assoc, Nat.zero_add, Nat.add_zero, Int.toNat_natCast]
  rw [resVal_2 rfl]; simp (disch := first | assumption | omega | rfl | simp only [hAt_app, hAt_app0, List.getElem?_cons_zero, List.getElem?_cons_succ]) only [↓RP, RG, FX, decide_eq_true, decide_eq_false, Bool.not_true, Bool.not_false, Option.map_some, List.map_cons, List.map_nil, List.getElem?_cons_zero, List.getElem?_cons_succ, ↓reduceIte, Nat.reduceEqDiff, reduceCtorEq, decide_eq_true_eq, decide_eq_false_iff_not, Option.map_none, Option.bind_some, List.contains_nil, List.contains_cons, Nat.reduceBEq, Bool.or_false, Bool.false_or, Bool.or_self, List.set_cons_zero, List.set_cons_succ, List.take_succ_cons, List.take_zero, List.drop_succ_cons, List.drop_zero, List.length_cons, List.length_nil, List.length_append, Nat.reduceAdd, Nat.reduceLeDiff, List.all_cons, List.all_nil, Bool.and_true, and_true, true_and, and_self, ne_eq, not_false_eq_true, List.cons_append, List.nil_append, List.append_nil, List.append_assoc, Nat.zero_add, Nat.add_zero, Int.toNat_natCast, RS]
theorem tubeP_c {W H : Nat} (hW0 : 0 < W) (hH0 : 0 < H) (hW : W ≤ 32) (hH : H ≤ 32) (b : Bool) {l : List Bool} (hn : l.length = W * H) :
    Contract Tryz.prog 9 [GA W H b l] (.tuple [GR ((2 * W : Nat) : Int) ((2 * H : Nat) : Int) false (tabN (2 * W) (uD W l (tabN W (uB W l) (W * H)) (tabN W (fun _ _ => true) (W * H))) (2 * W * (2 * H))), I 0]) := by
  have hB := tabN_len W (uB W l) (W * H)
  have hT := tabN_len W (fun _ _ => true) (W * H)
  have ht := table_c 24 [] W H (fun _ _ => true) (by omega) (by omega) (fun r => rfl) (fun x y hx hy => tubeF_c x y)
  rw [tabN_nil hW0 hH0] at ht
  have hbk := backP_c hW0 hH0 (by omega) (by omega) b hn
  generalize tabN W (uB W l) (W * H) = BK at *
  generalize tabN W (fun _ _ => true) (W * H) = TR at *
  have hw := weaveP_c W H b l W H false BK W H false TR
  have hthr := thr_same hW0 hH0 (by omega) (by omega) hn hB hT
  have hv : wv W H l W H BK W H TR = [GR ((2 * W : Nat) : Int) ((2 * H : Nat) : Int) false (tabN (2 * W) (uD W l BK TR) (2 * W * (2 * H))), I 0] := by
    unfold wv
    rw [if_neg (by omega), if_neg (by omega)]
    rfl
  rw [hv] at hw
  refine Contract.intro (effS [] false) 6 follows Tryz.func9 rfl rfl (by kernel_rfl) (Nat.le_of_ble_eq_true rfl) ?_
  simp (disch := first | assumption | omega | rfl | simp only [hAt_app, hAt_app0, List.getElem?_cons_zero, List.getElem?_cons_succ]) only [↓RP, RG, FX, decide_eq_true, decide_eq_false, Bool.not_true, Bool.not_false, Option.map_some, List.map_cons, List.map_nil, List.getElem?_cons_zero, List.getElem?_cons_succ, ↓reduceIte, Nat.reduceEqDiff, reduceCtorEq, decide_eq_true_eq, decide_eq_false_iff_not, Option.map_none, Option.bind_some, List.contains_nil, List.contains_cons, Nat.reduceBEq, Bool.or_false, Bool.false_or, Bool.or_self, List.set_cons_zero, List.set_cons_succ, List.take_succ_cons, List.take_zero, List.drop_succ_cons, List.drop_zero, List.length_cons, List.length_nil, List.length_append, Nat.reduceAdd, Nat.reduceLeDiff, List.all_cons, List.all_nil, Bool.and_true, and_true, true_and, and_self, ne_eq, not_false_eq_true, List.cons_append, List.nil_append, List.append_nil, List.append_assoc, Nat.zero_add, Nat.add_zero, Int.toNat_natCast, args0_1]
  refine callK_F 6 (hbk) (by simp (disch := first | assumption | omega | rfl | simp only [hAt_app, hAt_app0, List.getElem?_cons_zero, List.getElem?_cons_succ]) only [↓RP, RG, FX, decide_eq_true, decide_eq_false, Bool.not_true, Bool.not_false, Option.map_some, List.map_cons, List.map_nil, List.getElem?_cons_zero, List.getElem?_cons_succ, ↓reduceIte, Nat.reduceEqDiff, reduceCtorEq, decide_eq_true_eq, decide_eq_false_iff_not, Option.map_none, Option.bind_some, List.contains_nil, List.contains_cons, Nat.reduceBEq, Bool.or_false, Bool.false_or, Bool.or_self, List.set_cons_zero, List.set_cons_succ, List.take_succ_cons, List.take_zero, List.drop_succ_cons, List.drop_zero, List.length_cons, List.length_nil, List.length_append, Nat.reduceAdd, Nat.reduceLeDiff, List.all_cons, List.all_nil, Bool.and_true, and_true, true_and, and_self, ne_eq, not_false_eq_true, List.cons_append, List.nil_append, List.append_nil, List.append_assoc, Nat.zero_add, Nat.add_zero, Int.toNat_natCast, RA] <;> rfl) (.inl (by simp [allFresh, ints_fresh, bools_fresh])) ?_
  simp (disch := first | assumption | omega | rfl | simp only [hAt_app, hAt_app0, List.getElem?_cons_zero, List.getElem?_cons_succ]) only [↓RP, RG, FX, decide_eq_true, decide_eq_false, Bool.not_true, Bool.not_false, Option.map_some, List.map_cons, List.map_nil, List.getElem?_cons_zero, List.getElem?_cons_succ, ↓reduceIte, Nat.reduceEqDiff, reduceCtorEq, decide_eq_true_eq, decide_eq_false_iff_not, Option.map_none, Option.bind_some, List.contains_nil, List.contains_cons, Nat.reduceBEq, Bool.or_false, Bool.false_or, Bool.or_self, List.set_cons_zero, List.set_cons_succ, List.take_succ_cons, List.take_zero, List.drop_succ_cons, List.drop_zero, List.length_cons, List.length_nil, List.length_append, Nat.reduceAdd, Nat.reduceLeDiff, List.all_cons, List.all_nil, Bool.and_true, and_true, true_and, and_self, ne_eq, not_false_eq_true, List.cons_append, List.nil_append, List.append_nil, List.append_assoc, Nat.zero_add, Nat.add_zero, Int.toNat_natCast]
  refine callK_F 6 (ht) (by simp (disch := first | assumption | omega | rfl | simp only [hAt_app, hAt_app0, List.getElem?_cons_zero, List.getElem?_cons_succ]) only [↓RP, RG, FX, decide_eq_true, decide_eq_false, Bool.not_true, Bool.not_false, Option.map_some, List.map_cons, List.map_nil, List.getElem?_cons_zero, List.getElem?_cons_succ, ↓reduceIte, Nat.reduceEqDiff, reduceCtorEq, decide_eq_true_eq, decide_eq_false_iff_not, Option.map_none, Option.bind_some, List.contains_nil, List.contains_cons, Nat.reduceBEq, Bool.or_false, Bool.false_or, Bool.or_self, List.set_cons_zero, List.set_cons_succ, List.take_succ_cons, List.take_zero, List.drop_succ_cons, List.drop_zero, List.length_cons, List.length_nil, List.length_append, Nat.reduceAdd, Nat.reduceLeDiff, List.all_cons, List.all_nil, Bool.and_true, and_true, true_and, and_self, ne_eq, not_false_eq_true, List.cons_append, List.nil_append, List.append_nil, List.append_assoc, Nat.zero_add, Nat.add_zero, Int.toNat_natCast, RA] <;> rfl) (.inl (by simp [allFresh, ints_fresh, bools_fresh])) ?_
  simp (disch := first | assumption | omega | rfl | simp only [hAt_app, hAt_app0, List.getElem?_cons_zero, List.getElem?_cons_succ]) only [↓RP, RG, FX, decide_eq_true, decide_eq_false, Bool.not_true, Bool.not_false, Option.map_some, List.map_cons, List.map_nil, List.getElem?_cons_zero, List.getElem?_cons_succ, ↓reduceIte, Nat.reduceEqDiff, reduceCtorEq, decide_eq_true_eq, decide_eq_false_iff_not, Option.map_none, Option.bind_some, List.contains_nil, List.contains_cons, Nat.reduceBEq, Bool.or_false, Bool.false_or, Bool.or_self, List.set_cons_zero, List.set_cons_succ, List.take_succ_cons, List.take_zero, List.drop_succ_cons, List.drop_zero, List.length_cons, List.length_nil, List.length_append, Nat.reduceAdd, Nat.reduceLeDiff, List.all_cons, List.all_nil, Bool.and_true, and_true, true_and, and_self, ne_eq, not_false_eq_true, List.cons_append, List.nil_append, List.append_nil, List.append_assoc, Nat.zero_add, Nat.add_zero, Int.toNat_natCast]
  refine callK_F 6 (hw) (by simp (disch := first | assumption | omega | rfl | simp only [hAt_app, hAt_app0, List.getElem?_cons_zero, List.getElem?_cons_succ]) only [↓RP, RG, FX, decide_eq_true, decide_eq_false, Bool.not_true, Bool.not_false, Option.map_some, List.map_cons, List.map_nil, List.getElem?_cons_zero, List.getElem?_cons_succ, ↓reduceIte, Nat.reduceEqDiff, reduceCtorEq, decide_eq_true_eq, decide_eq_false_iff_not, Option.map_none, Option.bind_some, List.contains_nil, List.contains_cons, Nat.reduceBEq, Bool.or_false, Bool.false_or, Bool.or_self, List.set_cons_zero, List.set_cons_succ, List.take_succ_cons, List.take_zero, List.drop_succ_cons, List.drop_zero, List.length_cons, List.length_nil, List.length_append, Nat.reduceAdd, Nat.reduceLeDiff, List.all_cons, List.all_nil, Bool.and_true, and_true, true_and, and_self, ne_eq, not_false_eq_true, List.cons_append, List.nil_append, List.append_nil, List.append_assoc, Nat.zero_add, Nat.add_zero, Int.toNat_natCast, RA] <;> rfl) (.inl (by simp [allFresh, ints_fresh, bools_fresh])) ?_
  simp (disch := first | assumption | omega | rfl | simp only [hAt_app, hAt_app0, List.getElem?_cons_zero, List.getElem?_cons_succ]) only [↓RP, RG, FX, decide_eq_true, decide_eq_false, Bool.not_true, Bool.not_false, Option.map_some, List.map_cons, List.map_nil, List.getElem?_cons_zero, List.getElem?_cons_succ, ↓reduceIte, Nat.reduceEqDiff, reduceCtorEq, decide_eq_true_eq, decide_eq_false_iff_not, Option.map_none, Option.bind_some, List.contains_nil, List.contains_cons, Nat.reduceBEq, Bool.or_false, Bool.false_or, Bool.or_self, List.set_cons_zero, List.set_cons_succ, List.take_succ_cons, List.take_zero, List.drop_succ_cons, List.drop_zero, List.length_cons, List.length_nil, List.length_append, Nat.reduceAdd, Nat.reduceLeDiff, List.all_cons, List.all_nil, Bool.and_true, and_true, true_and, and_self, ne_eq, not_false_eq_true, List.cons_append, List.nil_append, List.append_nil, List.append_assoc, Nat.zero_add, Nat.add_zero, Int.toNat_natCast]
  rw [resVal_2 rfl]; simp (disch := first | assumption | omega | rfl | simp only [hAt_app, hAt_app0, List.getElem?_cons_zero, List.getElem?_cons_succ]) only [↓RP, RG, FX, decide_eq_true, decide_eq_false, Bool.not_true, Bool.not_false, Option.map_some, List.map_cons, List.map_nil, List.getElem?_cons_zero, List.getElem?_cons_succ, ↓reduceIte, Nat.reduceEqDiff, reduceCtorEq, decide_eq_true_eq, decide_eq_false_iff_not, Option.map_none, Option.bind_some, List.contains_nil, List.contains_cons, Nat.reduceBEq, Bool.or_false, Bool.false_or, Bool.or_self, List.set_cons_zero, List.set_cons_succ, List.take_succ_cons, List.take_zero, List.drop_succ_cons, List.drop_zero, List.length_cons, List.length_nil, List.length_append, Nat.reduceAdd, Nat.reduceLeDiff, List.all_cons, List.all_nil, Bool.and_true, and_true, true_and, and_self, ne_eq, not_false_eq_true, List.cons_append, List.nil_append, List.append_nil, List.append_assoc, Nat.zero_add, Nat.add_zero, Int.toNat_natCast, RS]
  first | done | rfl
theorem cellD (W : Nat) (l : List Bool) (x y : Nat) : cell W l x y = l.getD (W * y + x) false := by
  unfold cell; rw [idx_nat W y x]
theorem back_back {W H : Nat} {l : List Bool} (hn : l.length = W * H) : tabN W (uB W (tabN W (uB W l) (W * H))) (W * H) = l := by
  refine Eq.trans (tabN_congr (v := fun x y => cell W l x y) fun x y hx hy => ?_) (self_tab hn).symm
  unfold uB
  rw [cellD, tabN_get W _ (show W - 1 - x < W by omega) (idx_lt (by omega) hy), Bool.not_not, show W - 1 - (W - 1 - x) = x by omega]
/-- A thread's place on the back. -/
def bφ (W a : Nat) : Nat := if a < W then W - 1 - a else a
theorem ov_back {W H n : Nat} (hN : W + H = n) {l : List Bool} : ∀ a, a < n → ∀ c, c < n → ov W (tabN W (uB W l) (W * H)) a c = ov W l (bφ W c) (bφ W a) := by
  intro a ha c hc
  unfold ov bφ
  by_cases h1 : a < W <;> by_cases h2 : c < W
  · simp only [if_pos h1, if_pos h2, if_pos (show W - 1 - c < W by omega), if_pos (show W - 1 - a < W by omega)]
  · simp only [if_pos h1, if_neg h2, if_pos (show W - 1 - a < W by omega)]
    rw [tabN_get W _ h1 (idx_lt h1 (by omega))]
    unfold uB; rw [cellD]
  · simp only [if_neg h1, if_pos h2, if_pos (show W - 1 - c < W by omega)]
    rw [tabN_get W _ h2 (idx_lt h2 (by omega))]
    unfold uB; rw [cellD, Bool.not_not]
  · simp only [if_neg h1, if_neg h2]
theorem bφ_lt {W n : Nat} (hW : W ≤ n) : ∀ a, a < n → bφ W a < n := by
  intro a ha; unfold bφ; split <;> omega
theorem bφ_inv (W n : Nat) : ∀ a, a < n → bφ W (bφ W a) = a := by
  intro a ha; unfold bφ
  by_cases h : a < W
  · rw [if_pos h, if_pos (by omega)]; omega
  · rw [if_neg h, if_neg h]
theorem hg_back {W H n : Nat} (hN : W + H = n) {l : List Bool} (hn : l.length = W * H) : Hg W n l ↔ Hg W n (tabN W (uB W l) (W * H)) := by
  constructor
  · exact hg_rev (bφ W) (bφ_lt (by omega)) (bφ_inv W n) (ov_back hN)
  · intro h
    have := hg_rev (bφ W) (bφ_lt (by omega)) (bφ_inv W n) (ov_back (l := tabN W (uB W l) (W * H)) hN) h
    rwa [back_back hn] at this
/-- The count of all. -/
theorem cnt_all {l : List Bool} : ∀ k, cnt l k = k ↔ ∀ i, i < k → l.getD i false = true := by
  intro k
  induction k with
  | zero => exact ⟨fun _ i hi => by omega, fun _ => rfl⟩
  | succ k ih =>
    have hle := cnt_le l k
    simp only [cnt]
    constructor
    · intro h i hi
      cases hk : l.getD k false with
      | true =>
        rw [hk, if_pos rfl] at h
        by_cases e : i = k
        · subst e; exact hk
        · exact ih.1 (by omega) i (by omega)
      | false =>
        rw [hk, if_neg (by simp)] at h; omega
    · intro h
      rw [h k (by omega), if_pos rfl, ih.2 fun i hi => h i (by omega)]
end Go.Proofs.YtkcicgadggiklaaGreatDoor

/- The law DoubleBack. -/
set_option linter.unusedSimpArgs false
set_option linter.unusedVariables false
set_option maxRecDepth 100000
namespace Go.Proofs.YtkcicgadggiklaaGreatDoor
open Go Go.Proofs Go.AW

theorem face_get {W H : Nat} {l1 l2 l3 : List Bool} {k : Nat} (hk : k < W * H) : (tabN W (uF W l1 l2 l3) (W * H)).getD k false = if l3.getD k false = true then l1.getD k false else l2.getD k false := by
  rw [tabN_at W _ hk]
  unfold uF
  rw [cellD, cellD, cellD, Nat.div_add_mod]
theorem fit3_nat {w1 h1 : Int} {l1 : List Bool} {w2 h2 : Int} {l2 : List Bool} {w3 h3 : Int} {l3 : List Bool} {n : Int} (hf : fit3 w1 h1 l1 w2 h2 l2 w3 h3 l3 n) :
    ∃ W H : Nat, w1 = W ∧ h1 = H ∧ w2 = W ∧ h2 = H ∧ w3 = W ∧ h3 = H ∧ 0 < W ∧ 0 < H ∧ (W : Int) ≤ n ∧ (H : Int) ≤ n ∧ W ≤ 64 ∧ H ≤ 64 ∧ l1.length = W * H ∧ l2.length = W * H ∧ l3.length = W * H := by
  obtain ⟨f1, f2, f3, f4⟩ := hf
  obtain ⟨g1, g2, g3, rfl, rfl, rfl, rfl⟩ := thr_zero f2
  obtain ⟨W, H, rfl, rfl, hW0, hW, hH0, hH, n1⟩ := gOk_nat g1
  have n2 : l2.length = W * H := by have := g2.2.2.2.2; rw [← Int.natCast_mul] at this; exact Int.ofNat.inj this
  have n3 : l3.length = W * H := by have := g3.2.2.2.2; rw [← Int.natCast_mul] at this; exact Int.ofNat.inj this
  exact ⟨W, H, rfl, rfl, rfl, rfl, rfl, rfl, hW0, hH0, f3, f4, hW, hH, n1, n2, n3⟩
theorem doubleBack_c (w1 h1 : Int) (b1 : Bool) (l1 : List Bool) (w2 h2 : Int) (b2 : Bool) (l2 : List Bool) (w3 h3 : Int) (b3 : Bool) (l3 : List Bool) :
    Contract Tryz.prog 3 [GA w1 h1 b1 l1, GA w2 h2 b2 l2, GA w3 h3 b3 l3] (B true) := by
  classical
  have hV := threeL_c w1 h1 b1 l1 w2 h2 b2 l2 w3 h3 b3 l3 8 (decide (fit3 w1 h1 l1 w2 h2 l2 w3 h3 l3 8)) decide_eq_true_iff
  by_cases hv : fit3 w1 h1 l1 w2 h2 l2 w3 h3 l3 8
  rotate_left
  · rw [decide_eq_false hv] at hV
    refine Contract.intro (effS [] false) 6 follows Tryz.func3 rfl rfl (by kernel_rfl) (Nat.le_of_ble_eq_true rfl) ?_
    simp (disch := first | assumption | omega | rfl | simp only [hAt_app, hAt_app0, List.getElem?_cons_zero, List.getElem?_cons_succ]) only [↓RP, RG, FX, decide_eq_true, decide_eq_false, Bool.not_true, Bool.not_false, Option.map_some, List.map_cons, List.map_nil, List.getElem?_cons_zero, List.getElem?_cons_succ, ↓reduceIte, Nat.reduceEqDiff, reduceCtorEq, decide_eq_true_eq, decide_eq_false_iff_not, Option.map_none, Option.bind_some, List.contains_nil, List.contains_cons, Nat.reduceBEq, Bool.or_false, Bool.false_or, Bool.or_self, List.set_cons_zero, List.set_cons_succ, List.take_succ_cons, List.take_zero, List.drop_succ_cons, List.drop_zero, List.length_cons, List.length_nil, List.length_append, Nat.reduceAdd, Nat.reduceLeDiff, List.all_cons, List.all_nil, Bool.and_true, and_true, true_and, and_self, ne_eq, not_false_eq_true, List.cons_append, List.nil_append, List.append_nil, List.append_assoc, Nat.zero_add, Nat.add_zero, Int.toNat_natCast, args0_3]
    refine callK_F 6 (hV) (by simp (disch := first | assumption | omega | rfl | simp only [hAt_app, hAt_app0, List.getElem?_cons_zero, List.getElem?_cons_succ]) only [↓RP, RG, FX, decide_eq_true, decide_eq_false, Bool.not_true, Bool.not_false, Option.map_some, List.map_cons, List.map_nil, List.getElem?_cons_zero, List.getElem?_cons_succ, ↓reduceIte, Nat.reduceEqDiff, reduceCtorEq, decide_eq_true_eq, decide_eq_false_iff_not, Option.map_none, Option.bind_some, List.contains_nil, List.contains_cons, Nat.reduceBEq, Bool.or_false, Bool.false_or, Bool.or_self, List.set_cons_zero, List.set_cons_succ, List.take_succ_cons, List.take_zero, List.drop_succ_cons, List.drop_zero, List.length_cons, List.length_nil, List.length_append, Nat.reduceAdd, Nat.reduceLeDiff, List.all_cons, List.all_nil, Bool.and_true, and_true, true_and, and_self, ne_eq, not_false_eq_true, List.cons_append, List.nil_append, List.append_nil, List.append_assoc, Nat.zero_add, Nat.add_zero, Int.toNat_natCast, RA] <;> rfl) (.inl (by simp [allFresh, ints_fresh, bools_fresh])) ?_
    simp (disch := first | assumption | omega | rfl | simp only [hAt_app, hAt_app0, List.getElem?_cons_zero, List.getElem?_cons_succ]) only [↓RP, RG, FX, decide_eq_true, decide_eq_false, Bool.not_true, Bool.not_false, Option.map_some, List.map_cons, List.map_nil, List.getElem?_cons_zero, List.getElem?_cons_succ, ↓reduceIte, Nat.reduceEqDiff, reduceCtorEq, decide_eq_true_eq, decide_eq_false_iff_not, Option.map_none, Option.bind_some, List.contains_nil, List.contains_cons, Nat.reduceBEq, Bool.or_false, Bool.false_or, Bool.or_self, List.set_cons_zero, List.set_cons_succ, List.take_succ_cons, List.take_zero, List.drop_succ_cons, List.drop_zero, List.length_cons, List.length_nil, List.length_append, Nat.reduceAdd, Nat.reduceLeDiff, List.all_cons, List.all_nil, Bool.and_true, and_true, true_and, and_self, ne_eq, not_false_eq_true, List.cons_append, List.nil_append, List.append_nil, List.append_assoc, Nat.zero_add, Nat.add_zero, Int.toNat_natCast]
    refine callK_F 6 (alive_c) (by simp (disch := first | assumption | omega | rfl | simp only [hAt_app, hAt_app0, List.getElem?_cons_zero, List.getElem?_cons_succ]) only [↓RP, RG, FX, decide_eq_true, decide_eq_false, Bool.not_true, Bool.not_false, Option.map_some, List.map_cons, List.map_nil, List.getElem?_cons_zero, List.getElem?_cons_succ, ↓reduceIte, Nat.reduceEqDiff, reduceCtorEq, decide_eq_true_eq, decide_eq_false_iff_not, Option.map_none, Option.bind_some, List.contains_nil, List.contains_cons, Nat.reduceBEq, Bool.or_false, Bool.false_or, Bool.or_self, List.set_cons_zero, List.set_cons_succ, List.take_succ_cons, List.take_zero, List.drop_succ_cons, List.drop_zero, List.length_cons, List.length_nil, List.length_append, Nat.reduceAdd, Nat.reduceLeDiff, List.all_cons, List.all_nil, Bool.and_true, and_true, true_and, and_self, ne_eq, not_false_eq_true, List.cons_append, List.nil_append, List.append_nil, List.append_assoc, Nat.zero_add, Nat.add_zero, Int.toNat_natCast, RA] <;> rfl) (.inl (by simp [allFresh, ints_fresh, bools_fresh])) ?_
    simp (disch := first | assumption | omega | rfl | simp only [hAt_app, hAt_app0, List.getElem?_cons_zero, List.getElem?_cons_succ]) only [↓RP, RG, FX, decide_eq_true, decide_eq_false, Bool.not_true, Bool.not_false, Option.map_some, List.map_cons, List.map_nil, List.getElem?_cons_zero, List.getElem?_cons_succ, ↓reduceIte, Nat.reduceEqDiff, reduceCtorEq, decide_eq_true_eq, decide_eq_false_iff_not, Option.map_none, Option.bind_some, List.contains_nil, List.contains_cons, Nat.reduceBEq, Bool.or_false, Bool.false_or, Bool.or_self, List.set_cons_zero, List.set_cons_succ, List.take_succ_cons, List.take_zero, List.drop_succ_cons, List.drop_zero, List.length_cons, List.length_nil, List.length_append, Nat.reduceAdd, Nat.reduceLeDiff, List.all_cons, List.all_nil, Bool.and_true, and_true, true_and, and_self, ne_eq, not_false_eq_true, List.cons_append, List.nil_append, List.append_nil, List.append_assoc, Nat.zero_add, Nat.add_zero, Int.toNat_natCast]
    rw [resVal_1 rfl]; simp (disch := first | assumption | omega | rfl | simp only [hAt_app, hAt_app0, List.getElem?_cons_zero, List.getElem?_cons_succ]) only [↓RP, RG, FX, decide_eq_true, decide_eq_false, Bool.not_true, Bool.not_false, Option.map_some, List.map_cons, List.map_nil, List.getElem?_cons_zero, List.getElem?_cons_succ, ↓reduceIte, Nat.reduceEqDiff, reduceCtorEq, decide_eq_true_eq, decide_eq_false_iff_not, Option.map_none, Option.bind_some, List.contains_nil, List.contains_cons, Nat.reduceBEq, Bool.or_false, Bool.false_or, Bool.or_self, List.set_cons_zero, List.set_cons_succ, List.take_succ_cons, List.take_zero, List.drop_succ_cons, List.drop_zero, List.length_cons, List.length_nil, List.length_append, Nat.reduceAdd, Nat.reduceLeDiff, List.all_cons, List.all_nil, Bool.and_true, and_true, true_and, and_self, ne_eq, not_false_eq_true, List.cons_append, List.nil_append, List.append_nil, List.append_assoc, Nat.zero_add, Nat.add_zero, Int.toNat_natCast, RS]
  rw [decide_eq_true hv] at hV
  obtain ⟨W, H, rfl, rfl, rfl, rfl, rfl, rfl, hW0, hH0, hW8, hH8, hW, hH, n1, n2, n3⟩ := fit3_nat hv
  obtain ⟨n, hN⟩ : ∃ n, W + H = n := ⟨_, rfl⟩
  have hW32 : W ≤ 32 := by omega
  have hH32 : H ≤ 32 := by omega
  have hn40 : n ≤ 40 := by omega
  have hq : W * H ≤ 32 * 32 := Nat.mul_le_mul hW32 hH32
  have q1 := backP_c hW0 hH0 hW hH b1 n1
  have hBl := tabN_len W (uB W l1) (W * H)
  have q2 := fun bb => backP_c hW0 hH0 hW hH bb hBl
  rw [back_back n1] at q2
  have f1 := hangsP_c hN hW0 hH0 hn40 b1 n1
  have f2 := fun bb => hangsP_c hN hW0 hH0 hn40 bb hBl
  have hsame : decide ((best W n (tabN W (uB W l1) (W * H)) (n - 1)).length = n) = decide ((best W n l1 (n - 1)).length = n) := by
    have h1 := (hg_best (W := W) (l := l1) (show 0 < n by omega))
    have h2 := (hg_best (W := W) (l := tabN W (uB W l1) (W * H)) (show 0 < n by omega))
    exact decide_eq_decide.2 (h2.trans ((hg_back hN n1).symm.trans h1.symm))
  rw [hsame] at f2
  have q3 := faceP_c hW0 hH0 hW hH b1 b2 b3 n1 n2 n3
  have q4 := tubeP_c hW0 hH0 hW32 hH32 b1 n1
  have hTl := tabN_len W (fun _ _ => true) (W * H)
  have q5 := apart_woven hW0 hH0 hW32 hH32 n1 hBl hTl
  have hct : cnt (tabN W (fun _ _ => true) (W * H)) (W * H) = W * H := (cnt_all _).2 fun i hi => by rw [tabN_at W _ hi]
  have q6 := count_c (w := W) (h := H) false (l := tabN W (fun _ _ => true) (W * H)) ⟨by omega, by omega, by omega, by omega, by rw [hTl, Int.natCast_mul]⟩ (by omega)
  rw [hTl, hct] at q6
  have hFg := fun k (hk : k < W * H) => face_get (W := W) (H := H) (l1 := l1) (l2 := l2) (l3 := l3) hk
  have hFl := tabN_len W (uF W l1 l2 l3) (W * H)
  have hDl := tabN_len (2 * W) (uD W l1 (tabN W (uB W l1) (W * H)) (tabN W (fun _ _ => true) (W * H))) (2 * W * (2 * H))
  generalize tabN (2 * W) (uD W l1 (tabN W (uB W l1) (W * H)) (tabN W (fun _ _ => true) (W * H))) (2 * W * (2 * H)) = D at *
  generalize tabN W (uF W l1 l2 l3) (W * H) = F at *
  generalize tabN W (fun _ _ => true) (W * H) = TR at *
  generalize tabN W (uB W l1) (W * H) = BK at *
  generalize decide ((best W n l1 (n - 1)).length = n) = hb at *
  generalize hWH : W * H = m at *
  refine Contract.intro (effS [] false) 6 follows Tryz.func3 rfl rfl (by kernel_rfl) (Nat.le_of_ble_eq_true rfl) ?_
  simp (disch := first | assumption | omega | rfl | simp only [hAt_app, hAt_app0, List.getElem?_cons_zero, List.getElem?_cons_succ]) only [↓RP, RG, FX, decide_eq_true, decide_eq_false, Bool.not_true, Bool.not_false, Option.map_some, List.map_cons, List.map_nil, List.getElem?_cons_zero, List.getElem?_cons_succ, ↓reduceIte, Nat.reduceEqDiff, reduceCtorEq, decide_eq_true_eq, decide_eq_false_iff_not, Option.map_none, Option.bind_some, List.contains_nil, List.contains_cons, Nat.reduceBEq, Bool.or_false, Bool.false_or, Bool.or_self, List.set_cons_zero, List.set_cons_succ, List.take_succ_cons, List.take_zero, List.drop_succ_cons, List.drop_zero, List.length_cons, List.length_nil, List.length_append, Nat.reduceAdd, Nat.reduceLeDiff, List.all_cons, List.all_nil, Bool.and_true, and_true, true_and, and_self, ne_eq, not_false_eq_true, List.cons_append, List.nil_append, List.append_nil, List.append_assoc, Nat.zero_add, Nat.add_zero, Int.toNat_natCast, args0_3]
  refine callK_F 6 (hV) (by simp (disch := first | assumption | omega | rfl | simp only [hAt_app, hAt_app0, List.getElem?_cons_zero, List.getElem?_cons_succ]) only [↓RP, RG, FX, decide_eq_true, decide_eq_false, Bool.not_true, Bool.not_false, Option.map_some, List.map_cons, List.map_nil, List.getElem?_cons_zero, List.getElem?_cons_succ, ↓reduceIte, Nat.reduceEqDiff, reduceCtorEq, decide_eq_true_eq, decide_eq_false_iff_not, Option.map_none, Option.bind_some, List.contains_nil, List.contains_cons, Nat.reduceBEq, Bool.or_false, Bool.false_or, Bool.or_self, List.set_cons_zero, List.set_cons_succ, List.take_succ_cons, List.take_zero, List.drop_succ_cons, List.drop_zero, List.length_cons, List.length_nil, List.length_append, Nat.reduceAdd, Nat.reduceLeDiff, List.all_cons, List.all_nil, Bool.and_true, and_true, true_and, and_self, ne_eq, not_false_eq_true, List.cons_append, List.nil_append, List.append_nil, List.append_assoc, Nat.zero_add, Nat.add_zero, Int.toNat_natCast, RA] <;> rfl) (.inl (by simp [allFresh, ints_fresh, bools_fresh])) ?_
  simp (disch := first | assumption | omega | rfl | simp only [hAt_app, hAt_app0, List.getElem?_cons_zero, List.getElem?_cons_succ]) only [↓RP, RG, FX, decide_eq_true, decide_eq_false, Bool.not_true, Bool.not_false, Option.map_some, List.map_cons, List.map_nil, List.getElem?_cons_zero, List.getElem?_cons_succ, ↓reduceIte, Nat.reduceEqDiff, reduceCtorEq, decide_eq_true_eq, decide_eq_false_iff_not, Option.map_none, Option.bind_some, List.contains_nil, List.contains_cons, Nat.reduceBEq, Bool.or_false, Bool.false_or, Bool.or_self, List.set_cons_zero, List.set_cons_succ, List.take_succ_cons, List.take_zero, List.drop_succ_cons, List.drop_zero, List.length_cons, List.length_nil, List.length_append, Nat.reduceAdd, Nat.reduceLeDiff, List.all_cons, List.all_nil, Bool.and_true, and_true, true_and, and_self, ne_eq, not_false_eq_true, List.cons_append, List.nil_append, List.append_nil, List.append_assoc, Nat.zero_add, Nat.add_zero, Int.toNat_natCast]
  refine callK_F 6 (q1) (by simp (disch := first | assumption | omega | rfl | simp only [hAt_app, hAt_app0, List.getElem?_cons_zero, List.getElem?_cons_succ]) only [↓RP, RG, FX, decide_eq_true, decide_eq_false, Bool.not_true, Bool.not_false, Option.map_some, List.map_cons, List.map_nil, List.getElem?_cons_zero, List.getElem?_cons_succ, ↓reduceIte, Nat.reduceEqDiff, reduceCtorEq, decide_eq_true_eq, decide_eq_false_iff_not, Option.map_none, Option.bind_some, List.contains_nil, List.contains_cons, Nat.reduceBEq, Bool.or_false, Bool.false_or, Bool.or_self, List.set_cons_zero, List.set_cons_succ, List.take_succ_cons, List.take_zero, List.drop_succ_cons, List.drop_zero, List.length_cons, List.length_nil, List.length_append, Nat.reduceAdd, Nat.reduceLeDiff, List.all_cons, List.all_nil, Bool.and_true, and_true, true_and, and_self, ne_eq, not_false_eq_true, List.cons_append, List.nil_append, List.append_nil, List.append_assoc, Nat.zero_add, Nat.add_zero, Int.toNat_natCast, RA] <;> rfl) (.inl (by simp [allFresh, ints_fresh, bools_fresh])) ?_
  simp (disch := first | assumption | omega | rfl | simp only [hAt_app, hAt_app0, List.getElem?_cons_zero, List.getElem?_cons_succ]) only [↓RP, RG, FX, decide_eq_true, decide_eq_false, Bool.not_true, Bool.not_false, Option.map_some, List.map_cons, List.map_nil, List.getElem?_cons_zero, List.getElem?_cons_succ, ↓reduceIte, Nat.reduceEqDiff, reduceCtorEq, decide_eq_true_eq, decide_eq_false_iff_not, Option.map_none, Option.bind_some, List.contains_nil, List.contains_cons, Nat.reduceBEq, Bool.or_false, Bool.false_or, Bool.or_self, List.set_cons_zero, List.set_cons_succ, List.take_succ_cons, List.take_zero, List.drop_succ_cons, List.drop_zero, List.length_cons, List.length_nil, List.length_append, Nat.reduceAdd, Nat.reduceLeDiff, List.all_cons, List.all_nil, Bool.and_true, and_true, true_and, and_self, ne_eq, not_false_eq_true, List.cons_append, List.nil_append, List.append_nil, List.append_assoc, Nat.zero_add, Nat.add_zero, Int.toNat_natCast]
  refine callK_F 6 (q2 false) (by simp (disch := first | assumption | omega | rfl | simp only [hAt_app, hAt_app0, List.getElem?_cons_zero, List.getElem?_cons_succ]) only [↓RP, RG, FX, decide_eq_true, decide_eq_false, Bool.not_true, Bool.not_false, Option.map_some, List.map_cons, List.map_nil, List.getElem?_cons_zero, List.getElem?_cons_succ, ↓reduceIte, Nat.reduceEqDiff, reduceCtorEq, decide_eq_true_eq, decide_eq_false_iff_not, Option.map_none, Option.bind_some, List.contains_nil, List.contains_cons, Nat.reduceBEq, Bool.or_false, Bool.false_or, Bool.or_self, List.set_cons_zero, List.set_cons_succ, List.take_succ_cons, List.take_zero, List.drop_succ_cons, List.drop_zero, List.length_cons, List.length_nil, List.length_append, Nat.reduceAdd, Nat.reduceLeDiff, List.all_cons, List.all_nil, Bool.and_true, and_true, true_and, and_self, ne_eq, not_false_eq_true, List.cons_append, List.nil_append, List.append_nil, List.append_assoc, Nat.zero_add, Nat.add_zero, Int.toNat_natCast, RA] <;> rfl) (.inl (by simp [allFresh, ints_fresh, bools_fresh])) ?_
  simp (disch := first | assumption | omega | rfl | simp only [hAt_app, hAt_app0, List.getElem?_cons_zero, List.getElem?_cons_succ]) only [↓RP, RG, FX, decide_eq_true, decide_eq_false, Bool.not_true, Bool.not_false, Option.map_some, List.map_cons, List.map_nil, List.getElem?_cons_zero, List.getElem?_cons_succ, ↓reduceIte, Nat.reduceEqDiff, reduceCtorEq, decide_eq_true_eq, decide_eq_false_iff_not, Option.map_none, Option.bind_some, List.contains_nil, List.contains_cons, Nat.reduceBEq, Bool.or_false, Bool.false_or, Bool.or_self, List.set_cons_zero, List.set_cons_succ, List.take_succ_cons, List.take_zero, List.drop_succ_cons, List.drop_zero, List.length_cons, List.length_nil, List.length_append, Nat.reduceAdd, Nat.reduceLeDiff, List.all_cons, List.all_nil, Bool.and_true, and_true, true_and, and_self, ne_eq, not_false_eq_true, List.cons_append, List.nil_append, List.append_nil, List.append_assoc, Nat.zero_add, Nat.add_zero, Int.toNat_natCast]
  refine callK_F 6 (f1) (by simp (disch := first | assumption | omega | rfl | simp only [hAt_app, hAt_app0, List.getElem?_cons_zero, List.getElem?_cons_succ]) only [↓RP, RG, FX, decide_eq_true, decide_eq_false, Bool.not_true, Bool.not_false, Option.map_some, List.map_cons, List.map_nil, List.getElem?_cons_zero, List.getElem?_cons_succ, ↓reduceIte, Nat.reduceEqDiff, reduceCtorEq, decide_eq_true_eq, decide_eq_false_iff_not, Option.map_none, Option.bind_some, List.contains_nil, List.contains_cons, Nat.reduceBEq, Bool.or_false, Bool.false_or, Bool.or_self, List.set_cons_zero, List.set_cons_succ, List.take_succ_cons, List.take_zero, List.drop_succ_cons, List.drop_zero, List.length_cons, List.length_nil, List.length_append, Nat.reduceAdd, Nat.reduceLeDiff, List.all_cons, List.all_nil, Bool.and_true, and_true, true_and, and_self, ne_eq, not_false_eq_true, List.cons_append, List.nil_append, List.append_nil, List.append_assoc, Nat.zero_add, Nat.add_zero, Int.toNat_natCast, RA] <;> rfl) (.inl (by simp [allFresh, ints_fresh, bools_fresh])) ?_
  simp (disch := first | assumption | omega | rfl | simp only [hAt_app, hAt_app0, List.getElem?_cons_zero, List.getElem?_cons_succ]) only [↓RP, RG, FX, decide_eq_true, decide_eq_false, Bool.not_true, Bool.not_false, Option.map_some, List.map_cons, List.map_nil, List.getElem?_cons_zero, List.getElem?_cons_succ, ↓reduceIte, Nat.reduceEqDiff, reduceCtorEq, decide_eq_true_eq, decide_eq_false_iff_not, Option.map_none, Option.bind_some, List.contains_nil, List.contains_cons, Nat.reduceBEq, Bool.or_false, Bool.false_or, Bool.or_self, List.set_cons_zero, List.set_cons_succ, List.take_succ_cons, List.take_zero, List.drop_succ_cons, List.drop_zero, List.length_cons, List.length_nil, List.length_append, Nat.reduceAdd, Nat.reduceLeDiff, List.all_cons, List.all_nil, Bool.and_true, and_true, true_and, and_self, ne_eq, not_false_eq_true, List.cons_append, List.nil_append, List.append_nil, List.append_assoc, Nat.zero_add, Nat.add_zero, Int.toNat_natCast]
  refine callK_F 6 (f2 false) (by simp (disch := first | assumption | omega | rfl | simp only [hAt_app, hAt_app0, List.getElem?_cons_zero, List.getElem?_cons_succ]) only [↓RP, RG, FX, decide_eq_true, decide_eq_false, Bool.not_true, Bool.not_false, Option.map_some, List.map_cons, List.map_nil, List.getElem?_cons_zero, List.getElem?_cons_succ, ↓reduceIte, Nat.reduceEqDiff, reduceCtorEq, decide_eq_true_eq, decide_eq_false_iff_not, Option.map_none, Option.bind_some, List.contains_nil, List.contains_cons, Nat.reduceBEq, Bool.or_false, Bool.false_or, Bool.or_self, List.set_cons_zero, List.set_cons_succ, List.take_succ_cons, List.take_zero, List.drop_succ_cons, List.drop_zero, List.length_cons, List.length_nil, List.length_append, Nat.reduceAdd, Nat.reduceLeDiff, List.all_cons, List.all_nil, Bool.and_true, and_true, true_and, and_self, ne_eq, not_false_eq_true, List.cons_append, List.nil_append, List.append_nil, List.append_assoc, Nat.zero_add, Nat.add_zero, Int.toNat_natCast, RA] <;> rfl) (.inl (by simp [allFresh, ints_fresh, bools_fresh])) ?_
  simp (disch := first | assumption | omega | rfl | simp only [hAt_app, hAt_app0, List.getElem?_cons_zero, List.getElem?_cons_succ]) only [↓RP, RG, FX, decide_eq_true, decide_eq_false, Bool.not_true, Bool.not_false, Option.map_some, List.map_cons, List.map_nil, List.getElem?_cons_zero, List.getElem?_cons_succ, ↓reduceIte, Nat.reduceEqDiff, reduceCtorEq, decide_eq_true_eq, decide_eq_false_iff_not, Option.map_none, Option.bind_some, List.contains_nil, List.contains_cons, Nat.reduceBEq, Bool.or_false, Bool.false_or, Bool.or_self, List.set_cons_zero, List.set_cons_succ, List.take_succ_cons, List.take_zero, List.drop_succ_cons, List.drop_zero, List.length_cons, List.length_nil, List.length_append, Nat.reduceAdd, Nat.reduceLeDiff, List.all_cons, List.all_nil, Bool.and_true, and_true, true_and, and_self, ne_eq, not_false_eq_true, List.cons_append, List.nil_append, List.append_nil, List.append_assoc, Nat.zero_add, Nat.add_zero, Int.toNat_natCast]
  refine callK_F 6 (q3) (by simp (disch := first | assumption | omega | rfl | simp only [hAt_app, hAt_app0, List.getElem?_cons_zero, List.getElem?_cons_succ]) only [↓RP, RG, FX, decide_eq_true, decide_eq_false, Bool.not_true, Bool.not_false, Option.map_some, List.map_cons, List.map_nil, List.getElem?_cons_zero, List.getElem?_cons_succ, ↓reduceIte, Nat.reduceEqDiff, reduceCtorEq, decide_eq_true_eq, decide_eq_false_iff_not, Option.map_none, Option.bind_some, List.contains_nil, List.contains_cons, Nat.reduceBEq, Bool.or_false, Bool.false_or, Bool.or_self, List.set_cons_zero, List.set_cons_succ, List.take_succ_cons, List.take_zero, List.drop_succ_cons, List.drop_zero, List.length_cons, List.length_nil, List.length_append, Nat.reduceAdd, Nat.reduceLeDiff, List.all_cons, List.all_nil, Bool.and_true, and_true, true_and, and_self, ne_eq, not_false_eq_true, List.cons_append, List.nil_append, List.append_nil, List.append_assoc, Nat.zero_add, Nat.add_zero, Int.toNat_natCast, RA] <;> rfl) (.inl (by simp [allFresh, ints_fresh, bools_fresh])) ?_
  simp (disch := first | assumption | omega | rfl | simp only [hAt_app, hAt_app0, List.getElem?_cons_zero, List.getElem?_cons_succ]) only [↓RP, RG, FX, decide_eq_true, decide_eq_false, Bool.not_true, Bool.not_false, Option.map_some, List.map_cons, List.map_nil, List.getElem?_cons_zero, List.getElem?_cons_succ, ↓reduceIte, Nat.reduceEqDiff, reduceCtorEq, decide_eq_true_eq, decide_eq_false_iff_not, Option.map_none, Option.bind_some, List.contains_nil, List.contains_cons, Nat.reduceBEq, Bool.or_false, Bool.false_or, Bool.or_self, List.set_cons_zero, List.set_cons_succ, List.take_succ_cons, List.take_zero, List.drop_succ_cons, List.drop_zero, List.length_cons, List.length_nil, List.length_append, Nat.reduceAdd, Nat.reduceLeDiff, List.all_cons, List.all_nil, Bool.and_true, and_true, true_and, and_self, ne_eq, not_false_eq_true, List.cons_append, List.nil_append, List.append_nil, List.append_assoc, Nat.zero_add, Nat.add_zero, Int.toNat_natCast]
  refine callK_F 6 (q4) (by simp (disch := first | assumption | omega | rfl | simp only [hAt_app, hAt_app0, List.getElem?_cons_zero, List.getElem?_cons_succ]) only [↓RP, RG, FX, decide_eq_true, decide_eq_false, Bool.not_true, Bool.not_false, Option.map_some, List.map_cons, List.map_nil, List.getElem?_cons_zero, List.getElem?_cons_succ, ↓reduceIte, Nat.reduceEqDiff, reduceCtorEq, decide_eq_true_eq, decide_eq_false_iff_not, Option.map_none, Option.bind_some, List.contains_nil, List.contains_cons, Nat.reduceBEq, Bool.or_false, Bool.false_or, Bool.or_self, List.set_cons_zero, List.set_cons_succ, List.take_succ_cons, List.take_zero, List.drop_succ_cons, List.drop_zero, List.length_cons, List.length_nil, List.length_append, Nat.reduceAdd, Nat.reduceLeDiff, List.all_cons, List.all_nil, Bool.and_true, and_true, true_and, and_self, ne_eq, not_false_eq_true, List.cons_append, List.nil_append, List.append_nil, List.append_assoc, Nat.zero_add, Nat.add_zero, Int.toNat_natCast, RA] <;> rfl) (.inl (by simp [allFresh, ints_fresh, bools_fresh])) ?_
  simp (disch := first | assumption | omega | rfl | simp only [hAt_app, hAt_app0, List.getElem?_cons_zero, List.getElem?_cons_succ]) only [↓RP, RG, FX, decide_eq_true, decide_eq_false, Bool.not_true, Bool.not_false, Option.map_some, List.map_cons, List.map_nil, List.getElem?_cons_zero, List.getElem?_cons_succ, ↓reduceIte, Nat.reduceEqDiff, reduceCtorEq, decide_eq_true_eq, decide_eq_false_iff_not, Option.map_none, Option.bind_some, List.contains_nil, List.contains_cons, Nat.reduceBEq, Bool.or_false, Bool.false_or, Bool.or_self, List.set_cons_zero, List.set_cons_succ, List.take_succ_cons, List.take_zero, List.drop_succ_cons, List.drop_zero, List.length_cons, List.length_nil, List.length_append, Nat.reduceAdd, Nat.reduceLeDiff, List.all_cons, List.all_nil, Bool.and_true, and_true, true_and, and_self, ne_eq, not_false_eq_true, List.cons_append, List.nil_append, List.append_nil, List.append_assoc, Nat.zero_add, Nat.add_zero, Int.toNat_natCast]
  refine callK_F 6 (q5) (by simp (disch := first | assumption | omega | rfl | simp only [hAt_app, hAt_app0, List.getElem?_cons_zero, List.getElem?_cons_succ]) only [↓RP, RG, FX, decide_eq_true, decide_eq_false, Bool.not_true, Bool.not_false, Option.map_some, List.map_cons, List.map_nil, List.getElem?_cons_zero, List.getElem?_cons_succ, ↓reduceIte, Nat.reduceEqDiff, reduceCtorEq, decide_eq_true_eq, decide_eq_false_iff_not, Option.map_none, Option.bind_some, List.contains_nil, List.contains_cons, Nat.reduceBEq, Bool.or_false, Bool.false_or, Bool.or_self, List.set_cons_zero, List.set_cons_succ, List.take_succ_cons, List.take_zero, List.drop_succ_cons, List.drop_zero, List.length_cons, List.length_nil, List.length_append, Nat.reduceAdd, Nat.reduceLeDiff, List.all_cons, List.all_nil, Bool.and_true, and_true, true_and, and_self, ne_eq, not_false_eq_true, List.cons_append, List.nil_append, List.append_nil, List.append_assoc, Nat.zero_add, Nat.add_zero, Int.toNat_natCast, RA] <;> rfl) (.inl (by simp [allFresh, ints_fresh, bools_fresh])) ?_
  simp (disch := first | assumption | omega | rfl | simp only [hAt_app, hAt_app0, List.getElem?_cons_zero, List.getElem?_cons_succ]) only [↓RP, RG, FX, decide_eq_true, decide_eq_false, Bool.not_true, Bool.not_false, Option.map_some, List.map_cons, List.map_nil, List.getElem?_cons_zero, List.getElem?_cons_succ, ↓reduceIte, Nat.reduceEqDiff, reduceCtorEq, decide_eq_true_eq, decide_eq_false_iff_not, Option.map_none, Option.bind_some, List.contains_nil, List.contains_cons, Nat.reduceBEq, Bool.or_false, Bool.false_or, Bool.or_self, List.set_cons_zero, List.set_cons_succ, List.take_succ_cons, List.take_zero, List.drop_succ_cons, List.drop_zero, List.length_cons, List.length_nil, List.length_append, Nat.reduceAdd, Nat.reduceLeDiff, List.all_cons, List.all_nil, Bool.and_true, and_true, true_and, and_self, ne_eq, not_false_eq_true, List.cons_append, List.nil_append, List.append_nil, List.append_assoc, Nat.zero_add, Nat.add_zero, Int.toNat_natCast]
  refine callK_F 6 (q6) (by simp (disch := first | assumption | omega | rfl | simp only [hAt_app, hAt_app0, List.getElem?_cons_zero, List.getElem?_cons_succ]) only [↓RP, RG, FX, decide_eq_true, decide_eq_false, Bool.not_true, Bool.not_false, Option.map_some, List.map_cons, List.map_nil, List.getElem?_cons_zero, List.getElem?_cons_succ, ↓reduceIte, Nat.reduceEqDiff, reduceCtorEq, decide_eq_true_eq, decide_eq_false_iff_not, Option.map_none, Option.bind_some, List.contains_nil, List.contains_cons, Nat.reduceBEq, Bool.or_false, Bool.false_or, Bool.or_self, List.set_cons_zero, List.set_cons_succ, List.take_succ_cons, List.take_zero, List.drop_succ_cons, List.drop_zero, List.length_cons, List.length_nil, List.length_append, Nat.reduceAdd, Nat.reduceLeDiff, List.all_cons, List.all_nil, Bool.and_true, and_true, true_and, and_self, ne_eq, not_false_eq_true, List.cons_append, List.nil_append, List.append_nil, List.append_assoc, Nat.zero_add, Nat.add_zero, Int.toNat_natCast, RA] <;> rfl) (.inl (by simp [allFresh, ints_fresh, bools_fresh])) ?_
  simp (disch := first | assumption | omega | rfl | simp only [hAt_app, hAt_app0, List.getElem?_cons_zero, List.getElem?_cons_succ]) only [↓RP, RG, FX, decide_eq_true, decide_eq_false, Bool.not_true, Bool.not_false, Option.map_some, List.map_cons, List.map_nil, List.getElem?_cons_zero, List.getElem?_cons_succ, ↓reduceIte, Nat.reduceEqDiff, reduceCtorEq, decide_eq_true_eq, decide_eq_false_iff_not, Option.map_none, Option.bind_some, List.contains_nil, List.contains_cons, Nat.reduceBEq, Bool.or_false, Bool.false_or, Bool.or_self, List.set_cons_zero, List.set_cons_succ, List.take_succ_cons, List.take_zero, List.drop_succ_cons, List.drop_zero, List.length_cons, List.length_nil, List.length_append, Nat.reduceAdd, Nat.reduceLeDiff, List.all_cons, List.all_nil, Bool.and_true, and_true, true_and, and_self, ne_eq, not_false_eq_true, List.cons_append, List.nil_append, List.append_nil, List.append_assoc, Nat.zero_add, Nat.add_zero, Int.toNat_natCast, beq_self_eq_true, List.append_eq]
  refine callK_F 6 (sameR_c W H W H false b1 l1 l1 (by omega)) (by simp (disch := first | assumption | omega | rfl | simp only [hAt_app, hAt_app0, List.getElem?_cons_zero, List.getElem?_cons_succ]) only [↓RP, RG, FX, decide_eq_true, decide_eq_false, Bool.not_true, Bool.not_false, Option.map_some, List.map_cons, List.map_nil, List.getElem?_cons_zero, List.getElem?_cons_succ, ↓reduceIte, Nat.reduceEqDiff, reduceCtorEq, decide_eq_true_eq, decide_eq_false_iff_not, Option.map_none, Option.bind_some, List.contains_nil, List.contains_cons, Nat.reduceBEq, Bool.or_false, Bool.false_or, Bool.or_self, List.set_cons_zero, List.set_cons_succ, List.take_succ_cons, List.take_zero, List.drop_succ_cons, List.drop_zero, List.length_cons, List.length_nil, List.length_append, Nat.reduceAdd, Nat.reduceLeDiff, List.all_cons, List.all_nil, Bool.and_true, and_true, true_and, and_self, ne_eq, not_false_eq_true, List.cons_append, List.nil_append, List.append_nil, List.append_assoc, Nat.zero_add, Nat.add_zero, Int.toNat_natCast, RA] <;> rfl) (.inl (by simp [allFresh, ints_fresh, bools_fresh])) ?_
  simp (disch := first | assumption | omega | rfl | simp only [hAt_app, hAt_app0, List.getElem?_cons_zero, List.getElem?_cons_succ]) only [↓RP, RG, FX, decide_eq_true, decide_eq_false, Bool.not_true, Bool.not_false, Option.map_some, List.map_cons, List.map_nil, List.getElem?_cons_zero, List.getElem?_cons_succ, ↓reduceIte, Nat.reduceEqDiff, reduceCtorEq, decide_eq_true_eq, decide_eq_false_iff_not, Option.map_none, Option.bind_some, List.contains_nil, List.contains_cons, Nat.reduceBEq, Bool.or_false, Bool.false_or, Bool.or_self, List.set_cons_zero, List.set_cons_succ, List.take_succ_cons, List.take_zero, List.drop_succ_cons, List.drop_zero, List.length_cons, List.length_nil, List.length_append, Nat.reduceAdd, Nat.reduceLeDiff, List.all_cons, List.all_nil, Bool.and_true, and_true, true_and, and_self, ne_eq, not_false_eq_true, List.cons_append, List.nil_append, List.append_nil, List.append_assoc, Nat.zero_add, Nat.add_zero, Int.toNat_natCast, beq_self_eq_true]
  refine callK_F 6 (sameR_c W H W H false b1 l1 l1 (by omega)) (by simp (disch := first | assumption | omega | rfl | simp only [hAt_app, hAt_app0, List.getElem?_cons_zero, List.getElem?_cons_succ]) only [↓RP, RG, FX, decide_eq_true, decide_eq_false, Bool.not_true, Bool.not_false, Option.map_some, List.map_cons, List.map_nil, List.getElem?_cons_zero, List.getElem?_cons_succ, ↓reduceIte, Nat.reduceEqDiff, reduceCtorEq, decide_eq_true_eq, decide_eq_false_iff_not, Option.map_none, Option.bind_some, List.contains_nil, List.contains_cons, Nat.reduceBEq, Bool.or_false, Bool.false_or, Bool.or_self, List.set_cons_zero, List.set_cons_succ, List.take_succ_cons, List.take_zero, List.drop_succ_cons, List.drop_zero, List.length_cons, List.length_nil, List.length_append, Nat.reduceAdd, Nat.reduceLeDiff, List.all_cons, List.all_nil, Bool.and_true, and_true, true_and, and_self, ne_eq, not_false_eq_true, List.cons_append, List.nil_append, List.append_nil, List.append_assoc, Nat.zero_add, Nat.add_zero, Int.toNat_natCast, RA] <;> rfl) (.inl (by simp [allFresh, ints_fresh, bools_fresh])) ?_
  simp (disch := first | assumption | omega | rfl | simp only [hAt_app, hAt_app0, List.getElem?_cons_zero, List.getElem?_cons_succ]) only [↓RP, RG, FX, decide_eq_true, decide_eq_false, Bool.not_true, Bool.not_false, Option.map_some, List.map_cons, List.map_nil, List.getElem?_cons_zero, List.getElem?_cons_succ, ↓reduceIte, Nat.reduceEqDiff, reduceCtorEq, decide_eq_true_eq, decide_eq_false_iff_not, Option.map_none, Option.bind_some, List.contains_nil, List.contains_cons, Nat.reduceBEq, Bool.or_false, Bool.false_or, Bool.or_self, List.set_cons_zero, List.set_cons_succ, List.take_succ_cons, List.take_zero, List.drop_succ_cons, List.drop_zero, List.length_cons, List.length_nil, List.length_append, Nat.reduceAdd, Nat.reduceLeDiff, List.all_cons, List.all_nil, Bool.and_true, and_true, true_and, and_self, ne_eq, not_false_eq_true, List.cons_append, List.nil_append, List.append_nil, List.append_assoc, Nat.zero_add, Nat.add_zero, Int.toNat_natCast, beq_self_eq_true]
  refine callK_F 6 (sameR_c W H W H false false BK BK (by omega)) (by simp (disch := first | assumption | omega | rfl | simp only [hAt_app, hAt_app0, List.getElem?_cons_zero, List.getElem?_cons_succ]) only [↓RP, RG, FX, decide_eq_true, decide_eq_false, Bool.not_true, Bool.not_false, Option.map_some, List.map_cons, List.map_nil, List.getElem?_cons_zero, List.getElem?_cons_succ, ↓reduceIte, Nat.reduceEqDiff, reduceCtorEq, decide_eq_true_eq, decide_eq_false_iff_not, Option.map_none, Option.bind_some, List.contains_nil, List.contains_cons, Nat.reduceBEq, Bool.or_false, Bool.false_or, Bool.or_self, List.set_cons_zero, List.set_cons_succ, List.take_succ_cons, List.take_zero, List.drop_succ_cons, List.drop_zero, List.length_cons, List.length_nil, List.length_append, Nat.reduceAdd, Nat.reduceLeDiff, List.all_cons, List.all_nil, Bool.and_true, and_true, true_and, and_self, ne_eq, not_false_eq_true, List.cons_append, List.nil_append, List.append_nil, List.append_assoc, Nat.zero_add, Nat.add_zero, Int.toNat_natCast, RA] <;> rfl) (.inl (by simp [allFresh, ints_fresh, bools_fresh])) ?_
  simp (disch := first | assumption | omega | rfl | simp only [hAt_app, hAt_app0, List.getElem?_cons_zero, List.getElem?_cons_succ]) only [↓RP, RG, FX, decide_eq_true, decide_eq_false, Bool.not_true, Bool.not_false, Option.map_some, List.map_cons, List.map_nil, List.getElem?_cons_zero, List.getElem?_cons_succ, ↓reduceIte, Nat.reduceEqDiff, reduceCtorEq, decide_eq_true_eq, decide_eq_false_iff_not, Option.map_none, Option.bind_some, List.contains_nil, List.contains_cons, Nat.reduceBEq, Bool.or_false, Bool.false_or, Bool.or_self, List.set_cons_zero, List.set_cons_succ, List.take_succ_cons, List.take_zero, List.drop_succ_cons, List.drop_zero, List.length_cons, List.length_nil, List.length_append, Nat.reduceAdd, Nat.reduceLeDiff, List.all_cons, List.all_nil, Bool.and_true, and_true, true_and, and_self, ne_eq, not_false_eq_true, List.cons_append, List.nil_append, List.append_nil, List.append_assoc, Nat.zero_add, Nat.add_zero, Int.toNat_natCast, beq_self_eq_true]
  refine loopK_I [3, 4, 5, 15, 25] (fun k : Nat => k ≤ m) (fun k : Nat => ⟨[(3, .ptr 0 0 3), (4, .ptr 1 0 3), (5, .ptr 2 0 3), (15, .ptr 5 0 3), (25, I k)], [⟨24, 3, [I W, I H, BA b1 l1]⟩, ⟨24, 3, [I W, I H, BA b2 l2]⟩, ⟨24, 3, [I W, I H, BA b3 l3]⟩, ⟨24, 3, [I W, I H, BR false BK]⟩, ⟨24, 3, [I W, I H, BR false l1]⟩, ⟨24, 3, [I W, I H, BR false F]⟩, ⟨24, 3, [I ((2 * W : Nat) : Int), I ((2 * H : Nat) : Int), BR false D]⟩, ⟨24, 3, [I W, I H, BR false l1]⟩, ⟨24, 3, [I W, I H, BR false BK]⟩, ⟨24, 3, [I W, I H, BR false TR]⟩]⟩) (fun k => m - k) 0 (by omega) (by simp only [↓RP, RG, FX, decide_eq_true, decide_eq_false, Bool.not_true, Bool.not_false, Option.map_some, List.map_cons, List.map_nil, List.getElem?_cons_zero, List.getElem?_cons_succ, ↓reduceIte, Nat.reduceEqDiff, reduceCtorEq, decide_eq_true_eq, decide_eq_false_iff_not, Option.map_none, Option.bind_some, List.contains_nil, List.contains_cons, Nat.reduceBEq, Bool.or_false, Bool.false_or, Bool.or_self, List.set_cons_zero, List.set_cons_succ, List.take_succ_cons, List.take_zero, List.drop_succ_cons, List.drop_zero, List.length_cons, List.length_nil, List.length_append, Nat.reduceAdd, Nat.reduceLeDiff, List.all_cons, List.all_nil, Bool.and_true, and_true, true_and, and_self, ne_eq, not_false_eq_true, List.cons_append, List.nil_append, List.append_nil, List.append_assoc, Nat.zero_add, Nat.add_zero, Int.toNat_natCast]; rfl) ?_
  intro k hk
  by_cases hlt : k < m
  · have hg := hFg k hlt
    cases hc : l3.getD k false with
    | true =>
      rw [hc, if_pos rfl] at hg
      simp (disch := first | assumption | omega | rfl | simp only [hAt_app, hAt_app0, List.getElem?_cons_zero, List.getElem?_cons_succ]) only [↓RP, RG, FX, decide_eq_true, decide_eq_false, Bool.not_true, Bool.not_false, Option.map_some, List.map_cons, List.map_nil, List.getElem?_cons_zero, List.getElem?_cons_succ, ↓reduceIte, Nat.reduceEqDiff, reduceCtorEq, decide_eq_true_eq, decide_eq_false_iff_not, Option.map_none, Option.bind_some, List.contains_nil, List.contains_cons, Nat.reduceBEq, Bool.or_false, Bool.false_or, Bool.or_self, List.set_cons_zero, List.set_cons_succ, List.take_succ_cons, List.take_zero, List.drop_succ_cons, List.drop_zero, List.length_cons, List.length_nil, List.length_append, Nat.reduceAdd, Nat.reduceLeDiff, List.all_cons, List.all_nil, Bool.and_true, and_true, true_and, and_self, ne_eq, not_false_eq_true, List.cons_append, List.nil_append, List.append_nil, List.append_assoc, Nat.zero_add, Nat.add_zero, Int.toNat_natCast, hc, hg, Bool.not_true, Bool.not_false, Bool.false_eq_true, bne_self_eq_false, beq_self_eq_true]
      exact ⟨k + 1, hlt, rfl, by omega⟩
    | false =>
      rw [hc, if_neg (by simp)] at hg
      simp (disch := first | assumption | omega | rfl | simp only [hAt_app, hAt_app0, List.getElem?_cons_zero, List.getElem?_cons_succ]) only [↓RP, RG, FX, decide_eq_true, decide_eq_false, Bool.not_true, Bool.not_false, Option.map_some, List.map_cons, List.map_nil, List.getElem?_cons_zero, List.getElem?_cons_succ, ↓reduceIte, Nat.reduceEqDiff, reduceCtorEq, decide_eq_true_eq, decide_eq_false_iff_not, Option.map_none, Option.bind_some, List.contains_nil, List.contains_cons, Nat.reduceBEq, Bool.or_false, Bool.false_or, Bool.or_self, List.set_cons_zero, List.set_cons_succ, List.take_succ_cons, List.take_zero, List.drop_succ_cons, List.drop_zero, List.length_cons, List.length_nil, List.length_append, Nat.reduceAdd, Nat.reduceLeDiff, List.all_cons, List.all_nil, Bool.and_true, and_true, true_and, and_self, ne_eq, not_false_eq_true, List.cons_append, List.nil_append, List.append_nil, List.append_assoc, Nat.zero_add, Nat.add_zero, Int.toNat_natCast, hc, hg, Bool.not_true, Bool.not_false, Bool.false_eq_true, bne_self_eq_false, beq_self_eq_true]
      exact ⟨k + 1, hlt, rfl, by omega⟩
  · obtain rfl : k = m := by omega
    simp (disch := first | assumption | omega | rfl | simp only [hAt_app, hAt_app0, List.getElem?_cons_zero, List.getElem?_cons_succ]) only [↓RP, RG, FX, decide_eq_true, decide_eq_false, Bool.not_true, Bool.not_false, Option.map_some, List.map_cons, List.map_nil, List.getElem?_cons_zero, List.getElem?_cons_succ, ↓reduceIte, Nat.reduceEqDiff, reduceCtorEq, decide_eq_true_eq, decide_eq_false_iff_not, Option.map_none, Option.bind_some, List.contains_nil, List.contains_cons, Nat.reduceBEq, Bool.or_false, Bool.false_or, Bool.or_self, List.set_cons_zero, List.set_cons_succ, List.take_succ_cons, List.take_zero, List.drop_succ_cons, List.drop_zero, List.length_cons, List.length_nil, List.length_append, Nat.reduceAdd, Nat.reduceLeDiff, List.all_cons, List.all_nil, Bool.and_true, and_true, true_and, and_self, ne_eq, not_false_eq_true, List.cons_append, List.nil_append, List.append_nil, List.append_assoc, Nat.zero_add, Nat.add_zero, Int.toNat_natCast]
    refine callK_F 6 (alive_c) (by simp (disch := first | assumption | omega | rfl | simp only [hAt_app, hAt_app0, List.getElem?_cons_zero, List.getElem?_cons_succ]) only [↓RP, RG, FX, decide_eq_true, decide_eq_false, Bool.not_true, Bool.not_false, Option.map_some, List.map_cons, List.map_nil, List.getElem?_cons_zero, List.getElem?_cons_succ, ↓reduceIte, Nat.reduceEqDiff, reduceCtorEq, decide_eq_true_eq, decide_eq_false_iff_not, Option.map_none, Option.bind_some, List.contains_nil, List.contains_cons, Nat.reduceBEq, Bool.or_false, Bool.false_or, Bool.or_self, List.set_cons_zero, List.set_cons_succ, List.take_succ_cons, List.take_zero, List.drop_succ_cons, List.drop_zero, List.length_cons, List.length_nil, List.length_append, Nat.reduceAdd, Nat.reduceLeDiff, List.all_cons, List.all_nil, Bool.and_true, and_true, true_and, and_self, ne_eq, not_false_eq_true, List.cons_append, List.nil_append, List.append_nil, List.append_assoc, Nat.zero_add, Nat.add_zero, Int.toNat_natCast, RA] <;> rfl) (.inl (by simp [allFresh, ints_fresh, bools_fresh])) ?_
    simp (disch := first | assumption | omega | rfl | simp only [hAt_app, hAt_app0, List.getElem?_cons_zero, List.getElem?_cons_succ]) only [↓RP, RG, FX, decide_eq_true, decide_eq_false, Bool.not_true, Bool.not_false, Option.map_some, List.map_cons, List.map_nil, List.getElem?_cons_zero, List.getElem?_cons_succ, ↓reduceIte, Nat.reduceEqDiff, reduceCtorEq, decide_eq_true_eq, decide_eq_false_iff_not, Option.map_none, Option.bind_some, List.contains_nil, List.contains_cons, Nat.reduceBEq, Bool.or_false, Bool.false_or, Bool.or_self, List.set_cons_zero, List.set_cons_succ, List.take_succ_cons, List.take_zero, List.drop_succ_cons, List.drop_zero, List.length_cons, List.length_nil, List.length_append, Nat.reduceAdd, Nat.reduceLeDiff, List.all_cons, List.all_nil, Bool.and_true, and_true, true_and, and_self, ne_eq, not_false_eq_true, List.cons_append, List.nil_append, List.append_nil, List.append_assoc, Nat.zero_add, Nat.add_zero, Int.toNat_natCast]
    rw [resVal_1 rfl]; simp (disch := first | assumption | omega | rfl | simp only [hAt_app, hAt_app0, List.getElem?_cons_zero, List.getElem?_cons_succ]) only [↓RP, RG, FX, decide_eq_true, decide_eq_false, Bool.not_true, Bool.not_false, Option.map_some, List.map_cons, List.map_nil, List.getElem?_cons_zero, List.getElem?_cons_succ, ↓reduceIte, Nat.reduceEqDiff, reduceCtorEq, decide_eq_true_eq, decide_eq_false_iff_not, Option.map_none, Option.bind_some, List.contains_nil, List.contains_cons, Nat.reduceBEq, Bool.or_false, Bool.false_or, Bool.or_self, List.set_cons_zero, List.set_cons_succ, List.take_succ_cons, List.take_zero, List.drop_succ_cons, List.drop_zero, List.length_cons, List.length_nil, List.length_append, Nat.reduceAdd, Nat.reduceLeDiff, List.all_cons, List.all_nil, Bool.and_true, and_true, true_and, and_self, ne_eq, not_false_eq_true, List.cons_append, List.nil_append, List.append_nil, List.append_assoc, Nat.zero_add, Nat.add_zero, Int.toNat_natCast, RS]
end Go.Proofs.YtkcicgadggiklaaGreatDoor
