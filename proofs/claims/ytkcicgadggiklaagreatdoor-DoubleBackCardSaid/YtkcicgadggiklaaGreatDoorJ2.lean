/- Part 2 of the proof's own texts: the contracts of functions, and what they rest on. -/
import Derived.Test.YtkcicgadggiklaaGreatDoorJ1
import Derived.Test.YtkcicgadggiklaaGreatDoorBw4
import Derived.Shelf.Sort.AssemblyIn
import Derived.Shelf.Slices.CompactI
import Derived.Test.YtkcicgadggiklaaGreatDoorProg
import Derived.Test.YtkcicgadggiklaaGreatDoorBw5
import Derived.Test.YtkcicgadggiklaaGreatDoorBw3
/- Double cloths: a double cloth taken apart, by the program. -/
set_option linter.unusedSimpArgs false
set_option linter.unusedVariables false
set_option maxRecDepth 100000
namespace Go.Proofs.YtkcicgadggiklaaGreatDoor
open Go Go.Proofs Go.AW

/-- A cell of one of the parts. -/
def uA (W : Nat) (l : List Bool) (dx dy x y : Nat) : Bool := cell ((2 * W : Nat) : Int) l ((2 * x + dx : Nat) : Int) ((2 * y + dy : Nat) : Int)

theorem apF_c {W H : Nat} (hW : W ≤ 32) (hH : H ≤ 32) (b : Bool) {l : List Bool} (hn : l.length = 2 * W * (2 * H)) {dx dy x y : Nat} (hdx : dx ≤ 1) (hdy : dy ≤ 1) (hx : x < W) (hy : y < H) :
    Contract Tryz.prog 26 [I x, I y, GS ((2 * W : Nat) : Int) ((2 * H : Nat) : Int) b l, .spot false [I dx], .spot false [I dy]] (B (uA W l dx dy x y)) := by
  have i1 := cell_in hn (show 2 * x + dx < 2 * W by omega) (show 2 * y + dy < 2 * H by omega) (by omega) (by omega)
  have e1 : (2 : Int) * (x : Int) + (dx : Int) = ((2 * x + dx : Nat) : Int) := by omega
  have e2 : (2 : Int) * (y : Int) + (dy : Int) = ((2 * y + dy : Nat) : Int) := by omega
  refine Contract.intro (effS [] false) 6 follows Tryz.func26 rfl rfl (by kernel_rfl) (Nat.le_of_ble_eq_true rfl) ?_
  simp (disch := first | assumption | omega | rfl | simp only [hAt_app, hAt_app0, List.getElem?_cons_zero, List.getElem?_cons_succ]) only [↓RP, RG, FX, decide_eq_true, decide_eq_false, Bool.not_true, Bool.not_false, Option.map_some, List.map_cons, List.map_nil, List.getElem?_cons_zero, List.getElem?_cons_succ, ↓reduceIte, Nat.reduceEqDiff, reduceCtorEq, decide_eq_true_eq, decide_eq_false_iff_not, Option.map_none, Option.bind_some, List.contains_nil, List.contains_cons, Nat.reduceBEq, Bool.or_false, Bool.false_or, Bool.or_self, List.set_cons_zero, List.set_cons_succ, List.take_succ_cons, List.take_zero, List.drop_succ_cons, List.drop_zero, List.length_cons, List.length_nil, List.length_append, Nat.reduceAdd, Nat.reduceLeDiff, List.all_cons, List.all_nil, Bool.and_true, and_true, true_and, and_self, ne_eq, not_false_eq_true, List.cons_append, List.nil_append, List.append_nil, List.append_assoc, Nat.zero_add, Nat.add_zero, Int.toNat_natCast, args0_5, e1, e2]
  refine callK_F 6 (atD_c ((2 * W : Nat) : Int) ((2 * H : Nat) : Int) b l ((2 * x + dx : Nat) : Int) ((2 * y + dy : Nat) : Int) (by omega) (by omega) (by omega) (by omega) (by omega)) (by simp (disch := first | assumption | omega | rfl | simp only [hAt_app, hAt_app0, List.getElem?_cons_zero, List.getElem?_cons_succ]) only [↓RP, RG, FX, decide_eq_true, decide_eq_false, Bool.not_true, Bool.not_false, Option.map_some, List.map_cons, List.map_nil, List.getElem?_cons_zero, List.getElem?_cons_succ, ↓reduceIte, Nat.reduceEqDiff, reduceCtorEq, decide_eq_true_eq, decide_eq_false_iff_not, Option.map_none, Option.bind_some, List.contains_nil, List.contains_cons, Nat.reduceBEq, Bool.or_false, Bool.false_or, Bool.or_self, List.set_cons_zero, List.set_cons_succ, List.take_succ_cons, List.take_zero, List.drop_succ_cons, List.drop_zero, List.length_cons, List.length_nil, List.length_append, Nat.reduceAdd, Nat.reduceLeDiff, List.all_cons, List.all_nil, Bool.and_true, and_true, true_and, and_self, ne_eq, not_false_eq_true, List.cons_append, List.nil_append, List.append_nil, List.append_assoc, Nat.zero_add, Nat.add_zero, Int.toNat_natCast, RA] <;> rfl) (.inl (by simp [allFresh, ints_fresh, bools_fresh])) ?_
  simp (disch := first | assumption | omega | rfl | simp only [hAt_app, hAt_app0, List.getElem?_cons_zero, List.getElem?_cons_succ]) only [↓RP, RG, FX, decide_eq_true, decide_eq_false, Bool.not_true, Bool.not_false, Option.map_some, List.map_cons, List.map_nil, List.getElem?_cons_zero, List.getElem?_cons_succ, ↓reduceIte, Nat.reduceEqDiff, reduceCtorEq, decide_eq_true_eq, decide_eq_false_iff_not, Option.map_none, Option.bind_some, List.contains_nil, List.contains_cons, Nat.reduceBEq, Bool.or_false, Bool.false_or, Bool.or_self, List.set_cons_zero, List.set_cons_succ, List.take_succ_cons, List.take_zero, List.drop_succ_cons, List.drop_zero, List.length_cons, List.length_nil, List.length_append, Nat.reduceAdd, Nat.reduceLeDiff, List.all_cons, List.all_nil, Bool.and_true, and_true, true_and, and_self, ne_eq, not_false_eq_true, List.cons_append, List.nil_append, List.append_nil, List.append_assoc, Nat.zero_add, Nat.add_zero, Int.toNat_natCast]
  rw [resVal_1 rfl]; simp (disch := first | assumption | omega | rfl | simp only [hAt_app, hAt_app0, List.getElem?_cons_zero, List.getElem?_cons_succ]) only [↓RP, RG, FX, decide_eq_true, decide_eq_false, Bool.not_true, Bool.not_false, Option.map_some, List.map_cons, List.map_nil, List.getElem?_cons_zero, List.getElem?_cons_succ, ↓reduceIte, Nat.reduceEqDiff, reduceCtorEq, decide_eq_true_eq, decide_eq_false_iff_not, Option.map_none, Option.bind_some, List.contains_nil, List.contains_cons, Nat.reduceBEq, Bool.or_false, Bool.false_or, Bool.or_self, List.set_cons_zero, List.set_cons_succ, List.take_succ_cons, List.take_zero, List.drop_succ_cons, List.drop_zero, List.length_cons, List.length_nil, List.length_append, Nat.reduceAdd, Nat.reduceLeDiff, List.all_cons, List.all_nil, Bool.and_true, and_true, true_and, and_self, ne_eq, not_false_eq_true, List.cons_append, List.nil_append, List.append_nil, List.append_assoc, Nat.zero_add, Nat.add_zero, Int.toNat_natCast, RS]
  rfl

theorem part_c {W H : Nat} (hW0 : 0 < W) (hH0 : 0 < H) (hW : W ≤ 32) (hH : H ≤ 32) (b : Bool) {l : List Bool} (hn : l.length = 2 * W * (2 * H)) (dx dy : Nat) (hdx : dx ≤ 1) (hdy : dy ≤ 1) :
    Contract Tryz.prog 25 [I dx, I dy, .spot false [I W], .spot false [I H], GS ((2 * W : Nat) : Int) ((2 * H : Nat) : Int) b l] (GR W H false (tabN W (uA W l dx dy) (W * H))) := by
  have ht := table_c 26 [GS ((2 * W : Nat) : Int) ((2 * H : Nat) : Int) b l, .spot false [I dx], .spot false [I dy]] W H (uA W l dx dy) (by omega) (by omega) (fun r => by simp only [RA, List.map_cons, List.map_nil]) (fun x y hx hy => apF_c hW hH b hn hdx hdy hx hy)
  rw [tabN_nil hW0 hH0] at ht
  refine Contract.intro (effS [] false) 6 follows Tryz.func25 rfl rfl (by kernel_rfl) (Nat.le_of_ble_eq_true rfl) ?_
  simp (disch := first | assumption | omega | rfl | simp only [hAt_app, hAt_app0, List.getElem?_cons_zero, List.getElem?_cons_succ]) only [↓RP, RG, FX, decide_eq_true, decide_eq_false, Bool.not_true, Bool.not_false, Option.map_some, List.map_cons, List.map_nil, List.getElem?_cons_zero, List.getElem?_cons_succ, ↓reduceIte, Nat.reduceEqDiff, reduceCtorEq, decide_eq_true_eq, decide_eq_false_iff_not, Option.map_none, Option.bind_some, List.contains_nil, List.contains_cons, Nat.reduceBEq, Bool.or_false, Bool.false_or, Bool.or_self, List.set_cons_zero, List.set_cons_succ, List.take_succ_cons, List.take_zero, List.drop_succ_cons, List.drop_zero, List.length_cons, List.length_nil, List.length_append, Nat.reduceAdd, Nat.reduceLeDiff, List.all_cons, List.all_nil, Bool.and_true, and_true, true_and, and_self, ne_eq, not_false_eq_true, List.cons_append, List.nil_append, List.append_nil, List.append_assoc, Nat.zero_add, Nat.add_zero, Int.toNat_natCast, args0_5]
  refine callK_F 6 (ht) (by simp (disch := first | assumption | omega | rfl | simp only [hAt_app, hAt_app0, List.getElem?_cons_zero, List.getElem?_cons_succ]) only [↓RP, RG, FX, decide_eq_true, decide_eq_false, Bool.not_true, Bool.not_false, Option.map_some, List.map_cons, List.map_nil, List.getElem?_cons_zero, List.getElem?_cons_succ, ↓reduceIte, Nat.reduceEqDiff, reduceCtorEq, decide_eq_true_eq, decide_eq_false_iff_not, Option.map_none, Option.bind_some, List.contains_nil, List.contains_cons, Nat.reduceBEq, Bool.or_false, Bool.false_or, Bool.or_self, List.set_cons_zero, List.set_cons_succ, List.take_succ_cons, List.take_zero, List.drop_succ_cons, List.drop_zero, List.length_cons, List.length_nil, List.length_append, Nat.reduceAdd, Nat.reduceLeDiff, List.all_cons, List.all_nil, Bool.and_true, and_true, true_and, and_self, ne_eq, not_false_eq_true, List.cons_append, List.nil_append, List.append_nil, List.append_assoc, Nat.zero_add, Nat.add_zero, Int.toNat_natCast, RA] <;> rfl) (.inl (by simp [allFresh, ints_fresh, bools_fresh])) ?_
  simp (disch := first | assumption | omega | rfl | simp only [hAt_app, hAt_app0, List.getElem?_cons_zero, List.getElem?_cons_succ]) only [↓RP, RG, FX, decide_eq_true, decide_eq_false, Bool.not_true, Bool.not_false, Option.map_some, List.map_cons, List.map_nil, List.getElem?_cons_zero, List.getElem?_cons_succ, ↓reduceIte, Nat.reduceEqDiff, reduceCtorEq, decide_eq_true_eq, decide_eq_false_iff_not, Option.map_none, Option.bind_some, List.contains_nil, List.contains_cons, Nat.reduceBEq, Bool.or_false, Bool.false_or, Bool.or_self, List.set_cons_zero, List.set_cons_succ, List.take_succ_cons, List.take_zero, List.drop_succ_cons, List.drop_zero, List.length_cons, List.length_nil, List.length_append, Nat.reduceAdd, Nat.reduceLeDiff, List.all_cons, List.all_nil, Bool.and_true, and_true, true_and, and_self, ne_eq, not_false_eq_true, List.cons_append, List.nil_append, List.append_nil, List.append_assoc, Nat.zero_add, Nat.add_zero, Int.toNat_natCast]
  rw [resVal_1 rfl]; simp (disch := first | assumption | omega | rfl | simp only [hAt_app, hAt_app0, List.getElem?_cons_zero, List.getElem?_cons_succ]) only [↓RP, RG, FX, decide_eq_true, decide_eq_false, Bool.not_true, Bool.not_false, Option.map_some, List.map_cons, List.map_nil, List.getElem?_cons_zero, List.getElem?_cons_succ, ↓reduceIte, Nat.reduceEqDiff, reduceCtorEq, decide_eq_true_eq, decide_eq_false_iff_not, Option.map_none, Option.bind_some, List.contains_nil, List.contains_cons, Nat.reduceBEq, Bool.or_false, Bool.false_or, Bool.or_self, List.set_cons_zero, List.set_cons_succ, List.take_succ_cons, List.take_zero, List.drop_succ_cons, List.drop_zero, List.length_cons, List.length_nil, List.length_append, Nat.reduceAdd, Nat.reduceLeDiff, List.all_cons, List.all_nil, Bool.and_true, and_true, true_and, and_self, ne_eq, not_false_eq_true, List.cons_append, List.nil_append, List.append_nil, List.append_assoc, Nat.zero_add, Nat.add_zero, Int.toNat_natCast, RS]

abbrev GE : AVal := GR 0 0 true []

/-- The two mixed parts are each other's inverse. -/
def fits (W H : Nat) (l : List Bool) : Prop := ∀ k, k < W * H → (tabN W (uA W l 1 0) (W * H)).getD k false ≠ (tabN W (uA W l 0 1) (W * H)).getD k false

theorem dapartP_even {W H : Nat} (hW0 : 0 < W) (hH0 : 0 < H) (hW : W ≤ 32) (hH : H ≤ 32) (b : Bool) {l : List Bool} (hn : l.length = 2 * W * (2 * H)) (r : List AVal)
    (hr1 : fits W H l → r = [GR W H false (tabN W (uA W l 0 0) (W * H)), GR W H false (tabN W (uA W l 1 1) (W * H)), GR W H false (tabN W (uA W l 0 1) (W * H)), I 0]) (hr2 : ¬ fits W H l → r = [GE, GE, GE, I 6]) :
    Contract Tryz.prog 10 [GA ((2 * W : Nat) : Int) ((2 * H : Nat) : Int) b l] (.tuple r) := by
  have hg : gOk ((2 * W : Nat) : Int) ((2 * H : Nat) : Int) l.length := ⟨by omega, by omega, by omega, by omega, by rw [hn, Int.natCast_mul]⟩
  have hz := gchk_ok hg
  have e1 : (2 : Int) * (W : Int) = ((2 * W : Nat) : Int) := by omega
  have e2 : (2 : Int) * (H : Int) = ((2 * H : Nat) : Int) := by omega
  have d1 : 2 * W / 2 = W := by omega
  have d2 : 2 * H / 2 = H := by omega
  have p00 := part_c hW0 hH0 hW hH b hn 0 0 (by omega) (by omega)
  have p11 := part_c hW0 hH0 hW hH b hn 1 1 (by omega) (by omega)
  have p01 := part_c hW0 hH0 hW hH b hn 0 1 (by omega) (by omega)
  have p10 := part_c hW0 hH0 hW hH b hn 1 0 (by omega) (by omega)
  simp only [Int.natCast_zero, Int.natCast_one] at p00 p11 p01 p10
  have q00 := tabN_len W (uA W l 0 0) (W * H)
  have q11 := tabN_len W (uA W l 1 1) (W * H)
  have q01 := tabN_len W (uA W l 0 1) (W * H)
  have q10 := tabN_len W (uA W l 1 0) (W * H)
  have hq : W * H ≤ 32 * 32 := Nat.mul_le_mul hW hH
  unfold fits at hr1 hr2
  generalize tabN W (uA W l 0 0) (W * H) = A at *
  generalize tabN W (uA W l 1 1) (W * H) = B1 at *
  generalize tabN W (uA W l 0 1) (W * H) = M at *
  generalize tabN W (uA W l 1 0) (W * H) = V at *
  generalize hN : W * H = n at *
  refine Contract.intro (effS [] false [] [] [21, 24] (fun i => !(i == 0)) [17, 18, 19, 36, 37, 38, 65, 66, 67]) 6 follows Tryz.func10 rfl rfl (by kernel_rfl) (Nat.le_of_ble_eq_true rfl) ?_
  simp (disch := first | assumption | omega | rfl | simp only [hAt_app, hAt_app0, List.getElem?_cons_zero, List.getElem?_cons_succ]) only [↓RP, RG, FX, decide_eq_true, decide_eq_false, Bool.not_true, Bool.not_false, Option.map_some, List.map_cons, List.map_nil, List.getElem?_cons_zero, List.getElem?_cons_succ, ↓reduceIte, Nat.reduceEqDiff, reduceCtorEq, decide_eq_true_eq, decide_eq_false_iff_not, Option.map_none, Option.bind_some, List.contains_nil, List.contains_cons, Nat.reduceBEq, Bool.or_false, Bool.false_or, Bool.or_self, List.set_cons_zero, List.set_cons_succ, List.take_succ_cons, List.take_zero, List.drop_succ_cons, List.drop_zero, List.length_cons, List.length_nil, List.length_append, Nat.reduceAdd, Nat.reduceLeDiff, List.all_cons, List.all_nil, Bool.and_true, and_true, true_and, and_self, ne_eq, not_false_eq_true, List.cons_append, List.nil_append, List.append_nil, List.append_assoc, Nat.zero_add, Nat.add_zero, Int.toNat_natCast, args0_1]
  refine callK_F 6 (check1_c ((2 * W : Nat) : Int) ((2 * H : Nat) : Int) b l) (by simp (disch := first | assumption | omega | rfl | simp only [hAt_app, hAt_app0, List.getElem?_cons_zero, List.getElem?_cons_succ]) only [↓RP, RG, FX, decide_eq_true, decide_eq_false, Bool.not_true, Bool.not_false, Option.map_some, List.map_cons, List.map_nil, List.getElem?_cons_zero, List.getElem?_cons_succ, ↓reduceIte, Nat.reduceEqDiff, reduceCtorEq, decide_eq_true_eq, decide_eq_false_iff_not, Option.map_none, Option.bind_some, List.contains_nil, List.contains_cons, Nat.reduceBEq, Bool.or_false, Bool.false_or, Bool.or_self, List.set_cons_zero, List.set_cons_succ, List.take_succ_cons, List.take_zero, List.drop_succ_cons, List.drop_zero, List.length_cons, List.length_nil, List.length_append, Nat.reduceAdd, Nat.reduceLeDiff, List.all_cons, List.all_nil, Bool.and_true, and_true, true_and, and_self, ne_eq, not_false_eq_true, List.cons_append, List.nil_append, List.append_nil, List.append_assoc, Nat.zero_add, Nat.add_zero, Int.toNat_natCast, RA] <;> rfl) (.inl (by simp [allFresh, ints_fresh, bools_fresh])) ?_
  simp (disch := first | assumption | omega | rfl | simp only [hAt_app, hAt_app0, List.getElem?_cons_zero, List.getElem?_cons_succ]) only [↓RP, RG, FX, decide_eq_true, decide_eq_false, Bool.not_true, Bool.not_false, Option.map_some, List.map_cons, List.map_nil, List.getElem?_cons_zero, List.getElem?_cons_succ, ↓reduceIte, Nat.reduceEqDiff, reduceCtorEq, decide_eq_true_eq, decide_eq_false_iff_not, Option.map_none, Option.bind_some, List.contains_nil, List.contains_cons, Nat.reduceBEq, Bool.or_false, Bool.false_or, Bool.or_self, List.set_cons_zero, List.set_cons_succ, List.take_succ_cons, List.take_zero, List.drop_succ_cons, List.drop_zero, List.length_cons, List.length_nil, List.length_append, Nat.reduceAdd, Nat.reduceLeDiff, List.all_cons, List.all_nil, Bool.and_true, and_true, true_and, and_self, ne_eq, not_false_eq_true, List.cons_append, List.nil_append, List.append_nil, List.append_assoc, Nat.zero_add, Nat.add_zero, Int.toNat_natCast, hz, quo_int, Int.toNat_natCast, Int.reduceToNat, d1, d2]
  refine callK_F 6 (size_c ((2 * W : Nat) : Int) ((2 * H : Nat) : Int) b l) (by simp (disch := first | assumption | omega | rfl | simp only [hAt_app, hAt_app0, List.getElem?_cons_zero, List.getElem?_cons_succ]) only [↓RP, RG, FX, decide_eq_true, decide_eq_false, Bool.not_true, Bool.not_false, Option.map_some, List.map_cons, List.map_nil, List.getElem?_cons_zero, List.getElem?_cons_succ, ↓reduceIte, Nat.reduceEqDiff, reduceCtorEq, decide_eq_true_eq, decide_eq_false_iff_not, Option.map_none, Option.bind_some, List.contains_nil, List.contains_cons, Nat.reduceBEq, Bool.or_false, Bool.false_or, Bool.or_self, List.set_cons_zero, List.set_cons_succ, List.take_succ_cons, List.take_zero, List.drop_succ_cons, List.drop_zero, List.length_cons, List.length_nil, List.length_append, Nat.reduceAdd, Nat.reduceLeDiff, List.all_cons, List.all_nil, Bool.and_true, and_true, true_and, and_self, ne_eq, not_false_eq_true, List.cons_append, List.nil_append, List.append_nil, List.append_assoc, Nat.zero_add, Nat.add_zero, Int.toNat_natCast, RA] <;> rfl) (.inl (by simp [allFresh, ints_fresh, bools_fresh])) ?_
  simp (disch := first | assumption | omega | rfl | simp only [hAt_app, hAt_app0, List.getElem?_cons_zero, List.getElem?_cons_succ]) only [↓RP, RG, FX, decide_eq_true, decide_eq_false, Bool.not_true, Bool.not_false, Option.map_some, List.map_cons, List.map_nil, List.getElem?_cons_zero, List.getElem?_cons_succ, ↓reduceIte, Nat.reduceEqDiff, reduceCtorEq, decide_eq_true_eq, decide_eq_false_iff_not, Option.map_none, Option.bind_some, List.contains_nil, List.contains_cons, Nat.reduceBEq, Bool.or_false, Bool.false_or, Bool.or_self, List.set_cons_zero, List.set_cons_succ, List.take_succ_cons, List.take_zero, List.drop_succ_cons, List.drop_zero, List.length_cons, List.length_nil, List.length_append, Nat.reduceAdd, Nat.reduceLeDiff, List.all_cons, List.all_nil, Bool.and_true, and_true, true_and, and_self, ne_eq, not_false_eq_true, List.cons_append, List.nil_append, List.append_nil, List.append_assoc, Nat.zero_add, Nat.add_zero, Int.toNat_natCast, e1, e2, beq_self_eq_true, Bool.true_and, Bool.and_true, Bool.not_true]
  refine callK_V 6 (p00) (by simp (disch := first | assumption | omega | rfl | simp only [hAt_app, hAt_app0, List.getElem?_cons_zero, List.getElem?_cons_succ]) only [↓RP, RG, FX, decide_eq_true, decide_eq_false, Bool.not_true, Bool.not_false, Option.map_some, List.map_cons, List.map_nil, List.getElem?_cons_zero, List.getElem?_cons_succ, ↓reduceIte, Nat.reduceEqDiff, reduceCtorEq, decide_eq_true_eq, decide_eq_false_iff_not, Option.map_none, Option.bind_some, List.contains_nil, List.contains_cons, Nat.reduceBEq, Bool.or_false, Bool.false_or, Bool.or_self, List.set_cons_zero, List.set_cons_succ, List.take_succ_cons, List.take_zero, List.drop_succ_cons, List.drop_zero, List.length_cons, List.length_nil, List.length_append, Nat.reduceAdd, Nat.reduceLeDiff, List.all_cons, List.all_nil, Bool.and_true, and_true, true_and, and_self, ne_eq, not_false_eq_true, List.cons_append, List.nil_append, List.append_nil, List.append_assoc, Nat.zero_add, Nat.add_zero, Int.toNat_natCast, RA] <;> rfl) (.inl (by simp [allFresh, ints_fresh, bools_fresh])) ?_
  simp (disch := first | assumption | omega | rfl | simp only [hAt_app, hAt_app0, List.getElem?_cons_zero, List.getElem?_cons_succ]) only [↓RP, RG, FX, decide_eq_true, decide_eq_false, Bool.not_true, Bool.not_false, Option.map_some, List.map_cons, List.map_nil, List.getElem?_cons_zero, List.getElem?_cons_succ, ↓reduceIte, Nat.reduceEqDiff, reduceCtorEq, decide_eq_true_eq, decide_eq_false_iff_not, Option.map_none, Option.bind_some, List.contains_nil, List.contains_cons, Nat.reduceBEq, Bool.or_false, Bool.false_or, Bool.or_self, List.set_cons_zero, List.set_cons_succ, List.take_succ_cons, List.take_zero, List.drop_succ_cons, List.drop_zero, List.length_cons, List.length_nil, List.length_append, Nat.reduceAdd, Nat.reduceLeDiff, List.all_cons, List.all_nil, Bool.and_true, and_true, true_and, and_self, ne_eq, not_false_eq_true, List.cons_append, List.nil_append, List.append_nil, List.append_assoc, Nat.zero_add, Nat.add_zero, Int.toNat_natCast]
  refine callK_V 6 (p11) (by simp (disch := first | assumption | omega | rfl | simp only [hAt_app, hAt_app0, List.getElem?_cons_zero, List.getElem?_cons_succ]) only [↓RP, RG, FX, decide_eq_true, decide_eq_false, Bool.not_true, Bool.not_false, Option.map_some, List.map_cons, List.map_nil, List.getElem?_cons_zero, List.getElem?_cons_succ, ↓reduceIte, Nat.reduceEqDiff, reduceCtorEq, decide_eq_true_eq, decide_eq_false_iff_not, Option.map_none, Option.bind_some, List.contains_nil, List.contains_cons, Nat.reduceBEq, Bool.or_false, Bool.false_or, Bool.or_self, List.set_cons_zero, List.set_cons_succ, List.take_succ_cons, List.take_zero, List.drop_succ_cons, List.drop_zero, List.length_cons, List.length_nil, List.length_append, Nat.reduceAdd, Nat.reduceLeDiff, List.all_cons, List.all_nil, Bool.and_true, and_true, true_and, and_self, ne_eq, not_false_eq_true, List.cons_append, List.nil_append, List.append_nil, List.append_assoc, Nat.zero_add, Nat.add_zero, Int.toNat_natCast, RA] <;> rfl) (.inl (by simp [allFresh, ints_fresh, bools_fresh])) ?_
  simp (disch := first | assumption | omega | rfl | simp only [hAt_app, hAt_app0, List.getElem?_cons_zero, List.getElem?_cons_succ]) only [↓RP, RG, FX, decide_eq_true, decide_eq_false, Bool.not_true, Bool.not_false, Option.map_some, List.map_cons, List.map_nil, List.getElem?_cons_zero, List.getElem?_cons_succ, ↓reduceIte, Nat.reduceEqDiff, reduceCtorEq, decide_eq_true_eq, decide_eq_false_iff_not, Option.map_none, Option.bind_some, List.contains_nil, List.contains_cons, Nat.reduceBEq, Bool.or_false, Bool.false_or, Bool.or_self, List.set_cons_zero, List.set_cons_succ, List.take_succ_cons, List.take_zero, List.drop_succ_cons, List.drop_zero, List.length_cons, List.length_nil, List.length_append, Nat.reduceAdd, Nat.reduceLeDiff, List.all_cons, List.all_nil, Bool.and_true, and_true, true_and, and_self, ne_eq, not_false_eq_true, List.cons_append, List.nil_append, List.append_nil, List.append_assoc, Nat.zero_add, Nat.add_zero, Int.toNat_natCast]
  refine callK_V 6 (p01) (by simp (disch := first | assumption | omega | rfl | simp only [hAt_app, hAt_app0, List.getElem?_cons_zero, List.getElem?_cons_succ]) only [↓RP, RG, FX, decide_eq_true, decide_eq_false, Bool.not_true, Bool.not_false, Option.map_some, List.map_cons, List.map_nil, List.getElem?_cons_zero, List.getElem?_cons_succ, ↓reduceIte, Nat.reduceEqDiff, reduceCtorEq, decide_eq_true_eq, decide_eq_false_iff_not, Option.map_none, Option.bind_some, List.contains_nil, List.contains_cons, Nat.reduceBEq, Bool.or_false, Bool.false_or, Bool.or_self, List.set_cons_zero, List.set_cons_succ, List.take_succ_cons, List.take_zero, List.drop_succ_cons, List.drop_zero, List.length_cons, List.length_nil, List.length_append, Nat.reduceAdd, Nat.reduceLeDiff, List.all_cons, List.all_nil, Bool.and_true, and_true, true_and, and_self, ne_eq, not_false_eq_true, List.cons_append, List.nil_append, List.append_nil, List.append_assoc, Nat.zero_add, Nat.add_zero, Int.toNat_natCast, RA] <;> rfl) (.inl (by simp [allFresh, ints_fresh, bools_fresh])) ?_
  simp (disch := first | assumption | omega | rfl | simp only [hAt_app, hAt_app0, List.getElem?_cons_zero, List.getElem?_cons_succ]) only [↓RP, RG, FX, decide_eq_true, decide_eq_false, Bool.not_true, Bool.not_false, Option.map_some, List.map_cons, List.map_nil, List.getElem?_cons_zero, List.getElem?_cons_succ, ↓reduceIte, Nat.reduceEqDiff, reduceCtorEq, decide_eq_true_eq, decide_eq_false_iff_not, Option.map_none, Option.bind_some, List.contains_nil, List.contains_cons, Nat.reduceBEq, Bool.or_false, Bool.false_or, Bool.or_self, List.set_cons_zero, List.set_cons_succ, List.take_succ_cons, List.take_zero, List.drop_succ_cons, List.drop_zero, List.length_cons, List.length_nil, List.length_append, Nat.reduceAdd, Nat.reduceLeDiff, List.all_cons, List.all_nil, Bool.and_true, and_true, true_and, and_self, ne_eq, not_false_eq_true, List.cons_append, List.nil_append, List.append_nil, List.append_assoc, Nat.zero_add, Nat.add_zero, Int.toNat_natCast]
  refine callK_V 6 (p10) (by simp (disch := first | assumption | omega | rfl | simp only [hAt_app, hAt_app0, List.getElem?_cons_zero, List.getElem?_cons_succ]) only [↓RP, RG, FX, decide_eq_true, decide_eq_false, Bool.not_true, Bool.not_false, Option.map_some, List.map_cons, List.map_nil, List.getElem?_cons_zero, List.getElem?_cons_succ, ↓reduceIte, Nat.reduceEqDiff, reduceCtorEq, decide_eq_true_eq, decide_eq_false_iff_not, Option.map_none, Option.bind_some, List.contains_nil, List.contains_cons, Nat.reduceBEq, Bool.or_false, Bool.false_or, Bool.or_self, List.set_cons_zero, List.set_cons_succ, List.take_succ_cons, List.take_zero, List.drop_succ_cons, List.drop_zero, List.length_cons, List.length_nil, List.length_append, Nat.reduceAdd, Nat.reduceLeDiff, List.all_cons, List.all_nil, Bool.and_true, and_true, true_and, and_self, ne_eq, not_false_eq_true, List.cons_append, List.nil_append, List.append_nil, List.append_assoc, Nat.zero_add, Nat.add_zero, Int.toNat_natCast, RA] <;> rfl) (.inl (by simp [allFresh, ints_fresh, bools_fresh])) ?_
  simp (disch := first | assumption | omega | rfl | simp only [hAt_app, hAt_app0, List.getElem?_cons_zero, List.getElem?_cons_succ]) only [↓RP, RG, FX, decide_eq_true, decide_eq_false, Bool.not_true, Bool.not_false, Option.map_some, List.map_cons, List.map_nil, List.getElem?_cons_zero, List.getElem?_cons_succ, ↓reduceIte, Nat.reduceEqDiff, reduceCtorEq, decide_eq_true_eq, decide_eq_false_iff_not, Option.map_none, Option.bind_some, List.contains_nil, List.contains_cons, Nat.reduceBEq, Bool.or_false, Bool.false_or, Bool.or_self, List.set_cons_zero, List.set_cons_succ, List.take_succ_cons, List.take_zero, List.drop_succ_cons, List.drop_zero, List.length_cons, List.length_nil, List.length_append, Nat.reduceAdd, Nat.reduceLeDiff, List.all_cons, List.all_nil, Bool.and_true, and_true, true_and, and_self, ne_eq, not_false_eq_true, List.cons_append, List.nil_append, List.append_nil, List.append_assoc, Nat.zero_add, Nat.add_zero, Int.toNat_natCast]
  refine loopK_I [2, 3, 4, 5, 47, 48, 49] (fun k : Nat => k ≤ n ∧ ∀ j, j < k → V.getD j false ≠ M.getD j false) (fun k => ⟨[(2, .ptr 1 0 3), (3, .ptr 2 0 3), (4, .ptr 3 0 3), (5, I 0), (47, BR false V), (48, I n), (49, I k)], [⟨24, 3, [I ((2 * W : Nat) : Int), I ((2 * H : Nat) : Int), BA b l]⟩, ⟨24, 3, [I W, I H, BR false A]⟩, ⟨24, 3, [I W, I H, BR false B1]⟩, ⟨24, 3, [I W, I H, BR false M]⟩, ⟨3, 1, [I W]⟩, ⟨3, 1, [I H]⟩]⟩) (fun k => n - k) 0 ⟨by omega, fun j hj => by omega⟩ (by simp only [↓RP, RG, FX, decide_eq_true, decide_eq_false, Bool.not_true, Bool.not_false, Option.map_some, List.map_cons, List.map_nil, List.getElem?_cons_zero, List.getElem?_cons_succ, ↓reduceIte, Nat.reduceEqDiff, reduceCtorEq, decide_eq_true_eq, decide_eq_false_iff_not, Option.map_none, Option.bind_some, List.contains_nil, List.contains_cons, Nat.reduceBEq, Bool.or_false, Bool.false_or, Bool.or_self, List.set_cons_zero, List.set_cons_succ, List.take_succ_cons, List.take_zero, List.drop_succ_cons, List.drop_zero, List.length_cons, List.length_nil, List.length_append, Nat.reduceAdd, Nat.reduceLeDiff, List.all_cons, List.all_nil, Bool.and_true, and_true, true_and, and_self, ne_eq, not_false_eq_true, List.cons_append, List.nil_append, List.append_nil, List.append_assoc, Nat.zero_add, Nat.add_zero, Int.toNat_natCast, q10]; rfl) ?_
  rintro k ⟨hk, hne⟩
  by_cases hlt : k < n
  · by_cases he : V.getD k false = M.getD k false
    · have he2 : (V.getD k false == M.getD k false) = true := beq_iff_eq.2 he
      simp (disch := first | assumption | omega | rfl | simp only [hAt_app, hAt_app0, List.getElem?_cons_zero, List.getElem?_cons_succ]) only [↓RP, RG, FX, decide_eq_true, decide_eq_false, Bool.not_true, Bool.not_false, Option.map_some, List.map_cons, List.map_nil, List.getElem?_cons_zero, List.getElem?_cons_succ, ↓reduceIte, Nat.reduceEqDiff, reduceCtorEq, decide_eq_true_eq, decide_eq_false_iff_not, Option.map_none, Option.bind_some, List.contains_nil, List.contains_cons, Nat.reduceBEq, Bool.or_false, Bool.false_or, Bool.or_self, List.set_cons_zero, List.set_cons_succ, List.take_succ_cons, List.take_zero, List.drop_succ_cons, List.drop_zero, List.length_cons, List.length_nil, List.length_append, Nat.reduceAdd, Nat.reduceLeDiff, List.all_cons, List.all_nil, Bool.and_true, and_true, true_and, and_self, ne_eq, not_false_eq_true, List.cons_append, List.nil_append, List.append_nil, List.append_assoc, Nat.zero_add, Nat.add_zero, Int.toNat_natCast, Int.toNat_natCast, he2]
      rw [resVal_4 rfl]; simp (disch := first | assumption | omega | rfl | simp only [hAt_app, hAt_app0, List.getElem?_cons_zero, List.getElem?_cons_succ]) only [↓RP, RG, FX, decide_eq_true, decide_eq_false, Bool.not_true, Bool.not_false, Option.map_some, List.map_cons, List.map_nil, List.getElem?_cons_zero, List.getElem?_cons_succ, ↓reduceIte, Nat.reduceEqDiff, reduceCtorEq, decide_eq_true_eq, decide_eq_false_iff_not, Option.map_none, Option.bind_some, List.contains_nil, List.contains_cons, Nat.reduceBEq, Bool.or_false, Bool.false_or, Bool.or_self, List.set_cons_zero, List.set_cons_succ, List.take_succ_cons, List.take_zero, List.drop_succ_cons, List.drop_zero, List.length_cons, List.length_nil, List.length_append, Nat.reduceAdd, Nat.reduceLeDiff, List.all_cons, List.all_nil, Bool.and_true, and_true, true_and, and_self, ne_eq, not_false_eq_true, List.cons_append, List.nil_append, List.append_nil, List.append_assoc, Nat.zero_add, Nat.add_zero, Int.toNat_natCast, RS]
      rw [hr2 (fun hf => hf k hlt he)]
      first | done | rfl
    · have he2 : (V.getD k false == M.getD k false) = false := beq_eq_false_iff_ne.2 he
      simp (disch := first | assumption | omega | rfl | simp only [hAt_app, hAt_app0, List.getElem?_cons_zero, List.getElem?_cons_succ]) only [↓RP, RG, FX, decide_eq_true, decide_eq_false, Bool.not_true, Bool.not_false, Option.map_some, List.map_cons, List.map_nil, List.getElem?_cons_zero, List.getElem?_cons_succ, ↓reduceIte, Nat.reduceEqDiff, reduceCtorEq, decide_eq_true_eq, decide_eq_false_iff_not, Option.map_none, Option.bind_some, List.contains_nil, List.contains_cons, Nat.reduceBEq, Bool.or_false, Bool.false_or, Bool.or_self, List.set_cons_zero, List.set_cons_succ, List.take_succ_cons, List.take_zero, List.drop_succ_cons, List.drop_zero, List.length_cons, List.length_nil, List.length_append, Nat.reduceAdd, Nat.reduceLeDiff, List.all_cons, List.all_nil, Bool.and_true, and_true, true_and, and_self, ne_eq, not_false_eq_true, List.cons_append, List.nil_append, List.append_nil, List.append_assoc, Nat.zero_add, Nat.add_zero, Int.toNat_natCast, Int.toNat_natCast, he2]
      refine ⟨k + 1, ⟨by omega, fun j hj => ?_⟩, rfl, by omega⟩
      by_cases hjk : j = k
      · subst hjk; exact he
      · exact hne j (by omega)
  · obtain rfl : k = n := by omega
    simp (disch := first | assumption | omega | rfl | simp only [hAt_app, hAt_app0, List.getElem?_cons_zero, List.getElem?_cons_succ]) only [↓RP, RG, FX, decide_eq_true, decide_eq_false, Bool.not_true, Bool.not_false, Option.map_some, List.map_cons, List.map_nil, List.getElem?_cons_zero, List.getElem?_cons_succ, ↓reduceIte, Nat.reduceEqDiff, reduceCtorEq, decide_eq_true_eq, decide_eq_false_iff_not, Option.map_none, Option.bind_some, List.contains_nil, List.contains_cons, Nat.reduceBEq, Bool.or_false, Bool.false_or, Bool.or_self, List.set_cons_zero, List.set_cons_succ, List.take_succ_cons, List.take_zero, List.drop_succ_cons, List.drop_zero, List.length_cons, List.length_nil, List.length_append, Nat.reduceAdd, Nat.reduceLeDiff, List.all_cons, List.all_nil, Bool.and_true, and_true, true_and, and_self, ne_eq, not_false_eq_true, List.cons_append, List.nil_append, List.append_nil, List.append_assoc, Nat.zero_add, Nat.add_zero, Int.toNat_natCast]
    rw [resVal_4 rfl]; simp (disch := first | assumption | omega | rfl | simp only [hAt_app, hAt_app0, List.getElem?_cons_zero, List.getElem?_cons_succ]) only [↓RP, RG, FX, decide_eq_true, decide_eq_false, Bool.not_true, Bool.not_false, Option.map_some, List.map_cons, List.map_nil, List.getElem?_cons_zero, List.getElem?_cons_succ, ↓reduceIte, Nat.reduceEqDiff, reduceCtorEq, decide_eq_true_eq, decide_eq_false_iff_not, Option.map_none, Option.bind_some, List.contains_nil, List.contains_cons, Nat.reduceBEq, Bool.or_false, Bool.false_or, Bool.or_self, List.set_cons_zero, List.set_cons_succ, List.take_succ_cons, List.take_zero, List.drop_succ_cons, List.drop_zero, List.length_cons, List.length_nil, List.length_append, Nat.reduceAdd, Nat.reduceLeDiff, List.all_cons, List.all_nil, Bool.and_true, and_true, true_and, and_self, ne_eq, not_false_eq_true, List.cons_append, List.nil_append, List.append_nil, List.append_assoc, Nat.zero_add, Nat.add_zero, Int.toNat_natCast, RS]
    rw [hr1 hne]
end Go.Proofs.YtkcicgadggiklaaGreatDoor

/- Double cloths: a double cloth taken apart, by the reference. -/
set_option linter.unusedSimpArgs false
set_option linter.unusedVariables false
set_option maxRecDepth 100000
namespace Go.Proofs.YtkcicgadggiklaaGreatDoor
open Go Go.Proofs Go.AW

theorem self_tab {W H : Nat} {l : List Bool} (hn : l.length = W * H) : l = tabN W (fun x y => cell W l x y) (W * H) := by
  apply List.ext_getElem
  · rw [tabN_len, hn]
  · intro i h1 h2
    simp only [tabN, List.getElem_map, List.getElem_range, cell_nat, Nat.div_add_mod]
    simp [List.getD_eq_getElem?_getD, h1]
theorem tabN_at (W : Nat) (u : Nat → Nat → Bool) {n k : Nat} (hk : k < n) : (tabN W u n).getD k false = u (k % W) (k / W) := by
  simp [tabN, List.getD_eq_getElem?_getD, List.getElem?_range hk]

theorem fits_iff {W H : Nat} (hW0 : 0 < W) {l : List Bool} (hn : l.length = 2 * W * (2 * H)) :
    fits W H l ↔ tabN (2 * W) (uD W (tabN W (uA W l 0 0) (W * H)) (tabN W (uA W l 1 1) (W * H)) (tabN W (uA W l 0 1) (W * H))) (2 * W * (2 * H)) = l := by
  have c00 : ∀ (a b u v : Nat), u < W → v < H → cell W (tabN W (uA W l a b) (W * H)) u v = uA W l a b u v := fun a b u v hu hv => by
    rw [cell_nat, tabN_get W _ hu (idx_lt hu hv)]
  constructor
  · intro hf
    refine Eq.trans (tabN_congr (v := fun x y => cell ((2 * W : Nat) : Int) l x y) fun x y hx hy => ?_) (self_tab hn).symm
    have hu : x / 2 < W := by omega
    have hv : y / 2 < H := by omega
    by_cases h1 : x % 2 = 0
    · have ex : x = 2 * (x / 2) := by omega
      by_cases h2 : y % 2 = 0
      · have ey : y = 2 * (y / 2) := by omega
        rw [ex, ey, uD_00, c00 _ _ _ _ (by omega) (by omega)]
        simp [uA]
      · have ey : y = 2 * (y / 2) + 1 := by omega
        rw [ex, ey, uD_01, c00 _ _ _ _ (by omega) (by omega)]
        simp [uA]
    · have ex : x = 2 * (x / 2) + 1 := by omega
      by_cases h2 : y % 2 = 0
      · have ey : y = 2 * (y / 2) := by omega
        have hk := hf (W * (y / 2) + x / 2) (idx_lt hu hv)
        rw [tabN_get W _ hu (idx_lt hu hv), tabN_get W _ hu (idx_lt hu hv)] at hk
        rw [ex, ey, uD_10, c00 _ _ _ _ (by omega) (by omega)]
        generalize x / 2 = u at *
        generalize y / 2 = v at *
        have : uA W l 1 0 u v = cell ((2 * W : Nat) : Int) l ((2 * u + 1 : Nat) : Int) ((2 * v : Nat) : Int) := by simp [uA]
        rw [← this]
        revert hk
        cases uA W l 1 0 u v <;> cases uA W l 0 1 u v <;> simp
      · have ey : y = 2 * (y / 2) + 1 := by omega
        rw [ex, ey, uD_11, c00 _ _ _ _ (by omega) (by omega)]
        simp [uA]
  · intro he k hk
    have hu : k % W < W := Nat.mod_lt _ hW0
    have hv : k / W < H := Nat.div_lt_of_lt_mul hk
    rw [tabN_at W _ hk, tabN_at W _ hk]
    generalize k % W = u at *
    generalize k / W = v at *
    have h1 : (tabN (2 * W) (uD W (tabN W (uA W l 0 0) (W * H)) (tabN W (uA W l 1 1) (W * H)) (tabN W (uA W l 0 1) (W * H))) (2 * W * (2 * H))).getD (2 * W * (2 * v) + (2 * u + 1)) false = l.getD (2 * W * (2 * v) + (2 * u + 1)) false := by rw [he]
    rw [tabN_get (2 * W) _ (show 2 * u + 1 < 2 * W by omega) (idx_lt (by omega) (by omega)), uD_10, c00 _ _ _ _ hu hv, ← cell_nat] at h1
    have h2 : uA W l 1 0 u v = cell ((2 * W : Nat) : Int) l ((2 * u + 1 : Nat) : Int) ((2 * v : Nat) : Int) := by simp [uA]
    rw [h2, ← h1]
    cases uA W l 0 1 u v <;> simp

end Go.Proofs.YtkcicgadggiklaaGreatDoor

/- Double cloths: the law of weaving. -/
set_option linter.unusedSimpArgs false
set_option linter.unusedVariables false
set_option maxRecDepth 100000
namespace Go.Proofs.YtkcicgadggiklaaGreatDoor
open Go Go.Proofs Go.AW

theorem great12_c (w h : Int) (b : Bool) (l : List Bool) : Contract Tryz.prog 13 [GA w h b l] (B (decide (1100 < (l.length : Int)))) := by
  refine Contract.intro (effS [] false) 6 follows Tryz.func13 rfl rfl (by kernel_rfl) (Nat.le_of_ble_eq_true rfl) ?_
  simp (disch := first | assumption | omega | rfl | simp only [hAt_app, hAt_app0, List.getElem?_cons_zero, List.getElem?_cons_succ]) only [↓RP, RG, FX, decide_eq_true, decide_eq_false, Bool.not_true, Bool.not_false, Option.map_some, List.map_cons, List.map_nil, List.getElem?_cons_zero, List.getElem?_cons_succ, ↓reduceIte, Nat.reduceEqDiff, reduceCtorEq, decide_eq_true_eq, decide_eq_false_iff_not, Option.map_none, Option.bind_some, List.contains_nil, List.contains_cons, Nat.reduceBEq, Bool.or_false, Bool.false_or, Bool.or_self, List.set_cons_zero, List.set_cons_succ, List.take_succ_cons, List.take_zero, List.drop_succ_cons, List.drop_zero, List.length_cons, List.length_nil, List.length_append, Nat.reduceAdd, Nat.reduceLeDiff, List.all_cons, List.all_nil, Bool.and_true, and_true, true_and, and_self, ne_eq, not_false_eq_true, List.cons_append, List.nil_append, List.append_nil, List.append_assoc, Nat.zero_add, Nat.add_zero, Int.toNat_natCast, args0_1]
  rw [resVal_1 rfl]; simp (disch := first | assumption | omega | rfl | simp only [hAt_app, hAt_app0, List.getElem?_cons_zero, List.getElem?_cons_succ]) only [↓RP, RG, FX, decide_eq_true, decide_eq_false, Bool.not_true, Bool.not_false, Option.map_some, List.map_cons, List.map_nil, List.getElem?_cons_zero, List.getElem?_cons_succ, ↓reduceIte, Nat.reduceEqDiff, reduceCtorEq, decide_eq_true_eq, decide_eq_false_iff_not, Option.map_none, Option.bind_some, List.contains_nil, List.contains_cons, Nat.reduceBEq, Bool.or_false, Bool.false_or, Bool.or_self, List.set_cons_zero, List.set_cons_succ, List.take_succ_cons, List.take_zero, List.drop_succ_cons, List.drop_zero, List.length_cons, List.length_nil, List.length_append, Nat.reduceAdd, Nat.reduceLeDiff, List.all_cons, List.all_nil, Bool.and_true, and_true, true_and, and_self, ne_eq, not_false_eq_true, List.cons_append, List.nil_append, List.append_nil, List.append_assoc, Nat.zero_add, Nat.add_zero, Int.toNat_natCast, RS]

end Go.Proofs.YtkcicgadggiklaaGreatDoor

/- Tables for the run of closed code. -/
set_option maxRecDepth 100000
set_option linter.unusedSimpArgs false
namespace Go.Proofs.YtkcicgadggiklaaGreatDoor
open Go Go.Proofs Go.AW
noncomputable def tabE : List (Nat × EffF) := [(10, effS [] false [] [] [21, 24] (fun i => !(i == 0)) [17, 18, 19, 36, 37, 38, 65, 66, 67])] ++ [5, 15, 16, 17, 18, 19, 21, 25, 26, 27, 28, 31, 32, 33, 36, 37, 38, 39, 40, 41, 42, 43, 47, 48, 49, 50, 51, 52, 53, 54, 55, 56, 57, 58, 60, 61, 62, 63, 64, 65, 66, 67, 69, 70, 71, 72, 73, 74, 75, 76, 77, 78, 79, 80, 81, 82, 83, 84, 86, 87, 88, 89, 90, 91, 92, 93, 94, 95, 96, 97, 99, 100, 101, 103].map fun f => (f, effS [] false)
theorem tabE_ok : tabE.all (chkE Tryz.prog) = true := by kernel_rfl
noncomputable def tabS : List (Nat × (Array Value → Sem Value)) := [(85, Extern.BytealgCount.count), (102, Extern.BytealgIndexByte.indexByte)]
noncomputable def xT : XT := ⟨lookE tabE, hasN [38, 39, 41, 42, 43, 55, 56, 57, 69, 70, 71, 72, 76, 77, 87], extE Tryz.prog [68] tabS, noOrc⟩
theorem xExt : ∀ f avs v, extE Tryz.prog [68] tabS f avs = some v → ExtOk Tryz.prog f avs v := extE_ok (fun f hf => by
  simp only [List.mem_cons, List.not_mem_nil, or_false] at hf
  rcases hf with rfl
  · exact ⟨_, Tryz.func68, by kernel_rfl, by kernel_rfl, by kernel_rfl, by kernel_rfl⟩
  ) (fun p hp => by
  simp only [tabS, List.mem_cons, List.not_mem_nil, or_false] at hp
  rcases hp with rfl | rfl
  · exact ⟨_, Tryz.func85, by kernel_rfl, by kernel_rfl, by kernel_rfl, by kernel_rfl⟩
  · exact ⟨_, Tryz.func102, by kernel_rfl, by kernel_rfl, by kernel_rfl, by kernel_rfl⟩
  )
theorem xGood : xT.Good Tryz.prog := XT.good follows tabE_ok xExt noOrc_ok
end Go.Proofs.YtkcicgadggiklaaGreatDoor

/- The examples of chapter 12 hold. -/
set_option maxRecDepth 100000
namespace Go.Proofs.YtkcicgadggiklaaGreatDoor
open Go Go.Proofs Go.AW
theorem alive_c : Contract Tryz.prog 5 [] (B true) := Contract.run xGood 1000 (by kernel_rfl)
end Go.Proofs.YtkcicgadggiklaaGreatDoor

/- Double cloths: the law of the inverse. -/
set_option linter.unusedSimpArgs false
set_option linter.unusedVariables false
set_option maxRecDepth 100000
namespace Go.Proofs.YtkcicgadggiklaaGreatDoor
open Go Go.Proofs Go.AW

/-- They fit, and weave. -/
def fit3 (w1 h1 : Int) (l1 : List Bool) (w2 h2 : Int) (l2 : List Bool) (w3 h3 : Int) (l3 : List Bool) (n : Int) : Prop :=
  ¬ 1100 < (l1.length : Int) ∧ thr w1 h1 l1.length w2 h2 l2.length w3 h3 l3.length = 0 ∧ w1 ≤ n ∧ h1 ≤ n
theorem threeL_c (w1 h1 : Int) (b1 : Bool) (l1 : List Bool) (w2 h2 : Int) (b2 : Bool) (l2 : List Bool) (w3 h3 : Int) (b3 : Bool) (l3 : List Bool) (n : Int) (r : Bool) (hr : r = true ↔ fit3 w1 h1 l1 w2 h2 l2 w3 h3 l3 n) :
    Contract Tryz.prog 4 [GA w1 h1 b1 l1, GA w2 h2 b2 l2, GA w3 h3 b3 l3, I n] (B r) := by
  have hTT := three_c w1 h1 b1 l1 w2 h2 b2 l2 w3 h3 b3 l3
  unfold fit3 at hr
  generalize thr w1 h1 l1.length w2 h2 l2.length w3 h3 l3.length = q at *
  refine Contract.intro (effS [] false) 6 follows Tryz.func4 rfl rfl (by kernel_rfl) (Nat.le_of_ble_eq_true rfl) ?_
  simp (disch := first | assumption | omega | rfl | simp only [hAt_app, hAt_app0, List.getElem?_cons_zero, List.getElem?_cons_succ]) only [↓RP, RG, FX, decide_eq_true, decide_eq_false, Bool.not_true, Bool.not_false, Option.map_some, List.map_cons, List.map_nil, List.getElem?_cons_zero, List.getElem?_cons_succ, ↓reduceIte, Nat.reduceEqDiff, reduceCtorEq, decide_eq_true_eq, decide_eq_false_iff_not, Option.map_none, Option.bind_some, List.contains_nil, List.contains_cons, Nat.reduceBEq, Bool.or_false, Bool.false_or, Bool.or_self, List.set_cons_zero, List.set_cons_succ, List.take_succ_cons, List.take_zero, List.drop_succ_cons, List.drop_zero, List.length_cons, List.length_nil, List.length_append, Nat.reduceAdd, Nat.reduceLeDiff, List.all_cons, List.all_nil, Bool.and_true, and_true, true_and, and_self, ne_eq, not_false_eq_true, List.cons_append, List.nil_append, List.append_nil, List.append_assoc, Nat.zero_add, Nat.add_zero, Int.toNat_natCast, args0_4]
  refine callK_F 6 (great12_c w1 h1 b1 l1) (by simp (disch := first | assumption | omega | rfl | simp only [hAt_app, hAt_app0, List.getElem?_cons_zero, List.getElem?_cons_succ]) only [↓RP, RG, FX, decide_eq_true, decide_eq_false, Bool.not_true, Bool.not_false, Option.map_some, List.map_cons, List.map_nil, List.getElem?_cons_zero, List.getElem?_cons_succ, ↓reduceIte, Nat.reduceEqDiff, reduceCtorEq, decide_eq_true_eq, decide_eq_false_iff_not, Option.map_none, Option.bind_some, List.contains_nil, List.contains_cons, Nat.reduceBEq, Bool.or_false, Bool.false_or, Bool.or_self, List.set_cons_zero, List.set_cons_succ, List.take_succ_cons, List.take_zero, List.drop_succ_cons, List.drop_zero, List.length_cons, List.length_nil, List.length_append, Nat.reduceAdd, Nat.reduceLeDiff, List.all_cons, List.all_nil, Bool.and_true, and_true, true_and, and_self, ne_eq, not_false_eq_true, List.cons_append, List.nil_append, List.append_nil, List.append_assoc, Nat.zero_add, Nat.add_zero, Int.toNat_natCast, RA] <;> rfl) (.inl (by simp [allFresh, ints_fresh, bools_fresh])) ?_
  by_cases g1 : 1100 < (l1.length : Int)
  · obtain rfl : r = false := by cases r with | false => rfl | true => exact absurd g1 (hr.1 rfl).1
    simp (disch := first | assumption | omega | rfl | simp only [hAt_app, hAt_app0, List.getElem?_cons_zero, List.getElem?_cons_succ]) only [↓RP, RG, FX, decide_eq_true, decide_eq_false, Bool.not_true, Bool.not_false, Option.map_some, List.map_cons, List.map_nil, List.getElem?_cons_zero, List.getElem?_cons_succ, ↓reduceIte, Nat.reduceEqDiff, reduceCtorEq, decide_eq_true_eq, decide_eq_false_iff_not, Option.map_none, Option.bind_some, List.contains_nil, List.contains_cons, Nat.reduceBEq, Bool.or_false, Bool.false_or, Bool.or_self, List.set_cons_zero, List.set_cons_succ, List.take_succ_cons, List.take_zero, List.drop_succ_cons, List.drop_zero, List.length_cons, List.length_nil, List.length_append, Nat.reduceAdd, Nat.reduceLeDiff, List.all_cons, List.all_nil, Bool.and_true, and_true, true_and, and_self, ne_eq, not_false_eq_true, List.cons_append, List.nil_append, List.append_nil, List.append_assoc, Nat.zero_add, Nat.add_zero, Int.toNat_natCast, decide_eq_true g1, Bool.not_true]
    rw [resVal_1 rfl]; simp (disch := first | assumption | omega | rfl | simp only [hAt_app, hAt_app0, List.getElem?_cons_zero, List.getElem?_cons_succ]) only [↓RP, RG, FX, decide_eq_true, decide_eq_false, Bool.not_true, Bool.not_false, Option.map_some, List.map_cons, List.map_nil, List.getElem?_cons_zero, List.getElem?_cons_succ, ↓reduceIte, Nat.reduceEqDiff, reduceCtorEq, decide_eq_true_eq, decide_eq_false_iff_not, Option.map_none, Option.bind_some, List.contains_nil, List.contains_cons, Nat.reduceBEq, Bool.or_false, Bool.false_or, Bool.or_self, List.set_cons_zero, List.set_cons_succ, List.take_succ_cons, List.take_zero, List.drop_succ_cons, List.drop_zero, List.length_cons, List.length_nil, List.length_append, Nat.reduceAdd, Nat.reduceLeDiff, List.all_cons, List.all_nil, Bool.and_true, and_true, true_and, and_self, ne_eq, not_false_eq_true, List.cons_append, List.nil_append, List.append_nil, List.append_assoc, Nat.zero_add, Nat.add_zero, Int.toNat_natCast, RS]
  · simp (disch := first | assumption | omega | rfl | simp only [hAt_app, hAt_app0, List.getElem?_cons_zero, List.getElem?_cons_succ]) only [↓RP, RG, FX, decide_eq_true, decide_eq_false, Bool.not_true, Bool.not_false, Option.map_some, List.map_cons, List.map_nil, List.getElem?_cons_zero, List.getElem?_cons_succ, ↓reduceIte, Nat.reduceEqDiff, reduceCtorEq, decide_eq_true_eq, decide_eq_false_iff_not, Option.map_none, Option.bind_some, List.contains_nil, List.contains_cons, Nat.reduceBEq, Bool.or_false, Bool.false_or, Bool.or_self, List.set_cons_zero, List.set_cons_succ, List.take_succ_cons, List.take_zero, List.drop_succ_cons, List.drop_zero, List.length_cons, List.length_nil, List.length_append, Nat.reduceAdd, Nat.reduceLeDiff, List.all_cons, List.all_nil, Bool.and_true, and_true, true_and, and_self, ne_eq, not_false_eq_true, List.cons_append, List.nil_append, List.append_nil, List.append_assoc, Nat.zero_add, Nat.add_zero, Int.toNat_natCast, decide_eq_false g1, Bool.not_false]
    refine callK_F 6 (hTT) (by simp (disch := first | assumption | omega | rfl | simp only [hAt_app, hAt_app0, List.getElem?_cons_zero, List.getElem?_cons_succ]) only [↓RP, RG, FX, decide_eq_true, decide_eq_false, Bool.not_true, Bool.not_false, Option.map_some, List.map_cons, List.map_nil, List.getElem?_cons_zero, List.getElem?_cons_succ, ↓reduceIte, Nat.reduceEqDiff, reduceCtorEq, decide_eq_true_eq, decide_eq_false_iff_not, Option.map_none, Option.bind_some, List.contains_nil, List.contains_cons, Nat.reduceBEq, Bool.or_false, Bool.false_or, Bool.or_self, List.set_cons_zero, List.set_cons_succ, List.take_succ_cons, List.take_zero, List.drop_succ_cons, List.drop_zero, List.length_cons, List.length_nil, List.length_append, Nat.reduceAdd, Nat.reduceLeDiff, List.all_cons, List.all_nil, Bool.and_true, and_true, true_and, and_self, ne_eq, not_false_eq_true, List.cons_append, List.nil_append, List.append_nil, List.append_assoc, Nat.zero_add, Nat.add_zero, Int.toNat_natCast, RA] <;> rfl) (.inl (by simp [allFresh, ints_fresh, bools_fresh])) ?_
    by_cases hq : q = 0
    · by_cases c1 : w1 ≤ n
      · by_cases c2 : h1 ≤ n
        · obtain rfl : r = true := hr.2 ⟨g1, hq, c1, c2⟩
          simp (disch := first | assumption | omega | rfl | simp only [hAt_app, hAt_app0, List.getElem?_cons_zero, List.getElem?_cons_succ]) only [↓RP, RG, FX, decide_eq_true, decide_eq_false, Bool.not_true, Bool.not_false, Option.map_some, List.map_cons, List.map_nil, List.getElem?_cons_zero, List.getElem?_cons_succ, ↓reduceIte, Nat.reduceEqDiff, reduceCtorEq, decide_eq_true_eq, decide_eq_false_iff_not, Option.map_none, Option.bind_some, List.contains_nil, List.contains_cons, Nat.reduceBEq, Bool.or_false, Bool.false_or, Bool.or_self, List.set_cons_zero, List.set_cons_succ, List.take_succ_cons, List.take_zero, List.drop_succ_cons, List.drop_zero, List.length_cons, List.length_nil, List.length_append, Nat.reduceAdd, Nat.reduceLeDiff, List.all_cons, List.all_nil, Bool.and_true, and_true, true_and, and_self, ne_eq, not_false_eq_true, List.cons_append, List.nil_append, List.append_nil, List.append_assoc, Nat.zero_add, Nat.add_zero, Int.toNat_natCast]
          rw [resVal_1 rfl]; simp (disch := first | assumption | omega | rfl | simp only [hAt_app, hAt_app0, List.getElem?_cons_zero, List.getElem?_cons_succ]) only [↓RP, RG, FX, decide_eq_true, decide_eq_false, Bool.not_true, Bool.not_false, Option.map_some, List.map_cons, List.map_nil, List.getElem?_cons_zero, List.getElem?_cons_succ, ↓reduceIte, Nat.reduceEqDiff, reduceCtorEq, decide_eq_true_eq, decide_eq_false_iff_not, Option.map_none, Option.bind_some, List.contains_nil, List.contains_cons, Nat.reduceBEq, Bool.or_false, Bool.false_or, Bool.or_self, List.set_cons_zero, List.set_cons_succ, List.take_succ_cons, List.take_zero, List.drop_succ_cons, List.drop_zero, List.length_cons, List.length_nil, List.length_append, Nat.reduceAdd, Nat.reduceLeDiff, List.all_cons, List.all_nil, Bool.and_true, and_true, true_and, and_self, ne_eq, not_false_eq_true, List.cons_append, List.nil_append, List.append_nil, List.append_assoc, Nat.zero_add, Nat.add_zero, Int.toNat_natCast, RS]
          first | done | simp [hq, c1, c2]
        · obtain rfl : r = false := by cases r with | false => rfl | true => exact absurd (hr.1 rfl).2.2.2 c2
          simp (disch := first | assumption | omega | rfl | simp only [hAt_app, hAt_app0, List.getElem?_cons_zero, List.getElem?_cons_succ]) only [↓RP, RG, FX, decide_eq_true, decide_eq_false, Bool.not_true, Bool.not_false, Option.map_some, List.map_cons, List.map_nil, List.getElem?_cons_zero, List.getElem?_cons_succ, ↓reduceIte, Nat.reduceEqDiff, reduceCtorEq, decide_eq_true_eq, decide_eq_false_iff_not, Option.map_none, Option.bind_some, List.contains_nil, List.contains_cons, Nat.reduceBEq, Bool.or_false, Bool.false_or, Bool.or_self, List.set_cons_zero, List.set_cons_succ, List.take_succ_cons, List.take_zero, List.drop_succ_cons, List.drop_zero, List.length_cons, List.length_nil, List.length_append, Nat.reduceAdd, Nat.reduceLeDiff, List.all_cons, List.all_nil, Bool.and_true, and_true, true_and, and_self, ne_eq, not_false_eq_true, List.cons_append, List.nil_append, List.append_nil, List.append_assoc, Nat.zero_add, Nat.add_zero, Int.toNat_natCast]
          rw [resVal_1 rfl]; simp (disch := first | assumption | omega | rfl | simp only [hAt_app, hAt_app0, List.getElem?_cons_zero, List.getElem?_cons_succ]) only [↓RP, RG, FX, decide_eq_true, decide_eq_false, Bool.not_true, Bool.not_false, Option.map_some, List.map_cons, List.map_nil, List.getElem?_cons_zero, List.getElem?_cons_succ, ↓reduceIte, Nat.reduceEqDiff, reduceCtorEq, decide_eq_true_eq, decide_eq_false_iff_not, Option.map_none, Option.bind_some, List.contains_nil, List.contains_cons, Nat.reduceBEq, Bool.or_false, Bool.false_or, Bool.or_self, List.set_cons_zero, List.set_cons_succ, List.take_succ_cons, List.take_zero, List.drop_succ_cons, List.drop_zero, List.length_cons, List.length_nil, List.length_append, Nat.reduceAdd, Nat.reduceLeDiff, List.all_cons, List.all_nil, Bool.and_true, and_true, true_and, and_self, ne_eq, not_false_eq_true, List.cons_append, List.nil_append, List.append_nil, List.append_assoc, Nat.zero_add, Nat.add_zero, Int.toNat_natCast, RS]
          first | done | simp [hq, c1, c2]
      · obtain rfl : r = false := by cases r with | false => rfl | true => exact absurd (hr.1 rfl).2.2.1 c1
        simp (disch := first | assumption | omega | rfl | simp only [hAt_app, hAt_app0, List.getElem?_cons_zero, List.getElem?_cons_succ]) only [↓RP, RG, FX, decide_eq_true, decide_eq_false, Bool.not_true, Bool.not_false, Option.map_some, List.map_cons, List.map_nil, List.getElem?_cons_zero, List.getElem?_cons_succ, ↓reduceIte, Nat.reduceEqDiff, reduceCtorEq, decide_eq_true_eq, decide_eq_false_iff_not, Option.map_none, Option.bind_some, List.contains_nil, List.contains_cons, Nat.reduceBEq, Bool.or_false, Bool.false_or, Bool.or_self, List.set_cons_zero, List.set_cons_succ, List.take_succ_cons, List.take_zero, List.drop_succ_cons, List.drop_zero, List.length_cons, List.length_nil, List.length_append, Nat.reduceAdd, Nat.reduceLeDiff, List.all_cons, List.all_nil, Bool.and_true, and_true, true_and, and_self, ne_eq, not_false_eq_true, List.cons_append, List.nil_append, List.append_nil, List.append_assoc, Nat.zero_add, Nat.add_zero, Int.toNat_natCast]
        rw [resVal_1 rfl]; simp (disch := first | assumption | omega | rfl | simp only [hAt_app, hAt_app0, List.getElem?_cons_zero, List.getElem?_cons_succ]) only [↓RP, RG, FX, decide_eq_true, decide_eq_false, Bool.not_true, Bool.not_false, Option.map_some, List.map_cons, List.map_nil, List.getElem?_cons_zero, List.getElem?_cons_succ, ↓reduceIte, Nat.reduceEqDiff, reduceCtorEq, decide_eq_true_eq, decide_eq_false_iff_not, Option.map_none, Option.bind_some, List.contains_nil, List.contains_cons, Nat.reduceBEq, Bool.or_false, Bool.false_or, Bool.or_self, List.set_cons_zero, List.set_cons_succ, List.take_succ_cons, List.take_zero, List.drop_succ_cons, List.drop_zero, List.length_cons, List.length_nil, List.length_append, Nat.reduceAdd, Nat.reduceLeDiff, List.all_cons, List.all_nil, Bool.and_true, and_true, true_and, and_self, ne_eq, not_false_eq_true, List.cons_append, List.nil_append, List.append_nil, List.append_assoc, Nat.zero_add, Nat.add_zero, Int.toNat_natCast, RS]
        first | done | simp [hq, c1]
    · obtain rfl : r = false := by cases r with | false => rfl | true => exact absurd (hr.1 rfl).2.1 hq
      simp (disch := first | assumption | omega | rfl | simp only [hAt_app, hAt_app0, List.getElem?_cons_zero, List.getElem?_cons_succ]) only [↓RP, RG, FX, decide_eq_true, decide_eq_false, Bool.not_true, Bool.not_false, Option.map_some, List.map_cons, List.map_nil, List.getElem?_cons_zero, List.getElem?_cons_succ, ↓reduceIte, Nat.reduceEqDiff, reduceCtorEq, decide_eq_true_eq, decide_eq_false_iff_not, Option.map_none, Option.bind_some, List.contains_nil, List.contains_cons, Nat.reduceBEq, Bool.or_false, Bool.false_or, Bool.or_self, List.set_cons_zero, List.set_cons_succ, List.take_succ_cons, List.take_zero, List.drop_succ_cons, List.drop_zero, List.length_cons, List.length_nil, List.length_append, Nat.reduceAdd, Nat.reduceLeDiff, List.all_cons, List.all_nil, Bool.and_true, and_true, true_and, and_self, ne_eq, not_false_eq_true, List.cons_append, List.nil_append, List.append_nil, List.append_assoc, Nat.zero_add, Nat.add_zero, Int.toNat_natCast]
      rw [resVal_1 rfl]; simp (disch := first | assumption | omega | rfl | simp only [hAt_app, hAt_app0, List.getElem?_cons_zero, List.getElem?_cons_succ]) only [↓RP, RG, FX, decide_eq_true, decide_eq_false, Bool.not_true, Bool.not_false, Option.map_some, List.map_cons, List.map_nil, List.getElem?_cons_zero, List.getElem?_cons_succ, ↓reduceIte, Nat.reduceEqDiff, reduceCtorEq, decide_eq_true_eq, decide_eq_false_iff_not, Option.map_none, Option.bind_some, List.contains_nil, List.contains_cons, Nat.reduceBEq, Bool.or_false, Bool.false_or, Bool.or_self, List.set_cons_zero, List.set_cons_succ, List.take_succ_cons, List.take_zero, List.drop_succ_cons, List.drop_zero, List.length_cons, List.length_nil, List.length_append, Nat.reduceAdd, Nat.reduceLeDiff, List.all_cons, List.all_nil, Bool.and_true, and_true, true_and, and_self, ne_eq, not_false_eq_true, List.cons_append, List.nil_append, List.append_nil, List.append_assoc, Nat.zero_add, Nat.add_zero, Int.toNat_natCast, RS]
      first | done | simp [hq]
theorem part_woven {W H : Nat} {l1 l2 l3 : List Bool} (n1 : l1.length = W * H) (n2 : l2.length = W * H) (n3 : l3.length = W * H) :
    tabN W (uA W (tabN (2 * W) (uD W l1 l2 l3) (2 * W * (2 * H))) 0 0) (W * H) = l1 ∧ tabN W (uA W (tabN (2 * W) (uD W l1 l2 l3) (2 * W * (2 * H))) 1 1) (W * H) = l2 ∧ tabN W (uA W (tabN (2 * W) (uD W l1 l2 l3) (2 * W * (2 * H))) 0 1) (W * H) = l3 := by
  have key : ∀ (a b u v : Nat), u < W → v < H → a ≤ 1 → b ≤ 1 → uA W (tabN (2 * W) (uD W l1 l2 l3) (2 * W * (2 * H))) a b u v = uD W l1 l2 l3 (2 * u + a) (2 * v + b) := fun a b u v hu hv ha hb => by
    unfold uA
    rw [cell_nat, tabN_get (2 * W) _ (by omega) (idx_lt (by omega) (by omega))]
  refine ⟨?_, ?_, ?_⟩
  · refine Eq.trans (tabN_congr (v := fun x y => cell W l1 x y) fun x y hx hy => ?_) (self_tab n1).symm
    rw [key 0 0 x y hx hy (by omega) (by omega)]
    exact uD_00 ..
  · refine Eq.trans (tabN_congr (v := fun x y => cell W l2 x y) fun x y hx hy => ?_) (self_tab n2).symm
    rw [key 1 1 x y hx hy (by omega) (by omega)]
    exact uD_11 ..
  · refine Eq.trans (tabN_congr (v := fun x y => cell W l3 x y) fun x y hx hy => ?_) (self_tab n3).symm
    rw [key 0 1 x y hx hy (by omega) (by omega)]
    exact uD_01 ..

theorem apart_woven {W H : Nat} (hW0 : 0 < W) (hH0 : 0 < H) (hW : W ≤ 32) (hH : H ≤ 32) {l1 l2 l3 : List Bool} (n1 : l1.length = W * H) (n2 : l2.length = W * H) (n3 : l3.length = W * H) :
    Contract Tryz.prog 10 [GA ((2 * W : Nat) : Int) ((2 * H : Nat) : Int) false (tabN (2 * W) (uD W l1 l2 l3) (2 * W * (2 * H)))] (.tuple [GR W H false l1, GR W H false l2, GR W H false l3, I 0]) := by
  obtain ⟨p1, p2, p3⟩ := part_woven n1 n2 n3
  have hn := tabN_len (2 * W) (uD W l1 l2 l3) (2 * W * (2 * H))
  have hf := (fits_iff hW0 hn).2 (by rw [p1, p2, p3])
  exact dapartP_even hW0 hH0 hW hH false hn _ (fun _ => by rw [p1, p2, p3]) (fun h => absurd hf h)

end Go.Proofs.YtkcicgadggiklaaGreatDoor

/- Double cloths: lists of every second thread; a cloth's count. -/
set_option linter.unusedSimpArgs false
set_option linter.unusedVariables false
set_option maxRecDepth 100000
namespace Go.Proofs.YtkcicgadggiklaaGreatDoor
open Go Go.Proofs Go.AW

/-- How many of the first k cells are true. -/
def cnt (l : List Bool) : Nat → Nat
  | 0 => 0
  | k + 1 => cnt l k + if l.getD k false then 1 else 0
theorem cnt_le (l : List Bool) (k : Nat) : cnt l k ≤ k := by
  induction k with
  | zero => exact Nat.le_refl _
  | succ k ih => simp only [cnt]; split <;> omega
theorem count_c {w h : Int} (b : Bool) {l : List Bool} (hg : gOk w h l.length) (hl : l.length ≤ 4096) : Contract Tryz.prog 11 [GA w h b l] (.tuple [I (cnt l l.length), I 0]) := by
  have hz := gchk_ok hg
  refine Contract.intro (effS [] false) 6 follows Tryz.func11 rfl rfl (by kernel_rfl) (Nat.le_of_ble_eq_true rfl) ?_
  simp (disch := first | assumption | omega | rfl | simp only [hAt_app, hAt_app0, List.getElem?_cons_zero, List.getElem?_cons_succ]) only [↓RP, RG, FX, decide_eq_true, decide_eq_false, Bool.not_true, Bool.not_false, Option.map_some, List.map_cons, List.map_nil, List.getElem?_cons_zero, List.getElem?_cons_succ, ↓reduceIte, Nat.reduceEqDiff, reduceCtorEq, decide_eq_true_eq, decide_eq_false_iff_not, Option.map_none, Option.bind_some, List.contains_nil, List.contains_cons, Nat.reduceBEq, Bool.or_false, Bool.false_or, Bool.or_self, List.set_cons_zero, List.set_cons_succ, List.take_succ_cons, List.take_zero, List.drop_succ_cons, List.drop_zero, List.length_cons, List.length_nil, List.length_append, Nat.reduceAdd, Nat.reduceLeDiff, List.all_cons, List.all_nil, Bool.and_true, and_true, true_and, and_self, ne_eq, not_false_eq_true, List.cons_append, List.nil_append, List.append_nil, List.append_assoc, Nat.zero_add, Nat.add_zero, Int.toNat_natCast, args0_1]
  refine callK_F 6 (gcheckP_c w h b l) (by simp (disch := first | assumption | omega | rfl | simp only [hAt_app, hAt_app0, List.getElem?_cons_zero, List.getElem?_cons_succ]) only [↓RP, RG, FX, decide_eq_true, decide_eq_false, Bool.not_true, Bool.not_false, Option.map_some, List.map_cons, List.map_nil, List.getElem?_cons_zero, List.getElem?_cons_succ, ↓reduceIte, Nat.reduceEqDiff, reduceCtorEq, decide_eq_true_eq, decide_eq_false_iff_not, Option.map_none, Option.bind_some, List.contains_nil, List.contains_cons, Nat.reduceBEq, Bool.or_false, Bool.false_or, Bool.or_self, List.set_cons_zero, List.set_cons_succ, List.take_succ_cons, List.take_zero, List.drop_succ_cons, List.drop_zero, List.length_cons, List.length_nil, List.length_append, Nat.reduceAdd, Nat.reduceLeDiff, List.all_cons, List.all_nil, Bool.and_true, and_true, true_and, and_self, ne_eq, not_false_eq_true, List.cons_append, List.nil_append, List.append_nil, List.append_assoc, Nat.zero_add, Nat.add_zero, Int.toNat_natCast, RA] <;> rfl) (.inl (by simp [allFresh, ints_fresh, bools_fresh])) ?_
  simp (disch := first | assumption | omega | rfl | simp only [hAt_app, hAt_app0, List.getElem?_cons_zero, List.getElem?_cons_succ]) only [↓RP, RG, FX, decide_eq_true, decide_eq_false, Bool.not_true, Bool.not_false, Option.map_some, List.map_cons, List.map_nil, List.getElem?_cons_zero, List.getElem?_cons_succ, ↓reduceIte, Nat.reduceEqDiff, reduceCtorEq, decide_eq_true_eq, decide_eq_false_iff_not, Option.map_none, Option.bind_some, List.contains_nil, List.contains_cons, Nat.reduceBEq, Bool.or_false, Bool.false_or, Bool.or_self, List.set_cons_zero, List.set_cons_succ, List.take_succ_cons, List.take_zero, List.drop_succ_cons, List.drop_zero, List.length_cons, List.length_nil, List.length_append, Nat.reduceAdd, Nat.reduceLeDiff, List.all_cons, List.all_nil, Bool.and_true, and_true, true_and, and_self, ne_eq, not_false_eq_true, List.cons_append, List.nil_append, List.append_nil, List.append_assoc, Nat.zero_add, Nat.add_zero, Int.toNat_natCast, hz]
  refine loopK_I [5, 14, 15, 16] (fun k : Nat => k ≤ l.length) (fun k => ⟨[(5, I (cnt l k)), (14, BA b l), (15, I l.length), (16, I k)], [⟨24, 3, [I w, I h, BA b l]⟩]⟩) (fun k => l.length - k) 0 (by omega) (by simp only [↓RP, RG, FX, decide_eq_true, decide_eq_false, Bool.not_true, Bool.not_false, Option.map_some, List.map_cons, List.map_nil, List.getElem?_cons_zero, List.getElem?_cons_succ, ↓reduceIte, Nat.reduceEqDiff, reduceCtorEq, decide_eq_true_eq, decide_eq_false_iff_not, Option.map_none, Option.bind_some, List.contains_nil, List.contains_cons, Nat.reduceBEq, Bool.or_false, Bool.false_or, Bool.or_self, List.set_cons_zero, List.set_cons_succ, List.take_succ_cons, List.take_zero, List.drop_succ_cons, List.drop_zero, List.length_cons, List.length_nil, List.length_append, Nat.reduceAdd, Nat.reduceLeDiff, List.all_cons, List.all_nil, Bool.and_true, and_true, true_and, and_self, ne_eq, not_false_eq_true, List.cons_append, List.nil_append, List.append_nil, List.append_assoc, Nat.zero_add, Nat.add_zero, Int.toNat_natCast]; rfl) ?_
  intro k hk
  have hle := cnt_le l k
  by_cases hlt : k < l.length
  · cases hc : l.getD k false with
    | true =>
      simp (disch := first | assumption | omega | rfl | simp only [hAt_app, hAt_app0, List.getElem?_cons_zero, List.getElem?_cons_succ]) only [↓RP, RG, FX, decide_eq_true, decide_eq_false, Bool.not_true, Bool.not_false, Option.map_some, List.map_cons, List.map_nil, List.getElem?_cons_zero, List.getElem?_cons_succ, ↓reduceIte, Nat.reduceEqDiff, reduceCtorEq, decide_eq_true_eq, decide_eq_false_iff_not, Option.map_none, Option.bind_some, List.contains_nil, List.contains_cons, Nat.reduceBEq, Bool.or_false, Bool.false_or, Bool.or_self, List.set_cons_zero, List.set_cons_succ, List.take_succ_cons, List.take_zero, List.drop_succ_cons, List.drop_zero, List.length_cons, List.length_nil, List.length_append, Nat.reduceAdd, Nat.reduceLeDiff, List.all_cons, List.all_nil, Bool.and_true, and_true, true_and, and_self, ne_eq, not_false_eq_true, List.cons_append, List.nil_append, List.append_nil, List.append_assoc, Nat.zero_add, Nat.add_zero, Int.toNat_natCast, hc]
      exact ⟨k + 1, by omega, by rw [show cnt l (k + 1) = cnt l k + (if l.getD k false then 1 else 0) from rfl, hc]; rfl, by omega⟩
    | false =>
      simp (disch := first | assumption | omega | rfl | simp only [hAt_app, hAt_app0, List.getElem?_cons_zero, List.getElem?_cons_succ]) only [↓RP, RG, FX, decide_eq_true, decide_eq_false, Bool.not_true, Bool.not_false, Option.map_some, List.map_cons, List.map_nil, List.getElem?_cons_zero, List.getElem?_cons_succ, ↓reduceIte, Nat.reduceEqDiff, reduceCtorEq, decide_eq_true_eq, decide_eq_false_iff_not, Option.map_none, Option.bind_some, List.contains_nil, List.contains_cons, Nat.reduceBEq, Bool.or_false, Bool.false_or, Bool.or_self, List.set_cons_zero, List.set_cons_succ, List.take_succ_cons, List.take_zero, List.drop_succ_cons, List.drop_zero, List.length_cons, List.length_nil, List.length_append, Nat.reduceAdd, Nat.reduceLeDiff, List.all_cons, List.all_nil, Bool.and_true, and_true, true_and, and_self, ne_eq, not_false_eq_true, List.cons_append, List.nil_append, List.append_nil, List.append_assoc, Nat.zero_add, Nat.add_zero, Int.toNat_natCast, hc]
      exact ⟨k + 1, by omega, by rw [show cnt l (k + 1) = cnt l k + (if l.getD k false then 1 else 0) from rfl, hc]; rfl, by omega⟩
  · obtain rfl : k = l.length := by omega
    simp (disch := first | assumption | omega | rfl | simp only [hAt_app, hAt_app0, List.getElem?_cons_zero, List.getElem?_cons_succ]) only [↓RP, RG, FX, decide_eq_true, decide_eq_false, Bool.not_true, Bool.not_false, Option.map_some, List.map_cons, List.map_nil, List.getElem?_cons_zero, List.getElem?_cons_succ, ↓reduceIte, Nat.reduceEqDiff, reduceCtorEq, decide_eq_true_eq, decide_eq_false_iff_not, Option.map_none, Option.bind_some, List.contains_nil, List.contains_cons, Nat.reduceBEq, Bool.or_false, Bool.false_or, Bool.or_self, List.set_cons_zero, List.set_cons_succ, List.take_succ_cons, List.take_zero, List.drop_succ_cons, List.drop_zero, List.length_cons, List.length_nil, List.length_append, Nat.reduceAdd, Nat.reduceLeDiff, List.all_cons, List.all_nil, Bool.and_true, and_true, true_and, and_self, ne_eq, not_false_eq_true, List.cons_append, List.nil_append, List.append_nil, List.append_assoc, Nat.zero_add, Nat.add_zero, Int.toNat_natCast]
    rw [resVal_2 rfl]; simp (disch := first | assumption | omega | rfl | simp only [hAt_app, hAt_app0, List.getElem?_cons_zero, List.getElem?_cons_succ]) only [↓RP, RG, FX, decide_eq_true, decide_eq_false, Bool.not_true, Bool.not_false, Option.map_some, List.map_cons, List.map_nil, List.getElem?_cons_zero, List.getElem?_cons_succ, ↓reduceIte, Nat.reduceEqDiff, reduceCtorEq, decide_eq_true_eq, decide_eq_false_iff_not, Option.map_none, Option.bind_some, List.contains_nil, List.contains_cons, Nat.reduceBEq, Bool.or_false, Bool.false_or, Bool.or_self, List.set_cons_zero, List.set_cons_succ, List.take_succ_cons, List.take_zero, List.drop_succ_cons, List.drop_zero, List.length_cons, List.length_nil, List.length_append, Nat.reduceAdd, Nat.reduceLeDiff, List.all_cons, List.all_nil, Bool.and_true, and_true, true_and, and_self, ne_eq, not_false_eq_true, List.cons_append, List.nil_append, List.append_nil, List.append_assoc, Nat.zero_add, Nat.add_zero, Int.toNat_natCast, RS]
    first | done | rfl
end Go.Proofs.YtkcicgadggiklaaGreatDoor

/- Double cloths: faces, backs, tubes. -/
set_option linter.unusedSimpArgs false
set_option linter.unusedVariables false
set_option maxRecDepth 100000
namespace Go.Proofs.YtkcicgadggiklaaGreatDoor
open Go Go.Proofs Go.AW

def uF (W : Nat) (l1 l2 l3 : List Bool) (x y : Nat) : Bool := if cell W l3 x y = true then cell W l1 x y else cell W l2 x y

theorem faceF_c {W H : Nat} (hW : W ≤ 64) (hH : H ≤ 64) (b1 b2 b3 : Bool) {l1 l2 l3 : List Bool} (n1 : l1.length = W * H) (n2 : l2.length = W * H) (n3 : l3.length = W * H) {x y : Nat} (hx : x < W) (hy : y < H) :
    Contract Tryz.prog 23 [I x, I y, GS W H b3 l3, GS W H b1 l1, GS W H b2 l2] (B (uF W l1 l2 l3 x y)) := by
  have i1 := cell_in n1 hx hy hW hH
  have i2 := cell_in n2 hx hy hW hH
  have i3 := cell_in n3 hx hy hW hH
  refine Contract.intro (effS [] false) 6 follows Tryz.func23 rfl rfl (by kernel_rfl) (Nat.le_of_ble_eq_true rfl) ?_
  simp (disch := first | assumption | omega | rfl | simp only [hAt_app, hAt_app0, List.getElem?_cons_zero, List.getElem?_cons_succ]) only [↓RP, RG, FX, decide_eq_true, decide_eq_false, Bool.not_true, Bool.not_false, Option.map_some, List.map_cons, List.map_nil, List.getElem?_cons_zero, List.getElem?_cons_succ, ↓reduceIte, Nat.reduceEqDiff, reduceCtorEq, decide_eq_true_eq, decide_eq_false_iff_not, Option.map_none, Option.bind_some, List.contains_nil, List.contains_cons, Nat.reduceBEq, Bool.or_false, Bool.false_or, Bool.or_self, List.set_cons_zero, List.set_cons_succ, List.take_succ_cons, List.take_zero, List.drop_succ_cons, List.drop_zero, List.length_cons, List.length_nil, List.length_append, Nat.reduceAdd, Nat.reduceLeDiff, List.all_cons, List.all_nil, Bool.and_true, and_true, true_and, and_self, ne_eq, not_false_eq_true, List.cons_append, List.nil_append, List.append_nil, List.append_assoc, Nat.zero_add, Nat.add_zero, Int.toNat_natCast, args0_5]
  refine callK_F 6 (atD_c W H b3 l3 x y (by omega) (by omega) (by omega) (by omega) (by omega)) (by simp (disch := first | assumption | omega | rfl | simp only [hAt_app, hAt_app0, List.getElem?_cons_zero, List.getElem?_cons_succ]) only [↓RP, RG, FX, decide_eq_true, decide_eq_false, Bool.not_true, Bool.not_false, Option.map_some, List.map_cons, List.map_nil, List.getElem?_cons_zero, List.getElem?_cons_succ, ↓reduceIte, Nat.reduceEqDiff, reduceCtorEq, decide_eq_true_eq, decide_eq_false_iff_not, Option.map_none, Option.bind_some, List.contains_nil, List.contains_cons, Nat.reduceBEq, Bool.or_false, Bool.false_or, Bool.or_self, List.set_cons_zero, List.set_cons_succ, List.take_succ_cons, List.take_zero, List.drop_succ_cons, List.drop_zero, List.length_cons, List.length_nil, List.length_append, Nat.reduceAdd, Nat.reduceLeDiff, List.all_cons, List.all_nil, Bool.and_true, and_true, true_and, and_self, ne_eq, not_false_eq_true, List.cons_append, List.nil_append, List.append_nil, List.append_assoc, Nat.zero_add, Nat.add_zero, Int.toNat_natCast, RA] <;> rfl) (.inl (by simp [allFresh, ints_fresh, bools_fresh])) ?_
  by_cases hc : cell W l3 x y = true
  · simp (disch := first | assumption | omega | rfl | simp only [hAt_app, hAt_app0, List.getElem?_cons_zero, List.getElem?_cons_succ]) only [↓RP, RG, FX, decide_eq_true, decide_eq_false, Bool.not_true, Bool.not_false, Option.map_some, List.map_cons, List.map_nil, List.getElem?_cons_zero, List.getElem?_cons_succ, ↓reduceIte, Nat.reduceEqDiff, reduceCtorEq, decide_eq_true_eq, decide_eq_false_iff_not, Option.map_none, Option.bind_some, List.contains_nil, List.contains_cons, Nat.reduceBEq, Bool.or_false, Bool.false_or, Bool.or_self, List.set_cons_zero, List.set_cons_succ, List.take_succ_cons, List.take_zero, List.drop_succ_cons, List.drop_zero, List.length_cons, List.length_nil, List.length_append, Nat.reduceAdd, Nat.reduceLeDiff, List.all_cons, List.all_nil, Bool.and_true, and_true, true_and, and_self, ne_eq, not_false_eq_true, List.cons_append, List.nil_append, List.append_nil, List.append_assoc, Nat.zero_add, Nat.add_zero, Int.toNat_natCast, hc]
    refine callK_F 6 (atD_c W H b1 l1 x y (by omega) (by omega) (by omega) (by omega) (by omega)) (by simp (disch := first | assumption | omega | rfl | simp only [hAt_app, hAt_app0, List.getElem?_cons_zero, List.getElem?_cons_succ]) only [↓RP, RG, FX, decide_eq_true, decide_eq_false, Bool.not_true, Bool.not_false, Option.map_some, List.map_cons, List.map_nil, List.getElem?_cons_zero, List.getElem?_cons_succ, ↓reduceIte, Nat.reduceEqDiff, reduceCtorEq, decide_eq_true_eq, decide_eq_false_iff_not, Option.map_none, Option.bind_some, List.contains_nil, List.contains_cons, Nat.reduceBEq, Bool.or_false, Bool.false_or, Bool.or_self, List.set_cons_zero, List.set_cons_succ, List.take_succ_cons, List.take_zero, List.drop_succ_cons, List.drop_zero, List.length_cons, List.length_nil, List.length_append, Nat.reduceAdd, Nat.reduceLeDiff, List.all_cons, List.all_nil, Bool.and_true, and_true, true_and, and_self, ne_eq, not_false_eq_true, List.cons_append, List.nil_append, List.append_nil, List.append_assoc, Nat.zero_add, Nat.add_zero, Int.toNat_natCast, RA] <;> rfl) (.inl (by simp [allFresh, ints_fresh, bools_fresh])) ?_
    simp (disch := first | assumption | omega | rfl | simp only [hAt_app, hAt_app0, List.getElem?_cons_zero, List.getElem?_cons_succ]) only [↓RP, RG, FX, decide_eq_true, decide_eq_false, Bool.not_true, Bool.not_false, Option.map_some, List.map_cons, List.map_nil, List.getElem?_cons_zero, List.getElem?_cons_succ, ↓reduceIte, Nat.reduceEqDiff, reduceCtorEq, decide_eq_true_eq, decide_eq_false_iff_not, Option.map_none, Option.bind_some, List.contains_nil, List.contains_cons, Nat.reduceBEq, Bool.or_false, Bool.false_or, Bool.or_self, List.set_cons_zero, List.set_cons_succ, List.take_succ_cons, List.take_zero, List.drop_succ_cons, List.drop_zero, List.length_cons, List.length_nil, List.length_append, Nat.reduceAdd, Nat.reduceLeDiff, List.all_cons, List.all_nil, Bool.and_true, and_true, true_and, and_self, ne_eq, not_false_eq_true, List.cons_append, List.nil_append, List.append_nil, List.append_assoc, Nat.zero_add, Nat.add_zero, Int.toNat_natCast]
    rw [resVal_1 rfl]; simp (disch := first | assumption | omega | rfl | simp only [hAt_app, hAt_app0, List.getElem?_cons_zero, List.getElem?_cons_succ]) only [↓RP, RG, FX, decide_eq_true, decide_eq_false, Bool.not_true, Bool.not_false, Option.map_some, List.map_cons, List.map_nil, List.getElem?_cons_zero, List.getElem?_cons_succ, ↓reduceIte, Nat.reduceEqDiff, reduceCtorEq, decide_eq_true_eq, decide_eq_false_iff_not, Option.map_none, Option.bind_some, List.contains_nil, List.contains_cons, Nat.reduceBEq, Bool.or_false, Bool.false_or, Bool.or_self, List.set_cons_zero, List.set_cons_succ, List.take_succ_cons, List.take_zero, List.drop_succ_cons, List.drop_zero, List.length_cons, List.length_nil, List.length_append, Nat.reduceAdd, Nat.reduceLeDiff, List.all_cons, List.all_nil, Bool.and_true, and_true, true_and, and_self, ne_eq, not_false_eq_true, List.cons_append, List.nil_append, List.append_nil, List.append_assoc, Nat.zero_add, Nat.add_zero, Int.toNat_natCast, RS]
    rw [uF, if_pos hc]
  · have hc' : cell W l3 x y = false := by simpa using hc
    simp (disch := first | assumption | omega | rfl | simp only [hAt_app, hAt_app0, List.getElem?_cons_zero, List.getElem?_cons_succ]) only [↓RP, RG, FX, decide_eq_true, decide_eq_false, Bool.not_true, Bool.not_false, Option.map_some, List.map_cons, List.map_nil, List.getElem?_cons_zero, List.getElem?_cons_succ, ↓reduceIte, Nat.reduceEqDiff, reduceCtorEq, decide_eq_true_eq, decide_eq_false_iff_not, Option.map_none, Option.bind_some, List.contains_nil, List.contains_cons, Nat.reduceBEq, Bool.or_false, Bool.false_or, Bool.or_self, List.set_cons_zero, List.set_cons_succ, List.take_succ_cons, List.take_zero, List.drop_succ_cons, List.drop_zero, List.length_cons, List.length_nil, List.length_append, Nat.reduceAdd, Nat.reduceLeDiff, List.all_cons, List.all_nil, Bool.and_true, and_true, true_and, and_self, ne_eq, not_false_eq_true, List.cons_append, List.nil_append, List.append_nil, List.append_assoc, Nat.zero_add, Nat.add_zero, Int.toNat_natCast, hc']
    refine callK_F 6 (atD_c W H b2 l2 x y (by omega) (by omega) (by omega) (by omega) (by omega)) (by simp (disch := first | assumption | omega | rfl | simp only [hAt_app, hAt_app0, List.getElem?_cons_zero, List.getElem?_cons_succ]) only [↓RP, RG, FX, decide_eq_true, decide_eq_false, Bool.not_true, Bool.not_false, Option.map_some, List.map_cons, List.map_nil, List.getElem?_cons_zero, List.getElem?_cons_succ, ↓reduceIte, Nat.reduceEqDiff, reduceCtorEq, decide_eq_true_eq, decide_eq_false_iff_not, Option.map_none, Option.bind_some, List.contains_nil, List.contains_cons, Nat.reduceBEq, Bool.or_false, Bool.false_or, Bool.or_self, List.set_cons_zero, List.set_cons_succ, List.take_succ_cons, List.take_zero, List.drop_succ_cons, List.drop_zero, List.length_cons, List.length_nil, List.length_append, Nat.reduceAdd, Nat.reduceLeDiff, List.all_cons, List.all_nil, Bool.and_true, and_true, true_and, and_self, ne_eq, not_false_eq_true, List.cons_append, List.nil_append, List.append_nil, List.append_assoc, Nat.zero_add, Nat.add_zero, Int.toNat_natCast, RA] <;> rfl) (.inl (by simp [allFresh, ints_fresh, bools_fresh])) ?_
    simp (disch := first | assumption | omega | rfl | simp only [hAt_app, hAt_app0, List.getElem?_cons_zero, List.getElem?_cons_succ]) only [↓RP, RG, FX, decide_eq_true, decide_eq_false, Bool.not_true, Bool.not_false, Option.map_some, List.map_cons, List.map_nil, List.getElem?_cons_zero, List.getElem?_cons_succ, ↓reduceIte, Nat.reduceEqDiff, reduceCtorEq, decide_eq_true_eq, decide_eq_false_iff_not, Option.map_none, Option.bind_some, List.contains_nil, List.contains_cons, Nat.reduceBEq, Bool.or_false, Bool.false_or, Bool.or_self, List.set_cons_zero, List.set_cons_succ, List.take_succ_cons, List.take_zero, List.drop_succ_cons, List.drop_zero, List.length_cons, List.length_nil, List.length_append, Nat.reduceAdd, Nat.reduceLeDiff, List.all_cons, List.all_nil, Bool.and_true, and_true, true_and, and_self, ne_eq, not_false_eq_true, List.cons_append, List.nil_append, List.append_nil, List.append_assoc, Nat.zero_add, Nat.add_zero, Int.toNat_natCast]
    rw [resVal_1 rfl]; simp (disch := first | assumption | omega | rfl | simp only [hAt_app, hAt_app0, List.getElem?_cons_zero, List.getElem?_cons_succ]) only [↓RP, RG, FX, decide_eq_true, decide_eq_false, Bool.not_true, Bool.not_false, Option.map_some, List.map_cons, List.map_nil, List.getElem?_cons_zero, List.getElem?_cons_succ, ↓reduceIte, Nat.reduceEqDiff, reduceCtorEq, decide_eq_true_eq, decide_eq_false_iff_not, Option.map_none, Option.bind_some, List.contains_nil, List.contains_cons, Nat.reduceBEq, Bool.or_false, Bool.false_or, Bool.or_self, List.set_cons_zero, List.set_cons_succ, List.take_succ_cons, List.take_zero, List.drop_succ_cons, List.drop_zero, List.length_cons, List.length_nil, List.length_append, Nat.reduceAdd, Nat.reduceLeDiff, List.all_cons, List.all_nil, Bool.and_true, and_true, true_and, and_self, ne_eq, not_false_eq_true, List.cons_append, List.nil_append, List.append_nil, List.append_assoc, Nat.zero_add, Nat.add_zero, Int.toNat_natCast, RS]
    rw [uF, if_neg hc]

theorem backF_c {W H : Nat} (hW : W ≤ 64) (hH : H ≤ 64) (b : Bool) {l : List Bool} (hn : l.length = W * H) {x y : Nat} (hx : x < W) (hy : y < H) :
    Contract Tryz.prog 20 [I x, I y, GS W H b l] (B (uB W l x y)) := by
  have i1 := cell_in hn (show W - 1 - x < W by omega) hy (by omega) (by omega)
  have e1 : (W : Int) - 1 - (x : Int) = ((W - 1 - x : Nat) : Int) := by omega
  refine Contract.intro (effS [] false) 6 follows Tryz.func20 rfl rfl (by kernel_rfl) (Nat.le_of_ble_eq_true rfl) ?_
  simp (disch := first | assumption | omega | rfl | simp only [hAt_app, hAt_app0, List.getElem?_cons_zero, List.getElem?_cons_succ]) only [↓RP, RG, FX, decide_eq_true, decide_eq_false, Bool.not_true, Bool.not_false, Option.map_some, List.map_cons, List.map_nil, List.getElem?_cons_zero, List.getElem?_cons_succ, ↓reduceIte, Nat.reduceEqDiff, reduceCtorEq, decide_eq_true_eq, decide_eq_false_iff_not, Option.map_none, Option.bind_some, List.contains_nil, List.contains_cons, Nat.reduceBEq, Bool.or_false, Bool.false_or, Bool.or_self, List.set_cons_zero, List.set_cons_succ, List.take_succ_cons, List.take_zero, List.drop_succ_cons, List.drop_zero, List.length_cons, List.length_nil, List.length_append, Nat.reduceAdd, Nat.reduceLeDiff, List.all_cons, List.all_nil, Bool.and_true, and_true, true_and, and_self, ne_eq, not_false_eq_true, List.cons_append, List.nil_append, List.append_nil, List.append_assoc, Nat.zero_add, Nat.add_zero, Int.toNat_natCast, args0_3, e1]
  refine callK_F 6 (atD_c W H b l ((W - 1 - x : Nat) : Int) y (by omega) (by omega) (by omega) (by omega) (by omega)) (by simp (disch := first | assumption | omega | rfl | simp only [hAt_app, hAt_app0, List.getElem?_cons_zero, List.getElem?_cons_succ]) only [↓RP, RG, FX, decide_eq_true, decide_eq_false, Bool.not_true, Bool.not_false, Option.map_some, List.map_cons, List.map_nil, List.getElem?_cons_zero, List.getElem?_cons_succ, ↓reduceIte, Nat.reduceEqDiff, reduceCtorEq, decide_eq_true_eq, decide_eq_false_iff_not, Option.map_none, Option.bind_some, List.contains_nil, List.contains_cons, Nat.reduceBEq, Bool.or_false, Bool.false_or, Bool.or_self, List.set_cons_zero, List.set_cons_succ, List.take_succ_cons, List.take_zero, List.drop_succ_cons, List.drop_zero, List.length_cons, List.length_nil, List.length_append, Nat.reduceAdd, Nat.reduceLeDiff, List.all_cons, List.all_nil, Bool.and_true, and_true, true_and, and_self, ne_eq, not_false_eq_true, List.cons_append, List.nil_append, List.append_nil, List.append_assoc, Nat.zero_add, Nat.add_zero, Int.toNat_natCast, RA] <;> rfl) (.inl (by simp [allFresh, ints_fresh, bools_fresh])) ?_
  simp (disch := first | assumption | omega | rfl | simp only [hAt_app, hAt_app0, List.getElem?_cons_zero, List.getElem?_cons_succ]) only [↓RP, RG, FX, decide_eq_true, decide_eq_false, Bool.not_true, Bool.not_false, Option.map_some, List.map_cons, List.map_nil, List.getElem?_cons_zero, List.getElem?_cons_succ, ↓reduceIte, Nat.reduceEqDiff, reduceCtorEq, decide_eq_true_eq, decide_eq_false_iff_not, Option.map_none, Option.bind_some, List.contains_nil, List.contains_cons, Nat.reduceBEq, Bool.or_false, Bool.false_or, Bool.or_self, List.set_cons_zero, List.set_cons_succ, List.take_succ_cons, List.take_zero, List.drop_succ_cons, List.drop_zero, List.length_cons, List.length_nil, List.length_append, Nat.reduceAdd, Nat.reduceLeDiff, List.all_cons, List.all_nil, Bool.and_true, and_true, true_and, and_self, ne_eq, not_false_eq_true, List.cons_append, List.nil_append, List.append_nil, List.append_assoc, Nat.zero_add, Nat.add_zero, Int.toNat_natCast]
  rw [resVal_1 rfl]; simp (disch := first | assumption | omega | rfl | simp only [hAt_app, hAt_app0, List.getElem?_cons_zero, List.getElem?_cons_succ]) only [↓RP, RG, FX, decide_eq_true, decide_eq_false, Bool.not_true, Bool.not_false, Option.map_some, List.map_cons, List.map_nil, List.getElem?_cons_zero, List.getElem?_cons_succ, ↓reduceIte, Nat.reduceEqDiff, reduceCtorEq, decide_eq_true_eq, decide_eq_false_iff_not, Option.map_none, Option.bind_some, List.contains_nil, List.contains_cons, Nat.reduceBEq, Bool.or_false, Bool.false_or, Bool.or_self, List.set_cons_zero, List.set_cons_succ, List.take_succ_cons, List.take_zero, List.drop_succ_cons, List.drop_zero, List.length_cons, List.length_nil, List.length_append, Nat.reduceAdd, Nat.reduceLeDiff, List.all_cons, List.all_nil, Bool.and_true, and_true, true_and, and_self, ne_eq, not_false_eq_true, List.cons_append, List.nil_append, List.append_nil, List.append_assoc, Nat.zero_add, Nat.add_zero, Int.toNat_natCast, RS]
  rfl

theorem backP_c {W H : Nat} (hW0 : 0 < W) (hH0 : 0 < H) (hW : W ≤ 64) (hH : H ≤ 64) (b : Bool) {l : List Bool} (hn : l.length = W * H) :
    Contract Tryz.prog 6 [GA W H b l] (.tuple [GR W H false (tabN W (uB W l) (W * H)), I 0]) := by
  have hg : gOk W H l.length := ⟨by omega, by omega, by omega, by omega, by rw [hn, Int.natCast_mul]⟩
  have hz := gchk_ok hg
  have ht := table_c 20 [GS W H b l] W H (uB W l) (by omega) (by omega) (fun r => by simp only [RA, List.map_cons, List.map_nil]) (fun x y hx hy => backF_c hW hH b hn hx hy)
  rw [tabN_nil hW0 hH0] at ht
  refine Contract.intro (effS [] false) 6 follows Tryz.func6 rfl rfl (by kernel_rfl) (Nat.le_of_ble_eq_true rfl) ?_
  simp (disch := first | assumption | omega | rfl | simp only [hAt_app, hAt_app0, List.getElem?_cons_zero, List.getElem?_cons_succ]) only [↓RP, RG, FX, decide_eq_true, decide_eq_false, Bool.not_true, Bool.not_false, Option.map_some, List.map_cons, List.map_nil, List.getElem?_cons_zero, List.getElem?_cons_succ, ↓reduceIte, Nat.reduceEqDiff, reduceCtorEq, decide_eq_true_eq, decide_eq_false_iff_not, Option.map_none, Option.bind_some, List.contains_nil, List.contains_cons, Nat.reduceBEq, Bool.or_false, Bool.false_or, Bool.or_self, List.set_cons_zero, List.set_cons_succ, List.take_succ_cons, List.take_zero, List.drop_succ_cons, List.drop_zero, List.length_cons, List.length_nil, List.length_append, Nat.reduceAdd, Nat.reduceLeDiff, List.all_cons, List.all_nil, Bool.and_true, and_true, true_and, and_self, ne_eq, not_false_eq_true, List.cons_append, List.nil_append, List.append_nil, List.append_assoc, Nat.zero_add, Nat.add_zero, Int.toNat_natCast, args0_1]
  refine callK_F 6 (check1_c W H b l) (by simp (disch := first | assumption | omega | rfl | simp only [hAt_app, hAt_app0, List.getElem?_cons_zero, List.getElem?_cons_succ]) only [↓RP, RG, FX, decide_eq_true, decide_eq_false, Bool.not_true, Bool.not_false, Option.map_some, List.map_cons, List.map_nil, List.getElem?_cons_zero, List.getElem?_cons_succ, ↓reduceIte, Nat.reduceEqDiff, reduceCtorEq, decide_eq_true_eq, decide_eq_false_iff_not, Option.map_none, Option.bind_some, List.contains_nil, List.contains_cons, Nat.reduceBEq, Bool.or_false, Bool.false_or, Bool.or_self, List.set_cons_zero, List.set_cons_succ, List.take_succ_cons, List.take_zero, List.drop_succ_cons, List.drop_zero, List.length_cons, List.length_nil, List.length_append, Nat.reduceAdd, Nat.reduceLeDiff, List.all_cons, List.all_nil, Bool.and_true, and_true, true_and, and_self, ne_eq, not_false_eq_true, List.cons_append, List.nil_append, List.append_nil, List.append_assoc, Nat.zero_add, Nat.add_zero, Int.toNat_natCast, RA] <;> rfl) (.inl (by simp [allFresh, ints_fresh, bools_fresh])) ?_
  simp (disch := first | assumption | omega | rfl | simp only [hAt_app, hAt_app0, List.getElem?_cons_zero, List.getElem?_cons_succ]) only [↓RP, RG, FX, decide_eq_true, decide_eq_false, Bool.not_true, Bool.not_false, Option.map_some, List.map_cons, List.map_nil, List.getElem?_cons_zero, List.getElem?_cons_succ, ↓reduceIte, Nat.reduceEqDiff, reduceCtorEq, decide_eq_true_eq, decide_eq_false_iff_not, Option.map_none, Option.bind_some, List.contains_nil, List.contains_cons, Nat.reduceBEq, Bool.or_false, Bool.false_or, Bool.or_self, List.set_cons_zero, List.set_cons_succ, List.take_succ_cons, List.take_zero, List.drop_succ_cons, List.drop_zero, List.length_cons, List.length_nil, List.length_append, Nat.reduceAdd, Nat.reduceLeDiff, List.all_cons, List.all_nil, Bool.and_true, and_true, true_and, and_self, ne_eq, not_false_eq_true, List.cons_append, List.nil_append, List.append_nil, List.append_assoc, Nat.zero_add, Nat.add_zero, Int.toNat_natCast, hz]
  refine callK_F 6 (ht) (by simp (disch := first | assumption | omega | rfl | simp only [hAt_app, hAt_app0, List.getElem?_cons_zero, List.getElem?_cons_succ]) only [↓RP, RG, FX, decide_eq_true, decide_eq_false, Bool.not_true, Bool.not_false, Option.map_some, List.map_cons, List.map_nil, List.getElem?_cons_zero, List.getElem?_cons_succ, ↓reduceIte, Nat.reduceEqDiff, reduceCtorEq, decide_eq_true_eq, decide_eq_false_iff_not, Option.map_none, Option.bind_some, List.contains_nil, List.contains_cons, Nat.reduceBEq, Bool.or_false, Bool.false_or, Bool.or_self, List.set_cons_zero, List.set_cons_succ, List.take_succ_cons, List.take_zero, List.drop_succ_cons, List.drop_zero, List.length_cons, List.length_nil, List.length_append, Nat.reduceAdd, Nat.reduceLeDiff, List.all_cons, List.all_nil, Bool.and_true, and_true, true_and, and_self, ne_eq, not_false_eq_true, List.cons_append, List.nil_append, List.append_nil, List.append_assoc, Nat.zero_add, Nat.add_zero, Int.toNat_natCast, RA] <;> rfl) (.inl (by simp [allFresh, ints_fresh, bools_fresh])) ?_
  simp (disch := first | assumption | omega | rfl | simp only [hAt_app, hAt_app0, List.getElem?_cons_zero, List.getElem?_cons_succ]) only [↓RP, RG, FX, decide_eq_true, decide_eq_false, Bool.not_true, Bool.not_false, Option.map_some, List.map_cons, List.map_nil, List.getElem?_cons_zero, List.getElem?_cons_succ, ↓reduceIte, Nat.reduceEqDiff, reduceCtorEq, decide_eq_true_eq, decide_eq_false_iff_not, Option.map_none, Option.bind_some, List.contains_nil, List.contains_cons, Nat.reduceBEq, Bool.or_false, Bool.false_or, Bool.or_self, List.set_cons_zero, List.set_cons_succ, List.take_succ_cons, List.take_zero, List.drop_succ_cons, List.drop_zero, List.length_cons, List.length_nil, List.length_append, Nat.reduceAdd, Nat.reduceLeDiff, List.all_cons, List.all_nil, Bool.and_true, and_true, true_and, and_self, ne_eq, not_false_eq_true, List.cons_append, List.nil_append, List.append_nil, List.append_assoc, Nat.zero_add, Nat.add_zero, Int.toNat_natCast]
  rw [resVal_2 rfl]; simp (disch := first | assumption | omega | rfl | simp only [hAt_app, hAt_app0, List.getElem?_cons_zero, List.getElem?_cons_succ]) only [↓RP, RG, FX, decide_eq_true, decide_eq_false, Bool.not_true, Bool.not_false, Option.map_some, List.map_cons, List.map_nil, List.getElem?_cons_zero, List.getElem?_cons_succ, ↓reduceIte, Nat.reduceEqDiff, reduceCtorEq, decide_eq_true_eq, decide_eq_false_iff_not, Option.map_none, Option.bind_some, List.contains_nil, List.contains_cons, Nat.reduceBEq, Bool.or_false, Bool.false_or, Bool.or_self, List.set_cons_zero, List.set_cons_succ, List.take_succ_cons, List.take_zero, List.drop_succ_cons, List.drop_zero, List.length_cons, List.length_nil, List.length_append, Nat.reduceAdd, Nat.reduceLeDiff, List.all_cons, List.all_nil, Bool.and_true, and_true, true_and, and_self, ne_eq, not_false_eq_true, List.cons_append, List.nil_append, List.append_nil, List.append_assoc, Nat.zero_add, Nat.add_zero, Int.toNat_natCast, RS]

end Go.Proofs.YtkcicgadggiklaaGreatDoor

/- Double cloths: tubes; the law of faces. -/
set_option linter.unusedSimpArgs false
set_option linter.unusedVariables false
set_option maxRecDepth 100000
namespace Go.Proofs.YtkcicgadggiklaaGreatDoor
open Go Go.Proofs Go.AW

theorem tubeF_c (x y : Nat) : Contract Tryz.prog 24 [I x, I y] (B true) := by
  refine Contract.intro (effS [] false) 6 follows Tryz.func24 rfl rfl (by kernel_rfl) (Nat.le_of_ble_eq_true rfl) ?_
  simp (disch := first | assumption | omega | rfl | simp only [hAt_app, hAt_app0, List.getElem?_cons_zero, List.getElem?_cons_succ]) only [↓RP, RG, FX, decide_eq_true, decide_eq_false, Bool.not_true, Bool.not_false, Option.map_some, List.map_cons, List.map_nil, List.getElem?_cons_zero, List.getElem?_cons_succ, ↓reduceIte, Nat.reduceEqDiff, reduceCtorEq, decide_eq_true_eq, decide_eq_false_iff_not, Option.map_none, Option.bind_some, List.contains_nil, List.contains_cons, Nat.reduceBEq, Bool.or_false, Bool.false_or, Bool.or_self, List.set_cons_zero, List.set_cons_succ, List.take_succ_cons, List.take_zero, List.drop_succ_cons, List.drop_zero, List.length_cons, List.length_nil, List.length_append, Nat.reduceAdd, Nat.reduceLeDiff, List.all_cons, List.all_nil, Bool.and_true, and_true, true_and, and_self, ne_eq, not_false_eq_true, List.cons_append, List.nil_append, List.append_nil, List.append_assoc, Nat.zero_add, Nat.add_zero, Int.toNat_natCast, args0_2]
  rw [resVal_1 rfl]; simp (disch := first | assumption | omega | rfl | simp only [hAt_app, hAt_app0, List.getElem?_cons_zero, List.getElem?_cons_succ]) only [↓RP, RG, FX, decide_eq_true, decide_eq_false, Bool.not_true, Bool.not_false, Option.map_some, List.map_cons, List.map_nil, List.getElem?_cons_zero, List.getElem?_cons_succ, ↓reduceIte, Nat.reduceEqDiff, reduceCtorEq, decide_eq_true_eq, decide_eq_false_iff_not, Option.map_none, Option.bind_some, List.contains_nil, List.contains_cons, Nat.reduceBEq, Bool.or_false, Bool.false_or, Bool.or_self, List.set_cons_zero, List.set_cons_succ, List.take_succ_cons, List.take_zero, List.drop_succ_cons, List.drop_zero, List.length_cons, List.length_nil, List.length_append, Nat.reduceAdd, Nat.reduceLeDiff, List.all_cons, List.all_nil, Bool.and_true, and_true, true_and, and_self, ne_eq, not_false_eq_true, List.cons_append, List.nil_append, List.append_nil, List.append_assoc, Nat.zero_add, Nat.add_zero, Int.toNat_natCast, RS]

end Go.Proofs.YtkcicgadggiklaaGreatDoor

/- Which threads lie over which: lists of rows that grow. -/
set_option linter.unusedSimpArgs false
set_option linter.unusedVariables false
set_option maxRecDepth 100000
namespace Go.Proofs.YtkcicgadggiklaaGreatDoor
open Go Go.Proofs Go.AW

/-- Growing rows in slots; their objects from the k-th on. -/
def gws (k : Nat) (rs : List (List Int)) : List AVal := rs.mapIdx fun a r => gw true (k + a) (ints r)
def gos (rs : List (List Int)) : List AObj := rs.map fun r => go 3 (ints r)
theorem gws_len (k : Nat) (rs : List (List Int)) : (gws k rs).length = rs.length := by simp [gws]
theorem gos_len (rs : List (List Int)) : (gos rs).length = rs.length := by simp [gos]
theorem gws_at {k : Nat} {rs : List (List Int)} {a : Nat} (ha : a < rs.length) : ((gws k rs).drop a)[0]? = some (gw true (k + a) (ints (rs.getD a []))) := by
  rw [List.getElem?_drop, Nat.add_zero, gws, List.getElem?_mapIdx, List.getElem?_eq_getElem ha, List.getD_eq_getElem?_getD, List.getElem?_eq_getElem ha]; rfl
theorem gws_set (k : Nat) (rs : List (List Int)) (a : Nat) (r : List Int) : (gws k rs).set a (gw true (k + a) (ints r)) = gws k (rs.set a r) := by
  apply List.ext_getElem
  · simp [gws]
  intro i h1 h2
  rw [List.getElem_set]
  simp only [gws, List.getElem_mapIdx, List.getElem_set]
  by_cases h : a = i
  · subst h; simp
  · simp [h]
theorem gos_at {rs : List (List Int)} {a : Nat} (ha : a < rs.length) : (gos rs)[a]? = some (go 3 (ints (rs.getD a []))) := by
  rw [gos, List.getElem?_map, List.getElem?_eq_getElem ha, List.getD_eq_getElem?_getD, List.getElem?_eq_getElem ha]; rfl
theorem gos_set (rs : List (List Int)) (a : Nat) (r : List Int) : (gos rs).set a (go 3 (ints r)) = gos (rs.set a r) := by simp [gos, List.map_set]

section
variable {o0 o1 o2 o3 o4 : AObj} {rB rA : List (List Int)} {n a : Nat}
theorem h5_atB (ha : a < rB.length) : (o0 :: o1 :: o2 :: o3 :: o4 :: (gos rB ++ gos rA))[5 + a]? = some (go 3 (ints (rB.getD a []))) := by
  rw [show 5 + a = a + 5 by omega]
  simp only [List.getElem?_cons_succ]
  rw [List.getElem?_append_left (by rw [gos_len]; exact ha), gos_at ha]
theorem h5_atA (hn : rB.length = n) (ha : a < rA.length) : (o0 :: o1 :: o2 :: o3 :: o4 :: (gos rB ++ gos rA))[5 + n + a]? = some (go 3 (ints (rA.getD a []))) := by
  rw [show 5 + n + a = n + a + 5 by omega]
  simp only [List.getElem?_cons_succ]
  rw [List.getElem?_append_right (by rw [gos_len]; omega), gos_len, hn, show n + a - n = a by omega, gos_at ha]
theorem h5_setB (ha : a < rB.length) (r : List Int) : (o0 :: o1 :: o2 :: o3 :: o4 :: (gos rB ++ gos rA)).set (5 + a) (go 3 (ints r)) = o0 :: o1 :: o2 :: o3 :: o4 :: (gos (rB.set a r) ++ gos rA) := by
  rw [show 5 + a = a + 5 by omega]
  simp only [List.set_cons_succ]
  rw [List.set_append_left _ _ (by rw [gos_len]; exact ha), gos_set]
theorem h5_setA (hn : rB.length = n) (r : List Int) : (o0 :: o1 :: o2 :: o3 :: o4 :: (gos rB ++ gos rA)).set (5 + n + a) (go 3 (ints r)) = o0 :: o1 :: o2 :: o3 :: o4 :: (gos rB ++ gos (rA.set a r)) := by
  rw [show 5 + n + a = n + a + 5 by omega]
  simp only [List.set_cons_succ]
  rw [List.set_append_right _ _ (by rw [gos_len]; omega), gos_len, hn, show n + a - n = a by omega, gos_set]
end

theorem WL_nil : ∀ (m k : Nat) (f : Nat → Nat), WL (List.replicate m (.cap0 true)) ((List.range m).map fun a => .res (f (k + a)))
  | 0, k, f => .nil
  | m + 1, k, f => by
    rw [List.replicate_succ, List.range_succ_eq_map, List.map_cons, List.map_map]
    refine .cons (.nil _) ?_
    have := WL_nil m (k + 1) f
    have e : ((fun a => AVal.res (f (k + a))) ∘ Nat.succ) = fun a => .res (f (k + 1 + a)) := by funext a; simp only [Function.comp]; congr 2; omega
    rw [e]; exact this
theorem gws_nil (k m : Nat) : gws k (List.replicate m []) = (List.range m).map fun a => .res (k + a) := by
  apply List.ext_getElem
  · simp [gws]
  intro i h1 h2
  simp [gws, gw, ints]
theorem WL_gws (k m : Nat) : WL (List.replicate m (.cap0 true)) (gws k (List.replicate m [])) := by
  rw [gws_nil]
  have := WL_nil m 0 (fun a => k + a)
  simpa using this
theorem gos_nil (m : Nat) : ∀ o ∈ gos (List.replicate m []), o.es = 0 := by
  intro o ho
  simp only [gos, List.mem_map] at ho
  obtain ⟨r, hr, rfl⟩ := ho
  rw [(List.mem_replicate.1 hr).2]; rfl

/-- What lies under a thread (v), or over it (not v), of what has been looked at: x columns, and y cells of the next one. -/
def rowG (v : Bool) (W H : Nat) (l : List Bool) (x y a : Nat) : List Int :=
  if a < W then ((List.range (if a < x then H else if a = x then y else 0)).filter fun j => l.getD (W * j + a) false == v).map fun j => ((W + j : Nat) : Int)
  else ((List.range (if a - W < y then x + 1 else x)).filter fun i => l.getD (W * (a - W) + i) false == !v).map fun i : Nat => (i : Int)
def rowsG (v : Bool) (W H : Nat) (l : List Bool) (x y : Nat) : List (List Int) := (List.range (W + H)).map (rowG v W H l x y)
theorem rowsG_len (v : Bool) (W H : Nat) (l : List Bool) (x y : Nat) : (rowsG v W H l x y).length = W + H := by simp [rowsG]
theorem rowsG_get {v : Bool} {W H : Nat} {l : List Bool} {x y a : Nat} (ha : a < W + H) : (rowsG v W H l x y).getD a [] = rowG v W H l x y a := by
  simp [rowsG, List.getD_eq_getElem?_getD, List.getElem?_range ha]
theorem rowG_le {v : Bool} {W H : Nat} {l : List Bool} {x y a : Nat} (hx : x < W) (hy : y < H) : (rowG v W H l x y a).length ≤ W + H := by
  unfold rowG
  split
  · rw [List.length_map]
    refine Nat.le_trans (List.length_filter_le _ _) ?_
    rw [List.length_range]
    split
    · omega
    · split <;> omega
  · rw [List.length_map]
    refine Nat.le_trans (List.length_filter_le _ _) ?_
    rw [List.length_range]
    split <;> omega
theorem rowG_inc (v : Bool) (W H : Nat) (l : List Bool) (x y a : Nat) : (rowG v W H l x y a).Pairwise (· < ·) := by
  unfold rowG
  split
  · rw [List.pairwise_map]
    refine (List.Pairwise.filter _ List.pairwise_lt_range).imp fun h => by omega
  · rw [List.pairwise_map]
    refine (List.Pairwise.filter _ List.pairwise_lt_range).imp fun h => by omega
theorem rowG_end {v : Bool} {W H : Nat} {l : List Bool} {a : Nat} (hW : W ≤ 64) (hH : H ≤ 64) : (rowG v W H l W 0 a).length ≤ 200 := by
  unfold rowG
  split
  · rw [List.length_map]
    refine Nat.le_trans (List.length_filter_le _ _) ?_
    rw [List.length_range]
    repeat' split
    all_goals omega
  · rw [List.length_map]
    refine Nat.le_trans (List.length_filter_le _ _) ?_
    rw [List.length_range]
    repeat' split
    all_goals omega
theorem rowsG_zero (v : Bool) (W H : Nat) (l : List Bool) : rowsG v W H l 0 0 = List.replicate (W + H) [] := by
  apply List.ext_getElem
  · simp [rowsG]
  intro a h1 h2
  simp [rowsG, rowG]
theorem rowsG_row (v : Bool) (W H : Nat) (l : List Bool) (x : Nat) : rowsG v W H l x H = rowsG v W H l (x + 1) 0 := by
  unfold rowsG
  apply List.map_congr_left
  intro a ha
  have ha : a < W + H := by simpa using ha
  unfold rowG
  by_cases h : a < W
  · rw [if_pos h, if_pos h]
    congr 2
    by_cases h1 : a < x
    · rw [if_pos h1, if_pos (by omega)]
    · rw [if_neg h1]
      by_cases h2 : a = x
      · rw [if_pos h2, if_pos (by omega)]
      · rw [if_neg h2, if_neg (by omega)]; split <;> rfl
  · rw [if_neg h, if_neg h, if_pos (by omega), if_neg (by omega)]
theorem rowsG_step (v : Bool) {W H : Nat} (l : List Bool) {x y : Nat} (hx : x < W) (hy : y < H) (b : Bool) (hb : l.getD (W * y + x) false = b) :
    rowsG v W H l x (y + 1) = (rowsG v W H l x y).set (if b = v then x else W + y) (rowG v W H l x y (if b = v then x else W + y) ++ [if b = v then ((W + y : Nat) : Int) else (x : Int)]) := by
  apply List.ext_getElem
  · simp [rowsG]
  intro a h1 h2
  have ha : a < W + H := by rw [rowsG_len] at h1; exact h1
  rw [List.getElem_set]
  simp only [rowsG, List.getElem_map, List.getElem_range]
  have e1 : a = x → rowG v W H l x (y + 1) a = if b = v then rowG v W H l x y a ++ [((W + y : Nat) : Int)] else rowG v W H l x y a := by
    rintro rfl
    have g2 : ¬ a < a := by omega
    simp only [rowG, if_pos hx, if_neg g2, if_true, List.range_succ, List.filter_append, List.map_append, List.filter_cons, List.filter_nil, hb]
    by_cases hv : b = v
    · subst hv; simp
    · have : (b == v) = false := by simpa using hv
      simp [this, hv]
  have e2 : a = W + y → rowG v W H l x (y + 1) a = if b = v then rowG v W H l x y a else rowG v W H l x y a ++ [(x : Int)] := by
    rintro rfl
    have g1 : ¬ W + y < W := by omega
    have e3 : W + y - W = y := by omega
    have g2 : y < y + 1 := by omega
    have g3 : ¬ y < y := by omega
    simp only [rowG, if_neg g1, e3, if_pos g2, if_neg g3, List.range_succ, List.filter_append, List.map_append, List.filter_cons, List.filter_nil, hb]
    by_cases hv : b = v
    · subst hv; cases b <;> simp
    · have : b = !v := by cases b <;> cases v <;> simp_all
      subst this
      simp
  have e3 : a ≠ x → a ≠ W + y → rowG v W H l x (y + 1) a = rowG v W H l x y a := by
    intro g1 g2
    unfold rowG
    by_cases h : a < W
    · rw [if_pos h, if_pos h, if_neg g1, if_neg g1]
    · rw [if_neg h, if_neg h]
      congr 3
      by_cases h3 : a - W < y
      · rw [if_pos h3, if_pos (by omega)]
      · rw [if_neg h3, if_neg (by omega)]
  by_cases hv : b = v
  · simp only [if_pos hv] at *
    by_cases g : x = a
    · rw [if_pos g, e1 g.symm, g]
    · rw [if_neg g]
      by_cases g2 : a = W + y
      · exact e2 g2
      · exact e3 (fun h => g h.symm) g2
  · simp only [if_neg hv] at *
    by_cases g : W + y = a
    · rw [if_pos g, e2 g.symm, g]
    · rw [if_neg g]
      by_cases g2 : a = x
      · exact e1 g2
      · exact e3 g2 (fun h => g h.symm)
end Go.Proofs.YtkcicgadggiklaaGreatDoor

/- The library's sort and compaction, as this program bears them. -/
set_option linter.unusedVariables false
namespace Go.Proofs
open Go.Shelf
def Tryz.lays189_ren : Go.Shelf.Ren := ⟨fun | 189 => 43 | 125 => 58 | 257 => 57 | 128 => 78 | 129 => 79 | 294 => 69 | 295 => 70 | 296 => 71 | 297 => 72 | 298 => 73 | 299 => 74 | 216 => 75 | 300 => 76 | 301 => 77 | 328 => 87 | 329 => 88 | 330 => 89 | 331 => 90 | 332 => 91 | 215 => 92 | 343 => 101 | n => n, fun | 28 => 47 | 3 => 3 | 46 => 95 | 0 => 0 | 51 => 115 | 53 => 117 | 4 => 4 | 183 => 108 | 182 => 107 | 131 => 112 | 5 => 5 | 9 => 9 | 218 => 123 | 222 => 127 | 228 => 139 | 229 => 140 | n => n, fun | n => n⟩
theorem Tryz.lays189 : Go.Proofs.Lays.n189 Tryz.prog Tryz.lays189_ren := {
  mixed := by kernel_rfl
  f125 := Tryz.func58.trans (congrArg some (by kernel_rfl))
  f128 := Tryz.func78.trans (congrArg some (by kernel_rfl))
  f129 := Tryz.func79.trans (congrArg some (by kernel_rfl))
  f189 := Tryz.func43.trans (congrArg some (by kernel_rfl))
  f215 := Tryz.func92.trans (congrArg some (by kernel_rfl))
  f216 := Tryz.func75.trans (congrArg some (by kernel_rfl))
  f257 := Tryz.func57.trans (congrArg some (by kernel_rfl))
  f294 := Tryz.func69.trans (congrArg some (by kernel_rfl))
  f295 := Tryz.func70.trans (congrArg some (by kernel_rfl))
  f296 := Tryz.func71.trans (congrArg some (by kernel_rfl))
  f297 := Tryz.func72.trans (congrArg some (by kernel_rfl))
  f298 := Tryz.func73.trans (congrArg some (by kernel_rfl))
  f299 := Tryz.func74.trans (congrArg some (by kernel_rfl))
  f300 := Tryz.func76.trans (congrArg some (by kernel_rfl))
  f301 := Tryz.func77.trans (congrArg some (by kernel_rfl))
  f328 := Tryz.func87.trans (congrArg some (by kernel_rfl))
  f329 := Tryz.func88.trans (congrArg some (by kernel_rfl))
  f330 := Tryz.func89.trans (congrArg some (by kernel_rfl))
  f331 := Tryz.func90.trans (congrArg some (by kernel_rfl))
  f332 := Tryz.func91.trans (congrArg some (by kernel_rfl))
  f343 := Tryz.func101.trans (congrArg some (by kernel_rfl))
  t0 := Tryz.underlying0
  a0 := Tryz.isAgg0
  z0 := Tryz.sizeOf0
  v0 := Tryz.zeroValue0
  t3 := Tryz.underlying3
  a3 := Tryz.isAgg3
  z3 := Tryz.sizeOf3
  v3 := Tryz.zeroValue3
  t4 := Tryz.underlying4
  a4 := Tryz.isAgg4
  z4 := Tryz.sizeOf4
  v4 := Tryz.zeroValue4
  t5 := Tryz.underlying5
  a5 := Tryz.isAgg5
  z5 := Tryz.sizeOf5
  v5 := Tryz.zeroValue5
  t9 := Tryz.underlying9
  a9 := Tryz.isAgg9
  z9 := Tryz.sizeOf9
  v9 := Tryz.zeroValue9
  t28 := Tryz.underlying47
  a28 := Tryz.isAgg47
  z28 := Tryz.sizeOf47
  v28 := Tryz.zeroValue47
  t46 := Tryz.underlying95
  a46 := Tryz.isAgg95
  z46 := Tryz.sizeOf95
  v46 := Tryz.zeroValue95
  t51 := Tryz.underlying115
  a51 := Tryz.isAgg115
  z51 := Tryz.sizeOf115
  v51 := Tryz.zeroValue115
  t53 := Tryz.underlying117
  a53 := Tryz.isAgg117
  z53 := Tryz.sizeOf117
  v53 := Tryz.zeroValue117
  t131 := Tryz.underlying112
  a131 := Tryz.isAgg112
  z131 := Tryz.sizeOf112
  v131 := Tryz.zeroValue112
  t182 := Tryz.underlying107
  a182 := Tryz.isAgg107
  z182 := Tryz.sizeOf107
  v182 := Tryz.zeroValue107
  t183 := Tryz.underlying108
  a183 := Tryz.isAgg108
  z183 := Tryz.sizeOf108
  v183 := Tryz.zeroValue108
  t218 := Tryz.underlying123
  a218 := Tryz.isAgg123
  z218 := Tryz.sizeOf123
  v218 := Tryz.zeroValue123
  t222 := Tryz.underlying127
  a222 := Tryz.isAgg127
  z222 := Tryz.sizeOf127
  v222 := Tryz.zeroValue127
  t228 := Tryz.underlying139
  a228 := Tryz.isAgg139
  z228 := Tryz.sizeOf139
  v228 := Tryz.zeroValue139
  t229 := Tryz.underlying140
  a229 := Tryz.isAgg140
  z229 := Tryz.sizeOf140
  v229 := Tryz.zeroValue140 }
end Go.Proofs

/- Which threads lie over which, by the program. -/
set_option linter.unusedSimpArgs false
set_option linter.unusedVariables false
set_option maxRecDepth 100000
namespace Go.Proofs.YtkcicgadggiklaaGreatDoor
open Go Go.Proofs Go.AW

theorem apZ_gw (D : Nat → Bool) (k : Nat) (xs : List AVal) (r : Option (AVal × List AObj)) : apZ true D (gw true k xs) r = if D k = true then r else none := by
  cases xs with
  | nil => exact apZ_res D k r
  | cons a t => exact apZ_ref D k 0 _ _ r

theorem cA_any {ty es ext : Nat} {cs : List AVal} (hl : cs.length = ext) : cA (some ⟨ty, es, cs⟩) ext = some cs := by simp [cA, hl]

theorem sX_gw {g : Bool} {h : List AObj} {id a ext ty es : Nat} {cs : List AVal} {bb : Bool} {k : Nat} {xs : List AVal} (hty : ty ≠ 1000003) (hl : cs.length = ext) (hk : a < ext) : sX (some (g, 1)) h id a ext (some ⟨ty, es, cs⟩) (some [gw bb k xs]) = some (h.set id ⟨ty, es, cs.set a (gw bb k xs)⟩) := by
  rw [sX_mk hty, if_pos ⟨hl, rfl, by simp; omega, by simp [one_gw]⟩]; rfl

theorem sort_nil : Contract Tryz.prog 43 [.list false true 0 []] (.tuple []) := Contract.run xGood 200 (by kernel_rfl)

/-- Rows, handed back. -/
def LL (rs : List (List Int)) : List AVal := rs.map fun r => LR r.isEmpty r
theorem gws_res {h : List AObj} {k : Nat} {rs : List (List Int)} (m : Nat) (hh : ∀ a, a < rs.length → h[k + a]? = some (go 3 (ints (rs.getD a [])))) : (gws k rs).map (resOf h (m + 2)) = LL rs := by
  apply List.ext_getElem
  · simp [gws, LL]
  intro a h1 h2
  have ha : a < rs.length := by simpa [LL] using h2
  have hg := hh a ha
  have e : rs.getD a [] = rs[a] := by rw [List.getD_eq_getElem?_getD, List.getElem?_eq_getElem ha]; rfl
  rw [e] at hg
  simp only [gws, LL, List.getElem_map, List.getElem_mapIdx]
  generalize rs[a] = r at *
  cases r with
  | nil => rfl
  | cons x t =>
    have hp : 0 < (ints (x :: t)).length := by simp [ints]
    rw [gw_pos hp]
    rw [go_pos hp] at hg
    simp only [resOf, hg, if_true, List.drop_zero, Nat.mul_one, List.take_length]
    have := ints_res (x :: t) h m
    simp only [this, ints_length]
    rfl

theorem set_self {h : List AObj} {i : Nat} {o : AObj} (ho : h[i]? = some o) : h.set i o = h := by
  obtain ⟨hi, rfl⟩ := List.getElem?_eq_some_iff.1 ho
  exact List.set_getElem_self hi
theorem srt_inc {r : List Int} (h : r.Pairwise (· < ·)) : srt r = r := by
  apply List.mergeSort_of_pairwise
  exact h.imp fun hab => by simp; omega

theorem rX_any {h : List AObj} {m n ty : Nat} {cs : List AVal} (hl : cs.length = n) : rX h m 0 n n (some ⟨ty, 1, cs⟩) = .list true false n (cs.map (resOf h m)) := by
  subst hl
  simp [rX]

theorem newOrder_c {W H n : Nat} (hN : W + H = n) (hW0 : 0 < W) (hH0 : 0 < H) (hW : W ≤ 64) (hH : H ≤ 64) (b : Bool) {l : List Bool} (hn : l.length = W * H) :
    Contract Tryz.prog 34 [GA W H b l] (.agg [.list true false n (LL (rowsG true W H l W 0)), .list true false n (LL (rowsG false W H l W 0))]) := by
  have hWH : W * H ≤ 64 * 64 := Nat.mul_le_mul hW hH
  have hNi : ((W : Int) + (H : Int)).toNat = n := by omega
  have hcell : ofCell (.slice none 0 0) = .cap0 true := rfl
  refine Contract.intro (effS [] false [] [] [4, 48, 51, 60, 63] (fun i => !(i == 4)) [55, 67]) 6 follows Tryz.func34 rfl rfl (by kernel_rfl) (Nat.le_of_ble_eq_true rfl) ?_
  simp (disch := first | assumption | omega | rfl | simp only [hAt_app, hAt_app0, List.getElem?_cons_zero, List.getElem?_cons_succ]) only [↓RP, RG, FX, decide_eq_true, decide_eq_false, Bool.not_true, Bool.not_false, Option.map_some, List.map_cons, List.map_nil, List.getElem?_cons_zero, List.getElem?_cons_succ, ↓reduceIte, Nat.reduceEqDiff, reduceCtorEq, decide_eq_true_eq, decide_eq_false_iff_not, Option.map_none, Option.bind_some, List.contains_nil, List.contains_cons, Nat.reduceBEq, Bool.or_false, Bool.false_or, Bool.or_self, List.set_cons_zero, List.set_cons_succ, List.take_succ_cons, List.take_zero, List.drop_succ_cons, List.drop_zero, List.length_cons, List.length_nil, List.length_append, Nat.reduceAdd, Nat.reduceLeDiff, List.all_cons, List.all_nil, Bool.and_true, and_true, true_and, and_self, ne_eq, not_false_eq_true, List.cons_append, List.nil_append, List.append_nil, List.append_assoc, Nat.zero_add, Nat.add_zero, Int.toNat_natCast, args0_1, make_one, hNi, hcell]
  refine loopK_W [1, 2, 3, 4, 21, 22] (fun x : Nat => x ≤ W) (fun x : Nat => ⟨[(1, .ptr 0 0 3), (2, .ptr 1 0 2), (3, I ((W : Int) + (H : Int))), (4, .ptr 4 0 2), (21, I W), (22, I x)], ⟨24, 3, [I W, I H, BA b l]⟩ :: ⟨63, 2, [.cap0 true, .cap0 true]⟩ :: ⟨47, 1, gws 5 (rowsG true W H l x 0)⟩ :: ⟨47, 1, gws (5 + n) (rowsG false W H l x 0)⟩ :: ⟨63, 2, [.ref 2 0 n n, .ref 3 0 n n]⟩ :: (gos (rowsG true W H l x 0) ++ gos (rowsG false W H l x 0))⟩) (fun x => W - x) 0 (by omega) ?_ ?_
  · simp only [↓RP, RG, FX, decide_eq_true, decide_eq_false, Bool.not_true, Bool.not_false, Option.map_some, List.map_cons, List.map_nil, List.getElem?_cons_zero, List.getElem?_cons_succ, ↓reduceIte, Nat.reduceEqDiff, reduceCtorEq, decide_eq_true_eq, decide_eq_false_iff_not, Option.map_none, Option.bind_some, List.contains_nil, List.contains_cons, Nat.reduceBEq, Bool.or_false, Bool.false_or, Bool.or_self, List.set_cons_zero, List.set_cons_succ, List.take_succ_cons, List.take_zero, List.drop_succ_cons, List.drop_zero, List.length_cons, List.length_nil, List.length_append, Nat.reduceAdd, Nat.reduceLeDiff, List.all_cons, List.all_nil, Bool.and_true, and_true, true_and, and_self, ne_eq, not_false_eq_true, List.cons_append, List.nil_append, List.append_nil, List.append_assoc, Nat.zero_add, Nat.add_zero, Int.toNat_natCast]
    rw [rowsG_zero, rowsG_zero, hN]
    refine Wk.weak (fun t => .refl _) (.cons _ _ _ _ (WL.refl _) (.cons _ _ _ _ (WL.refl _) (.cons _ _ _ _ (WL_gws 5 n) (.cons _ _ _ _ (WL_gws (5 + n) n) (.cons _ _ _ _ (WL.refl _) (.nil _ ?_))))))
    intro o ho
    rcases List.mem_append.1 ho with h | h <;> exact gos_nil n o h
  intro x hx
  by_cases hlt : x < W
  · simp (disch := first | assumption | omega | rfl | simp only [hAt_app, hAt_app0, List.getElem?_cons_zero, List.getElem?_cons_succ]) only [↓RP, RG, FX, decide_eq_true, decide_eq_false, Bool.not_true, Bool.not_false, Option.map_some, List.map_cons, List.map_nil, List.getElem?_cons_zero, List.getElem?_cons_succ, ↓reduceIte, Nat.reduceEqDiff, reduceCtorEq, decide_eq_true_eq, decide_eq_false_iff_not, Option.map_none, Option.bind_some, List.contains_nil, List.contains_cons, Nat.reduceBEq, Bool.or_false, Bool.false_or, Bool.or_self, List.set_cons_zero, List.set_cons_succ, List.take_succ_cons, List.take_zero, List.drop_succ_cons, List.drop_zero, List.length_cons, List.length_nil, List.length_append, Nat.reduceAdd, Nat.reduceLeDiff, List.all_cons, List.all_nil, Bool.and_true, and_true, true_and, and_self, ne_eq, not_false_eq_true, List.cons_append, List.nil_append, List.append_nil, List.append_assoc, Nat.zero_add, Nat.add_zero, Int.toNat_natCast]
    refine loopK_I [1, 2, 3, 4, 5, 21, 22, 26, 27] (fun y : Nat => y ≤ H) (fun y : Nat => ⟨[(1, .ptr 0 0 3), (2, .ptr 1 0 2), (3, I ((W : Int) + (H : Int))), (4, .ptr 4 0 2), (5, I x), (21, I W), (22, I x), (26, I H), (27, I y)], ⟨24, 3, [I W, I H, BA b l]⟩ :: ⟨63, 2, [.cap0 true, .cap0 true]⟩ :: ⟨47, 1, gws 5 (rowsG true W H l x y)⟩ :: ⟨47, 1, gws (5 + n) (rowsG false W H l x y)⟩ :: ⟨63, 2, [.ref 2 0 n n, .ref 3 0 n n]⟩ :: (gos (rowsG true W H l x y) ++ gos (rowsG false W H l x y))⟩) (fun y => H - y) 0 (by omega) (by simp only [↓RP, RG, FX, decide_eq_true, decide_eq_false, Bool.not_true, Bool.not_false, Option.map_some, List.map_cons, List.map_nil, List.getElem?_cons_zero, List.getElem?_cons_succ, ↓reduceIte, Nat.reduceEqDiff, reduceCtorEq, decide_eq_true_eq, decide_eq_false_iff_not, Option.map_none, Option.bind_some, List.contains_nil, List.contains_cons, Nat.reduceBEq, Bool.or_false, Bool.false_or, Bool.or_self, List.set_cons_zero, List.set_cons_succ, List.take_succ_cons, List.take_zero, List.drop_succ_cons, List.drop_zero, List.length_cons, List.length_nil, List.length_append, Nat.reduceAdd, Nat.reduceLeDiff, List.all_cons, List.all_nil, Bool.and_true, and_true, true_and, and_self, ne_eq, not_false_eq_true, List.cons_append, List.nil_append, List.append_nil, List.append_assoc, Nat.zero_add, Nat.add_zero, Int.toNat_natCast]; rfl) ?_
    intro y hy
    by_cases hlt2 : y < H
    · have lB := rowsG_len true W H l x y
      have lA := rowsG_len false W H l x y
      have hil := idx_lt hlt hlt2
      have hid := idx_nat W y x
      have hxw : (y : Int) * (W : Int) = ((W * y : Nat) : Int) := by rw [Int.natCast_mul, Int.mul_comm]
      have hwy : W * y ≤ 64 * 64 := Nat.mul_le_mul (by omega) (by omega)
      have hcst : (W : Int) + (y : Int) = ((W + y : Nat) : Int) := by omega
      have hix : (((W * y : Nat) : Int) + (x : Int)).toNat = W * y + x := by omega
      cases hb : l.getD (W * y + x) false with
      | true =>
        have sB := rowsG_step true l hlt hlt2 true hb
        have sA := rowsG_step false l hlt hlt2 true hb
        rw [if_pos rfl, if_pos rfl, ← rowsG_get (by omega)] at sB
        rw [if_neg (by simp), if_neg (by simp), ← rowsG_get (by omega)] at sA
        have zB : ((rowsG true W H l x y).getD x []).length ≤ 200 := by rw [rowsG_get (by omega)]; have := rowG_le (v := true) (l := l) (a := x) hlt hlt2; omega
        have zA : ((rowsG false W H l x y).getD (W + y) []).length ≤ 200 := by rw [rowsG_get (by omega)]; have := rowG_le (v := false) (l := l) (a := W + y) hlt hlt2; omega
        generalize rowsG true W H l x y = rB at *
        generalize rowsG false W H l x y = rA at *
        generalize hB' : rowsG true W H l x (y + 1) = rB' at *
        generalize hA' : rowsG false W H l x (y + 1) = rA' at *
        have lB' : rB'.length = n := by rw [sB, List.length_set]; omega
        have gB : (gws 5 rB).length = n := by rw [gws_len]; omega
        have gA : (gws (5 + n) rA).length = n := by rw [gws_len]; omega
        have gB' : (gws 5 rB').length = n := by rw [gws_len]; omega
        have a1 := gws_at (k := 5) (show x < rB.length by omega)
        have a2 := gws_at (k := 5 + n) (show W + y < rA.length by omega)
        have d1 : (5 + x == 4) = false := beq_eq_false_iff_ne.2 (by omega)
        have d2 : (5 + n + (W + y) == 4) = false := beq_eq_false_iff_ne.2 (by omega)
        have o1 : (⟨24, 3, [I W, I H, BA b l]⟩ :: ⟨63, 2, [.cap0 true, .cap0 true]⟩ :: ⟨47, 1, gws 5 rB⟩ :: ⟨47, 1, gws (5 + n) rA⟩ :: ⟨63, 2, [.ref 2 0 n n, .ref 3 0 n n]⟩ :: (gos rB ++ gos rA))[5 + x]? = some (go 3 (ints (rB.getD x []))) := h5_atB (by omega)
        have t1 : (⟨24, 3, [I W, I H, BA b l]⟩ :: ⟨63, 2, [.cap0 true, .cap0 true]⟩ :: ⟨47, 1, gws 5 rB⟩ :: ⟨47, 1, gws (5 + n) rA⟩ :: ⟨63, 2, [.ref 2 0 n n, .ref 3 0 n n]⟩ :: (gos rB ++ gos rA)).set (5 + x) (go 3 (ints (rB.getD x [] ++ [((W + y : Nat) : Int)]))) = ⟨24, 3, [I W, I H, BA b l]⟩ :: ⟨63, 2, [.cap0 true, .cap0 true]⟩ :: ⟨47, 1, gws 5 rB⟩ :: ⟨47, 1, gws (5 + n) rA⟩ :: ⟨63, 2, [.ref 2 0 n n, .ref 3 0 n n]⟩ :: (gos rB' ++ gos rA) := by rw [h5_setB (by omega), ← sB]
        have p1 : (gws 5 rB).set x (gw true (5 + x) (ints (rB.getD x [] ++ [((W + y : Nat) : Int)]))) = gws 5 rB' := by rw [gws_set, ← sB]
        have o2 : (⟨24, 3, [I W, I H, BA b l]⟩ :: ⟨63, 2, [.cap0 true, .cap0 true]⟩ :: ⟨47, 1, gws 5 rB'⟩ :: ⟨47, 1, gws (5 + n) rA⟩ :: ⟨63, 2, [.ref 2 0 n n, .ref 3 0 n n]⟩ :: (gos rB' ++ gos rA))[5 + n + (W + y)]? = some (go 3 (ints (rA.getD (W + y) []))) := h5_atA lB' (by omega)
        have t2 : (⟨24, 3, [I W, I H, BA b l]⟩ :: ⟨63, 2, [.cap0 true, .cap0 true]⟩ :: ⟨47, 1, gws 5 rB'⟩ :: ⟨47, 1, gws (5 + n) rA⟩ :: ⟨63, 2, [.ref 2 0 n n, .ref 3 0 n n]⟩ :: (gos rB' ++ gos rA)).set (5 + n + (W + y)) (go 3 (ints (rA.getD (W + y) [] ++ [(x : Int)]))) = ⟨24, 3, [I W, I H, BA b l]⟩ :: ⟨63, 2, [.cap0 true, .cap0 true]⟩ :: ⟨47, 1, gws 5 rB'⟩ :: ⟨47, 1, gws (5 + n) rA⟩ :: ⟨63, 2, [.ref 2 0 n n, .ref 3 0 n n]⟩ :: (gos rB' ++ gos rA') := by rw [h5_setA lB', ← sA]
        have p2 : (gws (5 + n) rA).set (W + y) (gw true (5 + n + (W + y)) (ints (rA.getD (W + y) [] ++ [(x : Int)]))) = gws (5 + n) rA' := by rw [gws_set, ← sA]
        simp (disch := first | assumption | omega | rfl | simp only [hAt_app, hAt_app0, List.getElem?_cons_zero, List.getElem?_cons_succ]) only [↓RP, RG, FX, decide_eq_true, decide_eq_false, Bool.not_true, Bool.not_false, Option.map_some, List.map_cons, List.map_nil, List.getElem?_cons_zero, List.getElem?_cons_succ, ↓reduceIte, Nat.reduceEqDiff, reduceCtorEq, decide_eq_true_eq, decide_eq_false_iff_not, Option.map_none, Option.bind_some, List.contains_nil, List.contains_cons, Nat.reduceBEq, Bool.or_false, Bool.false_or, Bool.or_self, List.set_cons_zero, List.set_cons_succ, List.take_succ_cons, List.take_zero, List.drop_succ_cons, List.drop_zero, List.length_cons, List.length_nil, List.length_append, Nat.reduceAdd, Nat.reduceLeDiff, List.all_cons, List.all_nil, Bool.and_true, and_true, true_and, and_self, ne_eq, not_false_eq_true, List.cons_append, List.nil_append, List.append_nil, List.append_assoc, Nat.zero_add, Nat.add_zero, Int.toNat_natCast, hxw, hcst, hix, hb, cA_any, a1, a2, apZ_gw, sX_gw, d1, d2, append_int, t1, p1, t2, p2]
        exact ⟨y + 1, by omega, by rw [hB', hA']; rfl, by omega⟩
      | false =>
        have sB := rowsG_step true l hlt hlt2 false hb
        have sA := rowsG_step false l hlt hlt2 false hb
        rw [if_neg (by simp), if_neg (by simp), ← rowsG_get (by omega)] at sB
        rw [if_pos rfl, if_pos rfl, ← rowsG_get (by omega)] at sA
        have zB : ((rowsG true W H l x y).getD (W + y) []).length ≤ 200 := by rw [rowsG_get (by omega)]; have := rowG_le (v := true) (l := l) (a := W + y) hlt hlt2; omega
        have zA : ((rowsG false W H l x y).getD x []).length ≤ 200 := by rw [rowsG_get (by omega)]; have := rowG_le (v := false) (l := l) (a := x) hlt hlt2; omega
        generalize rowsG true W H l x y = rB at *
        generalize rowsG false W H l x y = rA at *
        generalize hB' : rowsG true W H l x (y + 1) = rB' at *
        generalize hA' : rowsG false W H l x (y + 1) = rA' at *
        have lB' : rB'.length = n := by rw [sB, List.length_set]; omega
        have gB : (gws 5 rB).length = n := by rw [gws_len]; omega
        have gA : (gws (5 + n) rA).length = n := by rw [gws_len]; omega
        have gB' : (gws 5 rB').length = n := by rw [gws_len]; omega
        have a1 := gws_at (k := 5) (show W + y < rB.length by omega)
        have a2 := gws_at (k := 5 + n) (show x < rA.length by omega)
        have d1 : (5 + (W + y) == 4) = false := beq_eq_false_iff_ne.2 (by omega)
        have d2 : (5 + n + x == 4) = false := beq_eq_false_iff_ne.2 (by omega)
        have o1 : (⟨24, 3, [I W, I H, BA b l]⟩ :: ⟨63, 2, [.cap0 true, .cap0 true]⟩ :: ⟨47, 1, gws 5 rB⟩ :: ⟨47, 1, gws (5 + n) rA⟩ :: ⟨63, 2, [.ref 2 0 n n, .ref 3 0 n n]⟩ :: (gos rB ++ gos rA))[5 + (W + y)]? = some (go 3 (ints (rB.getD (W + y) []))) := h5_atB (by omega)
        have t1 : (⟨24, 3, [I W, I H, BA b l]⟩ :: ⟨63, 2, [.cap0 true, .cap0 true]⟩ :: ⟨47, 1, gws 5 rB⟩ :: ⟨47, 1, gws (5 + n) rA⟩ :: ⟨63, 2, [.ref 2 0 n n, .ref 3 0 n n]⟩ :: (gos rB ++ gos rA)).set (5 + (W + y)) (go 3 (ints (rB.getD (W + y) [] ++ [(x : Int)]))) = ⟨24, 3, [I W, I H, BA b l]⟩ :: ⟨63, 2, [.cap0 true, .cap0 true]⟩ :: ⟨47, 1, gws 5 rB⟩ :: ⟨47, 1, gws (5 + n) rA⟩ :: ⟨63, 2, [.ref 2 0 n n, .ref 3 0 n n]⟩ :: (gos rB' ++ gos rA) := by rw [h5_setB (by omega), ← sB]
        have p1 : (gws 5 rB).set (W + y) (gw true (5 + (W + y)) (ints (rB.getD (W + y) [] ++ [(x : Int)]))) = gws 5 rB' := by rw [gws_set, ← sB]
        have o2 : (⟨24, 3, [I W, I H, BA b l]⟩ :: ⟨63, 2, [.cap0 true, .cap0 true]⟩ :: ⟨47, 1, gws 5 rB'⟩ :: ⟨47, 1, gws (5 + n) rA⟩ :: ⟨63, 2, [.ref 2 0 n n, .ref 3 0 n n]⟩ :: (gos rB' ++ gos rA))[5 + n + x]? = some (go 3 (ints (rA.getD x []))) := h5_atA lB' (by omega)
        have t2 : (⟨24, 3, [I W, I H, BA b l]⟩ :: ⟨63, 2, [.cap0 true, .cap0 true]⟩ :: ⟨47, 1, gws 5 rB'⟩ :: ⟨47, 1, gws (5 + n) rA⟩ :: ⟨63, 2, [.ref 2 0 n n, .ref 3 0 n n]⟩ :: (gos rB' ++ gos rA)).set (5 + n + x) (go 3 (ints (rA.getD x [] ++ [((W + y : Nat) : Int)]))) = ⟨24, 3, [I W, I H, BA b l]⟩ :: ⟨63, 2, [.cap0 true, .cap0 true]⟩ :: ⟨47, 1, gws 5 rB'⟩ :: ⟨47, 1, gws (5 + n) rA⟩ :: ⟨63, 2, [.ref 2 0 n n, .ref 3 0 n n]⟩ :: (gos rB' ++ gos rA') := by rw [h5_setA lB', ← sA]
        have p2 : (gws (5 + n) rA).set x (gw true (5 + n + x) (ints (rA.getD x [] ++ [((W + y : Nat) : Int)]))) = gws (5 + n) rA' := by rw [gws_set, ← sA]
        simp (disch := first | assumption | omega | rfl | simp only [hAt_app, hAt_app0, List.getElem?_cons_zero, List.getElem?_cons_succ]) only [↓RP, RG, FX, decide_eq_true, decide_eq_false, Bool.not_true, Bool.not_false, Option.map_some, List.map_cons, List.map_nil, List.getElem?_cons_zero, List.getElem?_cons_succ, ↓reduceIte, Nat.reduceEqDiff, reduceCtorEq, decide_eq_true_eq, decide_eq_false_iff_not, Option.map_none, Option.bind_some, List.contains_nil, List.contains_cons, Nat.reduceBEq, Bool.or_false, Bool.false_or, Bool.or_self, List.set_cons_zero, List.set_cons_succ, List.take_succ_cons, List.take_zero, List.drop_succ_cons, List.drop_zero, List.length_cons, List.length_nil, List.length_append, Nat.reduceAdd, Nat.reduceLeDiff, List.all_cons, List.all_nil, Bool.and_true, and_true, true_and, and_self, ne_eq, not_false_eq_true, List.cons_append, List.nil_append, List.append_nil, List.append_assoc, Nat.zero_add, Nat.add_zero, Int.toNat_natCast, hxw, hcst, hix, hb, cA_any, a1, a2, apZ_gw, sX_gw, d1, d2, append_int, t1, p1, t2, p2]
        exact ⟨y + 1, by omega, by rw [hB', hA']; rfl, by omega⟩
    · obtain rfl : y = H := by omega
      simp (disch := first | assumption | omega | rfl | simp only [hAt_app, hAt_app0, List.getElem?_cons_zero, List.getElem?_cons_succ]) only [↓RP, RG, FX, decide_eq_true, decide_eq_false, Bool.not_true, Bool.not_false, Option.map_some, List.map_cons, List.map_nil, List.getElem?_cons_zero, List.getElem?_cons_succ, ↓reduceIte, Nat.reduceEqDiff, reduceCtorEq, decide_eq_true_eq, decide_eq_false_iff_not, Option.map_none, Option.bind_some, List.contains_nil, List.contains_cons, Nat.reduceBEq, Bool.or_false, Bool.false_or, Bool.or_self, List.set_cons_zero, List.set_cons_succ, List.take_succ_cons, List.take_zero, List.drop_succ_cons, List.drop_zero, List.length_cons, List.length_nil, List.length_append, Nat.reduceAdd, Nat.reduceLeDiff, List.all_cons, List.all_nil, Bool.and_true, and_true, true_and, and_self, ne_eq, not_false_eq_true, List.cons_append, List.nil_append, List.append_nil, List.append_assoc, Nat.zero_add, Nat.add_zero, Int.toNat_natCast]
      exact ⟨x + 1, by omega, by rw [rowsG_row, rowsG_row]; rfl, by omega⟩
  · obtain rfl : x = W := by omega
    simp (disch := first | assumption | omega | rfl | simp only [hAt_app, hAt_app0, List.getElem?_cons_zero, List.getElem?_cons_succ]) only [↓RP, RG, FX, decide_eq_true, decide_eq_false, Bool.not_true, Bool.not_false, Option.map_some, List.map_cons, List.map_nil, List.getElem?_cons_zero, List.getElem?_cons_succ, ↓reduceIte, Nat.reduceEqDiff, reduceCtorEq, decide_eq_true_eq, decide_eq_false_iff_not, Option.map_none, Option.bind_some, List.contains_nil, List.contains_cons, Nat.reduceBEq, Bool.or_false, Bool.false_or, Bool.or_self, List.set_cons_zero, List.set_cons_succ, List.take_succ_cons, List.take_zero, List.drop_succ_cons, List.drop_zero, List.length_cons, List.length_nil, List.length_append, Nat.reduceAdd, Nat.reduceLeDiff, List.all_cons, List.all_nil, Bool.and_true, and_true, true_and, and_self, ne_eq, not_false_eq_true, List.cons_append, List.nil_append, List.append_nil, List.append_assoc, Nat.zero_add, Nat.add_zero, Int.toNat_natCast]
    have lB := rowsG_len true x H l x 0
    have lA := rowsG_len false x H l x 0
    have sS : ∀ a, a < n → ((rowsG true x H l x 0).getD a []).Pairwise (· < ·) ∧ ((rowsG true x H l x 0).getD a []).length ≤ 200 := fun a ha => by
      rw [rowsG_get (by omega)]; exact ⟨rowG_inc _ _ _ _ _ _ _, rowG_end (by omega) (by omega)⟩
    generalize rowsG true x H l x 0 = rB at *
    generalize rowsG false x H l x 0 = rA at *
    have gB : (gws 5 rB).length = n := by rw [gws_len]; omega
    have gA : (gws (5 + n) rA).length = n := by rw [gws_len]; omega
    refine loopK_I [1, 2, 4, 74, 75] (fun a : Nat => a ≤ n) (fun a : Nat => ⟨[(1, .ptr 0 0 3), (2, .ptr 1 0 2), (4, .ptr 4 0 2), (74, I ((x : Int) + (H : Int))), (75, I a)], ⟨24, 3, [I x, I H, BA b l]⟩ :: ⟨63, 2, [.cap0 true, .cap0 true]⟩ :: ⟨47, 1, gws 5 rB⟩ :: ⟨47, 1, gws (5 + n) rA⟩ :: ⟨63, 2, [.ref 2 0 n n, .ref 3 0 n n]⟩ :: (gos rB ++ gos rA)⟩) (fun a => n - a) 0 (by omega) (by simp only [↓RP, RG, FX, decide_eq_true, decide_eq_false, Bool.not_true, Bool.not_false, Option.map_some, List.map_cons, List.map_nil, List.getElem?_cons_zero, List.getElem?_cons_succ, ↓reduceIte, Nat.reduceEqDiff, reduceCtorEq, decide_eq_true_eq, decide_eq_false_iff_not, Option.map_none, Option.bind_some, List.contains_nil, List.contains_cons, Nat.reduceBEq, Bool.or_false, Bool.false_or, Bool.or_self, List.set_cons_zero, List.set_cons_succ, List.take_succ_cons, List.take_zero, List.drop_succ_cons, List.drop_zero, List.length_cons, List.length_nil, List.length_append, Nat.reduceAdd, Nat.reduceLeDiff, List.all_cons, List.all_nil, Bool.and_true, and_true, true_and, and_self, ne_eq, not_false_eq_true, List.cons_append, List.nil_append, List.append_nil, List.append_assoc, Nat.zero_add, Nat.add_zero, Int.toNat_natCast]; rfl) ?_
    intro a ha
    by_cases hlt3 : a < n
    · have a1 := gws_at (k := 5) (show a < rB.length by omega)
      obtain ⟨s1, s2⟩ := sS a hlt3
      have o1 : (⟨24, 3, [I x, I H, BA b l]⟩ :: ⟨63, 2, [.cap0 true, .cap0 true]⟩ :: ⟨47, 1, gws 5 rB⟩ :: ⟨47, 1, gws (5 + n) rA⟩ :: ⟨63, 2, [.ref 2 0 n n, .ref 3 0 n n]⟩ :: (gos rB ++ gos rA))[5 + a]? = some (go 3 (ints (rB.getD a []))) := h5_atB (by omega)
      simp (disch := first | assumption | omega | rfl | simp only [hAt_app, hAt_app0, List.getElem?_cons_zero, List.getElem?_cons_succ]) only [↓RP, RG, FX, decide_eq_true, decide_eq_false, Bool.not_true, Bool.not_false, Option.map_some, List.map_cons, List.map_nil, List.getElem?_cons_zero, List.getElem?_cons_succ, ↓reduceIte, Nat.reduceEqDiff, reduceCtorEq, decide_eq_true_eq, decide_eq_false_iff_not, Option.map_none, Option.bind_some, List.contains_nil, List.contains_cons, Nat.reduceBEq, Bool.or_false, Bool.false_or, Bool.or_self, List.set_cons_zero, List.set_cons_succ, List.take_succ_cons, List.take_zero, List.drop_succ_cons, List.drop_zero, List.length_cons, List.length_nil, List.length_append, Nat.reduceAdd, Nat.reduceLeDiff, List.all_cons, List.all_nil, Bool.and_true, and_true, true_and, and_self, ne_eq, not_false_eq_true, List.cons_append, List.nil_append, List.append_nil, List.append_assoc, Nat.zero_add, Nat.add_zero, Int.toNat_natCast, cA_any, a1]
      generalize rB.getD a [] = ra at *
      cases ra with
      | nil =>
        refine callK_F 6 sort_nil (by rfl) (.inl (by simp [allFresh])) ?_
        simp (disch := first | assumption | omega | rfl | simp only [hAt_app, hAt_app0, List.getElem?_cons_zero, List.getElem?_cons_succ]) only [↓RP, RG, FX, decide_eq_true, decide_eq_false, Bool.not_true, Bool.not_false, Option.map_some, List.map_cons, List.map_nil, List.getElem?_cons_zero, List.getElem?_cons_succ, ↓reduceIte, Nat.reduceEqDiff, reduceCtorEq, decide_eq_true_eq, decide_eq_false_iff_not, Option.map_none, Option.bind_some, List.contains_nil, List.contains_cons, Nat.reduceBEq, Bool.or_false, Bool.false_or, Bool.or_self, List.set_cons_zero, List.set_cons_succ, List.take_succ_cons, List.take_zero, List.drop_succ_cons, List.drop_zero, List.length_cons, List.length_nil, List.length_append, Nat.reduceAdd, Nat.reduceLeDiff, List.all_cons, List.all_nil, Bool.and_true, and_true, true_and, and_self, ne_eq, not_false_eq_true, List.cons_append, List.nil_append, List.append_nil, List.append_assoc, Nat.zero_add, Nat.add_zero, Int.toNat_natCast]
        exact ⟨a + 1, by omega, rfl, by omega⟩
      | cons v t =>
        have hp : 0 < (ints (v :: t)).length := by simp [ints]
        rw [gw_pos hp, ints_length]
        rw [go_pos hp] at o1
        refine callK_T rfl (sort_spec (ρ := Tryz.lays189_ren) Tryz.lays189 (by kernel_rfl) (id := 5 + a) o1 (by decide) (n := (v :: t).length) rfl (by omega)) ?_
        rw [srt_inc s1, set_self o1]
        simp (disch := first | assumption | omega | rfl | simp only [hAt_app, hAt_app0, List.getElem?_cons_zero, List.getElem?_cons_succ]) only [↓RP, RG, FX, decide_eq_true, decide_eq_false, Bool.not_true, Bool.not_false, Option.map_some, List.map_cons, List.map_nil, List.getElem?_cons_zero, List.getElem?_cons_succ, ↓reduceIte, Nat.reduceEqDiff, reduceCtorEq, decide_eq_true_eq, decide_eq_false_iff_not, Option.map_none, Option.bind_some, List.contains_nil, List.contains_cons, Nat.reduceBEq, Bool.or_false, Bool.false_or, Bool.or_self, List.set_cons_zero, List.set_cons_succ, List.take_succ_cons, List.take_zero, List.drop_succ_cons, List.drop_zero, List.length_cons, List.length_nil, List.length_append, Nat.reduceAdd, Nat.reduceLeDiff, List.all_cons, List.all_nil, Bool.and_true, and_true, true_and, and_self, ne_eq, not_false_eq_true, List.cons_append, List.nil_append, List.append_nil, List.append_assoc, Nat.zero_add, Nat.add_zero, Int.toNat_natCast]
        exact ⟨a + 1, by omega, rfl, by omega⟩
    · obtain rfl : a = n := by omega
      simp (disch := first | assumption | omega | rfl | simp only [hAt_app, hAt_app0, List.getElem?_cons_zero, List.getElem?_cons_succ]) only [↓RP, RG, FX, decide_eq_true, decide_eq_false, Bool.not_true, Bool.not_false, Option.map_some, List.map_cons, List.map_nil, List.getElem?_cons_zero, List.getElem?_cons_succ, ↓reduceIte, Nat.reduceEqDiff, reduceCtorEq, decide_eq_true_eq, decide_eq_false_iff_not, Option.map_none, Option.bind_some, List.contains_nil, List.contains_cons, Nat.reduceBEq, Bool.or_false, Bool.false_or, Bool.or_self, List.set_cons_zero, List.set_cons_succ, List.take_succ_cons, List.take_zero, List.drop_succ_cons, List.drop_zero, List.length_cons, List.length_nil, List.length_append, Nat.reduceAdd, Nat.reduceLeDiff, List.all_cons, List.all_nil, Bool.and_true, and_true, true_and, and_self, ne_eq, not_false_eq_true, List.cons_append, List.nil_append, List.append_nil, List.append_assoc, Nat.zero_add, Nat.add_zero, Int.toNat_natCast, cA_any]
      have f1 := gws_res (h := (⟨24, 3, [I x, I H, BA b l]⟩ :: ⟨63, 2, [.ref 2 0 a a, .ref 3 0 a a]⟩ :: ⟨47, 1, gws 5 rB⟩ :: ⟨47, 1, gws (5 + a) rA⟩ :: ⟨63, 2, [.ref 2 0 a a, .ref 3 0 a a]⟩ :: (gos rB ++ gos rA))) (k := 5) (rs := rB) 2 (fun i hi => h5_atB hi)
      have f2 := gws_res (h := (⟨24, 3, [I x, I H, BA b l]⟩ :: ⟨63, 2, [.ref 2 0 a a, .ref 3 0 a a]⟩ :: ⟨47, 1, gws 5 rB⟩ :: ⟨47, 1, gws (5 + a) rA⟩ :: ⟨63, 2, [.ref 2 0 a a, .ref 3 0 a a]⟩ :: (gos rB ++ gos rA))) (k := 5 + a) (rs := rA) 2 (fun i hi => h5_atA (by omega) hi)
      rw [resVal_1 rfl]; simp (disch := first | assumption | omega | rfl | simp only [hAt_app, hAt_app0, List.getElem?_cons_zero, List.getElem?_cons_succ]) only [↓RP, RG, FX, decide_eq_true, decide_eq_false, Bool.not_true, Bool.not_false, Option.map_some, List.map_cons, List.map_nil, List.getElem?_cons_zero, List.getElem?_cons_succ, ↓reduceIte, Nat.reduceEqDiff, reduceCtorEq, decide_eq_true_eq, decide_eq_false_iff_not, Option.map_none, Option.bind_some, List.contains_nil, List.contains_cons, Nat.reduceBEq, Bool.or_false, Bool.false_or, Bool.or_self, List.set_cons_zero, List.set_cons_succ, List.take_succ_cons, List.take_zero, List.drop_succ_cons, List.drop_zero, List.length_cons, List.length_nil, List.length_append, Nat.reduceAdd, Nat.reduceLeDiff, List.all_cons, List.all_nil, Bool.and_true, and_true, true_and, and_self, ne_eq, not_false_eq_true, List.cons_append, List.nil_append, List.append_nil, List.append_assoc, Nat.zero_add, Nat.add_zero, Int.toNat_natCast, RS]
      rw [rX_any gB, rX_any gA, f1, f2]
end Go.Proofs.YtkcicgadggiklaaGreatDoor

/- Which threads lie over which: by one relation. -/
set_option linter.unusedSimpArgs false
set_option linter.unusedVariables false
set_option maxRecDepth 100000
namespace Go.Proofs.YtkcicgadggiklaaGreatDoor
open Go Go.Proofs Go.AW

/-- Thread a lies over thread b. -/
def ov (W : Nat) (l : List Bool) (a b : Nat) : Bool :=
  if a < W then (if b < W then false else l.getD (W * (b - W) + a) false) else (if b < W then !l.getD (W * (a - W) + b) false else false)
/-- The numbers below n that are wanted. -/
def sel (n : Nat) (p : Nat → Bool) : List Int := ((List.range n).filter p).map fun i : Nat => (i : Int)
theorem sel_split (W H : Nat) (p : Nat → Bool) : sel (W + H) p = sel W p ++ ((List.range H).filter fun j => p (W + j)).map fun j => ((W + j : Nat) : Int) := by
  unfold sel
  rw [List.range_add, List.filter_append, List.map_append, List.filter_map, List.map_map]
  rfl
theorem sel_none {n : Nat} {p : Nat → Bool} (h : ∀ i, i < n → p i = false) : sel n p = [] := by
  unfold sel
  rw [List.filter_eq_nil_iff.2 (fun i hi => by rw [h i (by simpa using hi)]; simp)]
  rfl
theorem rowG_sel {v : Bool} {W H : Nat} {l : List Bool} {a : Nat} (ha : a < W + H) : rowG v W H l W 0 a = sel (W + H) fun b => if v then ov W l a b else ov W l b a := by
  rw [sel_split]
  unfold rowG
  by_cases h : a < W
  · rw [if_pos h, if_pos h, sel_none, List.nil_append]
    · congr 1
      apply List.filter_congr
      intro j hj
      have h1 : ¬ W + j < W := by omega
      have h2 : W + j - W = j := by omega
      cases v
      · simp [ov, h, h1, h2]
      · simp [ov, h, h1, h2]
    · intro i hi
      cases v <;> simp [ov, h, hi]
  · rw [if_neg h, if_neg (by omega)]
    have e2 : ((List.range H).filter fun j => if v = true then ov W l a (W + j) else ov W l (W + j) a) = [] := by
      rw [List.filter_eq_nil_iff]
      intro j hj
      have h1 : ¬ W + j < W := by omega
      cases v <;> simp [ov, h, h1]
    rw [e2, List.map_nil, List.append_nil]
    unfold sel
    congr 1
    apply List.filter_congr
    intro i hi
    have hi : i < W := by simpa using hi
    cases v
    · simp [ov, h, hi]
    · simp [ov, h, hi]
/-- Those that a thread lies over, for each thread; those that lie over it. -/
def bel (W n : Nat) (l : List Bool) : List (List Int) := (List.range n).map fun a => sel n fun b => ov W l a b
def abv (W n : Nat) (l : List Bool) : List (List Int) := (List.range n).map fun a => sel n fun b => ov W l b a
theorem rowsG_bel {W H n : Nat} (hN : W + H = n) (l : List Bool) : rowsG true W H l W 0 = bel W n l ∧ rowsG false W H l W 0 = abv W n l := by
  subst hN
  constructor
  · unfold rowsG bel
    apply List.map_congr_left
    intro a ha
    rw [rowG_sel (by simpa using ha)]; rfl
  · unfold rowsG abv
    apply List.map_congr_left
    intro a ha
    rw [rowG_sel (by simpa using ha)]; rfl
theorem order_c {W H n : Nat} (hN : W + H = n) (hW0 : 0 < W) (hH0 : 0 < H) (hW : W ≤ 64) (hH : H ≤ 64) (b : Bool) {l : List Bool} (hn : l.length = W * H) :
    Contract Tryz.prog 34 [GA W H b l] (.agg [.list true false n (LL (bel W n l)), .list true false n (LL (abv W n l))]) := by
  obtain ⟨h1, h2⟩ := rowsG_bel hN l
  have := newOrder_c hN hW0 hH0 hW hH b hn
  rwa [h1, h2] at this
theorem abv_get {W n : Nat} {l : List Bool} {a : Nat} (ha : a < n) : (abv W n l).getD a [] = sel n fun b => ov W l b a := by
  simp [abv, List.getD_eq_getElem?_getD, List.getElem?_range ha]
end Go.Proofs.YtkcicgadggiklaaGreatDoor

/- Does a thread lie over another one? -/
set_option linter.unusedSimpArgs false
set_option linter.unusedVariables false
set_option maxRecDepth 100000
namespace Go.Proofs.YtkcicgadggiklaaGreatDoor
open Go Go.Proofs Go.AW

end Go.Proofs.YtkcicgadggiklaaGreatDoor

/- Lists: the place of an element. -/
set_option linter.unusedSimpArgs false
set_option linter.unusedVariables false
set_option maxRecDepth 100000
namespace Go.Proofs.YtkcicgadggiklaaGreatDoor
open Go Go.Proofs Go.AW

end Go.Proofs.YtkcicgadggiklaaGreatDoor

/- Lists: do they have each number just once? -/
set_option linter.unusedSimpArgs false
set_option linter.unusedVariables false
set_option maxRecDepth 100000
namespace Go.Proofs.YtkcicgadggiklaaGreatDoor
open Go Go.Proofs Go.AW

/-- It is among the elements. -/
def has (l : List Int) (x : Int) : Prop := ∃ i, i < l.length ∧ l.getD i 0 = x
instance (l : List Int) (x : Int) : Decidable (has l x) := by unfold has; infer_instance
end Go.Proofs.YtkcicgadggiklaaGreatDoor

/- Does a thread lie over another one: both programs. -/
set_option linter.unusedSimpArgs false
set_option linter.unusedVariables false
set_option maxRecDepth 100000
namespace Go.Proofs.YtkcicgadggiklaaGreatDoor
open Go Go.Proofs Go.AW

end Go.Proofs.YtkcicgadggiklaaGreatDoor

/- A search, step by step. -/
set_option linter.unusedSimpArgs false
set_option linter.unusedVariables false
set_option maxRecDepth 100000
namespace Go.Proofs.YtkcicgadggiklaaGreatDoor
open Go Go.Proofs Go.AW

/-- The threads next to c, one after the other, are reached from it, if they are not yet. -/
def inner (c : Nat) : List Nat → List Int × List Nat → List Int × List Nat
  | [], s => s
  | b :: r, s => if s.1.getD b 0 < 0 then inner c r (s.1.set b (s.1.getD c 0 + 1), s.2 ++ [b]) else inner c r s
/-- The queue is emptied. -/
def bfs (adj : Nat → List Nat) : Nat → List Int → List Nat → List Int
  | 0, far, _ => far
  | _ + 1, far, [] => far
  | k + 1, far, c :: q => bfs adj k (inner c (adj c) (far, q)).1 (inner c (adj c) (far, q)).2
def neg (far : List Int) : Nat := far.countP fun x => decide (x < 0)
/-- What holds all along. -/
structure Sound (n : Nat) (far : List Int) (q : List Nat) : Prop where
  len : far.length = n
  mem : ∀ c ∈ q, c < n
  low : ∀ i, i < n → -1 ≤ far.getD i 0
  high : ∀ i, i < n → far.getD i 0 + neg far ≤ n
theorem neg_set {far : List Int} {b : Nat} {v : Int} (hb : b < far.length) (h : far.getD b 0 < 0) (hv : 0 ≤ v) : neg (far.set b v) + 1 = neg far := by
  induction far generalizing b with
  | nil => simp at hb
  | cons x r ih =>
    cases b with
    | zero =>
      simp only [List.getD_cons_zero] at h
      simp only [neg, List.set_cons_zero, List.countP_cons]
      simp [h, Int.not_lt.2 hv]
    | succ b =>
      have := ih (b := b) (by simpa using hb) (by simpa using h)
      simp only [neg, List.set_cons_succ, List.countP_cons] at this ⊢
      omega
theorem getD_set' {far : List Int} {b i : Nat} {v : Int} (hb : b < far.length) : (far.set b v).getD i 0 = if i = b then v else far.getD i 0 := by
  simp only [List.getD_eq_getElem?_getD, List.getElem?_set]
  by_cases h : b = i
  · subst h; simp [hb]
  · simp [h, Ne.symm h]
theorem Sound.push {n : Nat} {far : List Int} {q : List Nat} (h : Sound n far q) {b c : Nat} (hb : b < n) (hc : c < n) (hn : far.getD b 0 < 0) : Sound n (far.set b (far.getD c 0 + 1)) (q ++ [b]) ∧ neg (far.set b (far.getD c 0 + 1)) + 1 = neg far := by
  have hbl : b < far.length := by rw [h.len]; exact hb
  have h1 := h.low c hc
  have h2 := h.high c hc
  have h3 := neg_set hbl hn (show 0 ≤ far.getD c 0 + 1 by omega)
  refine ⟨⟨by rw [List.length_set]; exact h.len, fun x hx => ?_, fun i hi => ?_, fun i hi => ?_⟩, h3⟩
  · rcases List.mem_append.1 hx with g | g
    · exact h.mem x g
    · simp at g; omega
  · rw [getD_set' hbl]
    have := h.low i hi
    split <;> omega
  · rw [getD_set' hbl]
    have := h.high i hi
    split <;> omega
theorem Sound.tail {n : Nat} {far : List Int} {c : Nat} {q : List Nat} (h : Sound n far (c :: q)) : Sound n far q := ⟨h.len, fun x hx => h.mem x (List.mem_cons_of_mem _ hx), h.low, h.high⟩
theorem inner_ok {n : Nat} {c : Nat} (hc : c < n) : ∀ (adj : List Nat) (far : List Int) (q : List Nat), (∀ b ∈ adj, b < n) → Sound n far q → Sound n (inner c adj (far, q)).1 (inner c adj (far, q)).2 ∧ 2 * neg (inner c adj (far, q)).1 + (inner c adj (far, q)).2.length ≤ 2 * neg far + q.length
  | [], far, q, _, h => ⟨h, Nat.le_refl _⟩
  | b :: r, far, q, ha, h => by
    have ha' : ∀ x ∈ r, x < n := fun x hx => ha x (List.mem_cons_of_mem _ hx)
    simp only [inner]
    split
    · rename_i hneg
      obtain ⟨h1, h2⟩ := h.push (ha b List.mem_cons_self) hc hneg
      obtain ⟨h3, h4⟩ := inner_ok hc r _ _ ha' h1
      refine ⟨h3, ?_⟩
      simp only [List.length_append, List.length_singleton] at h4
      omega
    · exact inner_ok hc r far q ha' h
theorem bfs_nil (adj : Nat → List Nat) (k : Nat) (far : List Int) : bfs adj k far [] = far := by cases k <;> rfl
/-- More fuel than wanted changes nothing. -/
theorem bfs_more {n : Nat} {adj : Nat → List Nat} (ha : ∀ c, c < n → ∀ b ∈ adj c, b < n) : ∀ (k m : Nat) (far : List Int) (q : List Nat), Sound n far q → 2 * neg far + q.length ≤ k → k ≤ m → bfs adj m far q = bfs adj k far q := by
  intro k
  induction k with
  | zero =>
    intro m far q h hk hm
    have : q = [] := List.eq_nil_of_length_eq_zero (by omega)
    subst this
    rw [bfs_nil, bfs_nil]
  | succ k ih =>
    intro m far q h hk hm
    cases q with
    | nil => rw [bfs_nil, bfs_nil]
    | cons c q =>
      obtain ⟨m, rfl⟩ : ∃ m', m = m' + 1 := ⟨m - 1, by omega⟩
      have hc := h.mem c List.mem_cons_self
      obtain ⟨h1, h2⟩ := inner_ok hc (adj c) far q (ha c hc) h.tail
      simp only [List.length_cons] at hk
      simp only [bfs]
      exact ih m _ _ h1 (by omega) (by omega)
/-- All are far, but one. -/
def far0 (n a : Nat) : List Int := (List.replicate n (-1)).set a 0
theorem far0_sound {n a : Nat} (ha : a < n) : Sound n (far0 n a) [a] ∧ neg (far0 n a) + 1 = n := by
  have h0 : neg (List.replicate n (-1)) = n := by simp [neg, List.countP_replicate]
  have h1 : (List.replicate n (-1 : Int)).getD a 0 = -1 := by simp [List.getD_eq_getElem?_getD, List.getElem?_replicate, ha]
  have h2 := neg_set (far := List.replicate n (-1)) (b := a) (v := 0) (by simpa using ha) (by rw [h1]; omega) (by omega)
  rw [h0] at h2
  refine ⟨⟨by simp [far0], fun c hc => by simp at hc; omega, fun i hi => ?_, fun i hi => ?_⟩, h2⟩
  · unfold far0
    rw [getD_set' (by simpa using ha)]
    split
    · omega
    · simp [List.getD_eq_getElem?_getD, List.getElem?_replicate, hi]
  · have h2' : neg (far0 n a) + 1 = n := h2
    unfold far0 at h2' ⊢
    rw [getD_set' (by simpa using ha)]
    split
    · omega
    · have : (List.replicate n (-1 : Int)).getD i 0 = -1 := by simp [List.getD_eq_getElem?_getD, List.getElem?_replicate, hi]
      omega
end Go.Proofs.YtkcicgadggiklaaGreatDoor

/- Kinds: numbered by first occurrence. Plain. -/
set_option linter.unusedSimpArgs false
set_option linter.unusedVariables false
namespace Go.Proofs.YtkcicgadggiklaaGreatDoor

section
variable {α : Type} [DecidableEq α] {β : Type} [DecidableEq β]

end
end Go.Proofs.YtkcicgadggiklaaGreatDoor

/- The kinds of rows. -/
set_option linter.unusedSimpArgs false
set_option linter.unusedVariables false
set_option maxRecDepth 100000
namespace Go.Proofs.YtkcicgadggiklaaGreatDoor
open Go Go.Proofs Go.AW

end Go.Proofs.YtkcicgadggiklaaGreatDoor

/- The kinds of rows, by the reference. -/
set_option linter.unusedSimpArgs false
set_option linter.unusedVariables false
set_option maxRecDepth 100000
namespace Go.Proofs.YtkcicgadggiklaaGreatDoor
open Go Go.Proofs Go.AW

def nI (l : List Nat) : List Int := l.map fun n : Nat => (n : Int)
theorem nI_len (l : List Nat) : (nI l).length = l.length := by simp [nI]
theorem nI_app (l : List Nat) (n : Nat) : nI (l ++ [n]) = nI l ++ [(n : Int)] := by simp [nI]
theorem nI_get (l : List Nat) (k : Nat) : (nI l).getD k 0 = ((l.getD k 0 : Nat) : Int) := by
  simp only [nI, List.getD_eq_getElem?_getD, List.getElem?_map]
  cases l[k]? <;> rfl
end Go.Proofs.YtkcicgadggiklaaGreatDoor

/- The search, by the reference. -/
set_option linter.unusedSimpArgs false
set_option linter.unusedVariables false
set_option maxRecDepth 100000
namespace Go.Proofs.YtkcicgadggiklaaGreatDoor
open Go Go.Proofs Go.AW

def srch (adj : Nat → List Nat) (far : List Int) (q : List Nat) : List Int := bfs adj (2 * neg far + q.length) far q
theorem srch_nil (adj : Nat → List Nat) (far : List Int) : srch adj far [] = far := bfs_nil _ _ _
theorem srch_step {n : Nat} {adj : Nat → List Nat} (ha : ∀ c, c < n → ∀ b ∈ adj c, b < n) {far : List Int} {c : Nat} {q : List Nat} (h : Sound n far (c :: q)) : srch adj far (c :: q) = srch adj (inner c (adj c) (far, q)).1 (inner c (adj c) (far, q)).2 := by
  have hc := h.mem c List.mem_cons_self
  obtain ⟨h1, h2⟩ := inner_ok hc (adj c) far q (ha c hc) h.tail
  unfold srch
  rw [show 2 * neg far + (c :: q).length = (2 * neg far + q.length) + 1 by simp only [List.length_cons]; omega]
  show bfs adj _ _ _ = _
  exact bfs_more ha _ _ _ _ h1 (Nat.le_refl _) h2
def adjT (W n : Nat) (l : List Bool) (c : Nat) : List Nat := (List.range n).filter fun b => ov W l b c
theorem adjT_lt {W n : Nat} {l : List Bool} {c b : Nat} (h : b ∈ adjT W n l c) : b < n := by
  simp only [adjT, List.mem_filter, List.mem_range] at h; exact h.1

end Go.Proofs.YtkcicgadggiklaaGreatDoor

/- A product of small numbers, by the run of closed code. -/
set_option linter.unusedSimpArgs false
set_option linter.unusedVariables false
set_option maxRecDepth 100000
namespace Go.Proofs.YtkcicgadggiklaaGreatDoor
open Go Go.Proofs Go.AW

noncomputable def mulOk (n : Nat) : Bool := match xCall Tryz.prog xT 100 80 [.val (.int .u64 1), .val (.int .u64 n)] with
  | some (.tuple [.val (.int .u64 a), .val (.int .u64 b)]) => a == 0 && b == (n : Int)
  | _ => false
theorem mul_all : (List.range 65).all mulOk = true := by kernel_rfl
theorem mul_c {n : Nat} (hn : n ≤ 64) : Contract Tryz.prog 80 [.val (.int .u64 1), .val (.int .u64 n)] (.tuple [.val (.int .u64 0), .val (.int .u64 n)]) := by
  have h := List.all_eq_true.1 mul_all n (by simp; omega)
  unfold mulOk at h
  split at h
  · rename_i a b hx
    simp only [Bool.and_eq_true, beq_iff_eq] at h
    obtain ⟨rfl, rfl⟩ := h
    exact Contract.run xGood 100 hx
  · cases h
end Go.Proofs.YtkcicgadggiklaaGreatDoor

/- A number, repeated; the inverse of a numbering. -/
set_option linter.unusedSimpArgs false
set_option linter.unusedVariables false
set_option maxRecDepth 100000
namespace Go.Proofs.YtkcicgadggiklaaGreatDoor
open Go Go.Proofs Go.AW

/-- k times -1, and 0 behind. -/
def rep (n k : Nat) : List Int := List.replicate k (-1) ++ List.replicate (n - k) 0
theorem rep_len {n k : Nat} (hk : k ≤ n) : (rep n k).length = n := by simp [rep]; omega
theorem rep_more {n k : Nat} (hk : 0 < k) (hn : k < n) : over (rep n k) k ((rep n k).take (Nat.min k (n - k))) = rep n (k + Nat.min k (n - k)) := by
  have hm : Nat.min k (n - k) ≤ k := Nat.min_le_left _ _
  have hm2 : Nat.min k (n - k) ≤ n - k := Nat.min_le_right _ _
  generalize Nat.min k (n - k) = m at *
  have e1 : (rep n k).take m = List.replicate m (-1) := by
    rw [rep, List.take_append_of_le_length (by simp; omega), List.take_replicate, Nat.min_eq_left hm]
  have e2 : (rep n k).take k = List.replicate k (-1) := by rw [rep, List.take_left' (by simp)]
  have e3 : (rep n k).drop (k + m) = List.replicate (n - (k + m)) 0 := by
    rw [rep, List.drop_append, List.drop_eq_nil_of_le (by simp), List.nil_append, List.drop_replicate]
    congr 1
    simp; omega
  rw [over, e1, e2, List.length_replicate, e3, rep, List.replicate_append_replicate]

theorem ki3 : ∃ T, tyI Tryz.prog 3 = some T ∧ T.kind = some .i64 := by
  have h : (tyI Tryz.prog 3).any (fun T => T.kind == some .i64) = true := by kernel_rfl
  revert h
  cases tyI Tryz.prog 3 with
  | none => intro h; cases h
  | some T => intro h; exact ⟨T, rfl, by simpa using h⟩
theorem ki99 : ∃ T, tyI Tryz.prog 95 = some T ∧ T.kind = some .u64 := by
  have h : (tyI Tryz.prog 95).any (fun T => T.kind == some .u64) = true := by kernel_rfl
  revert h
  cases tyI Tryz.prog 95 with
  | none => intro h; cases h
  | some T => intro h; exact ⟨T, rfl, by simpa using h⟩
theorem wrap_u64 {n : Int} (h1 : 0 ≤ n) (h2 : n ≤ 9223372036854775807) : IntKind.u64.wrap n = n := by
  have e1 : IntKind.u64.bits = 64 := rfl
  have e2 : IntKind.u64.signed = false := rfl
  simp only [IntKind.wrap, e1, e2]
  simp
  omega

theorem repeat_s (h0 : List AObj) {n : Nat} (hn0 : 0 < n) (hn : n ≤ 40) : SpecTo Tryz.prog 59 [.lit 1 [I (-1)], I n] h0 (.ref h0.length 0 n n) (h0 ++ [⟨3, 1, ints (List.replicate n (-1))⟩]) := by
  obtain ⟨T3, hT3, hk3⟩ := ki3
  obtain ⟨T9, hT9, hk9⟩ := ki99
  refine SpecTo.intro (effS [] false) follows Tryz.func59 rfl rfl (by kernel_rfl) (Nat.le_of_ble_eq_true rfl) ?_
  simp (disch := first | assumption | omega | rfl | simp only [hAt_app, hAt_app0, List.getElem?_cons_zero, List.getElem?_cons_succ]) only [↓RP, RG, FX, decide_eq_true, decide_eq_false, Bool.not_true, Bool.not_false, Option.map_some, List.map_cons, List.map_nil, List.getElem?_cons_zero, List.getElem?_cons_succ, ↓reduceIte, Nat.reduceEqDiff, reduceCtorEq, decide_eq_true_eq, decide_eq_false_iff_not, Option.map_none, Option.bind_some, List.contains_nil, List.contains_cons, Nat.reduceBEq, Bool.or_false, Bool.false_or, Bool.or_self, List.set_cons_zero, List.set_cons_succ, List.take_succ_cons, List.take_zero, List.drop_succ_cons, List.drop_zero, List.length_cons, List.length_nil, List.length_append, Nat.reduceAdd, Nat.reduceLeDiff, List.all_cons, List.all_nil, Bool.and_true, and_true, true_and, and_self, ne_eq, not_false_eq_true, List.cons_append, List.nil_append, List.append_nil, List.append_assoc, Nat.zero_add, Nat.add_zero, Int.toNat_natCast, args0_2, hT3, hT9, hk3, hk9, wrap_u64, wrap_id]
  refine callK_F 6 (mul_c (n := n) (by omega)) (by simp (disch := first | assumption | omega | rfl | simp only [hAt_app, hAt_app0, List.getElem?_cons_zero, List.getElem?_cons_succ]) only [↓RP, RG, FX, decide_eq_true, decide_eq_false, Bool.not_true, Bool.not_false, Option.map_some, List.map_cons, List.map_nil, List.getElem?_cons_zero, List.getElem?_cons_succ, ↓reduceIte, Nat.reduceEqDiff, reduceCtorEq, decide_eq_true_eq, decide_eq_false_iff_not, Option.map_none, Option.bind_some, List.contains_nil, List.contains_cons, Nat.reduceBEq, Bool.or_false, Bool.false_or, Bool.or_self, List.set_cons_zero, List.set_cons_succ, List.take_succ_cons, List.take_zero, List.drop_succ_cons, List.drop_zero, List.length_cons, List.length_nil, List.length_append, Nat.reduceAdd, Nat.reduceLeDiff, List.all_cons, List.all_nil, Bool.and_true, and_true, true_and, and_self, ne_eq, not_false_eq_true, List.cons_append, List.nil_append, List.append_nil, List.append_assoc, Nat.zero_add, Nat.add_zero, Int.toNat_natCast, RA] <;> rfl) (.inl (by simp [allFresh, ints_fresh, bools_fresh])) ?_
  simp (disch := first | assumption | omega | rfl | simp only [hAt_app, hAt_app0, List.getElem?_cons_zero, List.getElem?_cons_succ]) only [↓RP, RG, FX, decide_eq_true, decide_eq_false, Bool.not_true, Bool.not_false, Option.map_some, List.map_cons, List.map_nil, List.getElem?_cons_zero, List.getElem?_cons_succ, ↓reduceIte, Nat.reduceEqDiff, reduceCtorEq, decide_eq_true_eq, decide_eq_false_iff_not, Option.map_none, Option.bind_some, List.contains_nil, List.contains_cons, Nat.reduceBEq, Bool.or_false, Bool.false_or, Bool.or_self, List.set_cons_zero, List.set_cons_succ, List.take_succ_cons, List.take_zero, List.drop_succ_cons, List.drop_zero, List.length_cons, List.length_nil, List.length_append, Nat.reduceAdd, Nat.reduceLeDiff, List.all_cons, List.all_nil, Bool.and_true, and_true, true_and, and_self, ne_eq, not_false_eq_true, List.cons_append, List.nil_append, List.append_nil, List.append_assoc, Nat.zero_add, Nat.add_zero, Int.toNat_natCast, hT3, hT9, hk3, hk9, wrap_u64, wrap_id]
  simp (disch := first | assumption | omega | rfl | simp only [hAt_app, hAt_app0, List.getElem?_cons_zero, List.getElem?_cons_succ]) only [↓RP, RG, FX, decide_eq_true, decide_eq_false, Bool.not_true, Bool.not_false, Option.map_some, List.map_cons, List.map_nil, List.getElem?_cons_zero, List.getElem?_cons_succ, ↓reduceIte, Nat.reduceEqDiff, reduceCtorEq, decide_eq_true_eq, decide_eq_false_iff_not, Option.map_none, Option.bind_some, List.contains_nil, List.contains_cons, Nat.reduceBEq, Bool.or_false, Bool.false_or, Bool.or_self, List.set_cons_zero, List.set_cons_succ, List.take_succ_cons, List.take_zero, List.drop_succ_cons, List.drop_zero, List.length_cons, List.length_nil, List.length_append, Nat.reduceAdd, Nat.reduceLeDiff, List.all_cons, List.all_nil, Bool.and_true, and_true, true_and, and_self, ne_eq, not_false_eq_true, List.cons_append, List.nil_append, List.append_nil, List.append_assoc, Nat.zero_add, Nat.add_zero, Int.toNat_natCast, make_int, Int.toNat_natCast]
  have hc : ∀ h : List AObj, h[h0.length]? = some ⟨3, 1, ints (List.replicate n 0)⟩ → aCopy Tryz.prog 47 h (.ref h0.length 0 n n) (.lit 1 [I (-1)]) = some (I 1, h.set h0.length ⟨3, 1, ints (rep n 1)⟩) := by
    intro h hh
    have e1 : Nat.min 1 n = 1 := by have := Nat.min_eq_left (show 1 ≤ n by omega); exact this
    have := copy_ints_at (P := Tryz.prog) (t := 47) (h := h) (off := 0) (n := n) (ext := n) (m := 1) (x := .lit 1 [I (-1)]) (l := [-1]) hh (by decide) (by simp) rfl (by simp) (by rw [e1]; decide) (by rw [e1]; omega)
    rw [this, e1]
    simp [over, rep, List.drop_replicate]
  simp (disch := simp) only [↓RP, RG, FX, decide_eq_true, decide_eq_false, Bool.not_true, Bool.not_false, Option.map_some, List.map_cons, List.map_nil, List.getElem?_cons_zero, List.getElem?_cons_succ, ↓reduceIte, Nat.reduceEqDiff, reduceCtorEq, decide_eq_true_eq, decide_eq_false_iff_not, Option.map_none, Option.bind_some, List.contains_nil, List.contains_cons, Nat.reduceBEq, Bool.or_false, Bool.false_or, Bool.or_self, List.set_cons_zero, List.set_cons_succ, List.take_succ_cons, List.take_zero, List.drop_succ_cons, List.drop_zero, List.length_cons, List.length_nil, List.length_append, Nat.reduceAdd, Nat.reduceLeDiff, List.all_cons, List.all_nil, Bool.and_true, and_true, true_and, and_self, ne_eq, not_false_eq_true, List.cons_append, List.nil_append, List.append_nil, List.append_assoc, Nat.zero_add, Nat.add_zero, Int.toNat_natCast, opK_copy, hc, List.set_append_right, Nat.sub_self, List.set_cons_zero, Nat.le_refl]
  have hq : ∀ (h : List AObj) (k : Nat), h[h0.length]? = some ⟨3, 1, ints (rep n k)⟩ → 0 < k → k < n → aCopy Tryz.prog 47 h (.ref h0.length k (n - k) n) (.ref h0.length 0 k n) = some (I (Nat.min k (n - k) : Nat), h.set h0.length ⟨3, 1, ints (rep n (k + Nat.min k (n - k)))⟩) := by
    intro h k hh h1 h2
    have e1 : Nat.min k (n - k) ≤ n - k := Nat.min_le_right _ _
    have e2 : 0 < Nat.min k (n - k) := by have : Nat.min k (n - k) = min k (n - k) := rfl; omega
    have hl := rep_len (n := n) (k := k) (by omega)
    have := copy_ints_at (P := Tryz.prog) (t := 47) (h := h) (id := h0.length) (off := k) (n := n - k) (ext := n) (m := k) (x := .ref h0.length 0 k n) (l := rep n k) hh (by decide) hl (by simp [sview, cellsAt, hh, hl, ints_length]) (by omega) (by omega) (by omega)
    rw [this, rep_more h1 h2]
  refine loopK_I [7, 8] (fun k : Nat => 0 < k ∧ k ≤ n) (fun k => ⟨[(7, .ref h0.length 0 n n), (8, I k)], h0 ++ [⟨3, 1, ints (rep n k)⟩]⟩) (fun k => n - k) 1 (by omega) (by simp only [↓RP, RG, FX, decide_eq_true, decide_eq_false, Bool.not_true, Bool.not_false, Option.map_some, List.map_cons, List.map_nil, List.getElem?_cons_zero, List.getElem?_cons_succ, ↓reduceIte, Nat.reduceEqDiff, reduceCtorEq, decide_eq_true_eq, decide_eq_false_iff_not, Option.map_none, Option.bind_some, List.contains_nil, List.contains_cons, Nat.reduceBEq, Bool.or_false, Bool.false_or, Bool.or_self, List.set_cons_zero, List.set_cons_succ, List.take_succ_cons, List.take_zero, List.drop_succ_cons, List.drop_zero, List.length_cons, List.length_nil, List.length_append, Nat.reduceAdd, Nat.reduceLeDiff, List.all_cons, List.all_nil, Bool.and_true, and_true, true_and, and_self, ne_eq, not_false_eq_true, List.cons_append, List.nil_append, List.append_nil, List.append_assoc, Nat.zero_add, Nat.add_zero, Int.toNat_natCast]; rfl) ?_
  intro k ⟨hk0, hk⟩
  have hl := rep_len (n := n) (k := k) (by omega)
  by_cases hlt : k < n
  · have e1 : Nat.min k (n - k) ≤ n - k := Nat.min_le_right _ _
    have e2 : 0 < Nat.min k (n - k) := by have : Nat.min k (n - k) = min k (n - k) := rfl; omega
    simp (disch := first | omega | simp) only [↓RP, RG, FX, decide_eq_true, decide_eq_false, Bool.not_true, Bool.not_false, Option.map_some, List.map_cons, List.map_nil, List.getElem?_cons_zero, List.getElem?_cons_succ, ↓reduceIte, Nat.reduceEqDiff, reduceCtorEq, decide_eq_true_eq, decide_eq_false_iff_not, Option.map_none, Option.bind_some, List.contains_nil, List.contains_cons, Nat.reduceBEq, Bool.or_false, Bool.false_or, Bool.or_self, List.set_cons_zero, List.set_cons_succ, List.take_succ_cons, List.take_zero, List.drop_succ_cons, List.drop_zero, List.length_cons, List.length_nil, List.length_append, Nat.reduceAdd, Nat.reduceLeDiff, List.all_cons, List.all_nil, Bool.and_true, and_true, true_and, and_self, ne_eq, not_false_eq_true, List.cons_append, List.nil_append, List.append_nil, List.append_assoc, Nat.zero_add, Nat.add_zero, Int.toNat_natCast, opK_copy, hq, sl_ref_lo, sl_ref_hi, List.set_append_right, Nat.sub_self, List.set_cons_zero, Nat.le_refl]
    exact ⟨k + Nat.min k (n - k), ⟨by omega, by omega⟩, by simp, by omega⟩
  · obtain rfl : k = n := by omega
    simp (disch := first | assumption | omega | rfl | simp only [hAt_app, hAt_app0, List.getElem?_cons_zero, List.getElem?_cons_succ]) only [↓RP, RG, FX, decide_eq_true, decide_eq_false, Bool.not_true, Bool.not_false, Option.map_some, List.map_cons, List.map_nil, List.getElem?_cons_zero, List.getElem?_cons_succ, ↓reduceIte, Nat.reduceEqDiff, reduceCtorEq, decide_eq_true_eq, decide_eq_false_iff_not, Option.map_none, Option.bind_some, List.contains_nil, List.contains_cons, Nat.reduceBEq, Bool.or_false, Bool.false_or, Bool.or_self, List.set_cons_zero, List.set_cons_succ, List.take_succ_cons, List.take_zero, List.drop_succ_cons, List.drop_zero, List.length_cons, List.length_nil, List.length_append, Nat.reduceAdd, Nat.reduceLeDiff, List.all_cons, List.all_nil, Bool.and_true, and_true, true_and, and_self, ne_eq, not_false_eq_true, List.cons_append, List.nil_append, List.append_nil, List.append_assoc, Nat.zero_add, Nat.add_zero, Int.toNat_natCast]
    refine ⟨_, rfl, ?_⟩
    rw [show rep k k = List.replicate k (-1) by simp [rep]]
    exact Wk.of_eq rfl
end Go.Proofs.YtkcicgadggiklaaGreatDoor

/- The search, by the program: what it does with its queue. -/
set_option linter.unusedSimpArgs false
set_option linter.unusedVariables false
set_option maxRecDepth 100000
namespace Go.Proofs.YtkcicgadggiklaaGreatDoor
open Go Go.Proofs Go.AW

theorem cutB_some (r : AVal × List AObj) (s : Option AVal) (h : List AObj) (K : AVal → List AObj → Prop) : @cutB (some r) s h ⟨K⟩ = K r.1 r.2 := _root_.id rfl
theorem aCut_lit {P : Program} {t e nb : Nat} {z : Value} [S : SlT P t e nb z] {h : List AObj} {m : Nat} {l : List Int} (hl : l.length = m) (hm : 0 < m) : aCut P t h (.lit m (ints l)) (some (I 1)) (some (I m)) (some (I m)) = some (.lit (m - 1) (ints (l.drop 1)), h) := by
  obtain ⟨⟨T, hT, hTe⟩, E, hE, g1, g2, g3, g4⟩ := S
  simp only [aCut, hT, hTe, hE, sview_lit, optInt]
  rw [if_pos ⟨by omega, by omega, by first | trivial | rfl, by omega, by omega, g1⟩]
  have e1 : ((m : Int) - 1).toNat = m - 1 := by omega
  have e2 : ((ints l).drop 1).take (m - 1) = ints (l.drop 1) := by
    rw [List.take_of_length_le (by rw [List.length_drop, ints_length]; omega)]
    simp [ints, List.map_drop]
  rw [e1]
  simp only [show (1 : Int).toNat = 1 from rfl, e2]
theorem aCut_ref {P : Program} {t e nb : Nat} {z : Value} [S : SlT P t e nb z] {h : List AObj} {id m ty : Nat} {l : List Int} (ho : h[id]? = some ⟨ty, 1, ints l⟩) (hz : ty ≠ FZ) (hl : l.length = m) (hm : 0 < m) : aCut P t h (.ref id 0 m m) (some (I 1)) (some (I m)) (some (I m)) = some (.lit (m - 1) (ints (l.drop 1)), h.set id ⟨FZ, 1, ints l⟩) := by
  obtain ⟨⟨T, hT, hTe⟩, E, hE, g1, g2, g3, g4⟩ := S
  have hli : (ints l).length = m := by rw [ints_length, hl]
  have hsv : sview h (.ref id 0 m m) = some (m, ints l) := by simp [sview, cellsAt, ho, hli]
  simp only [aCut, hT, hTe, hE, hsv, optInt, ho]
  rw [if_pos ⟨by omega, by omega, by first | trivial | rfl, by omega, by omega, g1⟩, if_pos ⟨hz, hli⟩]
  have e1 : ((m : Int) - 1).toNat = m - 1 := by omega
  have e2 : ((ints l).drop 1).take (m - 1) = ints (l.drop 1) := by
    rw [List.take_of_length_le (by rw [List.length_drop, ints_length]; omega)]
    simp [ints, List.map_drop]
  rw [e1]
  simp only [show (1 : Int).toNat = 1 from rfl, Nat.zero_add, e2]
theorem append_litG {P : Program} {t e : Nat} {z : Value} [S : SlT P t e 8 z] {h : List AObj} {m : Nat} {l : List Int} {x : Int} (hl : l.length = m) (hm : m ≤ 1000000) : aAppend P t h (.lit m (ints l)) (.lit 1 [.val (.int .i64 x)]) = some (.ref h.length 0 (m + 1) (m + 1), h ++ [⟨e, 1, ints (l ++ [x])⟩]) := by
  obtain ⟨⟨T, hT, hTe⟩, E, hE, g1, g2, g3, g4⟩ := S
  have hz : E.zero.length = 1 := by rw [g4]; rfl
  have hli : (ints l).length = m := by rw [ints_length, hl]
  simp only [aAppend, hT, hTe, hE, sview_lit, g1, Nat.mul_one]
  rw [if_pos ⟨by simp, by simp [AVal.one, Value.oneCell'], by omega, hz⟩, if_neg (by omega), if_pos ⟨hli, by rw [g3]; omega, by omega⟩, ← ints_append l [x]]
  rfl

/-- Rows that are handed over. -/
def LLa (rs : List (List Int)) : List AVal := rs.map fun r => LA r.isEmpty r
theorem LLa_len (rs : List (List Int)) : (LLa rs).length = rs.length := by simp [LLa]
theorem LLa_at {rs : List (List Int)} {a : Nat} (ha : a < rs.length) : ((LLa rs).drop a)[0]? = some (LA (rs.getD a []).isEmpty (rs.getD a [])) := by
  rw [List.getElem?_drop, Nat.add_zero, LLa, List.getElem?_map, List.getElem?_eq_getElem ha, List.getD_eq_getElem?_getD, List.getElem?_eq_getElem ha]; rfl
theorem abv_adj {W n : Nat} {l : List Bool} {c : Nat} (hc : c < n) : (abv W n l).getD c [] = nI (adjT W n l c) := by rw [abv_get hc]; rfl
end Go.Proofs.YtkcicgadggiklaaGreatDoor

/- The search, by the program. -/
set_option linter.unusedSimpArgs false
set_option linter.unusedVariables false
set_option maxRecDepth 100000
namespace Go.Proofs.YtkcicgadggiklaaGreatDoor
open Go Go.Proofs Go.AW

/-- The queue: a literal, or a row of its own behind the distances. -/
def qw (p : Bool) (q : List Nat) : AVal := if p then .ref 1 0 q.length q.length else .lit q.length (ints (nI q))
def qk (p : Bool) (q : List Nat) : List AObj := if p then [⟨3, 1, ints (nI q)⟩] else []
theorem ren_litE (f : Nat → Option Nat) (n k : Nat) (cs : List AVal) : ren f (n + 1) (.lit k cs) = .lit k (cs.map (ren f n)) := rfl
theorem ren_LLa (f : Nat → Option Nat) (n : Nat) (rs : List (List Int)) : (LLa rs).map (ren f (n + 2)) = LLa rs := by
  simp only [LLa, List.map_map]
  refine List.map_congr_left fun r _ => ?_
  show ren f (n + 2) (LA r.isEmpty r) = LA r.isEmpty r
  simp only [LA, ren_list, map_ren_ints]

set_option maxHeartbeats 4000000 in
theorem reached_c {W n : Nat} (hn : n ≤ 40) (l : List Bool) {a : Nat} (ha : a < n) :
    Contract Tryz.prog 45 [.list false false n (LLa (abv W n l)), I a] (LR false (srch (adjT W n l) (far0 n a) [a])) := by
  have hlb := LLa_len (abv W n l)
  have hab : (abv W n l).length = n := by simp [abv]
  have hre : ∀ (f : Nat → Option Nat) (k : Nat), (LLa (abv W n l)).map (ren f (k + 2)) = LLa (abv W n l) := fun f k => ren_LLa f k _
  have hat : ∀ c, c < n → ((LLa (abv W n l)).drop c)[0]? = some (LA (nI (adjT W n l c)).isEmpty (nI (adjT W n l c))) := by
    intro c hc
    rw [LLa_at (rs := abv W n l) (by omega), abv_adj hc]
  generalize LLa (abv W n l) = lb at *
  refine Contract.intro (effS [] false) 6 follows Tryz.func45 rfl rfl (by kernel_rfl) (Nat.le_of_ble_eq_true rfl) ?_
  simp (disch := first | assumption | omega | rfl | simp only [hAt_app, hAt_app0, List.getElem?_cons_zero, List.getElem?_cons_succ]) only [↓RP, RG, FX, decide_eq_true, decide_eq_false, Bool.not_true, Bool.not_false, Option.map_some, List.map_cons, List.map_nil, List.getElem?_cons_zero, List.getElem?_cons_succ, ↓reduceIte, Nat.reduceEqDiff, reduceCtorEq, decide_eq_true_eq, decide_eq_false_iff_not, Option.map_none, Option.bind_some, List.contains_nil, List.contains_cons, Nat.reduceBEq, Bool.or_false, Bool.false_or, Bool.or_self, List.set_cons_zero, List.set_cons_succ, List.take_succ_cons, List.take_zero, List.drop_succ_cons, List.drop_zero, List.length_cons, List.length_nil, List.length_append, Nat.reduceAdd, Nat.reduceLeDiff, List.all_cons, List.all_nil, Bool.and_true, and_true, true_and, and_self, ne_eq, not_false_eq_true, List.cons_append, List.nil_append, List.append_nil, List.append_assoc, Nat.zero_add, Nat.add_zero, Int.toNat_natCast, args0_2]
  refine callK_T rfl (repeat_s _ (by omega) hn) ?_
  have hkr : (List.replicate n (-1 : Int)).length = n := by simp
  have hf0 : (List.replicate n (-1 : Int)).set a 0 = far0 n a := rfl
  obtain ⟨z1, z2⟩ := far0_sound ha
  simp (disch := first | assumption | omega | rfl | simp only [hAt_app, hAt_app0, List.getElem?_cons_zero, List.getElem?_cons_succ]) only [↓RP, RG, FX, decide_eq_true, decide_eq_false, Bool.not_true, Bool.not_false, Option.map_some, List.map_cons, List.map_nil, List.getElem?_cons_zero, List.getElem?_cons_succ, ↓reduceIte, Nat.reduceEqDiff, reduceCtorEq, decide_eq_true_eq, decide_eq_false_iff_not, Option.map_none, Option.bind_some, List.contains_nil, List.contains_cons, Nat.reduceBEq, Bool.or_false, Bool.false_or, Bool.or_self, List.set_cons_zero, List.set_cons_succ, List.take_succ_cons, List.take_zero, List.drop_succ_cons, List.drop_zero, List.length_cons, List.length_nil, List.length_append, Nat.reduceAdd, Nat.reduceLeDiff, List.all_cons, List.all_nil, Bool.and_true, and_true, true_and, and_self, ne_eq, not_false_eq_true, List.cons_append, List.nil_append, List.append_nil, List.append_assoc, Nat.zero_add, Nat.add_zero, Int.toNat_natCast, hf0]
  refine loopK_I [0, 5, 6] (fun s : List Int × List Nat × Bool => Sound n s.1 s.2.1 ∧ s.2.1.length + neg s.1 ≤ n ∧ srch (adjT W n l) s.1 s.2.1 = srch (adjT W n l) (far0 n a) [a])
    (fun s => ⟨[(0, .list false false n lb), (5, .ref 0 0 n n), (6, qw s.2.2 s.2.1)], ⟨3, 1, ints s.1⟩ :: qk s.2.2 s.2.1⟩) (fun s => 2 * neg s.1 + s.2.1.length) (far0 n a, [a], false) ⟨z1, by simp only [List.length_singleton]; omega, rfl⟩ (by simp only [↓RP, RG, FX, decide_eq_true, decide_eq_false, Bool.not_true, Bool.not_false, Option.map_some, List.map_cons, List.map_nil, List.getElem?_cons_zero, List.getElem?_cons_succ, ↓reduceIte, Nat.reduceEqDiff, reduceCtorEq, decide_eq_true_eq, decide_eq_false_iff_not, Option.map_none, Option.bind_some, List.contains_nil, List.contains_cons, Nat.reduceBEq, Bool.or_false, Bool.false_or, Bool.or_self, List.set_cons_zero, List.set_cons_succ, List.take_succ_cons, List.take_zero, List.drop_succ_cons, List.drop_zero, List.length_cons, List.length_nil, List.length_append, Nat.reduceAdd, Nat.reduceLeDiff, List.all_cons, List.all_nil, Bool.and_true, and_true, true_and, and_self, ne_eq, not_false_eq_true, List.cons_append, List.nil_append, List.append_nil, List.append_assoc, Nat.zero_add, Nat.add_zero, Int.toNat_natCast]; rfl) ?_
  rintro ⟨far, q, p⟩ ⟨h1, h2, h3⟩
  simp only at h1 h2 h3 ⊢
  have hfl := h1.len
  have hqn := nI_len q
  cases q with
  | nil =>
    rw [srch_nil] at h3
    have hfp : 0 < far.length := by omega
    have hz : ([] : List Nat).length = 0 := rfl
    rw [← h3]
    cases p
    · simp (disch := first | assumption | omega | rfl | simp only [hAt_app, hAt_app0, List.getElem?_cons_zero, List.getElem?_cons_succ]) only [↓RP, RG, FX, decide_eq_true, decide_eq_false, Bool.not_true, Bool.not_false, Option.map_some, List.map_cons, List.map_nil, List.getElem?_cons_zero, List.getElem?_cons_succ, ↓reduceIte, Nat.reduceEqDiff, reduceCtorEq, decide_eq_true_eq, decide_eq_false_iff_not, Option.map_none, Option.bind_some, List.contains_nil, List.contains_cons, Nat.reduceBEq, Bool.or_false, Bool.false_or, Bool.or_self, List.set_cons_zero, List.set_cons_succ, List.take_succ_cons, List.take_zero, List.drop_succ_cons, List.drop_zero, List.length_cons, List.length_nil, List.length_append, Nat.reduceAdd, Nat.reduceLeDiff, List.all_cons, List.all_nil, Bool.and_true, and_true, true_and, and_self, ne_eq, not_false_eq_true, List.cons_append, List.nil_append, List.append_nil, List.append_assoc, Nat.zero_add, Nat.add_zero, Int.toNat_natCast, qw, qk, hz]
      rw [resVal_1 rfl]; simp (disch := first | assumption | omega | rfl | simp only [hAt_app, hAt_app0, List.getElem?_cons_zero, List.getElem?_cons_succ]) only [↓RP, RG, FX, decide_eq_true, decide_eq_false, Bool.not_true, Bool.not_false, Option.map_some, List.map_cons, List.map_nil, List.getElem?_cons_zero, List.getElem?_cons_succ, ↓reduceIte, Nat.reduceEqDiff, reduceCtorEq, decide_eq_true_eq, decide_eq_false_iff_not, Option.map_none, Option.bind_some, List.contains_nil, List.contains_cons, Nat.reduceBEq, Bool.or_false, Bool.false_or, Bool.or_self, List.set_cons_zero, List.set_cons_succ, List.take_succ_cons, List.take_zero, List.drop_succ_cons, List.drop_zero, List.length_cons, List.length_nil, List.length_append, Nat.reduceAdd, Nat.reduceLeDiff, List.all_cons, List.all_nil, Bool.and_true, and_true, true_and, and_self, ne_eq, not_false_eq_true, List.cons_append, List.nil_append, List.append_nil, List.append_assoc, Nat.zero_add, Nat.add_zero, Int.toNat_natCast, RS]
    · simp (disch := first | assumption | omega | rfl | simp only [hAt_app, hAt_app0, List.getElem?_cons_zero, List.getElem?_cons_succ]) only [↓RP, RG, FX, decide_eq_true, decide_eq_false, Bool.not_true, Bool.not_false, Option.map_some, List.map_cons, List.map_nil, List.getElem?_cons_zero, List.getElem?_cons_succ, ↓reduceIte, Nat.reduceEqDiff, reduceCtorEq, decide_eq_true_eq, decide_eq_false_iff_not, Option.map_none, Option.bind_some, List.contains_nil, List.contains_cons, Nat.reduceBEq, Bool.or_false, Bool.false_or, Bool.or_self, List.set_cons_zero, List.set_cons_succ, List.take_succ_cons, List.take_zero, List.drop_succ_cons, List.drop_zero, List.length_cons, List.length_nil, List.length_append, Nat.reduceAdd, Nat.reduceLeDiff, List.all_cons, List.all_nil, Bool.and_true, and_true, true_and, and_self, ne_eq, not_false_eq_true, List.cons_append, List.nil_append, List.append_nil, List.append_assoc, Nat.zero_add, Nat.add_zero, Int.toNat_natCast, qw, qk, hz]
      rw [resVal_1 rfl]; simp (disch := first | assumption | omega | rfl | simp only [hAt_app, hAt_app0, List.getElem?_cons_zero, List.getElem?_cons_succ]) only [↓RP, RG, FX, decide_eq_true, decide_eq_false, Bool.not_true, Bool.not_false, Option.map_some, List.map_cons, List.map_nil, List.getElem?_cons_zero, List.getElem?_cons_succ, ↓reduceIte, Nat.reduceEqDiff, reduceCtorEq, decide_eq_true_eq, decide_eq_false_iff_not, Option.map_none, Option.bind_some, List.contains_nil, List.contains_cons, Nat.reduceBEq, Bool.or_false, Bool.false_or, Bool.or_self, List.set_cons_zero, List.set_cons_succ, List.take_succ_cons, List.take_zero, List.drop_succ_cons, List.drop_zero, List.length_cons, List.length_nil, List.length_append, Nat.reduceAdd, Nat.reduceLeDiff, List.all_cons, List.all_nil, Bool.and_true, and_true, true_and, and_self, ne_eq, not_false_eq_true, List.cons_append, List.nil_append, List.append_nil, List.append_assoc, Nat.zero_add, Nat.add_zero, Int.toNat_natCast, RS]
  | cons c r =>
    have hst := srch_step (adj := adjT W n l) (fun c hc x hx => adjT_lt hx) h1
    have hc := h1.mem _ List.mem_cons_self
    have hin := inner_ok hc (adjT W n l c) far r (fun x hx => adjT_lt hx) h1.tail
    have hatc := hat c hc
    have hg0 : (nI (c :: r)).getD (Int.toNat 0) 0 = (c : Int) := rfl
    have hpos : 0 < (c :: r).length := by simp
    have hd1 : (nI (c :: r)).drop 1 = nI r := rfl
    have hm1 : (c :: r).length - 1 = r.length := rfl
    have hlen1 : r.length + 1 = (c :: r).length := rfl
    have hql : (ints (nI (c :: r))).length = (c :: r).length := by rw [ints_length, nI_len]
    obtain ⟨A, hA⟩ : ∃ A, adjT W n l c = A := ⟨_, rfl⟩
    have hAn : ∀ x ∈ A, x < n := by rw [← hA]; exact fun x hx => adjT_lt hx
    rw [hA] at hst hin hatc
    have hAl := nI_len A
    have hAs : A.length ≤ n := by rw [← hA]; simp only [adjT]; exact Nat.le_trans (List.length_filter_le _ _) (by simp)
    generalize hqq : c :: r = qq at *
    have hcut := @aCut_ref Tryz.prog 47 _ _ _ _ [⟨3, 1, ints far⟩, ⟨3, 1, ints (nI qq)⟩] 1 qq.length 3 (nI qq) rfl (by decide) hqn hpos
    have hcul : ∀ h : List AObj, aCut Tryz.prog 47 h (.lit qq.length (ints (nI qq))) (some (I 1)) (some (I qq.length)) (some (I qq.length)) = some (.lit (qq.length - 1) (ints ((nI qq).drop 1)), h) := fun h => aCut_lit hqn hpos
    rw [hm1, hd1] at hcut
    rw [hm1, hd1] at hcul
    have h1t : Sound n far r := by rw [← hqq] at h1; exact h1.tail
    have e3 : srch (adjT W n l) (inner c A (far, r)).1 (inner c A (far, r)).2 = srch (adjT W n l) (far0 n a) [a] := by rw [← hst]; exact h3
    cases p
    · simp (disch := first | assumption | omega | rfl | simp only [hAt_app, hAt_app0, List.getElem?_cons_zero, List.getElem?_cons_succ]) only [↓RP, RG, FX, decide_eq_true, decide_eq_false, Bool.not_true, Bool.not_false, Option.map_some, List.map_cons, List.map_nil, List.getElem?_cons_zero, List.getElem?_cons_succ, ↓reduceIte, Nat.reduceEqDiff, reduceCtorEq, decide_eq_true_eq, decide_eq_false_iff_not, Option.map_none, Option.bind_some, List.contains_nil, List.contains_cons, Nat.reduceBEq, Bool.or_false, Bool.false_or, Bool.or_self, List.set_cons_zero, List.set_cons_succ, List.take_succ_cons, List.take_zero, List.drop_succ_cons, List.drop_zero, List.length_cons, List.length_nil, List.length_append, Nat.reduceAdd, Nat.reduceLeDiff, List.all_cons, List.all_nil, Bool.and_true, and_true, true_and, and_self, ne_eq, not_false_eq_true, List.cons_append, List.nil_append, List.append_nil, List.append_assoc, Nat.zero_add, Nat.add_zero, Int.toNat_natCast, qw, qk, hql, hg0, cutB_some, hcul, hatc]
      refine loopK_W [0, 5, 6, 7, 34, 35, 36] (fun s : Nat × List Int × List Nat × Bool => s.1 ≤ A.length ∧ Sound n s.2.1 s.2.2.1 ∧ s.2.2.1.length + neg s.2.1 ≤ n ∧ inner c (A.drop s.1) (s.2.1, s.2.2.1) = inner c A (far, r))
        (fun s => ⟨[(0, .list false false n lb), (5, .ref 0 0 n n), (6, qw s.2.2.2 s.2.2.1), (7, I c), (34, LA (nI A).isEmpty (nI A)), (35, I (nI A).length), (36, I s.1)], ⟨3, 1, ints s.2.1⟩ :: qk s.2.2.2 s.2.2.1⟩) (fun s => A.length - s.1) (0, far, r, false) ⟨by simp only; omega, h1t, by simp only; omega, rfl⟩ (Wk.of_eq (by simp only [↓RP, RG, FX, decide_eq_true, decide_eq_false, Bool.not_true, Bool.not_false, Option.map_some, List.map_cons, List.map_nil, List.getElem?_cons_zero, List.getElem?_cons_succ, ↓reduceIte, Nat.reduceEqDiff, reduceCtorEq, decide_eq_true_eq, decide_eq_false_iff_not, Option.map_none, Option.bind_some, List.contains_nil, List.contains_cons, Nat.reduceBEq, Bool.or_false, Bool.false_or, Bool.or_self, List.set_cons_zero, List.set_cons_succ, List.take_succ_cons, List.take_zero, List.drop_succ_cons, List.drop_zero, List.length_cons, List.length_nil, List.length_append, Nat.reduceAdd, Nat.reduceLeDiff, List.all_cons, List.all_nil, Bool.and_true, and_true, true_and, and_self, ne_eq, not_false_eq_true, List.cons_append, List.nil_append, List.append_nil, List.append_assoc, Nat.zero_add, Nat.add_zero, Int.toNat_natCast]; rfl)) ?_
      rintro ⟨j, far', q', p'⟩ ⟨j1, j2, j3, j4⟩
      simp only at j1 j2 j3 j4 ⊢
      have hfl' := j2.len
      have hqn' := nI_len q'
      have hql' : (ints (nI q')).length = q'.length := by rw [ints_length, nI_len]
      by_cases hlt3 : j < A.length
      · obtain ⟨y, hy⟩ : ∃ y, A.getD j 0 = y := ⟨_, rfl⟩
        have hyA : y ∈ A := by rw [← hy, List.getD_eq_getElem?_getD, List.getElem?_eq_getElem hlt3]; exact List.getElem_mem _
        have hyn := hAn y hyA
        have hgi := nI_get A j
        rw [hy] at hgi
        have hAd : A.drop j = y :: A.drop (j + 1) := by
          rw [List.drop_eq_getElem_cons hlt3, ← hy, List.getD_eq_getElem?_getD, List.getElem?_eq_getElem hlt3]; rfl
        have lj := j2.low y hyn
        have lc := j2.low c hc
        have uc := j2.high c hc
        rw [hAd, inner] at j4
        by_cases hneg : far'.getD y 0 < 0
        · rw [if_pos hneg] at j4
          obtain ⟨x1, x2⟩ := j2.push hyn hc hneg
          have hap : ints (nI q') ++ ints [(y : Int)] = ints (nI (q' ++ [y])) := by rw [nI_app, ints_append]
          have qb : q'.length ≤ 1000 := by omega
          cases p'
          · have hapl : ∀ h : List AObj, aAppend Tryz.prog 47 h (.lit q'.length (ints (nI q'))) (.lit 1 [.val (.int .i64 (y : Int))]) = some (.ref h.length 0 (q'.length + 1) (q'.length + 1), h ++ [⟨3, 1, ints (nI q' ++ [(y : Int)])⟩]) := fun h => append_litG hqn' (by omega)
            simp (disch := first | assumption | omega | rfl | simp only [hAt_app, hAt_app0, List.getElem?_cons_zero, List.getElem?_cons_succ]) only [↓RP, RG, FX, decide_eq_true, decide_eq_false, Bool.not_true, Bool.not_false, Option.map_some, List.map_cons, List.map_nil, List.getElem?_cons_zero, List.getElem?_cons_succ, ↓reduceIte, Nat.reduceEqDiff, reduceCtorEq, decide_eq_true_eq, decide_eq_false_iff_not, Option.map_none, Option.bind_some, List.contains_nil, List.contains_cons, Nat.reduceBEq, Bool.or_false, Bool.false_or, Bool.or_self, List.set_cons_zero, List.set_cons_succ, List.take_succ_cons, List.take_zero, List.drop_succ_cons, List.drop_zero, List.length_cons, List.length_nil, List.length_append, Nat.reduceAdd, Nat.reduceLeDiff, List.all_cons, List.all_nil, Bool.and_true, and_true, true_and, and_self, ne_eq, not_false_eq_true, List.cons_append, List.nil_append, List.append_nil, List.append_assoc, Nat.zero_add, Nat.add_zero, Int.toNat_natCast, qw, qk, hql', hgi, hapl]
            exact ⟨(j + 1, far'.set y (far'.getD c 0 + 1), q' ++ [y], true), ⟨by simp only; omega, x1, by simp only [List.length_append, List.length_singleton]; omega, j4⟩, by simp only [qw, qk, nI_app, List.length_append, List.length_singleton]; rfl, by simp only; omega⟩
          · simp (disch := first | assumption | omega | rfl | simp only [hAt_app, hAt_app0, List.getElem?_cons_zero, List.getElem?_cons_succ]) only [↓RP, RG, FX, decide_eq_true, decide_eq_false, Bool.not_true, Bool.not_false, Option.map_some, List.map_cons, List.map_nil, List.getElem?_cons_zero, List.getElem?_cons_succ, ↓reduceIte, Nat.reduceEqDiff, reduceCtorEq, decide_eq_true_eq, decide_eq_false_iff_not, Option.map_none, Option.bind_some, List.contains_nil, List.contains_cons, Nat.reduceBEq, Bool.or_false, Bool.false_or, Bool.or_self, List.set_cons_zero, List.set_cons_succ, List.take_succ_cons, List.take_zero, List.drop_succ_cons, List.drop_zero, List.length_cons, List.length_nil, List.length_append, Nat.reduceAdd, Nat.reduceLeDiff, List.all_cons, List.all_nil, Bool.and_true, and_true, true_and, and_self, ne_eq, not_false_eq_true, List.cons_append, List.nil_append, List.append_nil, List.append_assoc, Nat.zero_add, Nat.add_zero, Int.toNat_natCast, qw, qk, hql', hgi, append_ref1, apRI_ints]
            exact ⟨(j + 1, far'.set y (far'.getD c 0 + 1), q' ++ [y], true), ⟨by simp only; omega, x1, by simp only [List.length_append, List.length_singleton]; omega, j4⟩, by simp only [qw, qk, nI_app, List.length_append, List.length_singleton]; rfl, by simp only; omega⟩
        · rw [if_neg hneg] at j4
          cases p'
          · simp (disch := first | assumption | omega | rfl | simp only [hAt_app, hAt_app0, List.getElem?_cons_zero, List.getElem?_cons_succ]) only [↓RP, RG, FX, decide_eq_true, decide_eq_false, Bool.not_true, Bool.not_false, Option.map_some, List.map_cons, List.map_nil, List.getElem?_cons_zero, List.getElem?_cons_succ, ↓reduceIte, Nat.reduceEqDiff, reduceCtorEq, decide_eq_true_eq, decide_eq_false_iff_not, Option.map_none, Option.bind_some, List.contains_nil, List.contains_cons, Nat.reduceBEq, Bool.or_false, Bool.false_or, Bool.or_self, List.set_cons_zero, List.set_cons_succ, List.take_succ_cons, List.take_zero, List.drop_succ_cons, List.drop_zero, List.length_cons, List.length_nil, List.length_append, Nat.reduceAdd, Nat.reduceLeDiff, List.all_cons, List.all_nil, Bool.and_true, and_true, true_and, and_self, ne_eq, not_false_eq_true, List.cons_append, List.nil_append, List.append_nil, List.append_assoc, Nat.zero_add, Nat.add_zero, Int.toNat_natCast, qw, qk, hql', hgi]
            exact ⟨(j + 1, far', q', false), ⟨by simp only; omega, j2, j3, j4⟩, rfl, by simp only; omega⟩
          · simp (disch := first | assumption | omega | rfl | simp only [hAt_app, hAt_app0, List.getElem?_cons_zero, List.getElem?_cons_succ]) only [↓RP, RG, FX, decide_eq_true, decide_eq_false, Bool.not_true, Bool.not_false, Option.map_some, List.map_cons, List.map_nil, List.getElem?_cons_zero, List.getElem?_cons_succ, ↓reduceIte, Nat.reduceEqDiff, reduceCtorEq, decide_eq_true_eq, decide_eq_false_iff_not, Option.map_none, Option.bind_some, List.contains_nil, List.contains_cons, Nat.reduceBEq, Bool.or_false, Bool.false_or, Bool.or_self, List.set_cons_zero, List.set_cons_succ, List.take_succ_cons, List.take_zero, List.drop_succ_cons, List.drop_zero, List.length_cons, List.length_nil, List.length_append, Nat.reduceAdd, Nat.reduceLeDiff, List.all_cons, List.all_nil, Bool.and_true, and_true, true_and, and_self, ne_eq, not_false_eq_true, List.cons_append, List.nil_append, List.append_nil, List.append_assoc, Nat.zero_add, Nat.add_zero, Int.toNat_natCast, qw, qk, hql', hgi]
            exact ⟨(j + 1, far', q', true), ⟨by simp only; omega, j2, j3, j4⟩, rfl, by simp only; omega⟩
      · obtain rfl : j = A.length := by omega
        rw [List.drop_length, inner] at j4
        have y1 := congrArg Prod.fst j4
        have y2 := congrArg Prod.snd j4
        simp only at y1 y2
        rw [← y1, ← y2] at e3
        have hm := hin.2
        rw [← y1, ← y2] at hm
        cases p'
        · simp (disch := first | assumption | omega | rfl | simp only [hAt_app, hAt_app0, List.getElem?_cons_zero, List.getElem?_cons_succ]) only [↓RP, RG, FX, decide_eq_true, decide_eq_false, Bool.not_true, Bool.not_false, Option.map_some, List.map_cons, List.map_nil, List.getElem?_cons_zero, List.getElem?_cons_succ, ↓reduceIte, Nat.reduceEqDiff, reduceCtorEq, decide_eq_true_eq, decide_eq_false_iff_not, Option.map_none, Option.bind_some, List.contains_nil, List.contains_cons, Nat.reduceBEq, Bool.or_false, Bool.false_or, Bool.or_self, List.set_cons_zero, List.set_cons_succ, List.take_succ_cons, List.take_zero, List.drop_succ_cons, List.drop_zero, List.length_cons, List.length_nil, List.length_append, Nat.reduceAdd, Nat.reduceLeDiff, List.all_cons, List.all_nil, Bool.and_true, and_true, true_and, and_self, ne_eq, not_false_eq_true, List.cons_append, List.nil_append, List.append_nil, List.append_assoc, Nat.zero_add, Nat.add_zero, Int.toNat_natCast, qw, qk, hql']
          exact ⟨(far', q', false), ⟨j2, j3, e3⟩, rfl, by simp only; omega⟩
        · simp (disch := first | assumption | omega | rfl | simp only [hAt_app, hAt_app0, List.getElem?_cons_zero, List.getElem?_cons_succ]) only [↓RP, RG, FX, decide_eq_true, decide_eq_false, Bool.not_true, Bool.not_false, Option.map_some, List.map_cons, List.map_nil, List.getElem?_cons_zero, List.getElem?_cons_succ, ↓reduceIte, Nat.reduceEqDiff, reduceCtorEq, decide_eq_true_eq, decide_eq_false_iff_not, Option.map_none, Option.bind_some, List.contains_nil, List.contains_cons, Nat.reduceBEq, Bool.or_false, Bool.false_or, Bool.or_self, List.set_cons_zero, List.set_cons_succ, List.take_succ_cons, List.take_zero, List.drop_succ_cons, List.drop_zero, List.length_cons, List.length_nil, List.length_append, Nat.reduceAdd, Nat.reduceLeDiff, List.all_cons, List.all_nil, Bool.and_true, and_true, true_and, and_self, ne_eq, not_false_eq_true, List.cons_append, List.nil_append, List.append_nil, List.append_assoc, Nat.zero_add, Nat.add_zero, Int.toNat_natCast, qw, qk, hql']
          exact ⟨(far', q', true), ⟨j2, j3, e3⟩, rfl, by simp only; omega⟩
    · simp (disch := first | assumption | omega | rfl | simp only [hAt_app, hAt_app0, List.getElem?_cons_zero, List.getElem?_cons_succ]) only [↓RP, RG, FX, decide_eq_true, decide_eq_false, Bool.not_true, Bool.not_false, Option.map_some, List.map_cons, List.map_nil, List.getElem?_cons_zero, List.getElem?_cons_succ, ↓reduceIte, Nat.reduceEqDiff, reduceCtorEq, decide_eq_true_eq, decide_eq_false_iff_not, Option.map_none, Option.bind_some, List.contains_nil, List.contains_cons, Nat.reduceBEq, Bool.or_false, Bool.false_or, Bool.or_self, List.set_cons_zero, List.set_cons_succ, List.take_succ_cons, List.take_zero, List.drop_succ_cons, List.drop_zero, List.length_cons, List.length_nil, List.length_append, Nat.reduceAdd, Nat.reduceLeDiff, List.all_cons, List.all_nil, Bool.and_true, and_true, true_and, and_self, ne_eq, not_false_eq_true, List.cons_append, List.nil_append, List.append_nil, List.append_assoc, Nat.zero_add, Nat.add_zero, Int.toNat_natCast, qw, qk, hql, hg0, cutB_some, hcut, hatc]
      refine loopK_W [0, 5, 6, 7, 34, 35, 36] (fun s : Nat × List Int × List Nat × Bool => s.1 ≤ A.length ∧ Sound n s.2.1 s.2.2.1 ∧ s.2.2.1.length + neg s.2.1 ≤ n ∧ inner c (A.drop s.1) (s.2.1, s.2.2.1) = inner c A (far, r))
        (fun s => ⟨[(0, .list false false n lb), (5, .ref 0 0 n n), (6, qw s.2.2.2 s.2.2.1), (7, I c), (34, LA (nI A).isEmpty (nI A)), (35, I (nI A).length), (36, I s.1)], ⟨3, 1, ints s.2.1⟩ :: qk s.2.2.2 s.2.2.1⟩) (fun s => A.length - s.1) (0, far, r, false) ⟨by simp only; omega, h1t, by simp only; omega, rfl⟩ (by
          refine (Wk.of_eq (by simp only [↓RP, RG, FX, decide_eq_true, decide_eq_false, Bool.not_true, Bool.not_false, Option.map_some, List.map_cons, List.map_nil, List.getElem?_cons_zero, List.getElem?_cons_succ, ↓reduceIte, Nat.reduceEqDiff, reduceCtorEq, decide_eq_true_eq, decide_eq_false_iff_not, Option.map_none, Option.bind_some, List.contains_nil, List.contains_cons, Nat.reduceBEq, Bool.or_false, Bool.false_or, Bool.or_self, List.set_cons_zero, List.set_cons_succ, List.take_succ_cons, List.take_zero, List.drop_succ_cons, List.drop_zero, List.length_cons, List.length_nil, List.length_append, Nat.reduceAdd, Nat.reduceLeDiff, List.all_cons, List.all_nil, Bool.and_true, and_true, true_and, and_self, ne_eq, not_false_eq_true, List.cons_append, List.nil_append, List.append_nil, List.append_assoc, Nat.zero_add, Nat.add_zero, Int.toNat_natCast]; rfl)).trans ((Wk.drop (hb := []) (h1 := []) (gs := [_, _]) (env := _) 8 [0] rfl (by simp) (by simp) (by simp)).trans (Wk.of_eq (by simp only [RK, List.idxOf?_cons, List.idxOf?_nil, Nat.reduceBEq, Option.map_some, Option.map_none, List.map_cons, List.map_nil, List.getD_cons_zero, List.getD_cons_succ, Bool.false_eq_true, ↓reduceIte, Nat.add_zero, List.append_nil, hre, ren_litE]; rfl)))) ?_
      rintro ⟨j, far', q', p'⟩ ⟨j1, j2, j3, j4⟩
      simp only at j1 j2 j3 j4 ⊢
      have hfl' := j2.len
      have hqn' := nI_len q'
      have hql' : (ints (nI q')).length = q'.length := by rw [ints_length, nI_len]
      by_cases hlt3 : j < A.length
      · obtain ⟨y, hy⟩ : ∃ y, A.getD j 0 = y := ⟨_, rfl⟩
        have hyA : y ∈ A := by rw [← hy, List.getD_eq_getElem?_getD, List.getElem?_eq_getElem hlt3]; exact List.getElem_mem _
        have hyn := hAn y hyA
        have hgi := nI_get A j
        rw [hy] at hgi
        have hAd : A.drop j = y :: A.drop (j + 1) := by
          rw [List.drop_eq_getElem_cons hlt3, ← hy, List.getD_eq_getElem?_getD, List.getElem?_eq_getElem hlt3]; rfl
        have lj := j2.low y hyn
        have lc := j2.low c hc
        have uc := j2.high c hc
        rw [hAd, inner] at j4
        by_cases hneg : far'.getD y 0 < 0
        · rw [if_pos hneg] at j4
          obtain ⟨x1, x2⟩ := j2.push hyn hc hneg
          have hap : ints (nI q') ++ ints [(y : Int)] = ints (nI (q' ++ [y])) := by rw [nI_app, ints_append]
          have qb : q'.length ≤ 1000 := by omega
          cases p'
          · have hapl : ∀ h : List AObj, aAppend Tryz.prog 47 h (.lit q'.length (ints (nI q'))) (.lit 1 [.val (.int .i64 (y : Int))]) = some (.ref h.length 0 (q'.length + 1) (q'.length + 1), h ++ [⟨3, 1, ints (nI q' ++ [(y : Int)])⟩]) := fun h => append_litG hqn' (by omega)
            simp (disch := first | assumption | omega | rfl | simp only [hAt_app, hAt_app0, List.getElem?_cons_zero, List.getElem?_cons_succ]) only [↓RP, RG, FX, decide_eq_true, decide_eq_false, Bool.not_true, Bool.not_false, Option.map_some, List.map_cons, List.map_nil, List.getElem?_cons_zero, List.getElem?_cons_succ, ↓reduceIte, Nat.reduceEqDiff, reduceCtorEq, decide_eq_true_eq, decide_eq_false_iff_not, Option.map_none, Option.bind_some, List.contains_nil, List.contains_cons, Nat.reduceBEq, Bool.or_false, Bool.false_or, Bool.or_self, List.set_cons_zero, List.set_cons_succ, List.take_succ_cons, List.take_zero, List.drop_succ_cons, List.drop_zero, List.length_cons, List.length_nil, List.length_append, Nat.reduceAdd, Nat.reduceLeDiff, List.all_cons, List.all_nil, Bool.and_true, and_true, true_and, and_self, ne_eq, not_false_eq_true, List.cons_append, List.nil_append, List.append_nil, List.append_assoc, Nat.zero_add, Nat.add_zero, Int.toNat_natCast, qw, qk, hql', hgi, hapl]
            exact ⟨(j + 1, far'.set y (far'.getD c 0 + 1), q' ++ [y], true), ⟨by simp only; omega, x1, by simp only [List.length_append, List.length_singleton]; omega, j4⟩, by simp only [qw, qk, nI_app, List.length_append, List.length_singleton]; rfl, by simp only; omega⟩
          · simp (disch := first | assumption | omega | rfl | simp only [hAt_app, hAt_app0, List.getElem?_cons_zero, List.getElem?_cons_succ]) only [↓RP, RG, FX, decide_eq_true, decide_eq_false, Bool.not_true, Bool.not_false, Option.map_some, List.map_cons, List.map_nil, List.getElem?_cons_zero, List.getElem?_cons_succ, ↓reduceIte, Nat.reduceEqDiff, reduceCtorEq, decide_eq_true_eq, decide_eq_false_iff_not, Option.map_none, Option.bind_some, List.contains_nil, List.contains_cons, Nat.reduceBEq, Bool.or_false, Bool.false_or, Bool.or_self, List.set_cons_zero, List.set_cons_succ, List.take_succ_cons, List.take_zero, List.drop_succ_cons, List.drop_zero, List.length_cons, List.length_nil, List.length_append, Nat.reduceAdd, Nat.reduceLeDiff, List.all_cons, List.all_nil, Bool.and_true, and_true, true_and, and_self, ne_eq, not_false_eq_true, List.cons_append, List.nil_append, List.append_nil, List.append_assoc, Nat.zero_add, Nat.add_zero, Int.toNat_natCast, qw, qk, hql', hgi, append_ref1, apRI_ints]
            exact ⟨(j + 1, far'.set y (far'.getD c 0 + 1), q' ++ [y], true), ⟨by simp only; omega, x1, by simp only [List.length_append, List.length_singleton]; omega, j4⟩, by simp only [qw, qk, nI_app, List.length_append, List.length_singleton]; rfl, by simp only; omega⟩
        · rw [if_neg hneg] at j4
          cases p'
          · simp (disch := first | assumption | omega | rfl | simp only [hAt_app, hAt_app0, List.getElem?_cons_zero, List.getElem?_cons_succ]) only [↓RP, RG, FX, decide_eq_true, decide_eq_false, Bool.not_true, Bool.not_false, Option.map_some, List.map_cons, List.map_nil, List.getElem?_cons_zero, List.getElem?_cons_succ, ↓reduceIte, Nat.reduceEqDiff, reduceCtorEq, decide_eq_true_eq, decide_eq_false_iff_not, Option.map_none, Option.bind_some, List.contains_nil, List.contains_cons, Nat.reduceBEq, Bool.or_false, Bool.false_or, Bool.or_self, List.set_cons_zero, List.set_cons_succ, List.take_succ_cons, List.take_zero, List.drop_succ_cons, List.drop_zero, List.length_cons, List.length_nil, List.length_append, Nat.reduceAdd, Nat.reduceLeDiff, List.all_cons, List.all_nil, Bool.and_true, and_true, true_and, and_self, ne_eq, not_false_eq_true, List.cons_append, List.nil_append, List.append_nil, List.append_assoc, Nat.zero_add, Nat.add_zero, Int.toNat_natCast, qw, qk, hql', hgi]
            exact ⟨(j + 1, far', q', false), ⟨by simp only; omega, j2, j3, j4⟩, rfl, by simp only; omega⟩
          · simp (disch := first | assumption | omega | rfl | simp only [hAt_app, hAt_app0, List.getElem?_cons_zero, List.getElem?_cons_succ]) only [↓RP, RG, FX, decide_eq_true, decide_eq_false, Bool.not_true, Bool.not_false, Option.map_some, List.map_cons, List.map_nil, List.getElem?_cons_zero, List.getElem?_cons_succ, ↓reduceIte, Nat.reduceEqDiff, reduceCtorEq, decide_eq_true_eq, decide_eq_false_iff_not, Option.map_none, Option.bind_some, List.contains_nil, List.contains_cons, Nat.reduceBEq, Bool.or_false, Bool.false_or, Bool.or_self, List.set_cons_zero, List.set_cons_succ, List.take_succ_cons, List.take_zero, List.drop_succ_cons, List.drop_zero, List.length_cons, List.length_nil, List.length_append, Nat.reduceAdd, Nat.reduceLeDiff, List.all_cons, List.all_nil, Bool.and_true, and_true, true_and, and_self, ne_eq, not_false_eq_true, List.cons_append, List.nil_append, List.append_nil, List.append_assoc, Nat.zero_add, Nat.add_zero, Int.toNat_natCast, qw, qk, hql', hgi]
            exact ⟨(j + 1, far', q', true), ⟨by simp only; omega, j2, j3, j4⟩, rfl, by simp only; omega⟩
      · obtain rfl : j = A.length := by omega
        rw [List.drop_length, inner] at j4
        have y1 := congrArg Prod.fst j4
        have y2 := congrArg Prod.snd j4
        simp only at y1 y2
        rw [← y1, ← y2] at e3
        have hm := hin.2
        rw [← y1, ← y2] at hm
        cases p'
        · simp (disch := first | assumption | omega | rfl | simp only [hAt_app, hAt_app0, List.getElem?_cons_zero, List.getElem?_cons_succ]) only [↓RP, RG, FX, decide_eq_true, decide_eq_false, Bool.not_true, Bool.not_false, Option.map_some, List.map_cons, List.map_nil, List.getElem?_cons_zero, List.getElem?_cons_succ, ↓reduceIte, Nat.reduceEqDiff, reduceCtorEq, decide_eq_true_eq, decide_eq_false_iff_not, Option.map_none, Option.bind_some, List.contains_nil, List.contains_cons, Nat.reduceBEq, Bool.or_false, Bool.false_or, Bool.or_self, List.set_cons_zero, List.set_cons_succ, List.take_succ_cons, List.take_zero, List.drop_succ_cons, List.drop_zero, List.length_cons, List.length_nil, List.length_append, Nat.reduceAdd, Nat.reduceLeDiff, List.all_cons, List.all_nil, Bool.and_true, and_true, true_and, and_self, ne_eq, not_false_eq_true, List.cons_append, List.nil_append, List.append_nil, List.append_assoc, Nat.zero_add, Nat.add_zero, Int.toNat_natCast, qw, qk, hql']
          exact ⟨(far', q', false), ⟨j2, j3, e3⟩, rfl, by simp only; omega⟩
        · simp (disch := first | assumption | omega | rfl | simp only [hAt_app, hAt_app0, List.getElem?_cons_zero, List.getElem?_cons_succ]) only [↓RP, RG, FX, decide_eq_true, decide_eq_false, Bool.not_true, Bool.not_false, Option.map_some, List.map_cons, List.map_nil, List.getElem?_cons_zero, List.getElem?_cons_succ, ↓reduceIte, Nat.reduceEqDiff, reduceCtorEq, decide_eq_true_eq, decide_eq_false_iff_not, Option.map_none, Option.bind_some, List.contains_nil, List.contains_cons, Nat.reduceBEq, Bool.or_false, Bool.false_or, Bool.or_self, List.set_cons_zero, List.set_cons_succ, List.take_succ_cons, List.take_zero, List.drop_succ_cons, List.drop_zero, List.length_cons, List.length_nil, List.length_append, Nat.reduceAdd, Nat.reduceLeDiff, List.all_cons, List.all_nil, Bool.and_true, and_true, true_and, and_self, ne_eq, not_false_eq_true, List.cons_append, List.nil_append, List.append_nil, List.append_assoc, Nat.zero_add, Nat.add_zero, Int.toNat_natCast, qw, qk, hql']
          exact ⟨(far', q', true), ⟨j2, j3, e3⟩, rfl, by simp only; omega⟩
end Go.Proofs.YtkcicgadggiklaaGreatDoor

/- What is reached, of both. -/
set_option linter.unusedSimpArgs false
set_option linter.unusedVariables false
set_option maxRecDepth 100000
namespace Go.Proofs.YtkcicgadggiklaaGreatDoor
open Go Go.Proofs Go.AW

/-- The first k numbers, those with a distance. -/
def upN (far : List Int) : Nat → List Int
  | 0 => []
  | k + 1 => if 0 ≤ far.getD k 0 then upN far k ++ [(k : Int)] else upN far k
theorem upN_le (far : List Int) (k : Nat) : (upN far k).length ≤ k := by
  induction k with
  | zero => exact Nat.le_refl _
  | succ k ih => simp only [upN]; split; (simp only [List.length_append, List.length_singleton]; omega); omega
theorem pos_c (x : Int) : Contract Tryz.prog 46 [I x] (B (decide (0 ≤ x))) := by
  refine Contract.intro (effS [] false) 6 follows Tryz.func46 rfl rfl (by kernel_rfl) (Nat.le_of_ble_eq_true rfl) ?_
  by_cases h : 0 ≤ x
  · simp (disch := first | assumption | omega | rfl | simp only [hAt_app, hAt_app0, List.getElem?_cons_zero, List.getElem?_cons_succ]) only [↓RP, RG, FX, decide_eq_true, decide_eq_false, Bool.not_true, Bool.not_false, Option.map_some, List.map_cons, List.map_nil, List.getElem?_cons_zero, List.getElem?_cons_succ, ↓reduceIte, Nat.reduceEqDiff, reduceCtorEq, decide_eq_true_eq, decide_eq_false_iff_not, Option.map_none, Option.bind_some, List.contains_nil, List.contains_cons, Nat.reduceBEq, Bool.or_false, Bool.false_or, Bool.or_self, List.set_cons_zero, List.set_cons_succ, List.take_succ_cons, List.take_zero, List.drop_succ_cons, List.drop_zero, List.length_cons, List.length_nil, List.length_append, Nat.reduceAdd, Nat.reduceLeDiff, List.all_cons, List.all_nil, Bool.and_true, and_true, true_and, and_self, ne_eq, not_false_eq_true, List.cons_append, List.nil_append, List.append_nil, List.append_assoc, Nat.zero_add, Nat.add_zero, Int.toNat_natCast, args0_1]
    rw [resVal_1 rfl]; simp (disch := first | assumption | omega | rfl | simp only [hAt_app, hAt_app0, List.getElem?_cons_zero, List.getElem?_cons_succ]) only [↓RP, RG, FX, decide_eq_true, decide_eq_false, Bool.not_true, Bool.not_false, Option.map_some, List.map_cons, List.map_nil, List.getElem?_cons_zero, List.getElem?_cons_succ, ↓reduceIte, Nat.reduceEqDiff, reduceCtorEq, decide_eq_true_eq, decide_eq_false_iff_not, Option.map_none, Option.bind_some, List.contains_nil, List.contains_cons, Nat.reduceBEq, Bool.or_false, Bool.false_or, Bool.or_self, List.set_cons_zero, List.set_cons_succ, List.take_succ_cons, List.take_zero, List.drop_succ_cons, List.drop_zero, List.length_cons, List.length_nil, List.length_append, Nat.reduceAdd, Nat.reduceLeDiff, List.all_cons, List.all_nil, Bool.and_true, and_true, true_and, and_self, ne_eq, not_false_eq_true, List.cons_append, List.nil_append, List.append_nil, List.append_assoc, Nat.zero_add, Nat.add_zero, Int.toNat_natCast, RS]
    first | done | simp [h]
  · simp (disch := first | assumption | omega | rfl | simp only [hAt_app, hAt_app0, List.getElem?_cons_zero, List.getElem?_cons_succ]) only [↓RP, RG, FX, decide_eq_true, decide_eq_false, Bool.not_true, Bool.not_false, Option.map_some, List.map_cons, List.map_nil, List.getElem?_cons_zero, List.getElem?_cons_succ, ↓reduceIte, Nat.reduceEqDiff, reduceCtorEq, decide_eq_true_eq, decide_eq_false_iff_not, Option.map_none, Option.bind_some, List.contains_nil, List.contains_cons, Nat.reduceBEq, Bool.or_false, Bool.false_or, Bool.or_self, List.set_cons_zero, List.set_cons_succ, List.take_succ_cons, List.take_zero, List.drop_succ_cons, List.drop_zero, List.length_cons, List.length_nil, List.length_append, Nat.reduceAdd, Nat.reduceLeDiff, List.all_cons, List.all_nil, Bool.and_true, and_true, true_and, and_self, ne_eq, not_false_eq_true, List.cons_append, List.nil_append, List.append_nil, List.append_assoc, Nat.zero_add, Nat.add_zero, Int.toNat_natCast, args0_1]
    rw [resVal_1 rfl]; simp (disch := first | assumption | omega | rfl | simp only [hAt_app, hAt_app0, List.getElem?_cons_zero, List.getElem?_cons_succ]) only [↓RP, RG, FX, decide_eq_true, decide_eq_false, Bool.not_true, Bool.not_false, Option.map_some, List.map_cons, List.map_nil, List.getElem?_cons_zero, List.getElem?_cons_succ, ↓reduceIte, Nat.reduceEqDiff, reduceCtorEq, decide_eq_true_eq, decide_eq_false_iff_not, Option.map_none, Option.bind_some, List.contains_nil, List.contains_cons, Nat.reduceBEq, Bool.or_false, Bool.false_or, Bool.or_self, List.set_cons_zero, List.set_cons_succ, List.take_succ_cons, List.take_zero, List.drop_succ_cons, List.drop_zero, List.length_cons, List.length_nil, List.length_append, Nat.reduceAdd, Nat.reduceLeDiff, List.all_cons, List.all_nil, Bool.and_true, and_true, true_and, and_self, ne_eq, not_false_eq_true, List.cons_append, List.nil_append, List.append_nil, List.append_assoc, Nat.zero_add, Nat.add_zero, Int.toNat_natCast, RS]
    first | done | simp [h]
theorem where_c (b : Bool) (far : List Int) (hl : far.length ≤ 100000) : Contract Tryz.prog 44 [LA b far, .func (.func 46) [] []] (LR (upN far far.length).isEmpty (upN far far.length)) := by
  refine Contract.intro (effS [] false) 6 follows Tryz.func44 rfl rfl (by kernel_rfl) (Nat.le_of_ble_eq_true rfl) ?_
  simp (disch := first | assumption | omega | rfl | simp only [hAt_app, hAt_app0, List.getElem?_cons_zero, List.getElem?_cons_succ]) only [↓RP, RG, FX, decide_eq_true, decide_eq_false, Bool.not_true, Bool.not_false, Option.map_some, List.map_cons, List.map_nil, List.getElem?_cons_zero, List.getElem?_cons_succ, ↓reduceIte, Nat.reduceEqDiff, reduceCtorEq, decide_eq_true_eq, decide_eq_false_iff_not, Option.map_none, Option.bind_some, List.contains_nil, List.contains_cons, Nat.reduceBEq, Bool.or_false, Bool.false_or, Bool.or_self, List.set_cons_zero, List.set_cons_succ, List.take_succ_cons, List.take_zero, List.drop_succ_cons, List.drop_zero, List.length_cons, List.length_nil, List.length_append, Nat.reduceAdd, Nat.reduceLeDiff, List.all_cons, List.all_nil, Bool.and_true, and_true, true_and, and_self, ne_eq, not_false_eq_true, List.cons_append, List.nil_append, List.append_nil, List.append_assoc, Nat.zero_add, Nat.add_zero, Int.toNat_natCast, args0_2]
  refine loopK_W [1, 5, 8, 9, 10] (fun k : Nat => k ≤ far.length) (fun k : Nat => ⟨[(1, .func (.func 46) [] []), (5, gw true 0 (ints (upN far k))), (8, LA b far), (9, I far.length), (10, I k)], [go 3 (ints (upN far k))]⟩) (fun k => far.length - k) 0 (by omega) ?_ ?_
  · simp only [↓RP, RG, FX, decide_eq_true, decide_eq_false, Bool.not_true, Bool.not_false, Option.map_some, List.map_cons, List.map_nil, List.getElem?_cons_zero, List.getElem?_cons_succ, ↓reduceIte, Nat.reduceEqDiff, reduceCtorEq, decide_eq_true_eq, decide_eq_false_iff_not, Option.map_none, Option.bind_some, List.contains_nil, List.contains_cons, Nat.reduceBEq, Bool.or_false, Bool.false_or, Bool.or_self, List.set_cons_zero, List.set_cons_succ, List.take_succ_cons, List.take_zero, List.drop_succ_cons, List.drop_zero, List.length_cons, List.length_nil, List.length_append, Nat.reduceAdd, Nat.reduceLeDiff, List.all_cons, List.all_nil, Bool.and_true, and_true, true_and, and_self, ne_eq, not_false_eq_true, List.cons_append, List.nil_append, List.append_nil, List.append_assoc, Nat.zero_add, Nat.add_zero, Int.toNat_natCast]
    exact Wk.weak (WE.cons _ (.refl _) (WE.cons _ (.nil _) (WE.cons _ (.refl _) (WE.cons _ (.refl _) (WE.cons _ (.refl _) WE.nil))))) (.nil _ (by simp [go, ints, upN]))
  intro k hk
  have hle := upN_le far k
  by_cases hlt : k < far.length
  · simp (disch := first | assumption | omega | rfl | simp only [hAt_app, hAt_app0, List.getElem?_cons_zero, List.getElem?_cons_succ]) only [↓RP, RG, FX, decide_eq_true, decide_eq_false, Bool.not_true, Bool.not_false, Option.map_some, List.map_cons, List.map_nil, List.getElem?_cons_zero, List.getElem?_cons_succ, ↓reduceIte, Nat.reduceEqDiff, reduceCtorEq, decide_eq_true_eq, decide_eq_false_iff_not, Option.map_none, Option.bind_some, List.contains_nil, List.contains_cons, Nat.reduceBEq, Bool.or_false, Bool.false_or, Bool.or_self, List.set_cons_zero, List.set_cons_succ, List.take_succ_cons, List.take_zero, List.drop_succ_cons, List.drop_zero, List.length_cons, List.length_nil, List.length_append, Nat.reduceAdd, Nat.reduceLeDiff, List.all_cons, List.all_nil, Bool.and_true, and_true, true_and, and_self, ne_eq, not_false_eq_true, List.cons_append, List.nil_append, List.append_nil, List.append_assoc, Nat.zero_add, Nat.add_zero, Int.toNat_natCast]
    refine callK_V 6 (pos_c (far.getD k 0)) (by simp (disch := first | assumption | omega | rfl | simp only [hAt_app, hAt_app0, List.getElem?_cons_zero, List.getElem?_cons_succ]) only [↓RP, RG, FX, decide_eq_true, decide_eq_false, Bool.not_true, Bool.not_false, Option.map_some, List.map_cons, List.map_nil, List.getElem?_cons_zero, List.getElem?_cons_succ, ↓reduceIte, Nat.reduceEqDiff, reduceCtorEq, decide_eq_true_eq, decide_eq_false_iff_not, Option.map_none, Option.bind_some, List.contains_nil, List.contains_cons, Nat.reduceBEq, Bool.or_false, Bool.false_or, Bool.or_self, List.set_cons_zero, List.set_cons_succ, List.take_succ_cons, List.take_zero, List.drop_succ_cons, List.drop_zero, List.length_cons, List.length_nil, List.length_append, Nat.reduceAdd, Nat.reduceLeDiff, List.all_cons, List.all_nil, Bool.and_true, and_true, true_and, and_self, ne_eq, not_false_eq_true, List.cons_append, List.nil_append, List.append_nil, List.append_assoc, Nat.zero_add, Nat.add_zero, Int.toNat_natCast, RA] <;> rfl) (.inl (by simp [allFresh, ints_fresh, bools_fresh])) ?_
    by_cases h0 : 0 ≤ far.getD k 0
    · simp (disch := first | assumption | omega | rfl | simp only [hAt_app, hAt_app0, List.getElem?_cons_zero, List.getElem?_cons_succ]) only [↓RP, RG, FX, decide_eq_true, decide_eq_false, Bool.not_true, Bool.not_false, Option.map_some, List.map_cons, List.map_nil, List.getElem?_cons_zero, List.getElem?_cons_succ, ↓reduceIte, Nat.reduceEqDiff, reduceCtorEq, decide_eq_true_eq, decide_eq_false_iff_not, Option.map_none, Option.bind_some, List.contains_nil, List.contains_cons, Nat.reduceBEq, Bool.or_false, Bool.false_or, Bool.or_self, List.set_cons_zero, List.set_cons_succ, List.take_succ_cons, List.take_zero, List.drop_succ_cons, List.drop_zero, List.length_cons, List.length_nil, List.length_append, Nat.reduceAdd, Nat.reduceLeDiff, List.all_cons, List.all_nil, Bool.and_true, and_true, true_and, and_self, ne_eq, not_false_eq_true, List.cons_append, List.nil_append, List.append_nil, List.append_assoc, Nat.zero_add, Nat.add_zero, Int.toNat_natCast, append_int]
      exact ⟨k + 1, by omega, by rw [upN, if_pos h0]; rfl, by omega⟩
    · simp (disch := first | assumption | omega | rfl | simp only [hAt_app, hAt_app0, List.getElem?_cons_zero, List.getElem?_cons_succ]) only [↓RP, RG, FX, decide_eq_true, decide_eq_false, Bool.not_true, Bool.not_false, Option.map_some, List.map_cons, List.map_nil, List.getElem?_cons_zero, List.getElem?_cons_succ, ↓reduceIte, Nat.reduceEqDiff, reduceCtorEq, decide_eq_true_eq, decide_eq_false_iff_not, Option.map_none, Option.bind_some, List.contains_nil, List.contains_cons, Nat.reduceBEq, Bool.or_false, Bool.false_or, Bool.or_self, List.set_cons_zero, List.set_cons_succ, List.take_succ_cons, List.take_zero, List.drop_succ_cons, List.drop_zero, List.length_cons, List.length_nil, List.length_append, Nat.reduceAdd, Nat.reduceLeDiff, List.all_cons, List.all_nil, Bool.and_true, and_true, true_and, and_self, ne_eq, not_false_eq_true, List.cons_append, List.nil_append, List.append_nil, List.append_assoc, Nat.zero_add, Nat.add_zero, Int.toNat_natCast]
      exact ⟨k + 1, by omega, by rw [upN, if_neg h0]; rfl, by omega⟩
  · obtain rfl : k = far.length := by omega
    simp (disch := first | assumption | omega | rfl | simp only [hAt_app, hAt_app0, List.getElem?_cons_zero, List.getElem?_cons_succ]) only [↓RP, RG, FX, decide_eq_true, decide_eq_false, Bool.not_true, Bool.not_false, Option.map_some, List.map_cons, List.map_nil, List.getElem?_cons_zero, List.getElem?_cons_succ, ↓reduceIte, Nat.reduceEqDiff, reduceCtorEq, decide_eq_true_eq, decide_eq_false_iff_not, Option.map_none, Option.bind_some, List.contains_nil, List.contains_cons, Nat.reduceBEq, Bool.or_false, Bool.false_or, Bool.or_self, List.set_cons_zero, List.set_cons_succ, List.take_succ_cons, List.take_zero, List.drop_succ_cons, List.drop_zero, List.length_cons, List.length_nil, List.length_append, Nat.reduceAdd, Nat.reduceLeDiff, List.all_cons, List.all_nil, Bool.and_true, and_true, true_and, and_self, ne_eq, not_false_eq_true, List.cons_append, List.nil_append, List.append_nil, List.append_assoc, Nat.zero_add, Nat.add_zero, Int.toNat_natCast]
    rw [resVal_1 rfl]; simp (disch := first | assumption | omega | rfl | simp only [hAt_app, hAt_app0, List.getElem?_cons_zero, List.getElem?_cons_succ]) only [↓RP, RG, FX, decide_eq_true, decide_eq_false, Bool.not_true, Bool.not_false, Option.map_some, List.map_cons, List.map_nil, List.getElem?_cons_zero, List.getElem?_cons_succ, ↓reduceIte, Nat.reduceEqDiff, reduceCtorEq, decide_eq_true_eq, decide_eq_false_iff_not, Option.map_none, Option.bind_some, List.contains_nil, List.contains_cons, Nat.reduceBEq, Bool.or_false, Bool.false_or, Bool.or_self, List.set_cons_zero, List.set_cons_succ, List.take_succ_cons, List.take_zero, List.drop_succ_cons, List.drop_zero, List.length_cons, List.length_nil, List.length_append, Nat.reduceAdd, Nat.reduceLeDiff, List.all_cons, List.all_nil, Bool.and_true, and_true, true_and, and_self, ne_eq, not_false_eq_true, List.cons_append, List.nil_append, List.append_nil, List.append_assoc, Nat.zero_add, Nat.add_zero, Int.toNat_natCast, RS]
    simp only [Bool.true_and, ints_isEmpty]
/-- Those that hang on a. -/
def upon (W n : Nat) (l : List Bool) (a : Nat) : List Int := upN (srch (adjT W n l) (far0 n a) [a]) n
theorem bfs_len {n : Nat} {adj : Nat → List Nat} (ha : ∀ c, c < n → ∀ b ∈ adj c, b < n) : ∀ (k : Nat) (far : List Int) (q : List Nat), Sound n far q → (bfs adj k far q).length = n
  | 0, far, q, h => h.len
  | k + 1, far, [], h => h.len
  | k + 1, far, c :: q, h => bfs_len ha k _ _ (inner_ok (h.mem c List.mem_cons_self) (adj c) far q (ha c (h.mem c List.mem_cons_self)) h.tail).1
theorem srch_len {W n : Nat} (l : List Bool) {a : Nat} (ha : a < n) : (srch (adjT W n l) (far0 n a) [a]).length = n :=
  bfs_len (fun c hc x hx => adjT_lt hx) _ _ _ (far0_sound ha).1
end Go.Proofs.YtkcicgadggiklaaGreatDoor

/- The least set, of both. -/
set_option linter.unusedSimpArgs false
set_option linter.unusedVariables false
set_option maxRecDepth 100000
namespace Go.Proofs.YtkcicgadggiklaaGreatDoor
open Go Go.Proofs Go.AW

theorem inner_keep {n c a : Nat} (hc : c < n) : ∀ (adj : List Nat) (far : List Int) (q : List Nat), (∀ b ∈ adj, b < n) → Sound n far q → 0 ≤ far.getD a 0 → 0 ≤ (inner c adj (far, q)).1.getD a 0
  | [], far, q, _, _, h => h
  | b :: r, far, q, ha, hs, h => by
    have ha' : ∀ x ∈ r, x < n := fun x hx => ha x (List.mem_cons_of_mem _ hx)
    simp only [inner]
    split
    · rename_i hneg
      obtain ⟨h1, h2⟩ := hs.push (ha b List.mem_cons_self) hc hneg
      refine inner_keep hc r _ _ ha' h1 ?_
      have hb : b < far.length := by rw [hs.len]; exact ha b List.mem_cons_self
      rw [getD_set' hb]
      have hab : a ≠ b := fun e => by subst e; omega
      rw [if_neg hab]; exact h
    · exact inner_keep hc r far q ha' hs h
theorem bfs_keep {n a : Nat} {adj : Nat → List Nat} (ha : ∀ c, c < n → ∀ b ∈ adj c, b < n) : ∀ (k : Nat) (far : List Int) (q : List Nat), Sound n far q → 0 ≤ far.getD a 0 → 0 ≤ (bfs adj k far q).getD a 0
  | 0, far, q, _, h => h
  | k + 1, far, [], _, h => h
  | k + 1, far, c :: q, hs, h =>
    have hc := hs.mem c List.mem_cons_self
    bfs_keep ha k _ _ (inner_ok hc (adj c) far q (ha c hc) hs.tail).1 (inner_keep hc (adj c) far q (ha c hc) hs.tail h)
theorem srch_self {W n : Nat} (l : List Bool) {a : Nat} (ha : a < n) : 0 ≤ (srch (adjT W n l) (far0 n a) [a]).getD a 0 := by
  refine bfs_keep (fun c hc x hx => adjT_lt hx) _ _ _ (far0_sound ha).1 ?_
  unfold far0
  rw [getD_set' (by simpa using ha), if_pos rfl]; omega
theorem upN_pos {far : List Int} {a : Nat} (h : 0 ≤ far.getD a 0) : ∀ k, a < k → 0 < (upN far k).length := by
  intro k
  induction k with
  | zero => intro h; omega
  | succ k ih =>
    intro hk
    simp only [upN]
    by_cases e : a = k
    · subst e; rw [if_pos h]; simp
    · have := ih (by omega)
      split
      · simp
      · exact this
theorem upon_pos {W n : Nat} (l : List Bool) {a : Nat} (ha : a < n) : 0 < (upon W n l a).length := upN_pos (srch_self l ha) n ha
theorem upon_le (W n : Nat) (l : List Bool) (a : Nat) : (upon W n l a).length ≤ n := upN_le _ _
theorem isEmpty_pos {l : List Int} (h : 0 < l.length) : l.isEmpty = false := by cases l with | nil => simp at h | cons x r => rfl

/-- The one is the less. -/
def less (x y : List Int) : Prop := x.length < y.length ∨ x.length = y.length ∧ x.getD 0 0 < y.getD 0 0
instance (x y : List Int) : Decidable (less x y) := by unfold less; infer_instance
/-- The least of the first k + 1. -/
def best (W n : Nat) (l : List Bool) : Nat → List Int
  | 0 => upon W n l 0
  | k + 1 => if less (upon W n l (k + 1)) (best W n l k) then upon W n l (k + 1) else best W n l k
theorem best_ok {W n : Nat} (l : List Bool) : ∀ k, k < n → 0 < (best W n l k).length ∧ (best W n l k).length ≤ n := by
  intro k
  induction k with
  | zero => intro h; exact ⟨upon_pos l h, upon_le _ _ _ _⟩
  | succ k ih =>
    intro h
    simp only [best]
    split
    · exact ⟨upon_pos l h, upon_le _ _ _ _⟩
    · exact ih (by omega)

end Go.Proofs.YtkcicgadggiklaaGreatDoor

/- The least set, by the program; Apart and Hangs of both. -/
set_option linter.unusedSimpArgs false
set_option linter.unusedVariables false
set_option maxRecDepth 100000
namespace Go.Proofs.YtkcicgadggiklaaGreatDoor
open Go Go.Proofs Go.AW

def bst (W n : Nat) (l : List Bool) : Nat → AVal
  | 0 => .cap0 true
  | k + 1 => LR false (best W n l k)
theorem argOf_LL (h : List AObj) (m : Nat) (rs : List (List Int)) : (LL rs).map (argOf h (m + 2)) = LLa rs := by
  simp only [LL, LLa, List.map_map]
  refine List.map_congr_left fun r _ => ?_
  show argOf h (m + 2) (LR r.isEmpty r) = LA r.isEmpty r
  simp only [LR, LA, RA]
theorem firstP_c {W n : Nat} (hn0 : 0 < n) (hn : n ≤ 40) (l : List Bool) (lz : List AVal) :
    Contract Tryz.prog 35 [.agg [.list false false n lz, .list false false n (LLa (abv W n l))]] (LR false (best W n l (n - 1))) := by
  have hre : ∀ (a : Nat), a < n → Contract Tryz.prog 45 [.list false false n (LLa (abv W n l)), I a] (LR false (srch (adjT W n l) (far0 n a) [a])) := fun a ha => reached_c hn l ha
  have hag : ∀ (h : List AObj) (m : Nat), (LLa (abv W n l)).map (argOf h (m + 2)) = LLa (abv W n l) := by
    intro h m
    simp only [LLa, List.map_map]
    refine List.map_congr_left fun r _ => ?_
    show argOf h (m + 2) (LA r.isEmpty r) = LA r.isEmpty r
    simp only [LA, RA]
  generalize LLa (abv W n l) = lb at *
  refine Contract.intro (effS [] false) 6 follows Tryz.func35 rfl rfl (by kernel_rfl) (Nat.le_of_ble_eq_true rfl) ?_
  simp (disch := first | assumption | omega | rfl | simp only [hAt_app, hAt_app0, List.getElem?_cons_zero, List.getElem?_cons_succ]) only [↓RP, RG, FX, decide_eq_true, decide_eq_false, Bool.not_true, Bool.not_false, Option.map_some, List.map_cons, List.map_nil, List.getElem?_cons_zero, List.getElem?_cons_succ, ↓reduceIte, Nat.reduceEqDiff, reduceCtorEq, decide_eq_true_eq, decide_eq_false_iff_not, Option.map_none, Option.bind_some, List.contains_nil, List.contains_cons, Nat.reduceBEq, Bool.or_false, Bool.false_or, Bool.or_self, List.set_cons_zero, List.set_cons_succ, List.take_succ_cons, List.take_zero, List.drop_succ_cons, List.drop_zero, List.length_cons, List.length_nil, List.length_append, Nat.reduceAdd, Nat.reduceLeDiff, List.all_cons, List.all_nil, Bool.and_true, and_true, true_and, and_self, ne_eq, not_false_eq_true, List.cons_append, List.nil_append, List.append_nil, List.append_assoc, Nat.zero_add, Nat.add_zero, Int.toNat_natCast, args0_1]
  refine loopK_I [1, 3, 8, 9] (fun k : Nat => k ≤ n) (fun k : Nat => ⟨[(1, .ptr 0 0 2), (3, bst W n l k), (8, I n), (9, I k)], [⟨63, 2, [.list false false n lz, .list false false n lb]⟩]⟩) (fun k => n - k) 0 (by omega) (by simp only [↓RP, RG, FX, decide_eq_true, decide_eq_false, Bool.not_true, Bool.not_false, Option.map_some, List.map_cons, List.map_nil, List.getElem?_cons_zero, List.getElem?_cons_succ, ↓reduceIte, Nat.reduceEqDiff, reduceCtorEq, decide_eq_true_eq, decide_eq_false_iff_not, Option.map_none, Option.bind_some, List.contains_nil, List.contains_cons, Nat.reduceBEq, Bool.or_false, Bool.false_or, Bool.or_self, List.set_cons_zero, List.set_cons_succ, List.take_succ_cons, List.take_zero, List.drop_succ_cons, List.drop_zero, List.length_cons, List.length_nil, List.length_append, Nat.reduceAdd, Nat.reduceLeDiff, List.all_cons, List.all_nil, Bool.and_true, and_true, true_and, and_self, ne_eq, not_false_eq_true, List.cons_append, List.nil_append, List.append_nil, List.append_assoc, Nat.zero_add, Nat.add_zero, Int.toNat_natCast]; rfl) ?_
  intro k hk
  by_cases hlt : k < n
  · have hfl := srch_len (W := W) l hlt
    have hR := hre k hlt
    have hup : upon W n l k = upN (srch (adjT W n l) (far0 n k) [k]) n := rfl
    have u1 := upon_pos (W := W) l hlt
    have u2 := upon_le W n l k
    have hwh := where_c false (srch (adjT W n l) (far0 n k) [k]) (by omega)
    rw [hfl, ← hup, isEmpty_pos u1] at hwh
    generalize srch (adjT W n l) (far0 n k) [k] = far at *
    cases k with
    | zero =>
      have hb : best W n l 0 = upon W n l 0 := rfl
      generalize upon W n l 0 = x at *
      simp (disch := first | assumption | omega | rfl | simp only [hAt_app, hAt_app0, List.getElem?_cons_zero, List.getElem?_cons_succ]) only [↓RP, RG, FX, decide_eq_true, decide_eq_false, Bool.not_true, Bool.not_false, Option.map_some, List.map_cons, List.map_nil, List.getElem?_cons_zero, List.getElem?_cons_succ, ↓reduceIte, Nat.reduceEqDiff, reduceCtorEq, decide_eq_true_eq, decide_eq_false_iff_not, Option.map_none, Option.bind_some, List.contains_nil, List.contains_cons, Nat.reduceBEq, Bool.or_false, Bool.false_or, Bool.or_self, List.set_cons_zero, List.set_cons_succ, List.take_succ_cons, List.take_zero, List.drop_succ_cons, List.drop_zero, List.length_cons, List.length_nil, List.length_append, Nat.reduceAdd, Nat.reduceLeDiff, List.all_cons, List.all_nil, Bool.and_true, and_true, true_and, and_self, ne_eq, not_false_eq_true, List.cons_append, List.nil_append, List.append_nil, List.append_assoc, Nat.zero_add, Nat.add_zero, Int.toNat_natCast]
      refine callK_F 6 hR (by simp (disch := first | assumption | omega | rfl | simp only [hAt_app, hAt_app0, List.getElem?_cons_zero, List.getElem?_cons_succ]) only [↓RP, RG, FX, decide_eq_true, decide_eq_false, Bool.not_true, Bool.not_false, Option.map_some, List.map_cons, List.map_nil, List.getElem?_cons_zero, List.getElem?_cons_succ, ↓reduceIte, Nat.reduceEqDiff, reduceCtorEq, decide_eq_true_eq, decide_eq_false_iff_not, Option.map_none, Option.bind_some, List.contains_nil, List.contains_cons, Nat.reduceBEq, Bool.or_false, Bool.false_or, Bool.or_self, List.set_cons_zero, List.set_cons_succ, List.take_succ_cons, List.take_zero, List.drop_succ_cons, List.drop_zero, List.length_cons, List.length_nil, List.length_append, Nat.reduceAdd, Nat.reduceLeDiff, List.all_cons, List.all_nil, Bool.and_true, and_true, true_and, and_self, ne_eq, not_false_eq_true, List.cons_append, List.nil_append, List.append_nil, List.append_assoc, Nat.zero_add, Nat.add_zero, Int.toNat_natCast, RA, hag] <;> rfl) (.inl (by simp [allFresh, ints_fresh])) ?_
      simp (disch := first | assumption | omega | rfl | simp only [hAt_app, hAt_app0, List.getElem?_cons_zero, List.getElem?_cons_succ]) only [↓RP, RG, FX, decide_eq_true, decide_eq_false, Bool.not_true, Bool.not_false, Option.map_some, List.map_cons, List.map_nil, List.getElem?_cons_zero, List.getElem?_cons_succ, ↓reduceIte, Nat.reduceEqDiff, reduceCtorEq, decide_eq_true_eq, decide_eq_false_iff_not, Option.map_none, Option.bind_some, List.contains_nil, List.contains_cons, Nat.reduceBEq, Bool.or_false, Bool.false_or, Bool.or_self, List.set_cons_zero, List.set_cons_succ, List.take_succ_cons, List.take_zero, List.drop_succ_cons, List.drop_zero, List.length_cons, List.length_nil, List.length_append, Nat.reduceAdd, Nat.reduceLeDiff, List.all_cons, List.all_nil, Bool.and_true, and_true, true_and, and_self, ne_eq, not_false_eq_true, List.cons_append, List.nil_append, List.append_nil, List.append_assoc, Nat.zero_add, Nat.add_zero, Int.toNat_natCast]
      refine callK_F 6 hwh (by simp (disch := first | assumption | omega | rfl | simp only [hAt_app, hAt_app0, List.getElem?_cons_zero, List.getElem?_cons_succ]) only [↓RP, RG, FX, decide_eq_true, decide_eq_false, Bool.not_true, Bool.not_false, Option.map_some, List.map_cons, List.map_nil, List.getElem?_cons_zero, List.getElem?_cons_succ, ↓reduceIte, Nat.reduceEqDiff, reduceCtorEq, decide_eq_true_eq, decide_eq_false_iff_not, Option.map_none, Option.bind_some, List.contains_nil, List.contains_cons, Nat.reduceBEq, Bool.or_false, Bool.false_or, Bool.or_self, List.set_cons_zero, List.set_cons_succ, List.take_succ_cons, List.take_zero, List.drop_succ_cons, List.drop_zero, List.length_cons, List.length_nil, List.length_append, Nat.reduceAdd, Nat.reduceLeDiff, List.all_cons, List.all_nil, Bool.and_true, and_true, true_and, and_self, ne_eq, not_false_eq_true, List.cons_append, List.nil_append, List.append_nil, List.append_assoc, Nat.zero_add, Nat.add_zero, Int.toNat_natCast, RA] <;> rfl) (.inl (by simp [allFresh, ints_fresh])) ?_
      simp (disch := first | assumption | omega | rfl | simp only [hAt_app, hAt_app0, List.getElem?_cons_zero, List.getElem?_cons_succ]) only [↓RP, RG, FX, decide_eq_true, decide_eq_false, Bool.not_true, Bool.not_false, Option.map_some, List.map_cons, List.map_nil, List.getElem?_cons_zero, List.getElem?_cons_succ, ↓reduceIte, Nat.reduceEqDiff, reduceCtorEq, decide_eq_true_eq, decide_eq_false_iff_not, Option.map_none, Option.bind_some, List.contains_nil, List.contains_cons, Nat.reduceBEq, Bool.or_false, Bool.false_or, Bool.or_self, List.set_cons_zero, List.set_cons_succ, List.take_succ_cons, List.take_zero, List.drop_succ_cons, List.drop_zero, List.length_cons, List.length_nil, List.length_append, Nat.reduceAdd, Nat.reduceLeDiff, List.all_cons, List.all_nil, Bool.and_true, and_true, true_and, and_self, ne_eq, not_false_eq_true, List.cons_append, List.nil_append, List.append_nil, List.append_assoc, Nat.zero_add, Nat.add_zero, Int.toNat_natCast, bst]
      exact ⟨1, by omega, by rw [← hb]; rfl, by omega⟩
    | succ k =>
      obtain ⟨b1, b2⟩ := best_ok (W := W) (n := n) l k (by omega)
      have hbs : best W n l (k + 1) = if less (upon W n l (k + 1)) (best W n l k) then upon W n l (k + 1) else best W n l k := rfl
      have hb1 : bst W n l (k + 1) = LR false (best W n l k) := rfl
      have hb2 : bst W n l (k + 1 + 1) = LR false (best W n l (k + 1)) := rfl
      generalize upon W n l (k + 1) = x at *
      generalize best W n l k = y at *
      rw [hb1]
      simp (disch := first | assumption | omega | rfl | simp only [hAt_app, hAt_app0, List.getElem?_cons_zero, List.getElem?_cons_succ]) only [↓RP, RG, FX, decide_eq_true, decide_eq_false, Bool.not_true, Bool.not_false, Option.map_some, List.map_cons, List.map_nil, List.getElem?_cons_zero, List.getElem?_cons_succ, ↓reduceIte, Nat.reduceEqDiff, reduceCtorEq, decide_eq_true_eq, decide_eq_false_iff_not, Option.map_none, Option.bind_some, List.contains_nil, List.contains_cons, Nat.reduceBEq, Bool.or_false, Bool.false_or, Bool.or_self, List.set_cons_zero, List.set_cons_succ, List.take_succ_cons, List.take_zero, List.drop_succ_cons, List.drop_zero, List.length_cons, List.length_nil, List.length_append, Nat.reduceAdd, Nat.reduceLeDiff, List.all_cons, List.all_nil, Bool.and_true, and_true, true_and, and_self, ne_eq, not_false_eq_true, List.cons_append, List.nil_append, List.append_nil, List.append_assoc, Nat.zero_add, Nat.add_zero, Int.toNat_natCast]
      refine callK_F 6 hR (by simp (disch := first | assumption | omega | rfl | simp only [hAt_app, hAt_app0, List.getElem?_cons_zero, List.getElem?_cons_succ]) only [↓RP, RG, FX, decide_eq_true, decide_eq_false, Bool.not_true, Bool.not_false, Option.map_some, List.map_cons, List.map_nil, List.getElem?_cons_zero, List.getElem?_cons_succ, ↓reduceIte, Nat.reduceEqDiff, reduceCtorEq, decide_eq_true_eq, decide_eq_false_iff_not, Option.map_none, Option.bind_some, List.contains_nil, List.contains_cons, Nat.reduceBEq, Bool.or_false, Bool.false_or, Bool.or_self, List.set_cons_zero, List.set_cons_succ, List.take_succ_cons, List.take_zero, List.drop_succ_cons, List.drop_zero, List.length_cons, List.length_nil, List.length_append, Nat.reduceAdd, Nat.reduceLeDiff, List.all_cons, List.all_nil, Bool.and_true, and_true, true_and, and_self, ne_eq, not_false_eq_true, List.cons_append, List.nil_append, List.append_nil, List.append_assoc, Nat.zero_add, Nat.add_zero, Int.toNat_natCast, RA, hag] <;> rfl) (.inl (by simp [allFresh, ints_fresh])) ?_
      simp (disch := first | assumption | omega | rfl | simp only [hAt_app, hAt_app0, List.getElem?_cons_zero, List.getElem?_cons_succ]) only [↓RP, RG, FX, decide_eq_true, decide_eq_false, Bool.not_true, Bool.not_false, Option.map_some, List.map_cons, List.map_nil, List.getElem?_cons_zero, List.getElem?_cons_succ, ↓reduceIte, Nat.reduceEqDiff, reduceCtorEq, decide_eq_true_eq, decide_eq_false_iff_not, Option.map_none, Option.bind_some, List.contains_nil, List.contains_cons, Nat.reduceBEq, Bool.or_false, Bool.false_or, Bool.or_self, List.set_cons_zero, List.set_cons_succ, List.take_succ_cons, List.take_zero, List.drop_succ_cons, List.drop_zero, List.length_cons, List.length_nil, List.length_append, Nat.reduceAdd, Nat.reduceLeDiff, List.all_cons, List.all_nil, Bool.and_true, and_true, true_and, and_self, ne_eq, not_false_eq_true, List.cons_append, List.nil_append, List.append_nil, List.append_assoc, Nat.zero_add, Nat.add_zero, Int.toNat_natCast]
      refine callK_F 6 hwh (by simp (disch := first | assumption | omega | rfl | simp only [hAt_app, hAt_app0, List.getElem?_cons_zero, List.getElem?_cons_succ]) only [↓RP, RG, FX, decide_eq_true, decide_eq_false, Bool.not_true, Bool.not_false, Option.map_some, List.map_cons, List.map_nil, List.getElem?_cons_zero, List.getElem?_cons_succ, ↓reduceIte, Nat.reduceEqDiff, reduceCtorEq, decide_eq_true_eq, decide_eq_false_iff_not, Option.map_none, Option.bind_some, List.contains_nil, List.contains_cons, Nat.reduceBEq, Bool.or_false, Bool.false_or, Bool.or_self, List.set_cons_zero, List.set_cons_succ, List.take_succ_cons, List.take_zero, List.drop_succ_cons, List.drop_zero, List.length_cons, List.length_nil, List.length_append, Nat.reduceAdd, Nat.reduceLeDiff, List.all_cons, List.all_nil, Bool.and_true, and_true, true_and, and_self, ne_eq, not_false_eq_true, List.cons_append, List.nil_append, List.append_nil, List.append_assoc, Nat.zero_add, Nat.add_zero, Int.toNat_natCast, RA] <;> rfl) (.inl (by simp [allFresh, ints_fresh])) ?_
      by_cases c1 : x.length < y.length
      · have hl : less x y := .inl c1
        rw [if_pos hl] at hbs
        simp (disch := first | assumption | omega | rfl | simp only [hAt_app, hAt_app0, List.getElem?_cons_zero, List.getElem?_cons_succ]) only [↓RP, RG, FX, decide_eq_true, decide_eq_false, Bool.not_true, Bool.not_false, Option.map_some, List.map_cons, List.map_nil, List.getElem?_cons_zero, List.getElem?_cons_succ, ↓reduceIte, Nat.reduceEqDiff, reduceCtorEq, decide_eq_true_eq, decide_eq_false_iff_not, Option.map_none, Option.bind_some, List.contains_nil, List.contains_cons, Nat.reduceBEq, Bool.or_false, Bool.false_or, Bool.or_self, List.set_cons_zero, List.set_cons_succ, List.take_succ_cons, List.take_zero, List.drop_succ_cons, List.drop_zero, List.length_cons, List.length_nil, List.length_append, Nat.reduceAdd, Nat.reduceLeDiff, List.all_cons, List.all_nil, Bool.and_true, and_true, true_and, and_self, ne_eq, not_false_eq_true, List.cons_append, List.nil_append, List.append_nil, List.append_assoc, Nat.zero_add, Nat.add_zero, Int.toNat_natCast]
        exact ⟨k + 1 + 1, hlt, by rw [hb2, hbs]; rfl, by omega⟩
      · by_cases c2 : x.length = y.length
        · by_cases c3 : x.getD 0 0 < y.getD 0 0
          · have hl : less x y := .inr ⟨c2, c3⟩
            rw [if_pos hl] at hbs
            simp (disch := first | assumption | omega | rfl | simp only [hAt_app, hAt_app0, List.getElem?_cons_zero, List.getElem?_cons_succ]) only [↓RP, RG, FX, decide_eq_true, decide_eq_false, Bool.not_true, Bool.not_false, Option.map_some, List.map_cons, List.map_nil, List.getElem?_cons_zero, List.getElem?_cons_succ, ↓reduceIte, Nat.reduceEqDiff, reduceCtorEq, decide_eq_true_eq, decide_eq_false_iff_not, Option.map_none, Option.bind_some, List.contains_nil, List.contains_cons, Nat.reduceBEq, Bool.or_false, Bool.false_or, Bool.or_self, List.set_cons_zero, List.set_cons_succ, List.take_succ_cons, List.take_zero, List.drop_succ_cons, List.drop_zero, List.length_cons, List.length_nil, List.length_append, Nat.reduceAdd, Nat.reduceLeDiff, List.all_cons, List.all_nil, Bool.and_true, and_true, true_and, and_self, ne_eq, not_false_eq_true, List.cons_append, List.nil_append, List.append_nil, List.append_assoc, Nat.zero_add, Nat.add_zero, Int.toNat_natCast, Int.toNat_zero]
            exact ⟨k + 1 + 1, hlt, by rw [hb2, hbs]; rfl, by omega⟩
          · have hl : ¬ less x y := fun h => h.elim c1 fun h => c3 h.2
            rw [if_neg hl] at hbs
            simp (disch := first | assumption | omega | rfl | simp only [hAt_app, hAt_app0, List.getElem?_cons_zero, List.getElem?_cons_succ]) only [↓RP, RG, FX, decide_eq_true, decide_eq_false, Bool.not_true, Bool.not_false, Option.map_some, List.map_cons, List.map_nil, List.getElem?_cons_zero, List.getElem?_cons_succ, ↓reduceIte, Nat.reduceEqDiff, reduceCtorEq, decide_eq_true_eq, decide_eq_false_iff_not, Option.map_none, Option.bind_some, List.contains_nil, List.contains_cons, Nat.reduceBEq, Bool.or_false, Bool.false_or, Bool.or_self, List.set_cons_zero, List.set_cons_succ, List.take_succ_cons, List.take_zero, List.drop_succ_cons, List.drop_zero, List.length_cons, List.length_nil, List.length_append, Nat.reduceAdd, Nat.reduceLeDiff, List.all_cons, List.all_nil, Bool.and_true, and_true, true_and, and_self, ne_eq, not_false_eq_true, List.cons_append, List.nil_append, List.append_nil, List.append_assoc, Nat.zero_add, Nat.add_zero, Int.toNat_natCast, Int.toNat_zero]
            exact ⟨k + 1 + 1, hlt, by rw [hb2, hbs]; rfl, by omega⟩
        · have hl : ¬ less x y := fun h => h.elim c1 fun h => c2 h.1
          rw [if_neg hl] at hbs
          simp (disch := first | assumption | omega | rfl | simp only [hAt_app, hAt_app0, List.getElem?_cons_zero, List.getElem?_cons_succ]) only [↓RP, RG, FX, decide_eq_true, decide_eq_false, Bool.not_true, Bool.not_false, Option.map_some, List.map_cons, List.map_nil, List.getElem?_cons_zero, List.getElem?_cons_succ, ↓reduceIte, Nat.reduceEqDiff, reduceCtorEq, decide_eq_true_eq, decide_eq_false_iff_not, Option.map_none, Option.bind_some, List.contains_nil, List.contains_cons, Nat.reduceBEq, Bool.or_false, Bool.false_or, Bool.or_self, List.set_cons_zero, List.set_cons_succ, List.take_succ_cons, List.take_zero, List.drop_succ_cons, List.drop_zero, List.length_cons, List.length_nil, List.length_append, Nat.reduceAdd, Nat.reduceLeDiff, List.all_cons, List.all_nil, Bool.and_true, and_true, true_and, and_self, ne_eq, not_false_eq_true, List.cons_append, List.nil_append, List.append_nil, List.append_assoc, Nat.zero_add, Nat.add_zero, Int.toNat_natCast]
          exact ⟨k + 1 + 1, hlt, by rw [hb2, hbs]; rfl, by omega⟩
  · obtain rfl : k = n := by omega
    obtain ⟨m, rfl⟩ : ∃ m, k = m + 1 := ⟨k - 1, by omega⟩
    have hb1 : bst W (m + 1) l (m + 1) = LR false (best W (m + 1) l m) := rfl
    rw [hb1, show m + 1 - 1 = m from rfl]
    simp (disch := first | assumption | omega | rfl | simp only [hAt_app, hAt_app0, List.getElem?_cons_zero, List.getElem?_cons_succ]) only [↓RP, RG, FX, decide_eq_true, decide_eq_false, Bool.not_true, Bool.not_false, Option.map_some, List.map_cons, List.map_nil, List.getElem?_cons_zero, List.getElem?_cons_succ, ↓reduceIte, Nat.reduceEqDiff, reduceCtorEq, decide_eq_true_eq, decide_eq_false_iff_not, Option.map_none, Option.bind_some, List.contains_nil, List.contains_cons, Nat.reduceBEq, Bool.or_false, Bool.false_or, Bool.or_self, List.set_cons_zero, List.set_cons_succ, List.take_succ_cons, List.take_zero, List.drop_succ_cons, List.drop_zero, List.length_cons, List.length_nil, List.length_append, Nat.reduceAdd, Nat.reduceLeDiff, List.all_cons, List.all_nil, Bool.and_true, and_true, true_and, and_self, ne_eq, not_false_eq_true, List.cons_append, List.nil_append, List.append_nil, List.append_assoc, Nat.zero_add, Nat.add_zero, Int.toNat_natCast]
    rw [resVal_1 rfl]; simp (disch := first | assumption | omega | rfl | simp only [hAt_app, hAt_app0, List.getElem?_cons_zero, List.getElem?_cons_succ]) only [↓RP, RG, FX, decide_eq_true, decide_eq_false, Bool.not_true, Bool.not_false, Option.map_some, List.map_cons, List.map_nil, List.getElem?_cons_zero, List.getElem?_cons_succ, ↓reduceIte, Nat.reduceEqDiff, reduceCtorEq, decide_eq_true_eq, decide_eq_false_iff_not, Option.map_none, Option.bind_some, List.contains_nil, List.contains_cons, Nat.reduceBEq, Bool.or_false, Bool.false_or, Bool.or_self, List.set_cons_zero, List.set_cons_succ, List.take_succ_cons, List.take_zero, List.drop_succ_cons, List.drop_zero, List.length_cons, List.length_nil, List.length_append, Nat.reduceAdd, Nat.reduceLeDiff, List.all_cons, List.all_nil, Bool.and_true, and_true, true_and, and_self, ne_eq, not_false_eq_true, List.cons_append, List.nil_append, List.append_nil, List.append_assoc, Nat.zero_add, Nat.add_zero, Int.toNat_natCast, RS]
end Go.Proofs.YtkcicgadggiklaaGreatDoor
