/- Networks: the shafts on which an end is allowed; sequences. -/
import Derived.Test.YtlhikcamopiogaaN1
import Derived.Test.YtlhikcamopiogaaBw3
set_option linter.unusedSimpArgs false
set_option linter.unusedVariables false
set_option maxRecDepth 100000
namespace Go.Proofs.Ytlhikcamopiogaa
open Go Go.Proofs Go.AW

/-- The base's shaft for an end. -/
def baseAt (l : List Int) (x : Nat) : Int := l.getD (x % l.length) 0
/-- The shafts on which an end is allowed. -/
def allowL (s n : Int) (l : List Int) (x : Nat) : List Int := (List.range (s.toNat / n.toNat)).map fun i : Nat => baseAt l x + (i : Int) * n
theorem allowL_len (s n : Int) (l : List Int) (x : Nat) : (allowL s n l x).length = s.toNat / n.toNat := by simp [allowL]
theorem allowL_get {s n : Int} {l : List Int} {x i : Nat} (hi : i < s.toNat / n.toNat) : (allowL s n l x).getD i 0 = baseAt l x + (i : Int) * n := by
  simp [allowL, List.getD_eq_getElem?_getD, List.getElem?_range hi]
theorem ints_getD_undef {l : List Int} {i : Nat} (hi : i < l.length) : (ints l).getD i .undef = I (l.getD i 0) := by
  simp [ints, List.getD_eq_getElem?_getD, hi]

theorem netOk_div {s n : Int} {l : List Int} (h : netOk s n l) : (n.toNat : Nat) * (s.toNat / n.toNat) = s.toNat ∧ 1 ≤ n := by
  have h1 := wIn_pos' h.2.2.2.2
  have h2 := Nat.div_add_mod s.toNat n.toNat
  rw [h.2.2.1] at h2
  exact ⟨by omega, h1⟩
theorem baseAt_in {s n : Int} {l : List Int} (h : netOk s n l) (x : Nat) : 0 ≤ baseAt l x ∧ baseAt l x < n := by
  have h1 := h.2.2.2.2
  exact h1.2 _ (Nat.mod_lt _ h1.1)

theorem nmul_bd {n : Int} {i k : Nat} (hn : 1 ≤ n) (h : i ≤ k) : 0 ≤ (i : Int) * n ∧ (i : Int) * n ≤ ((n.toNat * k : Nat) : Int) := by
  obtain ⟨m, rfl⟩ : ∃ m : Nat, n = m := ⟨n.toNat, by omega⟩
  constructor
  · exact Int.mul_nonneg (by omega) (by omega)
  · simp only [Int.toNat_natCast]
    rw [Int.natCast_mul, Int.mul_comm (m : Int)]
    exact Int.mul_le_mul_of_nonneg_right (by omega) (by omega)

/-- The closure of the allowed shafts yields them. -/
theorem allowedF_y {s n : Int} {b : Bool} {l : List Int} (h : netOk s n l) (x : Nat) (hx : x < 64) :
    Gives Try.prog 51 [.spot false [I s, I n, LA b l], .spot false [I x]] (ints (allowL s n l x)) := by
  intro hs
  obtain ⟨hd, hn⟩ := netOk_div h
  obtain ⟨hb0, hb1⟩ := baseAt_in h x
  have hl0 := h.2.2.2.2.1
  have hl1 := h.2.2.2.1
  have hxm := Nat.mod_lt x hl0
  have hns := h.1
  have hs40 := h.2.1
  have hlen : (ints (allowL s n l x)).length = s.toNat / n.toNat := by rw [ints_length, allowL_len]
  have hk := Nat.div_le_self s.toNat n.toNat
  refine SpecY.intro (effS [] false) follows Try.func51 rfl rfl (by kernel_rfl) (Nat.le_of_ble_eq_true rfl) rfl (fun yv => ?_)
  simp (disch := first | assumption | omega | rfl | simp only [hAt_app, hAt_app0, List.getElem?_cons_zero, List.getElem?_cons_succ]) only [↓RP, RG, FX, decide_eq_true, decide_eq_false, Bool.not_true, Bool.not_false, Option.map_some, List.map_cons, List.map_nil, List.getElem?_cons_zero, List.getElem?_cons_succ, ↓reduceIte, Nat.reduceEqDiff, reduceCtorEq, decide_eq_true_eq, decide_eq_false_iff_not, Option.map_none, Option.bind_some, List.contains_nil, List.contains_cons, Nat.reduceBEq, Bool.or_false, Bool.false_or, Bool.or_self, List.set_cons_zero, List.set_cons_succ, List.take_succ_cons, List.take_zero, List.drop_succ_cons, List.drop_zero, List.length_cons, List.length_nil, List.length_append, Nat.reduceAdd, Nat.reduceLeDiff, List.all_cons, List.all_nil, Bool.and_true, and_true, true_and, and_self, ne_eq, not_false_eq_true, List.cons_append, List.nil_append, List.append_nil, List.append_assoc, Nat.zero_add, Nat.add_zero, Int.toNat_natCast, args0_3]
  generalize hD : s.toNat / n.toNat = D at *
  refine loopK_I [0, 1, 2, 4] (fun k : Nat => k ≤ D) (fun k : Nat => ⟨[(0, .val yv), (1, .spot false [I s, I n, LA b l]), (2, .spot false [I x]), (4, I (baseAt l x + (k : Int) * n))], hs k⟩) (fun k => D - k) 0 (by omega) ?_ ?_
  · simp only [↓RP, RG, FX, decide_eq_true, decide_eq_false, Bool.not_true, Bool.not_false, Option.map_some, List.map_cons, List.map_nil, List.getElem?_cons_zero, List.getElem?_cons_succ, ↓reduceIte, Nat.reduceEqDiff, reduceCtorEq, decide_eq_true_eq, decide_eq_false_iff_not, Option.map_none, Option.bind_some, List.contains_nil, List.contains_cons, Nat.reduceBEq, Bool.or_false, Bool.false_or, Bool.or_self, List.set_cons_zero, List.set_cons_succ, List.take_succ_cons, List.take_zero, List.drop_succ_cons, List.drop_zero, List.length_cons, List.length_nil, List.length_append, Nat.reduceAdd, Nat.reduceLeDiff, List.all_cons, List.all_nil, Bool.and_true, and_true, true_and, and_self, ne_eq, not_false_eq_true, List.cons_append, List.nil_append, List.append_nil, List.append_assoc, Nat.zero_add, Nat.add_zero, Int.toNat_natCast]
    simp [baseAt]
  intro k hk'
  by_cases hlt : k < D
  · have m1 := nmul_bd hn (Nat.le_of_lt hlt)
    have m2 := nmul_bd hn (show k + 1 ≤ D by omega)
    have m3 : ((k + 1 : Nat) : Int) * n = (k : Int) * n + n := by rw [Int.natCast_add, Int.add_mul]; simp
    have e1 : ((n.toNat * D : Nat) : Int) = s := by rw [hd]; omega
    generalize hq : (k : Int) * n = q at *
    simp (disch := first | assumption | omega | rfl | simp only [hAt_app, hAt_app0, List.getElem?_cons_zero, List.getElem?_cons_succ]) only [↓RP, RG, FX, decide_eq_true, decide_eq_false, Bool.not_true, Bool.not_false, Option.map_some, List.map_cons, List.map_nil, List.getElem?_cons_zero, List.getElem?_cons_succ, ↓reduceIte, Nat.reduceEqDiff, reduceCtorEq, decide_eq_true_eq, decide_eq_false_iff_not, Option.map_none, Option.bind_some, List.contains_nil, List.contains_cons, Nat.reduceBEq, Bool.or_false, Bool.false_or, Bool.or_self, List.set_cons_zero, List.set_cons_succ, List.take_succ_cons, List.take_zero, List.drop_succ_cons, List.drop_zero, List.length_cons, List.length_nil, List.length_append, Nat.reduceAdd, Nat.reduceLeDiff, List.all_cons, List.all_nil, Bool.and_true, and_true, true_and, and_self, ne_eq, not_false_eq_true, List.cons_append, List.nil_append, List.append_nil, List.append_assoc, Nat.zero_add, Nat.add_zero, Int.toNat_natCast]
    refine callK_Y rfl (stepsY_at k (by omega) (by rw [ints_getD_undef (by rw [allowL_len]; omega), allowL_get (by omega), hq])) ?_
    simp (disch := first | assumption | omega | rfl | simp only [hAt_app, hAt_app0, List.getElem?_cons_zero, List.getElem?_cons_succ]) only [↓RP, RG, FX, decide_eq_true, decide_eq_false, Bool.not_true, Bool.not_false, Option.map_some, List.map_cons, List.map_nil, List.getElem?_cons_zero, List.getElem?_cons_succ, ↓reduceIte, Nat.reduceEqDiff, reduceCtorEq, decide_eq_true_eq, decide_eq_false_iff_not, Option.map_none, Option.bind_some, List.contains_nil, List.contains_cons, Nat.reduceBEq, Bool.or_false, Bool.false_or, Bool.or_self, List.set_cons_zero, List.set_cons_succ, List.take_succ_cons, List.take_zero, List.drop_succ_cons, List.drop_zero, List.length_cons, List.length_nil, List.length_append, Nat.reduceAdd, Nat.reduceLeDiff, List.all_cons, List.all_nil, Bool.and_true, and_true, true_and, and_self, ne_eq, not_false_eq_true, List.cons_append, List.nil_append, List.append_nil, List.append_assoc, Nat.zero_add, Nat.add_zero, Int.toNat_natCast]
    exact ⟨k + 1, by omega, by rw [m3]; simp only [Int.add_assoc], by omega⟩
  · obtain rfl : k = D := by omega
    have e1 : (k : Int) * n = s := by
      have : ((n.toNat * k : Nat) : Int) = s := by rw [hd]; omega
      rw [← this, Int.natCast_mul, Int.mul_comm]
      congr 1
      omega
    simp (disch := first | assumption | omega | rfl | simp only [hAt_app, hAt_app0, List.getElem?_cons_zero, List.getElem?_cons_succ]) only [↓RP, RG, FX, decide_eq_true, decide_eq_false, Bool.not_true, Bool.not_false, Option.map_some, List.map_cons, List.map_nil, List.getElem?_cons_zero, List.getElem?_cons_succ, ↓reduceIte, Nat.reduceEqDiff, reduceCtorEq, decide_eq_true_eq, decide_eq_false_iff_not, Option.map_none, Option.bind_some, List.contains_nil, List.contains_cons, Nat.reduceBEq, Bool.or_false, Bool.false_or, Bool.or_self, List.set_cons_zero, List.set_cons_succ, List.take_succ_cons, List.take_zero, List.drop_succ_cons, List.drop_zero, List.length_cons, List.length_nil, List.length_append, Nat.reduceAdd, Nat.reduceLeDiff, List.all_cons, List.all_nil, Bool.and_true, and_true, true_and, and_self, ne_eq, not_false_eq_true, List.cons_append, List.nil_append, List.append_nil, List.append_assoc, Nat.zero_add, Nat.add_zero, Int.toNat_natCast, e1]
    rw [allowL_len, hD]
    exact Wk.refl _ _

theorem allowed_c {s n : Int} (b : Bool) (l : List Int) (x : Int) : Contract Try.prog 39 [NA s n b l, I x] (.func (.func 51) [] [.spot true [I s, I n, LA b l], .spot true [I x]]) := by
  refine Contract.intro (effS [] false [] [0, 1]) 6 follows Try.func39 rfl rfl (by kernel_rfl) (Nat.le_of_ble_eq_true rfl) ?_
  simp (disch := first | assumption | omega | rfl | simp only [hAt_app, hAt_app0, List.getElem?_cons_zero, List.getElem?_cons_succ]) only [↓RP, RG, FX, decide_eq_true, decide_eq_false, Bool.not_true, Bool.not_false, Option.map_some, List.map_cons, List.map_nil, List.getElem?_cons_zero, List.getElem?_cons_succ, ↓reduceIte, Nat.reduceEqDiff, reduceCtorEq, decide_eq_true_eq, decide_eq_false_iff_not, Option.map_none, Option.bind_some, List.contains_nil, List.contains_cons, Nat.reduceBEq, Bool.or_false, Bool.false_or, Bool.or_self, List.set_cons_zero, List.set_cons_succ, List.take_succ_cons, List.take_zero, List.drop_succ_cons, List.drop_zero, List.length_cons, List.length_nil, List.length_append, Nat.reduceAdd, Nat.reduceLeDiff, List.all_cons, List.all_nil, Bool.and_true, and_true, true_and, and_self, ne_eq, not_false_eq_true, List.cons_append, List.nil_append, List.append_nil, List.append_assoc, Nat.zero_add, Nat.add_zero, Int.toNat_natCast, args0_2]
  rw [resVal_1 rfl]; simp (disch := first | assumption | omega | rfl | simp only [hAt_app, hAt_app0, List.getElem?_cons_zero, List.getElem?_cons_succ]) only [↓RP, RG, FX, decide_eq_true, decide_eq_false, Bool.not_true, Bool.not_false, Option.map_some, List.map_cons, List.map_nil, List.getElem?_cons_zero, List.getElem?_cons_succ, ↓reduceIte, Nat.reduceEqDiff, reduceCtorEq, decide_eq_true_eq, decide_eq_false_iff_not, Option.map_none, Option.bind_some, List.contains_nil, List.contains_cons, Nat.reduceBEq, Bool.or_false, Bool.false_or, Bool.or_self, List.set_cons_zero, List.set_cons_succ, List.take_succ_cons, List.take_zero, List.drop_succ_cons, List.drop_zero, List.length_cons, List.length_nil, List.length_append, Nat.reduceAdd, Nat.reduceLeDiff, List.all_cons, List.all_nil, Bool.and_true, and_true, true_and, and_self, ne_eq, not_false_eq_true, List.cons_append, List.nil_append, List.append_nil, List.append_assoc, Nat.zero_add, Nat.add_zero, Int.toNat_natCast, RS]
  first | done | simp [resOf, resOf_list, ints_res]

/-- A sequence, appended to nothing. -/
theorem appendSeq_c {f : FuncId} {cs : List AVal} {xs : List Int} (hg : Gives Try.prog f cs (ints xs)) (hx : xs.length ≤ 1000000000) : Contract Try.prog 53 [.list false true 0 [], .func (.func f) [] cs] (.list true (xs.isEmpty) xs.length (ints xs)) := by
  refine Contract.intro (effS [] false) 6 follows Try.func53 rfl rfl (by kernel_rfl) (Nat.le_of_ble_eq_true rfl) ?_
  simp (disch := first | assumption | omega | rfl | simp only [hAt_app, hAt_app0, List.getElem?_cons_zero, List.getElem?_cons_succ]) only [↓RP, RG, FX, decide_eq_true, decide_eq_false, Bool.not_true, Bool.not_false, Option.map_some, List.map_cons, List.map_nil, List.getElem?_cons_zero, List.getElem?_cons_succ, ↓reduceIte, Nat.reduceEqDiff, reduceCtorEq, decide_eq_true_eq, decide_eq_false_iff_not, Option.map_none, Option.bind_some, List.contains_nil, List.contains_cons, Nat.reduceBEq, Bool.or_false, Bool.false_or, Bool.or_self, List.set_cons_zero, List.set_cons_succ, List.take_succ_cons, List.take_zero, List.drop_succ_cons, List.drop_zero, List.length_cons, List.length_nil, List.length_append, Nat.reduceAdd, Nat.reduceLeDiff, List.all_cons, List.all_nil, Bool.and_true, and_true, true_and, and_self, ne_eq, not_false_eq_true, List.cons_append, List.nil_append, List.append_nil, List.append_assoc, Nat.zero_add, Nat.add_zero, Int.toNat_natCast, args0_2]
  have hxl := ints_length xs
  refine rangeK_S (s := ⟨[(2, .ptr 0 0 1), (6, .func (.func f) [] cs)], [⟨22, 1, [gw true 1 (ints (xs.take 0))]⟩, go 3 (ints (xs.take 0))]⟩) [2, 6] (ints xs) (fun k => [⟨22, 1, [gw true 1 (ints (xs.take k))]⟩, go 3 (ints (xs.take k))]) ?_ rfl rfl (hg _) (fun i hi => ?_) ?_
  · simp only [↓RP, RG, FX, decide_eq_true, decide_eq_false, Bool.not_true, Bool.not_false, Option.map_some, List.map_cons, List.map_nil, List.getElem?_cons_zero, List.getElem?_cons_succ, ↓reduceIte, Nat.reduceEqDiff, reduceCtorEq, decide_eq_true_eq, decide_eq_false_iff_not, Option.map_none, Option.bind_some, List.contains_nil, List.contains_cons, Nat.reduceBEq, Bool.or_false, Bool.false_or, Bool.or_self, List.set_cons_zero, List.set_cons_succ, List.take_succ_cons, List.take_zero, List.drop_succ_cons, List.drop_zero, List.length_cons, List.length_nil, List.length_append, Nat.reduceAdd, Nat.reduceLeDiff, List.all_cons, List.all_nil, Bool.and_true, and_true, true_and, and_self, ne_eq, not_false_eq_true, List.cons_append, List.nil_append, List.append_nil, List.append_assoc, Nat.zero_add, Nat.add_zero, Int.toNat_natCast]
    exact Wk.weak (fun t => .refl _) (.cons _ _ _ _ (.cons (.nilL _ _) .nil) (.nil _ (by simp [go, ints])))
  · rw [hxl] at hi
    have htk : (xs.take i).length ≤ 1000000000 := by rw [List.length_take]; omega
    rw [ints_getD_undef hi]
    simp (disch := first | assumption | omega | rfl | simp only [hAt_app, hAt_app0, List.getElem?_cons_zero, List.getElem?_cons_succ]) only [↓RP, RG, FX, decide_eq_true, decide_eq_false, Bool.not_true, Bool.not_false, Option.map_some, List.map_cons, List.map_nil, List.getElem?_cons_zero, List.getElem?_cons_succ, ↓reduceIte, Nat.reduceEqDiff, reduceCtorEq, decide_eq_true_eq, decide_eq_false_iff_not, Option.map_none, Option.bind_some, List.contains_nil, List.contains_cons, Nat.reduceBEq, Bool.or_false, Bool.false_or, Bool.or_self, List.set_cons_zero, List.set_cons_succ, List.take_succ_cons, List.take_zero, List.drop_succ_cons, List.drop_zero, List.length_cons, List.length_nil, List.length_append, Nat.reduceAdd, Nat.reduceLeDiff, List.all_cons, List.all_nil, Bool.and_true, and_true, true_and, and_self, ne_eq, not_false_eq_true, List.cons_append, List.nil_append, List.append_nil, List.append_assoc, Nat.zero_add, Nat.add_zero, Int.toNat_natCast, append_int]
    refine Wk.of_eq ?_
    rw [List.take_add_one]
    simp [hi, List.getD_eq_getElem?_getD]
  · simp (disch := first | assumption | omega | rfl | simp only [hAt_app, hAt_app0, List.getElem?_cons_zero, List.getElem?_cons_succ]) only [↓RP, RG, FX, decide_eq_true, decide_eq_false, Bool.not_true, Bool.not_false, Option.map_some, List.map_cons, List.map_nil, List.getElem?_cons_zero, List.getElem?_cons_succ, ↓reduceIte, Nat.reduceEqDiff, reduceCtorEq, decide_eq_true_eq, decide_eq_false_iff_not, Option.map_none, Option.bind_some, List.contains_nil, List.contains_cons, Nat.reduceBEq, Bool.or_false, Bool.false_or, Bool.or_self, List.set_cons_zero, List.set_cons_succ, List.take_succ_cons, List.take_zero, List.drop_succ_cons, List.drop_zero, List.length_cons, List.length_nil, List.length_append, Nat.reduceAdd, Nat.reduceLeDiff, List.all_cons, List.all_nil, Bool.and_true, and_true, true_and, and_self, ne_eq, not_false_eq_true, List.cons_append, List.nil_append, List.append_nil, List.append_assoc, Nat.zero_add, Nat.add_zero, Int.toNat_natCast]
    rw [resVal_1 rfl]; simp (disch := first | assumption | omega | rfl | simp only [hAt_app, hAt_app0, List.getElem?_cons_zero, List.getElem?_cons_succ]) only [↓RP, RG, FX, decide_eq_true, decide_eq_false, Bool.not_true, Bool.not_false, Option.map_some, List.map_cons, List.map_nil, List.getElem?_cons_zero, List.getElem?_cons_succ, ↓reduceIte, Nat.reduceEqDiff, reduceCtorEq, decide_eq_true_eq, decide_eq_false_iff_not, Option.map_none, Option.bind_some, List.contains_nil, List.contains_cons, Nat.reduceBEq, Bool.or_false, Bool.false_or, Bool.or_self, List.set_cons_zero, List.set_cons_succ, List.take_succ_cons, List.take_zero, List.drop_succ_cons, List.drop_zero, List.length_cons, List.length_nil, List.length_append, Nat.reduceAdd, Nat.reduceLeDiff, List.all_cons, List.all_nil, Bool.and_true, and_true, true_and, and_self, ne_eq, not_false_eq_true, List.cons_append, List.nil_append, List.append_nil, List.append_assoc, Nat.zero_add, Nat.add_zero, Int.toNat_natCast, RS]
    rw [List.take_length]
    first | done | (cases xs <;> simp [gw, ints, resOf])
end Go.Proofs.Ytlhikcamopiogaa
