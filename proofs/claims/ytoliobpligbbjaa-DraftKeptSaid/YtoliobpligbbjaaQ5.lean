/- How many different numbers a list has, by the reference. -/
import Derived.Test.YtoliobpligbbjaaQ4
set_option linter.unusedSimpArgs false
set_option linter.unusedVariables false
set_option maxRecDepth 100000
namespace Go.Proofs.Ytoliobpligbbjaa
open Go Go.Proofs Go.AW

theorem uniq_snoc_in {l : List Int} {x : Int} (h : x ∈ l) : uniq (l ++ [x]) = uniq l := by
  obtain ⟨hu, hm⟩ := uniq_spec l
  refine uniq_eq hu fun y => ?_
  rw [hm, List.mem_append, List.mem_singleton]
  constructor
  · exact .inl
  · rintro (h1 | h1)
    · exact h1
    · exact h1 ▸ h
theorem uniq_snoc_out {l : List Int} {x : Int} (h : x ∉ l) : (uniq (l ++ [x])).length = (uniq l).length + 1 := by
  obtain ⟨hu, hm⟩ := uniq_spec l
  have hx : x ∉ uniq l := fun h1 => h ((hm x).1 h1)
  generalize uniq l = u at *
  have e : uniq (l ++ [x]) = u.filter (fun y => decide (y < x)) ++ (x :: u.filter (fun y => decide (x < y))) := by
    refine uniq_eq ?_ fun y => ?_
    · refine List.pairwise_append.2 ⟨hu.filter _, List.pairwise_cons.2 ⟨fun y hy => ?_, hu.filter _⟩, fun a ha b hb => ?_⟩
      · have := (List.mem_filter.1 hy).2; simpa using this
      · have h1 := (List.mem_filter.1 ha).2
        simp only [decide_eq_true_eq] at h1
        rcases List.mem_cons.1 hb with rfl | hb
        · exact h1
        · have h2 := (List.mem_filter.1 hb).2
          simp only [decide_eq_true_eq] at h2
          omega
    · rw [List.mem_append, List.mem_cons, List.mem_filter, List.mem_filter, hm, List.mem_append, List.mem_singleton]
      simp only [decide_eq_true_eq]
      constructor
      · rintro (h1 | h1 | h1)
        · exact .inl h1.1
        · exact .inr h1
        · exact .inl h1.1
      · rintro (h1 | h1)
        · rcases Int.lt_trichotomy y x with h2 | h2 | h2
          · exact .inl ⟨h1, h2⟩
          · exact .inr (.inl h2)
          · exact .inr (.inr ⟨h1, h2⟩)
        · exact .inr (.inl h1)
  rw [e, List.length_append, List.length_cons]
  have hc : ∀ v : List Int, x ∉ v → (v.filter (fun y => decide (y < x))).length + (v.filter (fun y => decide (x < y))).length = v.length := by
    intro v
    induction v with
    | nil => intro _; rfl
    | cons y v ih =>
      intro hv
      have h1 := ih fun h1 => hv (List.mem_cons_of_mem _ h1)
      have h2 : y ≠ x := fun e => hv (by rw [e]; simp)
      rcases Int.lt_or_gt_of_ne h2 with h3 | h3
      · rw [List.filter_cons_of_pos (by simpa using h3), List.filter_cons_of_neg (by simp; omega), List.length_cons, List.length_cons]; omega
      · rw [List.filter_cons_of_neg (by simp; omega), List.filter_cons_of_pos (by simpa using h3), List.length_cons, List.length_cons]; omega
  have := hc u hx
  omega

/-- The numbers given so far, and how many there are. -/
def nmb (l : List Int) : Nat → List Int
  | 0 => []
  | k + 1 => nmb l k ++ [if (∃ i, i < k ∧ l.getD i 0 = l.getD k 0) then (nmb l k).getD ((List.range k).findIdx fun i => decide (l.getD i 0 = l.getD k 0)) 0 else ((uniq (l.take k)).length : Int)]
theorem nmb_len (l : List Int) (k : Nat) : (nmb l k).length = k := by
  induction k with
  | zero => rfl
  | succ k ih => simp [nmb, ih]
theorem mem_take {l : List Int} {k : Nat} (hk : k < l.length) : l.getD k 0 ∈ l.take k ↔ ∃ i, i < k ∧ l.getD i 0 = l.getD k 0 := by
  rw [mem_getD]
  have hl : (l.take k).length = k := by rw [List.length_take]; omega
  rw [hl]
  constructor
  · rintro ⟨i, hi, h⟩; exact ⟨i, hi, by rw [← h]; simp [List.getD_eq_getElem?_getD, List.getElem?_take_of_lt hi]⟩
  · rintro ⟨i, hi, h⟩; exact ⟨i, hi, by rw [← h]; simp [List.getD_eq_getElem?_getD, List.getElem?_take_of_lt hi]⟩
theorem take_snoc {l : List Int} {k : Nat} (hk : k < l.length) : l.take (k + 1) = l.take k ++ [l.getD k 0] := by
  rw [List.take_add_one]
  simp [hk, List.getD_eq_getElem?_getD]

theorem numbered_c (b : Bool) (l : List Int) (hl : l.length ≤ 100000) : Contract Try.prog 11 [LA b l] (.tuple [LR (nmb l l.length).isEmpty (nmb l l.length), I (uniq l).length]) := by
  refine Contract.intro (effS [] false) 6 follows Try.func11 rfl rfl (by kernel_rfl) (Nat.le_of_ble_eq_true rfl) ?_
  simp (disch := first | assumption | omega | rfl | simp only [hAt_app, hAt_app0, List.getElem?_cons_zero, List.getElem?_cons_succ]) only [↓RP, RG, FX, decide_eq_true, decide_eq_false, Bool.not_true, Bool.not_false, Option.map_some, List.map_cons, List.map_nil, List.getElem?_cons_zero, List.getElem?_cons_succ, ↓reduceIte, Nat.reduceEqDiff, reduceCtorEq, decide_eq_true_eq, decide_eq_false_iff_not, Option.map_none, Option.bind_some, List.contains_nil, List.contains_cons, Nat.reduceBEq, Bool.or_false, Bool.false_or, Bool.or_self, List.set_cons_zero, List.set_cons_succ, List.take_succ_cons, List.take_zero, List.drop_succ_cons, List.drop_zero, List.length_cons, List.length_nil, List.length_append, Nat.reduceAdd, Nat.reduceLeDiff, List.all_cons, List.all_nil, Bool.and_true, and_true, true_and, and_self, ne_eq, not_false_eq_true, List.cons_append, List.nil_append, List.append_nil, List.append_assoc, Nat.zero_add, Nat.add_zero, Int.toNat_natCast, args0_1]
  refine loopK_W [0, 4, 5, 6] (fun k : Nat => k ≤ l.length) (fun k : Nat => ⟨[(0, LA b l), (4, gw true 0 (ints (nmb l k))), (5, I (uniq (l.take k)).length), (6, I k)], [go 3 (ints (nmb l k))]⟩) (fun k => l.length - k) 0 (by omega) ?_ ?_
  · have hu0 : (uniq []).length = 0 := Nat.le_zero.1 (uniq_le [])
    simp only [↓RP, RG, FX, decide_eq_true, decide_eq_false, Bool.not_true, Bool.not_false, Option.map_some, List.map_cons, List.map_nil, List.getElem?_cons_zero, List.getElem?_cons_succ, ↓reduceIte, Nat.reduceEqDiff, reduceCtorEq, decide_eq_true_eq, decide_eq_false_iff_not, Option.map_none, Option.bind_some, List.contains_nil, List.contains_cons, Nat.reduceBEq, Bool.or_false, Bool.false_or, Bool.or_self, List.set_cons_zero, List.set_cons_succ, List.take_succ_cons, List.take_zero, List.drop_succ_cons, List.drop_zero, List.length_cons, List.length_nil, List.length_append, Nat.reduceAdd, Nat.reduceLeDiff, List.all_cons, List.all_nil, Bool.and_true, and_true, true_and, and_self, ne_eq, not_false_eq_true, List.cons_append, List.nil_append, List.append_nil, List.append_assoc, Nat.zero_add, Nat.add_zero, Int.toNat_natCast, hu0]
    exact Wk.weak (WE.cons _ (.refl _) (WE.cons _ (.nil _) (WE.cons _ (.refl _) (WE.cons _ (.refl _) WE.nil)))) (.nil _ (by simp [go, ints, nmb]))
  intro k hk
  have hnl := nmb_len l k
  by_cases hlt : k < l.length
  · obtain ⟨r, hr, hri⟩ := isPl_ex l (l.getD k 0) k
    simp (disch := first | assumption | omega | rfl | simp only [hAt_app, hAt_app0, List.getElem?_cons_zero, List.getElem?_cons_succ]) only [↓RP, RG, FX, decide_eq_true, decide_eq_false, Bool.not_true, Bool.not_false, Option.map_some, List.map_cons, List.map_nil, List.getElem?_cons_zero, List.getElem?_cons_succ, ↓reduceIte, Nat.reduceEqDiff, reduceCtorEq, decide_eq_true_eq, decide_eq_false_iff_not, Option.map_none, Option.bind_some, List.contains_nil, List.contains_cons, Nat.reduceBEq, Bool.or_false, Bool.false_or, Bool.or_self, List.set_cons_zero, List.set_cons_succ, List.take_succ_cons, List.take_zero, List.drop_succ_cons, List.drop_zero, List.length_cons, List.length_nil, List.length_append, Nat.reduceAdd, Nat.reduceLeDiff, List.all_cons, List.all_nil, Bool.and_true, and_true, true_and, and_self, ne_eq, not_false_eq_true, List.cons_append, List.nil_append, List.append_nil, List.append_assoc, Nat.zero_add, Nat.add_zero, Int.toNat_natCast]
    refine callK_F 6 (place_c b l k (l.getD k 0) (by omega) (by omega) r hr) (by simp (disch := first | assumption | omega | rfl | simp only [hAt_app, hAt_app0, List.getElem?_cons_zero, List.getElem?_cons_succ]) only [↓RP, RG, FX, decide_eq_true, decide_eq_false, Bool.not_true, Bool.not_false, Option.map_some, List.map_cons, List.map_nil, List.getElem?_cons_zero, List.getElem?_cons_succ, ↓reduceIte, Nat.reduceEqDiff, reduceCtorEq, decide_eq_true_eq, decide_eq_false_iff_not, Option.map_none, Option.bind_some, List.contains_nil, List.contains_cons, Nat.reduceBEq, Bool.or_false, Bool.false_or, Bool.or_self, List.set_cons_zero, List.set_cons_succ, List.take_succ_cons, List.take_zero, List.drop_succ_cons, List.drop_zero, List.length_cons, List.length_nil, List.length_append, Nat.reduceAdd, Nat.reduceLeDiff, List.all_cons, List.all_nil, Bool.and_true, and_true, true_and, and_self, ne_eq, not_false_eq_true, List.cons_append, List.nil_append, List.append_nil, List.append_assoc, Nat.zero_add, Nat.add_zero, Int.toNat_natCast, RA] <;> rfl) (.inl (by simp [allFresh, ints_fresh, bools_fresh])) ?_
    have hxn : (ints (nmb l k)).length = k := by rw [ints_length, hnl]
    have ht := take_snoc hlt
    by_cases hh : ∃ i, i < k ∧ l.getD i 0 = l.getD k 0
    · have hs : nmb l (k + 1) = nmb l k ++ [(nmb l k).getD ((List.range k).findIdx fun i => decide (l.getD i 0 = l.getD k 0)) 0] := by rw [nmb, if_pos hh]
      have hu : (uniq (l.take (k + 1))).length = (uniq (l.take k)).length := by rw [ht, uniq_snoc_in ((mem_take hlt).2 hh)]
      have h0 := hri.2 hh
      rcases hr with ⟨i, h1, h2, h3, rfl⟩ | ⟨h1, h2⟩
      · have hf : ((List.range k).findIdx fun i => decide (l.getD i 0 = l.getD k 0)) = i := by
          rw [List.findIdx_eq (by simpa using h1)]
          refine ⟨by simpa using h2, fun j hj => by simpa using h3 j hj⟩
        rw [hf] at hs
        simp (disch := first | assumption | omega | rfl | simp only [hAt_app, hAt_app0, List.getElem?_cons_zero, List.getElem?_cons_succ]) only [↓RP, RG, FX, decide_eq_true, decide_eq_false, Bool.not_true, Bool.not_false, Option.map_some, List.map_cons, List.map_nil, List.getElem?_cons_zero, List.getElem?_cons_succ, ↓reduceIte, Nat.reduceEqDiff, reduceCtorEq, decide_eq_true_eq, decide_eq_false_iff_not, Option.map_none, Option.bind_some, List.contains_nil, List.contains_cons, Nat.reduceBEq, Bool.or_false, Bool.false_or, Bool.or_self, List.set_cons_zero, List.set_cons_succ, List.take_succ_cons, List.take_zero, List.drop_succ_cons, List.drop_zero, List.length_cons, List.length_nil, List.length_append, Nat.reduceAdd, Nat.reduceLeDiff, List.all_cons, List.all_nil, Bool.and_true, and_true, true_and, and_self, ne_eq, not_false_eq_true, List.cons_append, List.nil_append, List.append_nil, List.append_assoc, Nat.zero_add, Nat.add_zero, Int.toNat_natCast]
        simp (disch := first | assumption | omega | rfl | simp only [hAt_app, hAt_app0, List.getElem?_cons_zero, List.getElem?_cons_succ]) only [↓RP, RG, FX, decide_eq_true, decide_eq_false, Bool.not_true, Bool.not_false, Option.map_some, List.map_cons, List.map_nil, List.getElem?_cons_zero, List.getElem?_cons_succ, ↓reduceIte, Nat.reduceEqDiff, reduceCtorEq, decide_eq_true_eq, decide_eq_false_iff_not, Option.map_none, Option.bind_some, List.contains_nil, List.contains_cons, Nat.reduceBEq, Bool.or_false, Bool.false_or, Bool.or_self, List.set_cons_zero, List.set_cons_succ, List.take_succ_cons, List.take_zero, List.drop_succ_cons, List.drop_zero, List.length_cons, List.length_nil, List.length_append, Nat.reduceAdd, Nat.reduceLeDiff, List.all_cons, List.all_nil, Bool.and_true, and_true, true_and, and_self, ne_eq, not_false_eq_true, List.cons_append, List.nil_append, List.append_nil, List.append_assoc, Nat.zero_add, Nat.add_zero, Int.toNat_natCast, append_int]
        exact ⟨k + 1, by omega, by rw [hs, hu]; rfl, by omega⟩
      · omega
    · have hs : nmb l (k + 1) = nmb l k ++ [((uniq (l.take k)).length : Int)] := by rw [nmb, if_neg hh]
      have hu : (uniq (l.take (k + 1))).length = (uniq (l.take k)).length + 1 := by rw [ht, uniq_snoc_out (fun h => hh ((mem_take hlt).1 h))]
      have hub : (uniq (l.take k)).length ≤ 100000 := by have := uniq_le (l.take k); rw [List.length_take] at this; omega
      have h0 : ¬ 0 ≤ r := fun h => hh (hri.1 h)
      simp (disch := first | assumption | omega | rfl | simp only [hAt_app, hAt_app0, List.getElem?_cons_zero, List.getElem?_cons_succ]) only [↓RP, RG, FX, decide_eq_true, decide_eq_false, Bool.not_true, Bool.not_false, Option.map_some, List.map_cons, List.map_nil, List.getElem?_cons_zero, List.getElem?_cons_succ, ↓reduceIte, Nat.reduceEqDiff, reduceCtorEq, decide_eq_true_eq, decide_eq_false_iff_not, Option.map_none, Option.bind_some, List.contains_nil, List.contains_cons, Nat.reduceBEq, Bool.or_false, Bool.false_or, Bool.or_self, List.set_cons_zero, List.set_cons_succ, List.take_succ_cons, List.take_zero, List.drop_succ_cons, List.drop_zero, List.length_cons, List.length_nil, List.length_append, Nat.reduceAdd, Nat.reduceLeDiff, List.all_cons, List.all_nil, Bool.and_true, and_true, true_and, and_self, ne_eq, not_false_eq_true, List.cons_append, List.nil_append, List.append_nil, List.append_assoc, Nat.zero_add, Nat.add_zero, Int.toNat_natCast]
      simp (disch := first | assumption | omega | rfl | simp only [hAt_app, hAt_app0, List.getElem?_cons_zero, List.getElem?_cons_succ]) only [↓RP, RG, FX, decide_eq_true, decide_eq_false, Bool.not_true, Bool.not_false, Option.map_some, List.map_cons, List.map_nil, List.getElem?_cons_zero, List.getElem?_cons_succ, ↓reduceIte, Nat.reduceEqDiff, reduceCtorEq, decide_eq_true_eq, decide_eq_false_iff_not, Option.map_none, Option.bind_some, List.contains_nil, List.contains_cons, Nat.reduceBEq, Bool.or_false, Bool.false_or, Bool.or_self, List.set_cons_zero, List.set_cons_succ, List.take_succ_cons, List.take_zero, List.drop_succ_cons, List.drop_zero, List.length_cons, List.length_nil, List.length_append, Nat.reduceAdd, Nat.reduceLeDiff, List.all_cons, List.all_nil, Bool.and_true, and_true, true_and, and_self, ne_eq, not_false_eq_true, List.cons_append, List.nil_append, List.append_nil, List.append_assoc, Nat.zero_add, Nat.add_zero, Int.toNat_natCast, append_int]
      exact ⟨k + 1, by omega, by rw [hs, hu]; rfl, by omega⟩
  · obtain rfl : k = l.length := by omega
    simp (disch := first | assumption | omega | rfl | simp only [hAt_app, hAt_app0, List.getElem?_cons_zero, List.getElem?_cons_succ]) only [↓RP, RG, FX, decide_eq_true, decide_eq_false, Bool.not_true, Bool.not_false, Option.map_some, List.map_cons, List.map_nil, List.getElem?_cons_zero, List.getElem?_cons_succ, ↓reduceIte, Nat.reduceEqDiff, reduceCtorEq, decide_eq_true_eq, decide_eq_false_iff_not, Option.map_none, Option.bind_some, List.contains_nil, List.contains_cons, Nat.reduceBEq, Bool.or_false, Bool.false_or, Bool.or_self, List.set_cons_zero, List.set_cons_succ, List.take_succ_cons, List.take_zero, List.drop_succ_cons, List.drop_zero, List.length_cons, List.length_nil, List.length_append, Nat.reduceAdd, Nat.reduceLeDiff, List.all_cons, List.all_nil, Bool.and_true, and_true, true_and, and_self, ne_eq, not_false_eq_true, List.cons_append, List.nil_append, List.append_nil, List.append_assoc, Nat.zero_add, Nat.add_zero, Int.toNat_natCast]
    rw [resVal_2 rfl]; simp (disch := first | assumption | omega | rfl | simp only [hAt_app, hAt_app0, List.getElem?_cons_zero, List.getElem?_cons_succ]) only [↓RP, RG, FX, decide_eq_true, decide_eq_false, Bool.not_true, Bool.not_false, Option.map_some, List.map_cons, List.map_nil, List.getElem?_cons_zero, List.getElem?_cons_succ, ↓reduceIte, Nat.reduceEqDiff, reduceCtorEq, decide_eq_true_eq, decide_eq_false_iff_not, Option.map_none, Option.bind_some, List.contains_nil, List.contains_cons, Nat.reduceBEq, Bool.or_false, Bool.false_or, Bool.or_self, List.set_cons_zero, List.set_cons_succ, List.take_succ_cons, List.take_zero, List.drop_succ_cons, List.drop_zero, List.length_cons, List.length_nil, List.length_append, Nat.reduceAdd, Nat.reduceLeDiff, List.all_cons, List.all_nil, Bool.and_true, and_true, true_and, and_self, ne_eq, not_false_eq_true, List.cons_append, List.nil_append, List.append_nil, List.append_assoc, Nat.zero_add, Nat.add_zero, Int.toNat_natCast, RS]
    rw [List.take_length]
    first | done | rfl | (cases h : nmb l l.length <;> simp [gw, ints, resOf])
end Go.Proofs.Ytoliobpligbbjaa
