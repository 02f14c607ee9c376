/- The way, by the reference. -/
import Derived.Test.YtefhmecaoefpbaaNO18
set_option linter.unusedSimpArgs false
set_option linter.unusedVariables false
set_option maxRecDepth 100000
namespace Go.Proofs.Ytefhmecaoefpbaa
open Go Go.Proofs Go.AW

theorem bfs_sound {n : Nat} {adj : Nat → List Nat} (ha : ∀ c, c < n → ∀ b ∈ adj c, b < n) : ∀ (k : Nat) (far : List Int) (q : List Nat), Sound n far q → ∃ q', Sound n (bfs adj k far q) q'
  | 0, far, q, h => ⟨q, h⟩
  | k + 1, far, [], h => ⟨[], h⟩
  | k + 1, far, c :: q, h => bfs_sound ha k _ _ (inner_ok (h.mem c List.mem_cons_self) (adj c) far q (ha c (h.mem c List.mem_cons_self)) h.tail).1
/-- What the distances to a are. -/
structure Dist (W n : Nat) (l : List Bool) (a : Nat) (far : List Int) : Prop where
  len : far.length = n
  low : ∀ i, i < n → -1 ≤ far.getD i 0
  high : ∀ i, i < n → far.getD i 0 ≤ n
  one : ∀ x, x < n → far.getD x 0 = 0 → x = a
  zero : far.getD a 0 = 0
  next : ∀ x, x < n → 0 < far.getD x 0 → ∃ c, c < n ∧ far.getD c 0 = far.getD x 0 - 1 ∧ ov W l x c = true
theorem srch_dist {W n : Nat} (l : List Bool) {a : Nat} (ha : a < n) : Dist W n l a (srch (adjT W n l) (far0 n a) [a]) := by
  obtain ⟨q, h⟩ := srch_near (W := W) l ha
  obtain ⟨q', hs⟩ := bfs_sound (adj := adjT W n l) (fun c hc x hx => adjT_lt hx) (2 * neg (far0 n a) + [a].length) _ _ (far0_sound ha).1
  have hs : Sound n (srch (adjT W n l) (far0 n a) [a]) q' := hs
  refine ⟨hs.len, hs.low, fun i hi => ?_, h.one, h.zero, fun x hx h0 => ?_⟩
  · have := hs.high i hi; omega
  · obtain ⟨c, h1, h2, h3⟩ := h.next x hx h0
    exact ⟨c, h1, h2, by simp only [adjT, List.mem_filter] at h3; exact h3.2⟩
/-- The next thread of the way. -/
def isN (W : Nat) (l : List Bool) (far : List Int) (x b : Nat) : Bool := decide (far.getD b 0 = far.getD x 0 - 1) && ov W l x b
def stp (W n : Nat) (l : List Bool) (far : List Int) (x : Nat) : Nat := (List.range n).findIdx (isN W l far x)
theorem stp_ok {W n : Nat} {l : List Bool} {a : Nat} {far : List Int} (h : Dist W n l a far) {x : Nat} (hx : x < n) (h0 : 0 < far.getD x 0) : stp W n l far x < n ∧ isN W l far x (stp W n l far x) = true ∧ ∀ j, j < stp W n l far x → isN W l far x j = false := by
  obtain ⟨c, h1, h2, h3⟩ := h.next x hx h0
  have hlt : stp W n l far x < (List.range n).length := by
    unfold stp
    rw [List.findIdx_lt_length]
    exact ⟨c, by simpa using h1, by unfold isN; rw [decide_eq_true h2, h3]; rfl⟩
  refine ⟨by simpa using hlt, ?_, fun j hj => ?_⟩
  · have := List.findIdx_getElem (xs := List.range n) (p := isN W l far x) (w := hlt)
    have e : (List.range n)[stp W n l far x]'hlt = stp W n l far x := List.getElem_range _
    rw [← e]; exact this
  · have := List.not_of_lt_findIdx (xs := List.range n) (p := isN W l far x) hj
    simpa using this
def wayL (W n : Nat) (l : List Bool) (far : List Int) : Nat → Nat → List Int
  | 0, _ => []
  | d + 1, x => (stp W n l far x : Int) :: wayL W n l far d (stp W n l far x)
theorem wayL_len (W n : Nat) (l : List Bool) (far : List Int) : ∀ d x, (wayL W n l far d x).length = d
  | 0, _ => rfl
  | d + 1, x => by simp [wayL, wayL_len W n l far d]

theorem way_c {W H n : Nat} (hN : W + H = n) (hW : W ≤ 64) (hH : H ≤ 64) (b : Bool) {l : List Bool} (hn : l.length = W * H) {a x0 : Nat} (ha : a < n) (hx0 : x0 < n) (h00 : 0 ≤ (srch (adjT W n l) (far0 n a) [a]).getD x0 0) (R : List Int) (hR : R = wayL W n l (srch (adjT W n l) (far0 n a) [a]) ((srch (adjT W n l) (far0 n a) [a]).getD x0 0).toNat x0) :
    Contract Try.prog 38 [GA W H b l, I x0, I a] (LR R.isEmpty R) := by
  have hs := steps_c hN hW hH b hn ha
  have hD := srch_dist (W := W) l ha
  generalize srch (adjT W n l) (far0 n a) [a] = far at *
  have hRl : R.length ≤ n := by rw [hR, wayL_len]; have := hD.high x0 hx0; omega
  have hfl := hD.len
  refine Contract.intro (effS [] false) 6 follows Try.func38 rfl rfl (by kernel_rfl) (Nat.le_of_ble_eq_true rfl) ?_
  simp (disch := first | assumption | omega | rfl | simp only [hAt_app, hAt_app0, List.getElem?_cons_zero, List.getElem?_cons_succ]) only [↓RP, RG, FX, decide_eq_true, decide_eq_false, Bool.not_true, Bool.not_false, Option.map_some, List.map_cons, List.map_nil, List.getElem?_cons_zero, List.getElem?_cons_succ, ↓reduceIte, Nat.reduceEqDiff, reduceCtorEq, decide_eq_true_eq, decide_eq_false_iff_not, Option.map_none, Option.bind_some, List.contains_nil, List.contains_cons, Nat.reduceBEq, Bool.or_false, Bool.false_or, Bool.or_self, List.set_cons_zero, List.set_cons_succ, List.take_succ_cons, List.take_zero, List.drop_succ_cons, List.drop_zero, List.length_cons, List.length_nil, List.length_append, Nat.reduceAdd, Nat.reduceLeDiff, List.all_cons, List.all_nil, Bool.and_true, and_true, true_and, and_self, ne_eq, not_false_eq_true, List.cons_append, List.nil_append, List.append_nil, List.append_assoc, Nat.zero_add, Nat.add_zero, Int.toNat_natCast, args0_3]
  refine callK_F 6 (hs) (by simp (disch := first | assumption | omega | rfl | simp only [hAt_app, hAt_app0, List.getElem?_cons_zero, List.getElem?_cons_succ]) only [↓RP, RG, FX, decide_eq_true, decide_eq_false, Bool.not_true, Bool.not_false, Option.map_some, List.map_cons, List.map_nil, List.getElem?_cons_zero, List.getElem?_cons_succ, ↓reduceIte, Nat.reduceEqDiff, reduceCtorEq, decide_eq_true_eq, decide_eq_false_iff_not, Option.map_none, Option.bind_some, List.contains_nil, List.contains_cons, Nat.reduceBEq, Bool.or_false, Bool.false_or, Bool.or_self, List.set_cons_zero, List.set_cons_succ, List.take_succ_cons, List.take_zero, List.drop_succ_cons, List.drop_zero, List.length_cons, List.length_nil, List.length_append, Nat.reduceAdd, Nat.reduceLeDiff, List.all_cons, List.all_nil, Bool.and_true, and_true, true_and, and_self, ne_eq, not_false_eq_true, List.cons_append, List.nil_append, List.append_nil, List.append_assoc, Nat.zero_add, Nat.add_zero, Int.toNat_natCast, RA] <;> rfl) (.inl (by simp [allFresh, ints_fresh, bools_fresh])) ?_
  simp (disch := first | assumption | omega | rfl | simp only [hAt_app, hAt_app0, List.getElem?_cons_zero, List.getElem?_cons_succ]) only [↓RP, RG, FX, decide_eq_true, decide_eq_false, Bool.not_true, Bool.not_false, Option.map_some, List.map_cons, List.map_nil, List.getElem?_cons_zero, List.getElem?_cons_succ, ↓reduceIte, Nat.reduceEqDiff, reduceCtorEq, decide_eq_true_eq, decide_eq_false_iff_not, Option.map_none, Option.bind_some, List.contains_nil, List.contains_cons, Nat.reduceBEq, Bool.or_false, Bool.false_or, Bool.or_self, List.set_cons_zero, List.set_cons_succ, List.take_succ_cons, List.take_zero, List.drop_succ_cons, List.drop_zero, List.length_cons, List.length_nil, List.length_append, Nat.reduceAdd, Nat.reduceLeDiff, List.all_cons, List.all_nil, Bool.and_true, and_true, true_and, and_self, ne_eq, not_false_eq_true, List.cons_append, List.nil_append, List.append_nil, List.append_assoc, Nat.zero_add, Nat.add_zero, Int.toNat_natCast]
  refine loopK_W [1, 2, 3, 7, 8] (fun s : Nat × List Int => s.1 < n ∧ 0 ≤ far.getD s.1 0 ∧ s.2 ++ wayL W n l far (far.getD s.1 0).toNat s.1 = R) (fun s => ⟨[(1, I s.1), (2, I a), (3, .ptr 0 0 3), (7, LR false far), (8, gw true 1 (ints s.2))], [⟨24, 3, [I W, I H, BA b l]⟩, go 3 (ints s.2)]⟩) (fun s => (far.getD s.1 0).toNat) (x0, []) ⟨hx0, h00, hR.symm⟩ ?_ ?_
  · simp only [↓RP, RG, FX, decide_eq_true, decide_eq_false, Bool.not_true, Bool.not_false, Option.map_some, List.map_cons, List.map_nil, List.getElem?_cons_zero, List.getElem?_cons_succ, ↓reduceIte, Nat.reduceEqDiff, reduceCtorEq, decide_eq_true_eq, decide_eq_false_iff_not, Option.map_none, Option.bind_some, List.contains_nil, List.contains_cons, Nat.reduceBEq, Bool.or_false, Bool.false_or, Bool.or_self, List.set_cons_zero, List.set_cons_succ, List.take_succ_cons, List.take_zero, List.drop_succ_cons, List.drop_zero, List.length_cons, List.length_nil, List.length_append, Nat.reduceAdd, Nat.reduceLeDiff, List.all_cons, List.all_nil, Bool.and_true, and_true, true_and, and_self, ne_eq, not_false_eq_true, List.cons_append, List.nil_append, List.append_nil, List.append_assoc, Nat.zero_add, Nat.add_zero, Int.toNat_natCast]
    exact Wk.weak (WE.cons _ (.refl _) (WE.cons _ (.refl _) (WE.cons _ (.refl _) (WE.cons _ (.refl _) (WE.cons _ (.nil _) WE.nil))))) (.cons _ _ _ _ (WL.refl _) (.nil _ (by simp [go, ints])))
  rintro ⟨x, out⟩ ⟨hx, hp, hout⟩
  simp only at hx hp hout ⊢
  by_cases hxa : x = a
  · subst hxa
    have h0 := hD.zero
    rw [h0, show (0 : Int).toNat = 0 from rfl, wayL, List.append_nil] at hout
    subst hout
    simp (disch := first | assumption | omega | rfl | simp only [hAt_app, hAt_app0, List.getElem?_cons_zero, List.getElem?_cons_succ]) only [↓RP, RG, FX, decide_eq_true, decide_eq_false, Bool.not_true, Bool.not_false, Option.map_some, List.map_cons, List.map_nil, List.getElem?_cons_zero, List.getElem?_cons_succ, ↓reduceIte, Nat.reduceEqDiff, reduceCtorEq, decide_eq_true_eq, decide_eq_false_iff_not, Option.map_none, Option.bind_some, List.contains_nil, List.contains_cons, Nat.reduceBEq, Bool.or_false, Bool.false_or, Bool.or_self, List.set_cons_zero, List.set_cons_succ, List.take_succ_cons, List.take_zero, List.drop_succ_cons, List.drop_zero, List.length_cons, List.length_nil, List.length_append, Nat.reduceAdd, Nat.reduceLeDiff, List.all_cons, List.all_nil, Bool.and_true, and_true, true_and, and_self, ne_eq, not_false_eq_true, List.cons_append, List.nil_append, List.append_nil, List.append_assoc, Nat.zero_add, Nat.add_zero, Int.toNat_natCast]
    rw [resVal_1 rfl]; simp (disch := first | assumption | omega | rfl | simp only [hAt_app, hAt_app0, List.getElem?_cons_zero, List.getElem?_cons_succ]) only [↓RP, RG, FX, decide_eq_true, decide_eq_false, Bool.not_true, Bool.not_false, Option.map_some, List.map_cons, List.map_nil, List.getElem?_cons_zero, List.getElem?_cons_succ, ↓reduceIte, Nat.reduceEqDiff, reduceCtorEq, decide_eq_true_eq, decide_eq_false_iff_not, Option.map_none, Option.bind_some, List.contains_nil, List.contains_cons, Nat.reduceBEq, Bool.or_false, Bool.false_or, Bool.or_self, List.set_cons_zero, List.set_cons_succ, List.take_succ_cons, List.take_zero, List.drop_succ_cons, List.drop_zero, List.length_cons, List.length_nil, List.length_append, Nat.reduceAdd, Nat.reduceLeDiff, List.all_cons, List.all_nil, Bool.and_true, and_true, true_and, and_self, ne_eq, not_false_eq_true, List.cons_append, List.nil_append, List.append_nil, List.append_assoc, Nat.zero_add, Nat.add_zero, Int.toNat_natCast, RS]
    simp only [Bool.true_and, ints_isEmpty]
  · have hpos : 0 < far.getD x 0 := by
      have := hD.one x hx
      by_cases e : far.getD x 0 = 0
      · exact absurd (this e) hxa
      · omega
    obtain ⟨s1, s2, s3⟩ := stp_ok hD hx hpos
    have hxa' : (x : Int) ≠ (a : Int) := fun e => hxa (by omega)
    simp (disch := first | assumption | omega | rfl | simp only [hAt_app, hAt_app0, List.getElem?_cons_zero, List.getElem?_cons_succ]) only [↓RP, RG, FX, decide_eq_true, decide_eq_false, Bool.not_true, Bool.not_false, Option.map_some, List.map_cons, List.map_nil, List.getElem?_cons_zero, List.getElem?_cons_succ, ↓reduceIte, Nat.reduceEqDiff, reduceCtorEq, decide_eq_true_eq, decide_eq_false_iff_not, Option.map_none, Option.bind_some, List.contains_nil, List.contains_cons, Nat.reduceBEq, Bool.or_false, Bool.false_or, Bool.or_self, List.set_cons_zero, List.set_cons_succ, List.take_succ_cons, List.take_zero, List.drop_succ_cons, List.drop_zero, List.length_cons, List.length_nil, List.length_append, Nat.reduceAdd, Nat.reduceLeDiff, List.all_cons, List.all_nil, Bool.and_true, and_true, true_and, and_self, ne_eq, not_false_eq_true, List.cons_append, List.nil_append, List.append_nil, List.append_assoc, Nat.zero_add, Nat.add_zero, Int.toNat_natCast]
    refine loopK_I [1, 2, 3, 7, 8, 9] (fun j : Nat => j ≤ stp W n l far x) (fun j => ⟨[(1, I x), (2, I a), (3, .ptr 0 0 3), (7, LR false far), (8, gw true 1 (ints out)), (9, I j)], [⟨24, 3, [I W, I H, BA b l]⟩, go 3 (ints out)]⟩) (fun j => stp W n l far x - j) 0 (by omega) (by simp only [↓RP, RG, FX, decide_eq_true, decide_eq_false, Bool.not_true, Bool.not_false, Option.map_some, List.map_cons, List.map_nil, List.getElem?_cons_zero, List.getElem?_cons_succ, ↓reduceIte, Nat.reduceEqDiff, reduceCtorEq, decide_eq_true_eq, decide_eq_false_iff_not, Option.map_none, Option.bind_some, List.contains_nil, List.contains_cons, Nat.reduceBEq, Bool.or_false, Bool.false_or, Bool.or_self, List.set_cons_zero, List.set_cons_succ, List.take_succ_cons, List.take_zero, List.drop_succ_cons, List.drop_zero, List.length_cons, List.length_nil, List.length_append, Nat.reduceAdd, Nat.reduceLeDiff, List.all_cons, List.all_nil, Bool.and_true, and_true, true_and, and_self, ne_eq, not_false_eq_true, List.cons_append, List.nil_append, List.append_nil, List.append_assoc, Nat.zero_add, Nat.add_zero, Int.toNat_natCast]; rfl) ?_
    intro j hj
    have hjn : j < n := by omega
    have lx := hD.high x hx
    have lj := hD.high j hjn
    have lj' := hD.low j hjn
    have hA := above_c (W := W) (H := H) b hW hH hn (a := x) (c := j) (by omega) (by omega)
    by_cases hlt : j < stp W n l far x
    · have h3 := s3 j hlt
      by_cases c1 : far.getD j 0 = far.getD x 0 - 1
      · have hov : ov W l x j = false := by
          unfold isN at h3
          rw [decide_eq_true c1] at h3
          simpa using h3
        rw [hov] at hA
        simp (disch := first | assumption | omega | rfl | simp only [hAt_app, hAt_app0, List.getElem?_cons_zero, List.getElem?_cons_succ]) only [↓RP, RG, FX, decide_eq_true, decide_eq_false, Bool.not_true, Bool.not_false, Option.map_some, List.map_cons, List.map_nil, List.getElem?_cons_zero, List.getElem?_cons_succ, ↓reduceIte, Nat.reduceEqDiff, reduceCtorEq, decide_eq_true_eq, decide_eq_false_iff_not, Option.map_none, Option.bind_some, List.contains_nil, List.contains_cons, Nat.reduceBEq, Bool.or_false, Bool.false_or, Bool.or_self, List.set_cons_zero, List.set_cons_succ, List.take_succ_cons, List.take_zero, List.drop_succ_cons, List.drop_zero, List.length_cons, List.length_nil, List.length_append, Nat.reduceAdd, Nat.reduceLeDiff, List.all_cons, List.all_nil, Bool.and_true, and_true, true_and, and_self, ne_eq, not_false_eq_true, List.cons_append, List.nil_append, List.append_nil, List.append_assoc, Nat.zero_add, Nat.add_zero, Int.toNat_natCast]
        refine callK_F 6 (hA) (by simp (disch := first | assumption | omega | rfl | simp only [hAt_app, hAt_app0, List.getElem?_cons_zero, List.getElem?_cons_succ]) only [↓RP, RG, FX, decide_eq_true, decide_eq_false, Bool.not_true, Bool.not_false, Option.map_some, List.map_cons, List.map_nil, List.getElem?_cons_zero, List.getElem?_cons_succ, ↓reduceIte, Nat.reduceEqDiff, reduceCtorEq, decide_eq_true_eq, decide_eq_false_iff_not, Option.map_none, Option.bind_some, List.contains_nil, List.contains_cons, Nat.reduceBEq, Bool.or_false, Bool.false_or, Bool.or_self, List.set_cons_zero, List.set_cons_succ, List.take_succ_cons, List.take_zero, List.drop_succ_cons, List.drop_zero, List.length_cons, List.length_nil, List.length_append, Nat.reduceAdd, Nat.reduceLeDiff, List.all_cons, List.all_nil, Bool.and_true, and_true, true_and, and_self, ne_eq, not_false_eq_true, List.cons_append, List.nil_append, List.append_nil, List.append_assoc, Nat.zero_add, Nat.add_zero, Int.toNat_natCast, RA] <;> rfl) (.inl (by simp [allFresh, ints_fresh, bools_fresh])) ?_
        simp (disch := first | assumption | omega | rfl | simp only [hAt_app, hAt_app0, List.getElem?_cons_zero, List.getElem?_cons_succ]) only [↓RP, RG, FX, decide_eq_true, decide_eq_false, Bool.not_true, Bool.not_false, Option.map_some, List.map_cons, List.map_nil, List.getElem?_cons_zero, List.getElem?_cons_succ, ↓reduceIte, Nat.reduceEqDiff, reduceCtorEq, decide_eq_true_eq, decide_eq_false_iff_not, Option.map_none, Option.bind_some, List.contains_nil, List.contains_cons, Nat.reduceBEq, Bool.or_false, Bool.false_or, Bool.or_self, List.set_cons_zero, List.set_cons_succ, List.take_succ_cons, List.take_zero, List.drop_succ_cons, List.drop_zero, List.length_cons, List.length_nil, List.length_append, Nat.reduceAdd, Nat.reduceLeDiff, List.all_cons, List.all_nil, Bool.and_true, and_true, true_and, and_self, ne_eq, not_false_eq_true, List.cons_append, List.nil_append, List.append_nil, List.append_assoc, Nat.zero_add, Nat.add_zero, Int.toNat_natCast]
        exact ⟨j + 1, hlt, rfl, by omega⟩
      · simp (disch := first | assumption | omega | rfl | simp only [hAt_app, hAt_app0, List.getElem?_cons_zero, List.getElem?_cons_succ]) only [↓RP, RG, FX, decide_eq_true, decide_eq_false, Bool.not_true, Bool.not_false, Option.map_some, List.map_cons, List.map_nil, List.getElem?_cons_zero, List.getElem?_cons_succ, ↓reduceIte, Nat.reduceEqDiff, reduceCtorEq, decide_eq_true_eq, decide_eq_false_iff_not, Option.map_none, Option.bind_some, List.contains_nil, List.contains_cons, Nat.reduceBEq, Bool.or_false, Bool.false_or, Bool.or_self, List.set_cons_zero, List.set_cons_succ, List.take_succ_cons, List.take_zero, List.drop_succ_cons, List.drop_zero, List.length_cons, List.length_nil, List.length_append, Nat.reduceAdd, Nat.reduceLeDiff, List.all_cons, List.all_nil, Bool.and_true, and_true, true_and, and_self, ne_eq, not_false_eq_true, List.cons_append, List.nil_append, List.append_nil, List.append_assoc, Nat.zero_add, Nat.add_zero, Int.toNat_natCast]
        exact ⟨j + 1, hlt, rfl, by omega⟩
    · obtain rfl : j = stp W n l far x := by omega
      unfold isN at s2
      simp only [Bool.and_eq_true, decide_eq_true_eq] at s2
      obtain ⟨c1, hov⟩ := s2
      rw [hov] at hA
      generalize hst : stp W n l far x = y at *
      have hol : out.length ≤ n := by
        have := congrArg List.length hout
        rw [List.length_append] at this; omega
      have hd : (far.getD x 0).toNat = (far.getD y 0).toNat + 1 := by omega
      simp (disch := first | assumption | omega | rfl | simp only [hAt_app, hAt_app0, List.getElem?_cons_zero, List.getElem?_cons_succ]) only [↓RP, RG, FX, decide_eq_true, decide_eq_false, Bool.not_true, Bool.not_false, Option.map_some, List.map_cons, List.map_nil, List.getElem?_cons_zero, List.getElem?_cons_succ, ↓reduceIte, Nat.reduceEqDiff, reduceCtorEq, decide_eq_true_eq, decide_eq_false_iff_not, Option.map_none, Option.bind_some, List.contains_nil, List.contains_cons, Nat.reduceBEq, Bool.or_false, Bool.false_or, Bool.or_self, List.set_cons_zero, List.set_cons_succ, List.take_succ_cons, List.take_zero, List.drop_succ_cons, List.drop_zero, List.length_cons, List.length_nil, List.length_append, Nat.reduceAdd, Nat.reduceLeDiff, List.all_cons, List.all_nil, Bool.and_true, and_true, true_and, and_self, ne_eq, not_false_eq_true, List.cons_append, List.nil_append, List.append_nil, List.append_assoc, Nat.zero_add, Nat.add_zero, Int.toNat_natCast]
      refine callK_F 6 (hA) (by simp (disch := first | assumption | omega | rfl | simp only [hAt_app, hAt_app0, List.getElem?_cons_zero, List.getElem?_cons_succ]) only [↓RP, RG, FX, decide_eq_true, decide_eq_false, Bool.not_true, Bool.not_false, Option.map_some, List.map_cons, List.map_nil, List.getElem?_cons_zero, List.getElem?_cons_succ, ↓reduceIte, Nat.reduceEqDiff, reduceCtorEq, decide_eq_true_eq, decide_eq_false_iff_not, Option.map_none, Option.bind_some, List.contains_nil, List.contains_cons, Nat.reduceBEq, Bool.or_false, Bool.false_or, Bool.or_self, List.set_cons_zero, List.set_cons_succ, List.take_succ_cons, List.take_zero, List.drop_succ_cons, List.drop_zero, List.length_cons, List.length_nil, List.length_append, Nat.reduceAdd, Nat.reduceLeDiff, List.all_cons, List.all_nil, Bool.and_true, and_true, true_and, and_self, ne_eq, not_false_eq_true, List.cons_append, List.nil_append, List.append_nil, List.append_assoc, Nat.zero_add, Nat.add_zero, Int.toNat_natCast, RA] <;> rfl) (.inl (by simp [allFresh, ints_fresh, bools_fresh])) ?_
      simp (disch := first | assumption | omega | rfl | simp only [hAt_app, hAt_app0, List.getElem?_cons_zero, List.getElem?_cons_succ]) only [↓RP, RG, FX, decide_eq_true, decide_eq_false, Bool.not_true, Bool.not_false, Option.map_some, List.map_cons, List.map_nil, List.getElem?_cons_zero, List.getElem?_cons_succ, ↓reduceIte, Nat.reduceEqDiff, reduceCtorEq, decide_eq_true_eq, decide_eq_false_iff_not, Option.map_none, Option.bind_some, List.contains_nil, List.contains_cons, Nat.reduceBEq, Bool.or_false, Bool.false_or, Bool.or_self, List.set_cons_zero, List.set_cons_succ, List.take_succ_cons, List.take_zero, List.drop_succ_cons, List.drop_zero, List.length_cons, List.length_nil, List.length_append, Nat.reduceAdd, Nat.reduceLeDiff, List.all_cons, List.all_nil, Bool.and_true, and_true, true_and, and_self, ne_eq, not_false_eq_true, List.cons_append, List.nil_append, List.append_nil, List.append_assoc, Nat.zero_add, Nat.add_zero, Int.toNat_natCast, append_int]
      refine ⟨(y, out ++ [(y : Int)]), ⟨by omega, by simp only; omega, ?_⟩, rfl, by simp only; omega⟩
      rw [hd, wayL, hst] at hout
      simp only [List.append_assoc, List.singleton_append]
      exact hout
end Go.Proofs.Ytefhmecaoefpbaa
