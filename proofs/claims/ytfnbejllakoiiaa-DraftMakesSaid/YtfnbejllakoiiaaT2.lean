/- Drafts: drawdowns and lifts as values; turned. -/
import Derived.Test.YtfnbejllakoiiaaD6
import Derived.Test.YtfnbejllakoiiaaT1
import Derived.Test.YtfnbejllakoiiaaBw3
set_option linter.unusedSimpArgs false
set_option linter.unusedVariables false
set_option maxRecDepth 100000
namespace Go.Proofs.Ytfnbejllakoiiaa
open Go Go.Proofs Go.AW

theorem clone_c (b : Bool) (l : List Int) (hl : l.length ≤ 1000000000000) (hb : b = true → l = []) : Contract Try.prog 13 [LA b l] (LR b l) := by
  refine Contract.intro (effS [] false) 6 follows Try.func13 rfl rfl (by kernel_rfl) (Nat.le_of_ble_eq_true rfl) ?_
  cases b with
  | true =>
    obtain rfl := hb rfl
    simp (disch := first | assumption | omega | rfl | simp only [hAt_app, hAt_app0, List.getElem?_cons_zero, List.getElem?_cons_succ]) only [↓RP, RG, FX, decide_eq_true, decide_eq_false, Bool.not_true, Bool.not_false, Option.map_some, List.map_cons, List.map_nil, List.getElem?_cons_zero, List.getElem?_cons_succ, ↓reduceIte, Nat.reduceEqDiff, reduceCtorEq, decide_eq_true_eq, decide_eq_false_iff_not, Option.map_none, Option.bind_some, List.contains_nil, List.contains_cons, Nat.reduceBEq, Bool.or_false, Bool.false_or, Bool.or_self, List.set_cons_zero, List.set_cons_succ, List.take_succ_cons, List.take_zero, List.drop_succ_cons, List.drop_zero, List.length_cons, List.length_nil, List.length_append, Nat.reduceAdd, Nat.reduceLeDiff, List.all_cons, List.all_nil, Bool.and_true, and_true, true_and, and_self, ne_eq, not_false_eq_true, List.cons_append, List.nil_append, List.append_nil, List.append_assoc, Nat.zero_add, Nat.add_zero, Int.toNat_natCast, args0_1]
    rw [resVal_1 rfl]; simp (disch := first | assumption | omega | rfl | simp only [hAt_app, hAt_app0, List.getElem?_cons_zero, List.getElem?_cons_succ]) only [↓RP, RG, FX, decide_eq_true, decide_eq_false, Bool.not_true, Bool.not_false, Option.map_some, List.map_cons, List.map_nil, List.getElem?_cons_zero, List.getElem?_cons_succ, ↓reduceIte, Nat.reduceEqDiff, reduceCtorEq, decide_eq_true_eq, decide_eq_false_iff_not, Option.map_none, Option.bind_some, List.contains_nil, List.contains_cons, Nat.reduceBEq, Bool.or_false, Bool.false_or, Bool.or_self, List.set_cons_zero, List.set_cons_succ, List.take_succ_cons, List.take_zero, List.drop_succ_cons, List.drop_zero, List.length_cons, List.length_nil, List.length_append, Nat.reduceAdd, Nat.reduceLeDiff, List.all_cons, List.all_nil, Bool.and_true, and_true, true_and, and_self, ne_eq, not_false_eq_true, List.cons_append, List.nil_append, List.append_nil, List.append_assoc, Nat.zero_add, Nat.add_zero, Int.toNat_natCast, RS]
    first | done | rfl
  | false =>
    simp (disch := first | assumption | omega | rfl | simp only [hAt_app, hAt_app0, List.getElem?_cons_zero, List.getElem?_cons_succ]) only [↓RP, RG, FX, decide_eq_true, decide_eq_false, Bool.not_true, Bool.not_false, Option.map_some, List.map_cons, List.map_nil, List.getElem?_cons_zero, List.getElem?_cons_succ, ↓reduceIte, Nat.reduceEqDiff, reduceCtorEq, decide_eq_true_eq, decide_eq_false_iff_not, Option.map_none, Option.bind_some, List.contains_nil, List.contains_cons, Nat.reduceBEq, Bool.or_false, Bool.false_or, Bool.or_self, List.set_cons_zero, List.set_cons_succ, List.take_succ_cons, List.take_zero, List.drop_succ_cons, List.drop_zero, List.length_cons, List.length_nil, List.length_append, Nat.reduceAdd, Nat.reduceLeDiff, List.all_cons, List.all_nil, Bool.and_true, and_true, true_and, and_self, ne_eq, not_false_eq_true, List.cons_append, List.nil_append, List.append_nil, List.append_assoc, Nat.zero_add, Nat.add_zero, Int.toNat_natCast, args0_1, copy_ints]
    rw [resVal_1 rfl]; simp (disch := first | assumption | omega | rfl | simp only [hAt_app, hAt_app0, List.getElem?_cons_zero, List.getElem?_cons_succ]) only [↓RP, RG, FX, decide_eq_true, decide_eq_false, Bool.not_true, Bool.not_false, Option.map_some, List.map_cons, List.map_nil, List.getElem?_cons_zero, List.getElem?_cons_succ, ↓reduceIte, Nat.reduceEqDiff, reduceCtorEq, decide_eq_true_eq, decide_eq_false_iff_not, Option.map_none, Option.bind_some, List.contains_nil, List.contains_cons, Nat.reduceBEq, Bool.or_false, Bool.false_or, Bool.or_self, List.set_cons_zero, List.set_cons_succ, List.take_succ_cons, List.take_zero, List.drop_succ_cons, List.drop_zero, List.length_cons, List.length_nil, List.length_append, Nat.reduceAdd, Nat.reduceLeDiff, List.all_cons, List.all_nil, Bool.and_true, and_true, true_and, and_self, ne_eq, not_false_eq_true, List.cons_append, List.nil_append, List.append_nil, List.append_assoc, Nat.zero_add, Nat.add_zero, Int.toNat_natCast, RS]
    first | done | simp

theorem uT_twice {S T : Nat} {l : List Bool} (hn : l.length = T * S) : tabN T (uT S (tabN S (uT T l) (S * T))) (T * S) = l := by
  apply List.ext_getElem
  · rw [tabN_len, hn]
  intro i h1 h2
  rw [tabN_len] at h1
  have hT : 0 < T := by rcases Nat.eq_zero_or_pos T with h | h; · subst h; simp at h1
                        · exact h
  have hx : i % T < T := Nat.mod_lt _ hT
  have hy : i / T < S := by rw [Nat.div_lt_iff_lt_mul hT, Nat.mul_comm]; exact h1
  have hi : T * (i / T) + i % T = i := Nat.div_add_mod i T
  have e1 := tabN_get T (uT S (tabN S (uT T l) (S * T))) (n := T * S) (y := i / T) (x := i % T) hx (by rw [hi]; exact h1)
  rw [hi] at e1
  have e2 : (tabN T (uT S (tabN S (uT T l) (S * T))) (T * S))[i]'(by rw [tabN_len]; exact h1) = (tabN T (uT S (tabN S (uT T l) (S * T))) (T * S)).getD i false := by
    rw [List.getD_eq_getElem?_getD, List.getElem?_eq_getElem (by rw [tabN_len]; exact h1)]; rfl
  have e3 := tabN_get S (uT T l) (n := S * T) (y := i % T) (x := i / T) hy (idx_lt hy hx)
  have e4 : uT S (tabN S (uT T l) (S * T)) (i % T) (i / T) = (tabN S (uT T l) (S * T)).getD (S * (i % T) + i / T) false := by
    show (tabN S (uT T l) (S * T)).getD _ false = _
    rw [idx_nat]
  have e5 : uT T l (i / T) (i % T) = l.getD i false := by
    show l.getD _ false = _
    rw [idx_nat, hi]
  rw [e2, e1, e4, e3, e5, List.getD_eq_getElem?_getD, List.getElem?_eq_getElem h2]; rfl

/-- A draft turned is valid. -/
theorem dOk_turn {S T : Nat} {th td : List Int} {n m : Int} (hd : dOk S T th td T S n) (hm : m = (S : Int) * T) : dOk T S td th S T m := by
  obtain ⟨h1, h2, h3, h4, h5, h6, g, _, _⟩ := hd
  obtain ⟨g1, g2, g3, g4, g5⟩ := g
  exact ⟨h2, h1, h4, h3, h6, h5, ⟨g3, g4, g1, g2, hm⟩, rfl, rfl⟩

/-- The drawdown of a draft turned. -/
theorem weave_turn {S T : Nat} {th td : List Int} {l : List Bool} (hd : dOk S T th td T S l.length) :
    tabN td.length (uW S td th (tabN S (uT T l) (S * T))) (td.length * th.length) = tabN td.length (uT th.length (tabN th.length (uW T th td l) (th.length * td.length))) (td.length * th.length) := by
  refine tabN_congr fun x y hx hy => ?_
  obtain ⟨a1, a2⟩ := hd.2.2.2.2.1.2 y hy
  obtain ⟨c1, c2⟩ := hd.2.2.2.2.2.1.2 x hx
  obtain ⟨a, ha⟩ : ∃ a : Nat, th.getD y 0 = a := ⟨(th.getD y 0).toNat, by omega⟩
  obtain ⟨c, hc⟩ : ∃ c : Nat, td.getD x 0 = c := ⟨(td.getD x 0).toNat, by omega⟩
  rw [ha] at a2; rw [hc] at c2
  have e3 := tabN_get S (uT T l) (n := S * T) (y := c) (x := a) (by omega) (idx_lt (by omega) (by omega))
  have e4 := tabN_get th.length (uW T th td l) (n := th.length * td.length) (y := x) (x := y) hy (idx_lt hy hx)
  have l1 : uW S td th (tabN S (uT T l) (S * T)) x y = (tabN S (uT T l) (S * T)).getD (S * c + a) false := by
    show (tabN S (uT T l) (S * T)).getD (td.getD x 0 * (S : Int) + th.getD y 0).toNat false = _
    rw [ha, hc, idx_nat]
  have l2 : uT th.length (tabN th.length (uW T th td l) (th.length * td.length)) x y = (tabN th.length (uW T th td l) (th.length * td.length)).getD (th.length * x + y) false := by
    show (tabN th.length (uW T th td l) (th.length * td.length)).getD ((x : Int) * (th.length : Int) + (y : Int)).toNat false = _
    rw [idx_nat]
  have l3 : uT T l a c = uW T th td l y x := by
    show l.getD ((a : Int) * (T : Int) + (c : Int)).toNat false = l.getD (th.getD y 0 * (T : Int) + td.getD x 0).toNat false
    rw [ha, hc]
  rw [l1, l2, e3, e4, l3]
end Go.Proofs.Ytfnbejllakoiiaa
