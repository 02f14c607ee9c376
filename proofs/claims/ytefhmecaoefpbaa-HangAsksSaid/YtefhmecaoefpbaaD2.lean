/- Drafts: tables, drawdowns, lifts. -/
import Derived.Test.YtefhmecaoefpbaaD1
set_option linter.unusedSimpArgs false
set_option linter.unusedVariables false
set_option maxRecDepth 100000
namespace Go.Proofs.Ytefhmecaoefpbaa
open Go Go.Proofs Go.AW

/-- The first n cells of a table of W columns. -/
def tabN (W : Nat) (u : Nat → Nat → Bool) (n : Nat) : List Bool := (List.range n).map fun i => u (i % W) (i / W)
theorem tabN_len (W : Nat) (u : Nat → Nat → Bool) (n : Nat) : (tabN W u n).length = n := by simp [tabN]
theorem tabN_succ (W : Nat) (u : Nat → Nat → Bool) {y x : Nat} (hx : x < W) : tabN W u (W * y + x + 1) = tabN W u (W * y + x) ++ [u x y] := by
  have e1 : (W * y + x) % W = x := by rw [Nat.mul_add_mod]; exact Nat.mod_eq_of_lt hx
  have e2 : (W * y + x) / W = y := by rw [Nat.mul_add_div (by omega), Nat.div_eq_of_lt hx, Nat.add_zero]
  simp only [tabN, List.range_succ, List.map_append, List.map_cons, List.map_nil, e1, e2]
theorem tabN_get (W : Nat) (u : Nat → Nat → Bool) {n y x : Nat} (hx : x < W) (hn : W * y + x < n) : (tabN W u n).getD (W * y + x) false = u x y := by
  have e1 : (W * y + x) % W = x := by rw [Nat.mul_add_mod]; exact Nat.mod_eq_of_lt hx
  have e2 : (W * y + x) / W = y := by rw [Nat.mul_add_div (by omega), Nat.div_eq_of_lt hx, Nat.add_zero]
  simp [tabN, List.getD_eq_getElem?_getD, List.getElem?_range hn, e1, e2]
theorem tabN_congr {W : Nat} {u v : Nat → Nat → Bool} {H : Nat} (h : ∀ x y, x < W → y < H → u x y = v x y) : tabN W u (W * H) = tabN W v (W * H) := by
  apply List.map_congr_left
  intro i hi
  have hi' : i < W * H := by simpa using hi
  have hW : 0 < W := by
    rcases Nat.eq_zero_or_pos W with h0 | h0
    · subst h0; simp at hi'
    · exact h0
  exact h _ _ (Nat.mod_lt _ hW) (Nat.div_lt_of_lt_mul hi')
theorem tabN_pos {W H : Nat} (hw : 0 < W) (hh : 0 < H) (u : Nat → Nat → Bool) : 0 < (bools (tabN W u (W * H))).length := by
  rw [bools_length, tabN_len]; exact Nat.mul_pos hw hh
theorem bools_isEmpty (l : List Bool) : (bools l).isEmpty = l.isEmpty := by cases l <;> rfl
theorem ints_isEmpty (l : List Int) : (ints l).isEmpty = l.isEmpty := by cases l <;> rfl

end Go.Proofs.Ytefhmecaoefpbaa
