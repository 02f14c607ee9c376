/- Double cloths: the reference's weaving. -/
import Derived.Test.YtcconjlcjinfkaaDoorE2
set_option linter.unusedSimpArgs false
set_option linter.unusedVariables false
set_option maxRecDepth 100000
namespace Go.Proofs.YtcconjlcjinfkaaDoor
open Go Go.Proofs Go.AW

/-- A table that is filled two by two. -/
def col2 (W : Nat) (u : Nat → Nat → Bool) (n x y : Nat) : List Bool := (List.range n).map fun i => if i % W / 2 < x ∨ (i % W / 2 = x ∧ i / W / 2 < y) then u (i % W) (i / W) else false
theorem col2_len (W : Nat) (u : Nat → Nat → Bool) (n x y : Nat) : (col2 W u n x y).length = n := by simp [col2]
theorem col2_zero (W : Nat) (u : Nat → Nat → Bool) (n : Nat) : col2 W u n 0 0 = List.replicate n false := by
  apply List.ext_getElem
  · simp [col2]
  · intro i h1 h2; simp [col2]
theorem idx_iff {W a b i : Nat} (ha : a < W) : W * b + a = i ↔ i % W = a ∧ i / W = b := by
  constructor
  · rintro rfl
    exact ⟨by rw [Nat.mul_add_mod]; exact Nat.mod_eq_of_lt ha, by rw [Nat.mul_add_div (by omega), Nat.div_eq_of_lt ha, Nat.add_zero]⟩
  · rintro ⟨h1, h2⟩
    have := Nat.div_add_mod i W
    rw [h1, h2] at this; exact this
theorem col2_step (W : Nat) (u : Nat → Nat → Bool) {n x y : Nat} (hx : 2 * x + 1 < W) :
    ((((col2 W u n x y).set (W * (2 * y) + 2 * x) (u (2 * x) (2 * y))).set (W * (2 * y + 1) + (2 * x + 1)) (u (2 * x + 1) (2 * y + 1))).set (W * (2 * y + 1) + 2 * x) (u (2 * x) (2 * y + 1))).set (W * (2 * y) + (2 * x + 1)) (u (2 * x + 1) (2 * y)) = col2 W u n x (y + 1) := by
  apply List.ext_getElem
  · simp [col2]
  · intro i h1 h2
    simp only [List.getElem_set, idx_iff (show 2 * x < W by omega), idx_iff hx]
    simp only [col2, List.getElem_map, List.getElem_range]
    generalize i % W = r at *
    generalize i / W = q at *
    by_cases c1 : r = 2 * x + 1 ∧ q = 2 * y
    · rw [if_pos c1, if_pos (by omega), c1.1, c1.2]
    rw [if_neg c1]
    by_cases c2 : r = 2 * x ∧ q = 2 * y + 1
    · rw [if_pos c2, if_pos (by omega), c2.1, c2.2]
    rw [if_neg c2]
    by_cases c3 : r = 2 * x + 1 ∧ q = 2 * y + 1
    · rw [if_pos c3, if_pos (by omega), c3.1, c3.2]
    rw [if_neg c3]
    by_cases c4 : r = 2 * x ∧ q = 2 * y
    · rw [if_pos c4, if_pos (by omega), c4.1, c4.2]
    rw [if_neg c4]
    by_cases hc : r / 2 < x ∨ (r / 2 = x ∧ q / 2 < y)
    · rw [if_pos hc, if_pos (by omega)]
    · rw [if_neg hc, if_neg (by omega)]
theorem col2_row (W : Nat) (u : Nat → Nat → Bool) (H x : Nat) : col2 W u (W * (2 * H)) x H = col2 W u (W * (2 * H)) (x + 1) 0 := by
  apply List.map_congr_left
  intro i hi
  have hi' : i < W * (2 * H) := by simpa using hi
  have hq := Nat.div_lt_of_lt_mul hi'
  generalize i % W = r at *
  generalize i / W = q at *
  by_cases hc : r / 2 < x ∨ (r / 2 = x ∧ q / 2 < H)
  · rw [if_pos hc, if_pos (by omega)]
  · rw [if_neg hc, if_neg (by omega)]
theorem col2_end (W : Nat) (u : Nat → Nat → Bool) (n : Nat) (hW : 0 < W) : col2 (2 * W) u n W 0 = tabN (2 * W) u n := by
  apply List.map_congr_left
  intro i hi
  have := Nat.mod_lt i (show 2 * W > 0 by omega)
  rw [if_pos (by omega)]

theorem uD_00 (w : Int) (a b m : List Bool) (x y : Nat) : uD w a b m (2 * x) (2 * y) = cell w a x y := by
  rw [uD, if_pos (by omega), show 2 * x / 2 = x by omega, show 2 * y / 2 = y by omega]
theorem uD_11 (w : Int) (a b m : List Bool) (x y : Nat) : uD w a b m (2 * x + 1) (2 * y + 1) = cell w b x y := by
  rw [uD, if_neg (by omega), if_pos (by omega), show (2 * x + 1) / 2 = x by omega, show (2 * y + 1) / 2 = y by omega]
theorem uD_01 (w : Int) (a b m : List Bool) (x y : Nat) : uD w a b m (2 * x) (2 * y + 1) = cell w m x y := by
  rw [uD, if_neg (by omega), if_neg (by omega), show 2 * x / 2 = x by omega, show (2 * y + 1) / 2 = y by omega, decide_eq_true (by omega)]
  cases cell w m x y <;> rfl
theorem uD_10 (w : Int) (a b m : List Bool) (x y : Nat) : uD w a b m (2 * x + 1) (2 * y) = !cell w m x y := by
  rw [uD, if_neg (by omega), if_neg (by omega), show (2 * x + 1) / 2 = x by omega, show 2 * y / 2 = y by omega, decide_eq_false (by omega)]
  cases cell w m x y <;> rfl

end Go.Proofs.YtcconjlcjinfkaaDoor
