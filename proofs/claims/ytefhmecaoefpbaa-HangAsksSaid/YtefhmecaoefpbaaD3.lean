/- Drafts: drawdowns and lifts, of the program and the reference. -/
import Derived.Test.YtefhmecaoefpbaaD2
set_option linter.unusedSimpArgs false
set_option linter.unusedVariables false
set_option maxRecDepth 100000
namespace Go.Proofs.Ytefhmecaoefpbaa
open Go Go.Proofs Go.AW

theorem idx_nat (W y x : Nat) : ((y : Int) * (W : Int) + (x : Int)).toNat = W * y + x := by
  rw [← Int.natCast_mul, ← Int.natCast_add, Int.toNat_natCast, Nat.mul_comm]
theorem mul_nat (W H : Nat) : ((W : Int) * (H : Int)).toNat = W * H := by rw [← Int.natCast_mul, Int.toNat_natCast]
theorem mul_bd {W H : Nat} (hw : W ≤ 10000) (hh : H ≤ 10000) : 0 ≤ (W : Int) * (H : Int) ∧ (W : Int) * (H : Int) ≤ 100000000 := by
  have h1 : W * H ≤ 10000 * 10000 := Nat.mul_le_mul hw hh
  rw [← Int.natCast_mul]; omega
theorem idx_lt {W H x y : Nat} (hx : x < W) (hy : y < H) : W * y + x < W * H := by
  have : W * (y + 1) ≤ W * H := Nat.mul_le_mul_left W hy
  rw [Nat.mul_succ] at this; omega

/-- A table whose first x columns and, in the next one, first y cells are there. -/
def colN (W : Nat) (u : Nat → Nat → Bool) (n x y : Nat) : List Bool := (List.range n).map fun i => if i % W < x ∨ (i % W = x ∧ i / W < y) then u (i % W) (i / W) else false
theorem colN_len (W : Nat) (u : Nat → Nat → Bool) (n x y : Nat) : (colN W u n x y).length = n := by simp [colN]
theorem colN_zero (W : Nat) (u : Nat → Nat → Bool) (n : Nat) : colN W u n 0 0 = List.replicate n false := by
  apply List.ext_getElem
  · simp [colN]
  · intro i h1 h2; simp [colN]
theorem colN_step (W : Nat) (u : Nat → Nat → Bool) {n x y : Nat} (hx : x < W) : (colN W u n x y).set (W * y + x) (u x y) = colN W u n x (y + 1) := by
  have e1 : (W * y + x) % W = x := by rw [Nat.mul_add_mod]; exact Nat.mod_eq_of_lt hx
  have e2 : (W * y + x) / W = y := by rw [Nat.mul_add_div (by omega), Nat.div_eq_of_lt hx, Nat.add_zero]
  apply List.ext_getElem
  · simp [colN]
  · intro i h1 h2
    rw [List.getElem_set]
    by_cases hi : W * y + x = i
    · subst hi
      rw [if_pos rfl]
      simp [colN, e1, e2]
    · rw [if_neg hi]
      simp only [colN, List.getElem_map, List.getElem_range]
      have hne : ¬ (i % W = x ∧ i / W = y) := by
        rintro ⟨h3, h4⟩
        have := Nat.div_add_mod i W
        rw [h3, h4] at this; omega
      generalize i % W = r at *
      generalize i / W = q at *
      by_cases hc : r < x ∨ (r = x ∧ q < y)
      · rw [if_pos hc, if_pos (by omega)]
      · rw [if_neg hc, if_neg (by omega)]
theorem colN_row (W : Nat) (u : Nat → Nat → Bool) (H x : Nat) : colN W u (W * H) x H = colN W u (W * H) (x + 1) 0 := by
  apply List.map_congr_left
  intro i hi
  have hi' : i < W * H := by simpa using hi
  have := Nat.div_lt_of_lt_mul hi'
  generalize i % W = r at *
  generalize i / W = q at *
  by_cases hc : r < x ∨ (r = x ∧ q < H)
  · rw [if_pos hc, if_pos (by omega)]
  · rw [if_neg hc, if_neg (by omega)]
theorem colN_end (W : Nat) (u : Nat → Nat → Bool) (H : Nat) : colN W u (W * H) W 0 = tabN W u (W * H) := by
  apply List.map_congr_left
  intro i hi
  have hi' : i < W * H := by simpa using hi
  have hW : 0 < W := by
    rcases Nat.eq_zero_or_pos W with h0 | h0
    · subst h0; simp at hi'
    · exact h0
  rw [if_pos (.inl (Nat.mod_lt _ hW))]

/-- The place of a cell lies in the table. -/
theorem cell_bd {a b s t : Int} (h1 : 0 ≤ a) (h2 : a < s) (h3 : 0 ≤ b) (h4 : b < t) : 0 ≤ a * t ∧ a * t + b < s * t := by
  constructor
  · exact Int.mul_nonneg h1 (by omega)
  · have : (a + 1) * t ≤ s * t := Int.mul_le_mul_of_nonneg_right (by omega) (by omega)
    rw [Int.add_mul] at this; omega

abbrev DS (s t : Int) (b1 : Bool) (th : List Int) (b2 : Bool) (td : List Int) (w h : Int) (b3 : Bool) (l : List Bool) : AVal := .spot false [I s, I t, LA b1 th, LA b2 td, I w, I h, BA b3 l]

/-- What a valid draft tells of its numbers. -/
theorem dOk_cell {s t : Int} {th td : List Int} {w h n : Int} (hd : dOk s t th td w h n) {a b : Int} (h1 : 0 ≤ a) (h2 : a < s) (h3 : 0 ≤ b) (h4 : b < t) : 0 ≤ a * t ∧ a * t + b < n ∧ n ≤ 4096 := by
  obtain ⟨_, _, _, _, _, _, g, hw, hh⟩ := hd
  obtain ⟨g1, g2, g3, g4, g5⟩ := g
  have := cell_bd h1 h2 h3 h4
  have hp := prod64 (w := w) (h := h) (by omega) (by omega) (by omega) (by omega)
  subst hw; subst hh
  rw [Int.mul_comm h w] at this
  omega

/-- A cell of the drawdown. -/
def uW (t : Int) (th td : List Int) (l : List Bool) (x y : Nat) : Bool := cell t l (td.getD y 0) (th.getD x 0)
/-- A cell of the lifts. -/
def uL (t : Int) (td : List Int) (l : List Bool) (x y : Nat) : Bool := cell t l (td.getD y 0) x

end Go.Proofs.Ytefhmecaoefpbaa
