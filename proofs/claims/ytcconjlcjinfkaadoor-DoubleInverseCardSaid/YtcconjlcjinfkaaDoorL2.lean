/- Lists: least and greatest element, within a range; cells of grids. -/
import Derived.Test.YtcconjlcjinfkaaDoorL1
set_option linter.unusedSimpArgs false
set_option linter.unusedVariables false
set_option maxRecDepth 100000
namespace Go.Proofs.YtcconjlcjinfkaaDoor
open Go Go.Proofs Go.AW

def mnl (l : List Int) : Nat → Int
  | 0 => l.getD 0 0
  | k + 1 => min (mnl l k) (l.getD (k + 1) 0)
def mxl (l : List Int) : Nat → Int
  | 0 => l.getD 0 0
  | k + 1 => max (mxl l k) (l.getD (k + 1) 0)
theorem mnl_le (l : List Int) (k : Nat) : ∀ j, j ≤ k → mnl l k ≤ l.getD j 0 := by
  induction k with
  | zero => intro j hj; obtain rfl : j = 0 := (by omega); exact Int.le_refl _
  | succ k ih =>
    intro j hj
    simp only [mnl]
    by_cases h : j = k + 1
    · subst h; omega
    · have := ih j (by omega); omega
theorem mnl_mem (l : List Int) (k : Nat) : ∃ j, j ≤ k ∧ mnl l k = l.getD j 0 := by
  induction k with
  | zero => exact ⟨0, Nat.le_refl _, rfl⟩
  | succ k ih =>
    obtain ⟨j, h1, h2⟩ := ih
    simp only [mnl]
    by_cases h : mnl l k ≤ l.getD (k + 1) 0
    · exact ⟨j, by omega, by omega⟩
    · exact ⟨k + 1, by omega, by omega⟩
theorem le_mxl (l : List Int) (k : Nat) : ∀ j, j ≤ k → l.getD j 0 ≤ mxl l k := by
  induction k with
  | zero => intro j hj; obtain rfl : j = 0 := (by omega); exact Int.le_refl _
  | succ k ih =>
    intro j hj
    simp only [mxl]
    by_cases h : j = k + 1
    · subst h; omega
    · have := ih j (by omega); omega
theorem mxl_mem (l : List Int) (k : Nat) : ∃ j, j ≤ k ∧ mxl l k = l.getD j 0 := by
  induction k with
  | zero => exact ⟨0, Nat.le_refl _, rfl⟩
  | succ k ih =>
    obtain ⟨j, h1, h2⟩ := ih
    simp only [mxl]
    by_cases h : mxl l k ≤ l.getD (k + 1) 0
    · exact ⟨k + 1, by omega, by omega⟩
    · exact ⟨j, by omega, by omega⟩

/-- It has elements, all of them from 0 to n - 1. -/
def wIn (l : List Int) (n : Int) : Prop := 0 < l.length ∧ ∀ j, j < l.length → 0 ≤ l.getD j 0 ∧ l.getD j 0 < n
instance (l : List Int) (n : Int) : Decidable (wIn l n) := by unfold wIn; infer_instance

/-- A grid's cell. -/
def cell (w : Int) (l : List Bool) (x y : Int) : Bool := l.getD (y * w + x).toNat false

end Go.Proofs.YtcconjlcjinfkaaDoor
