/- A set of threads: is it one, and which are in it. -/
import Derived.Test.YtefhmecaoefpbaaNO13
set_option linter.unusedSimpArgs false
set_option linter.unusedVariables false
set_option maxRecDepth 100000
namespace Go.Proofs.Ytefhmecaoefpbaa
open Go Go.Proofs Go.AW

/-- The first k are threads, and each is more than the one ahead of it. -/
def okS (n : Nat) (s : List Int) (k : Nat) : Prop := ∀ i, i < k → (0 ≤ s.getD i 0 ∧ s.getD i 0 < n) ∧ (0 < i → s.getD (i - 1) 0 < s.getD i 0)
/-- Which are among the first k. -/
def mks (n : Nat) (s : List Int) : Nat → List Bool
  | 0 => List.replicate n false
  | k + 1 => (mks n s k).set (s.getD k 0).toNat true
theorem mks_len (n : Nat) (s : List Int) (k : Nat) : (mks n s k).length = n := by
  induction k with
  | zero => simp [mks]
  | succ k ih => simp [mks, ih]
end Go.Proofs.Ytefhmecaoefpbaa
