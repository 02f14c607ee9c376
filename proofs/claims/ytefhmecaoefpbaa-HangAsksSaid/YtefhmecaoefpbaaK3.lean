/- Lists: the place of an element. -/
import Derived.Test.YtefhmecaoefpbaaD3
set_option linter.unusedSimpArgs false
set_option linter.unusedVariables false
set_option maxRecDepth 100000
namespace Go.Proofs.Ytefhmecaoefpbaa
open Go Go.Proofs Go.AW

/-- The place of x among the first k elements, or -1: what a search from the front finds. -/
def IsPl (l : List Int) (x : Int) (k : Nat) (r : Int) : Prop := (∃ i : Nat, i < k ∧ l.getD i 0 = x ∧ (∀ j, j < i → l.getD j 0 ≠ x) ∧ r = i) ∨ ((∀ j, j < k → l.getD j 0 ≠ x) ∧ r = -1)

end Go.Proofs.Ytefhmecaoefpbaa
