/- The kinds of rows. -/
import Derived.Test.YtefhmecaoefpbaaD3
import Derived.Test.YtefhmecaoefpbaaK0
set_option linter.unusedSimpArgs false
set_option linter.unusedVariables false
set_option maxRecDepth 100000
namespace Go.Proofs.Ytefhmecaoefpbaa
open Go Go.Proofs Go.AW

/-- A row. -/
def rowN (W : Nat) (l : List Bool) (y : Nat) : List Bool := (List.range W).map fun x => l.getD (W * y + x) false
theorem rowN_eq {W : Nat} {l : List Bool} {a b : Nat} : rowN W l a = rowN W l b ↔ ∀ x, x < W → l.getD (W * a + x) false = l.getD (W * b + x) false := by
  constructor
  · intro h x hx
    have := congrArg (fun r : List Bool => r.getD x false) h
    simpa [rowN, List.getD_eq_getElem?_getD, List.getElem?_range hx] using this
  · intro h
    apply List.map_congr_left
    intro x hx
    exact h x (by simpa using hx)

end Go.Proofs.Ytefhmecaoefpbaa
