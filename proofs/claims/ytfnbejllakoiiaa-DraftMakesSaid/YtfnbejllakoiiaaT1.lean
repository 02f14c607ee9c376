/- Grids: made cell by cell, turned. -/
import Derived.Test.YtfnbejllakoiiaaD3
set_option linter.unusedSimpArgs false
set_option linter.unusedVariables false
set_option maxRecDepth 100000
namespace Go.Proofs.Ytfnbejllakoiiaa
open Go Go.Proofs Go.AW

/-- A grid turned. -/
def uT (W : Nat) (l : List Bool) (x y : Nat) : Bool := cell W l y x
end Go.Proofs.Ytfnbejllakoiiaa
