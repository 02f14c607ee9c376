/- Lists: compared. -/
import Derived.Test.YtcconjlcjinfkaaDoorG1
set_option linter.unusedSimpArgs false
set_option linter.unusedVariables false
set_option maxRecDepth 100000
namespace Go.Proofs.YtcconjlcjinfkaaDoor
open Go Go.Proofs Go.AW

theorem bneq {a b : Bool} (h : ¬ a = b) : (a == b) = false := by simpa using h

end Go.Proofs.YtcconjlcjinfkaaDoor
