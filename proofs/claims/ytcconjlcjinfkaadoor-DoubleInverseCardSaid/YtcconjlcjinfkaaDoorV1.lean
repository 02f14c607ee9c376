/- Chapter 12: the law of names. -/
import Derived.Test.YtcconjlcjinfkaaDoorA0
set_option linter.unusedSimpArgs false
set_option linter.unusedVariables false
set_option maxRecDepth 100000
namespace Go.Proofs.YtcconjlcjinfkaaDoor
open Go Go.Proofs Go.AW

theorem alive_c : Contract Tryd.prog 12 [] (B true) := Contract.run xGood 1000 (by kernel_rfl)
end Go.Proofs.YtcconjlcjinfkaaDoor
