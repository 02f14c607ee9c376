/- Chapter 12: the law of names. -/
import Derived.Test.YtcconjlcjinfkaaDoorV2
set_option maxRecDepth 100000
namespace Go.Proofs.YtcconjlcjinfkaaDoor
open Go Go.Proofs Go.AW
theorem doubleNames_c : Contract Tryd.prog 4 [] (B true) := Contract.run xGood2 5000 (by kernel_rfl)
end Go.Proofs.YtcconjlcjinfkaaDoor
