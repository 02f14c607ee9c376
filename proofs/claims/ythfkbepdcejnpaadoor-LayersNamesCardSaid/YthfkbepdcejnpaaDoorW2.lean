/- Chapter 11: the law of names. -/
import Derived.Test.YthfkbepdcejnpaaDoorW1
set_option maxRecDepth 100000
namespace Go.Proofs.YthfkbepdcejnpaaDoor
open Go Go.Proofs Go.AW
theorem layersAlive_c : Contract Tryd.prog 25 [] (B true) := Contract.run xGoodL 5000 (by kernel_rfl)
end Go.Proofs.YthfkbepdcejnpaaDoor
