/- Chapter 10: the law of names. -/
import Derived.Test.YthfkbepdcejnpaaDoorV2
set_option maxRecDepth 100000
namespace Go.Proofs.YthfkbepdcejnpaaDoor
open Go Go.Proofs Go.AW
theorem hangNames_c : Contract Tryd.prog 3 [] (B true) := Contract.run xGoodH 5000 (by kernel_rfl)
end Go.Proofs.YthfkbepdcejnpaaDoor
