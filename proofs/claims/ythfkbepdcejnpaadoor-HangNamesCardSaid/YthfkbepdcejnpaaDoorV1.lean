/- Chapter 10: the law of names. -/
import Derived.Test.YthfkbepdcejnpaaDoorA0h
set_option maxRecDepth 100000
namespace Go.Proofs.YthfkbepdcejnpaaDoor
open Go Go.Proofs Go.AW
theorem hangAlive_c : Contract Tryd.prog 15 [] (B true) := Contract.run xGood 5000 (by kernel_rfl)
end Go.Proofs.YthfkbepdcejnpaaDoor
