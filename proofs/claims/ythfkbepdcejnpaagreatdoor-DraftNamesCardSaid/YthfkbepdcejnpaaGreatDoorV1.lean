/- Chapter 3: the law of names. -/
import Derived.Test.YthfkbepdcejnpaaGreatDoorA0
set_option maxRecDepth 100000
namespace Go.Proofs.YthfkbepdcejnpaaGreatDoor
open Go Go.Proofs Go.AW
theorem draftNames_c : Contract Tryz.prog 4 [] (B true) := Contract.run xGood 5000 (by kernel_rfl)
end Go.Proofs.YthfkbepdcejnpaaGreatDoor
