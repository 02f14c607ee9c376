/- Chapter 11: the law of names. -/
import Derived.Test.YthfkbepdcejnpaaDoorW2
set_option maxRecDepth 100000
namespace Go.Proofs.YthfkbepdcejnpaaDoor
open Go Go.Proofs Go.AW
noncomputable def orcL2 : List (Nat × List AVal × AVal) := (25, [], B true) :: orcL
theorem xGoodL2 : XT.Good Tryd.prog { xT with orc := lookO orcL2 } := XT.withO xGood (by
  intro p hp
  rcases List.mem_cons.1 hp with rfl | hp
  · exact layersAlive_c
  · exact orcL_ok p hp)
theorem layersNames_c : Contract Tryd.prog 4 [] (B true) := Contract.run xGoodL2 5000 (by kernel_rfl)
end Go.Proofs.YthfkbepdcejnpaaDoor
