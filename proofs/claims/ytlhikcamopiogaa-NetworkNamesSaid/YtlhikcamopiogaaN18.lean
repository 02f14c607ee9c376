/- Networks: the law of names. -/
import Derived.Test.YtlhikcamopiogaaA0
set_option linter.unusedSimpArgs false
set_option linter.unusedVariables false
set_option maxRecDepth 100000
namespace Go.Proofs.Ytlhikcamopiogaa
open Go Go.Proofs Go.AW

theorem networkNames_c : Contract Try.prog 8 [] (B true) := Contract.run xGood 3000 (by kernel_rfl)
end Go.Proofs.Ytlhikcamopiogaa
