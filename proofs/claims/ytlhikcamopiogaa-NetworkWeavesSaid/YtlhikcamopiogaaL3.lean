/- Grids: compared, copied. -/
import Derived.Test.YtlhikcamopiogaaL2
set_option linter.unusedSimpArgs false
set_option linter.unusedVariables false
set_option maxRecDepth 100000
namespace Go.Proofs.Ytlhikcamopiogaa
open Go Go.Proofs Go.AW

end Go.Proofs.Ytlhikcamopiogaa
