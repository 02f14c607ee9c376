/- The kinds of rows. -/
import Derived.Test.YtefhmecaoefpbaaD3
import Derived.Test.YtefhmecaoefpbaaK0
set_option linter.unusedSimpArgs false
set_option linter.unusedVariables false
set_option maxRecDepth 100000
namespace Go.Proofs.Ytefhmecaoefpbaa
open Go Go.Proofs Go.AW

end Go.Proofs.Ytefhmecaoefpbaa
