/- Off, of both. -/
import Derived.Test.YtefhmecaoefpbaaNO14
set_option linter.unusedSimpArgs false
set_option linter.unusedVariables false
set_option maxRecDepth 100000
namespace Go.Proofs.Ytefhmecaoefpbaa
open Go Go.Proofs Go.AW

end Go.Proofs.Ytefhmecaoefpbaa
