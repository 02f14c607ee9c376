/- Does a thread lie over another one: both programs. -/
import Derived.Test.YtefhmecaoefpbaaNO4
import Derived.Test.YtefhmecaoefpbaaK4
set_option linter.unusedSimpArgs false
set_option linter.unusedVariables false
set_option maxRecDepth 100000
namespace Go.Proofs.Ytefhmecaoefpbaa
open Go Go.Proofs Go.AW

end Go.Proofs.Ytefhmecaoefpbaa
