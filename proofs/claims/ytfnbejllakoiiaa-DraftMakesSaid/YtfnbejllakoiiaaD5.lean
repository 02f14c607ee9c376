/- Drafts: drawdowns and lifts, whole: the reference's, and lifts. -/
import Derived.Test.YtfnbejllakoiiaaD4
set_option linter.unusedSimpArgs false
set_option linter.unusedVariables false
set_option maxRecDepth 100000
namespace Go.Proofs.Ytfnbejllakoiiaa
open Go Go.Proofs Go.AW

end Go.Proofs.Ytfnbejllakoiiaa
