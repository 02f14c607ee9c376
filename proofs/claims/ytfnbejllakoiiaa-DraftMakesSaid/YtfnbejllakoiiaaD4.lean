/- Drafts: drawdowns and lifts, whole. -/
import Derived.Test.YtfnbejllakoiiaaD3
set_option linter.unusedSimpArgs false
set_option linter.unusedVariables false
set_option maxRecDepth 100000
namespace Go.Proofs.Ytfnbejllakoiiaa
open Go Go.Proofs Go.AW

/-- No grid. -/
abbrev G0 : AVal := .agg [I 0, I 0, .cap0 true]

end Go.Proofs.Ytfnbejllakoiiaa
