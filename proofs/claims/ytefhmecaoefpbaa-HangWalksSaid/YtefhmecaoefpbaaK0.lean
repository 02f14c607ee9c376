/- Kinds: numbered by first occurrence. Plain. -/
import Derived.Test.YtefhmecaoefpbaaT
set_option linter.unusedSimpArgs false
set_option linter.unusedVariables false
namespace Go.Proofs.Ytefhmecaoefpbaa

section
variable {α : Type} [DecidableEq α] {β : Type} [DecidableEq β]

end
end Go.Proofs.Ytefhmecaoefpbaa
