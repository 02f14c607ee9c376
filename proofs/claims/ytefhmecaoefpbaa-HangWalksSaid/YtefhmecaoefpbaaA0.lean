/- Tables for the run of closed code. -/
import Derived.Test.YtefhmecaoefpbaaT
import Derived.Test.YtefhmecaoefpbaaBw4
set_option maxRecDepth 100000
set_option linter.unusedSimpArgs false
namespace Go.Proofs.Ytefhmecaoefpbaa
open Go Go.Proofs Go.AW
noncomputable def tabE : List (Nat × EffF) := [] ++ [45, 52, 56, 57, 58, 59, 61, 62, 63, 64, 65, 66, 67, 68, 69, 70, 71, 72, 73, 74, 75, 76, 77, 78].map fun f => (f, effS [] false)
theorem tabE_ok : tabE.all (chkE Try.prog) = true := by kernel_rfl
noncomputable def tabS : List (Nat × (Array Value → Sem Value)) := []
noncomputable def xT : XT := ⟨lookE tabE, hasN [45, 56, 61, 62, 63, 64, 67, 68, 73], extE Try.prog [] tabS, noOrc⟩
theorem xExt : ∀ f avs v, extE Try.prog [] tabS f avs = some v → ExtOk Try.prog f avs v := extE_ok (fun f hf => by
  simp only [List.mem_cons, List.not_mem_nil, or_false] at hf
  ) (fun p hp => by
  simp only [tabS, List.mem_cons, List.not_mem_nil, or_false] at hp
  )
theorem xGood : xT.Good Try.prog := XT.good follows tabE_ok xExt noOrc_ok
end Go.Proofs.Ytefhmecaoefpbaa
