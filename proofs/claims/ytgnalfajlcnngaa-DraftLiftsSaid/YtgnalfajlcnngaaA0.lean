/- Tables for the run of closed code. -/
import Derived.Test.YtgnalfajlcnngaaT
import Derived.Test.YtgnalfajlcnngaaBw3
set_option maxRecDepth 100000
set_option linter.unusedSimpArgs false
namespace Go.Proofs.Ytgnalfajlcnngaa
open Go Go.Proofs Go.AW
noncomputable def tabE : List (Nat × EffF) := [12, 14, 16, 22, 39, 40, 41, 43, 47, 48, 52, 53, 73, 74, 75, 81, 82, 89].map fun f => (f, effS [] false)
theorem tabE_ok : tabE.all (chkE Try.prog) = true := by kernel_rfl
noncomputable def tabS : List (Nat × (Array Value → Sem Value)) := []
noncomputable def xT : XT := ⟨lookE tabE, hasN [81, 82, 89], extE Try.prog [96] tabS, noOrc⟩
theorem xExt : ∀ f avs v, extE Try.prog [96] tabS f avs = some v → ExtOk Try.prog f avs v := extE_ok (fun f hf => by
  simp only [List.mem_cons, List.not_mem_nil, or_false] at hf
  rcases hf with rfl
  · exact ⟨_, Try.func96, by kernel_rfl, by kernel_rfl, by kernel_rfl, by kernel_rfl⟩
  ) (fun p hp => by
  simp only [tabS, List.mem_cons, List.not_mem_nil, or_false] at hp
  )
theorem xGood : xT.Good Try.prog := XT.good follows tabE_ok xExt noOrc_ok
end Go.Proofs.Ytgnalfajlcnngaa
