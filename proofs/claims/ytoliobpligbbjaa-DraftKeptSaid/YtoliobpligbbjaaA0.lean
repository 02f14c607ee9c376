/- Tables for the run of closed code. -/
import Derived.Test.YtoliobpligbbjaaT
import Derived.Test.YtoliobpligbbjaaBw4
set_option maxRecDepth 100000
set_option linter.unusedSimpArgs false
namespace Go.Proofs.Ytoliobpligbbjaa
open Go Go.Proofs Go.AW
noncomputable def tabE : List (Nat × EffF) := [] ++ [6, 7, 20, 21, 22, 23, 24, 25, 26, 46, 47, 48, 49, 58, 59, 60, 61, 67, 68, 73, 74].map fun f => (f, effS [] false)
theorem tabE_ok : tabE.all (chkE Try.prog) = true := by kernel_rfl
noncomputable def tabS : List (Nat × (Array Value → Sem Value)) := []
noncomputable def xT : XT := ⟨lookE tabE, hasN [58, 59, 68], extE Try.prog [75] tabS, noOrc⟩
theorem xExt : ∀ f avs v, extE Try.prog [75] tabS f avs = some v → ExtOk Try.prog f avs v := extE_ok (fun f hf => by
  simp only [List.mem_cons, List.not_mem_nil, or_false] at hf
  rcases hf with rfl
  · exact ⟨_, Try.func75, by kernel_rfl, by kernel_rfl, by kernel_rfl, by kernel_rfl⟩
  ) (fun p hp => by
  simp only [tabS, List.mem_cons, List.not_mem_nil, or_false] at hp
  )
theorem xGood : xT.Good Try.prog := XT.good follows tabE_ok xExt noOrc_ok
end Go.Proofs.Ytoliobpligbbjaa
