/- Tables for the run of closed code. -/
import Derived.Test.YtlhikcamopiogaaT
import Derived.Test.YtlhikcamopiogaaBw4
set_option maxRecDepth 100000
set_option linter.unusedSimpArgs false
namespace Go.Proofs.Ytlhikcamopiogaa
open Go Go.Proofs Go.AW
noncomputable def tabE : List (Nat × EffF) := [(51, effY (effS [] false) undef (fun _ _ _ => False))] ++ [8, 12, 14, 16, 18, 20, 21, 23, 25, 27, 35, 36, 37, 38, 39, 40, 43, 45, 46, 51, 52, 53].map fun f => (f, effS [] false)
theorem tabE_ok : tabE.all (chkE Try.prog) = true := by kernel_rfl
noncomputable def tabS : List (Nat × (Array Value → Sem Value)) := []
noncomputable def xT : XT := ⟨lookE tabE, hasN [], extE Try.prog [] tabS, noOrc⟩
theorem xExt : ∀ f avs v, extE Try.prog [] tabS f avs = some v → ExtOk Try.prog f avs v := extE_ok (fun f hf => by
  simp only [List.mem_cons, List.not_mem_nil, or_false] at hf
  ) (fun p hp => by
  simp only [tabS, List.mem_cons, List.not_mem_nil, or_false] at hp
  )
theorem xGood : xT.Good Try.prog := XT.good follows tabE_ok xExt noOrc_ok
end Go.Proofs.Ytlhikcamopiogaa
