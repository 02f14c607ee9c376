/- Tables for the run of closed code. -/
import Derived.Test.YtcconjlcjinfkaaDoorT
import Derived.Test.YtcconjlcjinfkaaDoorBw3
set_option maxRecDepth 100000
set_option linter.unusedSimpArgs false
namespace Go.Proofs.YtcconjlcjinfkaaDoor
open Go Go.Proofs Go.AW
noncomputable def tabE : List (Nat × EffF) := [(8, effS [] false [] [] [21, 24] (fun i => !(i == 0)) [17, 18, 19, 36, 37, 38, 65, 66, 67])] ++ [4, 7, 12, 13, 14, 15, 16, 17, 23, 24, 25, 26, 27, 28, 29, 30, 31, 32, 33, 34, 35, 42, 43, 44, 45, 46, 47, 48, 51, 52, 53, 54, 55, 56, 57, 58, 59, 60, 63, 64, 65, 66, 67, 68, 69, 70, 83, 84, 85, 86, 88, 95, 96, 97, 99, 100, 103].map fun f => (f, effS [] false)
theorem tabE_ok : tabE.all (chkE Tryd.prog) = true := by kernel_rfl
noncomputable def tabS : List (Nat × (Array Value → Sem Value)) := [(87, Extern.BytealgCount.count), (102, Extern.BytealgIndexByte.indexByte)]
noncomputable def xT : XT := ⟨lookE tabE, hasN [45, 46, 47, 48, 59, 60], extE Tryd.prog [71] tabS, noOrc⟩
theorem xExt : ∀ f avs v, extE Tryd.prog [71] tabS f avs = some v → ExtOk Tryd.prog f avs v := extE_ok (fun f hf => by
  simp only [List.mem_cons, List.not_mem_nil, or_false] at hf
  rcases hf with rfl
  · exact ⟨_, Tryd.func71, by kernel_rfl, by kernel_rfl, by kernel_rfl, by kernel_rfl⟩
  ) (fun p hp => by
  simp only [tabS, List.mem_cons, List.not_mem_nil, or_false] at hp
  rcases hp with rfl | rfl
  · exact ⟨_, Tryd.func87, by kernel_rfl, by kernel_rfl, by kernel_rfl, by kernel_rfl⟩
  · exact ⟨_, Tryd.func102, by kernel_rfl, by kernel_rfl, by kernel_rfl, by kernel_rfl⟩
  )
theorem xGood : xT.Good Tryd.prog := XT.good follows tabE_ok xExt noOrc_ok
end Go.Proofs.YtcconjlcjinfkaaDoor
