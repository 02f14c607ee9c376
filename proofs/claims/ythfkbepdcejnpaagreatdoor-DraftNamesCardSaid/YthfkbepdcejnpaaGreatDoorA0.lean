/- Tables for the run of closed code. -/
import Derived.Test.YthfkbepdcejnpaaGreatDoorT
import Derived.Test.YthfkbepdcejnpaaGreatDoorBw4
set_option maxRecDepth 100000
set_option linter.unusedSimpArgs false
namespace Go.Proofs.YthfkbepdcejnpaaGreatDoor
open Go Go.Proofs Go.AW
noncomputable def tabE : List (Nat × EffF) := [(4, effS [] false [] [] [1] (fun i => !(i == 0))), (15, effS [] false [] [1]), (92, effY (effS [] false) undef (fun _ _ _ => False))] ++ [7, 12, 14, 15, 16, 17, 18, 19, 20, 21, 22, 23, 25, 26, 27, 28, 29, 35, 36, 37, 38, 39, 40, 41, 42, 43, 44, 45, 46, 47, 48, 49, 50, 51, 52, 53, 54, 56, 59, 60, 61, 62, 63, 64, 65, 66, 67, 68, 69, 70, 71, 72, 73, 74, 75, 76, 77, 78, 80, 81, 82, 83, 84, 85, 86, 87, 88, 89, 90, 91, 92, 93, 94, 95, 96, 98, 99, 100, 101, 103, 104, 105, 106, 107, 108, 109, 110, 112, 113, 114, 115, 116, 117, 118, 119, 120, 121, 122, 123, 125, 126, 127, 128, 129, 130, 131].map fun f => (f, effS [] false)
theorem tabE_ok : tabE.all (chkE Tryz.prog) = true := by kernel_rfl
noncomputable def tabS : List (Nat × (Array Value → Sem Value)) := [(102, Extern.BytealgCount.count), (124, Extern.BytealgIndexByte.indexByte)]
noncomputable def xT : XT := ⟨lookE tabE, hasN [38, 39, 56, 60, 61, 70, 71, 72, 81, 90, 91, 104, 105, 114, 115, 116, 117, 120, 121, 126], extE Tryz.prog [97] tabS, noOrc⟩
theorem xExt : ∀ f avs v, extE Tryz.prog [97] tabS f avs = some v → ExtOk Tryz.prog f avs v := extE_ok (fun f hf => by
  simp only [List.mem_cons, List.not_mem_nil, or_false] at hf
  rcases hf with rfl
  · exact ⟨_, Tryz.func97, by kernel_rfl, by kernel_rfl, by kernel_rfl, by kernel_rfl⟩
  ) (fun p hp => by
  simp only [tabS, List.mem_cons, List.not_mem_nil, or_false] at hp
  rcases hp with rfl | rfl
  · exact ⟨_, Tryz.func102, by kernel_rfl, by kernel_rfl, by kernel_rfl, by kernel_rfl⟩
  · exact ⟨_, Tryz.func124, by kernel_rfl, by kernel_rfl, by kernel_rfl, by kernel_rfl⟩
  )
theorem xGood : xT.Good Tryz.prog := XT.good follows tabE_ok xExt noOrc_ok
end Go.Proofs.YthfkbepdcejnpaaGreatDoor
