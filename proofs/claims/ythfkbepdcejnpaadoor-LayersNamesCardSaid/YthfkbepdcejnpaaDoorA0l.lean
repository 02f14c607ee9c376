/- Tables for the run of closed code. -/
import Derived.Test.YthfkbepdcejnpaaDoorT
import Derived.Test.YthfkbepdcejnpaaDoorBw4
set_option maxRecDepth 100000
set_option linter.unusedSimpArgs false
namespace Go.Proofs.YthfkbepdcejnpaaDoor
open Go Go.Proofs Go.AW
noncomputable def tabE : List (Nat × EffF) := [(92, effY (effS [] false) undef (fun _ _ _ => False)), (57, effS [88] false [] [] [] (fun _ => true) [] [88]), (21, effS [61] false [] [] [28] (fun _ => true) [] [61])] ++ [4, 12, 16, 17, 18, 19, 20, 21, 22, 23, 24, 25, 34, 42, 48, 55, 56, 58, 59, 60, 61, 62, 63, 64, 65, 71, 72, 73, 74, 87, 88, 89, 91, 92, 93, 94, 95, 96, 97, 100, 101, 102, 103, 104, 105, 106, 107, 108, 114, 115, 116, 118, 119, 120, 121, 122, 123, 124, 125, 126, 127, 132, 133, 134, 135, 136, 137, 138, 139, 141, 142, 143, 144, 145, 146, 147, 149, 150, 151, 152, 154, 155, 164, 165, 166, 168, 169, 174].map fun f => (f, effS [] false)
theorem tabE_ok : tabE.all (chkE Tryd.prog) = true := by kernel_rfl
noncomputable def tabS : List (Nat × (Array Value → Sem Value)) := [(153, Extern.BytealgCount.count), (173, Extern.BytealgIndexByte.indexByte)]
noncomputable def xT : XT := ⟨lookE tabE, hasN [55, 59, 60, 61, 62, 73, 74, 88, 91, 94, 95, 96, 108, 116, 118, 119, 120, 121, 124, 125, 143, 93, 56], extE Tryd.prog [117] tabS, noOrc⟩
theorem xExt : ∀ f avs v, extE Tryd.prog [117] tabS f avs = some v → ExtOk Tryd.prog f avs v := extE_ok (fun f hf => by
  simp only [List.mem_cons, List.not_mem_nil, or_false] at hf
  rcases hf with rfl
  · exact ⟨_, Tryd.func117, by kernel_rfl, by kernel_rfl, by kernel_rfl, by kernel_rfl⟩
  ) (fun p hp => by
  simp only [tabS, List.mem_cons, List.not_mem_nil, or_false] at hp
  rcases hp with rfl | rfl
  · exact ⟨_, Tryd.func153, by kernel_rfl, by kernel_rfl, by kernel_rfl, by kernel_rfl⟩
  · exact ⟨_, Tryd.func173, by kernel_rfl, by kernel_rfl, by kernel_rfl, by kernel_rfl⟩
  )
theorem xGood : xT.Good Tryd.prog := XT.good follows tabE_ok xExt noOrc_ok
end Go.Proofs.YthfkbepdcejnpaaDoor
