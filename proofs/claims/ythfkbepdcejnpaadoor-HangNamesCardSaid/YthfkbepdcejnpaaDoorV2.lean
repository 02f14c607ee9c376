/- Chapter 10: the law of names. -/
import Derived.Test.YthfkbepdcejnpaaDoorV1
set_option maxRecDepth 100000
namespace Go.Proofs.YthfkbepdcejnpaaDoor
open Go Go.Proofs Go.AW
noncomputable def g33 : AVal := .agg [I 3, I 3, .list false false 9 (bools [true, false, false, false, true, false, false, false, true])]
noncomputable def g44 : AVal := .agg [I 4, I 4, .list false false 16 (bools [true, false, false, false, false, true, false, false, true, true, false, true, true, true, true, false])]
theorem a33 : Contract Tryd.prog 9 [g33] (.tuple [.list true true 0 [], I 0]) := Contract.run xGood 5000 (by kernel_rfl)
theorem a44 : Contract Tryd.prog 9 [g44] (.tuple [.list true false 4 (ints [0, 1, 4, 5]), I 0]) := Contract.run xGood 5000 (by kernel_rfl)
noncomputable def orcH : List (Nat × List AVal × AVal) := [(15, [], B true), (9, [g33], .tuple [.list true true 0 [], I 0]), (9, [g44], .tuple [.list true false 4 (ints [0, 1, 4, 5]), I 0])]
theorem xGoodH : XT.Good Tryd.prog { xT with orc := lookO orcH } := XT.withO xGood (by
  intro p hp
  simp only [orcH, List.mem_cons, List.not_mem_nil, or_false] at hp
  rcases hp with rfl | rfl | rfl
  · exact hangAlive_c
  · exact a33
  · exact a44)
end Go.Proofs.YthfkbepdcejnpaaDoor
