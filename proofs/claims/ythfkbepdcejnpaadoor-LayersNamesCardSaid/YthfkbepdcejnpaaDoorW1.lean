/- Chapter 11: the law of names. -/
import Derived.Test.YthfkbepdcejnpaaDoorA0l
set_option maxRecDepth 100000
namespace Go.Proofs.YthfkbepdcejnpaaDoor
open Go Go.Proofs Go.AW
noncomputable def g44 : AVal := .agg [I 4, I 4, .list false false 16 (bools [true, false, false, false, false, true, false, false, true, true, false, true, true, true, true, false])]
noncomputable def r44 : AVal := .tuple [.list true false 2 [.list true false 4 (ints [0, 1, 4, 5]), .list true false 4 (ints [2, 3, 6, 7])], I 0]
theorem p44 : Contract Tryd.prog 16 [g44] r44 := Contract.run xGood 5000 (by kernel_rfl)
noncomputable def t44 : AVal := .agg [I 4, I 4, .list true false 16 (bools [true, false, false, false, false, true, false, false, true, true, false, true, true, true, true, false])]
theorem two_c : Contract Tryd.prog 19 [] t44 := Contract.run xGood 5000 (by kernel_rfl)
noncomputable def orcL : List (Nat × List AVal × AVal) := [(19, [], t44), (16, [g44], r44)]
theorem orcL_ok : ∀ p ∈ orcL, Contract Tryd.prog p.1 p.2.1 p.2.2 := by
  intro p hp
  simp only [orcL, List.mem_cons, List.not_mem_nil, or_false] at hp
  rcases hp with rfl | rfl
  · exact two_c
  · exact p44
theorem xGoodL : XT.Good Tryd.prog { xT with orc := lookO orcL } := XT.withO xGood orcL_ok
end Go.Proofs.YthfkbepdcejnpaaDoor
