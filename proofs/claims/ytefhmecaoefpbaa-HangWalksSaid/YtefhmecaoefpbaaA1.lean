/- A product of small numbers, by the run of closed code. -/
import Derived.Test.YtefhmecaoefpbaaA0
import Derived.Test.YtefhmecaoefpbaaG1
set_option linter.unusedSimpArgs false
set_option linter.unusedVariables false
set_option maxRecDepth 100000
namespace Go.Proofs.Ytefhmecaoefpbaa
open Go Go.Proofs Go.AW

noncomputable def mulOk (n : Nat) : Bool := match xCall Try.prog xT 100 58 [.val (.int .u64 1), .val (.int .u64 n)] with
  | some (.tuple [.val (.int .u64 a), .val (.int .u64 b)]) => a == 0 && b == (n : Int)
  | _ => false
theorem mul_all : (List.range 65).all mulOk = true := by kernel_rfl
theorem mul_c {n : Nat} (hn : n ≤ 64) : Contract Try.prog 58 [.val (.int .u64 1), .val (.int .u64 n)] (.tuple [.val (.int .u64 0), .val (.int .u64 n)]) := by
  have h := List.all_eq_true.1 mul_all n (by simp; omega)
  unfold mulOk at h
  split at h
  · rename_i a b hx
    simp only [Bool.and_eq_true, beq_iff_eq] at h
    obtain ⟨rfl, rfl⟩ := h
    exact Contract.run xGood 100 hx
  · cases h
end Go.Proofs.Ytefhmecaoefpbaa
