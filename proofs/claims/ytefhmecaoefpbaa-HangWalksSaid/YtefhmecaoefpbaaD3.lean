/- Drafts: drawdowns and lifts, of the program and the reference. -/
import Derived.Test.YtefhmecaoefpbaaD2
set_option linter.unusedSimpArgs false
set_option linter.unusedVariables false
set_option maxRecDepth 100000
namespace Go.Proofs.Ytefhmecaoefpbaa
open Go Go.Proofs Go.AW

theorem idx_nat (W y x : Nat) : ((y : Int) * (W : Int) + (x : Int)).toNat = W * y + x := by
  rw [← Int.natCast_mul, ← Int.natCast_add, Int.toNat_natCast, Nat.mul_comm]
theorem idx_lt {W H x y : Nat} (hx : x < W) (hy : y < H) : W * y + x < W * H := by
  have : W * (y + 1) ≤ W * H := Nat.mul_le_mul_left W hy
  rw [Nat.mul_succ] at this; omega

end Go.Proofs.Ytefhmecaoefpbaa
