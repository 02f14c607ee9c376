/- Chapter 21: even sleyings are balanced, plainly. -/
import Derived.Test.YtofmbeakbenncaaP10
namespace Go.Proofs.Ytofmbeakbenncaa

theorem ediv_add_bd (a b : Int) {d : Int} (hd : 1 ≤ d) : a / d + b / d ≤ (a + b) / d ∧ (a + b) / d ≤ a / d + b / d + 1 := by
  have h1 := Int.ediv_mul_le a (show d ≠ 0 by omega)
  have h2 := Int.ediv_mul_le b (show d ≠ 0 by omega)
  have h3 := Int.lt_ediv_add_one_mul_self a (show 0 < d by omega)
  have h4 := Int.lt_ediv_add_one_mul_self b (show 0 < d by omega)
  constructor
  · rw [Int.le_ediv_iff_mul_le (by omega), Int.add_mul]; omega
  · have : (a + b) / d < a / d + b / d + 2 := by
      rw [Int.ediv_lt_iff_lt_mul (by omega)]
      simp only [Int.add_mul] at h3 h4 ⊢
      omega
    omega

theorem even_bal {n d : Int} (hd : 1 ≤ d) (i k : Nat) : n * (k : Int) / d ≤ prt (evenTo n d d.toNat) i k ∧ prt (evenTo n d d.toNat) i k ≤ n * (k : Int) / d + 1 := by
  rw [even_prt hd, Int.mul_add]
  have := ediv_add_bd (n * i) (n * k) hd
  omega

theorem even_lohi {n d : Int} (hd : 1 ≤ d) (k m : Nat) : n * (k : Int) / d ≤ plo (evenTo n d d.toNat) k m ∧ plo (evenTo n d d.toNat) k m ≤ phi (evenTo n d d.toNat) k m ∧ phi (evenTo n d d.toNat) k m ≤ n * (k : Int) / d + 1 := by
  induction m with
  | zero => have := even_bal (n := n) hd 0 k; simp only [plo, phi]; omega
  | succ m ih => have := even_bal (n := n) hd (m + 1) k; simp only [plo, phi]; omega

theorem even_mul {n d m : Int} (hd : 1 ≤ d) (hm : 1 ≤ m) (j : Nat) (hj : (j : Int) < d * m) : (evenTo (n * m) (d * m) (d * m).toNat).getD j 0 = (evenTo n d d.toNat).getD (j % d.toNat) 0 := by
  rw [even_get hd]
  have hj2 : j < (d * m).toNat := by omega
  simp only [evenTo, List.getD, List.getElem?_map, List.getElem?_range hj2, Option.map_some, Option.getD_some]
  rw [Int.mul_right_comm n m, Int.mul_right_comm n m, Int.mul_ediv_mul_of_pos_left _ _ (by omega), Int.mul_ediv_mul_of_pos_left _ _ (by omega)]

end Go.Proofs.Ytofmbeakbenncaa
