/- Chapter 21: parts of an even sleying, plainly. -/
import Derived.Test.YtofmbeakbenncaaP4
import Derived.Test.YtofmbeakbenncaaP9
namespace Go.Proofs.Ytofmbeakbenncaa

theorem even_get {n d : Int} (hd : 1 ≤ d) (j : Nat) : (evenTo n d d.toNat).getD (j % d.toNat) 0 = n * ((j : Int) + 1) / d - n * j / d := by
  have hm : j % d.toNat < d.toNat := Nat.mod_lt _ (by omega)
  have hg : (evenTo n d d.toNat).getD (j % d.toNat) 0 = n * ((j % d.toNat : Nat) + 1 : Int) / d - n * ((j % d.toNat : Nat) : Int) / d := by
    simp [evenTo, List.getD, hm]
  have hj : (j : Int) = ((j % d.toNat : Nat) : Int) + d * ((j / d.toNat : Nat) : Int) := by
    have := Nat.mod_add_div j d.toNat
    have h2 : ((d.toNat : Nat) : Int) = d := Int.toNat_of_nonneg (by omega)
    rw [← h2]
    exact_mod_cast this.symm
  rw [hg]
  generalize ((j % d.toNat : Nat) : Int) = a at *
  generalize ((j / d.toNat : Nat) : Int) = q at *
  rw [hj, show n * (a + d * q + 1) = n * (a + 1) + d * (n * q) by rw [Int.add_right_comm, Int.mul_add n (a + 1), Int.mul_left_comm n d q], show n * (a + d * q) = n * a + d * (n * q) by rw [Int.mul_add, Int.mul_left_comm n d q],
    Int.add_mul_ediv_left _ _ (by omega), Int.add_mul_ediv_left _ _ (by omega)]
  omega

theorem even_prt {n d : Int} (hd : 1 ≤ d) (i k : Nat) : prt (evenTo n d d.toNat) i k = n * ((i : Int) + k) / d - n * i / d := by
  induction k with
  | zero => simp [prt]
  | succ k ih =>
    rw [prt, ih, evenTo_len, even_get hd]
    simp only [Int.natCast_add, Int.add_assoc]
    simp
    omega

end Go.Proofs.Ytofmbeakbenncaa
