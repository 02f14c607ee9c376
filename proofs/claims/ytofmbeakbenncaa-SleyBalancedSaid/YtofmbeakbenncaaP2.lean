/- Chapter 21: fractions in lowest terms, plainly. -/
set_option linter.unusedSectionVars false
namespace Go.Proofs.Ytofmbeakbenncaa

/-- The greatest common divisor. -/
def gc (s r : Int) : Nat := Nat.gcd s.toNat r.toNat
def sg (s r : Int) : Int := s / (gc s r : Int)
def rg (s r : Int) : Int := r / (gc s r : Int)

section
variable {s r : Int} (hs : 1 ≤ s) (hr : 1 ≤ r)
include hs hr

theorem gc_pos : 1 ≤ gc s r := Nat.gcd_pos_of_pos_left _ (by omega)
theorem sg_mul : s = sg s r * gc s r := by
  have : ((gc s r : Nat) : Int) ∣ s := by
    have := Nat.gcd_dvd_left s.toNat r.toNat
    have := Int.natCast_dvd_natCast.2 this
    rwa [Int.toNat_of_nonneg (by omega)] at this
  exact (Int.ediv_mul_cancel this).symm
theorem rg_mul : r = rg s r * gc s r := by
  have : ((gc s r : Nat) : Int) ∣ r := by
    have := Nat.gcd_dvd_right s.toNat r.toNat
    have := Int.natCast_dvd_natCast.2 this
    rwa [Int.toNat_of_nonneg (by omega)] at this
  exact (Int.ediv_mul_cancel this).symm
theorem rg_pos : 1 ≤ rg s r := by
  have h1 := rg_mul hs hr
  have h2 := gc_pos hs hr
  rcases Int.lt_or_le 0 (rg s r) with h | h
  · omega
  · have := Int.mul_le_mul_of_nonneg_right h (show (0 : Int) ≤ gc s r by omega)
    omega
theorem sg_pos : 1 ≤ sg s r := by
  have h1 := sg_mul hs hr
  have h2 := gc_pos hs hr
  rcases Int.lt_or_le 0 (sg s r) with h | h
  · omega
  · have := Int.mul_le_mul_of_nonneg_right h (show (0 : Int) ≤ gc s r by omega)
    omega

theorem rg_dvd {b : Nat} (h : ((b : Int) * s) % r = 0) : rg s r ∣ b := by
  have h1 := sg_mul hs hr
  have h2 := rg_mul hs hr
  have h3 := gc_pos hs hr
  have h4 := rg_pos hs hr
  have h5 := sg_pos hs hr
  have hd : r ∣ b * s := Int.dvd_of_emod_eq_zero h
  have hd' : rg s r ∣ b * sg s r := by
    rw [h1, h2] at hd
    have e : (sg s r * (gc s r : Int)) = sg s r * gc s r := rfl
    have : rg s r * (gc s r : Int) ∣ (b * sg s r) * (gc s r : Int) := by
      have hb : (b : Int) * s = (b * sg s r) * (gc s r : Int) := by
        rw [Int.mul_assoc, ← h1]
      have hr' : r = rg s r * (gc s r : Int) := h2
      rw [← hb, ← hr']
      exact Int.dvd_of_emod_eq_zero h
    exact Int.dvd_of_mul_dvd_mul_right (by omega) this
  -- to natural numbers
  have hco : Nat.Coprime (rg s r).toNat (sg s r).toNat := by
    have := Nat.coprime_div_gcd_div_gcd (m := s.toNat) (n := r.toNat) (by have := gc_pos hs hr; unfold gc at this; omega)
    have e1 : (sg s r).toNat = s.toNat / Nat.gcd s.toNat r.toNat := by
      unfold sg gc
      rw [show s / ((Nat.gcd s.toNat r.toNat : Nat) : Int) = ((s.toNat / Nat.gcd s.toNat r.toNat : Nat) : Int) by rw [Int.natCast_ediv, Int.toNat_of_nonneg (by omega)], Int.toNat_natCast]
    have e2 : (rg s r).toNat = r.toNat / Nat.gcd s.toNat r.toNat := by
      unfold rg gc
      rw [show r / ((Nat.gcd s.toNat r.toNat : Nat) : Int) = ((r.toNat / Nat.gcd s.toNat r.toNat : Nat) : Int) by rw [Int.natCast_ediv, Int.toNat_of_nonneg (by omega)], Int.toNat_natCast]
    rw [e1, e2]; exact this.symm
  have hn : (rg s r).toNat ∣ b * (sg s r).toNat := by
    have e : ((b * (sg s r).toNat : Nat) : Int) = b * sg s r := by
      rw [Int.natCast_mul, Int.toNat_of_nonneg (by omega)]
    have e2 : (((rg s r).toNat : Nat) : Int) = rg s r := Int.toNat_of_nonneg (by omega)
    rw [← Int.natCast_dvd_natCast, e, e2]; exact hd'
  have := hco.dvd_of_dvd_mul_right hn
  have := Int.natCast_dvd_natCast.2 this
  rwa [Int.toNat_of_nonneg (by omega)] at this

theorem rg_zero : (rg s r * s) % r = 0 := by
  have h1 := sg_mul hs hr
  have h2 := rg_mul hs hr
  have : rg s r * s = sg s r * r := by
    calc rg s r * s = rg s r * (sg s r * gc s r) := by rw [← h1]
      _ = sg s r * (rg s r * gc s r) := by rw [Int.mul_left_comm]
      _ = sg s r * r := by rw [← h2]
  rw [this]; exact Int.mul_emod_left _ _

theorem rg_quo : rg s r * s / r = sg s r := by
  have h1 := sg_mul hs hr
  have h2 := rg_mul hs hr
  have : rg s r * s = sg s r * r := by
    calc rg s r * s = rg s r * (sg s r * gc s r) := by rw [← h1]
      _ = sg s r * (rg s r * gc s r) := by rw [Int.mul_left_comm]
      _ = sg s r * r := by rw [← h2]
  rw [this]; exact Int.mul_ediv_cancel _ (by omega)

theorem rg_le : rg s r ≤ r := by
  have h2 := rg_mul hs hr
  have h3 := gc_pos hs hr
  have h4 := rg_pos hs hr
  have := Int.mul_le_mul_of_nonneg_left (show (1 : Int) ≤ gc s r by omega) (show 0 ≤ rg s r by omega)
  omega
theorem sg_le : sg s r ≤ s := by
  have h2 := sg_mul hs hr
  have h3 := gc_pos hs hr
  have h4 := sg_pos hs hr
  have := Int.mul_le_mul_of_nonneg_left (show (1 : Int) ≤ gc s r by omega) (show 0 ≤ sg s r by omega)
  omega
end
end Go.Proofs.Ytofmbeakbenncaa
