/- Chapter 21: an even pattern, its sum and its least repeat, plainly. -/
import Derived.Test.YtofmbeakbenncaaP1
import Derived.Test.YtofmbeakbenncaaP2
import Derived.Test.YtofmbeakbenncaaP4
import Derived.Test.YtofmbeakbenncaaP7
namespace Go.Proofs.Ytofmbeakbenncaa

theorem even_sum (n d : Int) (k : Nat) : (evenTo n d k).sum = n * k / d := by
  induction k with
  | zero => simp [evenTo]
  | succ k ih => rw [evenTo_succ, List.sum_append, ih]; simp; omega

theorem even_nn {n d : Int} (hn : 0 ≤ n) (hd : 1 ≤ d) (k : Nat) : nn (evenTo n d k) := by
  rw [nn_mem]
  intro x hx
  simp only [evenTo, List.mem_map, List.mem_range] at hx
  obtain ⟨i, hi, rfl⟩ := hx
  have h1 : n * (i : Int) ≤ n * ((i : Int) + 1) := Int.mul_le_mul_of_nonneg_left (by omega) hn
  have := Int.ediv_le_ediv (show 0 < d by omega) h1
  omega

theorem even_ok {n d : Int} (h1 : 0 ≤ n) (h2 : n ≤ 4000) (h3 : 1 ≤ d) (h4 : d ≤ 4000) : okS (evenTo n d d.toNat) := by
  refine ⟨by rw [evenTo_len]; omega, by rw [evenTo_len]; omega, even_nn h1 h3 _, ?_⟩
  rw [even_sum, Int.toNat_of_nonneg (by omega), Int.mul_ediv_cancel _ (by omega)]
  exact h2

theorem per_add {l : List Int} {k : Nat} (hu : isU l k) (m : Nat) : ∀ j, j ≤ k → m * k + j ≤ l.length → (l.take (m * k + j)).sum = (l.take (m * k)).sum + (l.take j).sum := by
  intro j
  induction j with
  | zero => intro _ _; simp
  | succ j ih =>
    intro h2 h3
    rw [← Nat.add_assoc, take_sum l (m * k + j) (by omega), ih (by omega) (by omega), take_sum l j (by have : 0 ≤ m * k := Nat.zero_le _; omega)]
    have e : l.getD (m * k + j) 0 = l.getD j 0 := by
      rcases Nat.eq_zero_or_pos m with rfl | hm
      · simp
      · have : k ≤ m * k := Nat.le_mul_of_pos_left k hm
        rw [hu.2 (m * k + j) (by omega) (by omega), Nat.mul_add_mod_self_right, Nat.mod_eq_of_lt (by omega)]
    omega

theorem per_sum {l : List Int} {k : Nat} (hu : isU l k) (m : Nat) (hm : m * k ≤ l.length) : (l.take (m * k)).sum = m * (l.take k).sum := by
  induction m with
  | zero => simp
  | succ m ih =>
    have e : (m + 1) * k = m * k + k := by rw [Nat.add_mul, Nat.one_mul]
    rw [e] at hm ⊢
    rw [per_add hu m k (Nat.le_refl _) hm, ih (by omega)]
    simp only [Int.natCast_add, Int.add_mul]; simp

/-- Where ends and dents have no common divisor, the even pattern has no shorter repeat. -/
theorem even_unit {n d : Nat} (hd : 1 ≤ d) (hg : Nat.gcd n d = 1) : IsUnit (evenTo n d d) d := by
  have hlen := evenTo_len n d d
  refine ⟨hd, by omega, ⟨by rw [hlen]; exact Nat.mod_self _, fun i h1 h2 => by omega⟩, fun j h1 h2 hu => ?_⟩
  have hdv : j ∣ d := by have := hu.1; rw [hlen] at this; exact Nat.dvd_of_mod_eq_zero this
  obtain ⟨q, hq⟩ := hdv
  have hs := per_sum hu q (by rw [hlen, hq, Nat.mul_comm]; exact Nat.le_refl _)
  rw [show q * j = (evenTo (n : Int) d d).length by rw [hlen, hq, Nat.mul_comm], List.take_length, even_sum, Int.mul_ediv_cancel _ (by omega)] at hs
  have hqn : q ∣ n := Int.natCast_dvd_natCast.1 ⟨_, hs⟩
  have hqd : q ∣ d := ⟨j, by rw [hq, Nat.mul_comm]⟩
  have hq1 := Nat.dvd_gcd hqn hqd
  rw [hg] at hq1
  have : q = 1 := Nat.dvd_one.1 hq1
  subst this
  omega

end Go.Proofs.Ytofmbeakbenncaa
