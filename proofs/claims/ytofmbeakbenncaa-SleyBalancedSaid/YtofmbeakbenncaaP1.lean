/- Chapter 21: even sleyings, plainly. -/
namespace Go.Proofs.Ytofmbeakbenncaa

def evenTo (n d : Int) (k : Nat) : List Int := (List.range k).map fun (i : Nat) => n * ((i : Int) + 1) / d - n * (i : Int) / d
theorem evenTo_succ (n d : Int) (k : Nat) : evenTo n d (k + 1) = evenTo n d k ++ [n * ((k : Int) + 1) / d - n * (k : Int) / d] := by simp [evenTo, List.range_succ]
theorem evenTo_len (n d : Int) (k : Nat) : (evenTo n d k).length = k := by simp [evenTo]

/-- After i ends have been put. -/
def spr (n d : Int) (i : Nat) : List Int := (List.range d.toNat).map fun (j : Nat) => min (i : Int) (n * ((j : Int) + 1) / d) - min (i : Int) (n * (j : Int) / d)
theorem spr_len (n d : Int) (i : Nat) : (spr n d i).length = d.toNat := by simp [spr]

theorem mul_le {n a b : Int} (hn : 0 ≤ n) (h : a ≤ b) : n * a ≤ n * b := Int.mul_le_mul_of_nonneg_left h hn

theorem spr_bd (n d : Int) (i a : Nat) (hn : 0 ≤ n) (hd : 1 ≤ d) (ha : a < d.toNat) : -(i : Int) ≤ (spr n d i).getD a 0 ∧ (spr n d i).getD a 0 ≤ i := by
  have a1 : 0 ≤ n * ((a : Int) + 1) / d := Int.ediv_nonneg (Int.mul_nonneg hn (by omega)) (by omega)
  have a2 : 0 ≤ n * (a : Int) / d := Int.ediv_nonneg (Int.mul_nonneg hn (by omega)) (by omega)
  simp only [spr, List.getD_eq_getElem?_getD, List.getElem?_map, List.getElem?_range ha, Option.map_some, Option.getD_some]
  omega

theorem spr_zero (n d : Int) (hn : 0 ≤ n) (hd : 1 ≤ d) : spr n d 0 = List.replicate d.toNat 0 := by
  apply List.ext_getElem
  · simp [spr]
  · intro j h1 h2
    simp only [spr, List.getElem_map, List.getElem_range, List.getElem_replicate]
    have a1 : 0 ≤ n * ((j : Int) + 1) / d := Int.ediv_nonneg (Int.mul_nonneg hn (by omega)) (by omega)
    have a2 : 0 ≤ n * (j : Int) / d := Int.ediv_nonneg (Int.mul_nonneg hn (by omega)) (by omega)
    omega

theorem spr_step (n d : Int) (i at_ : Nat) (hn : 0 ≤ n) (hd : 1 ≤ d) (ha : (at_ : Int) < d) (h1 : n * at_ < (i + 1) * d) (h2 : ((i : Int) + 1) * d ≤ n * (at_ + 1)) :
    (spr n d i).set at_ ((spr n d i).getD at_ 0 + 1) = spr n d (i + 1) := by
  have low : ∀ j : Nat, j ≤ at_ → n * (j : Int) / d ≤ i := fun j hj => by
    have := mul_le hn (show (j : Int) ≤ at_ by omega)
    have := Int.ediv_lt_of_lt_mul (by omega : 0 < d) (show n * (j : Int) < (i + 1) * d by omega)
    omega
  have high : ∀ j : Nat, at_ + 1 ≤ j → (i : Int) + 1 ≤ n * (j : Int) / d := fun j hj => by
    have := mul_le hn (show ((at_ : Int) + 1) ≤ j by omega)
    exact Int.le_ediv_of_mul_le (by omega) (by omega)
  have hlt : at_ < d.toNat := by omega
  apply List.ext_getElem
  · simp [spr_len]
  · intro j h3 h4
    have hj : j < d.toNat := by simpa [spr_len] using h3
    rw [List.getElem_set]
    by_cases hja : at_ = j
    · subst hja
      rw [if_pos rfl]
      have := low at_ (Nat.le_refl _)
      have := high (at_ + 1) (Nat.le_refl _)
      rw [show ((at_ + 1 : Nat) : Int) = (at_ : Int) + 1 by omega] at this
      simp only [spr, List.getD_eq_getElem?_getD, List.getElem?_map, List.getElem?_range hlt, Option.map_some, Option.getD_some, List.getElem_map, List.getElem_range]
      omega
    · rw [if_neg hja]
      simp only [spr, List.getElem_map, List.getElem_range]
      rcases Nat.lt_or_gt_of_ne hja with h | h
      · have := high j (by omega)
        have := high (j + 1) (by omega)
        rw [show ((j + 1 : Nat) : Int) = (j : Int) + 1 by omega] at this
        omega
      · have := low j (by omega)
        have := low (j + 1) (by omega)
        rw [show ((j + 1 : Nat) : Int) = (j : Int) + 1 by omega] at this
        omega

theorem spr_end (n d : Int) (m : Nat) (hm : (m : Int) = n) (hd : 1 ≤ d) : spr n d m = evenTo n d d.toNat := by
  unfold spr evenTo
  apply List.map_congr_left
  intro j hj
  have hj' : j < d.toNat := by simpa using hj
  have hn : 0 ≤ n := by omega
  have a1 : n * ((j : Int) + 1) / d ≤ n := by
    have := mul_le hn (show (j : Int) + 1 ≤ d by omega)
    have := Int.ediv_le_ediv (by omega : 0 < d) this
    rw [Int.mul_ediv_cancel _ (by omega)] at this
    exact this
  have a2 : n * (j : Int) / d ≤ n := by
    have := mul_le hn (show (j : Int) ≤ d by omega)
    have := Int.ediv_le_ediv (by omega : 0 < d) this
    rw [Int.mul_ediv_cancel _ (by omega)] at this
    exact this
  omega

end Go.Proofs.Ytofmbeakbenncaa
