/- Chapter 21: counting the ends of each dent, plainly. -/
import Derived.Test.YtofmbeakbenncaaP4
namespace Go.Proofs.Ytofmbeakbenncaa

/-- How many of the first k ends each dent has. -/
def cnts (l : List Int) (k : Int) : List Int := (List.range l.length).map fun j => min (l.getD j 0) (max 0 (k - (l.take j).sum))
theorem cnts_len (l : List Int) (k : Int) : (cnts l k).length = l.length := by simp [cnts]
theorem cnts_get (l : List Int) (k : Int) (j : Nat) (hj : j < l.length) : (cnts l k).getD j 0 = min (l.getD j 0) (max 0 (k - (l.take j).sum)) := by
  simp [cnts, List.getD, hj]
theorem cnts_ext {a : List Int} {l : List Int} {k : Int} (h1 : a.length = l.length) (h2 : ∀ j, j < l.length → a.getD j 0 = min (l.getD j 0) (max 0 (k - (l.take j).sum))) : a = cnts l k := by
  apply List.ext_getElem?
  intro j
  by_cases hj : j < l.length
  · have e1 := h2 j hj
    rw [← cnts_get l k j hj] at e1
    simp only [List.getD, List.getElem?_eq_getElem (show j < a.length by omega), List.getElem?_eq_getElem (show j < (cnts l k).length by rw [cnts_len]; exact hj), Option.getD_some] at e1
    rw [List.getElem?_eq_getElem (show j < a.length by omega), List.getElem?_eq_getElem (show j < (cnts l k).length by rw [cnts_len]; exact hj), e1]
  · rw [List.getElem?_eq_none (by omega), List.getElem?_eq_none (by rw [cnts_len]; omega)]
theorem cnts_zero {l : List Int} (h : nn l) : List.replicate l.length 0 = cnts l 0 := by
  refine cnts_ext (by simp) (fun j hj => ?_)
  have := sum_nn (take_nn h j)
  have := h j hj
  rw [show (List.replicate l.length (0 : Int)).getD j 0 = 0 by simp [List.getD, hj]]
  omega
theorem cnts_sum {l : List Int} (h : nn l) : l = cnts l l.sum := by
  refine cnts_ext rfl (fun j hj => ?_)
  have := take_sum_le h (j + 1)
  have := h j hj
  rw [take_sum l j hj] at *
  omega
theorem cnts_step {l : List Int} (h : nn l) {k : Int} {d : Nat} (hd : IsDent l k d) : (cnts l k).set d ((cnts l k).getD d 0 + 1) = cnts l (k + 1) := by
  obtain ⟨d1, d2, d3⟩ := hd
  rw [take_sum l d d1] at d3
  refine cnts_ext (by rw [List.length_set, cnts_len]) (fun j hj => ?_)
  by_cases hjd : j = d
  · subst hjd
    rw [show ((cnts l k).set j ((cnts l k).getD j 0 + 1)).getD j 0 = (cnts l k).getD j 0 + 1 by simp [List.getD, cnts_len, hj], cnts_get l k j hj]
    omega
  · rw [show ((cnts l k).set d ((cnts l k).getD d 0 + 1)).getD j 0 = (cnts l k).getD j 0 by simp [List.getD, Ne.symm hjd], cnts_get l k j hj]
    rcases Nat.lt_or_ge j d with c | c
    · have := take_mono h (show j + 1 ≤ d from c)
      rw [take_sum l j hj] at this
      omega
    · have := take_mono h (show d + 1 ≤ j by omega)
      rw [take_sum l d d1] at this
      omega

end Go.Proofs.Ytofmbeakbenncaa
