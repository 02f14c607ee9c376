/- A table filled in another order. -/
import Derived.Test.YtfnbejllakoiiaaR4
set_option linter.unusedSimpArgs false
set_option linter.unusedVariables false
set_option maxRecDepth 100000
namespace Go.Proofs.Ytfnbejllakoiiaa
open Go Go.Proofs Go.AW

/-- The table where the columns ahead of the i-th, and k cells of it, are filled; columns and rows are numbered by v2 and v1. -/
def prN (T : Nat) (v2 v1 : Nat → Nat) (u : Nat → Nat → Bool) (n i k : Nat) : List Bool := (List.range n).map fun j => if v2 (j % T) < i ∨ (v2 (j % T) = i ∧ v1 (j / T) < k) then u (j % T) (j / T) else false
theorem prN_len (T : Nat) (v2 v1 : Nat → Nat) (u : Nat → Nat → Bool) (n i k : Nat) : (prN T v2 v1 u n i k).length = n := by simp [prN]
theorem prN_zero (T : Nat) (v2 v1 : Nat → Nat) (u : Nat → Nat → Bool) (n : Nat) : prN T v2 v1 u n 0 0 = List.replicate n false := by
  apply List.ext_getElem
  · simp [prN]
  · intro i h1 h2; simp [prN]
theorem prN_step {T S : Nat} {v2 v1 : Nat → Nat} (u : Nat → Nat → Bool) {i k x y : Nat} (hx : x < T) (hy : y < S) (e2 : v2 x = i) (e1 : v1 y = k) (j2 : ∀ a, a < T → v2 a = i → a = x) (j1 : ∀ b, b < S → v1 b = k → b = y) :
    (prN T v2 v1 u (T * S) i k).set (T * y + x) (u x y) = prN T v2 v1 u (T * S) i (k + 1) := by
  have m1 : (T * y + x) % T = x := by rw [Nat.mul_add_mod]; exact Nat.mod_eq_of_lt hx
  have m2 : (T * y + x) / T = y := by rw [Nat.mul_add_div (by omega), Nat.div_eq_of_lt hx]; omega
  apply List.ext_getElem
  · simp [prN]
  intro j h1 h2
  have hj : j < T * S := by rw [prN_len] at h2; exact h2
  rw [List.getElem_set]
  split
  · rename_i he
    subst he
    simp only [prN, List.getElem_map, List.getElem_range, m1, m2, e1, e2]
    rw [if_pos (.inr ⟨trivial, by omega⟩)]
  · rename_i he
    simp only [prN, List.getElem_map, List.getElem_range]
    have hT : 0 < T := by omega
    have ha := Nat.mod_lt j hT
    have hb : j / T < S := by rw [Nat.div_lt_iff_lt_mul hT, Nat.mul_comm]; exact hj
    have hjj := Nat.div_add_mod j T
    have hc : (v2 (j % T) < i ∨ (v2 (j % T) = i ∧ v1 (j / T) < k)) ↔ (v2 (j % T) < i ∨ (v2 (j % T) = i ∧ v1 (j / T) < k + 1)) := by
      constructor
      · rintro (h | ⟨h, h'⟩)
        · exact .inl h
        · exact .inr ⟨h, by omega⟩
      · rintro (h | ⟨h, h'⟩)
        · exact .inl h
        · right
          refine ⟨h, ?_⟩
          rcases Nat.lt_or_ge (v1 (j / T)) k with h3 | h3
          · exact h3
          · exfalso
            have g1 := j2 _ ha h
            have g2 := j1 _ hb (by omega)
            rw [g1, g2] at hjj
            exact he hjj
    by_cases hd : v2 (j % T) < i ∨ (v2 (j % T) = i ∧ v1 (j / T) < k)
    · rw [if_pos hd, if_pos (hc.1 hd)]
    · rw [if_neg hd, if_neg (fun h => hd (hc.2 h))]
theorem prN_row {T S : Nat} {v2 v1 : Nat → Nat} (u : Nat → Nat → Bool) (i : Nat) (h1 : ∀ b, b < S → v1 b < S) : prN T v2 v1 u (T * S) i S = prN T v2 v1 u (T * S) (i + 1) 0 := by
  rcases Nat.eq_zero_or_pos T with h0 | h0
  · subst h0; simp [prN]
  apply List.ext_getElem
  · simp [prN]
  intro j g1 g2
  have hj : j < T * S := by rw [prN_len] at g2; exact g2
  simp only [prN, List.getElem_map, List.getElem_range]
  have hb : j / T < S := by rw [Nat.div_lt_iff_lt_mul h0, Nat.mul_comm]; exact hj
  have := h1 _ hb
  by_cases hd : v2 (j % T) < i + 1
  · rw [if_pos (by omega), if_pos (.inl hd)]
  · rw [if_neg (by omega), if_neg (by omega)]
theorem prN_end {T S : Nat} {v2 v1 : Nat → Nat} (u : Nat → Nat → Bool) (h2 : ∀ a, a < T → v2 a < T) : prN T v2 v1 u (T * S) T 0 = tabN T u (T * S) := by
  rcases Nat.eq_zero_or_pos T with h0 | h0
  · subst h0; simp [prN, tabN]
  apply List.ext_getElem
  · rw [prN_len, tabN_len]
  intro j g1 g2
  simp only [prN, tabN, List.getElem_map, List.getElem_range]
  rw [if_pos (.inl (h2 _ (Nat.mod_lt j h0)))]

/-- The inverse of a list that has each number once. -/
theorem inv_nat {l : List Int} {n : Nat} (hl : l.length = n) (ho : once l n n) :
    (∀ x, x < n → ((invL l n n).getD x 0).toNat < n) ∧ (∀ i, i < n → ∃ x : Nat, x < n ∧ l.getD i 0 = x ∧ ((invL l n n).getD x 0).toNat = i ∧ (invL l n n).getD x 0 = i ∧ ∀ a, a < n → ((invL l n n).getD a 0).toNat = i → a = x) := by
  refine ⟨fun x hx => ?_, fun i hi => ?_⟩
  · have := invL_in hl ho hx; omega
  · obtain ⟨g1, g2, g3⟩ := ho i hi
    obtain ⟨x, hx⟩ : ∃ x : Nat, l.getD i 0 = x := ⟨(l.getD i 0).toNat, by omega⟩
    have hxn : x < n := by omega
    have key : ∀ a, a < n → ∃ i', i' < n ∧ l.getD i' 0 = (a : Int) ∧ (invL l n n).getD a 0 = (i' : Int) := by
      intro a ha
      rcases invL_at ho a ha with h | ⟨h1, _⟩
      · exact h
      · obtain ⟨q, hq, e⟩ := (each_once.2 ⟨hl, ho⟩).2 a ha
        exact absurd e (h1 q (by omega))
    have uniq' : ∀ i', i' < n → l.getD i' 0 = l.getD i 0 → i' = i := by
      intro i' hi' he
      rcases Nat.lt_trichotomy i' i with h | h | h
      · exact absurd he (g3 i' h)
      · exact h
      · exact absurd he.symm ((ho i' hi').2.2 i h)
    obtain ⟨i', h1, h2, h3⟩ := key x hxn
    have hii := uniq' i' h1 (by rw [h2, hx])
    subst hii
    refine ⟨x, hxn, hx, by omega, h3, fun a ha he => ?_⟩
    obtain ⟨i2, k1, k2, k3⟩ := key a ha
    have : i2 = i' := by omega
    subst this
    omega
end Go.Proofs.Ytfnbejllakoiiaa
