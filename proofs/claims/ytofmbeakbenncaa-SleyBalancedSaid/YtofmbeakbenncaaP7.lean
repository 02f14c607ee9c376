/- Chapter 21: the least repeat, plainly. -/
import Derived.Test.YtofmbeakbenncaaP3
namespace Go.Proofs.Ytofmbeakbenncaa

/-- The sleying is its first k dents, over and over. -/
def isU (l : List Int) (k : Nat) : Prop := l.length % k = 0 ∧ ∀ i, k ≤ i → i < l.length → l.getD i 0 = l.getD (i % k) 0

theorem shift_U {l : List Int} {k : Nat} (h1 : 1 ≤ k) (h2 : k ≤ l.length) : l.drop k = l.take (l.length - k) ↔ ∀ i, k ≤ i → i < l.length → l.getD i 0 = l.getD (i % k) 0 := by
  have e : l.drop k = l.take (l.length - k) ↔ ∀ i, i + k < l.length → l.getD (i + k) 0 = l.getD i 0 := by
    constructor
    · intro h i hi
      have hh : (l.drop k)[i]? = (l.take (l.length - k))[i]? := by rw [h]
      rw [List.getElem?_drop, List.getElem?_take, if_pos (by omega), Nat.add_comm] at hh
      simp [List.getD, hh]
    · intro h
      apply List.ext_getElem?
      intro i
      rw [List.getElem?_drop, List.getElem?_take]
      by_cases hi : i + k < l.length
      · have := h i hi
        have h3 : i < l.length := by omega
        simp only [List.getD, List.getElem?_eq_getElem hi, List.getElem?_eq_getElem h3, Option.getD_some] at this
        rw [if_pos (by omega), Nat.add_comm, List.getElem?_eq_getElem hi, List.getElem?_eq_getElem h3, this]
      · rw [if_neg (by omega), List.getElem?_eq_none (by omega)]
  rw [e]
  constructor
  · intro h i
    induction i using Nat.strongRecOn with
    | _ i ih =>
      intro hk hi
      have h3 := h (i - k) (by omega)
      rw [Nat.sub_add_cancel hk] at h3
      rw [h3]
      rcases Nat.lt_or_ge (i - k) k with hlt | hge
      · rw [Nat.mod_eq_sub_mod hk, Nat.mod_eq_of_lt hlt]
      · rw [ih (i - k) (by omega) hge (by omega), ← Nat.mod_eq_sub_mod hk]
  · intro h i hi
    rw [h (i + k) (by omega) hi, Nat.add_mod_right]
    rcases Nat.lt_or_ge i k with hlt | hge
    · rw [Nat.mod_eq_of_lt hlt]
    · rw [← h i hge (by omega)]

/-- The least repeat. -/
def IsUnit (l : List Int) (K : Nat) : Prop := 1 ≤ K ∧ K ≤ l.length ∧ isU l K ∧ ∀ j, 1 ≤ j → j < K → ¬ isU l j

theorem unit_ex {l : List Int} (h : 1 ≤ l.length) : ∃ K, IsUnit l K := by
  have key : ∀ n m, n = l.length - m → 1 ≤ m → m ≤ l.length → (∀ j, 1 ≤ j → j < m → ¬ isU l j) → ∃ K, IsUnit l K := by
    intro n
    induction n with
    | zero =>
      intro m hn h1 h2 h3
      refine ⟨m, h1, h2, ⟨?_, ?_⟩, h3⟩
      · rw [show m = l.length by omega]; exact Nat.mod_self _
      · intro i hi hi2; omega
    | succ n ih =>
      intro m hn h1 h2 h3
      by_cases hu : isU l m
      · exact ⟨m, h1, h2, hu, h3⟩
      · refine ih (m + 1) (by omega) (by omega) (by omega) (fun j hj1 hj2 => ?_)
        rcases Nat.lt_or_ge j m with c | c
        · exact h3 j hj1 c
        · rw [show j = m by omega]; exact hu
  exact key _ 1 rfl (Nat.le_refl _) h (fun j h1 h2 => by omega)

end Go.Proofs.Ytofmbeakbenncaa
