/- Lists: do they have each number just once? -/
import Derived.Test.YtefhmecaoefpbaaK3
set_option linter.unusedSimpArgs false
set_option linter.unusedVariables false
set_option maxRecDepth 100000
namespace Go.Proofs.Ytefhmecaoefpbaa
open Go Go.Proofs Go.AW

theorem isPl_ex (l : List Int) (x : Int) : ∀ k, ∃ r, IsPl l x k r ∧ (0 ≤ r ↔ ∃ i, i < k ∧ l.getD i 0 = x) := by
  intro k
  induction k with
  | zero => exact ⟨-1, .inr ⟨fun j hj => by omega, rfl⟩, by omega, fun ⟨i, hi, _⟩ => by omega⟩
  | succ k ih =>
    obtain ⟨r, hr, hi⟩ := ih
    rcases hr with ⟨i, h1, h2, h3, h4⟩ | ⟨h1, h2⟩
    · exact ⟨r, .inl ⟨i, by omega, h2, h3, h4⟩, fun _ => ⟨i, by omega, h2⟩, fun _ => by omega⟩
    · by_cases hk : l.getD k 0 = x
      · exact ⟨k, .inl ⟨k, by omega, hk, fun j hj => h1 j hj, rfl⟩, fun _ => ⟨k, by omega, hk⟩, fun _ => by omega⟩
      · refine ⟨-1, .inr ⟨fun j hj => ?_, rfl⟩, by omega, fun ⟨i, h3, h4⟩ => ?_⟩
        · by_cases hjk : j = k
          · subst hjk; exact hk
          · exact h1 j (by omega)
        · by_cases hik : i = k
          · subst hik; exact absurd h4 hk
          · exact absurd h4 (h1 i (by omega))

/-- It is among the elements. -/
def has (l : List Int) (x : Int) : Prop := ∃ i, i < l.length ∧ l.getD i 0 = x
instance (l : List Int) (x : Int) : Decidable (has l x) := by unfold has; infer_instance
/-- The numbers below n that are among the elements. -/
def keptL (l : List Int) : Nat → List Int
  | 0 => []
  | n + 1 => if has l n then keptL l n ++ [(n : Int)] else keptL l n
theorem keptL_le (l : List Int) (n : Nat) : (keptL l n).length ≤ n := by
  induction n with
  | zero => exact Nat.le_refl _
  | succ n ih =>
    simp only [keptL]
    split
    · simp only [List.length_append, List.length_singleton]; omega
    · omega
theorem keptL_all (l : List Int) (n : Nat) : (keptL l n).length = n ↔ ∀ k : Nat, k < n → has l k := by
  induction n with
  | zero => exact ⟨fun _ k hk => by omega, fun _ => rfl⟩
  | succ n ih =>
    have hle := keptL_le l n
    simp only [keptL]
    split
    · rename_i h
      rw [List.length_append, List.length_singleton]
      constructor
      · intro h1 k hk
        by_cases hkn : k = n
        · subst hkn; exact h
        · exact ih.1 (by omega) k (by omega)
      · intro h1
        have := ih.2 fun k hk => h1 k (by omega)
        omega
    · rename_i h
      constructor
      · intro h1; omega
      · intro h1; exact absurd (h1 n (by omega)) h

/-- It has each number below n just once. -/
def eachL (l : List Int) (n : Nat) : Prop := l.length = n ∧ ∀ k : Nat, k < n → has l k
end Go.Proofs.Ytefhmecaoefpbaa
