/- Chapter 21: filled reeds, plainly. -/
import Derived.Test.YtofmbeakbenncaaP4
namespace Go.Proofs.Ytofmbeakbenncaa

/-- The first k dents, around. -/
def rep (l : List Int) : Nat → List Int
  | 0 => []
  | k + 1 => rep l k ++ [l.getD (k % l.length) 0]

theorem rep_length (l : List Int) (k : Nat) : (rep l k).length = k := by
  induction k with
  | zero => rfl
  | succ k ih => simp [rep, ih]
theorem rep_sum (l : List Int) (k : Nat) : (rep l k).sum = prt l 0 k := by
  induction k with
  | zero => rfl
  | succ k ih => simp [rep, prt, ih]
theorem rep_take (l : List Int) (k j : Nat) (h : j ≤ k) : (rep l k).take j = rep l j := by
  induction k with
  | zero => rw [show j = 0 by omega]; rfl
  | succ k ih =>
    rcases Nat.lt_or_ge j (k + 1) with h1 | h1
    · rw [rep, List.take_append_of_le_length (by rw [rep_length]; omega), ih (by omega)]
    · rw [show j = k + 1 by omega, List.take_of_length_le (by rw [rep_length]; omega)]
theorem rep_last (l : List Int) (k : Nat) : (rep l (k + 1)).getD k 0 = l.getD (k % l.length) 0 := by
  simp [rep, List.getD, rep_length]
theorem rep_set (l : List Int) (k : Nat) (x : Int) : (rep l (k + 1)).set k x = rep l k ++ [x] := by
  rw [rep, List.set_append_right _ _ (by rw [rep_length]; omega), rep_length]; simp
theorem prt_mono {l : List Int} (h : okS l) (i : Nat) {a b : Nat} (hab : a ≤ b) : prt l i a ≤ prt l i b := by
  induction b with
  | zero => rw [show a = 0 by omega]; omega
  | succ b ih =>
    rcases Nat.lt_or_ge a (b + 1) with h1 | h1
    · have := ih (by omega); have := get_b h ((i + b) % l.length); simp only [prt]; omega
    · rw [show a = b + 1 by omega]; omega

/-- Dent k is the last one of n ends. -/
def LastD (l : List Int) (n : Int) (k : Nat) : Prop := k < 4000 ∧ prt l 0 k < n ∧ n ≤ prt l 0 (k + 1)

theorem LastD.uniq {l : List Int} (h : okS l) {n : Int} {a b : Nat} (ha : LastD l n a) (hb : LastD l n b) : a = b := by
  rcases Nat.lt_trichotomy a b with c | c | c
  · have := prt_mono h 0 (show a + 1 ≤ b by omega); have := ha.2.2; have := hb.2.1; omega
  · exact c
  · have := prt_mono h 0 (show b + 1 ≤ a by omega); have := hb.2.2; have := ha.2.1; omega

theorem last_ex {l : List Int} {n : Int} (h0 : 0 < n) (h1 : n ≤ prt l 0 4000) : ∃ k, LastD l n k := by
  have key : ∀ m, m ≤ 4000 → n ≤ prt l 0 m → ∃ k, LastD l n k := by
    intro m
    induction m with
    | zero => intro _ h2; simp [prt] at h2; omega
    | succ m ih =>
      intro hm h2
      by_cases h3 : n ≤ prt l 0 m
      · exact ih (by omega) h3
      · exact ⟨m, by omega, by omega, h2⟩
  exact key 4000 (by omega) h1

open Classical in
noncomputable def fiE (l : List Int) (n : Int) : Int :=
  if ¬ okS l then 8 else if n < 0 ∨ 4000 < n then 2 else if l.sum = 0 then 8 else if prt l 0 4000 < n then 16 else 0
open Classical in
noncomputable def fiV (l : List Int) (n : Int) : List Int :=
  if fiE l n ≠ 0 then [] else if n = 0 then [0] else if h : ∃ k, LastD l n k then rep l (choose h) ++ [n - prt l 0 (choose h)] else []

theorem fi_err {l : List Int} {n : Int} {e : Int} (h : fiE l n = e) (he : e ≠ 0) : fiE l n = e ∧ fiV l n = [] := by
  refine ⟨h, ?_⟩
  rw [fiV, if_pos (by omega)]
theorem fi_bad {l : List Int} {n : Int} (h : ¬ okS l) : fiE l n = 8 ∧ fiV l n = [] := fi_err (by rw [fiE, if_pos h]) (by omega)
theorem fi_size {l : List Int} {n : Int} (h : okS l) (h2 : n < 0 ∨ 4000 < n) : fiE l n = 2 ∧ fiV l n = [] := fi_err (by rw [fiE, if_neg (not_not_intro h), if_pos h2]) (by omega)
theorem fi_none {l : List Int} {n : Int} (h : okS l) (h0 : 0 ≤ n) (h1 : n ≤ 4000) (h2 : l.sum = 0) : fiE l n = 8 ∧ fiV l n = [] := fi_err (by rw [fiE, if_neg (not_not_intro h), if_neg (by omega), if_pos h2]) (by omega)
theorem fi_long {l : List Int} {n : Int} (h : okS l) (h0 : 0 ≤ n) (h1 : n ≤ 4000) (h2 : l.sum ≠ 0) (h3 : prt l 0 4000 < n) : fiE l n = 16 ∧ fiV l n = [] := fi_err (by rw [fiE, if_neg (not_not_intro h), if_neg (by omega), if_neg h2, if_pos h3]) (by omega)
theorem fi_zero {l : List Int} (h : okS l) (h2 : l.sum ≠ 0) : fiE l 0 = 0 ∧ fiV l 0 = [0] := by
  have e : fiE l 0 = 0 := by rw [fiE, if_neg (not_not_intro h), if_neg (by omega), if_neg h2, if_neg (by have := prt_b h 0 4000; omega)]
  refine ⟨e, ?_⟩
  rw [fiV, if_neg (by omega), if_pos rfl]
theorem fi_ok {l : List Int} {n : Int} (h : okS l) (h0 : 0 < n) (h1 : n ≤ 4000) (h2 : l.sum ≠ 0) {k : Nat} (hk : LastD l n k) : fiE l n = 0 ∧ fiV l n = rep l k ++ [n - prt l 0 k] := by
  have h3 : n ≤ prt l 0 4000 := by have := prt_mono h 0 (show k + 1 ≤ 4000 from hk.1); have := hk.2.2; omega
  have e : fiE l n = 0 := by rw [fiE, if_neg (not_not_intro h), if_neg (by omega), if_neg h2, if_neg (by omega)]
  refine ⟨e, ?_⟩
  have hex : ∃ k, LastD l n k := ⟨k, hk⟩
  rw [fiV, if_neg (by omega), if_neg (by omega), dif_pos hex, (Classical.choose_spec hex).uniq h hk]

/-- The greatest of the first k + 1. -/
def mxs (l : List Int) : Nat → Int
  | 0 => l.getD 0 0
  | k + 1 => max (mxs l k) (l.getD (k + 1) 0)
theorem mxs_ge (l : List Int) (k j : Nat) (h : j ≤ k) : l.getD j 0 ≤ mxs l k := by
  induction k with
  | zero => rw [show j = 0 by omega]; exact Int.le_refl _
  | succ k ih =>
    simp only [mxs]
    rcases Nat.lt_or_ge j (k + 1) with h1 | h1
    · have := ih (by omega); omega
    · rw [show j = k + 1 by omega]; omega
theorem mxs_le {l : List Int} (h : nn l) (k : Nat) (hk : k < l.length) : mxs l k ≤ l.sum := by
  induction k with
  | zero => exact get_le_sum h 0 hk
  | succ k ih => have := ih (by omega); have := get_le_sum h (k + 1) hk; simp only [mxs]; omega
theorem mxs_zero {l : List Int} (h : okS l) : mxs l (l.length - 1) = 0 ↔ l.sum = 0 := by
  have h1 := h.1
  have hle := mxs_le h.2.2.1 (l.length - 1) (by omega)
  have h0 := mxs_ge l (l.length - 1) 0 (by omega)
  have h00 := (get_b h 0).1
  constructor
  · intro hm
    have key : ∀ k, k ≤ l.length → (l.take k).sum ≤ 0 := by
      intro k
      induction k with
      | zero => intro _; simp
      | succ k ih =>
        intro hk
        have := ih (by omega)
        have := mxs_ge l (l.length - 1) k (by omega)
        rw [take_sum l k (by omega)]; omega
    have h2 := key l.length (Nat.le_refl _)
    rw [List.take_length] at h2
    have := sum_nn h.2.2.1
    omega
  · intro hs; omega

end Go.Proofs.Ytofmbeakbenncaa
