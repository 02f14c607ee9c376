/- Kinds: numbered by first occurrence. Plain. -/
import Derived.Test.YtefhmecaoefpbaaT
set_option linter.unusedSimpArgs false
set_option linter.unusedVariables false
namespace Go.Proofs.Ytefhmecaoefpbaa

/-- Different numbers below m: at most m. -/
theorem nodup_lt : ∀ (m : Nat) (l : List Nat), l.Nodup → (∀ x ∈ l, x < m) → l.length ≤ m := by
  intro m
  induction m with
  | zero =>
    intro l _ h
    cases l with
    | nil => exact Nat.le_refl _
    | cons x r => have := h x (by simp); omega
  | succ m ih =>
    intro l hn h
    by_cases hm : m ∈ l
    · have h1 := ih (l.erase m) (hn.erase m) (fun x hx => by
        have h2 := (hn.mem_erase_iff).1 hx
        have := h x h2.2
        have := h2.1
        omega)
      rw [List.length_erase_of_mem hm] at h1
      omega
    · have h1 := ih l hn (fun x hx => by
        have := h x hx
        have : x ≠ m := fun e => hm (e ▸ hx)
        omega)
      omega

section
variable {α : Type} [DecidableEq α] {β : Type} [DecidableEq β]

/-- The place of y's like among fs, or their number. -/
def plc (r : Nat → α) (fs : List Nat) (y : Nat) : Nat := fs.findIdx fun f => decide (r f = r y)
/-- Kinds and firsts of the first n. -/
def knd (r : Nat → α) : Nat → List Nat × List Nat
  | 0 => ([], [])
  | n + 1 => ((knd r n).1 ++ [plc r (knd r n).2 n], if plc r (knd r n).2 n = (knd r n).2.length then (knd r n).2 ++ [n] else (knd r n).2)
theorem knd_len (r : Nat → α) (n : Nat) : (knd r n).1.length = n := by
  induction n with
  | zero => rfl
  | succ n ih => simp [knd, ih]
theorem knd_le (r : Nat → α) (n : Nat) : (knd r n).2.length ≤ n := by
  induction n with
  | zero => exact Nat.le_refl _
  | succ n ih =>
    simp only [knd]
    split
    · simp only [List.length_append, List.length_singleton]; omega
    · omega
theorem knd_first (r : Nat → α) (n : Nat) : ∀ f ∈ (knd r n).2, f < n := by
  induction n with
  | zero => intro f hf; simp [knd] at hf
  | succ n ih =>
    intro f hf
    simp only [knd] at hf
    split at hf
    · rcases List.mem_append.1 hf with h | h
      · have := ih f h; omega
      · simp at h; omega
    · have := ih f hf; omega
theorem plc_le (r : Nat → α) (fs : List Nat) (y : Nat) : plc r fs y ≤ fs.length := List.findIdx_le_length
theorem plc_eq (r : Nat → α) {fs : List Nat} {y k : Nat} (hk : k ≤ fs.length) (h1 : ∀ j, j < k → r (fs.getD j 0) ≠ r y) (h2 : k < fs.length → r (fs.getD k 0) = r y) : plc r fs y = k := by
  unfold plc
  rcases Nat.lt_or_ge k fs.length with hlt | hge
  · rw [List.findIdx_eq hlt]
    refine ⟨by have := h2 hlt; simp [List.getD_eq_getElem?_getD, hlt] at this; simp [this], fun j hj => ?_⟩
    have := h1 j hj
    simp [List.getD_eq_getElem?_getD, show j < fs.length by omega] at this
    simpa using this
  · obtain rfl : k = fs.length := by omega
    rw [List.findIdx_eq_length]
    intro x hx
    obtain ⟨j, hj, rfl⟩ := List.getElem_of_mem hx
    have := h1 j hj
    simp [List.getD_eq_getElem?_getD, hj] at this
    simpa using this
theorem plc_at (r : Nat → α) {fs : List Nat} {y : Nat} (h : plc r fs y < fs.length) : r (fs.getD (plc r fs y) 0) = r y := by
  unfold plc at h ⊢
  have h1 := List.findIdx_getElem (w := h)
  simpa [List.getD_eq_getElem?_getD, h] using h1
theorem plc_ne (r : Nat → α) {fs : List Nat} {y j : Nat} (hj : j < plc r fs y) : r (fs.getD j 0) ≠ r y := by
  have hl := plc_le r fs y
  unfold plc at hj
  have h1 := List.not_of_lt_findIdx hj
  have h2 : j < fs.length := by unfold plc at hl; omega
  simpa [List.getD_eq_getElem?_getD, h2] using h1

theorem getD_app {γ : Type} (l m : List γ) (j : Nat) (d : γ) : (l ++ m).getD j d = if j < l.length then l.getD j d else m.getD (j - l.length) d := by
  split
  · rename_i h; simp [List.getD_eq_getElem?_getD, List.getElem?_append_left h]
  · rename_i h
    have h' : l.length ≤ j := by omega
    simp [List.getD_eq_getElem?_getD, List.getElem?_append_right h']

/-- Each has the kind whose first is like it. -/
theorem knd_like (r : Nat → α) (n : Nat) : ∀ y, y < n → (knd r n).1.getD y 0 < (knd r n).2.length ∧ r ((knd r n).2.getD ((knd r n).1.getD y 0) 0) = r y := by
  induction n with
  | zero => intro y hy; omega
  | succ n ih =>
    intro y hy
    have hl := knd_len r n
    have hp := plc_le r (knd r n).2 n
    simp only [knd]
    rw [getD_app, hl]
    by_cases hyn : y < n
    · rw [if_pos hyn]
      obtain ⟨h1, h2⟩ := ih y hyn
      split
      · rw [getD_app, if_pos h1]
        exact ⟨by simp only [List.length_append, List.length_singleton]; omega, h2⟩
      · exact ⟨h1, h2⟩
    · obtain rfl : y = n := by omega
      rw [if_neg hyn, Nat.sub_self]
      simp only [List.getD_cons_zero]
      split
      · rename_i he
        rw [getD_app, if_neg (by omega), he, Nat.sub_self]
        exact ⟨by simp, rfl⟩
      · rename_i he
        exact ⟨by omega, plc_at r (by omega)⟩

/-- Firsts are not alike. -/
theorem knd_diff (r : Nat → α) (n : Nat) : ∀ i j, i < j → j < (knd r n).2.length → r ((knd r n).2.getD i 0) ≠ r ((knd r n).2.getD j 0) := by
  induction n with
  | zero => intro i j _ hj; simp [knd] at hj
  | succ n ih =>
    intro i j hij hj
    simp only [knd] at hj ⊢
    split at hj
    · rename_i he
      rw [if_pos he]
      simp only [List.length_append, List.length_singleton] at hj
      rw [getD_app, getD_app, if_pos (by omega)]
      by_cases hjl : j < (knd r n).2.length
      · rw [if_pos hjl]; exact ih i j hij hjl
      · rw [if_neg hjl]
        obtain rfl : j = (knd r n).2.length := by omega
        rw [Nat.sub_self]
        simp only [List.getD_cons_zero]
        exact plc_ne r (by omega)
    · rename_i he
      rw [if_neg he]
      exact ih i j hij hj

/-- Of the same kind just if they are alike. -/
theorem knd_iff (r : Nat → α) (n : Nat) {a b : Nat} (ha : a < n) (hb : b < n) : (knd r n).1.getD a 0 = (knd r n).1.getD b 0 ↔ r a = r b := by
  obtain ⟨a1, a2⟩ := knd_like r n a ha
  obtain ⟨b1, b2⟩ := knd_like r n b hb
  constructor
  · intro h; rw [← a2, ← b2, h]
  · intro h
    rcases Nat.lt_trichotomy ((knd r n).1.getD a 0) ((knd r n).1.getD b 0) with h1 | h1 | h1
    · exact absurd (by rw [a2, b2, h]) (knd_diff r n _ _ h1 b1)
    · exact h1
    · exact absurd (by rw [a2, b2, h]) (knd_diff r n _ _ h1 a1)

/-- What is like an earlier one has its kind. -/
theorem knd_again (r : Nat → α) (n : Nat) {k : Nat} (hk : k < n) {y : Nat} (h : r k = r y) : plc r (knd r n).2 y = (knd r n).1.getD k 0 := by
  obtain ⟨h1, h2⟩ := knd_like r n k hk
  refine plc_eq r (by omega) (fun j hj => ?_) (fun _ => by rw [h2, h])
  rw [← h, ← h2]
  exact knd_diff r n _ _ hj h1
theorem knd_new (r : Nat → α) (n : Nat) {y : Nat} (h : ∀ j, j < n → r j ≠ r y) : plc r (knd r n).2 y = (knd r n).2.length := by
  refine plc_eq r (Nat.le_refl _) (fun j hj => ?_) (fun h => absurd h (by omega))
  exact h _ (knd_first r n _ (by rw [List.getD_eq_getElem?_getD, List.getElem?_eq_getElem hj]; exact List.getElem_mem hj))

/-- Kinds hang on what is alike alone. -/
theorem knd_congr (r : Nat → α) (r' : Nat → β) (n : Nat) (h : ∀ a b, a < n → b < n → (r a = r b ↔ r' a = r' b)) : knd r n = knd r' n := by
  induction n with
  | zero => rfl
  | succ n ih =>
    have e := ih fun a b ha hb => h a b (by omega) (by omega)
    have hp : plc r (knd r n).2 n = plc r' (knd r n).2 n := by
      unfold plc
      have hf := knd_first r n
      generalize (knd r n).2 = fs at hf
      induction fs with
      | nil => rfl
      | cons f fs ihf =>
        have h1 : decide (r f = r n) = decide (r' f = r' n) := by
          have := h f n (by have := hf f (by simp); omega) (by omega)
          simp only [this]
        rw [List.findIdx_cons, List.findIdx_cons, h1, ihf fun x hx => hf x (by simp [hx])]
    simp only [knd, ← e, hp]

/-- No more kinds than values. -/
theorem knd_card (r : Nat → α) (n : Nat) (c : Nat → Nat) (m : Nat) (hc : ∀ y, y < n → c y < m) (hr : ∀ a b, a < n → b < n → c a = c b → r a = r b) : (knd r n).2.length ≤ m := by
  have h1 : ((knd r n).2.map c).Nodup := by
    rw [List.nodup_iff_pairwise_ne, List.pairwise_iff_getElem]
    intro i j hi hj hij he
    simp only [List.length_map] at hi hj
    simp only [List.getElem_map] at he
    have hd := knd_diff r n i j hij hj
    simp only [List.getD_eq_getElem?_getD, List.getElem?_eq_getElem hi, List.getElem?_eq_getElem hj, Option.getD_some] at hd
    exact hd (hr _ _ (knd_first r n _ (List.getElem_mem hi)) (knd_first r n _ (List.getElem_mem hj)) he)
  have h2 : ∀ x ∈ (knd r n).2.map c, x < m := by
    intro x hx
    obtain ⟨f, hf, rfl⟩ := List.mem_map.1 hx
    exact hc f (knd_first r n f hf)
  have h3 := nodup_lt m _ h1 h2
  simpa using h3

/-- Where there are as many kinds as there can be, each value comes. -/
theorem knd_succ_le (r : Nat → α) (n : Nat) : (knd r n).2.length ≤ (knd r (n + 1)).2.length := by
  simp only [knd]; split <;> simp

end
end Go.Proofs.Ytefhmecaoefpbaa
