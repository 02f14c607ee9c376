/- Chapter 21: valid sleyings, plainly. -/
namespace Go.Proofs.Ytofmbeakbenncaa

theorem take_sum (l : List Int) (k : Nat) (hk : k < l.length) : (l.take (k + 1)).sum = (l.take k).sum + l.getD k 0 := by
  rw [List.take_add_one, List.sum_append]; simp [hk]

/-- No number is below 0. -/
def nn (l : List Int) : Prop := ∀ k, k < l.length → 0 ≤ l.getD k 0
theorem nn_mem {l : List Int} : nn l ↔ ∀ x ∈ l, 0 ≤ x := by
  constructor
  · intro h x hx
    obtain ⟨k, hk, rfl⟩ := List.mem_iff_getElem.1 hx
    have := h k hk; simpa [hk] using this
  · intro h k hk
    have := h l[k] (List.getElem_mem hk); simpa [hk] using this

theorem sum_nn {l : List Int} (h : nn l) : 0 ≤ l.sum := by
  rw [nn_mem] at h
  induction l with
  | nil => simp
  | cons x l ih => simp at h ⊢; have := ih h.2; omega

theorem take_nn {l : List Int} (h : nn l) (k : Nat) : nn (l.take k) := by
  rw [nn_mem] at h ⊢
  exact fun x hx => h x (List.mem_of_mem_take hx)

theorem take_sum_le {l : List Int} (h : nn l) (k : Nat) : (l.take k).sum ≤ l.sum := by
  have e : l.sum = (l.take k).sum + (l.drop k).sum := by rw [← List.sum_append, List.take_append_drop]
  have : nn (l.drop k) := by
    rw [nn_mem] at h ⊢
    exact fun x hx => h x (List.mem_of_mem_drop hx)
  have := sum_nn this
  omega

theorem get_le_sum {l : List Int} (h : nn l) (k : Nat) (hk : k < l.length) : l.getD k 0 ≤ l.sum := by
  have h1 := take_sum_le h (k + 1)
  have h2 := sum_nn (take_nn h k)
  rw [take_sum l k hk] at h1
  omega

/-- A sleying. -/
def okS (l : List Int) : Prop := 1 ≤ l.length ∧ l.length ≤ 4000 ∧ nn l ∧ l.sum ≤ 4000
open Classical in
noncomputable def chk (l : List Int) : Int := if okS l then 0 else 8
theorem chk_ok {l : List Int} (h : okS l) : chk l = 0 := by simp [chk, h]
theorem chk_bad {l : List Int} (h : ¬ okS l) : chk l = 8 := by simp [chk, h]


/-- End e is in dent d. -/
def IsDent (l : List Int) (e : Int) (d : Nat) : Prop := d < l.length ∧ (l.take d).sum ≤ e ∧ e < (l.take (d + 1)).sum

theorem take_mono {l : List Int} (h : nn l) {a b : Nat} (hab : a ≤ b) : (l.take a).sum ≤ (l.take b).sum := by
  have := take_sum_le (take_nn h b) a
  rwa [List.take_take, Nat.min_eq_left hab] at this

theorem dent_ex {l : List Int} {e : Int} (h0 : 0 ≤ e) (h1 : e < l.sum) : ∃ d, IsDent l e d := by
  have key : ∀ n, n ≤ l.length → e < (l.take n).sum → ∃ d, IsDent l e d := by
    intro n
    induction n with
    | zero => intro _ h2; simp at h2; omega
    | succ n ih =>
      intro hn h2
      by_cases h3 : e < (l.take n).sum
      · exact ih (by omega) h3
      · exact ⟨n, by omega, by omega, h2⟩
  exact key l.length (Nat.le_refl _) (by rwa [List.take_length])

end Go.Proofs.Ytofmbeakbenncaa
