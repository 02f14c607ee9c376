/- A search, step by step. -/
import Derived.Test.YtefhmecaoefpbaaNO5
set_option linter.unusedSimpArgs false
set_option linter.unusedVariables false
set_option maxRecDepth 100000
namespace Go.Proofs.Ytefhmecaoefpbaa
open Go Go.Proofs Go.AW

/-- The threads next to c, one after the other, are reached from it, if they are not yet. -/
def inner (c : Nat) : List Nat → List Int × List Nat → List Int × List Nat
  | [], s => s
  | b :: r, s => if s.1.getD b 0 < 0 then inner c r (s.1.set b (s.1.getD c 0 + 1), s.2 ++ [b]) else inner c r s
/-- The queue is emptied. -/
def bfs (adj : Nat → List Nat) : Nat → List Int → List Nat → List Int
  | 0, far, _ => far
  | _ + 1, far, [] => far
  | k + 1, far, c :: q => bfs adj k (inner c (adj c) (far, q)).1 (inner c (adj c) (far, q)).2
def neg (far : List Int) : Nat := far.countP fun x => decide (x < 0)
/-- What holds all along. -/
structure Sound (n : Nat) (far : List Int) (q : List Nat) : Prop where
  len : far.length = n
  mem : ∀ c ∈ q, c < n
  low : ∀ i, i < n → -1 ≤ far.getD i 0
  high : ∀ i, i < n → far.getD i 0 + neg far ≤ n
theorem neg_set {far : List Int} {b : Nat} {v : Int} (hb : b < far.length) (h : far.getD b 0 < 0) (hv : 0 ≤ v) : neg (far.set b v) + 1 = neg far := by
  induction far generalizing b with
  | nil => simp at hb
  | cons x r ih =>
    cases b with
    | zero =>
      simp only [List.getD_cons_zero] at h
      simp only [neg, List.set_cons_zero, List.countP_cons]
      simp [h, Int.not_lt.2 hv]
    | succ b =>
      have := ih (b := b) (by simpa using hb) (by simpa using h)
      simp only [neg, List.set_cons_succ, List.countP_cons] at this ⊢
      omega
theorem getD_set' {far : List Int} {b i : Nat} {v : Int} (hb : b < far.length) : (far.set b v).getD i 0 = if i = b then v else far.getD i 0 := by
  simp only [List.getD_eq_getElem?_getD, List.getElem?_set]
  by_cases h : b = i
  · subst h; simp [hb]
  · simp [h, Ne.symm h]
theorem Sound.push {n : Nat} {far : List Int} {q : List Nat} (h : Sound n far q) {b c : Nat} (hb : b < n) (hc : c < n) (hn : far.getD b 0 < 0) : Sound n (far.set b (far.getD c 0 + 1)) (q ++ [b]) ∧ neg (far.set b (far.getD c 0 + 1)) + 1 = neg far := by
  have hbl : b < far.length := by rw [h.len]; exact hb
  have h1 := h.low c hc
  have h2 := h.high c hc
  have h3 := neg_set hbl hn (show 0 ≤ far.getD c 0 + 1 by omega)
  refine ⟨⟨by rw [List.length_set]; exact h.len, fun x hx => ?_, fun i hi => ?_, fun i hi => ?_⟩, h3⟩
  · rcases List.mem_append.1 hx with g | g
    · exact h.mem x g
    · simp at g; omega
  · rw [getD_set' hbl]
    have := h.low i hi
    split <;> omega
  · rw [getD_set' hbl]
    have := h.high i hi
    split <;> omega
theorem Sound.tail {n : Nat} {far : List Int} {c : Nat} {q : List Nat} (h : Sound n far (c :: q)) : Sound n far q := ⟨h.len, fun x hx => h.mem x (List.mem_cons_of_mem _ hx), h.low, h.high⟩
theorem inner_ok {n : Nat} {c : Nat} (hc : c < n) : ∀ (adj : List Nat) (far : List Int) (q : List Nat), (∀ b ∈ adj, b < n) → Sound n far q → Sound n (inner c adj (far, q)).1 (inner c adj (far, q)).2 ∧ 2 * neg (inner c adj (far, q)).1 + (inner c adj (far, q)).2.length ≤ 2 * neg far + q.length
  | [], far, q, _, h => ⟨h, Nat.le_refl _⟩
  | b :: r, far, q, ha, h => by
    have ha' : ∀ x ∈ r, x < n := fun x hx => ha x (List.mem_cons_of_mem _ hx)
    simp only [inner]
    split
    · rename_i hneg
      obtain ⟨h1, h2⟩ := h.push (ha b List.mem_cons_self) hc hneg
      obtain ⟨h3, h4⟩ := inner_ok hc r _ _ ha' h1
      refine ⟨h3, ?_⟩
      simp only [List.length_append, List.length_singleton] at h4
      omega
    · exact inner_ok hc r far q ha' h
theorem bfs_nil (adj : Nat → List Nat) (k : Nat) (far : List Int) : bfs adj k far [] = far := by cases k <;> rfl
/-- More fuel than wanted changes nothing. -/
theorem bfs_more {n : Nat} {adj : Nat → List Nat} (ha : ∀ c, c < n → ∀ b ∈ adj c, b < n) : ∀ (k m : Nat) (far : List Int) (q : List Nat), Sound n far q → 2 * neg far + q.length ≤ k → k ≤ m → bfs adj m far q = bfs adj k far q := by
  intro k
  induction k with
  | zero =>
    intro m far q h hk hm
    have : q = [] := List.eq_nil_of_length_eq_zero (by omega)
    subst this
    rw [bfs_nil, bfs_nil]
  | succ k ih =>
    intro m far q h hk hm
    cases q with
    | nil => rw [bfs_nil, bfs_nil]
    | cons c q =>
      obtain ⟨m, rfl⟩ : ∃ m', m = m' + 1 := ⟨m - 1, by omega⟩
      have hc := h.mem c List.mem_cons_self
      obtain ⟨h1, h2⟩ := inner_ok hc (adj c) far q (ha c hc) h.tail
      simp only [List.length_cons] at hk
      simp only [bfs]
      exact ih m _ _ h1 (by omega) (by omega)
/-- All are far, but one. -/
def far0 (n a : Nat) : List Int := (List.replicate n (-1)).set a 0
theorem far0_sound {n a : Nat} (ha : a < n) : Sound n (far0 n a) [a] ∧ neg (far0 n a) + 1 = n := by
  have h0 : neg (List.replicate n (-1)) = n := by simp [neg, List.countP_replicate]
  have h1 : (List.replicate n (-1 : Int)).getD a 0 = -1 := by simp [List.getD_eq_getElem?_getD, List.getElem?_replicate, ha]
  have h2 := neg_set (far := List.replicate n (-1)) (b := a) (v := 0) (by simpa using ha) (by rw [h1]; omega) (by omega)
  rw [h0] at h2
  refine ⟨⟨by simp [far0], fun c hc => by simp at hc; omega, fun i hi => ?_, fun i hi => ?_⟩, h2⟩
  · unfold far0
    rw [getD_set' (by simpa using ha)]
    split
    · omega
    · simp [List.getD_eq_getElem?_getD, List.getElem?_replicate, hi]
  · have h2' : neg (far0 n a) + 1 = n := h2
    unfold far0 at h2' ⊢
    rw [getD_set' (by simpa using ha)]
    split
    · omega
    · have : (List.replicate n (-1 : Int)).getD i 0 = -1 := by simp [List.getD_eq_getElem?_getD, List.getElem?_replicate, hi]
      omega
end Go.Proofs.Ytefhmecaoefpbaa
