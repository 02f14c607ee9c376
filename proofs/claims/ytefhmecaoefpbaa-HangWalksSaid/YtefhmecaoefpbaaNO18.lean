/- What the search says: each thread that is reached has a next one that is nearer. -/
import Derived.Test.YtefhmecaoefpbaaNO17
set_option linter.unusedSimpArgs false
set_option linter.unusedVariables false
set_option maxRecDepth 100000
namespace Go.Proofs.Ytefhmecaoefpbaa
open Go Go.Proofs Go.AW

/-- What holds all along, of the ways. -/
structure Near (n a : Nat) (adj : Nat → List Nat) (far : List Int) (q : List Nat) : Prop where
  q0 : ∀ c ∈ q, 0 ≤ far.getD c 0
  one : ∀ x, x < n → far.getD x 0 = 0 → x = a
  zero : far.getD a 0 = 0
  next : ∀ x, x < n → 0 < far.getD x 0 → ∃ c, c < n ∧ far.getD c 0 = far.getD x 0 - 1 ∧ x ∈ adj c
theorem Near.push {n a : Nat} {adj : Nat → List Nat} {far : List Int} {q : List Nat} (h : Near n a adj far q) (hs : far.length = n) {b c : Nat} (hb : b < n) (hc : c < n) (hc0 : 0 ≤ far.getD c 0) (hn : far.getD b 0 < 0) (hadj : b ∈ adj c) : Near n a adj (far.set b (far.getD c 0 + 1)) (q ++ [b]) := by
  have hbl : b < far.length := by omega
  refine ⟨fun x hx => ?_, fun x hx h0 => ?_, ?_, fun x hx h0 => ?_⟩
  · rw [getD_set' hbl]
    split
    · omega
    · rcases List.mem_append.1 hx with g | g
      · exact h.q0 x g
      · rename_i hne
        exact absurd (by simpa using g) hne
  · rw [getD_set' hbl] at h0
    split at h0
    · omega
    · exact h.one x hx h0
  · rw [getD_set' hbl]
    have := h.zero
    rw [if_neg (fun e => by subst e; omega)]
    exact this
  · rw [getD_set' hbl] at h0 ⊢
    by_cases e : x = b
    · subst e
      rw [if_pos rfl] at h0 ⊢
      refine ⟨c, hc, ?_, hadj⟩
      rw [getD_set' hbl, if_neg (fun e => by subst e; omega)]
      omega
    · rw [if_neg e] at h0 ⊢
      obtain ⟨d, h1, h2, h3⟩ := h.next x hx h0
      refine ⟨d, h1, ?_, h3⟩
      rw [getD_set' hbl, if_neg (fun e => by subst e; omega)]
      exact h2
theorem inner_near {n a : Nat} {adj : Nat → List Nat} {c : Nat} (hc : c < n) : ∀ (ds : List Nat) (far : List Int) (q : List Nat), (∀ b ∈ ds, b < n ∧ b ∈ adj c) → Sound n far q → 0 ≤ far.getD c 0 → Near n a adj far q → Near n a adj (inner c ds (far, q)).1 (inner c ds (far, q)).2
  | [], far, q, _, _, _, h => h
  | b :: r, far, q, hd, hs, hc0, h => by
    have hd' : ∀ x ∈ r, x < n ∧ x ∈ adj c := fun x hx => hd x (List.mem_cons_of_mem _ hx)
    obtain ⟨hb, hbc⟩ := hd b List.mem_cons_self
    simp only [inner]
    split
    · rename_i hneg
      obtain ⟨h1, h2⟩ := hs.push hb hc hneg
      refine inner_near hc r _ _ hd' h1 ?_ (h.push hs.len hb hc hc0 hneg hbc)
      rw [getD_set' (by rw [hs.len]; exact hb), if_neg (fun e => by subst e; omega)]
      exact hc0
    · exact inner_near hc r far q hd' hs hc0 h
theorem bfs_near {n a : Nat} {adj : Nat → List Nat} (ha : ∀ c, c < n → ∀ b ∈ adj c, b < n) : ∀ (k : Nat) (far : List Int) (q : List Nat), Sound n far q → Near n a adj far q → ∃ q', Near n a adj (bfs adj k far q) q'
  | 0, far, q, _, h => ⟨q, h⟩
  | k + 1, far, [], _, h => ⟨[], h⟩
  | k + 1, far, c :: q, hs, h =>
    have hc := hs.mem c List.mem_cons_self
    bfs_near ha k _ _ (inner_ok hc (adj c) far q (ha c hc) hs.tail).1
      (inner_near hc (adj c) far q (fun b hb => ⟨ha c hc b hb, hb⟩) hs.tail (h.q0 c List.mem_cons_self) ⟨fun x hx => h.q0 x (List.mem_cons_of_mem _ hx), h.one, h.zero, h.next⟩)
theorem srch_near {W n : Nat} (l : List Bool) {a : Nat} (ha : a < n) : ∃ q, Near n a (adjT W n l) (srch (adjT W n l) (far0 n a) [a]) q := by
  refine bfs_near (fun c hc x hx => adjT_lt hx) _ _ _ (far0_sound ha).1 ?_
  have hl : a < (List.replicate n (-1 : Int)).length := by simpa using ha
  have hrep : ∀ x, x < n → (List.replicate n (-1 : Int)).getD x 0 = -1 := fun x hx => by simp [List.getD_eq_getElem?_getD, List.getElem?_replicate, hx]
  unfold far0
  refine ⟨fun x hx => ?_, fun x hx h0 => ?_, ?_, fun x hx h0 => ?_⟩
  · rw [getD_set' hl, if_pos (by simpa using hx)]; omega
  · rw [getD_set' hl] at h0
    by_cases e : x = a
    · exact e
    · rw [if_neg e, hrep x hx] at h0; omega
  · rw [getD_set' hl, if_pos rfl]
  · rw [getD_set' hl] at h0
    by_cases e : x = a
    · rw [if_pos e] at h0; omega
    · rw [if_neg e, hrep x hx] at h0; omega
end Go.Proofs.Ytefhmecaoefpbaa
