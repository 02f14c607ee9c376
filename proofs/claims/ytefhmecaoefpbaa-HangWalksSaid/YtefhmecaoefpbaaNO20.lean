/- A cloth that hangs together: every way is there. The walk, plain. -/
import Derived.Test.YtefhmecaoefpbaaNO19
set_option linter.unusedSimpArgs false
set_option linter.unusedVariables false
set_option maxRecDepth 100000
namespace Go.Proofs.Ytefhmecaoefpbaa
open Go Go.Proofs Go.AW

theorem upN_all {far : List Int} : ∀ {n : Nat}, (upN far n).length = n → ∀ i, i < n → 0 ≤ far.getD i 0 := by
  intro n
  induction n with
  | zero => intro _ i hi; omega
  | succ n ih =>
    intro h i hi
    have hle := upN_le far n
    simp only [upN] at h
    split at h
    · rename_i h0
      simp only [List.length_append, List.length_singleton] at h
      by_cases e : i = n
      · subst e; exact h0
      · exact ih (by omega) i (by omega)
    · omega
theorem best_least (W n : Nat) (l : List Bool) : ∀ k j, j ≤ k → (best W n l k).length ≤ (upon W n l j).length := by
  intro k
  induction k with
  | zero => intro j hj; obtain rfl : j = 0 := by omega
            exact Nat.le_refl _
  | succ k ih =>
    intro j hj
    simp only [best]
    by_cases e : j = k + 1
    · subst e
      split
      · exact Nat.le_refl _
      · rename_i h
        unfold less at h
        have := Classical.byContradiction fun hh => h (.inl (Nat.lt_of_not_le hh))
        exact this
    · have := ih j (by omega)
      split
      · rename_i h
        unfold less at h
        rcases h with h | h <;> omega
      · exact this
/-- Where the cloth hangs together, each thread is reached from each. -/
theorem all_near {W n : Nat} (l : List Bool) (hb : (best W n l (n - 1)).length = n) {a x : Nat} (ha : a < n) (hx : x < n) : 0 ≤ (srch (adjT W n l) (far0 n a) [a]).getD x 0 := by
  have h1 := best_least W n l (n - 1) a (by omega)
  have h2 := upon_le W n l a
  exact upN_all (show (upN (srch (adjT W n l) (far0 n a) [a]) n).length = n by show (upon W n l a).length = n; omega) x hx
/-- The way from x to a; the walk over the first k ways. -/
def wayT (W n : Nat) (l : List Bool) (x a : Nat) : List Int := wayL W n l (srch (adjT W n l) (far0 n a) [a]) ((srch (adjT W n l) (far0 n a) [a]).getD x 0).toNat x
theorem wayT_len {W n : Nat} (l : List Bool) {x a : Nat} (ha : a < n) (hx : x < n) : (wayT W n l x a).length ≤ n := by
  unfold wayT
  rw [wayL_len]
  have := (srch_dist (W := W) l ha).high x hx
  omega
theorem wayT_pos {W n : Nat} (l : List Bool) (hb : (best W n l (n - 1)).length = n) {x a : Nat} (ha : a < n) (hx : x < n) (hne : x ≠ a) : 0 < (wayT W n l x a).length := by
  unfold wayT
  rw [wayL_len]
  have h1 := (srch_dist (W := W) l ha).one x hx
  have h2 := all_near (W := W) l hb ha hx
  by_cases e : (srch (adjT W n l) (far0 n a) [a]).getD x 0 = 0
  · exact absurd (h1 e) hne
  · omega
def wk (W n : Nat) (l : List Bool) : Nat → List Int
  | 0 => [0]
  | k + 1 => wk W n l k ++ wayT W n l k ((k + 1) % n)
theorem wk_len {W n : Nat} (l : List Bool) : ∀ k, k ≤ n → (wk W n l k).length ≤ 1 + k * n := by
  intro k
  induction k with
  | zero => intro _; simp [wk]
  | succ k ih =>
    intro hk
    have h1 := ih (by omega)
    have h2 := wayT_len (W := W) (n := n) l (x := k) (a := (k + 1) % n) (Nat.mod_lt _ (by omega)) (by omega)
    simp only [wk, List.length_append]
    rw [Nat.succ_mul]
    omega
theorem way_t {W H n : Nat} (hN : W + H = n) (hW : W ≤ 64) (hH : H ≤ 64) (b : Bool) {l : List Bool} (hn : l.length = W * H) (hb : (best W n l (n - 1)).length = n) {a x : Nat} (ha : a < n) (hx : x < n) :
    Contract Try.prog 38 [GA W H b l, I x, I a] (LR (wayT W n l x a).isEmpty (wayT W n l x a)) :=
  way_c hN hW hH b hn ha hx (all_near l hb ha hx) _ rfl
end Go.Proofs.Ytefhmecaoefpbaa
