/- Double cloths: twins, inverses, mirrors. -/
import Derived.Test.YtcconjlcjinfkaaDoorE4
set_option linter.unusedSimpArgs false
set_option linter.unusedVariables false
set_option maxRecDepth 100000
namespace Go.Proofs.YtcconjlcjinfkaaDoor
open Go Go.Proofs Go.AW

/-- The first k cells are made anew. -/
def updTo (f : Nat → Bool) (l : List Bool) (k : Nat) : List Bool := (List.range l.length).map fun i => if i < k then f i else l.getD i false
theorem updTo_len (f : Nat → Bool) (l : List Bool) (k : Nat) : (updTo f l k).length = l.length := by simp [updTo]
theorem updTo_zero (f : Nat → Bool) (l : List Bool) : updTo f l 0 = l := by
  apply List.ext_getElem
  · simp [updTo]
  · intro i h1 h2; simp [updTo, List.getD_eq_getElem?_getD, h2]
theorem updTo_get (f : Nat → Bool) (l : List Bool) {k : Nat} (hk : k < l.length) : (updTo f l k).getD k false = l.getD k false := by
  simp [updTo, List.getD_eq_getElem?_getD, List.getElem?_range hk]
theorem updTo_set (f : Nat → Bool) (l : List Bool) (k : Nat) : (updTo f l k).set k (f k) = updTo f l (k + 1) := by
  apply List.ext_getElem
  · simp [updTo]
  · intro i h1 h2
    rw [List.getElem_set]
    simp only [updTo, List.getElem_map, List.getElem_range]
    by_cases hi : k = i
    · subst hi; rw [if_pos rfl, if_pos (by omega)]
    · rw [if_neg hi]
      by_cases hk : i < k
      · rw [if_pos hk, if_pos (by omega)]
      · rw [if_neg hk, if_neg (by omega)]
theorem updTo_skip (f : Nat → Bool) (l : List Bool) {k : Nat} (h : f k = l.getD k false) : updTo f l k = updTo f l (k + 1) := by
  apply List.map_congr_left
  intro i _
  by_cases hi : i = k
  · subst hi; rw [if_neg (by omega), if_pos (by omega), h]
  · by_cases hk : i < k
    · rw [if_pos hk, if_pos (by omega)]
    · rw [if_neg hk, if_neg (by omega)]
theorem updTo_tab (f : Nat → Bool) {l : List Bool} {W H : Nat} (hn : l.length = W * H) : updTo f l l.length = tabN W (fun x y => f (W * y + x)) (W * H) := by
  unfold updTo tabN
  rw [hn]
  apply List.map_congr_left
  intro i hi
  have hi' : i < W * H := by simpa using hi
  rw [if_pos hi']
  simp only [Nat.div_add_mod]
theorem cell_nat (W : Nat) (l : List Bool) (x y : Nat) : cell W l x y = l.getD (W * y + x) false := by
  rw [cell, idx_nat]

/-- A cell of the back. -/
def uB (W : Nat) (l : List Bool) (x y : Nat) : Bool := !cell W l ((W - 1 - x : Nat) : Int) y
end Go.Proofs.YtcconjlcjinfkaaDoor
