/- Which threads lie over which: by one relation. -/
import Derived.Test.YtefhmecaoefpbaaNO2
set_option linter.unusedSimpArgs false
set_option linter.unusedVariables false
set_option maxRecDepth 100000
namespace Go.Proofs.Ytefhmecaoefpbaa
open Go Go.Proofs Go.AW

/-- Thread a lies over thread b. -/
def ov (W : Nat) (l : List Bool) (a b : Nat) : Bool :=
  if a < W then (if b < W then false else l.getD (W * (b - W) + a) false) else (if b < W then !l.getD (W * (a - W) + b) false else false)
/-- The numbers below n that are wanted. -/
def sel (n : Nat) (p : Nat → Bool) : List Int := ((List.range n).filter p).map fun i : Nat => (i : Int)
theorem sel_split (W H : Nat) (p : Nat → Bool) : sel (W + H) p = sel W p ++ ((List.range H).filter fun j => p (W + j)).map fun j => ((W + j : Nat) : Int) := by
  unfold sel
  rw [List.range_add, List.filter_append, List.map_append, List.filter_map, List.map_map]
  rfl
theorem sel_none {n : Nat} {p : Nat → Bool} (h : ∀ i, i < n → p i = false) : sel n p = [] := by
  unfold sel
  rw [List.filter_eq_nil_iff.2 (fun i hi => by rw [h i (by simpa using hi)]; simp)]
  rfl
theorem rowG_sel {v : Bool} {W H : Nat} {l : List Bool} {a : Nat} (ha : a < W + H) : rowG v W H l W 0 a = sel (W + H) fun b => if v then ov W l a b else ov W l b a := by
  rw [sel_split]
  unfold rowG
  by_cases h : a < W
  · rw [if_pos h, if_pos h, sel_none, List.nil_append]
    · congr 1
      apply List.filter_congr
      intro j hj
      have h1 : ¬ W + j < W := by omega
      have h2 : W + j - W = j := by omega
      cases v
      · simp [ov, h, h1, h2]
      · simp [ov, h, h1, h2]
    · intro i hi
      cases v <;> simp [ov, h, hi]
  · rw [if_neg h, if_neg (by omega)]
    have e2 : ((List.range H).filter fun j => if v = true then ov W l a (W + j) else ov W l (W + j) a) = [] := by
      rw [List.filter_eq_nil_iff]
      intro j hj
      have h1 : ¬ W + j < W := by omega
      cases v <;> simp [ov, h, h1]
    rw [e2, List.map_nil, List.append_nil]
    unfold sel
    congr 1
    apply List.filter_congr
    intro i hi
    have hi : i < W := by simpa using hi
    cases v
    · simp [ov, h, hi]
    · simp [ov, h, hi]
/-- Those that a thread lies over, for each thread; those that lie over it. -/
def bel (W n : Nat) (l : List Bool) : List (List Int) := (List.range n).map fun a => sel n fun b => ov W l a b
def abv (W n : Nat) (l : List Bool) : List (List Int) := (List.range n).map fun a => sel n fun b => ov W l b a
theorem rowsG_bel {W H n : Nat} (hN : W + H = n) (l : List Bool) : rowsG true W H l W 0 = bel W n l ∧ rowsG false W H l W 0 = abv W n l := by
  subst hN
  constructor
  · unfold rowsG bel
    apply List.map_congr_left
    intro a ha
    rw [rowG_sel (by simpa using ha)]; rfl
  · unfold rowsG abv
    apply List.map_congr_left
    intro a ha
    rw [rowG_sel (by simpa using ha)]; rfl
theorem order_c {W H n : Nat} (hN : W + H = n) (hW0 : 0 < W) (hH0 : 0 < H) (hW : W ≤ 64) (hH : H ≤ 64) (b : Bool) {l : List Bool} (hn : l.length = W * H) :
    Contract Try.prog 26 [GA W H b l] (.agg [.list true false n (LL (bel W n l)), .list true false n (LL (abv W n l))]) := by
  obtain ⟨h1, h2⟩ := rowsG_bel hN l
  have := newOrder_c hN hW0 hH0 hW hH b hn
  rwa [h1, h2] at this
theorem LL_at {rs : List (List Int)} {a : Nat} (ha : a < rs.length) : ((LL rs).drop a)[0]? = some (LR (rs.getD a []).isEmpty (rs.getD a [])) := by
  rw [List.getElem?_drop, Nat.add_zero, LL, List.getElem?_map, List.getElem?_eq_getElem ha, List.getD_eq_getElem?_getD, List.getElem?_eq_getElem ha]; rfl
theorem bel_get {W n : Nat} {l : List Bool} {a : Nat} (ha : a < n) : (bel W n l).getD a [] = sel n fun b => ov W l a b := by
  simp [bel, List.getD_eq_getElem?_getD, List.getElem?_range ha]
theorem abv_get {W n : Nat} {l : List Bool} {a : Nat} (ha : a < n) : (abv W n l).getD a [] = sel n fun b => ov W l b a := by
  simp [abv, List.getD_eq_getElem?_getD, List.getElem?_range ha]
end Go.Proofs.Ytefhmecaoefpbaa
