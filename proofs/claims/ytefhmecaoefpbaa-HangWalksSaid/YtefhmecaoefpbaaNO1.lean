/- Which threads lie over which: lists of rows that grow. -/
import Derived.Test.YtefhmecaoefpbaaD3
set_option linter.unusedSimpArgs false
set_option linter.unusedVariables false
set_option maxRecDepth 100000
namespace Go.Proofs.Ytefhmecaoefpbaa
open Go Go.Proofs Go.AW

/-- Growing rows in slots; their objects from the k-th on. -/
def gws (k : Nat) (rs : List (List Int)) : List AVal := rs.mapIdx fun a r => gw true (k + a) (ints r)
def gos (rs : List (List Int)) : List AObj := rs.map fun r => go 3 (ints r)
theorem gws_len (k : Nat) (rs : List (List Int)) : (gws k rs).length = rs.length := by simp [gws]
theorem gos_len (rs : List (List Int)) : (gos rs).length = rs.length := by simp [gos]
theorem gws_at {k : Nat} {rs : List (List Int)} {a : Nat} (ha : a < rs.length) : ((gws k rs).drop a)[0]? = some (gw true (k + a) (ints (rs.getD a []))) := by
  rw [List.getElem?_drop, Nat.add_zero, gws, List.getElem?_mapIdx, List.getElem?_eq_getElem ha, List.getD_eq_getElem?_getD, List.getElem?_eq_getElem ha]; rfl
theorem gws_set (k : Nat) (rs : List (List Int)) (a : Nat) (r : List Int) : (gws k rs).set a (gw true (k + a) (ints r)) = gws k (rs.set a r) := by
  apply List.ext_getElem
  · simp [gws]
  intro i h1 h2
  rw [List.getElem_set]
  simp only [gws, List.getElem_mapIdx, List.getElem_set]
  by_cases h : a = i
  · subst h; simp
  · simp [h]
theorem gos_at {rs : List (List Int)} {a : Nat} (ha : a < rs.length) : (gos rs)[a]? = some (go 3 (ints (rs.getD a []))) := by
  rw [gos, List.getElem?_map, List.getElem?_eq_getElem ha, List.getD_eq_getElem?_getD, List.getElem?_eq_getElem ha]; rfl
theorem gos_set (rs : List (List Int)) (a : Nat) (r : List Int) : (gos rs).set a (go 3 (ints r)) = gos (rs.set a r) := by simp [gos, List.map_set]

section
variable {o0 o1 o2 o3 o4 : AObj} {rB rA : List (List Int)} {n a : Nat}
theorem h5_atB (ha : a < rB.length) : (o0 :: o1 :: o2 :: o3 :: o4 :: (gos rB ++ gos rA))[5 + a]? = some (go 3 (ints (rB.getD a []))) := by
  rw [show 5 + a = a + 5 by omega]
  simp only [List.getElem?_cons_succ]
  rw [List.getElem?_append_left (by rw [gos_len]; exact ha), gos_at ha]
theorem h5_atA (hn : rB.length = n) (ha : a < rA.length) : (o0 :: o1 :: o2 :: o3 :: o4 :: (gos rB ++ gos rA))[5 + n + a]? = some (go 3 (ints (rA.getD a []))) := by
  rw [show 5 + n + a = n + a + 5 by omega]
  simp only [List.getElem?_cons_succ]
  rw [List.getElem?_append_right (by rw [gos_len]; omega), gos_len, hn, show n + a - n = a by omega, gos_at ha]
theorem h5_setB (ha : a < rB.length) (r : List Int) : (o0 :: o1 :: o2 :: o3 :: o4 :: (gos rB ++ gos rA)).set (5 + a) (go 3 (ints r)) = o0 :: o1 :: o2 :: o3 :: o4 :: (gos (rB.set a r) ++ gos rA) := by
  rw [show 5 + a = a + 5 by omega]
  simp only [List.set_cons_succ]
  rw [List.set_append_left _ _ (by rw [gos_len]; exact ha), gos_set]
theorem h5_setA (hn : rB.length = n) (r : List Int) : (o0 :: o1 :: o2 :: o3 :: o4 :: (gos rB ++ gos rA)).set (5 + n + a) (go 3 (ints r)) = o0 :: o1 :: o2 :: o3 :: o4 :: (gos rB ++ gos (rA.set a r)) := by
  rw [show 5 + n + a = n + a + 5 by omega]
  simp only [List.set_cons_succ]
  rw [List.set_append_right _ _ (by rw [gos_len]; omega), gos_len, hn, show n + a - n = a by omega, gos_set]
end

theorem WL_nil : ∀ (m k : Nat) (f : Nat → Nat), WL (List.replicate m (.cap0 true)) ((List.range m).map fun a => .res (f (k + a)))
  | 0, k, f => .nil
  | m + 1, k, f => by
    rw [List.replicate_succ, List.range_succ_eq_map, List.map_cons, List.map_map]
    refine .cons (.nil _) ?_
    have := WL_nil m (k + 1) f
    have e : ((fun a => AVal.res (f (k + a))) ∘ Nat.succ) = fun a => .res (f (k + 1 + a)) := by funext a; simp only [Function.comp]; congr 2; omega
    rw [e]; exact this
theorem gws_nil (k m : Nat) : gws k (List.replicate m []) = (List.range m).map fun a => .res (k + a) := by
  apply List.ext_getElem
  · simp [gws]
  intro i h1 h2
  simp [gws, gw, ints]
theorem WL_gws (k m : Nat) : WL (List.replicate m (.cap0 true)) (gws k (List.replicate m [])) := by
  rw [gws_nil]
  have := WL_nil m 0 (fun a => k + a)
  simpa using this
theorem gos_nil (m : Nat) : ∀ o ∈ gos (List.replicate m []), o.es = 0 := by
  intro o ho
  simp only [gos, List.mem_map] at ho
  obtain ⟨r, hr, rfl⟩ := ho
  rw [(List.mem_replicate.1 hr).2]; rfl

/-- What lies under a thread (v), or over it (not v), of what has been looked at: x columns, and y cells of the next one. -/
def rowG (v : Bool) (W H : Nat) (l : List Bool) (x y a : Nat) : List Int :=
  if a < W then ((List.range (if a < x then H else if a = x then y else 0)).filter fun j => l.getD (W * j + a) false == v).map fun j => ((W + j : Nat) : Int)
  else ((List.range (if a - W < y then x + 1 else x)).filter fun i => l.getD (W * (a - W) + i) false == !v).map fun i : Nat => (i : Int)
def rowsG (v : Bool) (W H : Nat) (l : List Bool) (x y : Nat) : List (List Int) := (List.range (W + H)).map (rowG v W H l x y)
theorem rowsG_len (v : Bool) (W H : Nat) (l : List Bool) (x y : Nat) : (rowsG v W H l x y).length = W + H := by simp [rowsG]
theorem rowsG_get {v : Bool} {W H : Nat} {l : List Bool} {x y a : Nat} (ha : a < W + H) : (rowsG v W H l x y).getD a [] = rowG v W H l x y a := by
  simp [rowsG, List.getD_eq_getElem?_getD, List.getElem?_range ha]
theorem rowG_le {v : Bool} {W H : Nat} {l : List Bool} {x y a : Nat} (hx : x < W) (hy : y < H) : (rowG v W H l x y a).length ≤ W + H := by
  unfold rowG
  split
  · rw [List.length_map]
    refine Nat.le_trans (List.length_filter_le _ _) ?_
    rw [List.length_range]
    split
    · omega
    · split <;> omega
  · rw [List.length_map]
    refine Nat.le_trans (List.length_filter_le _ _) ?_
    rw [List.length_range]
    split <;> omega
theorem rowG_inc (v : Bool) (W H : Nat) (l : List Bool) (x y a : Nat) : (rowG v W H l x y a).Pairwise (· < ·) := by
  unfold rowG
  split
  · rw [List.pairwise_map]
    refine (List.Pairwise.filter _ List.pairwise_lt_range).imp fun h => by omega
  · rw [List.pairwise_map]
    refine (List.Pairwise.filter _ List.pairwise_lt_range).imp fun h => by omega
theorem rowG_end {v : Bool} {W H : Nat} {l : List Bool} {a : Nat} (hW : W ≤ 64) (hH : H ≤ 64) : (rowG v W H l W 0 a).length ≤ 200 := by
  unfold rowG
  split
  · rw [List.length_map]
    refine Nat.le_trans (List.length_filter_le _ _) ?_
    rw [List.length_range]
    repeat' split
    all_goals omega
  · rw [List.length_map]
    refine Nat.le_trans (List.length_filter_le _ _) ?_
    rw [List.length_range]
    repeat' split
    all_goals omega
theorem rowsG_zero (v : Bool) (W H : Nat) (l : List Bool) : rowsG v W H l 0 0 = List.replicate (W + H) [] := by
  apply List.ext_getElem
  · simp [rowsG]
  intro a h1 h2
  simp [rowsG, rowG]
theorem rowsG_row (v : Bool) (W H : Nat) (l : List Bool) (x : Nat) : rowsG v W H l x H = rowsG v W H l (x + 1) 0 := by
  unfold rowsG
  apply List.map_congr_left
  intro a ha
  have ha : a < W + H := by simpa using ha
  unfold rowG
  by_cases h : a < W
  · rw [if_pos h, if_pos h]
    congr 2
    by_cases h1 : a < x
    · rw [if_pos h1, if_pos (by omega)]
    · rw [if_neg h1]
      by_cases h2 : a = x
      · rw [if_pos h2, if_pos (by omega)]
      · rw [if_neg h2, if_neg (by omega)]; split <;> rfl
  · rw [if_neg h, if_neg h, if_pos (by omega), if_neg (by omega)]
theorem rowsG_step (v : Bool) {W H : Nat} (l : List Bool) {x y : Nat} (hx : x < W) (hy : y < H) (b : Bool) (hb : l.getD (W * y + x) false = b) :
    rowsG v W H l x (y + 1) = (rowsG v W H l x y).set (if b = v then x else W + y) (rowG v W H l x y (if b = v then x else W + y) ++ [if b = v then ((W + y : Nat) : Int) else (x : Int)]) := by
  apply List.ext_getElem
  · simp [rowsG]
  intro a h1 h2
  have ha : a < W + H := by rw [rowsG_len] at h1; exact h1
  rw [List.getElem_set]
  simp only [rowsG, List.getElem_map, List.getElem_range]
  have e1 : a = x → rowG v W H l x (y + 1) a = if b = v then rowG v W H l x y a ++ [((W + y : Nat) : Int)] else rowG v W H l x y a := by
    rintro rfl
    have g2 : ¬ a < a := by omega
    simp only [rowG, if_pos hx, if_neg g2, if_true, List.range_succ, List.filter_append, List.map_append, List.filter_cons, List.filter_nil, hb]
    by_cases hv : b = v
    · subst hv; simp
    · have : (b == v) = false := by simpa using hv
      simp [this, hv]
  have e2 : a = W + y → rowG v W H l x (y + 1) a = if b = v then rowG v W H l x y a else rowG v W H l x y a ++ [(x : Int)] := by
    rintro rfl
    have g1 : ¬ W + y < W := by omega
    have e3 : W + y - W = y := by omega
    have g2 : y < y + 1 := by omega
    have g3 : ¬ y < y := by omega
    simp only [rowG, if_neg g1, e3, if_pos g2, if_neg g3, List.range_succ, List.filter_append, List.map_append, List.filter_cons, List.filter_nil, hb]
    by_cases hv : b = v
    · subst hv; cases b <;> simp
    · have : b = !v := by cases b <;> cases v <;> simp_all
      subst this
      simp
  have e3 : a ≠ x → a ≠ W + y → rowG v W H l x (y + 1) a = rowG v W H l x y a := by
    intro g1 g2
    unfold rowG
    by_cases h : a < W
    · rw [if_pos h, if_pos h, if_neg g1, if_neg g1]
    · rw [if_neg h, if_neg h]
      congr 3
      by_cases h3 : a - W < y
      · rw [if_pos h3, if_pos (by omega)]
      · rw [if_neg h3, if_neg (by omega)]
  by_cases hv : b = v
  · simp only [if_pos hv] at *
    by_cases g : x = a
    · rw [if_pos g, e1 g.symm, g]
    · rw [if_neg g]
      by_cases g2 : a = W + y
      · exact e2 g2
      · exact e3 (fun h => g h.symm) g2
  · simp only [if_neg hv] at *
    by_cases g : W + y = a
    · rw [if_pos g, e2 g.symm, g]
    · rw [if_neg g]
      by_cases g2 : a = x
      · exact e1 g2
      · exact e3 g2 (fun h => g h.symm)
end Go.Proofs.Ytefhmecaoefpbaa
