/- Double cloths: a double cloth taken apart, by the reference. -/
import Derived.Test.YtcconjlcjinfkaaDoorE8
set_option linter.unusedSimpArgs false
set_option linter.unusedVariables false
set_option maxRecDepth 100000
namespace Go.Proofs.YtcconjlcjinfkaaDoor
open Go Go.Proofs Go.AW

theorem self_tab {W H : Nat} {l : List Bool} (hn : l.length = W * H) : l = tabN W (fun x y => cell W l x y) (W * H) := by
  apply List.ext_getElem
  · rw [tabN_len, hn]
  · intro i h1 h2
    simp only [tabN, List.getElem_map, List.getElem_range, cell_nat, Nat.div_add_mod]
    simp [List.getD_eq_getElem?_getD, h1]
theorem tabN_at (W : Nat) (u : Nat → Nat → Bool) {n k : Nat} (hk : k < n) : (tabN W u n).getD k false = u (k % W) (k / W) := by
  simp [tabN, List.getD_eq_getElem?_getD, List.getElem?_range hk]

theorem fits_iff {W H : Nat} (hW0 : 0 < W) {l : List Bool} (hn : l.length = 2 * W * (2 * H)) :
    fits W H l ↔ tabN (2 * W) (uD W (tabN W (uA W l 0 0) (W * H)) (tabN W (uA W l 1 1) (W * H)) (tabN W (uA W l 0 1) (W * H))) (2 * W * (2 * H)) = l := by
  have c00 : ∀ (a b u v : Nat), u < W → v < H → cell W (tabN W (uA W l a b) (W * H)) u v = uA W l a b u v := fun a b u v hu hv => by
    rw [cell_nat, tabN_get W _ hu (idx_lt hu hv)]
  constructor
  · intro hf
    refine Eq.trans (tabN_congr (v := fun x y => cell ((2 * W : Nat) : Int) l x y) fun x y hx hy => ?_) (self_tab hn).symm
    have hu : x / 2 < W := by omega
    have hv : y / 2 < H := by omega
    by_cases h1 : x % 2 = 0
    · have ex : x = 2 * (x / 2) := by omega
      by_cases h2 : y % 2 = 0
      · have ey : y = 2 * (y / 2) := by omega
        rw [ex, ey, uD_00, c00 _ _ _ _ (by omega) (by omega)]
        simp [uA]
      · have ey : y = 2 * (y / 2) + 1 := by omega
        rw [ex, ey, uD_01, c00 _ _ _ _ (by omega) (by omega)]
        simp [uA]
    · have ex : x = 2 * (x / 2) + 1 := by omega
      by_cases h2 : y % 2 = 0
      · have ey : y = 2 * (y / 2) := by omega
        have hk := hf (W * (y / 2) + x / 2) (idx_lt hu hv)
        rw [tabN_get W _ hu (idx_lt hu hv), tabN_get W _ hu (idx_lt hu hv)] at hk
        rw [ex, ey, uD_10, c00 _ _ _ _ (by omega) (by omega)]
        generalize x / 2 = u at *
        generalize y / 2 = v at *
        have : uA W l 1 0 u v = cell ((2 * W : Nat) : Int) l ((2 * u + 1 : Nat) : Int) ((2 * v : Nat) : Int) := by simp [uA]
        rw [← this]
        revert hk
        cases uA W l 1 0 u v <;> cases uA W l 0 1 u v <;> simp
      · have ey : y = 2 * (y / 2) + 1 := by omega
        rw [ex, ey, uD_11, c00 _ _ _ _ (by omega) (by omega)]
        simp [uA]
  · intro he k hk
    have hu : k % W < W := Nat.mod_lt _ hW0
    have hv : k / W < H := Nat.div_lt_of_lt_mul hk
    rw [tabN_at W _ hk, tabN_at W _ hk]
    generalize k % W = u at *
    generalize k / W = v at *
    have h1 : (tabN (2 * W) (uD W (tabN W (uA W l 0 0) (W * H)) (tabN W (uA W l 1 1) (W * H)) (tabN W (uA W l 0 1) (W * H))) (2 * W * (2 * H))).getD (2 * W * (2 * v) + (2 * u + 1)) false = l.getD (2 * W * (2 * v) + (2 * u + 1)) false := by rw [he]
    rw [tabN_get (2 * W) _ (show 2 * u + 1 < 2 * W by omega) (idx_lt (by omega) (by omega)), uD_10, c00 _ _ _ _ hu hv, ← cell_nat] at h1
    have h2 : uA W l 1 0 u v = cell ((2 * W : Nat) : Int) l ((2 * u + 1 : Nat) : Int) ((2 * v : Nat) : Int) := by simp [uA]
    rw [h2, ← h1]
    cases uA W l 0 1 u v <;> simp

end Go.Proofs.YtcconjlcjinfkaaDoor
