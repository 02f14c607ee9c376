/- Drafts made from lifts: what they weave. -/
import Derived.Test.YtfnbejllakoiiaaF2
set_option linter.unusedSimpArgs false
set_option linter.unusedVariables false
set_option maxRecDepth 100000
namespace Go.Proofs.Ytfnbejllakoiiaa
open Go Go.Proofs Go.AW

/-- The treadling, the firsts, the tie-up. -/
abbrev flK (W H : Nat) (l : List Bool) : List Nat := (knd (rowN W l) H).1
abbrev flF (W H : Nat) (l : List Bool) : List Nat := (knd (rowN W l) H).2
abbrev flT' (W H : Nat) (l : List Bool) : List Bool := tabN (flF W H l).length (uFL W l (flF W H l)) ((flF W H l).length * W)

theorem fl_pos {W H : Nat} (hH : 0 < H) (l : List Bool) : 0 < (flF W H l).length := by
  have h : (flK W H l).getD 0 0 < (flF W H l).length := (knd_like (rowN W l) H 0 hH).1
  omega
theorem fl_win {W H : Nat} (hH : 0 < H) (l : List Bool) : wIn (nI (flK W H l)) (flF W H l).length := by
  have hl : (flK W H l).length = H := knd_len (rowN W l) H
  refine ⟨by rw [nI_len, hl]; exact hH, fun j hj => ?_⟩
  rw [nI_len, hl] at hj
  rw [nI_get]
  have : (flK W H l).getD j 0 < (flF W H l).length := (knd_like (rowN W l) H j hj).1
  omega
theorem fl_cell {W H : Nat} {l : List Bool} {y s : Nat} (hy : y < H) (hs : s < W) : cell (flF W H l).length (flT' W H l) ((nI (flK W H l)).getD y 0) s = l.getD (W * y + s) false := by
  obtain ⟨h1, h2⟩ := knd_like (rowN W l) H y hy
  rw [nI_get]
  show (flT' W H l).getD _ false = _
  rw [idx_nat]
  show (tabN (flF W H l).length (uFL W l (flF W H l)) ((flF W H l).length * W)).getD _ false = _
  rw [tabN_get _ _ h1 (idx_lt h1 hs)]
  exact rowN_eq.1 h2 s hs
theorem fl_weave {W H : Nat} {l : List Bool} {thr : List Int} (ht : wIn thr W) :
    tabN thr.length (uW (flF W H l).length thr (nI (flK W H l)) (flT' W H l)) (thr.length * H) = tabN thr.length (fun x y => l.getD (W * y + (thr.getD x 0).toNat) false) (thr.length * H) := by
  refine tabN_congr fun x y hx hy => ?_
  obtain ⟨a1, a2⟩ := ht.2 x hx
  obtain ⟨a, ha⟩ : ∃ a : Nat, thr.getD x 0 = a := ⟨(thr.getD x 0).toNat, by omega⟩
  unfold uW
  rw [ha, fl_cell hy (by omega), Int.toNat_natCast]
theorem fl_lift {W H : Nat} {l : List Bool} (hn : l.length = W * H) : tabN W (uL (flF W H l).length (nI (flK W H l)) (flT' W H l)) (W * H) = l := by
  have h1 : tabN W (uL (flF W H l).length (nI (flK W H l)) (flT' W H l)) (W * H) = tabN W (fun x y => l.getD (W * y + x) false) (W * H) := tabN_congr fun x y hx hy => by
    unfold uL
    rw [fl_cell hy hx]
  rw [h1]
  apply List.ext_getElem
  · rw [tabN_len, hn]
  intro i h2 h3
  simp only [tabN, List.getElem_map, List.getElem_range]
  rw [Nat.div_add_mod, List.getD_eq_getElem?_getD, List.getElem?_eq_getElem h3]; rfl

/-- Where there are at most 40 kinds of rows, the draft is valid just if the threading is. -/
theorem fl_dok {W H : Nat} (hW0 : 0 < W) (hH0 : 0 < H) (hW : W ≤ 40) (hH : H ≤ 64) (l : List Bool) (hf : (flF W H l).length ≤ 40) {thr : List Int} (ht : wIn thr W) (ht2 : thr.length ≤ 64) :
    dOk W (flF W H l).length thr (nI (flK W H l)) (flF W H l).length W ((flF W H l).length * W : Nat) := by
  have hp := fl_pos (W := W) hH0 l
  have hl : (flK W H l).length = H := knd_len (rowN W l) H
  exact ⟨by omega, by omega, by omega, by rw [nI_len]; omega, ht, fl_win hH0 l, ⟨by omega, by omega, by omega, by omega, Int.natCast_mul _ _⟩, rfl, rfl⟩

/-- The draft made, where all is well. -/
theorem fromLift_v {thr : List Int} {W H : Nat} (hW0 : 0 < W) (hH0 : 0 < H) (hW : W ≤ 40) (hH : H ≤ 64) (b : Bool) {l : List Bool} (hn : l.length = W * H) (hf : (flF W H l).length ≤ 40) (ht : wIn thr W) (ht2 : thr.length ≤ 64) :
    Contract Try.prog 6 [LA false thr, GA W H b l] (.tuple [DR W (flF W H l).length false thr false (nI (flK W H l)) (flF W H l).length W false (flT' W H l), I 0]) := by
  have hd := dchk_ok (fl_dok hW0 hH0 hW hH l hf ht ht2)
  have h := fromLift_ok false (thr := thr) (fun h => by cases h) (by omega) hW0 hH0 (by omega) (by omega) b hn _ _ rfl rfl 0 hd.symm
  rw [if_pos rfl] at h
  have e1 : (nI (knd (rowN W l) H).1).isEmpty = false := by
    have := knd_len (rowN W l) H
    cases hk : (knd (rowN W l) H).1 with
    | nil => rw [hk] at this; simp at this; omega
    | cons => rfl
  have e2 : (tabN (knd (rowN W l) H).2.length (uFL W l (knd (rowN W l) H).2) ((knd (rowN W l) H).2.length * W)).isEmpty = false := by
    have h1 := tabN_len (knd (rowN W l) H).2.length (uFL W l (knd (rowN W l) H).2) ((knd (rowN W l) H).2.length * W)
    have h2 := fl_pos (W := W) hH0 l
    have h3 : 0 < (knd (rowN W l) H).2.length * W := Nat.mul_pos h2 hW0
    rw [List.isEmpty_eq_false_iff]
    intro h4
    rw [h4] at h1
    simp at h1
    omega
  rw [e1, e2] at h
  exact h
end Go.Proofs.Ytfnbejllakoiiaa
