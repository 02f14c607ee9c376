/- Drafts: their checks. -/
import Derived.Test.YtefhmecaoefpbaaL3
set_option linter.unusedSimpArgs false
set_option linter.unusedVariables false
set_option maxRecDepth 100000
namespace Go.Proofs.Ytefhmecaoefpbaa
open Go Go.Proofs Go.AW

abbrev DA (s t : Int) (b1 : Bool) (th : List Int) (b2 : Bool) (td : List Int) (w h : Int) (b3 : Bool) (l : List Bool) : AVal := .agg [I s, I t, LA b1 th, LA b2 td, I w, I h, BA b3 l]
abbrev DR (s t : Int) (b1 : Bool) (th : List Int) (b2 : Bool) (td : List Int) (w h : Int) (b3 : Bool) (l : List Bool) : AVal := .agg [I s, I t, LR b1 th, LR b2 td, I w, I h, BR b3 l]

theorem wIn_pos {l : List Int} {n : Int} (h : wIn l n) : 1 ≤ n := by
  have := h.2 0 h.1; omega

/-- The error of a draft. -/
def dOk (s t : Int) (th td : List Int) (w h : Int) (n : Int) : Prop := s ≤ 40 ∧ t ≤ 40 ∧ (th.length : Int) ≤ 64 ∧ (td.length : Int) ≤ 64 ∧ wIn th s ∧ wIn td t ∧ gOk w h n ∧ w = t ∧ h = s
def dchk (s t : Int) (th td : List Int) (w h : Int) (n : Int) : Int := if 40 < s ∨ 40 < t ∨ 64 < (th.length : Int) ∨ 64 < (td.length : Int) then 4 else if wIn th s ∧ wIn td t ∧ gchk w h n = 0 ∧ w = t ∧ h = s then 0 else 8
theorem dchk_ok {s t : Int} {th td : List Int} {w h n : Int} (hd : dOk s t th td w h n) : dchk s t th td w h n = 0 := by
  obtain ⟨h1, h2, h3, h4, h5, h6, h7, h8, h9⟩ := hd
  unfold dchk
  rw [if_neg (by omega), if_pos ⟨h5, h6, gchk_ok h7, h8, h9⟩]
theorem dchk_iff {s t : Int} {th td : List Int} {w h n : Int} : dchk s t th td w h n = 0 ↔ dOk s t th td w h n := by
  refine ⟨fun hz => ?_, dchk_ok⟩
  unfold dchk at hz
  split at hz
  · omega
  · split at hz
    · rename_i h1 h2
      obtain ⟨a1, a2, a3, a4, a5⟩ := h2
      exact ⟨by omega, by omega, by omega, by omega, a1, a2, gchk_iff.1 a3, a4, a5⟩
    · omega

end Go.Proofs.Ytefhmecaoefpbaa
