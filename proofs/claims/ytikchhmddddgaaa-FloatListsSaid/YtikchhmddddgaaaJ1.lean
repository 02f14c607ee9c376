/- Part 1 of the proof's own texts: the contracts of functions, and what they rest on. -/
import Derived.Test.YtikchhmddddgaaaProg
import Derived.Test.YtikchhmddddgaaaBw3
import Derived.Test.YtikchhmddddgaaaBw5
import Derived.Shelf.SlSortCmp.WholeK
/- Closed facts on the types. -/
namespace Go.Proofs.Ytikchhmddddgaaa
open Go Go.Proofs Go.AW
theorem follows : Try.prog.follows .mixedOrders = true := by kernel_rfl
-- 3: int
theorem ag3 : agT Try.prog 3 = some (false, 1) := by kernel_rfl
theorem zc3 : zT Try.prog 3 = some ([I 0], 1) := by kernel_rfl
-- 4: bool
theorem ag4 : agT Try.prog 4 = some (false, 1) := by kernel_rfl
theorem zc4 : zT Try.prog 4 = some ([B false], 1) := by kernel_rfl
instance bo4 : BoT Try.prog 4 := ⟨by kernel_rfl⟩
-- 9: string
theorem ag9 : agT Try.prog 9 = some (false, 1) := by kernel_rfl
theorem zc9 : zT Try.prog 9 = some ([.val (.string ⟨#[]⟩)], 1) := by kernel_rfl
-- 22: []bool
theorem ag22 : agT Try.prog 22 = some (false, 1) := by kernel_rfl
theorem zc22 : zT Try.prog 22 = some ([.cap0 true], 1) := by kernel_rfl
instance S22 : SlT Try.prog 22 4 1 (.bool false) := SlT.of (by kernel_rfl) (by kernel_rfl)
-- 24: api.Grid
theorem ag24 : agT Try.prog 24 = some (true, 3) := by kernel_rfl
theorem zc24 : zT Try.prog 24 = some ([I 0, I 0, .cap0 true], 3) := by kernel_rfl
theorem fo24_0 : fOff Try.prog 24 0 = some 0 := by kernel_rfl
theorem ft24_0 : fOT Try.prog 24 0 = some (0, 3) := by kernel_rfl
theorem fo24_1 : fOff Try.prog 24 1 = some 1 := by kernel_rfl
theorem ft24_1 : fOT Try.prog 24 1 = some (1, 3) := by kernel_rfl
theorem fo24_2 : fOff Try.prog 24 2 = some 2 := by kernel_rfl
theorem ft24_2 : fOT Try.prog 24 2 = some (2, 22) := by kernel_rfl
theorem fl24 : flT Try.prog 24 = some ([(0, 1), (1, 1), (2, 1)], [I 0, I 0, .cap0 true]) := by kernel_rfl
-- 26: []api.Float
theorem ag26 : agT Try.prog 26 = some (false, 1) := by kernel_rfl
theorem zc26 : zT Try.prog 26 = some ([.cap0 true], 1) := by kernel_rfl
instance SM26 : SlM Try.prog 26 5 := ⟨by kernel_rfl⟩
instance SW26 : SlW Try.prog 26 41 5 40 := ⟨by kernel_rfl⟩
instance LT26_1 : LitT Try.prog 26 1 [(0, 5)] ([B false, I 0, I 0, I 0, B false]) := ⟨by kernel_rfl⟩
-- 27: api.Errno
theorem ag27 : agT Try.prog 27 = some (false, 1) := by kernel_rfl
theorem zc27 : zT Try.prog 27 = some ([I 0], 1) := by kernel_rfl
-- 41: api.Float
theorem ag41 : agT Try.prog 41 = some (true, 5) := by kernel_rfl
theorem zc41 : zT Try.prog 41 = some ([B false, I 0, I 0, I 0, B false], 5) := by kernel_rfl
instance kt41 : KT Try.prog 41 ([true, false, false, false, true]) := ⟨by kernel_rfl, by kernel_rfl, by kernel_rfl, by kernel_rfl⟩
theorem fo41_0 : fOff Try.prog 41 0 = some 0 := by kernel_rfl
theorem ft41_0 : fOT Try.prog 41 0 = some (0, 4) := by kernel_rfl
theorem fo41_1 : fOff Try.prog 41 1 = some 1 := by kernel_rfl
theorem ft41_1 : fOT Try.prog 41 1 = some (1, 3) := by kernel_rfl
theorem fo41_2 : fOff Try.prog 41 2 = some 2 := by kernel_rfl
theorem ft41_2 : fOT Try.prog 41 2 = some (2, 3) := by kernel_rfl
theorem fo41_3 : fOff Try.prog 41 3 = some 3 := by kernel_rfl
theorem ft41_3 : fOT Try.prog 41 3 = some (3, 3) := by kernel_rfl
theorem fo41_4 : fOff Try.prog 41 4 = some 4 := by kernel_rfl
theorem ft41_4 : fOT Try.prog 41 4 = some (4, 4) := by kernel_rfl
theorem fl41 : flT Try.prog 41 = some ([(0, 1), (1, 1), (2, 1), (3, 1), (4, 1)], [B false, I 0, I 0, I 0, B false]) := by kernel_rfl
-- 42: func(api.Float) bool
theorem ag42 : agT Try.prog 42 = some (false, 1) := by kernel_rfl
theorem zc42 : zT Try.prog 42 = some ([.val .nilFunc], 1) := by kernel_rfl
-- 46: iter.Seq[raddle/float.line]
theorem ag46 : agT Try.prog 46 = some (false, 1) := by kernel_rfl
theorem zc46 : zT Try.prog 46 = some ([.val .nilFunc], 1) := by kernel_rfl
-- 49: float.line
theorem ag49 : agT Try.prog 49 = some (true, 3) := by kernel_rfl
theorem zc49 : zT Try.prog 49 = some ([B false, I 0, .cap0 true], 3) := by kernel_rfl
theorem fo49_0 : fOff Try.prog 49 0 = some 0 := by kernel_rfl
theorem ft49_0 : fOT Try.prog 49 0 = some (0, 4) := by kernel_rfl
theorem fo49_1 : fOff Try.prog 49 1 = some 1 := by kernel_rfl
theorem ft49_1 : fOT Try.prog 49 1 = some (1, 3) := by kernel_rfl
theorem fo49_2 : fOff Try.prog 49 2 = some 2 := by kernel_rfl
theorem ft49_2 : fOT Try.prog 49 2 = some (2, 22) := by kernel_rfl
theorem fl49 : flT Try.prog 49 = some ([(0, 1), (1, 1), (2, 1)], [B false, I 0, .cap0 true]) := by kernel_rfl
-- 51: iter.Seq[raddle/api.Float]
theorem ag51 : agT Try.prog 51 = some (false, 1) := by kernel_rfl
theorem zc51 : zT Try.prog 51 = some ([.val .nilFunc], 1) := by kernel_rfl
-- 54: func(float.line) bool
theorem ag54 : agT Try.prog 54 = some (false, 1) := by kernel_rfl
theorem zc54 : zT Try.prog 54 = some ([.val .nilFunc], 1) := by kernel_rfl
-- 57: func(api.Float, api.Float) int
theorem ag57 : agT Try.prog 57 = some (false, 1) := by kernel_rfl
theorem zc57 : zT Try.prog 57 = some ([.val .nilFunc], 1) := by kernel_rfl
-- 63: uint
theorem ag63 : agT Try.prog 63 = some (false, 1) := by kernel_rfl
theorem zc63 : zT Try.prog 63 = some ([.val (.int .u64 0)], 1) := by kernel_rfl
-- 66: slices.sortedHint
theorem ag66 : agT Try.prog 66 = some (false, 1) := by kernel_rfl
theorem zc66 : zT Try.prog 66 = some ([I 0], 1) := by kernel_rfl
-- 76: uint64
theorem ag76 : agT Try.prog 76 = some (false, 1) := by kernel_rfl
theorem zc76 : zT Try.prog 76 = some ([.val (.int .u64 0)], 1) := by kernel_rfl
-- 77: slices.xorshift
theorem ag77 : agT Try.prog 77 = some (false, 1) := by kernel_rfl
theorem zc77 : zT Try.prog 77 = some ([.val (.int .u64 0)], 1) := by kernel_rfl
-- 81: *int
theorem ag81 : agT Try.prog 81 = some (false, 1) := by kernel_rfl
theorem zc81 : zT Try.prog 81 = some ([.val (.pointer none)], 1) := by kernel_rfl
-- 83: *slices.xorshift
theorem ag83 : agT Try.prog 83 = some (false, 1) := by kernel_rfl
theorem zc83 : zT Try.prog 83 = some ([.val (.pointer none)], 1) := by kernel_rfl

theorem FX : type_of% @ag3 ∧ type_of% @zc3 ∧ type_of% @ag4 ∧ type_of% @zc4 ∧ type_of% @ag9 ∧ type_of% @zc9 ∧ type_of% @ag22 ∧ type_of% @zc22 ∧ type_of% @ag24 ∧ type_of% @zc24 ∧ type_of% @fo24_0 ∧ type_of% @ft24_0 ∧ type_of% @fo24_1 ∧ type_of% @ft24_1 ∧ type_of% @fo24_2 ∧ type_of% @ft24_2 ∧ type_of% @fl24 ∧ type_of% @ag26 ∧ type_of% @zc26 ∧ type_of% @ag27 ∧ type_of% @zc27 ∧ type_of% @ag41 ∧ type_of% @zc41 ∧ type_of% @fo41_0 ∧ type_of% @ft41_0 ∧ type_of% @fo41_1 ∧ type_of% @ft41_1 ∧ type_of% @fo41_2 ∧ type_of% @ft41_2 ∧ type_of% @fo41_3 ∧ type_of% @ft41_3 ∧ type_of% @fo41_4 ∧ type_of% @ft41_4 ∧ type_of% @fl41 ∧ type_of% @ag42 ∧ type_of% @zc42 ∧ type_of% @ag46 ∧ type_of% @zc46 ∧ type_of% @ag49 ∧ type_of% @zc49 ∧ type_of% @fo49_0 ∧ type_of% @ft49_0 ∧ type_of% @fo49_1 ∧ type_of% @ft49_1 ∧ type_of% @fo49_2 ∧ type_of% @ft49_2 ∧ type_of% @fl49 ∧ type_of% @ag51 ∧ type_of% @zc51 ∧ type_of% @ag54 ∧ type_of% @zc54 ∧ type_of% @ag57 ∧ type_of% @zc57 ∧ type_of% @ag63 ∧ type_of% @zc63 ∧ type_of% @ag66 ∧ type_of% @zc66 ∧ type_of% @ag76 ∧ type_of% @zc76 ∧ type_of% @ag77 ∧ type_of% @zc77 ∧ type_of% @ag81 ∧ type_of% @zc81 ∧ type_of% @ag83 ∧ type_of% @zc83 :=
  ⟨@ag3, @zc3, @ag4, @zc4, @ag9, @zc9, @ag22, @zc22, @ag24, @zc24, @fo24_0, @ft24_0, @fo24_1, @ft24_1, @fo24_2, @ft24_2, @fl24, @ag26, @zc26, @ag27, @zc27, @ag41, @zc41, @fo41_0, @ft41_0, @fo41_1, @ft41_1, @fo41_2, @ft41_2, @fo41_3, @ft41_3, @fo41_4, @ft41_4, @fl41, @ag42, @zc42, @ag46, @zc46, @ag49, @zc49, @fo49_0, @ft49_0, @fo49_1, @ft49_1, @fo49_2, @ft49_2, @fl49, @ag51, @zc51, @ag54, @zc54, @ag57, @zc57, @ag63, @zc63, @ag66, @zc66, @ag76, @zc76, @ag77, @zc77, @ag81, @zc81, @ag83, @zc83⟩
end Go.Proofs.Ytikchhmddddgaaa

/- Grids: their checks. -/
set_option linter.unusedSimpArgs false
set_option linter.unusedVariables false
set_option maxRecDepth 100000
namespace Go.Proofs.Ytikchhmddddgaaa
open Go Go.Proofs Go.AW

abbrev BA (b : Bool) (l : List Bool) : AVal := .list false b l.length (bools l)
abbrev GA (w h : Int) (b : Bool) (l : List Bool) : AVal := .agg [I w, I h, BA b l]
/-- The error of a grid. -/
def gchk (w h n : Int) : Int := if 64 < w ∨ 64 < h then 4 else if w < 1 ∨ h < 1 ∨ n ≠ w * h then 8 else 0
def gOk (w h n : Int) : Prop := 1 ≤ w ∧ w ≤ 64 ∧ 1 ≤ h ∧ h ≤ 64 ∧ n = w * h
theorem gchk_ok {w h n : Int} (hg : gOk w h n) : gchk w h n = 0 := by
  obtain ⟨h1, h2, h3, h4, h5⟩ := hg
  unfold gchk
  rw [if_neg (by omega), if_neg (by omega)]
theorem gchk_iff {w h n : Int} : gchk w h n = 0 ↔ gOk w h n := by
  refine ⟨fun hz => ?_, gchk_ok⟩
  unfold gchk at hz
  unfold gOk
  split at hz
  · omega
  · split at hz
    · omega
    · omega
theorem prod64 {w h : Int} (h1 : 0 ≤ w) (h2 : w ≤ 64) (h3 : 0 ≤ h) (h4 : h ≤ 64) : 0 ≤ w * h ∧ w * h ≤ 4096 := by
  constructor
  · exact Int.mul_nonneg h1 h3
  · have := Int.mul_le_mul h2 h4 h3 (by omega); omega

theorem gcheckP_c (w h : Int) (b : Bool) (l : List Bool) : Contract Try.prog 12 [GA w h b l] (I (gchk w h l.length)) := by
  unfold gchk
  refine Contract.intro (effS [] false) 6 follows Try.func12 rfl rfl (by kernel_rfl) (Nat.le_of_ble_eq_true rfl) ?_
  by_cases c1 : 64 < w ∨ 64 < h
  · rw [if_pos c1]
    have : 64 < max w h := by omega
    simp (disch := omega) only [↓RP, RG, FX, RQ, ↓reduceIte, Nat.reduceEqDiff, reduceCtorEq, Nat.reduceBEq, Nat.reduceAdd, Nat.reduceLeDiff, args0_1]
    rw [resVal_1 rfl]; simp (disch := first | assumption | omega | rfl | simp only [RH]) only [↓RP, RG, FX, RQ, ↓reduceIte, Nat.reduceEqDiff, reduceCtorEq, Nat.reduceBEq, Nat.reduceAdd, Nat.reduceLeDiff, RS]
  rw [if_neg c1]
  have : ¬ 64 < max w h := by omega
  by_cases c2 : w < 1 ∨ h < 1
  · rw [if_pos (by omega)]
    have : min w h < 1 := by omega
    simp (disch := omega) only [↓RP, RG, FX, RQ, ↓reduceIte, Nat.reduceEqDiff, reduceCtorEq, Nat.reduceBEq, Nat.reduceAdd, Nat.reduceLeDiff, args0_1]
    rw [resVal_1 rfl]; simp (disch := first | assumption | omega | rfl | simp only [RH]) only [↓RP, RG, FX, RQ, ↓reduceIte, Nat.reduceEqDiff, reduceCtorEq, Nat.reduceBEq, Nat.reduceAdd, Nat.reduceLeDiff, RS]
  have : ¬ min w h < 1 := by omega
  have hp := prod64 (w := w) (h := h) (by omega) (by omega) (by omega) (by omega)
  by_cases c3 : (l.length : Int) = w * h
  · rw [if_neg (by omega)]
    simp (disch := omega) only [↓RP, RG, FX, RQ, ↓reduceIte, Nat.reduceEqDiff, reduceCtorEq, Nat.reduceBEq, Nat.reduceAdd, Nat.reduceLeDiff, args0_1]
    rw [resVal_1 rfl]; simp (disch := first | assumption | omega | rfl | simp only [RH]) only [↓RP, RG, FX, RQ, ↓reduceIte, Nat.reduceEqDiff, reduceCtorEq, Nat.reduceBEq, Nat.reduceAdd, Nat.reduceLeDiff, RS]
  · rw [if_pos (by omega)]
    simp (disch := omega) only [↓RP, RG, FX, RQ, ↓reduceIte, Nat.reduceEqDiff, reduceCtorEq, Nat.reduceBEq, Nat.reduceAdd, Nat.reduceLeDiff, args0_1]
    rw [resVal_1 rfl]; simp (disch := first | assumption | omega | rfl | simp only [RH]) only [↓RP, RG, FX, RQ, ↓reduceIte, Nat.reduceEqDiff, reduceCtorEq, Nat.reduceBEq, Nat.reduceAdd, Nat.reduceLeDiff, RS]

theorem gcheckR_c (w h : Int) (b : Bool) (l : List Bool) : Contract Try.prog 15 [GA w h b l] (I (gchk w h l.length)) := by
  unfold gchk
  refine Contract.intro (effS [] false) 6 follows Try.func15 rfl rfl (by kernel_rfl) (Nat.le_of_ble_eq_true rfl) ?_
  by_cases c0 : 64 < w
  · rw [if_pos (by omega)]
    simp (disch := omega) only [↓RP, RG, FX, RQ, ↓reduceIte, Nat.reduceEqDiff, reduceCtorEq, Nat.reduceBEq, Nat.reduceAdd, Nat.reduceLeDiff, args0_1]
    rw [resVal_1 rfl]; simp (disch := first | assumption | omega | rfl | simp only [RH]) only [↓RP, RG, FX, RQ, ↓reduceIte, Nat.reduceEqDiff, reduceCtorEq, Nat.reduceBEq, Nat.reduceAdd, Nat.reduceLeDiff, RS]
  by_cases c1 : 64 < h
  · rw [if_pos (by omega)]
    simp (disch := omega) only [↓RP, RG, FX, RQ, ↓reduceIte, Nat.reduceEqDiff, reduceCtorEq, Nat.reduceBEq, Nat.reduceAdd, Nat.reduceLeDiff, args0_1]
    rw [resVal_1 rfl]; simp (disch := first | assumption | omega | rfl | simp only [RH]) only [↓RP, RG, FX, RQ, ↓reduceIte, Nat.reduceEqDiff, reduceCtorEq, Nat.reduceBEq, Nat.reduceAdd, Nat.reduceLeDiff, RS]
  rw [if_neg (by omega)]
  by_cases c2 : w < 1
  · rw [if_pos (by omega)]
    simp (disch := omega) only [↓RP, RG, FX, RQ, ↓reduceIte, Nat.reduceEqDiff, reduceCtorEq, Nat.reduceBEq, Nat.reduceAdd, Nat.reduceLeDiff, args0_1]
    rw [resVal_1 rfl]; simp (disch := first | assumption | omega | rfl | simp only [RH]) only [↓RP, RG, FX, RQ, ↓reduceIte, Nat.reduceEqDiff, reduceCtorEq, Nat.reduceBEq, Nat.reduceAdd, Nat.reduceLeDiff, RS]
  by_cases c3 : h < 1
  · rw [if_pos (by omega)]
    simp (disch := omega) only [↓RP, RG, FX, RQ, ↓reduceIte, Nat.reduceEqDiff, reduceCtorEq, Nat.reduceBEq, Nat.reduceAdd, Nat.reduceLeDiff, args0_1]
    rw [resVal_1 rfl]; simp (disch := first | assumption | omega | rfl | simp only [RH]) only [↓RP, RG, FX, RQ, ↓reduceIte, Nat.reduceEqDiff, reduceCtorEq, Nat.reduceBEq, Nat.reduceAdd, Nat.reduceLeDiff, RS]
  have hp := prod64 (w := w) (h := h) (by omega) (by omega) (by omega) (by omega)
  by_cases c4 : (l.length : Int) = w * h
  · rw [if_neg (by omega)]
    simp (disch := omega) only [↓RP, RG, FX, RQ, ↓reduceIte, Nat.reduceEqDiff, reduceCtorEq, Nat.reduceBEq, Nat.reduceAdd, Nat.reduceLeDiff, args0_1]
    rw [resVal_1 rfl]; simp (disch := first | assumption | omega | rfl | simp only [RH]) only [↓RP, RG, FX, RQ, ↓reduceIte, Nat.reduceEqDiff, reduceCtorEq, Nat.reduceBEq, Nat.reduceAdd, Nat.reduceLeDiff, RS]
  · rw [if_pos (by omega)]
    simp (disch := omega) only [↓RP, RG, FX, RQ, ↓reduceIte, Nat.reduceEqDiff, reduceCtorEq, Nat.reduceBEq, Nat.reduceAdd, Nat.reduceLeDiff, args0_1]
    rw [resVal_1 rfl]; simp (disch := first | assumption | omega | rfl | simp only [RH]) only [↓RP, RG, FX, RQ, ↓reduceIte, Nat.reduceEqDiff, reduceCtorEq, Nat.reduceBEq, Nat.reduceAdd, Nat.reduceLeDiff, RS]
end Go.Proofs.Ytikchhmddddgaaa

/- Lists: compared. -/
set_option linter.unusedSimpArgs false
set_option linter.unusedVariables false
set_option maxRecDepth 100000
namespace Go.Proofs.Ytikchhmddddgaaa
open Go Go.Proofs Go.AW

end Go.Proofs.Ytikchhmddddgaaa

/- Lists: least and greatest element, within a range; cells of grids. -/
set_option linter.unusedSimpArgs false
set_option linter.unusedVariables false
set_option maxRecDepth 100000
namespace Go.Proofs.Ytikchhmddddgaaa
open Go Go.Proofs Go.AW

/-- It has elements, all of them from 0 to n - 1. -/
def wIn (l : List Int) (n : Int) : Prop := 0 < l.length ∧ ∀ j, j < l.length → 0 ≤ l.getD j 0 ∧ l.getD j 0 < n
instance (l : List Int) (n : Int) : Decidable (wIn l n) := by unfold wIn; infer_instance

/-- A grid's cell. -/
def cell (w : Int) (l : List Bool) (x y : Int) : Bool := l.getD (y * w + x).toNat false

theorem at_c (w h : Int) (b : Bool) (l : List Bool) (x y : Int) (h0 : 0 ≤ y * w + x) (h1 : y * w + x < l.length) (h2 : l.length ≤ 1000000000000) (h3 : 0 ≤ y * w) (h4 : y * w ≤ 1000000000000) : Contract Try.prog 31 [GA w h b l, I x, I y] (B (cell w l x y)) := by
  refine Contract.intro (effS [] false) 6 follows Try.func31 rfl rfl (by kernel_rfl) (Nat.le_of_ble_eq_true rfl) ?_
  simp (disch := first | assumption | omega | rfl | simp only [RH]) only [↓RP, RG, FX, RQ, ↓reduceIte, Nat.reduceEqDiff, reduceCtorEq, Nat.reduceBEq, Nat.reduceAdd, Nat.reduceLeDiff, args0_3]
  rw [resVal_1 rfl]; simp (disch := first | assumption | omega | rfl | simp only [RH]) only [↓RP, RG, FX, RQ, ↓reduceIte, Nat.reduceEqDiff, reduceCtorEq, Nat.reduceBEq, Nat.reduceAdd, Nat.reduceLeDiff, RS]
  rfl

end Go.Proofs.Ytikchhmddddgaaa

/- Grids: compared, copied. -/
set_option linter.unusedSimpArgs false
set_option linter.unusedVariables false
set_option maxRecDepth 100000
namespace Go.Proofs.Ytikchhmddddgaaa
open Go Go.Proofs Go.AW

end Go.Proofs.Ytikchhmddddgaaa

/- Drafts: their checks. -/
set_option linter.unusedSimpArgs false
set_option linter.unusedVariables false
set_option maxRecDepth 100000
namespace Go.Proofs.Ytikchhmddddgaaa
open Go Go.Proofs Go.AW

end Go.Proofs.Ytikchhmddddgaaa

/- Drafts: tables, drawdowns, lifts. -/
set_option linter.unusedSimpArgs false
set_option linter.unusedVariables false
set_option maxRecDepth 100000
namespace Go.Proofs.Ytikchhmddddgaaa
open Go Go.Proofs Go.AW

end Go.Proofs.Ytikchhmddddgaaa

/- Drafts: drawdowns and lifts, of the program and the reference. -/
set_option linter.unusedSimpArgs false
set_option linter.unusedVariables false
set_option maxRecDepth 100000
namespace Go.Proofs.Ytikchhmddddgaaa
open Go Go.Proofs Go.AW

theorem idx_nat (W y x : Nat) : ((y : Int) * (W : Int) + (x : Int)).toNat = W * y + x := by
  rw [← Int.natCast_mul, ← Int.natCast_add, Int.toNat_natCast, Nat.mul_comm]
theorem idx_lt {W H x y : Nat} (hx : x < W) (hy : y < H) : W * y + x < W * H := by
  have : W * (y + 1) ≤ W * H := Nat.mul_le_mul_left W hy
  rw [Nat.mul_succ] at this; omega

end Go.Proofs.Ytikchhmddddgaaa

/- Chapter 8: the threads of a grid, one after another. -/
set_option linter.unusedSimpArgs false
set_option linter.unusedVariables false
set_option maxRecDepth 100000
namespace Go.Proofs.Ytikchhmddddgaaa
open Go Go.Proofs Go.AW

/-- The cells of a column, of a row turned over. -/
def faC (W H : Nat) (l : List Bool) (x : Nat) : List Bool := (List.range H).map fun y => l.getD (W * y + x) false
def faR (W : Nat) (l : List Bool) (y : Nat) : List Bool := (List.range W).map fun x => !l.getD (W * y + x) false
theorem faC_len (W H : Nat) (l : List Bool) (x : Nat) : (faC W H l x).length = H := by simp [faC]
theorem faR_len (W : Nat) (l : List Bool) (y : Nat) : (faR W l y).length = W := by simp [faR]
theorem faC_take {W H : Nat} {l : List Bool} {x y : Nat} (hy : y < H) : (faC W H l x).take (y + 1) = (faC W H l x).take y ++ [l.getD (W * y + x) false] := by
  rw [List.take_add_one]; simp [faC, hy]
theorem faR_take {W : Nat} {l : List Bool} {x y : Nat} (hx : x < W) : (faR W l y).take (x + 1) = (faR W l y).take x ++ [!l.getD (W * y + x) false] := by
  rw [List.take_add_one]; simp [faR, hx]
/-- Thread number k: ends first. -/
def faK (W H : Nat) (l : List Bool) (k : Nat) : List Bool := if k < W then faC W H l k else faR W l (k - W)
def lineA (m W H : Nat) (l : List Bool) (k : Nat) : AVal := .agg [B (decide (k < W)), I (if k < W then k else k - W : Nat), .ref (m + 1) 0 (if k < W then H else W) (if k < W then H else W)]
def lineO (m W H : Nat) (l : List Bool) (k : Nat) : List AObj := [⟨49, 3, [B (decide (k < W)), I (if k < W then k else k - W : Nat), .ref (m + 1) 0 (if k < W then H else W) (if k < W then H else W)]⟩, ⟨4, 1, bools (faK W H l k)⟩]

theorem lineA_c {W x : Nat} (m H : Nat) (l : List Bool) (h : x < W) : lineA m W H l x = .agg [B true, I x, .ref (m + 1) 0 H H] := by unfold lineA; rw [if_pos h, if_pos h, decide_eq_true h]
theorem lineA_r {W x : Nat} (m H : Nat) (l : List Bool) (h : ¬ x < W) : lineA m W H l x = .agg [B false, I (x - W : Nat), .ref (m + 1) 0 W W] := by unfold lineA; rw [if_neg h, if_neg h, decide_eq_false h]
theorem lineO_c {W x : Nat} (m H : Nat) (l : List Bool) (h : x < W) : lineO m W H l x = [⟨49, 3, [B true, I x, .ref (m + 1) 0 H H]⟩, ⟨4, 1, bools (faC W H l x)⟩] := by unfold lineO faK; rw [if_pos h, if_pos h, if_pos h, decide_eq_true h]
theorem lineO_r {W x : Nat} (m H : Nat) (l : List Bool) (h : ¬ x < W) : lineO m W H l x = [⟨49, 3, [B false, I (x - W : Nat), .ref (m + 1) 0 W W]⟩, ⟨4, 1, bools (faR W l (x - W))⟩] := by unfold lineO faK; rw [if_neg h, if_neg h, if_neg h, decide_eq_false h]

theorem lines_c (W H : Nat) (b : Bool) (l : List Bool) : Contract Try.prog 18 [GA W H b l] (.func (.func 21) [] [.spot true [I W, I H, BA b l]]) := by
  refine Contract.intro (effS [] false [] [0]) 6 follows Try.func18 rfl rfl (by kernel_rfl) (Nat.le_of_ble_eq_true rfl) ?_
  simp (disch := first | assumption | omega | rfl | simp only [RH]) only [↓RP, RG, FX, RQ, ↓reduceIte, Nat.reduceEqDiff, reduceCtorEq, Nat.reduceBEq, Nat.reduceAdd, Nat.reduceLeDiff, args0_1]
  rw [resVal_1 rfl]; simp (disch := first | assumption | omega | rfl | simp only [RH]) only [↓RP, RG, FX, RQ, ↓reduceIte, Nat.reduceEqDiff, reduceCtorEq, Nat.reduceBEq, Nat.reduceAdd, Nat.reduceLeDiff, RS]
  first | done | simp [resOf, resOf_list, bools_res]
end Go.Proofs.Ytikchhmddddgaaa

/- Chapter 8: the threads, yielded. -/
set_option linter.unusedSimpArgs false
set_option linter.unusedVariables false
set_option maxRecDepth 100000
namespace Go.Proofs.Ytikchhmddddgaaa
open Go Go.Proofs Go.AW

section
variable {W H : Nat} (hW0 : 0 < W) (hH0 : 0 < H) (hW : W ≤ 1000) (hH : H ≤ 1000) (p b : Bool) {l : List Bool} (hn : l.length = W * H) (m : Nat) (hs ex : Nat → List AObj)
include hW0 hH0 hW hH hn
theorem linesF_y (hsh : ∀ k, k ≤ W + H → Shut m (hs k)) : SpecY Try.prog 21 (stepsO (W + H) hs (lineO m W H l) ex (lineA m W H l)) [.spot p [I W, I H, BA b l]] (hs 0) (hs (W + H)) := by
  have hm : ∀ k, k ≤ W + H → (hs k).length = m := fun k hk => (hsh k hk).1
  refine SpecY.intro (effS [] false) follows Try.func21 rfl rfl (by kernel_rfl) (Nat.le_of_ble_eq_true rfl) rfl (fun yv => ?_)
  simp (disch := first | assumption | omega | rfl | simp only [RH]) only [↓RP, RG, FX, RQ, ↓reduceIte, Nat.reduceEqDiff, reduceCtorEq, Nat.reduceBEq, Nat.reduceAdd, Nat.reduceLeDiff, args0_2]
  refine loopK_WW [0, 1, 10, 11] (fun x : Nat => x ≤ W) (fun x : Nat => ⟨[(0, .val yv), (1, .spot p [I W, I H, BA b l]), (10, I W), (11, I x)], hs x⟩) (fun x => W - x) 0 (by omega) (Wk.of_eq (by simp only [↓RP, RG, FX, RQ, ↓reduceIte, Nat.reduceEqDiff, reduceCtorEq, Nat.reduceBEq, Nat.reduceAdd, Nat.reduceLeDiff]; rfl)) ?_
  intro x hx
  by_cases hlt : x < W
  · have hmx := hm x (by omega)
    simp (disch := first | assumption | omega | rfl | simp only [RH]) only [↓RP, RG, FX, RQ, ↓reduceIte, Nat.reduceEqDiff, reduceCtorEq, Nat.reduceBEq, Nat.reduceAdd, Nat.reduceLeDiff]
    refine loopK_WW [0, 1, 3, 4, 10, 11, 17, 18] (fun y : Nat => y ≤ H) (fun y : Nat => ⟨[(0, .val yv), (1, .spot p [I W, I H, BA b l]), (3, I x), (4, .ptr (hs x).length 0 3), (10, I W), (11, I x), (17, I H), (18, I y)], hs x ++ [⟨49, 3, [B true, I x, gw true ((hs x).length + 1) (bools ((faC W H l x).take y))]⟩, go 4 (bools ((faC W H l x).take y))]⟩) (fun y => H - y) 0 (by omega) ?_ ?_
    · simp only [↓RP, RG, FX, RQ, ↓reduceIte, Nat.reduceEqDiff, reduceCtorEq, Nat.reduceBEq, Nat.reduceAdd, Nat.reduceLeDiff]
      exact Wk.weak (fun t => .refl _) (.app (hs x) (.cons _ _ _ _ (.cons (.refl _) (.cons (.refl _) (.cons (.nil _) .nil))) (.nil _ (by simp [go, bools]))))
    intro y hy
    by_cases hlt2 : y < H
    · have hil := idx_lt hlt hlt2
      have hWH : W * H ≤ 1000 * 1000 := Nat.mul_le_mul hW hH
      have m1 : (y : Int) * (W : Int) = ((W * y : Nat) : Int) := by rw [Int.natCast_mul, Int.mul_comm]
      have m2 : ((W * y : Nat) : Int) + (x : Int) = ((W * y + x : Nat) : Int) := by omega
      have htk : ((faC W H l x).take y).length = y := by rw [List.length_take, faC_len]; omega
      simp (disch := first | assumption | omega | rfl | simp only [RH]) only [↓RP, RG, FX, RQ, ↓reduceIte, Nat.reduceEqDiff, reduceCtorEq, Nat.reduceBEq, Nat.reduceAdd, Nat.reduceLeDiff, m1, m2, Int.toNat_natCast, effY_b, effY_n, effY_f, effY_l, effY_z, effY_D, append_bool]
      refine ⟨y + 1, by omega, Wk.of_eq ?_, by omega⟩
      rw [faC_take hlt2]
      rfl
    · obtain rfl : H = y := by omega
      have htk : (faC W H l x).take H = faC W H l x := List.take_of_length_le (by rw [faC_len]; omega)
      have hcl := faC_len W H l x
      have hp : 0 < (bools (faC W H l x)).length := by rw [bools_length]; omega
      simp (disch := first | assumption | omega | rfl | simp only [RH]) only [↓RP, RG, FX, RQ, ↓reduceIte, Nat.reduceEqDiff, reduceCtorEq, Nat.reduceBEq, Nat.reduceAdd, Nat.reduceLeDiff, htk, gw_pos hp, go_pos hp, bools_length, hcl]
      refine callK_Y rfl (stepsO_at x (by omega) (by rw [lineA_c _ _ _ hlt, hmx]) (by rw [lineO_c _ _ _ hlt, hmx]) rfl) ?_
      simp (disch := first | assumption | omega | rfl | simp only [RH]) only [↓RP, RG, FX, RQ, ↓reduceIte, Nat.reduceEqDiff, reduceCtorEq, Nat.reduceBEq, Nat.reduceAdd, Nat.reduceLeDiff]
      refine ⟨x + 1, by omega, ?_, by omega⟩
      refine (Wk.shut ((hm _ (by omega)).trans (hm 0 (by omega)).symm) ?_).trans (Wk.of_eq ?_)
      · rw [hm 0 (by omega)]; exact hsh _ (by omega)
      · simp [ren, map_ren_bools]
  · obtain rfl : W = x := by omega
    simp (disch := first | assumption | omega | rfl | simp only [RH]) only [↓RP, RG, FX, RQ, ↓reduceIte, Nat.reduceEqDiff, reduceCtorEq, Nat.reduceBEq, Nat.reduceAdd, Nat.reduceLeDiff]
    refine loopK_WW [0, 1, 43, 44] (fun y : Nat => y ≤ H) (fun y : Nat => ⟨[(0, .val yv), (1, .spot p [I W, I H, BA b l]), (43, I H), (44, I y)], hs (W + y)⟩) (fun y => H - y) 0 (by omega) (Wk.of_eq (by simp only [↓RP, RG, FX, RQ, ↓reduceIte, Nat.reduceEqDiff, reduceCtorEq, Nat.reduceBEq, Nat.reduceAdd, Nat.reduceLeDiff]; rfl)) ?_
    intro y hy
    by_cases hlt2 : y < H
    · have hmx := hm (W + y) (by omega)
      have hge : ¬ W + y < W := by omega
      have hsub : W + y - W = y := by omega
      simp (disch := first | assumption | omega | rfl | simp only [RH]) only [↓RP, RG, FX, RQ, ↓reduceIte, Nat.reduceEqDiff, reduceCtorEq, Nat.reduceBEq, Nat.reduceAdd, Nat.reduceLeDiff]
      refine loopK_WW [0, 1, 6, 7, 43, 44, 50, 51] (fun x : Nat => x ≤ W) (fun x : Nat => ⟨[(0, .val yv), (1, .spot p [I W, I H, BA b l]), (6, I y), (7, .ptr (hs (W + y)).length 0 3), (43, I H), (44, I y), (50, I W), (51, I x)], hs (W + y) ++ [⟨49, 3, [B false, I y, gw true ((hs (W + y)).length + 1) (bools ((faR W l y).take x))]⟩, go 4 (bools ((faR W l y).take x))]⟩) (fun x => W - x) 0 (by omega) ?_ ?_
      · simp only [↓RP, RG, FX, RQ, ↓reduceIte, Nat.reduceEqDiff, reduceCtorEq, Nat.reduceBEq, Nat.reduceAdd, Nat.reduceLeDiff]
        exact Wk.weak (fun t => .refl _) (.app (hs (W + y)) (.cons _ _ _ _ (.cons (.refl _) (.cons (.refl _) (.cons (.nil _) .nil))) (.nil _ (by simp [go, bools]))))
      intro x hx
      by_cases hlt3 : x < W
      · have hil := idx_lt hlt3 hlt2
        have hWH : W * H ≤ 1000 * 1000 := Nat.mul_le_mul hW hH
        have m1 : (y : Int) * (W : Int) = ((W * y : Nat) : Int) := by rw [Int.natCast_mul, Int.mul_comm]
        have m2 : ((W * y : Nat) : Int) + (x : Int) = ((W * y + x : Nat) : Int) := by omega
        have htk : ((faR W l y).take x).length = x := by rw [List.length_take, faR_len]; omega
        simp (disch := first | assumption | omega | rfl | simp only [RH]) only [↓RP, RG, FX, RQ, ↓reduceIte, Nat.reduceEqDiff, reduceCtorEq, Nat.reduceBEq, Nat.reduceAdd, Nat.reduceLeDiff, m1, m2, Int.toNat_natCast, effY_b, effY_n, effY_f, effY_l, effY_z, effY_D, append_bool]
        refine ⟨x + 1, by omega, Wk.of_eq ?_, by omega⟩
        rw [faR_take hlt3]
        rfl
      · obtain rfl : W = x := by omega
        have htk : (faR W l y).take W = faR W l y := List.take_of_length_le (by rw [faR_len]; omega)
        have hcl := faR_len W l y
        have hp : 0 < (bools (faR W l y)).length := by rw [bools_length]; omega
        simp (disch := first | assumption | omega | rfl | simp only [RH]) only [↓RP, RG, FX, RQ, ↓reduceIte, Nat.reduceEqDiff, reduceCtorEq, Nat.reduceBEq, Nat.reduceAdd, Nat.reduceLeDiff, htk, gw_pos hp, go_pos hp, bools_length, hcl]
        refine callK_Y rfl (stepsO_at (W + y) (by omega) (by rw [lineA_r _ _ _ hge, hmx, hsub]) (by rw [lineO_r _ _ _ hge, hmx, hsub]) rfl) ?_
        simp (disch := first | assumption | omega | rfl | simp only [RH]) only [↓RP, RG, FX, RQ, ↓reduceIte, Nat.reduceEqDiff, reduceCtorEq, Nat.reduceBEq, Nat.reduceAdd, Nat.reduceLeDiff]
        refine ⟨y + 1, by omega, ?_, by omega⟩
        refine (Wk.shut ((hm _ (by omega)).trans (hm 0 (by omega)).symm) ?_).trans (Wk.of_eq ?_)
        · rw [hm 0 (by omega)]; exact hsh _ (by omega)
        · simp [ren, map_ren_bools]; rfl
    · obtain rfl : H = y := by omega
      simp (disch := first | assumption | omega | rfl | simp only [RH]) only [↓RP, RG, FX, RQ, ↓reduceIte, Nat.reduceEqDiff, reduceCtorEq, Nat.reduceBEq, Nat.reduceAdd, Nat.reduceLeDiff]
      exact Wk.refl _ _
end
end Go.Proofs.Ytikchhmddddgaaa

/- Chapter 8: the threads, yielded until the loop is left. -/
set_option linter.unusedSimpArgs false
set_option linter.unusedVariables false
set_option maxRecDepth 100000
namespace Go.Proofs.Ytikchhmddddgaaa
open Go Go.Proofs Go.AW

section
variable {W H : Nat} (hW0 : 0 < W) (hH0 : 0 < H) (hW : W ≤ 1000) (hH : H ≤ 1000) (p b : Bool) {l : List Bool} (hn : l.length = W * H) (m : Nat) (hs ex : Nat → List AObj)
include hW0 hH0 hW hH hn
end
end Go.Proofs.Ytikchhmddddgaaa

/- Chapter 8: the crossings of a thread, of both. -/
set_option linter.unusedSimpArgs false
set_option linter.unusedVariables false
set_option maxRecDepth 100000
namespace Go.Proofs.Ytikchhmddddgaaa
open Go Go.Proofs Go.AW

/-- The cell ahead of a thread's cell, around. -/
def pvF (f : List Bool) (i : Nat) : Bool := if i = 0 then f.getD (f.length - 1) false else f.getD (i - 1) false
/-- How often a thread changes sides. -/
def crs (f : List Bool) : Nat → Nat
  | 0 => 0
  | i + 1 => crs f i + if f.getD i false = pvF f i then 0 else 1
theorem crs_le (f : List Bool) : ∀ i, crs f i ≤ i
  | 0 => Nat.le_refl _
  | i + 1 => by have := crs_le f i; unfold crs; split <;> omega
theorem mod_c {i : Int} {n : Nat} (hn : 0 < n) (hn2 : n ≤ 1000000) (h1 : -1000000000 ≤ i) (h2 : i ≤ 1000000000) : Contract Try.prog 32 [I i, I n] (I (i % (n : Int))) := by
  have b1 := Int.tmod_lt_of_pos i (show (0 : Int) < n by omega)
  have b2 : -(n : Int) < i.tmod n := by
    have := Int.tmod_lt_of_pos (-i) (show (0 : Int) < n by omega)
    rw [Int.neg_tmod] at this; omega
  have e1 : aInt .rem .i64 i (n : Int) = some (I (i.tmod n)) := by
    simp only [aInt]; rw [if_neg (by omega)]
  have e2 : aInt .rem .i64 (i.tmod n + n) (n : Int) = some (I ((i.tmod n + n).tmod n)) := by
    simp only [aInt]; rw [if_neg (by omega)]
  have e3 : (i.tmod n + n).tmod n = i % (n : Int) := by
    rw [Int.tmod_eq_emod_of_nonneg (by omega), Int.add_emod_right]
    have h3 := Int.tmod_add_mul_tdiv i n
    have h4 : i.tmod n = i - n * i.tdiv n := by omega
    rw [h4, Int.sub_mul_emod_self_left]
  have b3 := Int.emod_nonneg i (show (n : Int) ≠ 0 by omega)
  have b4 := Int.emod_lt_of_pos i (show (0 : Int) < n by omega)
  rw [← e3]
  generalize i.tmod n = r at *
  generalize (r + n).tmod n = q at *
  refine Contract.intro (effS [] false) 6 follows Try.func32 rfl rfl (by kernel_rfl) (Nat.le_of_ble_eq_true rfl) ?_
  simp (disch := first | assumption | omega | rfl | simp only [RH]) only [↓RP, RG, FX, RQ, ↓reduceIte, Nat.reduceEqDiff, reduceCtorEq, Nat.reduceBEq, Nat.reduceAdd, Nat.reduceLeDiff, args0_2, e1, e2]
  rw [resVal_1 rfl]; simp (disch := first | assumption | omega | rfl | simp only [RH]) only [↓RP, RG, FX, RQ, ↓reduceIte, Nat.reduceEqDiff, reduceCtorEq, Nat.reduceBEq, Nat.reduceAdd, Nat.reduceLeDiff, RS]
  first | done | rfl
section
variable {W H : Nat} (hW0 : 0 < W) (hH0 : 0 < H) (hW : W ≤ 64) (hH : H ≤ 64) (b : Bool) {l : List Bool} (hn : l.length = W * H)
include hW0 hH0 hW hH hn
theorem faceC_c {x : Nat} (hx : x < W) {i : Int} (h1 : -1000000 ≤ i) (h2 : i ≤ 1000000) : Contract Try.prog 28 [GA W H b l, B true, I x, I i] (B ((faC W H l x).getD (i % (H : Int)).toNat false)) := by
  have hm := mod_c (i := i) hH0 (by omega) (by omega) (by omega)
  have b3 := Int.emod_nonneg i (show (H : Int) ≠ 0 by omega)
  have b4 := Int.emod_lt_of_pos i (show (0 : Int) < H by omega)
  obtain ⟨j, hj⟩ : ∃ j : Nat, i % (H : Int) = j := ⟨(i % (H : Int)).toNat, by omega⟩
  rw [hj] at hm b3 b4 ⊢
  have hj2 : j < H := by omega
  have hil := idx_lt hx hj2
  have hWH : W * H ≤ 64 * 64 := Nat.mul_le_mul hW hH
  have m1 : (j : Int) * (W : Int) = ((W * j : Nat) : Int) := by rw [Int.natCast_mul, Int.mul_comm]
  have hat := at_c W H b l x j (by omega) (by omega) (by omega) (by omega) (by omega)
  have hcl : cell W l x j = (faC W H l x).getD j false := by
    unfold cell; rw [idx_nat]; simp [faC, List.getD_eq_getElem?_getD, hj2]
  rw [hcl] at hat
  rw [Int.toNat_natCast]
  refine Contract.intro (effS [] false) 6 follows Try.func28 rfl rfl (by kernel_rfl) (Nat.le_of_ble_eq_true rfl) ?_
  simp (disch := first | assumption | omega | rfl | simp only [RH]) only [↓RP, RG, FX, RQ, ↓reduceIte, Nat.reduceEqDiff, reduceCtorEq, Nat.reduceBEq, Nat.reduceAdd, Nat.reduceLeDiff, args0_4]
  refine callK_F 6 (hm) (by simp (disch := first | assumption | omega | rfl | simp only [RH]) only [↓RP, RG, FX, RQ, ↓reduceIte, Nat.reduceEqDiff, reduceCtorEq, Nat.reduceBEq, Nat.reduceAdd, Nat.reduceLeDiff, RA] <;> rfl) (.inl (by simp [allFresh, ints_fresh, bools_fresh])) ?_
  simp (disch := first | assumption | omega | rfl | simp only [RH]) only [↓RP, RG, FX, RQ, ↓reduceIte, Nat.reduceEqDiff, reduceCtorEq, Nat.reduceBEq, Nat.reduceAdd, Nat.reduceLeDiff]
  refine callK_F 6 (hat) (by simp (disch := first | assumption | omega | rfl | simp only [RH]) only [↓RP, RG, FX, RQ, ↓reduceIte, Nat.reduceEqDiff, reduceCtorEq, Nat.reduceBEq, Nat.reduceAdd, Nat.reduceLeDiff, RA] <;> rfl) (.inl (by simp [allFresh, ints_fresh, bools_fresh])) ?_
  simp (disch := first | assumption | omega | rfl | simp only [RH]) only [↓RP, RG, FX, RQ, ↓reduceIte, Nat.reduceEqDiff, reduceCtorEq, Nat.reduceBEq, Nat.reduceAdd, Nat.reduceLeDiff]
  rw [resVal_1 rfl]; simp (disch := first | assumption | omega | rfl | simp only [RH]) only [↓RP, RG, FX, RQ, ↓reduceIte, Nat.reduceEqDiff, reduceCtorEq, Nat.reduceBEq, Nat.reduceAdd, Nat.reduceLeDiff, RS]
  first | done | rfl
theorem faceR_c {y : Nat} (hy : y < H) {i : Int} (h1 : -1000000 ≤ i) (h2 : i ≤ 1000000) : Contract Try.prog 28 [GA W H b l, B false, I y, I i] (B ((faR W l y).getD (i % (W : Int)).toNat false)) := by
  have hm := mod_c (i := i) hW0 (by omega) (by omega) (by omega)
  have _ := hH0
  have b3 := Int.emod_nonneg i (show (W : Int) ≠ 0 by omega)
  have b4 := Int.emod_lt_of_pos i (show (0 : Int) < W by omega)
  obtain ⟨j, hj⟩ : ∃ j : Nat, i % (W : Int) = j := ⟨(i % (W : Int)).toNat, by omega⟩
  rw [hj] at hm b3 b4 ⊢
  have hj2 : j < W := by omega
  have hil := idx_lt hj2 hy
  have hWH : W * H ≤ 64 * 64 := Nat.mul_le_mul hW hH
  have m1 : (y : Int) * (W : Int) = ((W * y : Nat) : Int) := by rw [Int.natCast_mul, Int.mul_comm]
  have hat := at_c W H b l j y (by omega) (by omega) (by omega) (by omega) (by omega)
  have hcl : (!cell W l j y) = (faR W l y).getD j false := by
    unfold cell; rw [idx_nat]; simp [faR, List.getD_eq_getElem?_getD, hj2]
  rw [Int.toNat_natCast, ← hcl]
  refine Contract.intro (effS [] false) 6 follows Try.func28 rfl rfl (by kernel_rfl) (Nat.le_of_ble_eq_true rfl) ?_
  simp (disch := first | assumption | omega | rfl | simp only [RH]) only [↓RP, RG, FX, RQ, ↓reduceIte, Nat.reduceEqDiff, reduceCtorEq, Nat.reduceBEq, Nat.reduceAdd, Nat.reduceLeDiff, args0_4]
  refine callK_F 6 (hm) (by simp (disch := first | assumption | omega | rfl | simp only [RH]) only [↓RP, RG, FX, RQ, ↓reduceIte, Nat.reduceEqDiff, reduceCtorEq, Nat.reduceBEq, Nat.reduceAdd, Nat.reduceLeDiff, RA] <;> rfl) (.inl (by simp [allFresh, ints_fresh, bools_fresh])) ?_
  simp (disch := first | assumption | omega | rfl | simp only [RH]) only [↓RP, RG, FX, RQ, ↓reduceIte, Nat.reduceEqDiff, reduceCtorEq, Nat.reduceBEq, Nat.reduceAdd, Nat.reduceLeDiff]
  refine callK_F 6 (hat) (by simp (disch := first | assumption | omega | rfl | simp only [RH]) only [↓RP, RG, FX, RQ, ↓reduceIte, Nat.reduceEqDiff, reduceCtorEq, Nat.reduceBEq, Nat.reduceAdd, Nat.reduceLeDiff, RA] <;> rfl) (.inl (by simp [allFresh, ints_fresh, bools_fresh])) ?_
  simp (disch := first | assumption | omega | rfl | simp only [RH]) only [↓RP, RG, FX, RQ, ↓reduceIte, Nat.reduceEqDiff, reduceCtorEq, Nat.reduceBEq, Nat.reduceAdd, Nat.reduceLeDiff]
  rw [resVal_1 rfl]; simp (disch := first | assumption | omega | rfl | simp only [RH]) only [↓RP, RG, FX, RQ, ↓reduceIte, Nat.reduceEqDiff, reduceCtorEq, Nat.reduceBEq, Nat.reduceAdd, Nat.reduceLeDiff, RS]
  first | done | rfl
end
end Go.Proofs.Ytikchhmddddgaaa

/- Chapter 8: crossings and counts of both. -/
set_option linter.unusedSimpArgs false
set_option linter.unusedVariables false
set_option maxRecDepth 100000
namespace Go.Proofs.Ytikchhmddddgaaa
open Go Go.Proofs Go.AW

theorem pv_mod (f : List Bool) {n i : Nat} (hn : f.length = n) (hi : i < n) : f.getD (((i : Int) - 1) % (n : Int)).toNat false = pvF f i := by
  unfold pvF
  by_cases h : i = 0
  · subst h
    rw [if_pos rfl, hn]
    have : (((0 : Nat) : Int) - 1) % (n : Int) = (n : Int) - 1 := by
      rw [show ((0 : Nat) : Int) - 1 = ((n : Int) - 1) - n by omega, Int.sub_emod_right]
      exact Int.emod_eq_of_lt (by omega) (by omega)
    rw [this, show ((n : Int) - 1).toNat = n - 1 by omega]
  · rw [if_neg h, Int.emod_eq_of_lt (by omega) (by omega), show ((i : Int) - 1).toNat = i - 1 by omega]
theorem at_mod (f : List Bool) {n i : Nat} (hi : i < n) : f.getD ((i : Int) % (n : Int)).toNat false = f.getD i false := by
  rw [Int.emod_eq_of_lt (by omega) (by omega), Int.toNat_natCast]
theorem cellsC_c (w h : Int) (b : Bool) (l : List Bool) : Contract Try.prog 26 [GA w h b l, B true] (I h) := by
  refine Contract.intro (effS [] false) 6 follows Try.func26 rfl rfl (by kernel_rfl) (Nat.le_of_ble_eq_true rfl) ?_
  simp (disch := first | assumption | omega | rfl | simp only [RH]) only [↓RP, RG, FX, RQ, ↓reduceIte, Nat.reduceEqDiff, reduceCtorEq, Nat.reduceBEq, Nat.reduceAdd, Nat.reduceLeDiff, args0_2]
  rw [resVal_1 rfl]; simp (disch := first | assumption | omega | rfl | simp only [RH]) only [↓RP, RG, FX, RQ, ↓reduceIte, Nat.reduceEqDiff, reduceCtorEq, Nat.reduceBEq, Nat.reduceAdd, Nat.reduceLeDiff, RS]
theorem cellsR_c (w h : Int) (b : Bool) (l : List Bool) : Contract Try.prog 26 [GA w h b l, B false] (I w) := by
  refine Contract.intro (effS [] false) 6 follows Try.func26 rfl rfl (by kernel_rfl) (Nat.le_of_ble_eq_true rfl) ?_
  simp (disch := first | assumption | omega | rfl | simp only [RH]) only [↓RP, RG, FX, RQ, ↓reduceIte, Nat.reduceEqDiff, reduceCtorEq, Nat.reduceBEq, Nat.reduceAdd, Nat.reduceLeDiff, args0_2]
  rw [resVal_1 rfl]; simp (disch := first | assumption | omega | rfl | simp only [RH]) only [↓RP, RG, FX, RQ, ↓reduceIte, Nat.reduceEqDiff, reduceCtorEq, Nat.reduceBEq, Nat.reduceAdd, Nat.reduceLeDiff, RS]
theorem crossW_c {W H : Nat} (b : Bool) {l : List Bool} (wp : Bool) (at' : Int) (f : List Bool) {n : Nat} (hn : f.length = n) (hn2 : n ≤ 64) (hc : Contract Try.prog 26 [GA W H b l, B wp] (I n)) (hf : ∀ i : Int, -1000000 ≤ i → i ≤ 1000000 → Contract Try.prog 28 [GA W H b l, B wp, I at', I i] (B (f.getD (i % (n : Int)).toNat false))) :
    Contract Try.prog 27 [GA W H b l, B wp, I at'] (I (crs f n)) := by
  refine Contract.intro (effS [] false) 6 follows Try.func27 rfl rfl (by kernel_rfl) (Nat.le_of_ble_eq_true rfl) ?_
  simp (disch := first | assumption | omega | rfl | simp only [RH]) only [↓RP, RG, FX, RQ, ↓reduceIte, Nat.reduceEqDiff, reduceCtorEq, Nat.reduceBEq, Nat.reduceAdd, Nat.reduceLeDiff, args0_3]
  refine loopK_I [1, 2, 3, 7, 8] (fun i : Nat => i ≤ n) (fun i => ⟨[(1, B wp), (2, I at'), (3, .ptr 0 0 3), (7, I (crs f i)), (8, I i)], [⟨24, 3, [I W, I H, BA b l]⟩]⟩) (fun i => n - i) 0 (by omega) (by simp only [↓RP, RG, FX, RQ, ↓reduceIte, Nat.reduceEqDiff, reduceCtorEq, Nat.reduceBEq, Nat.reduceAdd, Nat.reduceLeDiff]; rfl) ?_
  intro i hi
  by_cases hlt : i < n
  · have f1 := hf i (by omega) (by omega)
    have f2 := hf ((i : Int) - 1) (by omega) (by omega)
    rw [at_mod f hlt] at f1
    rw [pv_mod f hn hlt] at f2
    have hcl := crs_le f i
    simp (disch := first | assumption | omega | rfl | simp only [RH]) only [↓RP, RG, FX, RQ, ↓reduceIte, Nat.reduceEqDiff, reduceCtorEq, Nat.reduceBEq, Nat.reduceAdd, Nat.reduceLeDiff]
    refine callK_F 6 (hc) (by simp (disch := first | assumption | omega | rfl | simp only [RH]) only [↓RP, RG, FX, RQ, ↓reduceIte, Nat.reduceEqDiff, reduceCtorEq, Nat.reduceBEq, Nat.reduceAdd, Nat.reduceLeDiff, RA] <;> rfl) (.inl (by simp [allFresh, ints_fresh, bools_fresh])) ?_
    simp (disch := first | assumption | omega | rfl | simp only [RH]) only [↓RP, RG, FX, RQ, ↓reduceIte, Nat.reduceEqDiff, reduceCtorEq, Nat.reduceBEq, Nat.reduceAdd, Nat.reduceLeDiff]
    refine callK_F 6 (f1) (by simp (disch := first | assumption | omega | rfl | simp only [RH]) only [↓RP, RG, FX, RQ, ↓reduceIte, Nat.reduceEqDiff, reduceCtorEq, Nat.reduceBEq, Nat.reduceAdd, Nat.reduceLeDiff, RA] <;> rfl) (.inl (by simp [allFresh, ints_fresh, bools_fresh])) ?_
    simp (disch := first | assumption | omega | rfl | simp only [RH]) only [↓RP, RG, FX, RQ, ↓reduceIte, Nat.reduceEqDiff, reduceCtorEq, Nat.reduceBEq, Nat.reduceAdd, Nat.reduceLeDiff]
    refine callK_F 6 (f2) (by simp (disch := first | assumption | omega | rfl | simp only [RH]) only [↓RP, RG, FX, RQ, ↓reduceIte, Nat.reduceEqDiff, reduceCtorEq, Nat.reduceBEq, Nat.reduceAdd, Nat.reduceLeDiff, RA] <;> rfl) (.inl (by simp [allFresh, ints_fresh, bools_fresh])) ?_
    by_cases hq : f.getD i false = pvF f i
    · have hq2 : (!(f.getD i false == pvF f i)) = false := by simpa using hq
      simp (disch := first | assumption | omega | rfl | simp only [RH]) only [↓RP, RG, FX, RQ, ↓reduceIte, Nat.reduceEqDiff, reduceCtorEq, Nat.reduceBEq, Nat.reduceAdd, Nat.reduceLeDiff, hq2]
      exact ⟨i + 1, by omega, by simp only [crs, if_pos hq, Nat.add_zero]; rfl, by omega⟩
    · have hq2 : (!(f.getD i false == pvF f i)) = true := by simpa using hq
      simp (disch := first | assumption | omega | rfl | simp only [RH]) only [↓RP, RG, FX, RQ, ↓reduceIte, Nat.reduceEqDiff, reduceCtorEq, Nat.reduceBEq, Nat.reduceAdd, Nat.reduceLeDiff, hq2]
      exact ⟨i + 1, by omega, by simp only [crs, if_neg hq]; rfl, by omega⟩
  · obtain rfl : n = i := by omega
    simp (disch := first | assumption | omega | rfl | simp only [RH]) only [↓RP, RG, FX, RQ, ↓reduceIte, Nat.reduceEqDiff, reduceCtorEq, Nat.reduceBEq, Nat.reduceAdd, Nat.reduceLeDiff]
    refine callK_F 6 (hc) (by simp (disch := first | assumption | omega | rfl | simp only [RH]) only [↓RP, RG, FX, RQ, ↓reduceIte, Nat.reduceEqDiff, reduceCtorEq, Nat.reduceBEq, Nat.reduceAdd, Nat.reduceLeDiff, RA] <;> rfl) (.inl (by simp [allFresh, ints_fresh, bools_fresh])) ?_
    simp (disch := first | assumption | omega | rfl | simp only [RH]) only [↓RP, RG, FX, RQ, ↓reduceIte, Nat.reduceEqDiff, reduceCtorEq, Nat.reduceBEq, Nat.reduceAdd, Nat.reduceLeDiff]
    rw [resVal_1 rfl]; simp (disch := first | assumption | omega | rfl | simp only [RH]) only [↓RP, RG, FX, RQ, ↓reduceIte, Nat.reduceEqDiff, reduceCtorEq, Nat.reduceBEq, Nat.reduceAdd, Nat.reduceLeDiff, RS]
    first | done | rfl
section
variable {W H : Nat} (hW0 : 0 < W) (hH0 : 0 < H) (hW : W ≤ 64) (hH : H ≤ 64) (b : Bool) {l : List Bool} (hn : l.length = W * H)
include hW0 hH0 hW hH hn
theorem crossRC_c {x : Nat} (hx : x < W) : Contract Try.prog 27 [GA W H b l, B true, I x] (I (crs (faC W H l x) H)) :=
  crossW_c b true x (faC W H l x) (faC_len W H l x) hH (cellsC_c W H b l) fun i h1 h2 => faceC_c hW0 hH0 hW hH b hn hx h1 h2
theorem crossRR_c {y : Nat} (hy : y < H) : Contract Try.prog 27 [GA W H b l, B false, I y] (I (crs (faR W l y) W)) :=
  crossW_c b false y (faR W l y) (faR_len W l y) hW (cellsR_c W H b l) fun i h1 h2 => faceR_c hW0 hH0 hW hH b hn hy h1 h2
end
section
variable {W H : Nat} (hW0 : 0 < W) (hH0 : 0 < H) (hW : W ≤ 64) (hH : H ≤ 64) (b : Bool) {l : List Bool} (hn : l.length = W * H)
include hW0 hH0 hW hH hn
end
end Go.Proofs.Ytikchhmddddgaaa

/- Chapter 8: runs of a thread. Plain. -/
set_option linter.unusedSimpArgs false
set_option linter.unusedVariables false
set_option maxRecDepth 100000
namespace Go.Proofs.Ytikchhmddddgaaa
open Go Go.Proofs Go.AW

/-- How many cells from there on are alike. -/
def tw (c : Bool) : List Bool → Nat
  | [] => 0
  | x :: r => if x = c then tw c r + 1 else 0
theorem tw_le (c : Bool) : ∀ l, tw c l ≤ l.length
  | [] => Nat.le_refl _
  | x :: r => by have := tw_le c r; unfold tw; split <;> simp <;> omega
theorem tw_in (c : Bool) : ∀ (l : List Bool) (t : Nat), t < tw c l → l.getD t false = c
  | [], t, h => by simp [tw] at h
  | x :: r, t, h => by
    unfold tw at h
    split at h
    · rename_i hx
      cases t with
      | zero => exact hx
      | succ t => exact tw_in c r t (by omega)
    · omega
theorem tw_end (c : Bool) : ∀ (l : List Bool), tw c l < l.length → l.getD (tw c l) false ≠ c
  | [], h => by simp at h
  | x :: r, h => by
    unfold tw at h ⊢
    split
    · rename_i hx
      rw [if_pos hx] at h
      exact tw_end c r (by simpa using h)
    · rename_i hx; exact hx
/-- The run that begins at r. -/
def runF (g : List Bool) (c : Bool) (r : Nat) : Nat := tw c (g.drop r)
theorem runF_le (g : List Bool) (c : Bool) (r : Nat) : runF g c r ≤ g.length - r := by have := tw_le c (g.drop r); simpa [runF] using this
theorem getD_drop (g : List Bool) (r t : Nat) : (g.drop r).getD t false = g.getD (r + t) false := by simp [List.getD_eq_getElem?_getD]
theorem runF_in {g : List Bool} {c : Bool} {r t : Nat} (h : t < runF g c r) : g.getD (r + t) false = c := by rw [← getD_drop]; exact tw_in c _ t h
theorem runF_end {g : List Bool} {c : Bool} {r : Nat} (h : r + runF g c r < g.length) : g.getD (r + runF g c r) false ≠ c := by
  rw [← getD_drop]; exact tw_end c _ (by unfold runF at h; simp; omega)
theorem runF_lt {g : List Bool} {c : Bool} {r t : Nat} (ht : t ≤ runF g c r) : (t < runF g c r ↔ r + t < g.length ∧ g.getD (r + t) false = c) := by
  constructor
  · intro h
    have := runF_le g c r
    exact ⟨by omega, runF_in h⟩
  · rintro ⟨h1, h2⟩
    refine Classical.byContradiction fun hno => ?_
    obtain rfl : t = runF g c r := by omega
    exact runF_end h1 h2
/-- A run begins there. -/
def stF (g : List Bool) (c : Bool) (r : Nat) : Bool := decide (0 < r) && decide (r < g.length) && (g.getD r false == c) && !(g.getD (r - 1) false == c)
theorem stF_iff {g : List Bool} {c : Bool} {r : Nat} : stF g c r = true ↔ 0 < r ∧ r < g.length ∧ g.getD r false = c ∧ g.getD (r - 1) false ≠ c := by
  unfold stF
  cases h1 : g.getD r false <;> cases h2 : g.getD (r - 1) false <;> cases c <;> simp
/-- The runs that begin ahead of i. -/
def fnd (g : List Bool) (c : Bool) (i : Nat) : List Nat := (List.range i).filter fun r => stF g c r
theorem fnd_no {g : List Bool} {c : Bool} {i : Nat} (h : stF g c i = false) : fnd g c (i + 1) = fnd g c i := by
  unfold fnd; rw [List.range_succ, List.filter_append]; simp [h]
theorem fnd_yes {g : List Bool} {c : Bool} {i : Nat} (h : stF g c i = true) : fnd g c (i + 1) = fnd g c i ++ [i] := by
  unfold fnd; rw [List.range_succ, List.filter_append]; simp [h]
theorem fnd_len (g : List Bool) (c : Bool) (i : Nat) : (fnd g c i).length ≤ i := by
  unfold fnd; exact Nat.le_trans (List.length_filter_le _ _) (by simp)
/-- Past a run. -/
theorem fnd_run {g : List Bool} {c : Bool} {i : Nat} (h : stF g c i = true) : fnd g c (i + runF g c i + 1) = fnd g c i ++ [i] := by
  obtain ⟨s1, s2, s3, s4⟩ := stF_iff.1 h
  have key : ∀ t, t ≤ runF g c i → fnd g c (i + t + 1) = fnd g c i ++ [i] := by
    intro t
    induction t with
    | zero => intro _; exact fnd_yes h
    | succ t ih =>
      intro ht
      rw [← ih (by omega)]
      refine fnd_no ?_
      cases hs : stF g c (i + (t + 1)) with
      | false => rfl
      | true =>
        obtain ⟨_, _, _, h4⟩ := stF_iff.1 hs
        exact absurd (runF_in (show t < runF g c i by omega)) h4
  exact key _ (Nat.le_refl _)
theorem fnd_over {g : List Bool} {c : Bool} {i : Nat} (h : g.length ≤ i) : fnd g c i = fnd g c g.length := by
  induction i with
  | zero => rw [show g.length = 0 by omega]
  | succ i ih =>
    by_cases hi : g.length = i + 1
    · rw [hi]
    · rw [← ih (by omega)]
      refine fnd_no ?_
      cases hs : stF g c i with
      | false => rfl
      | true => have := (stF_iff.1 hs).2.1; omega
/-- A thread, begun elsewhere. -/
def rotF (f : List Bool) (s : Nat) : List Bool := (List.range f.length).map fun i => f.getD ((s + i) % f.length) false
theorem rotF_len (f : List Bool) (s : Nat) : (rotF f s).length = f.length := by simp [rotF]
theorem rotF_get {f : List Bool} {s i : Nat} (h : i < f.length) : (rotF f s).getD i false = f.getD ((s + i) % f.length) false := by simp [rotF, List.getD_eq_getElem?_getD, h]
/-- Where a run that begins at r there begins here, and back. -/
def hereF (n s r : Nat) : Nat := (s + r) % n
def thereF (n s i : Nat) : Nat := (i + n - s) % n
theorem here_there {n s i : Nat} (hs : s < n) (hi : i < n) : hereF n s (thereF n s i) = i := by
  unfold hereF thereF
  by_cases h : s ≤ i
  · rw [show i + n - s = (i - s) + n by omega, Nat.add_mod_right, Nat.mod_eq_of_lt (show i - s < n by omega), show s + (i - s) = i by omega, Nat.mod_eq_of_lt hi]
  · rw [Nat.mod_eq_of_lt (show i + n - s < n by omega), show s + (i + n - s) = i + n by omega, Nat.add_mod_right, Nat.mod_eq_of_lt hi]
theorem there_here {n s r : Nat} (hs : s < n) (hr : r < n) : thereF n s (hereF n s r) = r := by
  unfold hereF thereF
  by_cases h : s + r < n
  · rw [Nat.mod_eq_of_lt h, show s + r + n - s = r + n by omega, Nat.add_mod_right, Nat.mod_eq_of_lt hr]
  · have e : (s + r) % n = s + r - n := by
      rw [show s + r = (s + r - n) + n by omega, Nat.add_mod_right, Nat.mod_eq_of_lt (by omega)]
      omega
    rw [e, show s + r - n + n - s = r by omega, Nat.mod_eq_of_lt hr]
theorem here_lt {n s r : Nat} (hn : 0 < n) : hereF n s r < n := Nat.mod_lt _ hn
theorem there_lt {n s i : Nat} (hn : 0 < n) : thereF n s i < n := Nat.mod_lt _ hn
/-- A run begins at cell i of a thread. -/
def stR (f : List Bool) (c : Bool) (i : Nat) : Bool := (f.getD i false == c) && !(pvF f i == c)
theorem st_same {f : List Bool} {c : Bool} {s r : Nat} (hs : s < f.length) (hc : f.getD s false ≠ c) (hr : r < f.length) : stF (rotF f s) c r = stR f c (hereF f.length s r) := by
  rw [Bool.eq_iff_iff, stF_iff]
  unfold stR
  rw [rotF_len]
  have e0 := rotF_get (f := f) (s := s) hr
  have hx : f.getD ((s + r) % f.length) false = f.getD (hereF f.length s r) false := rfl
  by_cases h0 : r = 0
  · subst h0
    have : hereF f.length s 0 = s := by unfold hereF; rw [Nat.add_zero, Nat.mod_eq_of_lt hs]
    rw [this]
    simp
    intro h; exact absurd h hc
  · have e1 := rotF_get (f := f) (s := s) (i := r - 1) (by omega)
    have e2 : f.getD ((s + (r - 1)) % f.length) false = pvF f (hereF f.length s r) := by
      unfold pvF hereF
      by_cases h1 : s + r < f.length
      · rw [Nat.mod_eq_of_lt h1, if_neg (by omega), Nat.mod_eq_of_lt (by omega), show s + (r - 1) = s + r - 1 by omega]
      · have e : (s + r) % f.length = s + r - f.length := by
          rw [show s + r = (s + r - f.length) + f.length by omega, Nat.add_mod_right, Nat.mod_eq_of_lt (by omega)]
          omega
        rw [e]
        by_cases h2 : s + r - f.length = 0
        · rw [if_pos h2, show s + (r - 1) = f.length - 1 by omega, Nat.mod_eq_of_lt (by omega)]
        · rw [if_neg h2, show s + (r - 1) = (s + r - f.length - 1) + f.length by omega, Nat.add_mod_right, Nat.mod_eq_of_lt (by omega)]
    rw [e0, e1, hx, e2]
    cases f.getD (hereF f.length s r) false <;> cases pvF f (hereF f.length s r) <;> cases c <;> simp <;> omega
end Go.Proofs.Ytikchhmddddgaaa

/- Chapter 8: the floats of a thread, in order. Plain. -/
set_option linter.unusedSimpArgs false
set_option linter.unusedVariables false
set_option maxRecDepth 100000
namespace Go.Proofs.Ytikchhmddddgaaa
open Go Go.Proofs Go.AW

/-- How long the run is that begins at cell i, around. -/
def lenR (f : List Bool) (c : Bool) (i : Nat) : Nat := tw c (rotF f i)
theorem lenR_le (f : List Bool) (c : Bool) (i : Nat) : lenR f c i ≤ f.length := by
  have := tw_le c (rotF f i); rwa [rotF_len] at this
theorem lenR_in {f : List Bool} {c : Bool} {i t : Nat} (h : t < lenR f c i) : f.getD ((i + t) % f.length) false = c := by
  rw [← rotF_get (Nat.lt_of_lt_of_le h (lenR_le f c i))]; exact tw_in c _ t h
theorem lenR_end {f : List Bool} {c : Bool} {i : Nat} (h : lenR f c i < f.length) : f.getD ((i + lenR f c i) % f.length) false ≠ c := by
  rw [← rotF_get h]; exact tw_end c _ (by rw [rotF_len]; exact h)
theorem mod_mid (s r t n : Nat) : ((s + r) % n + t) % n = (s + (r + t)) % n := by rw [Nat.mod_add_mod, Nat.add_assoc]
theorem lenR_lt {f : List Bool} {c : Bool} {i s : Nat} (hi : i < f.length) (hs : s < f.length) (hc : f.getD s false ≠ c) : lenR f c i < f.length := by
  refine Classical.byContradiction fun hno => hc ?_
  have h1 := there_lt (n := f.length) (s := i) (i := s) (by omega)
  have h2 := lenR_in (f := f) (c := c) (i := i) (t := thereF f.length i s) (by omega)
  have h3 : (i + thereF f.length i s) % f.length = s := here_there hi hs
  rwa [h3] at h2
theorem run_len {f : List Bool} {c : Bool} {s r : Nat} (hs : s < f.length) (hc : f.getD s false ≠ c) (hr : r < f.length) : runF (rotF f s) c r = lenR f c (hereF f.length s r) := by
  have hl := runF_le (rotF f s) c r
  rw [rotF_len] at hl
  have hin : ∀ t, t < runF (rotF f s) c r → f.getD ((hereF f.length s r + t) % f.length) false = c := fun t ht => by
    have h1 := runF_in ht
    rw [rotF_get (by omega)] at h1
    unfold hereF; rw [mod_mid]; exact h1
  have hend : f.getD ((hereF f.length s r + runF (rotF f s) c r) % f.length) false ≠ c := by
    unfold hereF; rw [mod_mid]
    by_cases h : r + runF (rotF f s) c r < f.length
    · have h1 := runF_end (g := rotF f s) (c := c) (r := r) (by rw [rotF_len]; exact h)
      rwa [rotF_get h] at h1
    · rw [show s + (r + runF (rotF f s) c r) = s + f.length by omega, Nat.add_mod_right, Nat.mod_eq_of_lt hs]; exact hc
  have h1 : lenR f c (hereF f.length s r) ≤ runF (rotF f s) c r := Nat.le_of_not_lt fun h => hend (lenR_in h)
  have h2 : runF (rotF f s) c r ≤ lenR f c (hereF f.length s r) := Nat.le_of_not_lt fun h => lenR_end (f := f) (c := c) (i := hereF f.length s r) (by omega) (hin _ h)
  omega
theorem lenR_pos {f : List Bool} {c : Bool} {i : Nat} (hi : i < f.length) (h : f.getD i false = c) : 0 < lenR f c i := by
  have h0 : 0 < f.length := by omega
  have hlt := rotF_get (f := f) (s := i) h0
  rw [Nat.add_zero, Nat.mod_eq_of_lt hi, h] at hlt
  unfold lenR
  have hl := rotF_len f i
  cases hg : rotF f i with
  | nil => rw [hg] at hl; simp at hl; omega
  | cons x r =>
    rw [hg] at hlt
    simp only [List.getD_cons_zero] at hlt
    simp [tw, hlt]
/-- Where the floats of a side begin. -/
def sts (f : List Bool) (c : Bool) : List Nat := (List.range f.length).filter (stR f c)
theorem sts_mem {f : List Bool} {c : Bool} {i : Nat} : i ∈ sts f c ↔ i < f.length ∧ stR f c i = true := by
  unfold sts; rw [List.mem_filter, List.mem_range]
theorem sts_sorted (f : List Bool) (c : Bool) : (sts f c).Pairwise (· < ·) := List.Pairwise.filter _ List.pairwise_lt_range
theorem sts_len (f : List Bool) (c : Bool) : (sts f c).length ≤ f.length := by
  have := List.length_filter_le (stR f c) (List.range f.length); simpa [sts] using this
/-- .. as they are met, from a cell of the other side on. -/
def mets (f : List Bool) (c : Bool) (s i : Nat) : List Nat := (fnd (rotF f s) c i).map (hereF f.length s)
theorem mets_len (f : List Bool) (c : Bool) (s i : Nat) : (mets f c s i).length ≤ i := by
  unfold mets; rw [List.length_map]; exact fnd_len _ _ _
theorem mets_mem {f : List Bool} {c : Bool} {s : Nat} (hs : s < f.length) (hc : f.getD s false ≠ c) (i : Nat) : i ∈ mets f c s f.length ↔ i ∈ sts f c := by
  unfold mets fnd
  rw [List.mem_map, sts_mem]
  constructor
  · rintro ⟨r, hr, rfl⟩
    rw [List.mem_filter, List.mem_range] at hr
    exact ⟨here_lt (by omega), by rw [← st_same hs hc hr.1]; exact hr.2⟩
  · rintro ⟨h1, h2⟩
    refine ⟨thereF f.length s i, ?_, here_there hs h1⟩
    rw [List.mem_filter, List.mem_range]
    have h3 := there_lt (n := f.length) (s := s) (i := i) (by omega)
    exact ⟨h3, by rw [st_same hs hc h3, here_there hs h1]; exact h2⟩
theorem mets_nodup {f : List Bool} {c : Bool} {s : Nat} (hs : s < f.length) : (mets f c s f.length).Nodup := by
  unfold mets fnd
  refine List.pairwise_map.2 ?_
  have h0 : ((List.range f.length).filter fun r => stF (rotF f s) c r).Pairwise (fun a b => a ≠ b) := List.Pairwise.filter _ List.nodup_range
  refine List.Pairwise.imp_of_mem (fun {a b} ha hb hne he => hne ?_) h0
  rw [List.mem_filter, List.mem_range] at ha hb
  have h1 := there_here hs ha.1
  rw [he, there_here hs hb.1] at h1
  exact h1.symm
theorem nsinc_ext (a b : List Nat) (ha : a.Pairwise (· < ·)) (hb : b.Pairwise (· < ·)) (h : ∀ x, x ∈ a ↔ x ∈ b) : a = b := by
  have hm : a.map (fun n : Nat => (n : Int)) = b.map (fun n : Nat => (n : Int)) := by
    refine sinc_ext _ _ (List.pairwise_map.2 (ha.imp (fun h => by omega))) (List.pairwise_map.2 (hb.imp (fun h => by omega))) fun x => ?_
    rw [List.mem_map, List.mem_map]
    exact ⟨fun ⟨y, h1, h2⟩ => ⟨y, (h y).1 h1, h2⟩, fun ⟨y, h1, h2⟩ => ⟨y, (h y).2 h1, h2⟩⟩
  have := congrArg (List.map Int.toNat) hm
  simpa [List.map_map, Function.comp_def] using this
end Go.Proofs.Ytikchhmddddgaaa

/- Chapter 8: lists of floats as cells; one thread's floats, as an own object. -/
set_option linter.unusedSimpArgs false
set_option linter.unusedVariables false
set_option maxRecDepth 100000
namespace Go.Proofs.Ytikchhmddddgaaa
open Go Go.Proofs Go.AW

/-- A float. -/
structure Fl where
  w : Bool
  a : Nat
  f : Nat
  n : Nat
  z : Bool
/-- Its cells. -/
def flc (x : Fl) : List AVal := [B x.w, I x.a, I x.f, I x.n, B x.z]
def fls (l : List Fl) : List AVal := l.flatMap flc
theorem fls_nil : fls [] = [] := rfl
theorem fls_cons (x : Fl) (l : List Fl) : fls (x :: l) = flc x ++ fls l := rfl
theorem fls_app (a b : List Fl) : fls (a ++ b) = fls a ++ fls b := by simp [fls]
theorem fls_one1 (x : Fl) : fls [x] = flc x := by simp [fls]
theorem flc_length (x : Fl) : (flc x).length = 5 := rfl
theorem fls_length (l : List Fl) : (fls l).length = l.length * 5 := by
  induction l with
  | nil => rfl
  | cons x l ih => rw [fls_cons, List.length_append, ih, flc_length, List.length_cons]; omega
theorem fls_all (p : AVal → Prop) (hb : ∀ b : Bool, p (B b)) (hi : ∀ i : Int, p (I i)) (l : List Fl) : ∀ x ∈ fls l, p x := by
  intro x hx
  rw [fls, List.mem_flatMap] at hx
  obtain ⟨y, _, hy⟩ := hx
  simp only [flc, List.mem_cons, List.not_mem_nil, or_false] at hy
  rcases hy with rfl | rfl | rfl | rfl | rfl
  · exact hb _
  · exact hi _
  · exact hi _
  · exact hi _
  · exact hb _
theorem map_same {g : AVal → AVal} {l : List AVal} (h : ∀ x ∈ l, g x = x) : l.map g = l := by
  rw [List.map_congr_left (g := fun x => x) h, List.map_id']
theorem map_ren_fls (f : Nat → Option Nat) (n : Nat) (l : List Fl) : (fls l).map (ren f (n + 1)) = fls l := by
  exact map_same (fls_all _ (fun _ => rfl) (fun _ => rfl) l)
theorem fls_arg (h : List AObj) (n : Nat) (l : List Fl) : (fls l).map (argOf h (n + 1)) = fls l := by
  exact map_same (fls_all _ (fun _ => rfl) (fun _ => rfl) l)
theorem fls_res (h : List AObj) (n : Nat) (l : List Fl) : (fls l).map (resOf h (n + 1)) = fls l := by
  exact map_same (fls_all _ (fun _ => rfl) (fun _ => rfl) l)
theorem fls_one (l : List Fl) : (fls l).all AVal.one = true := by
  rw [List.all_eq_true]; exact fls_all _ (fun _ => rfl) (fun _ => rfl) l
theorem fls_fresh (n : Nat) (l : List Fl) : (fls l).all (allFresh (n + 1)) = true := by
  rw [List.all_eq_true]; exact fls_all _ (fun _ => rfl) (fun _ => rfl) l
theorem fls_drop : ∀ {l : List Fl} {i : Nat} (h : i < l.length), (fls l).drop (i * 5) = flc l[i] ++ (fls l).drop ((i + 1) * 5)
  | x :: l, 0, _ => by
    rw [fls_cons]; simp [flc]
  | x :: l, i + 1, h => by
    have h' : i < l.length := by simpa using h
    have := fls_drop h'
    rw [fls_cons, show (i + 1) * 5 = i * 5 + 5 by omega, show (i + 1 + 1) * 5 = (i + 1) * 5 + 5 by omega]
    simpa [flc] using this
theorem cA_fls {t s n : Nat} {l : List Fl} (hn : l.length * 5 = n) : cA (some ⟨t, s, fls l⟩) n = some (fls l) := by simp [cA, fls_length, hn]
theorem ren_gwF (f : Nat → Option Nat) (n s k m : Nat) (hk : f k = some k) : ren f (n + 1) (gwW s k m) = gwW s k m := by
  unfold gwW
  split
  · simp [ren, hk]
  · simp [ren, hk]
theorem renO_goF (f : Nat → Option Nat) (n e s : Nat) (l : List Fl) : renO f (n + 1) (goW e s (fls l)) = goW e s (fls l) := by
  cases l with
  | nil => rfl
  | cons x r =>
    have := map_ren_fls f n (x :: r)
    simp only [fls_cons, flc, List.cons_append, goW, renO] at this ⊢
    rw [this]
theorem goF_pos {e s : Nat} {l : List Fl} (h : 0 < l.length) : goW e s (fls l) = ⟨e, s, fls l⟩ := by
  cases l with
  | nil => simp at h
  | cons x r => rfl
theorem gwW_pos {s k n : Nat} (h : 0 < n) : gwW s k n = .ref k 0 n (n * s) := by unfold gwW; rw [if_neg (by omega)]
section
variable {P : Program} {t e s nb : Nat} {h : List AObj}
/-- Several wide elements more. -/
theorem append_WW [S : SlW P t e s nb] {k n m : Nat} {x : AVal} {xs ys : List AVal} (ho : h[k]? = some (goW e s xs)) (hx : xs.length = n * s) (hv : sview h x = some (m, ys)) (hy : ys.length = m * s) (c5 : ys.all AVal.one = true) (c6 : (n + m) * nb ≤ 140737488355328) (c7 : n + m ≤ 140737488355328) :
    aAppend P t h (gwW s k n) x = some (gwW s k (n + m), h.set k (goW e s (xs ++ ys))) := by
  obtain ⟨T, E, hT, he, hE, hs, hb, hz, h0⟩ := S.ex
  have ht : ys.take (m * s) = ys := List.take_of_length_le (by omega)
  simp only [aAppend, hT, he, hE, hv, hs, hb, ht]
  rw [if_pos ⟨hy, c5, by omega, hz⟩]
  unfold gwW
  have hk : k < h.length := (List.getElem?_eq_some_iff.1 ho).1
  have hset : ∀ {o : AObj}, h[k]? = some o → h.set k o = h := fun {o} ho => by
    have := (List.getElem?_eq_some_iff.1 ho).2
    rw [← this]; exact List.set_getElem_self hk
  by_cases hn : n = 0
  · subst hn
    have hx0 : xs = [] := List.eq_nil_of_length_eq_zero (by simpa using hx)
    subst hx0
    rw [if_pos rfl, Nat.zero_add, List.nil_append]
    by_cases hm : m = 0
    · subst hm
      have hy0 : ys = [] := List.eq_nil_of_length_eq_zero (by simpa using hy)
      subst hy0
      simp only [if_pos]
      rw [hset ho]
    · simp only [if_neg hm, ho, goW]
      rw [if_pos ⟨trivial, by simpa using c6, by omega⟩]
      cases ys with
      | nil =>
        exfalso
        have : 0 < m * s := Nat.mul_pos (by omega) (by omega)
        simp at hy; omega
      | cons y yr => simp
  · rw [if_neg hn, if_neg (show ¬ n + m = 0 by omega)]
    cases xs with
    | nil =>
      exfalso
      have : 0 < n * s := Nat.mul_pos (by omega) (by omega)
      simp at hx; omega
    | cons x xr =>
      simp only [ho, goW, List.cons_append]
      rw [if_pos ⟨hx, trivial, trivial, trivial, c6, c7⟩]
end

theorem indexB_no {f : List Bool} {c : Bool} (hl : f.length ≤ 1000000) (h : ∀ i, i < f.length → f.getD i false = c) : Contract Try.prog 23 [BA false f, B (!c)] (I (-1)) := by
  refine Contract.intro (effS [] false) 6 follows Try.func23 rfl rfl (by kernel_rfl) (Nat.le_of_ble_eq_true rfl) ?_
  simp (disch := first | assumption | omega | rfl | simp only [RH]) only [↓RP, RG, FX, RQ, ↓reduceIte, Nat.reduceEqDiff, reduceCtorEq, Nat.reduceBEq, Nat.reduceAdd, Nat.reduceLeDiff, args0_2]
  refine loopK_I [0, 1, 7, 8] (fun i : Nat => i ≤ f.length) (fun i => ⟨[(0, BA false f), (1, B (!c)), (7, I f.length), (8, I i)], []⟩) (fun i => f.length - i) 0 (by omega) (by simp only [↓RP, RG, FX, RQ, ↓reduceIte, Nat.reduceEqDiff, reduceCtorEq, Nat.reduceBEq, Nat.reduceAdd, Nat.reduceLeDiff]; rfl) ?_
  intro i hi
  by_cases hlt : i < f.length
  · have hq := h i hlt
    have hq2 : ((!c) == f.getD i false) = false := by rw [hq]; cases c <;> rfl
    simp (disch := first | assumption | omega | rfl | simp only [RH]) only [↓RP, RG, FX, RQ, ↓reduceIte, Nat.reduceEqDiff, reduceCtorEq, Nat.reduceBEq, Nat.reduceAdd, Nat.reduceLeDiff, hq2, Int.toNat_natCast]
    exact ⟨i + 1, by omega, rfl, by omega⟩
  · obtain rfl : f.length = i := by omega
    simp (disch := first | assumption | omega | rfl | simp only [RH]) only [↓RP, RG, FX, RQ, ↓reduceIte, Nat.reduceEqDiff, reduceCtorEq, Nat.reduceBEq, Nat.reduceAdd, Nat.reduceLeDiff]
    rw [resVal_1 rfl]; simp (disch := first | assumption | omega | rfl | simp only [RH]) only [↓RP, RG, FX, RQ, ↓reduceIte, Nat.reduceEqDiff, reduceCtorEq, Nat.reduceBEq, Nat.reduceAdd, Nat.reduceLeDiff, RS]
theorem indexB_yes {f : List Bool} {c : Bool} {s : Nat} (hl : f.length ≤ 1000000) (hs : s < f.length) (hc : f.getD s false ≠ c) (h : ∀ i, i < s → f.getD i false = c) : Contract Try.prog 23 [BA false f, B (!c)] (I s) := by
  refine Contract.intro (effS [] false) 6 follows Try.func23 rfl rfl (by kernel_rfl) (Nat.le_of_ble_eq_true rfl) ?_
  simp (disch := first | assumption | omega | rfl | simp only [RH]) only [↓RP, RG, FX, RQ, ↓reduceIte, Nat.reduceEqDiff, reduceCtorEq, Nat.reduceBEq, Nat.reduceAdd, Nat.reduceLeDiff, args0_2]
  refine loopK_I [0, 1, 7, 8] (fun i : Nat => i ≤ s) (fun i => ⟨[(0, BA false f), (1, B (!c)), (7, I f.length), (8, I i)], []⟩) (fun i => f.length - i) 0 (by omega) (by simp only [↓RP, RG, FX, RQ, ↓reduceIte, Nat.reduceEqDiff, reduceCtorEq, Nat.reduceBEq, Nat.reduceAdd, Nat.reduceLeDiff]; rfl) ?_
  intro i hi
  by_cases hlt : i < s
  · have hq := h i hlt
    have hq2 : ((!c) == f.getD i false) = false := by rw [hq]; cases c <;> rfl
    simp (disch := first | assumption | omega | rfl | simp only [RH]) only [↓RP, RG, FX, RQ, ↓reduceIte, Nat.reduceEqDiff, reduceCtorEq, Nat.reduceBEq, Nat.reduceAdd, Nat.reduceLeDiff, hq2, Int.toNat_natCast]
    exact ⟨i + 1, by omega, rfl, by omega⟩
  · obtain rfl : s = i := by omega
    have hq2 : ((!c) == f.getD s false) = true := by
      cases h1 : f.getD s false <;> cases c <;> simp_all
    simp (disch := first | assumption | omega | rfl | simp only [RH]) only [↓RP, RG, FX, RQ, ↓reduceIte, Nat.reduceEqDiff, reduceCtorEq, Nat.reduceBEq, Nat.reduceAdd, Nat.reduceLeDiff, hq2, Int.toNat_natCast]
    rw [resVal_1 rfl]; simp (disch := first | assumption | omega | rfl | simp only [RH]) only [↓RP, RG, FX, RQ, ↓reduceIte, Nat.reduceEqDiff, reduceCtorEq, Nat.reduceBEq, Nat.reduceAdd, Nat.reduceLeDiff, RS]
/-- A thread and a side, in two variables of their own. -/
theorem floats_s (w c : Bool) (a k n : Nat) (h : List AObj) : SpecTo Try.prog 19 [.agg [B w, I a, .ref k 0 n n], B c] h (.func (.func 22) [] [.ptr h.length 0 3, .ptr (h.length + 1) 0 1]) (h ++ [⟨49, 3, [B w, I a, .ref k 0 n n]⟩, ⟨4, 1, [B c]⟩]) := by
  refine SpecTo.intro (effS [] false) follows Try.func19 rfl rfl (by kernel_rfl) (Nat.le_of_ble_eq_true rfl) ?_
  simp (disch := first | assumption | omega | rfl | simp only [RH]) only [↓RP, RG, FX, RQ, ↓reduceIte, Nat.reduceEqDiff, reduceCtorEq, Nat.reduceBEq, Nat.reduceAdd, Nat.reduceLeDiff, args0_2, parts_agg]
  refine ⟨_, by rw [resVal_1 rfl]; simp (disch := first | assumption | omega | rfl | simp only [RH]) only [↓RP, RG, FX, RQ, ↓reduceIte, Nat.reduceEqDiff, reduceCtorEq, Nat.reduceBEq, Nat.reduceAdd, Nat.reduceLeDiff, raX_tmp, raX_cell, rvX_0, rvX_1, rvX_2, rvX_3, rvX_4, rvX_5]; rfl, Wk.of_eq ?_⟩
  first | rfl | simp
end Go.Proofs.Ytikchhmddddgaaa

/- Chapter 8: floats of a thread, as a list. -/
set_option linter.unusedSimpArgs false
set_option linter.unusedVariables false
set_option maxRecDepth 100000
namespace Go.Proofs.Ytikchhmddddgaaa
open Go Go.Proofs Go.AW

def flI (w : Bool) (a : Nat) (f : List Bool) (c : Bool) (i : Nat) : Fl := ⟨w, a, i, lenR f c i, false⟩
def flW (w : Bool) (a : Nat) (f : List Bool) : Fl := ⟨w, a, 0, f.length, true⟩
def flA (x : Fl) : AVal := .agg (flc x)
def flD (l : List Fl) (j : Nat) : Fl := l.getD j ⟨false, 0, 0, 0, false⟩
/-- As they are found, as they are listed. -/
def mtF (w : Bool) (a : Nat) (f : List Bool) (c : Bool) (s i : Nat) : List Fl := (mets f c s i).map (flI w a f c)
def stL (w : Bool) (a : Nat) (f : List Bool) (c : Bool) : List Fl := (sts f c).map (flI w a f c)
theorem mtF_len (w : Bool) (a : Nat) (f : List Bool) (c : Bool) (s i : Nat) : (mtF w a f c s i).length = (mets f c s i).length := by simp [mtF]
theorem stL_len (w : Bool) (a : Nat) (f : List Bool) (c : Bool) : (stL w a f c).length = (sts f c).length := by simp [stL]
theorem flD_get {l : List Fl} {j : Nat} (h : j < l.length) : flD l j = l[j] := by simp [flD, h]
theorem pX_fls {l : List Fl} {j : Nat} (h : j < l.length) : pX (some (true, 5)) ((fls l).drop (j * 5)) = some (.agg (flc (flD l j))) := by
  rw [fls_drop h, flD_get h, pX_agg, if_pos (by simp [flc])]
  rfl
theorem mets_1 (f : List Bool) (c : Bool) (s : Nat) : mets f c s 1 = [] := by
  have : stF (rotF f s) c 0 = false := by simp [stF]
  simp [mets, fnd, List.range_succ, this]
theorem mets_no {f : List Bool} {c : Bool} {s i : Nat} (h : (rotF f s).getD i false ≠ c) : mets f c s (i + 1) = mets f c s i := by
  unfold mets
  rw [fnd_no]
  cases hs : stF (rotF f s) c i with
  | false => rfl
  | true => exact absurd (stF_iff.1 hs).2.2.1 h
theorem mets_run {f : List Bool} {c : Bool} {s i : Nat} (h : stF (rotF f s) c i = true) : mets f c s (i + runF (rotF f s) c i + 1) = mets f c s i ++ [hereF f.length s i] := by
  unfold mets; rw [fnd_run h]; simp
theorem mets_over {f : List Bool} {c : Bool} {s i : Nat} (h : f.length ≤ i) : mets f c s i = mets f c s f.length := by
  unfold mets; rw [fnd_over (by rw [rotF_len]; exact h), rotF_len]
end Go.Proofs.Ytikchhmddddgaaa

/- The library's sort by a function, as this program bears it. -/
set_option linter.unusedVariables false
namespace Go.Proofs
open Go.Shelf
def Try.sortF_ren : Go.Shelf.Ren := ⟨fun | 6 => 24 | 15 => 30 | 14 => 29 | 28 => 41 | 29 => 42 | 20 => 33 | 21 => 34 | 22 => 35 | 23 => 36 | 24 => 37 | 25 => 38 | 26 => 39 | 27 => 40 | 46 => 43 | 47 => 44 | 48 => 45 | 49 => 46 | 50 => 47 | 57 => 48 | n => n, fun | 22 => 26 | 24 => 41 | 25 => 57 | 3 => 3 | 39 => 63 | 0 => 0 | 53 => 74 | 55 => 76 | 4 => 4 | 46 => 67 | 45 => 66 | 50 => 71 | 5 => 5 | 9 => 9 | 66 => 77 | 70 => 81 | 76 => 83 | 77 => 34 | n => n, fun | n => n⟩
theorem Try.sortF : Go.Proofs.SlLaysF0.n6 Try.prog Try.sortF_ren := {
  mixed := by kernel_rfl
  f6 := ⟨Try.f24.name, by decide, Try.func24.trans (congrArg some (by kernel_rfl))⟩
  f14 := ⟨Try.f29.name, by decide, Try.func29.trans (congrArg some (by kernel_rfl))⟩
  f15 := Try.func30.trans (congrArg some (by kernel_rfl))
  f20 := ⟨Try.f33.name, by decide, Try.func33.trans (congrArg some (by kernel_rfl))⟩
  f21 := ⟨Try.f34.name, by decide, Try.func34.trans (congrArg some (by kernel_rfl))⟩
  f22 := ⟨Try.f35.name, by decide, Try.func35.trans (congrArg some (by kernel_rfl))⟩
  f23 := ⟨Try.f36.name, by decide, Try.func36.trans (congrArg some (by kernel_rfl))⟩
  f24 := ⟨Try.f37.name, by decide, Try.func37.trans (congrArg some (by kernel_rfl))⟩
  f25 := ⟨Try.f38.name, by decide, Try.func38.trans (congrArg some (by kernel_rfl))⟩
  f26 := ⟨Try.f39.name, by decide, Try.func39.trans (congrArg some (by kernel_rfl))⟩
  f27 := ⟨Try.f40.name, by decide, Try.func40.trans (congrArg some (by kernel_rfl))⟩
  f28 := Try.func41.trans (congrArg some (by kernel_rfl))
  f29 := Try.func42.trans (congrArg some (by kernel_rfl))
  f46 := ⟨Try.f43.name, by decide, Try.func43.trans (congrArg some (by kernel_rfl))⟩
  f47 := Try.func44.trans (congrArg some (by kernel_rfl))
  f48 := Try.func45.trans (congrArg some (by kernel_rfl))
  f49 := ⟨Try.f46.name, by decide, Try.func46.trans (congrArg some (by kernel_rfl))⟩
  f50 := ⟨Try.f47.name, by decide, Try.func47.trans (congrArg some (by kernel_rfl))⟩
  f57 := ⟨Try.f48.name, by decide, Try.func48.trans (congrArg some (by kernel_rfl))⟩
  t0 := Try.underlying0
  a0 := Try.isAgg0
  z0 := Try.sizeOf0
  v0 := Try.zeroValue0
  t3 := Try.underlying3
  a3 := Try.isAgg3
  z3 := Try.sizeOf3
  v3 := Try.zeroValue3
  t4 := Try.underlying4
  a4 := Try.isAgg4
  z4 := Try.sizeOf4
  v4 := Try.zeroValue4
  t5 := Try.underlying5
  a5 := Try.isAgg5
  z5 := Try.sizeOf5
  v5 := Try.zeroValue5
  t9 := Try.underlying9
  a9 := Try.isAgg9
  z9 := Try.sizeOf9
  v9 := Try.zeroValue9
  t22 := Try.underlying26
  a22 := Try.isAgg26
  z22 := Try.sizeOf26
  v22 := Try.zeroValue26
  t25 := Try.underlying57
  a25 := Try.isAgg57
  z25 := Try.sizeOf57
  v25 := Try.zeroValue57
  t39 := Try.underlying63
  a39 := Try.isAgg63
  z39 := Try.sizeOf63
  v39 := Try.zeroValue63
  t45 := Try.underlying66
  a45 := Try.isAgg66
  z45 := Try.sizeOf66
  v45 := Try.zeroValue66
  t46 := Try.underlying67
  a46 := Try.isAgg67
  z46 := Try.sizeOf67
  v46 := Try.zeroValue67
  t50 := Try.underlying71
  a50 := Try.isAgg71
  z50 := Try.sizeOf71
  v50 := Try.zeroValue71
  t53 := Try.underlying74
  a53 := Try.isAgg74
  z53 := Try.sizeOf74
  v53 := Try.zeroValue74
  t55 := Try.underlying76
  a55 := Try.isAgg76
  z55 := Try.sizeOf76
  v55 := Try.zeroValue76
  t66 := Try.underlying77
  a66 := Try.isAgg77
  z66 := Try.sizeOf77
  v66 := Try.zeroValue77
  t70 := Try.underlying81
  a70 := Try.isAgg81
  z70 := Try.sizeOf81
  v70 := Try.zeroValue81
  t76 := Try.underlying83
  a76 := Try.isAgg83
  z76 := Try.sizeOf83
  v76 := Try.zeroValue83
  t77 := Try.underlying34
  a77 := Try.isAgg34
  z77 := Try.sizeOf34
  v77 := Try.zeroValue34 }
end Go.Proofs

/- Chapter 8: the library's sort of floats. -/
set_option linter.unusedSimpArgs false
set_option linter.unusedVariables false
set_option maxRecDepth 100000
namespace Go.Proofs.Ytikchhmddddgaaa
open Go Go.Proofs Go.AW

section
open Go.Sort Go.Shelf
/-- The cells of the float that begins at x. -/
def encF (w : Bool) (a : Nat) (f : List Bool) (c : Bool) (x : Fin 1000) : List Value := [.bool w, .int .i64 a, .int .i64 (x.val : Nat), .int .i64 (lenR f c x.val : Nat), .bool false]
def cfF (x y : Fin 1000) : Int := (x.val : Int) - (y.val : Int)
theorem ltF (x y : Fin 1000) : ltOf cfF x y = decide (x.val < y.val) := by
  unfold ltOf cfF
  rw [Bool.eq_iff_iff]; simp; omega
theorem swoF : SWO (ltOf cfF) where
  irrefl x := by rw [ltF]; simp
  trans x y z h1 h2 := by rw [ltF] at *; simp at *; omega
  ntrans x y z h1 h2 := by rw [ltF] at *; simp at *; omega
theorem closF (w c : Bool) (a : Nat) (f : List Bool) (x y : Fin 1000) (W : World) : Calls Try.prog 25 #[.agg (encF w a f c x).toArray, .agg (encF w a f c y).toArray] W fun e w' => e = .returned (.int .i64 (cfF x y)) ∧ ∃ q os', w' = grow (W.drewN q) os' := by
  have hx := x.isLt
  have hy := y.isLt
  have hwr : IntKind.i64.wrap ((x.val : Int) - (y.val : Int)) = (x.val : Int) - (y.val : Int) := by simp [IntKind.wrap, IntKind.bits, IntKind.signed]; omega
  unfold encF cfF
  generalize (x.val : Int) = x0 at *
  generalize (y.val : Int) = y0 at *
  generalize ((lenR f c x.val : Nat) : Int) = n1
  generalize ((lenR f c y.val : Nat) : Int) = n2
  go_enter Try.func25, Try.ntmps25
  go_wp2
  go_ret
  exact ⟨rfl, 0, _, by rw [alloc_eq_grow, alloc_eq_grow, grow_grow]; rfl⟩
/-- The row's cells, one by one. -/
theorem fls_get : ∀ (l : List Fl) (t : Nat), t < l.length * 5 → (fls l)[t]? = (flc (flD l (t / 5)))[t % 5]?
  | [], t, h => by simp at h
  | x :: l, t, h => by
    by_cases ht : t < 5
    · have e1 : t / 5 = 0 := by omega
      have e2 : t % 5 = t := by omega
      rw [e1, e2, fls_cons, List.getElem?_append_left (by rw [flc_length]; exact ht)]
      rfl
    · have e1 : t / 5 = (t - 5) / 5 + 1 := by omega
      have e2 : t % 5 = (t - 5) % 5 := by omega
      have ih := fls_get l (t - 5) (by rw [List.length_cons] at h; omega)
      rw [e1, e2, fls_cons, List.getElem?_append_right (by rw [flc_length]; omega), flc_length, ih]
      rfl
theorem flat_fls (w c : Bool) (a : Nat) (f : List Bool) (d : Array (Fin 1000)) : vcells (flatK (encF w a f c) 5 d).toList = fls (d.toList.map fun x => flI w a f c x.val) := by
  refine List.ext_getElem? fun t => ?_
  by_cases ht : t < d.size * 5
  · rw [fls_get _ t (by simpa using ht)]
    have hd : t / 5 < d.size := by omega
    have hm : t % 5 < 5 := Nat.mod_lt _ (by omega)
    have h1 : (flatK (encF w a f c) 5 d)[t]? = some ((encF w a f c d[t / 5]!)[t % 5]!) := by
      rw [← get_flatK _ _ _ t ht, Array.getElem?_eq_getElem (by rw [size_flatK]; exact ht), getElem!_pos _ t (by rw [size_flatK]; exact ht)]
    simp only [vcells, List.getElem?_map, Array.getElem?_toList, h1, Option.map_some]
    have h2 : flD (d.toList.map fun x => flI w a f c x.val) (t / 5) = flI w a f c (d[t / 5]!).val := by
      rw [flD_get (by simpa using hd)]
      simp [hd]
    rw [h2]
    generalize d[t / 5]! = x
    match t % 5, hm with
    | 0, _ => rfl
    | 1, _ => rfl
    | 2, _ => rfl
    | 3, _ => rfl
    | 4, _ => rfl
  · rw [List.getElem?_eq_none (by simp; omega), List.getElem?_eq_none (by rw [fls_length]; simp; omega)]
theorem sortedF_is {d d' : Array (Fin 1000)} {l : List Nat} (hn : (d.toList.map Fin.val).Nodup) (hm : ∀ x, x ∈ d.toList.map Fin.val ↔ x ∈ l) (hl : l.Pairwise (· < ·)) (hp : PermIn 0 d.size d d') (hs : SortedIn (ltOf cfF) 0 d.size d') : d'.toList.map Fin.val = l := by
  obtain ⟨h1, _, h2⟩ := hp
  have h3 : d'.toList.Perm d.toList := by
    have e1 : d'.extract 0 d.size = d' := by rw [← h1]; simp
    have e2 : d.extract 0 d.size = d := by simp
    rwa [e1, e2] at h2
  have h4 := h3.map Fin.val
  refine nsinc_ext _ _ ?_ hl fun x => (h4.mem_iff).trans (hm x)
  have hn' := h4.nodup_iff.2 hn
  rw [List.pairwise_iff_getElem]
  intro i j hi hj hij
  have hi0 : i < d'.size := by simpa using hi
  have hj0 : j < d'.size := by simpa using hj
  have := hs i j (Nat.zero_le _) hij (by omega)
  rw [ltF, getElem!_pos d' j hj0, getElem!_pos d' i hi0] at this
  have hge : ¬ (d'[j]).val < (d'[i]).val := by simpa using this
  have hne := (List.pairwise_iff_getElem.1 hn') i j hi hj hij
  simp only [List.getElem_map, Array.getElem_toList] at hne ⊢
  omega
end
theorem sortF_s (w c : Bool) (a : Nat) {f : List Bool} {s : Nat} (hs : s < f.length) (hl : f.length ≤ 1000) (hc : f.getD s false ≠ c) {h : List AObj} {id : Nat} (ho : h[id]? = some ⟨41, 5, fls (mtF w a f c s f.length)⟩) (h0 : 0 < (sts f c).length) :
    SpecTo Try.prog 24 [.ref id 0 (sts f c).length ((sts f c).length * 5), .func (.func 25) [] []] h (.tuple []) (h.set id ⟨41, 5, fls (stL w a f c)⟩) := by
  have hnd := mets_nodup (f := f) (c := c) (s := s) hs
  have hnd2 : (sts f c).Nodup := (sts_sorted f c).imp (fun h => by omega)
  have hmem := mets_mem (f := f) (c := c) hs hc
  have hlen : (mets f c s f.length).length = (sts f c).length := ((List.perm_ext_iff_of_nodup hnd hnd2).2 hmem).length_eq
  have hlt : ∀ x ∈ mets f c s f.length, x < 1000 := fun x hx => by have := (sts_mem.1 ((hmem x).1 hx)).1; omega
  obtain ⟨d, hd⟩ : ∃ d : Array (Fin 1000), d.toList.map Fin.val = mets f c s f.length := by
    refine ⟨((mets f c s f.length).pmap (fun x h => ⟨x, h⟩) hlt).toArray, ?_⟩
    simp [List.map_pmap]
  have hsz : d.size = (sts f c).length := by rw [← hlen, ← hd]; simp
  have hv1 : vcells (Go.Sort.flatK (encF w a f c) 5 d).toList = fls (mtF w a f c s f.length) := by
    rw [flat_fls, mtF, ← hd, List.map_map]; rfl
  obtain ⟨d2, hd2⟩ : ∃ d : Array (Fin 1000), d.toList.map Fin.val = sts f c := by
    refine ⟨((sts f c).pmap (fun x h => ⟨x, h⟩) (fun x hx => (by have := (sts_mem.1 hx).1; omega : x < 1000))).toArray, ?_⟩
    simp [List.map_pmap]
  have hv2 : vcells (Go.Sort.flatK (encF w a f c) 5 d2).toList = fls (stL w a f c) := by
    rw [flat_fls, stL, ← hd2, List.map_map]; rfl
  have hsz2 : d2.size = (sts f c).length := by rw [← hd2]; simp
  rw [← hv1] at ho
  rw [← hv2]
  refine SpecTo.rowV (by kernel_rfl) ho (by decide) (by decide) (by simp [hsz, hsz2]) (by simp [hsz]) fun blk cap wd hb hH hcap => ?_
  have eg : ∀ args w, (callFunc 25 args).run Try.prog w = .ok (.enter 25 args) w := enters_of Try.func25 (by kernel_rfl) rfl
  have hcon := AnyQ.slices_SortFunc Try.sortF 5 Try.isAgg41 Try.sizeOf41 (encF w a f c) (fun _ => rfl) (fun x v hv => by simp [encF] at hv; rcases hv with rfl | rfl | rfl | rfl | rfl <;> rfl) cfF swoF 25 #[] blk 0 cap d wd eg (fun m os dk hs x y => by simpa using closF w c a f x y _) (by simpa [Go.Sort.HoldsK] using hH) hb (by rw [hsz]; have := sts_len f c; omega)
  rw [hsz] at hcon
  refine hcon.mono ?_
  rintro e w' ⟨h1, d', n, os, hp, hso, rfl⟩
  have hd' : d'.toList.map Fin.val = sts f c := sortedF_is (by rw [hd]; exact hnd) (fun x => by rw [hd]; exact hmem x) (sts_sorted f c) (by rw [hsz]; exact hp) (by rw [hsz]; exact hso)
  have : d' = d2 := by
    have h2 : d'.toList = d2.toList := (List.map_inj_right (f := Fin.val) (fun x y h => Fin.ext h)).1 (hd'.trans hd2.symm)
    exact Array.toList_inj.1 h2
  subst this
  exact ⟨h1, n, os, by simp [sortWorldK, Go.Sort.putRowK]⟩
theorem bindK_by {α : Type} {o : Option α} {K : α → Prop} (v : α) (h : o = some v) (hK : K v) : @bindK _ o ⟨K⟩ := by subst h; exact hK
theorem insF_nil (g : Nat) : Contract Try.prog 33 [.list false true 0 [], I 0, I 0, .func (.func g) [] []] (.tuple []) := by
  refine Contract.intro (effS [] false) 6 follows Try.func33 rfl rfl (by kernel_rfl) (Nat.le_of_ble_eq_true rfl) ?_
  simp (disch := first | assumption | omega | rfl | simp only [RH]) only [↓RP, RG, FX, RQ, ↓reduceIte, Nat.reduceEqDiff, reduceCtorEq, Nat.reduceBEq, Nat.reduceAdd, Nat.reduceLeDiff, args0_4]
  refine loopK_now ?_
  simp (disch := first | assumption | omega | rfl | simp only [RH]) only [↓RP, RG, FX, RQ, ↓reduceIte, Nat.reduceEqDiff, reduceCtorEq, Nat.reduceBEq, Nat.reduceAdd, Nat.reduceLeDiff]
  rw [resVal_0 rfl]; simp (disch := first | assumption | omega | rfl | simp only [RH]) only [↓RP, RG, FX, RQ, ↓reduceIte, Nat.reduceEqDiff, reduceCtorEq, Nat.reduceBEq, Nat.reduceAdd, Nat.reduceLeDiff, RS]
theorem pdqF_nil (g : Nat) : Contract Try.prog 29 [.list false true 0 [], I 0, I 0, I 0, .func (.func g) [] []] (.tuple []) := by
  refine Contract.intro (effS [] false) 6 follows Try.func29 rfl rfl (by kernel_rfl) (Nat.le_of_ble_eq_true rfl) ?_
  simp (disch := first | assumption | omega | rfl | simp only [RH]) only [↓RP, RG, FX, RQ, ↓reduceIte, Nat.reduceEqDiff, reduceCtorEq, Nat.reduceBEq, Nat.reduceAdd, Nat.reduceLeDiff, args0_5]
  refine loopK_now ?_
  simp (disch := first | assumption | omega | rfl | simp only [RH]) only [↓RP, RG, FX, RQ, ↓reduceIte, Nat.reduceEqDiff, reduceCtorEq, Nat.reduceBEq, Nat.reduceAdd, Nat.reduceLeDiff]
  refine callK_F 6 (insF_nil g) (by simp (disch := first | assumption | omega | rfl | simp only [RH]) only [↓RP, RG, FX, RQ, ↓reduceIte, Nat.reduceEqDiff, reduceCtorEq, Nat.reduceBEq, Nat.reduceAdd, Nat.reduceLeDiff, RA] <;> rfl) (.inl (by simp [allFresh, ints_fresh, bools_fresh])) ?_
  simp (disch := first | assumption | omega | rfl | simp only [RH]) only [↓RP, RG, FX, RQ, ↓reduceIte, Nat.reduceEqDiff, reduceCtorEq, Nat.reduceBEq, Nat.reduceAdd, Nat.reduceLeDiff]
  rw [resVal_0 rfl]; simp (disch := first | assumption | omega | rfl | simp only [RH]) only [↓RP, RG, FX, RQ, ↓reduceIte, Nat.reduceEqDiff, reduceCtorEq, Nat.reduceBEq, Nat.reduceAdd, Nat.reduceLeDiff, RS]
theorem lenB_0 : Contract Try.prog 30 [.val (.int .u64 0)] (I 0) := by
  refine ⟨by kernel_rfl, fun w ok vs hok ht hs hrel => ?_⟩
  have h0 := hrel 0 (by simp)
  have hvs : vs = #[.int .u64 0] := by
    apply Array.ext
    · simpa using hs
    · intro j h1 h2
      obtain rfl : j = 0 := by simp at h2; omega
      have h3 := rel_val (show VRel ok (fun _ => False) w (fun _ => (0, 0)) (fun _ => none) (.val (.int .u64 0)) (vs.getD 0 undef) from h0)
      simp only [Array.getD_eq_getD_getElem?, Array.getElem?_eq_getElem h1, Option.getD_some] at h3
      rw [h3]; rfl
  rw [hvs]
  have h := Go.Proofs.Any.bits_Len (Go.Proofs.SlLaysF0.n15.bits (P := Try.prog) (ρ := Try.sortF_ren) { Try.sortF with }) 0 w (by omega) (by omega)
  refine h.mono ?_
  rintro e w' ⟨rfl, rfl⟩
  exact ⟨_, rfl, .val _, .refl _ _⟩
theorem sortF_nil (g : Nat) : Contract Try.prog 24 [.list false true 0 [], .func (.func g) [] []] (.tuple []) := by
  refine Contract.intro (effS [] false) 6 follows Try.func24 rfl rfl (by kernel_rfl) (Nat.le_of_ble_eq_true rfl) ?_
  simp (disch := first | assumption | omega | rfl | simp only [RH]) only [↓RP, RG, FX, RQ, ↓reduceIte, Nat.reduceEqDiff, reduceCtorEq, Nat.reduceBEq, Nat.reduceAdd, Nat.reduceLeDiff, args0_2]
  refine bindK_by (.val (.int .u64 0)) (by kernel_rfl) ?_
  simp (disch := first | assumption | omega | rfl | simp only [RH]) only [↓RP, RG, FX, RQ, ↓reduceIte, Nat.reduceEqDiff, reduceCtorEq, Nat.reduceBEq, Nat.reduceAdd, Nat.reduceLeDiff]
  refine callK_F 6 (lenB_0) (by simp (disch := first | assumption | omega | rfl | simp only [RH]) only [↓RP, RG, FX, RQ, ↓reduceIte, Nat.reduceEqDiff, reduceCtorEq, Nat.reduceBEq, Nat.reduceAdd, Nat.reduceLeDiff, RA] <;> rfl) (.inl (by simp [allFresh, ints_fresh, bools_fresh])) ?_
  simp (disch := first | assumption | omega | rfl | simp only [RH]) only [↓RP, RG, FX, RQ, ↓reduceIte, Nat.reduceEqDiff, reduceCtorEq, Nat.reduceBEq, Nat.reduceAdd, Nat.reduceLeDiff]
  refine callK_F 6 (pdqF_nil g) (by simp (disch := first | assumption | omega | rfl | simp only [RH]) only [↓RP, RG, FX, RQ, ↓reduceIte, Nat.reduceEqDiff, reduceCtorEq, Nat.reduceBEq, Nat.reduceAdd, Nat.reduceLeDiff, RA] <;> rfl) (.inl (by simp [allFresh, ints_fresh, bools_fresh])) ?_
  simp (disch := first | assumption | omega | rfl | simp only [RH]) only [↓RP, RG, FX, RQ, ↓reduceIte, Nat.reduceEqDiff, reduceCtorEq, Nat.reduceBEq, Nat.reduceAdd, Nat.reduceLeDiff]
  rw [resVal_0 rfl]; simp (disch := first | assumption | omega | rfl | simp only [RH]) only [↓RP, RG, FX, RQ, ↓reduceIte, Nat.reduceEqDiff, reduceCtorEq, Nat.reduceBEq, Nat.reduceAdd, Nat.reduceLeDiff, RS]
end Go.Proofs.Ytikchhmddddgaaa

/- Chapter 8: the floats of one side of a thread, yielded. -/
set_option linter.unusedSimpArgs false
set_option linter.unusedVariables false
set_option maxRecDepth 100000
namespace Go.Proofs.Ytikchhmddddgaaa
open Go Go.Proofs Go.AW

/-- The objects name no others than these, whatever is kept of others. -/
def ShutA (m : Nat) (h : List AObj) : Prop := h.length = m ∧ ∀ o ∈ h, ∀ x ∈ o.cells, ∀ ks, ren (keepF m ks) 8 x = x
theorem ShutA.shut {m : Nat} {h : List AObj} (hs : ShutA m h) : Shut m h := ⟨hs.1, fun o ho x hx => hs.2 o ho x hx []⟩
theorem rem_nat {x n : Nat} (hn : 0 < n) (hn2 : n ≤ 1000000000) : aInt .rem .i64 (x : Int) (n : Int) = some (I (x % n : Nat)) := by
  have : (n : Int) ≠ 0 := by omega
  have hx : (x : Int).tmod n = ((x % n : Nat) : Int) := by rw [Int.tmod_eq_emod_of_nonneg (by omega)]; exact (Int.natCast_emod x n).symm
  simp only [aInt]; rw [if_neg (by omega), hx]
section
variable {f : List Bool} {n : Nat} (hn : f.length = n) (h0 : 0 < n) (hn2 : n ≤ 1000) (w c : Bool) (a m k p1 p2 : Nat) (hs ex : Nat → List AObj)
include hn h0 hn2
theorem floatsY_w (hsh : ∀ j, j ≤ 1 → ShutA m (hs j)) (hc : ∀ i, i < n → f.getD i false = c) (q1 : (hs 0)[p1]? = some ⟨49, 3, [B w, I a, .ref k 0 n n]⟩) (q2 : (hs 0)[p2]? = some ⟨4, 1, [B c]⟩) (q3 : (hs 0)[k]? = some ⟨4, 1, bools f⟩) :
    SpecY Try.prog 22 (stepsO 1 hs (fun _ => []) ex (fun j => flA (flD [flW w a f] j))) [.ptr p1 0 3, .ptr p2 0 1] (hs 0) (hs 1) := by
  have hm0 : (hs 0).length = m := (hsh 0 (by omega)).1
  have hm1 : (hs 1).length = m := (hsh 1 (by omega)).1
  have hix := indexB_no (c := c) (show f.length ≤ 1000000 by omega) (by rw [hn]; exact hc)
  refine SpecY.intro (effS [] false) follows Try.func22 rfl rfl (by kernel_rfl) (Nat.le_of_ble_eq_true rfl) rfl (fun yv => ?_)
  have q4 : cA (hs 0)[k]? n = some (bools f) := by rw [q3, cA_bools hn]
  simp (disch := first | assumption | omega | rfl | simp only [RH]) only [↓RP, RG, FX, RQ, ↓reduceIte, Nat.reduceEqDiff, reduceCtorEq, Nat.reduceBEq, Nat.reduceAdd, Nat.reduceLeDiff, args0_3, q1, q2, q4]
  refine callK_F 6 hix (by simp (disch := first | assumption | omega | rfl | simp only [RH]) only [↓RP, RG, FX, RQ, ↓reduceIte, Nat.reduceEqDiff, reduceCtorEq, Nat.reduceBEq, Nat.reduceAdd, Nat.reduceLeDiff, RA, q1, q2, q3, aX_bools hn.symm hn.symm] <;> rfl) (.inl rfl) ?_
  simp (disch := first | assumption | omega | rfl | simp only [RH]) only [↓RP, RG, FX, RQ, ↓reduceIte, Nat.reduceEqDiff, reduceCtorEq, Nat.reduceBEq, Nat.reduceAdd, Nat.reduceLeDiff, q1, q2]
  refine callK_Y rfl (stepsO_at 0 (by omega) (by show _ = flA (flW w a f); unfold flA flW flc; rw [hn]; rfl) (by simp) rfl) ?_
  simp (disch := first | assumption | omega | rfl | simp only [RH]) only [↓RP, RG, FX, RQ, ↓reduceIte, Nat.reduceEqDiff, reduceCtorEq, Nat.reduceBEq, Nat.reduceAdd, Nat.reduceLeDiff]
  have := Wk.shut (hb := hs 0) (h1 := hs 1) (gs := [] ++ ex 0) (env := []) (by omega) (by rw [hm0]; exact (hsh 1 (by omega)).shut)
  simpa using this
/-- The floats that are found, and one's own variable. -/
def owF (w : Bool) (a : Nat) (f : List Bool) (c : Bool) (j : Nat) : List AObj := [goW 41 5 (fls (stL w a f c)), ⟨41, 5, flc (flD (stL w a f c) j)⟩]
theorem floatsY_s {s : Nat} (hk : k < m) (hp1 : p1 < m) (hp2 : p2 < m) (hsn : s < n) (hcs : f.getD s false ≠ c) (hcf : ∀ i, i < s → f.getD i false = c) (hsh : ∀ j, j ≤ (sts f c).length → ShutA m (hs j)) (q1 : (hs 0)[p1]? = some ⟨49, 3, [B w, I a, .ref k 0 n n]⟩) (q2 : (hs 0)[p2]? = some ⟨4, 1, [B c]⟩) (q3 : (hs 0)[k]? = some ⟨4, 1, bools f⟩) :
    SpecY Try.prog 22 (stepsO (sts f c).length hs (owF w a f c) ex (fun j => flA (flD (stL w a f c) j))) [.ptr p1 0 3, .ptr p2 0 1] (hs 0) (hs (sts f c).length) := by
  have hm : ∀ j, j ≤ (sts f c).length → (hs j).length = m := fun j hj => (hsh j hj).1
  have hm0 : (hs 0).length = m := hm 0 (by omega)
  have hix := indexB_yes (show f.length ≤ 1000000 by omega) (by rw [hn]; exact hsn) hcs hcf
  have hmi : ∀ i, (mets f c s i).length ≤ i := fun i => mets_len f c s i
  have hrl : (rotF f s).length = n := by rw [rotF_len, hn]
  refine SpecY.intro (effS [] false) follows Try.func22 rfl rfl (by kernel_rfl) (Nat.le_of_ble_eq_true rfl) rfl (fun yv => ?_)
  have q4 : cA (hs 0)[k]? n = some (bools f) := by rw [q3, cA_bools hn]
  simp (disch := first | assumption | omega | rfl | simp only [RH]) only [↓RP, RG, FX, RQ, ↓reduceIte, Nat.reduceEqDiff, reduceCtorEq, Nat.reduceBEq, Nat.reduceAdd, Nat.reduceLeDiff, args0_3, q1, q2, q4]
  refine callK_F 6 hix (by simp (disch := first | assumption | omega | rfl | simp only [RH]) only [↓RP, RG, FX, RQ, ↓reduceIte, Nat.reduceEqDiff, reduceCtorEq, Nat.reduceBEq, Nat.reduceAdd, Nat.reduceLeDiff, RA, q1, q2, q3, aX_bools hn.symm hn.symm] <;> rfl) (.inl rfl) ?_
  simp (disch := first | assumption | omega | rfl | simp only [RH]) only [↓RP, RG, FX, RQ, ↓reduceIte, Nat.reduceEqDiff, reduceCtorEq, Nat.reduceBEq, Nat.reduceAdd, Nat.reduceLeDiff, q1, q2]
  have g1 : ∀ r, (hs 0 ++ r)[p1]? = some ⟨49, 3, [B w, I a, .ref k 0 n n]⟩ := fun r => by rw [hAt_low _ (by omega)]; exact q1
  have g2 : ∀ r, (hs 0 ++ r)[p2]? = some ⟨4, 1, [B c]⟩ := fun r => by rw [hAt_low _ (by omega)]; exact q2
  have g4 : ∀ r, cA (hs 0 ++ r)[k]? n = some (bools f) := fun r => by rw [hAt_low _ (by omega)]; exact q4
  refine loopK_WW [0, 1, 2, 4, 5, 6, 7] (fun i : Nat => 1 ≤ i ∧ i ≤ n + 1 ∧ (i ≤ n → (rotF f s).getD (i - 1) false ≠ c)) (fun i => ⟨[(0, .val yv), (1, .ptr p1 0 3), (2, .ptr p2 0 1), (4, I n), (5, I s), (6, gwW 5 (hs 0).length (mets f c s i).length), (7, I i)], hs 0 ++ [goW 41 5 (fls (mtF w a f c s i))]⟩) (fun i => n + 1 - i) 1 ⟨by omega, by omega, fun _ => by rw [rotF_get (by omega), hn, Nat.add_zero, Nat.mod_eq_of_lt hsn]; exact hcs⟩ ?_ ?_
  · simp only [↓RP, RG, FX, RQ, ↓reduceIte, Nat.reduceEqDiff, reduceCtorEq, Nat.reduceBEq, Nat.reduceAdd, Nat.reduceLeDiff]
    have e1 : mets f c s 1 = [] := mets_1 f c s
    rw [e1, show mtF w a f c s 1 = [] by simp [mtF, e1]]
    refine Wk.weak (WE.cons _ (.refl _) (WE.cons _ (.refl _) (WE.cons _ (.refl _) (WE.cons _ (.refl _) (WE.cons _ (.refl _) (WE.cons _ (.nil _) (WE.cons _ (.refl _) WE.nil))))))) ?_
    have h9 : WO (hs 0 ++ []) (hs 0 ++ [goW 41 5 (fls [])]) := .app (hs 0) (.nil _ (by simp [goW, fls_nil]))
    rwa [List.append_nil] at h9
  intro i ⟨hi1, hi2, hi3⟩
  by_cases hlt : i < n
  · obtain ⟨at', hat⟩ : ∃ at' : Nat, at' = (s + i) % n := ⟨_, rfl⟩
    have hatn : at' < n := by rw [hat]; exact Nat.mod_lt _ h0
    have hrem : aInt .rem .i64 ((s : Int) + (i : Int)) (n : Int) = some (I at') := by
      rw [show (s : Int) + (i : Int) = ((s + i : Nat) : Int) by omega, hat]; exact rem_nat h0 (by omega)
    have hrg : (rotF f s).getD i false = f.getD at' false := by rw [rotF_get (by omega), hn, ← hat]
    by_cases hq : f.getD at' false = c
    · have hq2 : (!(f.getD at' false == c)) = false := by rw [hq]; simp
      have hst : stF (rotF f s) c i = true := stF_iff.2 ⟨by omega, by omega, by rw [hrg]; exact hq, hi3 (by omega)⟩
      have hrun := runF_le (rotF f s) c i
      simp (disch := first | assumption | omega | rfl | simp only [RH]) only [↓RP, RG, FX, RQ, ↓reduceIte, Nat.reduceEqDiff, reduceCtorEq, Nat.reduceBEq, Nat.reduceAdd, Nat.reduceLeDiff, g1, g2, g4, hrem, hq2, Int.toNat_natCast, effY_b, effY_n, effY_f, effY_l, effY_z, effY_D]
      refine loopK_WW [0, 1, 2, 4, 5, 6, 7, 9] (fun t : Nat => t ≤ runF (rotF f s) c i) (fun t => ⟨[(0, .val yv), (1, .ptr p1 0 3), (2, .ptr p2 0 1), (4, I n), (5, I s), (6, gwW 5 (hs 0).length (mets f c s i).length), (7, I (i + t : Nat)), (9, .ptr ((hs 0).length + 1) 0 5)], hs 0 ++ [goW 41 5 (fls (mtF w a f c s i)), ⟨41, 5, [B w, I a, I at', I t, B false]⟩]⟩) (fun t => n - t) 0 (by omega) (Wk.of_eq (by simp only [↓RP, RG, FX, RQ, ↓reduceIte, Nat.reduceEqDiff, reduceCtorEq, Nat.reduceBEq, Nat.reduceAdd, Nat.reduceLeDiff]; rfl)) ?_
      intro t ht
      obtain ⟨at2, hat2⟩ : ∃ at2 : Nat, at2 = (s + (i + t)) % n := ⟨_, rfl⟩
      have hatn2 : at2 < n := by rw [hat2]; exact Nat.mod_lt _ h0
      have hrem2 : aInt .rem .i64 ((s : Int) + ((i + t : Nat) : Int)) (n : Int) = some (I at2) := by
        rw [show (s : Int) + ((i + t : Nat) : Int) = ((s + (i + t) : Nat) : Int) by omega, hat2]; exact rem_nat h0 (by omega)
      have hrl2 := runF_lt ht
      rw [hrl] at hrl2
      by_cases hx : t < runF (rotF f s) c i
      · obtain ⟨hy1, hy2⟩ := hrl2.1 hx
        have hg2 : f.getD at2 false = c := by rw [← hy2, rotF_get (by omega), hn, ← hat2]
        have hq3 : (f.getD at2 false == c) = true := by rw [hg2]; simp
        simp (disch := first | assumption | omega | rfl | simp only [RH]) only [↓RP, RG, FX, RQ, ↓reduceIte, Nat.reduceEqDiff, reduceCtorEq, Nat.reduceBEq, Nat.reduceAdd, Nat.reduceLeDiff, g1, g2, g4, hrem2, hq3, Int.toNat_natCast, effY_b, effY_n, effY_f, effY_l, effY_z, effY_D]
        exact ⟨t + 1, by omega, Wk.of_eq rfl, by omega⟩
      · have hap : ∀ ys, aAppend Try.prog 26 (hs 0 ++ [goW 41 5 (fls (mtF w a f c s i)), ys]) (gwW 5 (hs 0).length (mets f c s i).length) (.lit 1 [B w, I a, I at', I t, B false]) = some (gwW 5 (hs 0).length ((mets f c s i).length + 1), (hs 0 ++ [goW 41 5 (fls (mtF w a f c s i)), ys]).set (hs 0).length (goW 41 5 (fls (mtF w a f c s i) ++ [B w, I a, I at', I t, B false]))) := fun ys => append_W (by rw [hAt_app0]; rfl) (by rw [fls_length, mtF_len]) rfl rfl (by have := hmi i; omega) (by have := hmi i; omega)
        have hm1 : mets f c s (i + t + 1) = mets f c s i ++ [at'] := by
          have : t = runF (rotF f s) c i := by omega
          rw [this, mets_run hst, hn]; simp only [hereF, ← hat]
        have hm2 : mtF w a f c s (i + t + 1) = mtF w a f c s i ++ [⟨w, a, at', t, false⟩] := by
          have h1 : lenR f c at' = t := by
            have := run_len (f := f) (c := c) (s := s) (r := i) (by omega) hcs (by omega)
            rw [hn] at this
            have h2 : hereF n s i = at' := hat.symm
            rw [h2] at this; omega
          simp only [mtF, hm1, List.map_append, List.map_cons, List.map_nil, flI, h1]
        have hlast : i + t + 1 ≤ n → (rotF f s).getD (i + t + 1 - 1) false ≠ c := fun hle => by
          have : t = runF (rotF f s) c i := by omega
          rw [Nat.add_sub_cancel, this]; exact runF_end (by omega)
        have fin : ∃ y : Nat, (1 ≤ y ∧ y ≤ n + 1 ∧ (y ≤ n → (rotF f s).getD (y - 1) false ≠ c)) ∧ Wk (hs 0) ⟨[(0, .val yv), (1, .ptr p1 0 3), (2, .ptr p2 0 1), (4, I n), (5, I s), (6, gwW 5 (hs 0).length ((mets f c s i).length + 1)), (7, I ((i + t : Nat) + 1))], hs 0 ++ [goW 41 5 (fls (mtF w a f c s i) ++ [B w, I a, I at', I t, B false]), ⟨41, 5, [B w, I a, I at', I t, B false]⟩]⟩ ⟨[(0, .val yv), (1, .ptr p1 0 3), (2, .ptr p2 0 1), (4, I n), (5, I s), (6, gwW 5 (hs 0).length (mets f c s y).length), (7, I y)], hs 0 ++ [goW 41 5 (fls (mtF w a f c s y))]⟩ ∧ n + 1 - y < n + 1 - i := by
          refine ⟨i + t + 1, ⟨by omega, by omega, hlast⟩, (Wk.drop (hb := hs 0) (h1 := hs 0) (gs := [_, _]) 8 [0] rfl (by simp) (by simp) (fun i o ho => .inl ho)).trans (Wk.of_eq ?_), by omega⟩
          rw [hm1, hm2, fls_app, fls_one1]
          have e1 : goW 41 5 (fls (mtF w a f c s i) ++ [B w, I a, I at', I t, B false]) = goW 41 5 (fls (mtF w a f c s i ++ [⟨w, a, at', t, false⟩])) := by rw [fls_app, fls_one1]; rfl
          have e2 : goW 41 5 (fls (mtF w a f c s i) ++ flc ⟨w, a, at', t, false⟩) = goW 41 5 (fls (mtF w a f c s i ++ [⟨w, a, at', t, false⟩])) := by rw [fls_app, fls_one1]
          rw [e1, e2]
          simp only [List.map_cons, List.map_nil, List.getD_cons_zero, renO_goF, List.length_append, List.length_singleton, ren_gwF _ _ _ _ _ (show keepF (hs 0).length [0] (hs 0).length = some (hs 0).length by simp [keepF])]
          simp only [ren, keepF, hm0, if_pos hp1, if_pos hp2]
          rfl
        by_cases hx2 : i + t < n
        · have hg2 : f.getD at2 false ≠ c := fun h => hx (hrl2.2 ⟨hx2, by rw [rotF_get (by omega), hn, ← hat2]; exact h⟩)
          have hq3 : (f.getD at2 false == c) = false := by simpa using hg2
          simp (disch := first | assumption | omega | rfl | simp only [RH]) only [↓RP, RG, FX, RQ, ↓reduceIte, Nat.reduceEqDiff, reduceCtorEq, Nat.reduceBEq, Nat.reduceAdd, Nat.reduceLeDiff, g1, g2, g4, hrem2, hq3, Int.toNat_natCast, effY_b, effY_n, effY_f, effY_l, effY_z, effY_D, hap]
          exact fin
        · simp (disch := first | assumption | omega | rfl | simp only [RH]) only [↓RP, RG, FX, RQ, ↓reduceIte, Nat.reduceEqDiff, reduceCtorEq, Nat.reduceBEq, Nat.reduceAdd, Nat.reduceLeDiff, g1, g2, g4, hrem2, Int.toNat_natCast, effY_b, effY_n, effY_f, effY_l, effY_z, effY_D, hap]
          exact fin
    · have hq2 : (!(f.getD at' false == c)) = true := by simpa using hq
      simp (disch := first | assumption | omega | rfl | simp only [RH]) only [↓RP, RG, FX, RQ, ↓reduceIte, Nat.reduceEqDiff, reduceCtorEq, Nat.reduceBEq, Nat.reduceAdd, Nat.reduceLeDiff, g1, g2, g4, hrem, hq2, Int.toNat_natCast, effY_b, effY_n, effY_f, effY_l, effY_z, effY_D]
      have e1 : mets f c s (i + 1) = mets f c s i := mets_no (by rw [hrg]; exact hq)
      exact ⟨i + 1, ⟨by omega, by omega, fun _ => by rw [Nat.add_sub_cancel, hrg]; exact hq⟩, Wk.of_eq (by rw [show mtF w a f c s (i + 1) = mtF w a f c s i by simp only [mtF, e1], e1]; rfl), by omega⟩
  · have hN : (mets f c s n).length = (sts f c).length := by
      have hnd := mets_nodup (f := f) (c := c) (s := s) (by omega)
      have hnd2 : (sts f c).Nodup := (sts_sorted f c).imp (fun h => by omega)
      rw [← hn]
      exact ((List.perm_ext_iff_of_nodup hnd hnd2).2 fun x => mets_mem (by omega) hcs x).length_eq
    have hov : mets f c s i = mets f c s n := by rw [mets_over (by omega), hn]
    have hov2 : mtF w a f c s i = mtF w a f c s n := by simp only [mtF, hov]
    rw [hov, hov2, hN]
    by_cases hN0 : (sts f c).length = 0
    · have e1 : stL w a f c = [] := List.eq_nil_of_length_eq_zero (by rw [stL_len]; exact hN0)
      rw [hN0, show gwW 5 (hs 0).length 0 = .res (hs 0).length from rfl]
      simp (disch := first | assumption | omega | rfl | simp only [RH]) only [↓RP, RG, FX, RQ, ↓reduceIte, Nat.reduceEqDiff, reduceCtorEq, Nat.reduceBEq, Nat.reduceAdd, Nat.reduceLeDiff]
      refine callK_F 6 (sortF_nil _) (by simp (disch := first | assumption | omega | rfl | simp only [RH]) only [↓RP, RG, FX, RQ, ↓reduceIte, Nat.reduceEqDiff, reduceCtorEq, Nat.reduceBEq, Nat.reduceAdd, Nat.reduceLeDiff, RA] <;> rfl) (.inl rfl) ?_
      simp (disch := first | assumption | omega | rfl | simp only [RH]) only [↓RP, RG, FX, RQ, ↓reduceIte, Nat.reduceEqDiff, reduceCtorEq, Nat.reduceBEq, Nat.reduceAdd, Nat.reduceLeDiff]
      refine loopK_WW [82, 83] (fun _ : Nat => True) (fun _ => ⟨[(82, I 0), (83, I 0)], hs 0⟩) (fun x => x) 0 trivial ?_ (fun x _ => ?_)
      · simp only [↓RP, RG, FX, RQ, ↓reduceIte, Nat.reduceEqDiff, reduceCtorEq, Nat.reduceBEq, Nat.reduceAdd, Nat.reduceLeDiff]
        exact (Wk.shut (hb := hs 0) (h1 := hs 0) rfl (by rw [hm0]; exact (hsh 0 (by omega)).shut)).trans (Wk.of_eq rfl)
      · simp (disch := first | assumption | omega | rfl | simp only [RH]) only [↓RP, RG, FX, RQ, ↓reduceIte, Nat.reduceEqDiff, reduceCtorEq, Nat.reduceBEq, Nat.reduceAdd, Nat.reduceLeDiff]
        exact Wk.refl _ _
    · have hpos : 0 < (sts f c).length := by omega
      have hmp : 0 < (mtF w a f c s n).length := by rw [mtF_len, hN]; exact hpos
      have hsp : 0 < (stL w a f c).length := by rw [stL_len]; exact hpos
      rw [gwW_pos hpos, goF_pos hmp]
      have hso := sortF_s w c a (f := f) (s := s) (h := hs 0 ++ [⟨41, 5, fls (mtF w a f c s n)⟩]) (id := (hs 0).length) (by omega) (by omega) hcs (by rw [hAt_app0, hn]; rfl) hpos
      rw [hSet_app0] at hso
      simp (disch := first | assumption | omega | rfl | simp only [RH]) only [↓RP, RG, FX, RQ, ↓reduceIte, Nat.reduceEqDiff, reduceCtorEq, Nat.reduceBEq, Nat.reduceAdd, Nat.reduceLeDiff]
      refine callK_T rfl hso ?_
      have hcA : cA (some ⟨41, 5, fls (stL w a f c)⟩) ((sts f c).length * 5) = some (fls (stL w a f c)) := cA_fls (by rw [stL_len])
      have hNl : (sts f c).length ≤ 1000 := by have := sts_len f c; omega
      simp (disch := first | assumption | omega | rfl | simp only [RH]) only [↓RP, RG, FX, RQ, ↓reduceIte, Nat.reduceEqDiff, reduceCtorEq, Nat.reduceBEq, Nat.reduceAdd, Nat.reduceLeDiff, hcA]
      refine loopK_WW [0, 81, 82, 83] (fun j : Nat => j ≤ (sts f c).length) (fun j => ⟨[(0, .val yv), (81, .ref (hs 0).length 0 (sts f c).length ((sts f c).length * 5)), (82, I (sts f c).length), (83, I j)], hs j ++ [⟨41, 5, fls (stL w a f c)⟩]⟩) (fun j => (sts f c).length - j) 0 (by omega) (Wk.of_eq (by simp only [↓RP, RG, FX, RQ, ↓reduceIte, Nat.reduceEqDiff, reduceCtorEq, Nat.reduceBEq, Nat.reduceAdd, Nat.reduceLeDiff]; rfl)) ?_
      intro j hj
      by_cases hlt : j < (sts f c).length
      · have hmj : (hs j).length = (hs 0).length := by rw [hm j hj, hm0]
        have hmj1 : (hs (j + 1)).length = (hs 0).length := by rw [hm (j + 1) hlt, hm0]
        have hpx : pX (some (true, 5)) ((fls (stL w a f c)).drop (j * 5)) = some (.agg [B (flD (stL w a f c) j).w, I (flD (stL w a f c) j).a, I (flD (stL w a f c) j).f, I (flD (stL w a f c) j).n, B (flD (stL w a f c) j).z]) := pX_fls (by rw [stL_len]; exact hlt)
        have hgj : (hs j ++ [(⟨41, 5, fls (stL w a f c)⟩ : AObj)])[(hs 0).length]? = some ⟨41, 5, fls (stL w a f c)⟩ := by rw [← hmj, hAt_app0]; rfl
        have hix2 : aIdx Try.prog 26 (hs j ++ [(⟨41, 5, fls (stL w a f c)⟩ : AObj)]) (.ref (hs 0).length 0 (sts f c).length ((sts f c).length * 5)) (I j) = some (.ptr (hs 0).length (j * 5) ((sts f c).length * 5)) := by
          rw [idxW_ref (by omega) (by omega), hgj, hcA]; simp
        simp (disch := first | assumption | omega | rfl | simp only [RH]) only [↓RP, RG, FX, RQ, ↓reduceIte, Nat.reduceEqDiff, reduceCtorEq, Nat.reduceBEq, Nat.reduceAdd, Nat.reduceLeDiff, hgj, hcA, hpx, hix2, Int.toNat_natCast]
        refine callK_Y rfl (stepsO_at j hlt rfl (by unfold owF; rw [goF_pos hsp]; rfl) rfl) ?_
        simp (disch := first | assumption | omega | rfl | simp only [RH]) only [↓RP, RG, FX, RQ, ↓reduceIte, Nat.reduceEqDiff, reduceCtorEq, Nat.reduceBEq, Nat.reduceAdd, Nat.reduceLeDiff]
        refine ⟨j + 1, hlt, (Wk.drop (hb := hs 0) (h1 := hs (j + 1)) (gs := owF w a f c j ++ ex j) 8 [0] hmj1 (by simp) (by simp [owF]) (fun i o ho => .inr ?_)).trans (Wk.of_eq ?_), by omega⟩
        · exact fun x hx => by rw [hm0]; exact (hsh (j + 1) hlt).2 o (List.mem_of_getElem? ho) x hx [0]
        · have e1 := renO_goF (keepF (hs 0).length [0]) 7 41 5 (stL w a f c)
          simp only [owF, List.map_cons, List.map_nil, List.cons_append, List.getD_cons_zero, e1]
          rw [goF_pos hsp]
          simp [ren, keepF]
      · obtain rfl : (sts f c).length = j := by omega
        simp (disch := first | assumption | omega | rfl | simp only [RH]) only [↓RP, RG, FX, RQ, ↓reduceIte, Nat.reduceEqDiff, reduceCtorEq, Nat.reduceBEq, Nat.reduceAdd, Nat.reduceLeDiff]
        exact (Wk.shut (hb := hs 0) (h1 := hs (sts f c).length) (by rw [hm _ (by omega), hm0]) (by rw [hm0]; exact (hsh _ (by omega)).shut)).trans (Wk.of_eq rfl)
end
end Go.Proofs.Ytikchhmddddgaaa

/- Chapter 8: the floats of one side of a cloth. -/
set_option linter.unusedSimpArgs false
set_option linter.unusedVariables false
set_option maxRecDepth 100000
namespace Go.Proofs.Ytikchhmddddgaaa
open Go Go.Proofs Go.AW

/-- The floats of one side of a thread. -/
def thF (w : Bool) (a : Nat) (f : List Bool) (c : Bool) : List Fl := if tw c f = f.length then [flW w a f] else stL w a f c
theorem tw_all {c : Bool} {f : List Bool} (h : tw c f = f.length) : ∀ i, i < f.length → f.getD i false = c := fun i hi => tw_in c f i (by omega)
theorem thF_len (w : Bool) (a : Nat) {f : List Bool} (c : Bool) (h0 : 0 < f.length) : (thF w a f c).length ≤ f.length := by
  unfold thF
  split
  · simp; omega
  · rw [stL_len]; exact sts_len f c
/-- .. of thread number k. -/
def thK (W H : Nat) (l : List Bool) (c : Bool) (k : Nat) : List Fl := thF (decide (k < W)) (if k < W then k else k - W) (faK W H l k) c
theorem faK_len (W H : Nat) (l : List Bool) (k : Nat) : (faK W H l k).length = if k < W then H else W := by
  unfold faK; split
  · exact faC_len W H l k
  · exact faR_len W l (k - W)
def sdK (W H : Nat) (l : List Bool) (c : Bool) (wt : Fl → Bool) (k : Nat) : List Fl := (List.range k).flatMap fun i => (thK W H l c i).filter wt
theorem sdK_0 (W H : Nat) (l : List Bool) (c : Bool) (wt : Fl → Bool) : sdK W H l c wt 0 = [] := rfl
theorem sdK_succ (W H : Nat) (l : List Bool) (c : Bool) (wt : Fl → Bool) (k : Nat) : sdK W H l c wt (k + 1) = sdK W H l c wt k ++ (thK W H l c k).filter wt := by
  simp [sdK, List.range_succ]
theorem filter_take {xs : List Fl} (wt : Fl → Bool) {j : Nat} (hj : j < xs.length) : (xs.take (j + 1)).filter wt = (xs.take j).filter wt ++ if wt (flD xs j) then [flD xs j] else [] := by
  rw [List.take_add_one, List.getElem?_eq_getElem hj, List.filter_append, flD_get hj]
  simp [List.filter_cons]
theorem sdK_len {W H : Nat} (hW0 : 0 < W) (hH0 : 0 < H) (hW : W ≤ 64) (hH : H ≤ 64) (l : List Bool) (c : Bool) (wt : Fl → Bool) : ∀ k, (sdK W H l c wt k).length ≤ k * 64
  | 0 => by simp [sdK_0]
  | k + 1 => by
    have h1 := sdK_len hW0 hH0 hW hH l c wt k
    have h2 := List.length_filter_le wt (thK W H l c k)
    have hl := faK_len W H l k
    have h3 : (thK W H l c k).length ≤ (faK W H l k).length := thF_len _ _ _ (by rw [hl]; split <;> omega)
    have h4 : (faK W H l k).length ≤ 64 := by rw [hl]; split <;> omega
    rw [sdK_succ, List.length_append]; omega
/-- The objects name no others than these, wherever they stand. -/
def ShutB (h : List AObj) : Prop := ∀ o ∈ h, ∀ x ∈ o.cells, ∀ m ks, h.length ≤ m → ren (keepF m ks) 8 x = x
theorem keepF_low {m id : Nat} (ks : List Nat) (h : id < m) : keepF m ks id = some id := by simp [keepF, h]
/-- .. as a loop's rounds meet them. -/
theorem floatsY_k (c : Bool) {k : Nat} (a m i0 p1 p2 n : Nat) (w : Bool) {f : List Bool} (hf : f.length = n) (hn0 : 0 < n) (hn2 : n ≤ 64) (hi0 : i0 < m) (hp1 : p1 < m) (hp2 : p2 < m) (hs ex : Nat → List AObj) (hsh : ∀ j, j ≤ (thF w a f c).length → ShutA m (hs j))
    (q1 : (hs 0)[p1]? = some ⟨49, 3, [B w, I a, .ref i0 0 n n]⟩) (q2 : (hs 0)[p2]? = some ⟨4, 1, [B c]⟩) (q3 : (hs 0)[i0]? = some ⟨4, 1, bools f⟩) :
    ∃ own, SpecY Try.prog 22 (stepsO (thF w a f c).length hs own ex (fun j => flA (flD (thF w a f c) j))) [.ptr p1 0 3, .ptr p2 0 1] (hs 0) (hs (thF w a f c).length) := by
  by_cases hw : tw c f = f.length
  · have e : thF w a f c = [flW w a f] := if_pos hw
    rw [e] at hsh ⊢
    exact ⟨_, floatsY_w hf hn0 (by omega) w c a m i0 p1 p2 hs ex hsh (by rw [← hf]; exact tw_all hw) q1 q2 q3⟩
  · have e : thF w a f c = stL w a f c := if_neg hw
    have hle := tw_le c f
    rw [e] at hsh ⊢
    rw [stL_len] at hsh ⊢
    exact ⟨_, floatsY_s hf hn0 (by omega) w c a m i0 p1 p2 hs ex (s := tw c f) hi0 hp1 hp2 (by omega) (tw_end c f (by omega)) (fun i hi => tw_in c f i hi) hsh q1 q2 q3⟩
/-- The heap of side: its own five objects behind the caller's. -/
def sdH (W H : Nat) (b : Bool) (l : List Bool) (c : Bool) (fw : Nat) (cs : List AVal) (h : List AObj) (ys : List Fl) (r : List AObj) : List AObj :=
  h ++ (⟨24, 3, [I W, I H, BA b l]⟩ :: ⟨4, 1, [B c]⟩ :: ⟨42, 1, [.func (.func fw) [] cs]⟩ :: ⟨26, 1, [gwW 5 (h.length + 4) ys.length]⟩ :: goW 41 5 (fls ys) :: r)
theorem sdH_len (W H : Nat) (b : Bool) (l : List Bool) (c : Bool) (fw : Nat) (cs : List AVal) (h : List AObj) (ys : List Fl) (r : List AObj) : (sdH W H b l c fw cs h ys r).length = h.length + 5 + r.length := by simp [sdH]; omega
theorem sdH_shut (W H : Nat) (b : Bool) (l : List Bool) (c : Bool) (fw : Nat) {cs : List AVal} (hcs : ∀ f, cs.map (ren f 7) = cs) {h : List AObj} (hsh : ShutB h) (ys : List Fl) {r : List AObj} {m : Nat} (hm : m = h.length + 5 + r.length) (hr : ∀ o ∈ r, ∀ x ∈ o.cells, ∀ ks, ren (keepF m ks) 8 x = x) : ShutA m (sdH W H b l c fw cs h ys r) := by
  refine ⟨by rw [sdH_len, hm], fun o ho x hx ks => ?_⟩
  simp only [sdH, List.mem_append, List.mem_cons] at ho
  rcases ho with ho | rfl | rfl | rfl | rfl | rfl | ho
  · exact hsh o ho x hx m ks (by omega)
  · simp only [List.mem_cons, List.not_mem_nil, or_false] at hx
    rcases hx with rfl | rfl | rfl
    · rfl
    · rfl
    · simp only [ren, map_ren_bools]
  · simp only [List.mem_cons, List.not_mem_nil, or_false] at hx
    subst hx; rfl
  · simp only [List.mem_cons, List.not_mem_nil, or_false] at hx
    subst hx
    simp only [ren, hcs, List.map_nil]
  · simp only [List.mem_cons, List.not_mem_nil, or_false] at hx
    subst hx
    exact ren_gwF _ _ _ _ _ (keepF_low ks (by omega))
  · rw [goW_cells] at hx
    exact fls_all (fun x => ren (keepF m ks) 8 x = x) (fun _ => rfl) (fun _ => rfl) _ x hx
  · exact hr o ho x hx ks
section
variable {W H : Nat} (hW0 : 0 < W) (hH0 : 0 < H) (hW : W ≤ 64) (hH : H ≤ 64) (b : Bool) {l : List Bool} (hn : l.length = W * H)
include hW0 hH0 hW hH hn
theorem side_s (c : Bool) (fw : Nat) (cs cs' : List AVal) (wt : Fl → Bool) (hcs : ∀ f, cs.map (ren f 7) = cs) (hca : ∀ h, cs.map (argOf h 6) = cs') (hwt : ∀ x : Fl, Contract Try.prog fw (.agg [B x.w, I x.a, I x.f, I x.n, B x.z] :: cs') (B (wt x))) (h : List AObj) (hsh : ShutB h) :
    SpecTo Try.prog 13 [GA W H b l, B c, .func (.func fw) [] cs] h (gwW 5 h.length (sdK W H l c wt (W + H)).length) (h ++ [goW 41 5 (fls (sdK W H l c wt (W + H)))]) := by
  refine SpecTo.intro (effS [] false) follows Try.func13 rfl rfl (by kernel_rfl) (Nat.le_of_ble_eq_true rfl) ?_
  simp (disch := first | assumption | omega | rfl | simp only [RH]) only [↓RP, RG, FX, RQ, ↓reduceIte, Nat.reduceEqDiff, reduceCtorEq, Nat.reduceBEq, Nat.reduceAdd, Nat.reduceLeDiff, args0_3, parts_func, one_func]
  refine callK_F 6 (lines_c W H b l) (by simp (disch := first | assumption | omega | rfl | simp only [RH]) only [↓RP, RG, FX, RQ, ↓reduceIte, Nat.reduceEqDiff, reduceCtorEq, Nat.reduceBEq, Nat.reduceAdd, Nat.reduceLeDiff, RA] <;> rfl) (.inr (by simp [noRef, bools_noRef])) ?_
  simp (disch := first | assumption | omega | rfl | simp only [RH]) only [↓RP, RG, FX, RQ, ↓reduceIte, Nat.reduceEqDiff, reduceCtorEq, Nat.reduceBEq, Nat.reduceAdd, Nat.reduceLeDiff]
  refine rangeK_O (s := ⟨[(3, .ptr h.length 0 3), (4, .ptr (h.length + 1) 0 1), (5, .ptr (h.length + 2) 0 1), (7, .ptr (h.length + 3) 0 1), (11, .func (.func 21) [] [.spot true [I W, I H, BA b l]])], sdH W H b l c fw cs h (sdK W H l c wt 0) []⟩) [3, 4, 5, 7, 11] (W + H) (fun k => sdH W H b l c fw cs h (sdK W H l c wt k) []) (lineO (h.length + 5) W H l) (fun k => [⟨49, 3, [B (decide (k < W)), I (if k < W then k else k - W : Nat), .ref (h.length + 6) 0 (if k < W then H else W) (if k < W then H else W)]⟩, ⟨49, 3, [B (decide (k < W)), I (if k < W then k else k - W : Nat), .ref (h.length + 6) 0 (if k < W then H else W) (if k < W then H else W)]⟩, ⟨4, 1, [B c]⟩]) (lineA (h.length + 5) W H l) ?_ rfl rfl (linesF_y hW0 hH0 (by omega) (by omega) true b hn (h.length + 5) _ _ (fun k hk => (sdH_shut W H b l c fw hcs hsh _ rfl (fun o ho => by cases ho)).shut)) ?_ ?_
  · simp only [↓RP, RG, FX, RQ, ↓reduceIte, Nat.reduceEqDiff, reduceCtorEq, Nat.reduceBEq, Nat.reduceAdd, Nat.reduceLeDiff]
    exact Wk.weak (fun t => .refl _) (.app h (.cons _ _ _ _ (WL.refl _) (.cons _ _ _ _ (WL.refl _) (.cons _ _ _ _ (WL.refl _) (.cons _ _ _ _ (.cons (.nil _) .nil) (.nil _ (by simp [sdK_0, fls_nil, goW])))))))
  · intro i hi
    obtain ⟨wk, hwk⟩ : ∃ wk, decide (i < W) = wk := ⟨_, rfl⟩
    obtain ⟨ak, hak⟩ : ∃ ak, (if i < W then i else i - W) = ak := ⟨_, rfl⟩
    obtain ⟨nk, hnk⟩ : ∃ nk, (if i < W then H else W) = nk := ⟨_, rfl⟩
    have hl1 : (faK W H l i).length = nk := by rw [faK_len, hnk]
    have hn0 : 0 < nk := by rw [← hnk]; split <;> omega
    have hn6 : nk ≤ 64 := by rw [← hnk]; split <;> omega
    have hA : lineA (h.length + 5) W H l i = .agg [B wk, I ak, .ref (h.length + 6) 0 nk nk] := by unfold lineA; rw [hwk, hak, hnk]
    have hO : lineO (h.length + 5) W H l i = [⟨49, 3, [B wk, I ak, .ref (h.length + 6) 0 nk nk]⟩, ⟨4, 1, bools (faK W H l i)⟩] := by unfold lineO; rw [hwk, hak, hnk]
    have hT : thK W H l c i = thF wk ak (faK W H l i) c := by unfold thK; rw [hwk, hak]
    simp only [hwk, hak, hnk, hA, hO]
    obtain ⟨rest, hrest⟩ : ∃ rest : List AObj, rest = [⟨49, 3, [B wk, I ak, .ref (h.length + 6) 0 nk nk]⟩, ⟨4, 1, bools (faK W H l i)⟩, ⟨49, 3, [B wk, I ak, .ref (h.length + 6) 0 nk nk]⟩, ⟨49, 3, [B wk, I ak, .ref (h.length + 6) 0 nk nk]⟩, ⟨4, 1, [B c]⟩] := ⟨_, rfl⟩
    obtain ⟨own, hY⟩ := floatsY_k c (k := i) ak (h.length + 10) (h.length + 6) (h.length + 8) (h.length + 9) nk wk hl1 hn0 hn6 (by omega) (by omega) (by omega) (fun j => sdH W H b l c fw cs h (sdK W H l c wt i ++ ((thF wk ak (faK W H l i) c).take j).filter wt) rest) (fun j => [⟨41, 5, flc (flD (thF wk ak (faK W H l i) c) j)⟩]) (fun j hj => sdH_shut W H b l c fw hcs hsh _ (by rw [hrest]; rfl) (fun o ho x hx ks => by
      rw [hrest] at ho
      have hk1 := keepF_low (m := h.length + 10) (id := h.length + 6) ks (by omega)
      simp only [List.mem_cons, List.not_mem_nil, or_false] at ho
      rcases ho with rfl | rfl | rfl | rfl | rfl
      · simp only [List.mem_cons, List.not_mem_nil, or_false] at hx
        rcases hx with rfl | rfl | rfl <;> simp [ren, hk1]
      · simp only [bools, List.mem_map] at hx
        obtain ⟨u, _, rfl⟩ := hx; rfl
      · simp only [List.mem_cons, List.not_mem_nil, or_false] at hx
        rcases hx with rfl | rfl | rfl <;> simp [ren, hk1]
      · simp only [List.mem_cons, List.not_mem_nil, or_false] at hx
        rcases hx with rfl | rfl | rfl <;> simp [ren, hk1]
      · simp only [List.mem_cons, List.not_mem_nil, or_false] at hx
        subst hx; rfl)) (by simp [sdH, hrest]) (by simp [sdH, hrest]) (by simp [sdH, hrest]; try rfl)
    simp (disch := first | assumption | omega | rfl | simp only [RH]) only [↓RP, RG, FX, RQ, ↓reduceIte, Nat.reduceEqDiff, reduceCtorEq, Nat.reduceBEq, Nat.reduceAdd, Nat.reduceLeDiff, sdH]
    refine callK_T rfl (floats_s wk c ak (h.length + 6) nk _) ?_
    simp (disch := first | assumption | omega | rfl | simp only [RH]) only [↓RP, RG, FX, RQ, ↓reduceIte, Nat.reduceEqDiff, reduceCtorEq, Nat.reduceBEq, Nat.reduceAdd, Nat.reduceLeDiff]
    refine rangeK_O (s := ⟨[(3, .ptr h.length 0 3), (4, .ptr (h.length + 1) 0 1), (5, .ptr (h.length + 2) 0 1), (7, .ptr (h.length + 3) 0 1), (15, .func (.func 22) [] [.ptr (h.length + 8) 0 3, .ptr (h.length + 9) 0 1])], sdH W H b l c fw cs h (sdK W H l c wt i ++ ((thF wk ak (faK W H l i) c).take 0).filter wt) rest⟩) [3, 4, 5, 7, 15] _ (fun j => sdH W H b l c fw cs h (sdK W H l c wt i ++ ((thF wk ak (faK W H l i) c).take j).filter wt) rest) own _ (fun j => flA (flD (thF wk ak (faK W H l i) c) j)) (Wk.of_eq ?_) rfl rfl hY ?_ ?_
    · simp only [↓RP, RG, FX, RQ, ↓reduceIte, Nat.reduceEqDiff, reduceCtorEq, Nat.reduceBEq, Nat.reduceAdd, Nat.reduceLeDiff]
      simp [sdH, hrest, keepEnv, look]
    · intro j hj
      simp only []
      obtain ⟨ys, hys⟩ : ∃ ys, ys = sdK W H l c wt i ++ ((thF wk ak (faK W H l i) c).take j).filter wt := ⟨_, rfl⟩
      obtain ⟨fx, hfx⟩ : ∃ fx, fx = flD (thF wk ak (faK W H l i) c) j := ⟨_, rfl⟩
      obtain ⟨hh, hhe⟩ : ∃ hh, hh = sdH W H b l c fw cs h ys rest ++ own j := ⟨_, rfl⟩
      rw [← hys, ← hfx, ← hhe]
      have hM : h.length + 10 ≤ hh.length := by rw [hhe, List.length_append, sdH_len, hrest]; simp
      have hyl : ys.length ≤ 100000 := by
        have h1 := sdK_len hW0 hH0 hW hH l c wt i
        have h2 := List.length_filter_le wt ((thF wk ak (faK W H l i) c).take j)
        have h3 := thF_len wk ak (f := faK W H l i) c (by omega)
        rw [List.length_take] at h2
        rw [hys, List.length_append]; omega
      have g5 : ∀ r, (hh ++ r)[h.length + 2]? = some ⟨42, 1, [.func (.func fw) [] cs]⟩ := fun r => by rw [hhe]; simp [sdH]
      have g7 : ∀ r, (hh ++ r)[h.length + 3]? = some ⟨26, 1, [gwW 5 (h.length + 4) ys.length]⟩ := fun r => by rw [hhe]; simp [sdH]
      have g8 : ∀ r, (hh ++ r)[h.length + 4]? = some (goW 41 5 (fls ys)) := fun r => by rw [hhe]; simp [sdH]
      simp (disch := first | assumption | omega | rfl | simp only [RH]) only [↓RP, RG, FX, RQ, ↓reduceIte, Nat.reduceEqDiff, reduceCtorEq, Nat.reduceBEq, Nat.reduceAdd, Nat.reduceLeDiff, flA, flc, g5]
      refine callK_V 6 (hwt fx) (by simp only [List.nil_append, List.map_append, hca]; rfl) (.inl rfl) ?_
      by_cases hw : wt fx = true
      · have hap : aAppend Try.prog 26 (hh ++ [(⟨41, 5, [B fx.w, I fx.a, I fx.f, I fx.n, B fx.z]⟩ : AObj)]) (gwW 5 (h.length + 4) ys.length) (.lit 1 [B fx.w, I fx.a, I fx.f, I fx.n, B fx.z]) = some (gwW 5 (h.length + 4) (ys.length + 1), (hh ++ [(⟨41, 5, [B fx.w, I fx.a, I fx.f, I fx.n, B fx.z]⟩ : AObj)]).set (h.length + 4) (goW 41 5 (fls ys ++ [B fx.w, I fx.a, I fx.f, I fx.n, B fx.z]))) := append_W (g8 _) (by rw [fls_length]) rfl rfl (by omega) (by omega)
        have hst7 : ∀ o r, (hh ++ r).set (h.length + 4) o = hh.set (h.length + 4) o ++ r := fun o r => hSet_low _ _ (by omega)
        have hst7b : ∀ o r, (hh.set (h.length + 4) (goW 41 5 (fls ys ++ [B fx.w, I fx.a, I fx.f, I fx.n, B fx.z])) ++ r).set (h.length + 3) o = (hh.set (h.length + 4) (goW 41 5 (fls ys ++ [B fx.w, I fx.a, I fx.f, I fx.n, B fx.z]))).set (h.length + 3) o ++ r := fun o r => hSet_low _ _ (by simp; omega)
        have g7b : ∀ o r, (hh.set (h.length + 4) o ++ r)[h.length + 3]? = some ⟨26, 1, [gwW 5 (h.length + 4) ys.length]⟩ := fun o r => by
          rw [hhe]; simp [sdH]
        simp (disch := first | assumption | omega | rfl | simp only [RH]) only [↓RP, RG, FX, RQ, ↓reduceIte, Nat.reduceEqDiff, reduceCtorEq, Nat.reduceBEq, Nat.reduceAdd, Nat.reduceLeDiff, hw, g7, hap, hst7, g7b, hst7b, parts_gwW, one_gwW]
        refine Wk.of_eq ?_
        rw [filter_take wt hj, ← hfx, hw, hhe]
        have e : fls (ys ++ [fx]) = fls ys ++ [B fx.w, I fx.a, I fx.f, I fx.n, B fx.z] := by rw [fls_app, fls_one1]; rfl
        have e2 : sdK W H l c wt i ++ (((thF wk ak (faK W H l i) c).take j).filter wt ++ [fx]) = ys ++ [fx] := by rw [hys, List.append_assoc]
        rw [if_pos rfl, e2]
        simp [sdH, e, flc, List.set_append, show ¬ h.length + 4 < h.length by omega, show ¬ h.length + 3 < h.length by omega]
      · have hw2 : wt fx = false := by simpa using hw
        simp (disch := first | assumption | omega | rfl | simp only [RH]) only [↓RP, RG, FX, RQ, ↓reduceIte, Nat.reduceEqDiff, reduceCtorEq, Nat.reduceBEq, Nat.reduceAdd, Nat.reduceLeDiff, hw2]
        refine Wk.of_eq ?_
        rw [filter_take wt hj, ← hfx, hw2, hhe, hys]
        simp [flc]
    · simp (disch := first | assumption | omega | rfl | simp only [RH]) only [↓RP, RG, FX, RQ, ↓reduceIte, Nat.reduceEqDiff, reduceCtorEq, Nat.reduceBEq, Nat.reduceAdd, Nat.reduceLeDiff]
      refine Wk.of_eq ?_
      rw [List.take_length, sdK_succ, hT, hrest]
      simp [sdH]
  · simp (disch := first | assumption | omega | rfl | simp only [RH]) only [↓RP, RG, FX, RQ, ↓reduceIte, Nat.reduceEqDiff, reduceCtorEq, Nat.reduceBEq, Nat.reduceAdd, Nat.reduceLeDiff, sdH]
    refine ⟨_, by rw [resVal_1 rfl]; simp (disch := first | assumption | omega | rfl | simp only [RH]) only [↓RP, RG, FX, RQ, ↓reduceIte, Nat.reduceEqDiff, reduceCtorEq, Nat.reduceBEq, Nat.reduceAdd, Nat.reduceLeDiff, raX_tmp, raX_cell, rvX_0, rvX_1, rvX_2, rvX_3, rvX_4, rvX_5]; rfl, (Wk.drop (hb := h) (h1 := h) (gs := [_, _, _, _, _]) 8 [4] rfl (by simp) (by simp) (fun i o ho => .inl ho)).trans (Wk.of_eq ?_)⟩
    simp only [List.map_cons, List.map_nil, List.getD_cons_zero, List.getD_cons_succ, renO_goF]
    have e1 : ren (keepF h.length [4]) 8 (gwW 5 (h.length + 4) (sdK W H l c wt (W + H)).length) = gwW 5 h.length (sdK W H l c wt (W + H)).length := by
      have e0 : keepF h.length [4] (h.length + 4) = some h.length := by simp [keepF, show ¬ h.length + 4 < h.length by omega]
      unfold gwW; split <;> simp [ren, e0]
    rw [e1]
end
end Go.Proofs.Ytikchhmddddgaaa

/- Chapter 8: float.List, float.Longest, float.Over. -/
set_option linter.unusedSimpArgs false
set_option linter.unusedVariables false
set_option maxRecDepth 100000
namespace Go.Proofs.Ytikchhmddddgaaa
open Go Go.Proofs Go.AW

/-- A list of floats. -/
def flV (p : Bool) (xs : List Fl) : AVal := .list p xs.isEmpty xs.length (fls xs)
theorem resOf_gwF {h : List AObj} {n k : Nat} {xs : List Fl} (ho : h[k]? = some (goW 41 5 (fls xs))) : resOf h (n + 2) (gwW 5 k xs.length) = flV true xs := by
  cases xs with
  | nil => rfl
  | cons x r =>
    have e1 := fls_res h n (x :: r)
    have e2 := fls_length (x :: r)
    rw [gwW_pos (by simp)]
    simp only [resOf, ho]
    rw [goF_pos (by simp), if_pos e2]
    simp only [List.drop_zero, flV]
    rw [List.take_of_length_le (by omega), e1]
    rfl
theorem argOf_flV (h : List AObj) (n : Nat) (p : Bool) (xs : List Fl) : argOf h (n + 2) (flV p xs) = flV false xs := by
  simp only [flV, argOf, fls_arg]
/-- Is it a float at all? -/
def wl (x : Fl) : Bool := !(x.w == false && ((x.a : Int) == 0 && ((x.f : Int) == 0 && ((x.n : Int) == 0 && x.z == false))))
theorem wl_c (x : Fl) : Contract Try.prog 14 [.agg [B x.w, I x.a, I x.f, I x.n, B x.z]] (B (wl x)) := by
  refine Contract.intro (effS [] false) 6 follows Try.func14 rfl rfl (by kernel_rfl) (Nat.le_of_ble_eq_true rfl) ?_
  simp (disch := first | assumption | omega | rfl | simp only [RH]) only [↓RP, RG, FX, RQ, ↓reduceIte, Nat.reduceEqDiff, reduceCtorEq, Nat.reduceBEq, Nat.reduceAdd, Nat.reduceLeDiff, args0_1, eqK_bool, eqK_int, eqK_nil, neqKT, Option.map_some]
  rw [resVal_1 rfl]; simp (disch := first | assumption | omega | rfl | simp only [RH]) only [↓RP, RG, FX, RQ, ↓reduceIte, Nat.reduceEqDiff, reduceCtorEq, Nat.reduceBEq, Nat.reduceAdd, Nat.reduceLeDiff, RS]
  first | done | rfl
/-- Is it over a length? -/
def wo (m : Int) (x : Fl) : Bool := x.z || decide (m < (x.n : Int))
theorem wo_c (p : Bool) (m : Int) (x : Fl) : Contract Try.prog 17 [.agg [B x.w, I x.a, I x.f, I x.n, B x.z], .spot p [I m]] (B (wo m x)) := by
  unfold wo
  refine Contract.intro (effS [] false) 6 follows Try.func17 rfl rfl (by kernel_rfl) (Nat.le_of_ble_eq_true rfl) ?_
  cases hz : x.z with
  | true =>
    simp (disch := first | assumption | omega | rfl | simp only [RH]) only [↓RP, RG, FX, RQ, ↓reduceIte, Nat.reduceEqDiff, reduceCtorEq, Nat.reduceBEq, Nat.reduceAdd, Nat.reduceLeDiff, args0_2]
    rw [resVal_1 rfl]; simp (disch := first | assumption | omega | rfl | simp only [RH]) only [↓RP, RG, FX, RQ, ↓reduceIte, Nat.reduceEqDiff, reduceCtorEq, Nat.reduceBEq, Nat.reduceAdd, Nat.reduceLeDiff, RS]
    first | done | rfl
  | false =>
    simp (disch := first | assumption | omega | rfl | simp only [RH]) only [↓RP, RG, FX, RQ, ↓reduceIte, Nat.reduceEqDiff, reduceCtorEq, Nat.reduceBEq, Nat.reduceAdd, Nat.reduceLeDiff, args0_2]
    rw [resVal_1 rfl]; simp (disch := first | assumption | omega | rfl | simp only [RH]) only [↓RP, RG, FX, RQ, ↓reduceIte, Nat.reduceEqDiff, reduceCtorEq, Nat.reduceBEq, Nat.reduceAdd, Nat.reduceLeDiff, RS]
    first | done | (simp; done) | rfl
theorem shutB_1 (W H : Nat) (b : Bool) (l : List Bool) : ShutB [⟨24, 3, [I W, I H, BA b l]⟩] := by
  intro o ho x hx m ks hm
  simp only [List.mem_cons, List.not_mem_nil, or_false] at ho
  subst ho
  simp only [List.mem_cons, List.not_mem_nil, or_false] at hx
  rcases hx with rfl | rfl | rfl
  · rfl
  · rfl
  · simp only [ren, map_ren_bools]
theorem shutB_2 (xs : List Fl) : ShutB [goW 41 5 (fls xs)] := by
  intro o ho x hx m ks hm
  simp only [List.mem_cons, List.not_mem_nil, or_false] at ho
  subst ho
  rw [goW_cells] at hx
  exact fls_all (fun x => ren (keepF m ks) 8 x = x) (fun _ => rfl) (fun _ => rfl) _ x hx
theorem listP_bad (w h : Int) (b : Bool) (l : List Bool) (s : Int) (hz : gchk w h l.length ≠ 0) : Contract Try.prog 5 [GA w h b l, I s] (.tuple [flV true [], I (gchk w h l.length)]) := by
  refine Contract.intro (effS [] false) 6 follows Try.func5 rfl rfl (by kernel_rfl) (Nat.le_of_ble_eq_true rfl) ?_
  simp (disch := first | assumption | omega | rfl | simp only [RH]) only [↓RP, RG, FX, RQ, ↓reduceIte, Nat.reduceEqDiff, reduceCtorEq, Nat.reduceBEq, Nat.reduceAdd, Nat.reduceLeDiff, args0_2]
  refine callK_F 6 (gcheckP_c w h b l) (by simp (disch := first | assumption | omega | rfl | simp only [RH]) only [↓RP, RG, FX, RQ, ↓reduceIte, Nat.reduceEqDiff, reduceCtorEq, Nat.reduceBEq, Nat.reduceAdd, Nat.reduceLeDiff, RA] <;> rfl) (.inl (by simp [allFresh, ints_fresh, bools_fresh])) ?_
  simp (disch := first | assumption | omega | rfl | simp only [RH]) only [↓RP, RG, FX, RQ, ↓reduceIte, Nat.reduceEqDiff, reduceCtorEq, Nat.reduceBEq, Nat.reduceAdd, Nat.reduceLeDiff]
  rw [resVal_2 rfl]; simp (disch := first | assumption | omega | rfl | simp only [RH]) only [↓RP, RG, FX, RQ, ↓reduceIte, Nat.reduceEqDiff, reduceCtorEq, Nat.reduceBEq, Nat.reduceAdd, Nat.reduceLeDiff, RS]
  first | done | rfl
section
variable {W H : Nat} (hW0 : 0 < W) (hH0 : 0 < H) (hW : W ≤ 64) (hH : H ≤ 64) (b : Bool) {l : List Bool} (hn : l.length = W * H)
include hW0 hH0 hW hH hn
theorem listP_arg {s : Int} (h0 : s ≠ 0) (h1 : s ≠ 1) : Contract Try.prog 5 [GA W H b l, I s] (.tuple [flV true [], I 2]) := by
  have hz : gchk W H l.length = 0 := gchk_ok ⟨by omega, by omega, by omega, by omega, by rw [hn, Int.natCast_mul]⟩
  have hck := gcheckP_c W H b l
  rw [hz] at hck
  refine Contract.intro (effS [] false) 6 follows Try.func5 rfl rfl (by kernel_rfl) (Nat.le_of_ble_eq_true rfl) ?_
  simp (disch := first | assumption | omega | rfl | simp only [RH]) only [↓RP, RG, FX, RQ, ↓reduceIte, Nat.reduceEqDiff, reduceCtorEq, Nat.reduceBEq, Nat.reduceAdd, Nat.reduceLeDiff, args0_2]
  refine callK_F 6 (hck) (by simp (disch := first | assumption | omega | rfl | simp only [RH]) only [↓RP, RG, FX, RQ, ↓reduceIte, Nat.reduceEqDiff, reduceCtorEq, Nat.reduceBEq, Nat.reduceAdd, Nat.reduceLeDiff, RA] <;> rfl) (.inl (by simp [allFresh, ints_fresh, bools_fresh])) ?_
  simp (disch := first | assumption | omega | rfl | simp only [RH]) only [↓RP, RG, FX, RQ, ↓reduceIte, Nat.reduceEqDiff, reduceCtorEq, Nat.reduceBEq, Nat.reduceAdd, Nat.reduceLeDiff]
  rw [resVal_2 rfl]; simp (disch := first | assumption | omega | rfl | simp only [RH]) only [↓RP, RG, FX, RQ, ↓reduceIte, Nat.reduceEqDiff, reduceCtorEq, Nat.reduceBEq, Nat.reduceAdd, Nat.reduceLeDiff, RS]
  first | done | rfl
theorem listP_c (c : Bool) : Contract Try.prog 5 [GA W H b l, I (if c then 0 else 1)] (.tuple [flV true (sdK W H l c wl (W + H)), I 0]) := by
  have hz : gchk W H l.length = 0 := gchk_ok ⟨by omega, by omega, by omega, by omega, by rw [hn, Int.natCast_mul]⟩
  have hck := gcheckP_c W H b l
  rw [hz] at hck
  have hsd := side_s hW0 hH0 hW hH b hn c 14 [] [] wl (fun _ => rfl) (fun _ => rfl) wl_c [⟨24, 3, [I W, I H, BA b l]⟩] (shutB_1 W H b l)
  cases c with
  | true =>
    refine Contract.intro (effS [] false) 6 follows Try.func5 rfl rfl (by kernel_rfl) (Nat.le_of_ble_eq_true rfl) ?_
    simp (disch := first | assumption | omega | rfl | simp only [RH]) only [↓RP, RG, FX, RQ, ↓reduceIte, Nat.reduceEqDiff, reduceCtorEq, Nat.reduceBEq, Nat.reduceAdd, Nat.reduceLeDiff, args0_2, Bool.false_eq_true]
    refine callK_F 6 (hck) (by simp (disch := first | assumption | omega | rfl | simp only [RH]) only [↓RP, RG, FX, RQ, ↓reduceIte, Nat.reduceEqDiff, reduceCtorEq, Nat.reduceBEq, Nat.reduceAdd, Nat.reduceLeDiff, RA] <;> rfl) (.inl (by simp [allFresh, ints_fresh, bools_fresh])) ?_
    simp (disch := first | assumption | omega | rfl | simp only [RH]) only [↓RP, RG, FX, RQ, ↓reduceIte, Nat.reduceEqDiff, reduceCtorEq, Nat.reduceBEq, Nat.reduceAdd, Nat.reduceLeDiff]
    refine callK_T rfl hsd ?_
    simp (disch := first | assumption | omega | rfl | simp only [RH]) only [↓RP, RG, FX, RQ, ↓reduceIte, Nat.reduceEqDiff, reduceCtorEq, Nat.reduceBEq, Nat.reduceAdd, Nat.reduceLeDiff]
    rw [resVal_2 rfl]; simp (disch := first | assumption | omega | rfl | simp only [RH]) only [↓RP, RG, FX, RQ, ↓reduceIte, Nat.reduceEqDiff, reduceCtorEq, Nat.reduceBEq, Nat.reduceAdd, Nat.reduceLeDiff, RS]
    rw [resOf_gwF (by rfl)]
  | false =>
    refine Contract.intro (effS [] false) 6 follows Try.func5 rfl rfl (by kernel_rfl) (Nat.le_of_ble_eq_true rfl) ?_
    simp (disch := first | assumption | omega | rfl | simp only [RH]) only [↓RP, RG, FX, RQ, ↓reduceIte, Nat.reduceEqDiff, reduceCtorEq, Nat.reduceBEq, Nat.reduceAdd, Nat.reduceLeDiff, args0_2, Bool.false_eq_true]
    refine callK_F 6 (hck) (by simp (disch := first | assumption | omega | rfl | simp only [RH]) only [↓RP, RG, FX, RQ, ↓reduceIte, Nat.reduceEqDiff, reduceCtorEq, Nat.reduceBEq, Nat.reduceAdd, Nat.reduceLeDiff, RA] <;> rfl) (.inl (by simp [allFresh, ints_fresh, bools_fresh])) ?_
    simp (disch := first | assumption | omega | rfl | simp only [RH]) only [↓RP, RG, FX, RQ, ↓reduceIte, Nat.reduceEqDiff, reduceCtorEq, Nat.reduceBEq, Nat.reduceAdd, Nat.reduceLeDiff]
    refine callK_T rfl hsd ?_
    simp (disch := first | assumption | omega | rfl | simp only [RH]) only [↓RP, RG, FX, RQ, ↓reduceIte, Nat.reduceEqDiff, reduceCtorEq, Nat.reduceBEq, Nat.reduceAdd, Nat.reduceLeDiff]
    rw [resVal_2 rfl]; simp (disch := first | assumption | omega | rfl | simp only [RH]) only [↓RP, RG, FX, RQ, ↓reduceIte, Nat.reduceEqDiff, reduceCtorEq, Nat.reduceBEq, Nat.reduceAdd, Nat.reduceLeDiff, RS]
    rw [resOf_gwF (by rfl)]
end
/-- The length of the longest of the first. -/
def lgF (xs : List Fl) : Nat → Nat
  | 0 => 0
  | i + 1 => max (lgF xs i) (flD xs i).n
theorem pX_fl3 {l : List Fl} {j : Nat} (h : j < l.length) : (((fls l).drop (j * 5)).drop 3)[0]? = some (I (flD l j).n) := by
  rw [fls_drop h, flD_get h]; rfl
theorem pX_fl4 {l : List Fl} {j : Nat} (h : j < l.length) : (((fls l).drop (j * 5)).drop 4)[0]? = some (B (flD l j).z) := by
  rw [fls_drop h, flD_get h]; rfl
theorem longestP_c (w h : Int) (b : Bool) (l : List Bool) (s e : Int) {xs : List Fl} (hx : xs.length ≤ 100000) (hl : Contract Try.prog 5 [GA w h b l, I s] (.tuple [flV true xs, I e])) : Contract Try.prog 7 [GA w h b l, I s] (.tuple [I (lgF xs xs.length), I e]) := by
  refine Contract.intro (effS [] false) 6 follows Try.func7 rfl rfl (by kernel_rfl) (Nat.le_of_ble_eq_true rfl) ?_
  simp (disch := first | assumption | omega | rfl | simp only [RH]) only [↓RP, RG, FX, RQ, ↓reduceIte, Nat.reduceEqDiff, reduceCtorEq, Nat.reduceBEq, Nat.reduceAdd, Nat.reduceLeDiff, args0_2]
  refine callK_F 6 hl (by simp (disch := first | assumption | omega | rfl | simp only [RH]) only [↓RP, RG, FX, RQ, ↓reduceIte, Nat.reduceEqDiff, reduceCtorEq, Nat.reduceBEq, Nat.reduceAdd, Nat.reduceLeDiff, RA] <;> rfl) (.inl (by simp [flV, allFresh, fls_fresh])) ?_
  simp (disch := first | assumption | omega | rfl | simp only [RH]) only [↓RP, RG, FX, RQ, ↓reduceIte, Nat.reduceEqDiff, reduceCtorEq, Nat.reduceBEq, Nat.reduceAdd, Nat.reduceLeDiff, flV]
  refine loopK_WW [7, 8, 17, 18, 19] (fun i : Nat => i ≤ xs.length) (fun i => ⟨[(7, I e), (8, I (lgF xs i)), (17, .list true xs.isEmpty xs.length (fls xs)), (18, I xs.length), (19, I i)], [⟨24, 3, [I w, I h, BA b l]⟩]⟩) (fun i => xs.length - i) 0 (by omega) (Wk.of_eq (by simp only [↓RP, RG, FX, RQ, ↓reduceIte, Nat.reduceEqDiff, reduceCtorEq, Nat.reduceBEq, Nat.reduceAdd, Nat.reduceLeDiff]; rfl)) ?_
  intro i hi
  by_cases hlt : i < xs.length
  · have hpx : pX (some (true, 5)) ((fls xs).drop (i * 5)) = some (.agg [B (flD xs i).w, I (flD xs i).a, I (flD xs i).f, I (flD xs i).n, B (flD xs i).z]) := pX_fls hlt
    simp (disch := first | assumption | omega | rfl | simp only [RH]) only [↓RP, RG, FX, RQ, ↓reduceIte, Nat.reduceEqDiff, reduceCtorEq, Nat.reduceBEq, Nat.reduceAdd, Nat.reduceLeDiff, hpx, Int.toNat_natCast]
    have hm : max ((lgF xs i : Nat) : Int) ((flD xs i).n : Int) = ((lgF xs (i + 1) : Nat) : Int) := by
      show _ = ((max (lgF xs i) (flD xs i).n : Nat) : Int); omega
    rw [hm]
    exact ⟨i + 1, by omega, (Wk.drop (hb := []) (h1 := []) (gs := [_, _]) 8 [0] rfl (by simp) (by simp) (by simp)).trans (Wk.of_eq (by simp only [RK, List.idxOf?_cons, List.idxOf?_nil, Nat.reduceBEq, Option.map_some, Option.map_none, List.map_cons, List.map_nil, List.getD_cons_zero, List.getD_cons_succ, Bool.false_eq_true, ↓reduceIte, Nat.add_zero, List.append_nil, map_ren_bools, map_ren_fls]; rfl)), by omega⟩
  · obtain rfl : xs.length = i := by omega
    simp (disch := first | assumption | omega | rfl | simp only [RH]) only [↓RP, RG, FX, RQ, ↓reduceIte, Nat.reduceEqDiff, reduceCtorEq, Nat.reduceBEq, Nat.reduceAdd, Nat.reduceLeDiff]
    rw [resVal_2 rfl]; simp (disch := first | assumption | omega | rfl | simp only [RH]) only [↓RP, RG, FX, RQ, ↓reduceIte, Nat.reduceEqDiff, reduceCtorEq, Nat.reduceBEq, Nat.reduceAdd, Nat.reduceLeDiff, RS]
    first | done | rfl
theorem overP_bad (w h : Int) (b : Bool) (l : List Bool) (m : Int) (hz : gchk w h l.length ≠ 0) : Contract Try.prog 9 [GA w h b l, I m] (.tuple [flV true [], I (gchk w h l.length)]) := by
  refine Contract.intro (effS [13] false [2] [0, 1]) 6 follows Try.func9 rfl rfl (by kernel_rfl) (Nat.le_of_ble_eq_true rfl) ?_
  simp (disch := first | assumption | omega | rfl | simp only [RH]) only [↓RP, RG, FX, RQ, ↓reduceIte, Nat.reduceEqDiff, reduceCtorEq, Nat.reduceBEq, Nat.reduceAdd, Nat.reduceLeDiff, args0_2]
  refine callK_F 6 (gcheckP_c w h b l) (by simp (disch := first | assumption | omega | rfl | simp only [RH]) only [↓RP, RG, FX, RQ, ↓reduceIte, Nat.reduceEqDiff, reduceCtorEq, Nat.reduceBEq, Nat.reduceAdd, Nat.reduceLeDiff, RA] <;> rfl) (.inl (by simp [allFresh, ints_fresh, bools_fresh])) ?_
  simp (disch := first | assumption | omega | rfl | simp only [RH]) only [↓RP, RG, FX, RQ, ↓reduceIte, Nat.reduceEqDiff, reduceCtorEq, Nat.reduceBEq, Nat.reduceAdd, Nat.reduceLeDiff]
  rw [resVal_2 rfl]; simp (disch := first | assumption | omega | rfl | simp only [RH]) only [↓RP, RG, FX, RQ, ↓reduceIte, Nat.reduceEqDiff, reduceCtorEq, Nat.reduceBEq, Nat.reduceAdd, Nat.reduceLeDiff, RS]
  first | done | rfl
section
variable {W H : Nat} (hW0 : 0 < W) (hH0 : 0 < H) (hW : W ≤ 64) (hH : H ≤ 64) (b : Bool) {l : List Bool} (hn : l.length = W * H)
include hW0 hH0 hW hH hn
theorem overP_arg {m : Int} (h0 : m < 0) : Contract Try.prog 9 [GA W H b l, I m] (.tuple [flV true [], I 2]) := by
  have hz : gchk W H l.length = 0 := gchk_ok ⟨by omega, by omega, by omega, by omega, by rw [hn, Int.natCast_mul]⟩
  have hck := gcheckP_c W H b l
  rw [hz] at hck
  refine Contract.intro (effS [13] false [2] [0, 1]) 6 follows Try.func9 rfl rfl (by kernel_rfl) (Nat.le_of_ble_eq_true rfl) ?_
  simp (disch := first | assumption | omega | rfl | simp only [RH]) only [↓RP, RG, FX, RQ, ↓reduceIte, Nat.reduceEqDiff, reduceCtorEq, Nat.reduceBEq, Nat.reduceAdd, Nat.reduceLeDiff, args0_2]
  refine callK_F 6 (hck) (by simp (disch := first | assumption | omega | rfl | simp only [RH]) only [↓RP, RG, FX, RQ, ↓reduceIte, Nat.reduceEqDiff, reduceCtorEq, Nat.reduceBEq, Nat.reduceAdd, Nat.reduceLeDiff, RA] <;> rfl) (.inl (by simp [allFresh, ints_fresh, bools_fresh])) ?_
  simp (disch := first | assumption | omega | rfl | simp only [RH]) only [↓RP, RG, FX, RQ, ↓reduceIte, Nat.reduceEqDiff, reduceCtorEq, Nat.reduceBEq, Nat.reduceAdd, Nat.reduceLeDiff]
  rw [resVal_2 rfl]; simp (disch := first | assumption | omega | rfl | simp only [RH]) only [↓RP, RG, FX, RQ, ↓reduceIte, Nat.reduceEqDiff, reduceCtorEq, Nat.reduceBEq, Nat.reduceAdd, Nat.reduceLeDiff, RS]
  first | done | rfl
theorem overP_c {m : Int} (h0 : 0 ≤ m) : Contract Try.prog 9 [GA W H b l, I m] (.tuple [flV true (sdK W H l true (wo m) (W + H) ++ sdK W H l false (wo m) (W + H)), I 0]) := by
  have hz : gchk W H l.length = 0 := gchk_ok ⟨by omega, by omega, by omega, by omega, by rw [hn, Int.natCast_mul]⟩
  have hck := gcheckP_c W H b l
  rw [hz] at hck
  have hs1 := side_s hW0 hH0 hW hH b hn true 17 [.spot true [I m]] [.spot false [I m]] (wo m) (fun _ => rfl) (fun _ => rfl) (wo_c false m) [] (fun o ho => by cases ho)
  have hs2 := side_s hW0 hH0 hW hH b hn false 17 [.spot true [I m]] [.spot false [I m]] (wo m) (fun _ => rfl) (fun _ => rfl) (wo_c false m) [goW 41 5 (fls (sdK W H l true (wo m) (W + H)))] (shutB_2 _)
  have hl1 := sdK_len hW0 hH0 hW hH l true (wo m) (W + H)
  have hl2 := sdK_len hW0 hH0 hW hH l false (wo m) (W + H)
  have hc : (sdK W H l true (wo m) (W + H) ++ sdK W H l false (wo m) (W + H)).length = (sdK W H l true (wo m) (W + H)).length + (sdK W H l false (wo m) (W + H)).length := List.length_append
  generalize sdK W H l true (wo m) (W + H) = xs at *
  generalize sdK W H l false (wo m) (W + H) = ys at *
  refine Contract.intro (effS [13] false [2] [0, 1]) 6 follows Try.func9 rfl rfl (by kernel_rfl) (Nat.le_of_ble_eq_true rfl) ?_
  simp (disch := first | assumption | omega | rfl | simp only [RH]) only [↓RP, RG, FX, RQ, ↓reduceIte, Nat.reduceEqDiff, reduceCtorEq, Nat.reduceBEq, Nat.reduceAdd, Nat.reduceLeDiff, args0_2]
  refine callK_F 6 (hck) (by simp (disch := first | assumption | omega | rfl | simp only [RH]) only [↓RP, RG, FX, RQ, ↓reduceIte, Nat.reduceEqDiff, reduceCtorEq, Nat.reduceBEq, Nat.reduceAdd, Nat.reduceLeDiff, RA] <;> rfl) (.inl (by simp [allFresh, ints_fresh, bools_fresh])) ?_
  simp (disch := first | assumption | omega | rfl | simp only [RH]) only [↓RP, RG, FX, RQ, ↓reduceIte, Nat.reduceEqDiff, reduceCtorEq, Nat.reduceBEq, Nat.reduceAdd, Nat.reduceLeDiff]
  refine callK_T rfl hs1 ?_
  simp (disch := first | assumption | omega | rfl | simp only [RH]) only [↓RP, RG, FX, RQ, ↓reduceIte, Nat.reduceEqDiff, reduceCtorEq, Nat.reduceBEq, Nat.reduceAdd, Nat.reduceLeDiff]
  refine callK_T rfl hs2 ?_
  have hap : aAppend Try.prog 26 [goW 41 5 (fls xs), goW 41 5 (fls ys)] (gwW 5 0 xs.length) (gwW 5 1 ys.length) = some (gwW 5 0 (xs.length + ys.length), [goW 41 5 (fls xs ++ fls ys), goW 41 5 (fls ys)]) :=
    append_WW (xs := fls xs) (ys := fls ys) rfl (fls_length xs) (by rw [sview_gwW]; exact gSW_go (fls_length ys)) (fls_length ys) (fls_one ys) (by omega) (by omega)
  simp (disch := first | assumption | omega | rfl | simp only [RH]) only [↓RP, RG, FX, RQ, ↓reduceIte, Nat.reduceEqDiff, reduceCtorEq, Nat.reduceBEq, Nat.reduceAdd, Nat.reduceLeDiff, hap]
  rw [← fls_app]
  rw [resVal_2 rfl]; simp (disch := first | assumption | omega | rfl | simp only [RH]) only [↓RP, RG, FX, RQ, ↓reduceIte, Nat.reduceEqDiff, reduceCtorEq, Nat.reduceBEq, Nat.reduceAdd, Nat.reduceLeDiff, RS]
  rw [← hc, resOf_gwF (by rfl)]
end
end Go.Proofs.Ytikchhmddddgaaa

/- Chapter 8: the floats of a thread in the reference. -/
set_option linter.unusedSimpArgs false
set_option linter.unusedVariables false
set_option maxRecDepth 100000
namespace Go.Proofs.Ytikchhmddddgaaa
open Go Go.Proofs Go.AW

theorem crs_zero {f : List Bool} : ∀ {i : Nat}, crs f i = 0 → ∀ j, j < i → f.getD j false = pvF f j
  | 0, _, j, h => by omega
  | i + 1, h, j, hj => by
    unfold crs at h
    by_cases hji : j = i
    · subst hji
      refine Classical.byContradiction fun hne => ?_
      rw [if_neg hne] at h; omega
    · exact crs_zero (i := i) (by omega) j (by omega)
theorem crs_same {f : List Bool} {c : Bool} (h : ∀ i, i < f.length → f.getD i false = c) : ∀ i, i ≤ f.length → crs f i = 0
  | 0, _ => rfl
  | i + 1, hi => by
    unfold crs
    rw [crs_same h i (by omega), if_pos]
    rw [h i (by omega)]
    unfold pvF
    split
    · rw [h _ (by omega)]
    · rw [h _ (by omega)]
theorem crs_all {f : List Bool} (h : crs f f.length = 0) : ∀ i, i < f.length → f.getD i false = f.getD 0 false
  | 0, _ => rfl
  | i + 1, hi => by
    have h1 := crs_zero h (i + 1) hi
    unfold pvF at h1
    rw [if_neg (by omega), Nat.add_sub_cancel] at h1
    rw [h1]; exact crs_all h i (by omega)
theorem tw_of_all {c : Bool} {f : List Bool} (h : ∀ i, i < f.length → f.getD i false = c) : tw c f = f.length := by
  refine Classical.byContradiction fun hne => ?_
  have hle := tw_le c f
  exact tw_end c f (by omega) (h _ (by omega))
theorem thF_one {w : Bool} {a : Nat} {f : List Bool} {c : Bool} (h0 : 0 < f.length) (h : crs f f.length = 0) (hc : f.getD 0 false = c) : thF w a f c = [flW w a f] :=
  if_pos (tw_of_all fun i hi => by rw [crs_all h i hi, hc])
theorem sts_none {f : List Bool} {c : Bool} (h : ∀ i, i < f.length → f.getD i false ≠ c) : sts f c = [] := by
  refine List.eq_nil_iff_forall_not_mem.2 fun x hx => ?_
  obtain ⟨h1, h2⟩ := sts_mem.1 hx
  have := h x h1
  unfold stR at h2
  simp only [Bool.and_eq_true, beq_iff_eq] at h2
  exact this h2.1
theorem thF_none {w : Bool} {a : Nat} {f : List Bool} {c : Bool} (h0 : 0 < f.length) (h : crs f f.length = 0) (hc : f.getD 0 false ≠ c) : thF w a f c = [] := by
  have hne : tw c f ≠ f.length := fun he => hc (tw_all he 0 h0)
  unfold thF
  rw [if_neg hne]
  simp [stL, sts_none (fun i hi => by rw [crs_all h i hi]; exact hc)]
theorem thF_many {w : Bool} {a : Nat} {f : List Bool} {c : Bool} (h : crs f f.length ≠ 0) : thF w a f c = stL w a f c ∧ tw c f < f.length := by
  have hne : tw c f ≠ f.length := fun he => h (crs_same (tw_all he) _ (Nat.le_refl _))
  have := tw_le c f
  exact ⟨if_neg hne, by omega⟩
/-- The floats that begin ahead of cell i. -/
def stI (w : Bool) (a : Nat) (f : List Bool) (c : Bool) (i : Nat) : List Fl := ((List.range i).filter (stR f c)).map (flI w a f c)
theorem stI_all (w : Bool) (a : Nat) (f : List Bool) (c : Bool) : stI w a f c f.length = stL w a f c := rfl
theorem stI_no {w : Bool} {a : Nat} {f : List Bool} {c : Bool} {i : Nat} (h : stR f c i = false) : stI w a f c (i + 1) = stI w a f c i := by
  simp [stI, List.range_succ, h]
theorem stI_yes {w : Bool} {a : Nat} {f : List Bool} {c : Bool} {i : Nat} (h : stR f c i = true) : stI w a f c (i + 1) = stI w a f c i ++ [flI w a f c i] := by
  simp [stI, List.range_succ, h]
theorem stI_len (w : Bool) (a : Nat) (f : List Bool) (c : Bool) (i : Nat) : (stI w a f c i).length ≤ i := by
  unfold stI
  rw [List.length_map]
  exact Nat.le_trans (List.length_filter_le _ _) (by simp)
theorem at_mod2 (f : List Bool) (n i : Nat) : f.getD ((i : Int) % (n : Int)).toNat false = f.getD (i % n) false := by
  rw [← Int.natCast_emod, Int.toNat_natCast]
theorem threadW_c {W H : Nat} (b : Bool) {l : List Bool} (wp : Bool) (a : Nat) (f : List Bool) (c : Bool) {n : Nat} (hn : f.length = n) (h0 : 0 < n) (hn2 : n ≤ 64) (hc : Contract Try.prog 26 [GA W H b l, B wp] (I n)) (hx : Contract Try.prog 27 [GA W H b l, B wp, I a] (I (crs f n))) (hf : ∀ i : Int, -1000000 ≤ i → i ≤ 1000000 → Contract Try.prog 28 [GA W H b l, B wp, I a, I i] (B (f.getD (i % (n : Int)).toNat false))) :
    Contract Try.prog 20 [GA W H b l, B wp, I a, B c] (flV true (thF wp a f c)) := by
  have hcl := crs_le f n
  have hf0 := hf 0 (by omega) (by omega)
  rw [show f.getD ((0 : Int) % (n : Int)).toNat false = f.getD 0 false from at_mod f (i := 0) h0] at hf0
  by_cases hz : crs f n = 0
  · rw [hz] at hx
    have hz' : crs f f.length = 0 := by rw [hn]; exact hz
    by_cases hq : f.getD 0 false = c
    · have hq2 : (!(f.getD 0 false == c)) = false := by rw [hq]; simp
      rw [thF_one (by omega) hz' hq]
      refine Contract.intro (effS [] false) 6 follows Try.func20 rfl rfl (by kernel_rfl) (Nat.le_of_ble_eq_true rfl) ?_
      simp (disch := first | assumption | omega | rfl | simp only [RH]) only [↓RP, RG, FX, RQ, ↓reduceIte, Nat.reduceEqDiff, reduceCtorEq, Nat.reduceBEq, Nat.reduceAdd, Nat.reduceLeDiff, args0_4]
      refine callK_F 6 (hc) (by simp (disch := first | assumption | omega | rfl | simp only [RH]) only [↓RP, RG, FX, RQ, ↓reduceIte, Nat.reduceEqDiff, reduceCtorEq, Nat.reduceBEq, Nat.reduceAdd, Nat.reduceLeDiff, RA] <;> rfl) (.inl (by simp [allFresh, ints_fresh, bools_fresh])) ?_
      simp (disch := first | assumption | omega | rfl | simp only [RH]) only [↓RP, RG, FX, RQ, ↓reduceIte, Nat.reduceEqDiff, reduceCtorEq, Nat.reduceBEq, Nat.reduceAdd, Nat.reduceLeDiff]
      refine callK_F 6 (hx) (by simp (disch := first | assumption | omega | rfl | simp only [RH]) only [↓RP, RG, FX, RQ, ↓reduceIte, Nat.reduceEqDiff, reduceCtorEq, Nat.reduceBEq, Nat.reduceAdd, Nat.reduceLeDiff, RA] <;> rfl) (.inl (by simp [allFresh, ints_fresh, bools_fresh])) ?_
      simp (disch := first | assumption | omega | rfl | simp only [RH]) only [↓RP, RG, FX, RQ, ↓reduceIte, Nat.reduceEqDiff, reduceCtorEq, Nat.reduceBEq, Nat.reduceAdd, Nat.reduceLeDiff]
      refine callK_F 6 (hf0) (by simp (disch := first | assumption | omega | rfl | simp only [RH]) only [↓RP, RG, FX, RQ, ↓reduceIte, Nat.reduceEqDiff, reduceCtorEq, Nat.reduceBEq, Nat.reduceAdd, Nat.reduceLeDiff, RA] <;> rfl) (.inl (by simp [allFresh, ints_fresh, bools_fresh])) ?_
      simp (disch := first | assumption | omega | rfl | simp only [RH]) only [↓RP, RG, FX, RQ, ↓reduceIte, Nat.reduceEqDiff, reduceCtorEq, Nat.reduceBEq, Nat.reduceAdd, Nat.reduceLeDiff, hq2]
      rw [resVal_1 rfl]; simp (disch := first | assumption | omega | rfl | simp only [RH]) only [↓RP, RG, FX, RQ, ↓reduceIte, Nat.reduceEqDiff, reduceCtorEq, Nat.reduceBEq, Nat.reduceAdd, Nat.reduceLeDiff, RS]
      simp only [flV, flW, hn, fls_one1, flc]
      rfl
    · have hq2 : (!(f.getD 0 false == c)) = true := by simpa using hq
      rw [thF_none (by omega) hz' hq]
      refine Contract.intro (effS [] false) 6 follows Try.func20 rfl rfl (by kernel_rfl) (Nat.le_of_ble_eq_true rfl) ?_
      simp (disch := first | assumption | omega | rfl | simp only [RH]) only [↓RP, RG, FX, RQ, ↓reduceIte, Nat.reduceEqDiff, reduceCtorEq, Nat.reduceBEq, Nat.reduceAdd, Nat.reduceLeDiff, args0_4]
      refine callK_F 6 (hc) (by simp (disch := first | assumption | omega | rfl | simp only [RH]) only [↓RP, RG, FX, RQ, ↓reduceIte, Nat.reduceEqDiff, reduceCtorEq, Nat.reduceBEq, Nat.reduceAdd, Nat.reduceLeDiff, RA] <;> rfl) (.inl (by simp [allFresh, ints_fresh, bools_fresh])) ?_
      simp (disch := first | assumption | omega | rfl | simp only [RH]) only [↓RP, RG, FX, RQ, ↓reduceIte, Nat.reduceEqDiff, reduceCtorEq, Nat.reduceBEq, Nat.reduceAdd, Nat.reduceLeDiff]
      refine callK_F 6 (hx) (by simp (disch := first | assumption | omega | rfl | simp only [RH]) only [↓RP, RG, FX, RQ, ↓reduceIte, Nat.reduceEqDiff, reduceCtorEq, Nat.reduceBEq, Nat.reduceAdd, Nat.reduceLeDiff, RA] <;> rfl) (.inl (by simp [allFresh, ints_fresh, bools_fresh])) ?_
      simp (disch := first | assumption | omega | rfl | simp only [RH]) only [↓RP, RG, FX, RQ, ↓reduceIte, Nat.reduceEqDiff, reduceCtorEq, Nat.reduceBEq, Nat.reduceAdd, Nat.reduceLeDiff]
      refine callK_F 6 (hf0) (by simp (disch := first | assumption | omega | rfl | simp only [RH]) only [↓RP, RG, FX, RQ, ↓reduceIte, Nat.reduceEqDiff, reduceCtorEq, Nat.reduceBEq, Nat.reduceAdd, Nat.reduceLeDiff, RA] <;> rfl) (.inl (by simp [allFresh, ints_fresh, bools_fresh])) ?_
      simp (disch := first | assumption | omega | rfl | simp only [RH]) only [↓RP, RG, FX, RQ, ↓reduceIte, Nat.reduceEqDiff, reduceCtorEq, Nat.reduceBEq, Nat.reduceAdd, Nat.reduceLeDiff, hq2]
      rw [resVal_1 rfl]; simp (disch := first | assumption | omega | rfl | simp only [RH]) only [↓RP, RG, FX, RQ, ↓reduceIte, Nat.reduceEqDiff, reduceCtorEq, Nat.reduceBEq, Nat.reduceAdd, Nat.reduceLeDiff, RS]
      first | done | rfl
  · obtain ⟨ht, hl⟩ := thF_many (w := wp) (a := a) (c := c) (show crs f f.length ≠ 0 by rw [hn]; exact hz)
    rw [ht]
    refine Contract.intro (effS [] false) 6 follows Try.func20 rfl rfl (by kernel_rfl) (Nat.le_of_ble_eq_true rfl) ?_
    simp (disch := first | assumption | omega | rfl | simp only [RH]) only [↓RP, RG, FX, RQ, ↓reduceIte, Nat.reduceEqDiff, reduceCtorEq, Nat.reduceBEq, Nat.reduceAdd, Nat.reduceLeDiff, args0_4]
    refine callK_F 6 (hc) (by simp (disch := first | assumption | omega | rfl | simp only [RH]) only [↓RP, RG, FX, RQ, ↓reduceIte, Nat.reduceEqDiff, reduceCtorEq, Nat.reduceBEq, Nat.reduceAdd, Nat.reduceLeDiff, RA] <;> rfl) (.inl (by simp [allFresh, ints_fresh, bools_fresh])) ?_
    simp (disch := first | assumption | omega | rfl | simp only [RH]) only [↓RP, RG, FX, RQ, ↓reduceIte, Nat.reduceEqDiff, reduceCtorEq, Nat.reduceBEq, Nat.reduceAdd, Nat.reduceLeDiff]
    refine callK_F 6 (hx) (by simp (disch := first | assumption | omega | rfl | simp only [RH]) only [↓RP, RG, FX, RQ, ↓reduceIte, Nat.reduceEqDiff, reduceCtorEq, Nat.reduceBEq, Nat.reduceAdd, Nat.reduceLeDiff, RA] <;> rfl) (.inl (by simp [allFresh, ints_fresh, bools_fresh])) ?_
    simp (disch := first | assumption | omega | rfl | simp only [RH]) only [↓RP, RG, FX, RQ, ↓reduceIte, Nat.reduceEqDiff, reduceCtorEq, Nat.reduceBEq, Nat.reduceAdd, Nat.reduceLeDiff]
    refine loopK_WW [1, 2, 3, 4, 9, 10, 11] (fun i : Nat => i ≤ n) (fun i => ⟨[(1, B wp), (2, I a), (3, B c), (4, .ptr 0 0 3), (9, I n), (10, gwW 5 1 (stI wp a f c i).length), (11, I i)], [⟨24, 3, [I W, I H, BA b l]⟩, goW 41 5 (fls (stI wp a f c i))]⟩) (fun i => n - i) 0 (by omega) ?_ ?_
    · simp only [↓RP, RG, FX, RQ, ↓reduceIte, Nat.reduceEqDiff, reduceCtorEq, Nat.reduceBEq, Nat.reduceAdd, Nat.reduceLeDiff]
      exact Wk.weak (WE.cons _ (.refl _) (WE.cons _ (.refl _) (WE.cons _ (.refl _) (WE.cons _ (.refl _) (WE.cons _ (.refl _) (WE.cons _ (.nil _) (WE.cons _ (.refl _) WE.nil))))))) (.cons _ _ _ _ (WL.refl _) (.nil _ (by simp [stI, fls_nil, goW])))
    intro i hi
    by_cases hlt : i < n
    · have f1 := hf i (by omega) (by omega)
      have f2 := hf ((i : Int) - 1) (by omega) (by omega)
      rw [at_mod f hlt] at f1
      rw [pv_mod f hn hlt] at f2
      have hgo : stR f c i = false → ∃ y : Nat, y ≤ n ∧ Wk [] ⟨[(1, B wp), (2, I a), (3, B c), (4, .ptr 0 0 3), (9, I n), (10, gwW 5 1 (stI wp a f c i).length), (11, I ((i : Int) + 1))], [⟨24, 3, [I W, I H, BA b l]⟩, goW 41 5 (fls (stI wp a f c i))]⟩ ⟨[(1, B wp), (2, I a), (3, B c), (4, .ptr 0 0 3), (9, I n), (10, gwW 5 1 (stI wp a f c y).length), (11, I y)], [⟨24, 3, [I W, I H, BA b l]⟩, goW 41 5 (fls (stI wp a f c y))]⟩ ∧ n - y < n - i := fun hs =>
        ⟨i + 1, by omega, Wk.of_eq (by rw [stI_no hs]; rfl), by omega⟩
      by_cases hq : f.getD i false = c
      · have hq2 : (!(f.getD i false == c)) = false := by rw [hq]; simp
        by_cases hp : pvF f i = c
        · have hp2 : (pvF f i == c) = true := by rw [hp]; simp
          simp (disch := first | assumption | omega | rfl | simp only [RH]) only [↓RP, RG, FX, RQ, ↓reduceIte, Nat.reduceEqDiff, reduceCtorEq, Nat.reduceBEq, Nat.reduceAdd, Nat.reduceLeDiff]
          refine callK_F 6 (f1) (by simp (disch := first | assumption | omega | rfl | simp only [RH]) only [↓RP, RG, FX, RQ, ↓reduceIte, Nat.reduceEqDiff, reduceCtorEq, Nat.reduceBEq, Nat.reduceAdd, Nat.reduceLeDiff, RA] <;> rfl) (.inl (by simp [allFresh, ints_fresh, bools_fresh])) ?_
          simp (disch := first | assumption | omega | rfl | simp only [RH]) only [↓RP, RG, FX, RQ, ↓reduceIte, Nat.reduceEqDiff, reduceCtorEq, Nat.reduceBEq, Nat.reduceAdd, Nat.reduceLeDiff, hq2]
          refine callK_F 6 (f2) (by simp (disch := first | assumption | omega | rfl | simp only [RH]) only [↓RP, RG, FX, RQ, ↓reduceIte, Nat.reduceEqDiff, reduceCtorEq, Nat.reduceBEq, Nat.reduceAdd, Nat.reduceLeDiff, RA] <;> rfl) (.inl (by simp [allFresh, ints_fresh, bools_fresh])) ?_
          simp (disch := first | assumption | omega | rfl | simp only [RH]) only [↓RP, RG, FX, RQ, ↓reduceIte, Nat.reduceEqDiff, reduceCtorEq, Nat.reduceBEq, Nat.reduceAdd, Nat.reduceLeDiff, hp2]
          exact hgo (by unfold stR; rw [hp2]; simp)
        · have hp2 : (pvF f i == c) = false := by simpa using hp
          have hst : stR f c i = true := by unfold stR; rw [hp2, hq]; simp
          have hlp := lenR_pos (f := f) (c := c) (i := i) (by omega) hq
          have hll := lenR_lt (f := f) (c := c) (i := i) (s := tw c f) (by omega) (by omega) (tw_end c f (by omega))
          rw [hn] at hll
          have hsl := stI_len wp a f c i
          simp (disch := first | assumption | omega | rfl | simp only [RH]) only [↓RP, RG, FX, RQ, ↓reduceIte, Nat.reduceEqDiff, reduceCtorEq, Nat.reduceBEq, Nat.reduceAdd, Nat.reduceLeDiff]
          refine callK_F 6 (f1) (by simp (disch := first | assumption | omega | rfl | simp only [RH]) only [↓RP, RG, FX, RQ, ↓reduceIte, Nat.reduceEqDiff, reduceCtorEq, Nat.reduceBEq, Nat.reduceAdd, Nat.reduceLeDiff, RA] <;> rfl) (.inl (by simp [allFresh, ints_fresh, bools_fresh])) ?_
          simp (disch := first | assumption | omega | rfl | simp only [RH]) only [↓RP, RG, FX, RQ, ↓reduceIte, Nat.reduceEqDiff, reduceCtorEq, Nat.reduceBEq, Nat.reduceAdd, Nat.reduceLeDiff, hq2]
          refine callK_F 6 (f2) (by simp (disch := first | assumption | omega | rfl | simp only [RH]) only [↓RP, RG, FX, RQ, ↓reduceIte, Nat.reduceEqDiff, reduceCtorEq, Nat.reduceBEq, Nat.reduceAdd, Nat.reduceLeDiff, RA] <;> rfl) (.inl (by simp [allFresh, ints_fresh, bools_fresh])) ?_
          simp (disch := first | assumption | omega | rfl | simp only [RH]) only [↓RP, RG, FX, RQ, ↓reduceIte, Nat.reduceEqDiff, reduceCtorEq, Nat.reduceBEq, Nat.reduceAdd, Nat.reduceLeDiff, hp2]
          refine loopK_WW [1, 2, 3, 4, 9, 10, 11, 12] (fun t : Nat => 1 ≤ t ∧ t ≤ lenR f c i) (fun t => ⟨[(1, B wp), (2, I a), (3, B c), (4, .ptr 0 0 3), (9, I n), (10, gwW 5 1 (stI wp a f c i).length), (11, I i), (12, I t)], [⟨24, 3, [I W, I H, BA b l]⟩, goW 41 5 (fls (stI wp a f c i))]⟩) (fun t => n - t) 1 (by omega) (Wk.of_eq (by simp only [↓RP, RG, FX, RQ, ↓reduceIte, Nat.reduceEqDiff, reduceCtorEq, Nat.reduceBEq, Nat.reduceAdd, Nat.reduceLeDiff]; rfl)) ?_
          intro t ⟨ht1, ht2⟩
          have f3 := hf ((i : Int) + (t : Int)) (by omega) (by omega)
          rw [show (i : Int) + (t : Int) = ((i + t : Nat) : Int) by omega, at_mod2] at f3
          by_cases hx : t < lenR f c i
          · have hg := lenR_in hx
            rw [hn] at hg
            have hg2 : (f.getD ((i + t) % n) false == c) = true := by rw [hg]; simp
            simp (disch := first | assumption | omega | rfl | simp only [RH]) only [↓RP, RG, FX, RQ, ↓reduceIte, Nat.reduceEqDiff, reduceCtorEq, Nat.reduceBEq, Nat.reduceAdd, Nat.reduceLeDiff]
            refine callK_F 6 f3 (by simp (disch := first | assumption | omega | rfl | simp only [RH]) only [↓RP, RG, FX, RQ, ↓reduceIte, Nat.reduceEqDiff, reduceCtorEq, Nat.reduceBEq, Nat.reduceAdd, Nat.reduceLeDiff, RA, Int.natCast_add] <;> rfl) (.inl rfl) ?_
            simp (disch := first | assumption | omega | rfl | simp only [RH]) only [↓RP, RG, FX, RQ, ↓reduceIte, Nat.reduceEqDiff, reduceCtorEq, Nat.reduceBEq, Nat.reduceAdd, Nat.reduceLeDiff, hg2]
            exact ⟨t + 1, by omega, Wk.of_eq rfl, by omega⟩
          · obtain rfl : lenR f c i = t := by omega
            have hg := lenR_end (f := f) (c := c) (i := i) (by omega)
            rw [hn] at hg
            have hg2 : (f.getD ((i + lenR f c i) % n) false == c) = false := by simpa using hg
            have hap : aAppend Try.prog 26 [(⟨24, 3, [I W, I H, BA b l]⟩ : AObj), goW 41 5 (fls (stI wp a f c i))] (gwW 5 1 (stI wp a f c i).length) (.lit 1 [B wp, I a, I i, I (lenR f c i), B false]) = some (gwW 5 1 ((stI wp a f c i).length + 1), [(⟨24, 3, [I W, I H, BA b l]⟩ : AObj), goW 41 5 (fls (stI wp a f c i) ++ [B wp, I a, I i, I (lenR f c i), B false])]) := append_W rfl (by rw [fls_length]) rfl rfl (by omega) (by omega)
            simp (disch := first | assumption | omega | rfl | simp only [RH]) only [↓RP, RG, FX, RQ, ↓reduceIte, Nat.reduceEqDiff, reduceCtorEq, Nat.reduceBEq, Nat.reduceAdd, Nat.reduceLeDiff]
            refine callK_F 6 f3 (by simp (disch := first | assumption | omega | rfl | simp only [RH]) only [↓RP, RG, FX, RQ, ↓reduceIte, Nat.reduceEqDiff, reduceCtorEq, Nat.reduceBEq, Nat.reduceAdd, Nat.reduceLeDiff, RA, Int.natCast_add] <;> rfl) (.inl rfl) ?_
            simp (disch := first | assumption | omega | rfl | simp only [RH]) only [↓RP, RG, FX, RQ, ↓reduceIte, Nat.reduceEqDiff, reduceCtorEq, Nat.reduceBEq, Nat.reduceAdd, Nat.reduceLeDiff, hg2, hap]
            refine ⟨i + 1, by omega, Wk.of_eq ?_, by omega⟩
            rw [stI_yes hst, fls_app, fls_one1, List.length_append]
            rfl
      · have hq2 : (!(f.getD i false == c)) = true := by simpa using hq
        simp (disch := first | assumption | omega | rfl | simp only [RH]) only [↓RP, RG, FX, RQ, ↓reduceIte, Nat.reduceEqDiff, reduceCtorEq, Nat.reduceBEq, Nat.reduceAdd, Nat.reduceLeDiff]
        refine callK_F 6 (f1) (by simp (disch := first | assumption | omega | rfl | simp only [RH]) only [↓RP, RG, FX, RQ, ↓reduceIte, Nat.reduceEqDiff, reduceCtorEq, Nat.reduceBEq, Nat.reduceAdd, Nat.reduceLeDiff, RA] <;> rfl) (.inl (by simp [allFresh, ints_fresh, bools_fresh])) ?_
        simp (disch := first | assumption | omega | rfl | simp only [RH]) only [↓RP, RG, FX, RQ, ↓reduceIte, Nat.reduceEqDiff, reduceCtorEq, Nat.reduceBEq, Nat.reduceAdd, Nat.reduceLeDiff, hq2]
        exact hgo (by unfold stR; rw [show (f.getD i false == c) = false by simpa using hq]; simp)
    · obtain rfl : n = i := by omega
      simp (disch := first | assumption | omega | rfl | simp only [RH]) only [↓RP, RG, FX, RQ, ↓reduceIte, Nat.reduceEqDiff, reduceCtorEq, Nat.reduceBEq, Nat.reduceAdd, Nat.reduceLeDiff]
      rw [resVal_1 rfl]; simp (disch := first | assumption | omega | rfl | simp only [RH]) only [↓RP, RG, FX, RQ, ↓reduceIte, Nat.reduceEqDiff, reduceCtorEq, Nat.reduceBEq, Nat.reduceAdd, Nat.reduceLeDiff, RS]
      rw [resOf_gwF (by rfl), ← hn, stI_all]
end Go.Proofs.Ytikchhmddddgaaa

/- Chapter 8: List, Longest, Over of the reference. -/
set_option linter.unusedSimpArgs false
set_option linter.unusedVariables false
set_option maxRecDepth 100000
namespace Go.Proofs.Ytikchhmddddgaaa
open Go Go.Proofs Go.AW

/-- All floats of one side. -/
def alK (W H : Nat) (l : List Bool) (c : Bool) (k : Nat) : List Fl := (List.range k).flatMap (thK W H l c)
theorem alK_succ (W H : Nat) (l : List Bool) (c : Bool) (k : Nat) : alK W H l c (k + 1) = alK W H l c k ++ thK W H l c k := by simp [alK, List.range_succ]
theorem sdK_filter (W H : Nat) (l : List Bool) (c : Bool) (wt : Fl → Bool) (k : Nat) : sdK W H l c wt k = (alK W H l c k).filter wt := by
  induction k with
  | zero => rfl
  | succ k ih => rw [sdK_succ, alK_succ, List.filter_append, ih]
theorem thF_pos {w : Bool} {a : Nat} {f : List Bool} {c : Bool} (h0 : 0 < f.length) : ∀ x ∈ thF w a f c, 0 < x.n := by
  intro x hx
  unfold thF at hx
  split at hx
  · simp only [List.mem_singleton] at hx; subst hx; exact h0
  · simp only [stL, List.mem_map] at hx
    obtain ⟨i, hi, rfl⟩ := hx
    obtain ⟨h1, h2⟩ := sts_mem.1 hi
    unfold stR at h2
    simp only [Bool.and_eq_true, beq_iff_eq] at h2
    exact lenR_pos h1 h2.1
theorem wl_pos {x : Fl} (h : 0 < x.n) : wl x = true := by
  have : ((x.n : Int) == 0) = false := by simpa using (by omega : ¬ x.n = 0)
  unfold wl; rw [this]; simp
theorem alK_pos {W H : Nat} (hW0 : 0 < W) (hH0 : 0 < H) (l : List Bool) (c : Bool) (k : Nat) : ∀ x ∈ alK W H l c k, 0 < x.n := by
  intro x hx
  rw [alK, List.mem_flatMap] at hx
  obtain ⟨i, _, hi⟩ := hx
  exact thF_pos (by rw [faK_len]; split <;> omega) x hi
theorem sdK_all {W H : Nat} (hW0 : 0 < W) (hH0 : 0 < H) (l : List Bool) (c : Bool) (k : Nat) : sdK W H l c wl k = alK W H l c k := by
  rw [sdK_filter, List.filter_eq_self]
  exact fun x hx => wl_pos (alK_pos hW0 hH0 l c k x hx)
theorem alK_len {W H : Nat} (hW0 : 0 < W) (hH0 : 0 < H) (hW : W ≤ 64) (hH : H ≤ 64) (l : List Bool) (c : Bool) (k : Nat) : (alK W H l c k).length ≤ k * 64 := by
  rw [← sdK_all hW0 hH0]; exact sdK_len hW0 hH0 hW hH l c wl k
theorem thK_c {W k : Nat} (H : Nat) (l : List Bool) (c : Bool) (h : k < W) : thK W H l c k = thF true k (faC W H l k) c := by
  unfold thK faK; rw [decide_eq_true h, if_pos h, if_pos h]
theorem thK_r (W H : Nat) (l : List Bool) (c : Bool) (y : Nat) : thK W H l c (W + y) = thF false y (faR W l y) c := by
  unfold thK faK; rw [decide_eq_false (by omega), if_neg (by omega), if_neg (by omega), Nat.add_sub_cancel_left]
theorem thK_len {W H : Nat} (hW0 : 0 < W) (hH0 : 0 < H) (hW : W ≤ 64) (hH : H ≤ 64) (l : List Bool) (c : Bool) (k : Nat) : (thK W H l c k).length ≤ 64 := by
  have hl := faK_len W H l k
  have h3 : (thK W H l c k).length ≤ (faK W H l k).length := thF_len _ _ _ (by rw [hl]; split <;> omega)
  have h4 : (faK W H l k).length ≤ 64 := by rw [hl]; split <;> omega
  omega
section
variable {W H : Nat} (hW0 : 0 < W) (hH0 : 0 < H) (hW : W ≤ 64) (hH : H ≤ 64) (b : Bool) {l : List Bool} (hn : l.length = W * H)
include hW0 hH0 hW hH hn
theorem threadC_c {x : Nat} (hx : x < W) (c : Bool) : Contract Try.prog 20 [GA W H b l, B true, I x, B c] (flV true (thK W H l c x)) := by
  rw [thK_c H l c hx]
  exact threadW_c b true x (faC W H l x) c (faC_len W H l x) hH0 hH (cellsC_c W H b l) (crossRC_c hW0 hH0 hW hH b hn hx) fun i h1 h2 => faceC_c hW0 hH0 hW hH b hn hx h1 h2
theorem threadR_c {y : Nat} (hy : y < H) (c : Bool) : Contract Try.prog 20 [GA W H b l, B false, I y, B c] (flV true (thK W H l c (W + y))) := by
  rw [thK_r W H l c y]
  exact threadW_c b false y (faR W l y) c (faR_len W l y) hW0 hW (cellsR_c W H b l) (crossRR_c hW0 hH0 hW hH b hn hy) fun i h1 h2 => faceR_c hW0 hH0 hW hH b hn hy h1 h2
/-- The reference's list, as an own object. -/
theorem listR_s (c : Bool) (h : List AObj) : SpecTo Try.prog 16 [GA W H b l, I (if c then 0 else 1)] h (gwW 5 h.length (alK W H l c (W + H)).length) (h ++ [goW 41 5 (fls (alK W H l c (W + H)))]) := by
  obtain ⟨sv, hsv⟩ : ∃ sv : Int, (if c then 0 else 1) = sv := ⟨_, rfl⟩
  have hs0 : (sv == 0) = c := by rw [← hsv]; cases c <;> rfl
  have hal : ∀ k, k ≤ W + H → (alK W H l c k).length ≤ 100000 := fun k hk => by have := alK_len hW0 hH0 hW hH l c k; omega
  have hap : ∀ k g, k < W + H → aAppend Try.prog 26 (h ++ [g, goW 41 5 (fls (alK W H l c k))]) (gwW 5 (h.length + 1) (alK W H l c k).length) (flV true (thK W H l c k)) = some (gwW 5 (h.length + 1) (alK W H l c (k + 1)).length, h ++ [g, goW 41 5 (fls (alK W H l c (k + 1)))]) := fun k g hk => by
    have h1 := hal k (by omega)
    have h2 := thK_len hW0 hH0 hW hH l c k
    have := append_WW (P := Try.prog) (t := 26) (h := h ++ [g, goW 41 5 (fls (alK W H l c k))]) (k := h.length + 1) (n := (alK W H l c k).length) (m := (thK W H l c k).length) (x := flV true (thK W H l c k)) (xs := fls (alK W H l c k)) (ys := fls (thK W H l c k)) (by simp) (fls_length _) rfl (fls_length _) (fls_one _) (by omega) (by omega)
    rw [this, alK_succ, List.length_append, fls_app]
    simp [List.set_append, show ¬ h.length + 1 < h.length by omega]
  rw [hsv]
  refine SpecTo.intro (effS [] false) follows Try.func16 rfl rfl (by kernel_rfl) (Nat.le_of_ble_eq_true rfl) ?_
  simp (disch := first | assumption | omega | rfl | simp only [RH]) only [↓RP, RG, FX, RQ, ↓reduceIte, Nat.reduceEqDiff, reduceCtorEq, Nat.reduceBEq, Nat.reduceAdd, Nat.reduceLeDiff, args0_2]
  refine loopK_WW [1, 2, 5, 6] (fun x : Nat => x ≤ W) (fun x => ⟨[(1, I sv), (2, .ptr h.length 0 3), (5, gwW 5 (h.length + 1) (alK W H l c x).length), (6, I x)], h ++ [⟨24, 3, [I W, I H, BA b l]⟩, goW 41 5 (fls (alK W H l c x))]⟩) (fun x => W - x) 0 (by omega) ?_ ?_
  · simp only [↓RP, RG, FX, RQ, ↓reduceIte, Nat.reduceEqDiff, reduceCtorEq, Nat.reduceBEq, Nat.reduceAdd, Nat.reduceLeDiff]
    exact Wk.weak (WE.cons _ (.refl _) (WE.cons _ (.refl _) (WE.cons _ (.nil _) (WE.cons _ (.refl _) WE.nil)))) (.app h (.cons _ _ _ _ (WL.refl _) (.nil _ (by simp [alK, fls_nil, goW]))))
  intro x hx
  by_cases hlt : x < W
  · have ht := threadC_c hW0 hH0 hW hH b hn hlt c
    simp (disch := first | assumption | omega | rfl | simp only [RH]) only [↓RP, RG, FX, RQ, ↓reduceIte, Nat.reduceEqDiff, reduceCtorEq, Nat.reduceBEq, Nat.reduceAdd, Nat.reduceLeDiff]
    refine callK_F 6 ht (by simp (disch := first | assumption | omega | rfl | simp only [RH]) only [↓RP, RG, FX, RQ, ↓reduceIte, Nat.reduceEqDiff, reduceCtorEq, Nat.reduceBEq, Nat.reduceAdd, Nat.reduceLeDiff, RA, hs0] <;> rfl) (.inl (by simp [flV, allFresh, fls_fresh])) ?_
    simp (disch := first | assumption | omega | rfl | simp only [RH]) only [↓RP, RG, FX, RQ, ↓reduceIte, Nat.reduceEqDiff, reduceCtorEq, Nat.reduceBEq, Nat.reduceAdd, Nat.reduceLeDiff, hap]
    exact ⟨x + 1, by omega, Wk.of_eq rfl, by omega⟩
  · obtain rfl : W = x := by omega
    simp (disch := first | assumption | omega | rfl | simp only [RH]) only [↓RP, RG, FX, RQ, ↓reduceIte, Nat.reduceEqDiff, reduceCtorEq, Nat.reduceBEq, Nat.reduceAdd, Nat.reduceLeDiff]
    refine loopK_WW [1, 2, 5, 7] (fun y : Nat => y ≤ H) (fun y => ⟨[(1, I sv), (2, .ptr h.length 0 3), (5, gwW 5 (h.length + 1) (alK W H l c (W + y)).length), (7, I y)], h ++ [⟨24, 3, [I W, I H, BA b l]⟩, goW 41 5 (fls (alK W H l c (W + y)))]⟩) (fun y => H - y) 0 (by omega) (Wk.of_eq (by simp only [↓RP, RG, FX, RQ, ↓reduceIte, Nat.reduceEqDiff, reduceCtorEq, Nat.reduceBEq, Nat.reduceAdd, Nat.reduceLeDiff]; rfl)) ?_
    intro y hy
    by_cases hlt2 : y < H
    · have ht := threadR_c hW0 hH0 hW hH b hn hlt2 c
      simp (disch := first | assumption | omega | rfl | simp only [RH]) only [↓RP, RG, FX, RQ, ↓reduceIte, Nat.reduceEqDiff, reduceCtorEq, Nat.reduceBEq, Nat.reduceAdd, Nat.reduceLeDiff]
      refine callK_F 6 ht (by simp (disch := first | assumption | omega | rfl | simp only [RH]) only [↓RP, RG, FX, RQ, ↓reduceIte, Nat.reduceEqDiff, reduceCtorEq, Nat.reduceBEq, Nat.reduceAdd, Nat.reduceLeDiff, RA, hs0] <;> rfl) (.inl (by simp [flV, allFresh, fls_fresh])) ?_
      simp (disch := first | assumption | omega | rfl | simp only [RH]) only [↓RP, RG, FX, RQ, ↓reduceIte, Nat.reduceEqDiff, reduceCtorEq, Nat.reduceBEq, Nat.reduceAdd, Nat.reduceLeDiff, hap]
      exact ⟨y + 1, by omega, Wk.of_eq rfl, by omega⟩
    · obtain rfl : H = y := by omega
      simp (disch := first | assumption | omega | rfl | simp only [RH]) only [↓RP, RG, FX, RQ, ↓reduceIte, Nat.reduceEqDiff, reduceCtorEq, Nat.reduceBEq, Nat.reduceAdd, Nat.reduceLeDiff]
      refine ⟨_, by rw [resVal_1 rfl]; simp (disch := first | assumption | omega | rfl | simp only [RH]) only [↓RP, RG, FX, RQ, ↓reduceIte, Nat.reduceEqDiff, reduceCtorEq, Nat.reduceBEq, Nat.reduceAdd, Nat.reduceLeDiff, raX_tmp, raX_cell, rvX_0, rvX_1, rvX_2, rvX_3, rvX_4, rvX_5]; rfl, (Wk.drop (hb := h) (h1 := h) (gs := [_, _]) 8 [1] rfl (by simp) (by simp) (fun i o ho => .inl ho)).trans (Wk.of_eq ?_)⟩
      simp only [List.map_cons, List.map_nil, List.getD_cons_zero, List.getD_cons_succ, renO_goF]
      have e0 : keepF h.length [1] (h.length + 1) = some h.length := by simp [keepF, show ¬ h.length + 1 < h.length by omega]
      have e1 : ren (keepF h.length [1]) 8 (gwW 5 (h.length + 1) (alK W H l c (W + H)).length) = gwW 5 h.length (alK W H l c (W + H)).length := by
        unfold gwW; split <;> simp [ren, e0]
      rw [e1]
end
theorem listR_bad (w h : Int) (b : Bool) (l : List Bool) (s : Int) (hz : gchk w h l.length ≠ 0) : Contract Try.prog 6 [GA w h b l, I s] (.tuple [flV true [], I (gchk w h l.length)]) := by
  refine Contract.intro (effS [] false) 6 follows Try.func6 rfl rfl (by kernel_rfl) (Nat.le_of_ble_eq_true rfl) ?_
  simp (disch := first | assumption | omega | rfl | simp only [RH]) only [↓RP, RG, FX, RQ, ↓reduceIte, Nat.reduceEqDiff, reduceCtorEq, Nat.reduceBEq, Nat.reduceAdd, Nat.reduceLeDiff, args0_2]
  refine callK_F 6 (gcheckR_c w h b l) (by simp (disch := first | assumption | omega | rfl | simp only [RH]) only [↓RP, RG, FX, RQ, ↓reduceIte, Nat.reduceEqDiff, reduceCtorEq, Nat.reduceBEq, Nat.reduceAdd, Nat.reduceLeDiff, RA] <;> rfl) (.inl (by simp [allFresh, ints_fresh, bools_fresh])) ?_
  simp (disch := first | assumption | omega | rfl | simp only [RH]) only [↓RP, RG, FX, RQ, ↓reduceIte, Nat.reduceEqDiff, reduceCtorEq, Nat.reduceBEq, Nat.reduceAdd, Nat.reduceLeDiff]
  refine callK_F 6 (gcheckR_c w h b l) (by simp (disch := first | assumption | omega | rfl | simp only [RH]) only [↓RP, RG, FX, RQ, ↓reduceIte, Nat.reduceEqDiff, reduceCtorEq, Nat.reduceBEq, Nat.reduceAdd, Nat.reduceLeDiff, RA] <;> rfl) (.inl (by simp [allFresh, ints_fresh, bools_fresh])) ?_
  simp (disch := first | assumption | omega | rfl | simp only [RH]) only [↓RP, RG, FX, RQ, ↓reduceIte, Nat.reduceEqDiff, reduceCtorEq, Nat.reduceBEq, Nat.reduceAdd, Nat.reduceLeDiff]
  rw [resVal_2 rfl]; simp (disch := first | assumption | omega | rfl | simp only [RH]) only [↓RP, RG, FX, RQ, ↓reduceIte, Nat.reduceEqDiff, reduceCtorEq, Nat.reduceBEq, Nat.reduceAdd, Nat.reduceLeDiff, RS]
  first | done | rfl
theorem overR_bad (w h : Int) (b : Bool) (l : List Bool) (s : Int) (hz : gchk w h l.length ≠ 0) : Contract Try.prog 10 [GA w h b l, I s] (.tuple [flV true [], I (gchk w h l.length)]) := by
  refine Contract.intro (effS [16] false [2] [0]) 6 follows Try.func10 rfl rfl (by kernel_rfl) (Nat.le_of_ble_eq_true rfl) ?_
  simp (disch := first | assumption | omega | rfl | simp only [RH]) only [↓RP, RG, FX, RQ, ↓reduceIte, Nat.reduceEqDiff, reduceCtorEq, Nat.reduceBEq, Nat.reduceAdd, Nat.reduceLeDiff, args0_2]
  refine callK_F 6 (gcheckR_c w h b l) (by simp (disch := first | assumption | omega | rfl | simp only [RH]) only [↓RP, RG, FX, RQ, ↓reduceIte, Nat.reduceEqDiff, reduceCtorEq, Nat.reduceBEq, Nat.reduceAdd, Nat.reduceLeDiff, RA] <;> rfl) (.inl (by simp [allFresh, ints_fresh, bools_fresh])) ?_
  simp (disch := first | assumption | omega | rfl | simp only [RH]) only [↓RP, RG, FX, RQ, ↓reduceIte, Nat.reduceEqDiff, reduceCtorEq, Nat.reduceBEq, Nat.reduceAdd, Nat.reduceLeDiff]
  refine callK_F 6 (gcheckR_c w h b l) (by simp (disch := first | assumption | omega | rfl | simp only [RH]) only [↓RP, RG, FX, RQ, ↓reduceIte, Nat.reduceEqDiff, reduceCtorEq, Nat.reduceBEq, Nat.reduceAdd, Nat.reduceLeDiff, RA] <;> rfl) (.inl (by simp [allFresh, ints_fresh, bools_fresh])) ?_
  simp (disch := first | assumption | omega | rfl | simp only [RH]) only [↓RP, RG, FX, RQ, ↓reduceIte, Nat.reduceEqDiff, reduceCtorEq, Nat.reduceBEq, Nat.reduceAdd, Nat.reduceLeDiff]
  rw [resVal_2 rfl]; simp (disch := first | assumption | omega | rfl | simp only [RH]) only [↓RP, RG, FX, RQ, ↓reduceIte, Nat.reduceEqDiff, reduceCtorEq, Nat.reduceBEq, Nat.reduceAdd, Nat.reduceLeDiff, RS]
  first | done | rfl
theorem longestR_c (w h : Int) (b : Bool) (l : List Bool) (s e : Int) {xs : List Fl} (hx : xs.length ≤ 100000) (hl : Contract Try.prog 6 [GA w h b l, I s] (.tuple [flV true xs, I e])) : Contract Try.prog 8 [GA w h b l, I s] (.tuple [I (lgF xs xs.length), I e]) := by
  refine Contract.intro (effS [] false) 6 follows Try.func8 rfl rfl (by kernel_rfl) (Nat.le_of_ble_eq_true rfl) ?_
  simp (disch := first | assumption | omega | rfl | simp only [RH]) only [↓RP, RG, FX, RQ, ↓reduceIte, Nat.reduceEqDiff, reduceCtorEq, Nat.reduceBEq, Nat.reduceAdd, Nat.reduceLeDiff, args0_2]
  refine callK_F 6 hl (by simp (disch := first | assumption | omega | rfl | simp only [RH]) only [↓RP, RG, FX, RQ, ↓reduceIte, Nat.reduceEqDiff, reduceCtorEq, Nat.reduceBEq, Nat.reduceAdd, Nat.reduceLeDiff, RA] <;> rfl) (.inl (by simp [flV, allFresh, fls_fresh])) ?_
  simp (disch := first | assumption | omega | rfl | simp only [RH]) only [↓RP, RG, FX, RQ, ↓reduceIte, Nat.reduceEqDiff, reduceCtorEq, Nat.reduceBEq, Nat.reduceAdd, Nat.reduceLeDiff, flV]
  refine loopK_I [6, 7, 8, 9] (fun i : Nat => i ≤ xs.length) (fun i => ⟨[(6, .list true xs.isEmpty xs.length (fls xs)), (7, I e), (8, I (lgF xs i)), (9, I i)], [⟨24, 3, [I w, I h, BA b l]⟩]⟩) (fun i => xs.length - i) 0 (by omega) (by simp only [↓RP, RG, FX, RQ, ↓reduceIte, Nat.reduceEqDiff, reduceCtorEq, Nat.reduceBEq, Nat.reduceAdd, Nat.reduceLeDiff]; rfl) ?_
  intro i hi
  by_cases hlt : i < xs.length
  · have hpx := pX_fl3 hlt
    have hm : max ((lgF xs i : Nat) : Int) ((flD xs i).n : Int) = ((lgF xs (i + 1) : Nat) : Int) := by
      show _ = ((max (lgF xs i) (flD xs i).n : Nat) : Int); omega
    simp (disch := first | assumption | omega | rfl | simp only [RH]) only [↓RP, RG, FX, RQ, ↓reduceIte, Nat.reduceEqDiff, reduceCtorEq, Nat.reduceBEq, Nat.reduceAdd, Nat.reduceLeDiff, hpx, Int.toNat_natCast]
    rw [hm]
    exact ⟨i + 1, by omega, rfl, by omega⟩
  · obtain rfl : xs.length = i := by omega
    simp (disch := first | assumption | omega | rfl | simp only [RH]) only [↓RP, RG, FX, RQ, ↓reduceIte, Nat.reduceEqDiff, reduceCtorEq, Nat.reduceBEq, Nat.reduceAdd, Nat.reduceLeDiff]
    rw [resVal_2 rfl]; simp (disch := first | assumption | omega | rfl | simp only [RH]) only [↓RP, RG, FX, RQ, ↓reduceIte, Nat.reduceEqDiff, reduceCtorEq, Nat.reduceBEq, Nat.reduceAdd, Nat.reduceLeDiff, RS]
    first | done | rfl
section
variable {W H : Nat} (hW0 : 0 < W) (hH0 : 0 < H) (hW : W ≤ 64) (hH : H ≤ 64) (b : Bool) {l : List Bool} (hn : l.length = W * H)
include hW0 hH0 hW hH hn
theorem listR_arg {s : Int} (h0 : s ≠ 0) (h1 : s ≠ 1) : Contract Try.prog 6 [GA W H b l, I s] (.tuple [flV true [], I 2]) := by
  have hz : gchk W H l.length = 0 := gchk_ok ⟨by omega, by omega, by omega, by omega, by rw [hn, Int.natCast_mul]⟩
  have hck := gcheckR_c W H b l
  rw [hz] at hck
  refine Contract.intro (effS [] false) 6 follows Try.func6 rfl rfl (by kernel_rfl) (Nat.le_of_ble_eq_true rfl) ?_
  simp (disch := first | assumption | omega | rfl | simp only [RH]) only [↓RP, RG, FX, RQ, ↓reduceIte, Nat.reduceEqDiff, reduceCtorEq, Nat.reduceBEq, Nat.reduceAdd, Nat.reduceLeDiff, args0_2]
  refine callK_F 6 (hck) (by simp (disch := first | assumption | omega | rfl | simp only [RH]) only [↓RP, RG, FX, RQ, ↓reduceIte, Nat.reduceEqDiff, reduceCtorEq, Nat.reduceBEq, Nat.reduceAdd, Nat.reduceLeDiff, RA] <;> rfl) (.inl (by simp [allFresh, ints_fresh, bools_fresh])) ?_
  simp (disch := first | assumption | omega | rfl | simp only [RH]) only [↓RP, RG, FX, RQ, ↓reduceIte, Nat.reduceEqDiff, reduceCtorEq, Nat.reduceBEq, Nat.reduceAdd, Nat.reduceLeDiff]
  rw [resVal_2 rfl]; simp (disch := first | assumption | omega | rfl | simp only [RH]) only [↓RP, RG, FX, RQ, ↓reduceIte, Nat.reduceEqDiff, reduceCtorEq, Nat.reduceBEq, Nat.reduceAdd, Nat.reduceLeDiff, RS]
  first | done | rfl
theorem listR_c (c : Bool) : Contract Try.prog 6 [GA W H b l, I (if c then 0 else 1)] (.tuple [flV true (alK W H l c (W + H)), I 0]) := by
  have hz : gchk W H l.length = 0 := gchk_ok ⟨by omega, by omega, by omega, by omega, by rw [hn, Int.natCast_mul]⟩
  have hck := gcheckR_c W H b l
  rw [hz] at hck
  have hsd := listR_s hW0 hH0 hW hH b hn c [⟨24, 3, [I W, I H, BA b l]⟩]
  cases c with
  | true =>
    refine Contract.intro (effS [] false) 6 follows Try.func6 rfl rfl (by kernel_rfl) (Nat.le_of_ble_eq_true rfl) ?_
    simp (disch := first | assumption | omega | rfl | simp only [RH]) only [↓RP, RG, FX, RQ, ↓reduceIte, Nat.reduceEqDiff, reduceCtorEq, Nat.reduceBEq, Nat.reduceAdd, Nat.reduceLeDiff, args0_2, Bool.false_eq_true]
    refine callK_F 6 (hck) (by simp (disch := first | assumption | omega | rfl | simp only [RH]) only [↓RP, RG, FX, RQ, ↓reduceIte, Nat.reduceEqDiff, reduceCtorEq, Nat.reduceBEq, Nat.reduceAdd, Nat.reduceLeDiff, RA] <;> rfl) (.inl (by simp [allFresh, ints_fresh, bools_fresh])) ?_
    simp (disch := first | assumption | omega | rfl | simp only [RH]) only [↓RP, RG, FX, RQ, ↓reduceIte, Nat.reduceEqDiff, reduceCtorEq, Nat.reduceBEq, Nat.reduceAdd, Nat.reduceLeDiff]
    refine callK_T rfl hsd ?_
    simp (disch := first | assumption | omega | rfl | simp only [RH]) only [↓RP, RG, FX, RQ, ↓reduceIte, Nat.reduceEqDiff, reduceCtorEq, Nat.reduceBEq, Nat.reduceAdd, Nat.reduceLeDiff]
    rw [resVal_2 rfl]; simp (disch := first | assumption | omega | rfl | simp only [RH]) only [↓RP, RG, FX, RQ, ↓reduceIte, Nat.reduceEqDiff, reduceCtorEq, Nat.reduceBEq, Nat.reduceAdd, Nat.reduceLeDiff, RS]
    rw [resOf_gwF (by rfl)]
  | false =>
    refine Contract.intro (effS [] false) 6 follows Try.func6 rfl rfl (by kernel_rfl) (Nat.le_of_ble_eq_true rfl) ?_
    simp (disch := first | assumption | omega | rfl | simp only [RH]) only [↓RP, RG, FX, RQ, ↓reduceIte, Nat.reduceEqDiff, reduceCtorEq, Nat.reduceBEq, Nat.reduceAdd, Nat.reduceLeDiff, args0_2, Bool.false_eq_true]
    refine callK_F 6 (hck) (by simp (disch := first | assumption | omega | rfl | simp only [RH]) only [↓RP, RG, FX, RQ, ↓reduceIte, Nat.reduceEqDiff, reduceCtorEq, Nat.reduceBEq, Nat.reduceAdd, Nat.reduceLeDiff, RA] <;> rfl) (.inl (by simp [allFresh, ints_fresh, bools_fresh])) ?_
    simp (disch := first | assumption | omega | rfl | simp only [RH]) only [↓RP, RG, FX, RQ, ↓reduceIte, Nat.reduceEqDiff, reduceCtorEq, Nat.reduceBEq, Nat.reduceAdd, Nat.reduceLeDiff]
    refine callK_T rfl hsd ?_
    simp (disch := first | assumption | omega | rfl | simp only [RH]) only [↓RP, RG, FX, RQ, ↓reduceIte, Nat.reduceEqDiff, reduceCtorEq, Nat.reduceBEq, Nat.reduceAdd, Nat.reduceLeDiff]
    rw [resVal_2 rfl]; simp (disch := first | assumption | omega | rfl | simp only [RH]) only [↓RP, RG, FX, RQ, ↓reduceIte, Nat.reduceEqDiff, reduceCtorEq, Nat.reduceBEq, Nat.reduceAdd, Nat.reduceLeDiff, RS]
    rw [resOf_gwF (by rfl)]
theorem overR_arg {m : Int} (h0 : m < 0) : Contract Try.prog 10 [GA W H b l, I m] (.tuple [flV true [], I 2]) := by
  have hz : gchk W H l.length = 0 := gchk_ok ⟨by omega, by omega, by omega, by omega, by rw [hn, Int.natCast_mul]⟩
  have hck := gcheckR_c W H b l
  rw [hz] at hck
  refine Contract.intro (effS [16] false [2] [0]) 6 follows Try.func10 rfl rfl (by kernel_rfl) (Nat.le_of_ble_eq_true rfl) ?_
  simp (disch := first | assumption | omega | rfl | simp only [RH]) only [↓RP, RG, FX, RQ, ↓reduceIte, Nat.reduceEqDiff, reduceCtorEq, Nat.reduceBEq, Nat.reduceAdd, Nat.reduceLeDiff, args0_2]
  refine callK_F 6 (hck) (by simp (disch := first | assumption | omega | rfl | simp only [RH]) only [↓RP, RG, FX, RQ, ↓reduceIte, Nat.reduceEqDiff, reduceCtorEq, Nat.reduceBEq, Nat.reduceAdd, Nat.reduceLeDiff, RA] <;> rfl) (.inl (by simp [allFresh, ints_fresh, bools_fresh])) ?_
  simp (disch := first | assumption | omega | rfl | simp only [RH]) only [↓RP, RG, FX, RQ, ↓reduceIte, Nat.reduceEqDiff, reduceCtorEq, Nat.reduceBEq, Nat.reduceAdd, Nat.reduceLeDiff]
  rw [resVal_2 rfl]; simp (disch := first | assumption | omega | rfl | simp only [RH]) only [↓RP, RG, FX, RQ, ↓reduceIte, Nat.reduceEqDiff, reduceCtorEq, Nat.reduceBEq, Nat.reduceAdd, Nat.reduceLeDiff, RS]
  first | done | rfl
theorem overR_c {m : Int} (h0 : 0 ≤ m) : Contract Try.prog 10 [GA W H b l, I m] (.tuple [flV true ((alK W H l true (W + H) ++ alK W H l false (W + H)).filter (wo m)), I 0]) := by
  have hz : gchk W H l.length = 0 := gchk_ok ⟨by omega, by omega, by omega, by omega, by rw [hn, Int.natCast_mul]⟩
  have hck := gcheckR_c W H b l
  rw [hz] at hck
  have hs1 := listR_s hW0 hH0 hW hH b hn true []
  have hs2 := listR_s hW0 hH0 hW hH b hn false [goW 41 5 (fls (alK W H l true (W + H)))]
  have hl1 := alK_len hW0 hH0 hW hH l true (W + H)
  have hl2 := alK_len hW0 hH0 hW hH l false (W + H)
  have hc : (alK W H l true (W + H) ++ alK W H l false (W + H)).length = (alK W H l true (W + H)).length + (alK W H l false (W + H)).length := List.length_append
  generalize alK W H l true (W + H) = xs at *
  generalize alK W H l false (W + H) = ys at *
  refine Contract.intro (effS [16] false [2] [0]) 6 follows Try.func10 rfl rfl (by kernel_rfl) (Nat.le_of_ble_eq_true rfl) ?_
  simp (disch := first | assumption | omega | rfl | simp only [RH]) only [↓RP, RG, FX, RQ, ↓reduceIte, Nat.reduceEqDiff, reduceCtorEq, Nat.reduceBEq, Nat.reduceAdd, Nat.reduceLeDiff, args0_2]
  refine callK_F 6 (hck) (by simp (disch := first | assumption | omega | rfl | simp only [RH]) only [↓RP, RG, FX, RQ, ↓reduceIte, Nat.reduceEqDiff, reduceCtorEq, Nat.reduceBEq, Nat.reduceAdd, Nat.reduceLeDiff, RA] <;> rfl) (.inl (by simp [allFresh, ints_fresh, bools_fresh])) ?_
  simp (disch := first | assumption | omega | rfl | simp only [RH]) only [↓RP, RG, FX, RQ, ↓reduceIte, Nat.reduceEqDiff, reduceCtorEq, Nat.reduceBEq, Nat.reduceAdd, Nat.reduceLeDiff]
  refine callK_T rfl hs1 ?_
  simp (disch := first | assumption | omega | rfl | simp only [RH]) only [↓RP, RG, FX, RQ, ↓reduceIte, Nat.reduceEqDiff, reduceCtorEq, Nat.reduceBEq, Nat.reduceAdd, Nat.reduceLeDiff]
  refine callK_T rfl hs2 ?_
  have hap : aAppend Try.prog 26 [goW 41 5 (fls xs), goW 41 5 (fls ys)] (gwW 5 0 xs.length) (gwW 5 1 ys.length) = some (gwW 5 0 (xs.length + ys.length), [goW 41 5 (fls xs ++ fls ys), goW 41 5 (fls ys)]) :=
    append_WW (xs := fls xs) (ys := fls ys) rfl (fls_length xs) (by rw [sview_gwW]; exact gSW_go (fls_length ys)) (fls_length ys) (fls_one ys) (by omega) (by omega)
  simp (disch := first | assumption | omega | rfl | simp only [RH]) only [↓RP, RG, FX, RQ, ↓reduceIte, Nat.reduceEqDiff, reduceCtorEq, Nat.reduceBEq, Nat.reduceAdd, Nat.reduceLeDiff, hap]
  rw [← fls_app, ← hc]
  have hzl : (xs ++ ys).length ≤ 100000 := by omega
  generalize xs ++ ys = zs at *
  clear hap
  refine loopK_WW [1, 6, 7, 8] (fun i : Nat => i ≤ zs.length) (fun i => ⟨[(1, I m), (6, gwW 5 0 zs.length), (7, gwW 5 2 ((zs.take i).filter (wo m)).length), (8, I i)], [goW 41 5 (fls zs), goW 41 5 (fls ys), goW 41 5 (fls ((zs.take i).filter (wo m)))]⟩) (fun i => zs.length - i) 0 (by omega) ?_ ?_
  · simp only [↓RP, RG, FX, RQ, ↓reduceIte, Nat.reduceEqDiff, reduceCtorEq, Nat.reduceBEq, Nat.reduceAdd, Nat.reduceLeDiff]
    refine Wk.weak (WE.cons _ (.refl _) (WE.cons _ (.refl _) (WE.cons _ (.nil _) (WE.cons _ (.refl _) WE.nil)))) ?_
    have h9 : WO ([goW 41 5 (fls zs), goW 41 5 (fls ys)] ++ []) ([goW 41 5 (fls zs), goW 41 5 (fls ys)] ++ [goW 41 5 (fls [])]) := .app _ (.nil _ (by simp [goW, fls_nil]))
    exact h9
  intro i hi
  have hsv : sview [goW 41 5 (fls zs), goW 41 5 (fls ys), goW 41 5 (fls ((zs.take i).filter (wo m)))] (gwW 5 0 zs.length) = some (zs.length, fls zs) := by rw [sview_gwW]; exact gSW_go (fls_length zs)
  by_cases hlt : i < zs.length
  · have hix : aIdx Try.prog 26 [goW 41 5 (fls zs), goW 41 5 (fls ys), goW 41 5 (fls ((zs.take i).filter (wo m)))] (gwW 5 0 zs.length) (I i) = some (.ptr 0 (i * 5) (zs.length * 5)) := by
      rw [idxW_gw (by omega) (by omega), show [goW 41 5 (fls zs), goW 41 5 (fls ys), goW 41 5 (fls ((zs.take i).filter (wo m)))][0]? = some (goW 41 5 (fls zs)) from rfl, cA_goW (fls_length zs)]
      simp
    have hcA : cA (some (goW 41 5 (fls zs))) (zs.length * 5) = some (fls zs) := cA_goW (fls_length zs)
    have hz3 : ((fls zs).drop (i * 5 + 3))[0]? = some (I (flD zs i).n) := by rw [← List.drop_drop]; exact pX_fl3 hlt
    have hz4 : ((fls zs).drop (i * 5 + 4))[0]? = some (B (flD zs i).z) := by rw [← List.drop_drop]; exact pX_fl4 hlt
    have hpx : pX (some (true, 5)) ((fls zs).drop (i * 5)) = some (.agg [B (flD zs i).w, I (flD zs i).a, I (flD zs i).f, I (flD zs i).n, B (flD zs i).z]) := pX_fls hlt
    have hft := filter_take (wo m) hlt
    have hfl := List.length_filter_le (wo m) (zs.take i)
    rw [List.length_take] at hfl
    have hap : aAppend Try.prog 26 [goW 41 5 (fls zs), goW 41 5 (fls ys), goW 41 5 (fls ((zs.take i).filter (wo m)))] (gwW 5 2 ((zs.take i).filter (wo m)).length) (.lit 1 [B (flD zs i).w, I (flD zs i).a, I (flD zs i).f, I (flD zs i).n, B (flD zs i).z]) = some (gwW 5 2 (((zs.take i).filter (wo m)).length + 1), [goW 41 5 (fls zs), goW 41 5 (fls ys), goW 41 5 (fls ((zs.take i).filter (wo m)) ++ [B (flD zs i).w, I (flD zs i).a, I (flD zs i).f, I (flD zs i).n, B (flD zs i).z])]) := append_W rfl (by rw [fls_length]) rfl rfl (by omega) (by omega)
    have hyes : wo m (flD zs i) = true → ∃ y : Nat, y ≤ zs.length ∧ Wk [] ⟨[(1, I m), (6, gwW 5 0 zs.length), (7, gwW 5 2 (((zs.take i).filter (wo m)).length + 1)), (8, I ((i : Int) + 1))], [goW 41 5 (fls zs), goW 41 5 (fls ys), goW 41 5 (fls ((zs.take i).filter (wo m)) ++ [B (flD zs i).w, I (flD zs i).a, I (flD zs i).f, I (flD zs i).n, B (flD zs i).z])]⟩ ⟨[(1, I m), (6, gwW 5 0 zs.length), (7, gwW 5 2 ((zs.take y).filter (wo m)).length), (8, I y)], [goW 41 5 (fls zs), goW 41 5 (fls ys), goW 41 5 (fls ((zs.take y).filter (wo m)))]⟩ ∧ zs.length - y < zs.length - i := fun hw => by
      refine ⟨i + 1, by omega, Wk.of_eq ?_, by omega⟩
      rw [hft, if_pos hw, List.length_append, fls_app, fls_one1]
      rfl
    cases hz : (flD zs i).z with
    | true =>
      have hw : wo m (flD zs i) = true := by unfold wo; rw [hz]; rfl
      rw [hz] at hz4 hpx hap hyes
      simp (disch := first | assumption | omega | rfl | simp only [RH]) only [↓RP, RG, FX, RQ, ↓reduceIte, Nat.reduceEqDiff, reduceCtorEq, Nat.reduceBEq, Nat.reduceAdd, Nat.reduceLeDiff, hsv, hix, hcA, hz4, hpx, hap]
      exact hyes hw
    | false =>
      by_cases hm : m < ((flD zs i).n : Int)
      · have hw : wo m (flD zs i) = true := by unfold wo; rw [hz]; simp [hm]
        rw [hz] at hz4 hpx hap hyes
        simp (disch := first | assumption | omega | rfl | simp only [RH]) only [↓RP, RG, FX, RQ, ↓reduceIte, Nat.reduceEqDiff, reduceCtorEq, Nat.reduceBEq, Nat.reduceAdd, Nat.reduceLeDiff, hsv, hix, hcA, hz3, hz4, hpx, hap]
        exact hyes hw
      · have hw : wo m (flD zs i) = false := by unfold wo; rw [hz]; simp [hm]
        rw [hz] at hz4
        simp (disch := first | assumption | omega | rfl | simp only [RH]) only [↓RP, RG, FX, RQ, ↓reduceIte, Nat.reduceEqDiff, reduceCtorEq, Nat.reduceBEq, Nat.reduceAdd, Nat.reduceLeDiff, hsv, hix, hcA, hz3, hz4, hpx, hap]
        refine ⟨i + 1, by omega, Wk.of_eq ?_, by omega⟩
        rw [hft, hw]
        simp
  · obtain rfl : zs.length = i := by omega
    simp (disch := first | assumption | omega | rfl | simp only [RH]) only [↓RP, RG, FX, RQ, ↓reduceIte, Nat.reduceEqDiff, reduceCtorEq, Nat.reduceBEq, Nat.reduceAdd, Nat.reduceLeDiff, hsv]
    rw [resVal_2 rfl]; simp (disch := first | assumption | omega | rfl | simp only [RH]) only [↓RP, RG, FX, RQ, ↓reduceIte, Nat.reduceEqDiff, reduceCtorEq, Nat.reduceBEq, Nat.reduceAdd, Nat.reduceLeDiff, RS]
    rw [resOf_gwF (by rfl), List.take_length]
end
end Go.Proofs.Ytikchhmddddgaaa

/- The law FloatLists. -/
set_option linter.unusedSimpArgs false
set_option linter.unusedVariables false
set_option maxRecDepth 100000
namespace Go.Proofs.Ytikchhmddddgaaa
open Go Go.Proofs Go.AW

/-- A list of floats is the same as itself. -/
theorem sameF_c (xs : List Fl) (hl : xs.length ≤ 1000000) : Contract Try.prog 11 [flV false xs, flV false xs] (B true) := by
  refine Contract.intro (effS [] false) 6 follows Try.func11 rfl rfl (by kernel_rfl) (Nat.le_of_ble_eq_true rfl) ?_
  unfold flV
  simp (disch := first | assumption | omega | rfl | simp only [RH]) only [↓RP, RG, FX, RQ, ↓reduceIte, Nat.reduceEqDiff, reduceCtorEq, Nat.reduceBEq, Nat.reduceAdd, Nat.reduceLeDiff, args0_2]
  refine loopK_I [0, 1, 5] (fun i : Nat => i ≤ xs.length) (fun i => ⟨[(0, .list false xs.isEmpty xs.length (fls xs)), (1, .list false xs.isEmpty xs.length (fls xs)), (5, I i)], []⟩) (fun i => xs.length - i) 0 (by omega) (by simp only [↓RP, RG, FX, RQ, ↓reduceIte, Nat.reduceEqDiff, reduceCtorEq, Nat.reduceBEq, Nat.reduceAdd, Nat.reduceLeDiff]; rfl) ?_
  intro i hi
  by_cases hlt : i < xs.length
  · have hpx : pX (some (true, 5)) ((fls xs).drop (i * 5)) = some (.agg [B (flD xs i).w, I (flD xs i).a, I (flD xs i).f, I (flD xs i).n, B (flD xs i).z]) := pX_fls hlt
    simp (disch := first | assumption | omega | rfl | simp only [RH]) only [↓RP, RG, FX, RQ, ↓reduceIte, Nat.reduceEqDiff, reduceCtorEq, Nat.reduceBEq, Nat.reduceAdd, Nat.reduceLeDiff, hpx, Int.toNat_natCast, neqKT, eqK_bool, eqK_int, eqK_nil, Option.map_some, beq_self_eq_true]
    exact ⟨i + 1, by omega, rfl, by omega⟩
  · obtain rfl : xs.length = i := by omega
    simp (disch := first | assumption | omega | rfl | simp only [RH]) only [↓RP, RG, FX, RQ, ↓reduceIte, Nat.reduceEqDiff, reduceCtorEq, Nat.reduceBEq, Nat.reduceAdd, Nat.reduceLeDiff]
    rw [resVal_1 rfl]; simp (disch := first | assumption | omega | rfl | simp only [RH]) only [↓RP, RG, FX, RQ, ↓reduceIte, Nat.reduceEqDiff, reduceCtorEq, Nat.reduceBEq, Nat.reduceAdd, Nat.reduceLeDiff, RS]
theorem great8_c (w h : Int) (b : Bool) (l : List Bool) : Contract Try.prog 4 [GA w h b l] (B (decide (600 < (l.length : Int)))) := by
  refine Contract.intro (effS [] false) 6 follows Try.func4 rfl rfl (by kernel_rfl) (Nat.le_of_ble_eq_true rfl) ?_
  simp (disch := first | assumption | omega | rfl | simp only [RH]) only [↓RP, RG, FX, RQ, ↓reduceIte, Nat.reduceEqDiff, reduceCtorEq, Nat.reduceBEq, Nat.reduceAdd, Nat.reduceLeDiff, args0_1]
  rw [resVal_1 rfl]; simp (disch := first | assumption | omega | rfl | simp only [RH]) only [↓RP, RG, FX, RQ, ↓reduceIte, Nat.reduceEqDiff, reduceCtorEq, Nat.reduceBEq, Nat.reduceAdd, Nat.reduceLeDiff, RS]
  first | done | rfl
theorem lists_law (w h : Int) (b : Bool) (l : List Bool) (s m : Int) (hl : ¬ 600 < (l.length : Int)) (xs ys : List Fl) (e1 n e2 e3 : Int) (hx : xs.length ≤ 1000000) (hy : ys.length ≤ 1000000)
    (p1 : Contract Try.prog 5 [GA w h b l, I s] (.tuple [flV true xs, I e1])) (p2 : Contract Try.prog 6 [GA w h b l, I s] (.tuple [flV true xs, I e1]))
    (p3 : Contract Try.prog 7 [GA w h b l, I s] (.tuple [I n, I e2])) (p4 : Contract Try.prog 8 [GA w h b l, I s] (.tuple [I n, I e2]))
    (p5 : Contract Try.prog 9 [GA w h b l, I m] (.tuple [flV true ys, I e3])) (p6 : Contract Try.prog 10 [GA w h b l, I m] (.tuple [flV true ys, I e3])) :
    Contract Try.prog 3 [GA w h b l, I s, I m] (B true) := by
  have hg := great8_c w h b l
  rw [decide_eq_false hl] at hg
  have h1 := sameF_c xs hx
  have h2 := sameF_c ys hy
  have hf : ∀ (zs : List Fl) (e : Int), allFresh 6 (.tuple [flV true zs, I e]) = true := fun zs e => by simp [flV, allFresh, fls_fresh]
  have ha : ∀ (zs : List Fl) (h : List AObj), argOf h 6 (flV true zs) = flV false zs := fun zs h => argOf_flV h 4 true zs
  have hpt : ∀ zs : List Fl, (flV true zs).parts = some [flV true zs] := fun zs => rfl
  refine Contract.intro (effS [] false) 6 follows Try.func3 rfl rfl (by kernel_rfl) (Nat.le_of_ble_eq_true rfl) ?_
  simp (disch := first | assumption | omega | rfl | simp only [RH]) only [↓RP, RG, FX, RQ, ↓reduceIte, Nat.reduceEqDiff, reduceCtorEq, Nat.reduceBEq, Nat.reduceAdd, Nat.reduceLeDiff, args0_3]
  refine callK_F 6 (hg) (by simp (disch := first | assumption | omega | rfl | simp only [RH]) only [↓RP, RG, FX, RQ, ↓reduceIte, Nat.reduceEqDiff, reduceCtorEq, Nat.reduceBEq, Nat.reduceAdd, Nat.reduceLeDiff, RA] <;> rfl) (.inl (by simp [allFresh, ints_fresh, bools_fresh])) ?_
  simp (disch := first | assumption | omega | rfl | simp only [RH]) only [↓RP, RG, FX, RQ, ↓reduceIte, Nat.reduceEqDiff, reduceCtorEq, Nat.reduceBEq, Nat.reduceAdd, Nat.reduceLeDiff]
  refine callK_F 6 p1 (by simp (disch := first | assumption | omega | rfl | simp only [RH]) only [↓RP, RG, FX, RQ, ↓reduceIte, Nat.reduceEqDiff, reduceCtorEq, Nat.reduceBEq, Nat.reduceAdd, Nat.reduceLeDiff, RA] <;> rfl) (.inl (hf _ _)) ?_
  simp (disch := first | assumption | omega | rfl | simp only [RH]) only [↓RP, RG, FX, RQ, ↓reduceIte, Nat.reduceEqDiff, reduceCtorEq, Nat.reduceBEq, Nat.reduceAdd, Nat.reduceLeDiff]
  refine callK_F 6 p2 (by simp (disch := first | assumption | omega | rfl | simp only [RH]) only [↓RP, RG, FX, RQ, ↓reduceIte, Nat.reduceEqDiff, reduceCtorEq, Nat.reduceBEq, Nat.reduceAdd, Nat.reduceLeDiff, RA] <;> rfl) (.inl (hf _ _)) ?_
  simp (disch := first | assumption | omega | rfl | simp only [RH]) only [↓RP, RG, FX, RQ, ↓reduceIte, Nat.reduceEqDiff, reduceCtorEq, Nat.reduceBEq, Nat.reduceAdd, Nat.reduceLeDiff]
  refine callK_F 6 (p3) (by simp (disch := first | assumption | omega | rfl | simp only [RH]) only [↓RP, RG, FX, RQ, ↓reduceIte, Nat.reduceEqDiff, reduceCtorEq, Nat.reduceBEq, Nat.reduceAdd, Nat.reduceLeDiff, RA] <;> rfl) (.inl (by simp [allFresh, ints_fresh, bools_fresh])) ?_
  simp (disch := first | assumption | omega | rfl | simp only [RH]) only [↓RP, RG, FX, RQ, ↓reduceIte, Nat.reduceEqDiff, reduceCtorEq, Nat.reduceBEq, Nat.reduceAdd, Nat.reduceLeDiff]
  refine callK_F 6 (p4) (by simp (disch := first | assumption | omega | rfl | simp only [RH]) only [↓RP, RG, FX, RQ, ↓reduceIte, Nat.reduceEqDiff, reduceCtorEq, Nat.reduceBEq, Nat.reduceAdd, Nat.reduceLeDiff, RA] <;> rfl) (.inl (by simp [allFresh, ints_fresh, bools_fresh])) ?_
  simp (disch := first | assumption | omega | rfl | simp only [RH]) only [↓RP, RG, FX, RQ, ↓reduceIte, Nat.reduceEqDiff, reduceCtorEq, Nat.reduceBEq, Nat.reduceAdd, Nat.reduceLeDiff]
  refine callK_F 6 p5 (by simp (disch := first | assumption | omega | rfl | simp only [RH]) only [↓RP, RG, FX, RQ, ↓reduceIte, Nat.reduceEqDiff, reduceCtorEq, Nat.reduceBEq, Nat.reduceAdd, Nat.reduceLeDiff, RA] <;> rfl) (.inl (hf _ _)) ?_
  simp (disch := first | assumption | omega | rfl | simp only [RH]) only [↓RP, RG, FX, RQ, ↓reduceIte, Nat.reduceEqDiff, reduceCtorEq, Nat.reduceBEq, Nat.reduceAdd, Nat.reduceLeDiff]
  refine callK_F 6 p6 (by simp (disch := first | assumption | omega | rfl | simp only [RH]) only [↓RP, RG, FX, RQ, ↓reduceIte, Nat.reduceEqDiff, reduceCtorEq, Nat.reduceBEq, Nat.reduceAdd, Nat.reduceLeDiff, RA] <;> rfl) (.inl (hf _ _)) ?_
  simp (disch := first | assumption | omega | rfl | simp only [RH]) only [↓RP, RG, FX, RQ, ↓reduceIte, Nat.reduceEqDiff, reduceCtorEq, Nat.reduceBEq, Nat.reduceAdd, Nat.reduceLeDiff]
  refine callK_F 6 h1 (by simp only [List.map_cons, List.map_nil, ha]) (.inl rfl) ?_
  simp (disch := first | assumption | omega | rfl | simp only [RH]) only [↓RP, RG, FX, RQ, ↓reduceIte, Nat.reduceEqDiff, reduceCtorEq, Nat.reduceBEq, Nat.reduceAdd, Nat.reduceLeDiff, beq_self_eq_true]
  refine callK_F 6 h2 (by simp only [List.map_cons, List.map_nil, ha]) (.inl rfl) ?_
  simp (disch := first | assumption | omega | rfl | simp only [RH]) only [↓RP, RG, FX, RQ, ↓reduceIte, Nat.reduceEqDiff, reduceCtorEq, Nat.reduceBEq, Nat.reduceAdd, Nat.reduceLeDiff, beq_self_eq_true]
  rw [resVal_1 rfl]; simp (disch := first | assumption | omega | rfl | simp only [RH]) only [↓RP, RG, FX, RQ, ↓reduceIte, Nat.reduceEqDiff, reduceCtorEq, Nat.reduceBEq, Nat.reduceAdd, Nat.reduceLeDiff, RS]
theorem floatLists_c (w h : Int) (b : Bool) (l : List Bool) (s m : Int) : Contract Try.prog 3 [GA w h b l, I s, I m] (B true) := by
  by_cases c1 : 600 < (l.length : Int)
  · have hg := great8_c w h b l
    rw [decide_eq_true c1] at hg
    refine Contract.intro (effS [] false) 6 follows Try.func3 rfl rfl (by kernel_rfl) (Nat.le_of_ble_eq_true rfl) ?_
    simp (disch := first | assumption | omega | rfl | simp only [RH]) only [↓RP, RG, FX, RQ, ↓reduceIte, Nat.reduceEqDiff, reduceCtorEq, Nat.reduceBEq, Nat.reduceAdd, Nat.reduceLeDiff, args0_3]
    refine callK_F 6 (hg) (by simp (disch := first | assumption | omega | rfl | simp only [RH]) only [↓RP, RG, FX, RQ, ↓reduceIte, Nat.reduceEqDiff, reduceCtorEq, Nat.reduceBEq, Nat.reduceAdd, Nat.reduceLeDiff, RA] <;> rfl) (.inl (by simp [allFresh, ints_fresh, bools_fresh])) ?_
    simp (disch := first | assumption | omega | rfl | simp only [RH]) only [↓RP, RG, FX, RQ, ↓reduceIte, Nat.reduceEqDiff, reduceCtorEq, Nat.reduceBEq, Nat.reduceAdd, Nat.reduceLeDiff]
    rw [resVal_1 rfl]; simp (disch := first | assumption | omega | rfl | simp only [RH]) only [↓RP, RG, FX, RQ, ↓reduceIte, Nat.reduceEqDiff, reduceCtorEq, Nat.reduceBEq, Nat.reduceAdd, Nat.reduceLeDiff, RS]
  by_cases hz : gchk w h l.length = 0
  rotate_left
  · have q1 := listP_bad w h b l s hz
    have q2 := listR_bad w h b l s hz
    exact lists_law w h b l s m c1 [] [] _ _ _ _ (by simp) (by simp) q1 q2 (longestP_c w h b l s _ (by simp) q1) (longestR_c w h b l s _ (by simp) q2) (overP_bad w h b l m hz) (overR_bad w h b l m hz)
  obtain ⟨g1, g2, g3, g4, g5⟩ := gchk_iff.1 hz
  obtain ⟨W, rfl⟩ : ∃ W : Nat, w = W := ⟨w.toNat, by omega⟩
  obtain ⟨H, rfl⟩ : ∃ H : Nat, h = H := ⟨h.toNat, by omega⟩
  have hn : l.length = W * H := by
    have e1 : ((W * H : Nat) : Int) = (W : Int) * H := Int.natCast_mul _ _
    omega
  have hW0 : 0 < W := by omega
  have hH0 : 0 < H := by omega
  have hW : W ≤ 64 := by omega
  have hH : H ≤ 64 := by omega
  obtain ⟨ys, e3, hy, q5, q6⟩ : ∃ (ys : List Fl) (e3 : Int), ys.length ≤ 1000000 ∧ Contract Try.prog 9 [GA W H b l, I m] (.tuple [flV true ys, I e3]) ∧ Contract Try.prog 10 [GA W H b l, I m] (.tuple [flV true ys, I e3]) := by
    by_cases hm : m < 0
    · exact ⟨_, _, by simp, overP_arg hW0 hH0 hW hH b hn hm, overR_arg hW0 hH0 hW hH b hn hm⟩
    · have o1 := overP_c hW0 hH0 hW hH b hn (m := m) (by omega)
      have o2 := overR_c hW0 hH0 hW hH b hn (m := m) (by omega)
      rw [List.filter_append, ← sdK_filter, ← sdK_filter] at o2
      have k1 := sdK_len hW0 hH0 hW hH l true (wo m) (W + H)
      have k2 := sdK_len hW0 hH0 hW hH l false (wo m) (W + H)
      exact ⟨_, _, by rw [List.length_append]; omega, o1, o2⟩
  obtain ⟨xs, e1, hx, q1, q2⟩ : ∃ (xs : List Fl) (e1 : Int), xs.length ≤ 100000 ∧ Contract Try.prog 5 [GA W H b l, I s] (.tuple [flV true xs, I e1]) ∧ Contract Try.prog 6 [GA W H b l, I s] (.tuple [flV true xs, I e1]) := by
    by_cases h0 : s = 0
    · subst h0
      have o1 := listP_c hW0 hH0 hW hH b hn true
      rw [sdK_all hW0 hH0] at o1
      have k1 := alK_len hW0 hH0 hW hH l true (W + H)
      exact ⟨_, _, by omega, o1, listR_c hW0 hH0 hW hH b hn true⟩
    · by_cases h1 : s = 1
      · subst h1
        have o1 := listP_c hW0 hH0 hW hH b hn false
        rw [sdK_all hW0 hH0] at o1
        have k1 := alK_len hW0 hH0 hW hH l false (W + H)
        exact ⟨_, _, by omega, o1, listR_c hW0 hH0 hW hH b hn false⟩
      · exact ⟨_, _, by simp, listP_arg hW0 hH0 hW hH b hn h0 h1, listR_arg hW0 hH0 hW hH b hn h0 h1⟩
  exact lists_law W H b l s m c1 xs ys _ _ _ _ (by omega) hy q1 q2 (longestP_c W H b l s _ hx q1) (longestR_c W H b l s _ hx q2) q5 q6
end Go.Proofs.Ytikchhmddddgaaa
