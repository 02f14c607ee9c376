/- Part 1 of the proof's own texts: the contracts of functions, and what they rest on. -/
import Derived.Test.YtaelfinlmbkhnaaProg
import Derived.Test.YtaelfinlmbkhnaaBw3
/- Closed facts on the types. -/
namespace Go.Proofs.Ytaelfinlmbkhnaa
open Go Go.Proofs Go.AW
theorem follows : Try.prog.follows .mixedOrders = true := by kernel_rfl
-- 3: int
theorem ag3 : agT Try.prog 3 = some (false, 1) := by kernel_rfl
theorem zc3 : zT Try.prog 3 = some ([I 0], 1) := by kernel_rfl
-- 4: bool
theorem ag4 : agT Try.prog 4 = some (false, 1) := by kernel_rfl
theorem zc4 : zT Try.prog 4 = some ([B false], 1) := by kernel_rfl
instance bo4 : BoT Try.prog 4 := ⟨by kernel_rfl⟩
-- 9: string
theorem ag9 : agT Try.prog 9 = some (false, 1) := by kernel_rfl
theorem zc9 : zT Try.prog 9 = some ([.val (.string ⟨#[]⟩)], 1) := by kernel_rfl
-- 22: []bool
theorem ag22 : agT Try.prog 22 = some (false, 1) := by kernel_rfl
theorem zc22 : zT Try.prog 22 = some ([.cap0 true], 1) := by kernel_rfl
instance S22 : SlT Try.prog 22 4 1 (.bool false) := SlT.of (by kernel_rfl) (by kernel_rfl)
-- 24: api.Grid
theorem ag24 : agT Try.prog 24 = some (true, 3) := by kernel_rfl
theorem zc24 : zT Try.prog 24 = some ([I 0, I 0, .cap0 true], 3) := by kernel_rfl
theorem fo24_0 : fOff Try.prog 24 0 = some 0 := by kernel_rfl
theorem ft24_0 : fOT Try.prog 24 0 = some (0, 3) := by kernel_rfl
theorem fo24_1 : fOff Try.prog 24 1 = some 1 := by kernel_rfl
theorem ft24_1 : fOT Try.prog 24 1 = some (1, 3) := by kernel_rfl
theorem fo24_2 : fOff Try.prog 24 2 = some 2 := by kernel_rfl
theorem ft24_2 : fOT Try.prog 24 2 = some (2, 22) := by kernel_rfl
theorem fl24 : flT Try.prog 24 = some ([(0, 1), (1, 1), (2, 1)], [I 0, I 0, .cap0 true]) := by kernel_rfl
-- 27: api.Errno
theorem ag27 : agT Try.prog 27 = some (false, 1) := by kernel_rfl
theorem zc27 : zT Try.prog 27 = some ([I 0], 1) := by kernel_rfl
-- 38: []api.Float
theorem ag38 : agT Try.prog 38 = some (false, 1) := by kernel_rfl
theorem zc38 : zT Try.prog 38 = some ([.cap0 true], 1) := by kernel_rfl
instance SM38 : SlM Try.prog 38 5 := ⟨by kernel_rfl⟩
instance SW38 : SlW Try.prog 38 58 5 40 := ⟨by kernel_rfl⟩
instance LT38_1 : LitT Try.prog 38 1 [(0, 5)] ([B false, I 0, I 0, I 0, B false]) := ⟨by kernel_rfl⟩
-- 49: iter.Seq[raddle/float.line]
theorem ag49 : agT Try.prog 49 = some (false, 1) := by kernel_rfl
theorem zc49 : zT Try.prog 49 = some ([.val .nilFunc], 1) := by kernel_rfl
-- 52: float.line
theorem ag52 : agT Try.prog 52 = some (true, 3) := by kernel_rfl
theorem zc52 : zT Try.prog 52 = some ([B false, I 0, .cap0 true], 3) := by kernel_rfl
theorem fo52_0 : fOff Try.prog 52 0 = some 0 := by kernel_rfl
theorem ft52_0 : fOT Try.prog 52 0 = some (0, 4) := by kernel_rfl
theorem fo52_1 : fOff Try.prog 52 1 = some 1 := by kernel_rfl
theorem ft52_1 : fOT Try.prog 52 1 = some (1, 3) := by kernel_rfl
theorem fo52_2 : fOff Try.prog 52 2 = some 2 := by kernel_rfl
theorem ft52_2 : fOT Try.prog 52 2 = some (2, 22) := by kernel_rfl
theorem fl52 : flT Try.prog 52 = some ([(0, 1), (1, 1), (2, 1)], [B false, I 0, .cap0 true]) := by kernel_rfl
-- 58: api.Float
theorem ag58 : agT Try.prog 58 = some (true, 5) := by kernel_rfl
theorem zc58 : zT Try.prog 58 = some ([B false, I 0, I 0, I 0, B false], 5) := by kernel_rfl
instance kt58 : KT Try.prog 58 ([true, false, false, false, true]) := ⟨by kernel_rfl, by kernel_rfl, by kernel_rfl, by kernel_rfl⟩
theorem fo58_0 : fOff Try.prog 58 0 = some 0 := by kernel_rfl
theorem ft58_0 : fOT Try.prog 58 0 = some (0, 4) := by kernel_rfl
theorem fo58_1 : fOff Try.prog 58 1 = some 1 := by kernel_rfl
theorem ft58_1 : fOT Try.prog 58 1 = some (1, 3) := by kernel_rfl
theorem fo58_2 : fOff Try.prog 58 2 = some 2 := by kernel_rfl
theorem ft58_2 : fOT Try.prog 58 2 = some (2, 3) := by kernel_rfl
theorem fo58_3 : fOff Try.prog 58 3 = some 3 := by kernel_rfl
theorem ft58_3 : fOT Try.prog 58 3 = some (3, 3) := by kernel_rfl
theorem fo58_4 : fOff Try.prog 58 4 = some 4 := by kernel_rfl
theorem ft58_4 : fOT Try.prog 58 4 = some (4, 4) := by kernel_rfl
theorem fl58 : flT Try.prog 58 = some ([(0, 1), (1, 1), (2, 1), (3, 1), (4, 1)], [B false, I 0, I 0, I 0, B false]) := by kernel_rfl
-- 59: func(api.Float) bool
theorem ag59 : agT Try.prog 59 = some (false, 1) := by kernel_rfl
theorem zc59 : zT Try.prog 59 = some ([.val .nilFunc], 1) := by kernel_rfl
-- 61: func(float.line) bool
theorem ag61 : agT Try.prog 61 = some (false, 1) := by kernel_rfl
theorem zc61 : zT Try.prog 61 = some ([.val .nilFunc], 1) := by kernel_rfl
-- 65: iter.Seq[raddle/api.Float]
theorem ag65 : agT Try.prog 65 = some (false, 1) := by kernel_rfl
theorem zc65 : zT Try.prog 65 = some ([.val .nilFunc], 1) := by kernel_rfl
-- 71: func(api.Float, api.Float) int
theorem ag71 : agT Try.prog 71 = some (false, 1) := by kernel_rfl
theorem zc71 : zT Try.prog 71 = some ([.val .nilFunc], 1) := by kernel_rfl
-- 74: uint
theorem ag74 : agT Try.prog 74 = some (false, 1) := by kernel_rfl
theorem zc74 : zT Try.prog 74 = some ([.val (.int .u64 0)], 1) := by kernel_rfl
-- 76: slices.sortedHint
theorem ag76 : agT Try.prog 76 = some (false, 1) := by kernel_rfl
theorem zc76 : zT Try.prog 76 = some ([I 0], 1) := by kernel_rfl
-- 86: uint64
theorem ag86 : agT Try.prog 86 = some (false, 1) := by kernel_rfl
theorem zc86 : zT Try.prog 86 = some ([.val (.int .u64 0)], 1) := by kernel_rfl
-- 87: slices.xorshift
theorem ag87 : agT Try.prog 87 = some (false, 1) := by kernel_rfl
theorem zc87 : zT Try.prog 87 = some ([.val (.int .u64 0)], 1) := by kernel_rfl
-- 91: *int
theorem ag91 : agT Try.prog 91 = some (false, 1) := by kernel_rfl
theorem zc91 : zT Try.prog 91 = some ([.val (.pointer none)], 1) := by kernel_rfl
-- 93: *slices.xorshift
theorem ag93 : agT Try.prog 93 = some (false, 1) := by kernel_rfl
theorem zc93 : zT Try.prog 93 = some ([.val (.pointer none)], 1) := by kernel_rfl

theorem FX : type_of% @ag3 ∧ type_of% @zc3 ∧ type_of% @ag4 ∧ type_of% @zc4 ∧ type_of% @ag9 ∧ type_of% @zc9 ∧ type_of% @ag22 ∧ type_of% @zc22 ∧ type_of% @ag24 ∧ type_of% @zc24 ∧ type_of% @fo24_0 ∧ type_of% @ft24_0 ∧ type_of% @fo24_1 ∧ type_of% @ft24_1 ∧ type_of% @fo24_2 ∧ type_of% @ft24_2 ∧ type_of% @fl24 ∧ type_of% @ag27 ∧ type_of% @zc27 ∧ type_of% @ag38 ∧ type_of% @zc38 ∧ type_of% @ag49 ∧ type_of% @zc49 ∧ type_of% @ag52 ∧ type_of% @zc52 ∧ type_of% @fo52_0 ∧ type_of% @ft52_0 ∧ type_of% @fo52_1 ∧ type_of% @ft52_1 ∧ type_of% @fo52_2 ∧ type_of% @ft52_2 ∧ type_of% @fl52 ∧ type_of% @ag58 ∧ type_of% @zc58 ∧ type_of% @fo58_0 ∧ type_of% @ft58_0 ∧ type_of% @fo58_1 ∧ type_of% @ft58_1 ∧ type_of% @fo58_2 ∧ type_of% @ft58_2 ∧ type_of% @fo58_3 ∧ type_of% @ft58_3 ∧ type_of% @fo58_4 ∧ type_of% @ft58_4 ∧ type_of% @fl58 ∧ type_of% @ag59 ∧ type_of% @zc59 ∧ type_of% @ag61 ∧ type_of% @zc61 ∧ type_of% @ag65 ∧ type_of% @zc65 ∧ type_of% @ag71 ∧ type_of% @zc71 ∧ type_of% @ag74 ∧ type_of% @zc74 ∧ type_of% @ag76 ∧ type_of% @zc76 ∧ type_of% @ag86 ∧ type_of% @zc86 ∧ type_of% @ag87 ∧ type_of% @zc87 ∧ type_of% @ag91 ∧ type_of% @zc91 ∧ type_of% @ag93 ∧ type_of% @zc93 :=
  ⟨@ag3, @zc3, @ag4, @zc4, @ag9, @zc9, @ag22, @zc22, @ag24, @zc24, @fo24_0, @ft24_0, @fo24_1, @ft24_1, @fo24_2, @ft24_2, @fl24, @ag27, @zc27, @ag38, @zc38, @ag49, @zc49, @ag52, @zc52, @fo52_0, @ft52_0, @fo52_1, @ft52_1, @fo52_2, @ft52_2, @fl52, @ag58, @zc58, @fo58_0, @ft58_0, @fo58_1, @ft58_1, @fo58_2, @ft58_2, @fo58_3, @ft58_3, @fo58_4, @ft58_4, @fl58, @ag59, @zc59, @ag61, @zc61, @ag65, @zc65, @ag71, @zc71, @ag74, @zc74, @ag76, @zc76, @ag86, @zc86, @ag87, @zc87, @ag91, @zc91, @ag93, @zc93⟩
end Go.Proofs.Ytaelfinlmbkhnaa

/- Grids: their checks. -/
set_option linter.unusedSimpArgs false
set_option linter.unusedVariables false
set_option maxRecDepth 100000
namespace Go.Proofs.Ytaelfinlmbkhnaa
open Go Go.Proofs Go.AW

abbrev BA (b : Bool) (l : List Bool) : AVal := .list false b l.length (bools l)
abbrev BR (b : Bool) (l : List Bool) : AVal := .list true b l.length (bools l)
abbrev GA (w h : Int) (b : Bool) (l : List Bool) : AVal := .agg [I w, I h, BA b l]
abbrev GR (w h : Int) (b : Bool) (l : List Bool) : AVal := .agg [I w, I h, BR b l]

/-- The error of a grid. -/
def gchk (w h n : Int) : Int := if 64 < w ∨ 64 < h then 4 else if w < 1 ∨ h < 1 ∨ n ≠ w * h then 8 else 0
def gOk (w h n : Int) : Prop := 1 ≤ w ∧ w ≤ 64 ∧ 1 ≤ h ∧ h ≤ 64 ∧ n = w * h
theorem gchk_ok {w h n : Int} (hg : gOk w h n) : gchk w h n = 0 := by
  obtain ⟨h1, h2, h3, h4, h5⟩ := hg
  unfold gchk
  rw [if_neg (by omega), if_neg (by omega)]
theorem gchk_iff {w h n : Int} : gchk w h n = 0 ↔ gOk w h n := by
  refine ⟨fun hz => ?_, gchk_ok⟩
  unfold gchk at hz
  unfold gOk
  split at hz
  · omega
  · split at hz
    · omega
    · omega
theorem prod64 {w h : Int} (h1 : 0 ≤ w) (h2 : w ≤ 64) (h3 : 0 ≤ h) (h4 : h ≤ 64) : 0 ≤ w * h ∧ w * h ≤ 4096 := by
  constructor
  · exact Int.mul_nonneg h1 h3
  · have := Int.mul_le_mul h2 h4 h3 (by omega); omega

theorem gcheckP_c (w h : Int) (b : Bool) (l : List Bool) : Contract Try.prog 19 [GA w h b l] (I (gchk w h l.length)) := by
  unfold gchk
  refine Contract.intro (effS [] false) 6 follows Try.func19 rfl rfl (by kernel_rfl) (Nat.le_of_ble_eq_true rfl) ?_
  by_cases c1 : 64 < w ∨ 64 < h
  · rw [if_pos c1]
    have : 64 < max w h := by omega
    simp (disch := omega) only [↓RP, RG, FX, RQ, ↓reduceIte, Nat.reduceEqDiff, reduceCtorEq, Nat.reduceBEq, Nat.reduceAdd, Nat.reduceLeDiff, args0_1]
    rw [resVal_1 rfl]; simp (disch := first | assumption | omega | rfl | simp only [RH]) only [↓RP, RG, FX, RQ, ↓reduceIte, Nat.reduceEqDiff, reduceCtorEq, Nat.reduceBEq, Nat.reduceAdd, Nat.reduceLeDiff, RS]
  rw [if_neg c1]
  have : ¬ 64 < max w h := by omega
  by_cases c2 : w < 1 ∨ h < 1
  · rw [if_pos (by omega)]
    have : min w h < 1 := by omega
    simp (disch := omega) only [↓RP, RG, FX, RQ, ↓reduceIte, Nat.reduceEqDiff, reduceCtorEq, Nat.reduceBEq, Nat.reduceAdd, Nat.reduceLeDiff, args0_1]
    rw [resVal_1 rfl]; simp (disch := first | assumption | omega | rfl | simp only [RH]) only [↓RP, RG, FX, RQ, ↓reduceIte, Nat.reduceEqDiff, reduceCtorEq, Nat.reduceBEq, Nat.reduceAdd, Nat.reduceLeDiff, RS]
  have : ¬ min w h < 1 := by omega
  have hp := prod64 (w := w) (h := h) (by omega) (by omega) (by omega) (by omega)
  by_cases c3 : (l.length : Int) = w * h
  · rw [if_neg (by omega)]
    simp (disch := omega) only [↓RP, RG, FX, RQ, ↓reduceIte, Nat.reduceEqDiff, reduceCtorEq, Nat.reduceBEq, Nat.reduceAdd, Nat.reduceLeDiff, args0_1]
    rw [resVal_1 rfl]; simp (disch := first | assumption | omega | rfl | simp only [RH]) only [↓RP, RG, FX, RQ, ↓reduceIte, Nat.reduceEqDiff, reduceCtorEq, Nat.reduceBEq, Nat.reduceAdd, Nat.reduceLeDiff, RS]
  · rw [if_pos (by omega)]
    simp (disch := omega) only [↓RP, RG, FX, RQ, ↓reduceIte, Nat.reduceEqDiff, reduceCtorEq, Nat.reduceBEq, Nat.reduceAdd, Nat.reduceLeDiff, args0_1]
    rw [resVal_1 rfl]; simp (disch := first | assumption | omega | rfl | simp only [RH]) only [↓RP, RG, FX, RQ, ↓reduceIte, Nat.reduceEqDiff, reduceCtorEq, Nat.reduceBEq, Nat.reduceAdd, Nat.reduceLeDiff, RS]

theorem gcheckR_c (w h : Int) (b : Bool) (l : List Bool) : Contract Try.prog 22 [GA w h b l] (I (gchk w h l.length)) := by
  unfold gchk
  refine Contract.intro (effS [] false) 6 follows Try.func22 rfl rfl (by kernel_rfl) (Nat.le_of_ble_eq_true rfl) ?_
  by_cases c0 : 64 < w
  · rw [if_pos (by omega)]
    simp (disch := omega) only [↓RP, RG, FX, RQ, ↓reduceIte, Nat.reduceEqDiff, reduceCtorEq, Nat.reduceBEq, Nat.reduceAdd, Nat.reduceLeDiff, args0_1]
    rw [resVal_1 rfl]; simp (disch := first | assumption | omega | rfl | simp only [RH]) only [↓RP, RG, FX, RQ, ↓reduceIte, Nat.reduceEqDiff, reduceCtorEq, Nat.reduceBEq, Nat.reduceAdd, Nat.reduceLeDiff, RS]
  by_cases c1 : 64 < h
  · rw [if_pos (by omega)]
    simp (disch := omega) only [↓RP, RG, FX, RQ, ↓reduceIte, Nat.reduceEqDiff, reduceCtorEq, Nat.reduceBEq, Nat.reduceAdd, Nat.reduceLeDiff, args0_1]
    rw [resVal_1 rfl]; simp (disch := first | assumption | omega | rfl | simp only [RH]) only [↓RP, RG, FX, RQ, ↓reduceIte, Nat.reduceEqDiff, reduceCtorEq, Nat.reduceBEq, Nat.reduceAdd, Nat.reduceLeDiff, RS]
  rw [if_neg (by omega)]
  by_cases c2 : w < 1
  · rw [if_pos (by omega)]
    simp (disch := omega) only [↓RP, RG, FX, RQ, ↓reduceIte, Nat.reduceEqDiff, reduceCtorEq, Nat.reduceBEq, Nat.reduceAdd, Nat.reduceLeDiff, args0_1]
    rw [resVal_1 rfl]; simp (disch := first | assumption | omega | rfl | simp only [RH]) only [↓RP, RG, FX, RQ, ↓reduceIte, Nat.reduceEqDiff, reduceCtorEq, Nat.reduceBEq, Nat.reduceAdd, Nat.reduceLeDiff, RS]
  by_cases c3 : h < 1
  · rw [if_pos (by omega)]
    simp (disch := omega) only [↓RP, RG, FX, RQ, ↓reduceIte, Nat.reduceEqDiff, reduceCtorEq, Nat.reduceBEq, Nat.reduceAdd, Nat.reduceLeDiff, args0_1]
    rw [resVal_1 rfl]; simp (disch := first | assumption | omega | rfl | simp only [RH]) only [↓RP, RG, FX, RQ, ↓reduceIte, Nat.reduceEqDiff, reduceCtorEq, Nat.reduceBEq, Nat.reduceAdd, Nat.reduceLeDiff, RS]
  have hp := prod64 (w := w) (h := h) (by omega) (by omega) (by omega) (by omega)
  by_cases c4 : (l.length : Int) = w * h
  · rw [if_neg (by omega)]
    simp (disch := omega) only [↓RP, RG, FX, RQ, ↓reduceIte, Nat.reduceEqDiff, reduceCtorEq, Nat.reduceBEq, Nat.reduceAdd, Nat.reduceLeDiff, args0_1]
    rw [resVal_1 rfl]; simp (disch := first | assumption | omega | rfl | simp only [RH]) only [↓RP, RG, FX, RQ, ↓reduceIte, Nat.reduceEqDiff, reduceCtorEq, Nat.reduceBEq, Nat.reduceAdd, Nat.reduceLeDiff, RS]
  · rw [if_pos (by omega)]
    simp (disch := omega) only [↓RP, RG, FX, RQ, ↓reduceIte, Nat.reduceEqDiff, reduceCtorEq, Nat.reduceBEq, Nat.reduceAdd, Nat.reduceLeDiff, args0_1]
    rw [resVal_1 rfl]; simp (disch := first | assumption | omega | rfl | simp only [RH]) only [↓RP, RG, FX, RQ, ↓reduceIte, Nat.reduceEqDiff, reduceCtorEq, Nat.reduceBEq, Nat.reduceAdd, Nat.reduceLeDiff, RS]
end Go.Proofs.Ytaelfinlmbkhnaa

/- Lists: compared. -/
set_option linter.unusedSimpArgs false
set_option linter.unusedVariables false
set_option maxRecDepth 100000
namespace Go.Proofs.Ytaelfinlmbkhnaa
open Go Go.Proofs Go.AW

theorem bneq {a b : Bool} (h : ¬ a = b) : (a == b) = false := by simpa using h

end Go.Proofs.Ytaelfinlmbkhnaa

/- Lists: least and greatest element, within a range; cells of grids. -/
set_option linter.unusedSimpArgs false
set_option linter.unusedVariables false
set_option maxRecDepth 100000
namespace Go.Proofs.Ytaelfinlmbkhnaa
open Go Go.Proofs Go.AW

/-- It has elements, all of them from 0 to n - 1. -/
def wIn (l : List Int) (n : Int) : Prop := 0 < l.length ∧ ∀ j, j < l.length → 0 ≤ l.getD j 0 ∧ l.getD j 0 < n
instance (l : List Int) (n : Int) : Decidable (wIn l n) := by unfold wIn; infer_instance

/-- A grid's cell. -/
def cell (w : Int) (l : List Bool) (x y : Int) : Bool := l.getD (y * w + x).toNat false

theorem at_c (w h : Int) (b : Bool) (l : List Bool) (x y : Int) (h0 : 0 ≤ y * w + x) (h1 : y * w + x < l.length) (h2 : l.length ≤ 1000000000000) (h3 : 0 ≤ y * w) (h4 : y * w ≤ 1000000000000) : Contract Try.prog 33 [GA w h b l, I x, I y] (B (cell w l x y)) := by
  refine Contract.intro (effS [] false) 6 follows Try.func33 rfl rfl (by kernel_rfl) (Nat.le_of_ble_eq_true rfl) ?_
  simp (disch := first | assumption | omega | rfl | simp only [RH]) only [↓RP, RG, FX, RQ, ↓reduceIte, Nat.reduceEqDiff, reduceCtorEq, Nat.reduceBEq, Nat.reduceAdd, Nat.reduceLeDiff, args0_3]
  rw [resVal_1 rfl]; simp (disch := first | assumption | omega | rfl | simp only [RH]) only [↓RP, RG, FX, RQ, ↓reduceIte, Nat.reduceEqDiff, reduceCtorEq, Nat.reduceBEq, Nat.reduceAdd, Nat.reduceLeDiff, RS]
  rfl

end Go.Proofs.Ytaelfinlmbkhnaa

/- Grids: compared, copied. -/
set_option linter.unusedSimpArgs false
set_option linter.unusedVariables false
set_option maxRecDepth 100000
namespace Go.Proofs.Ytaelfinlmbkhnaa
open Go Go.Proofs Go.AW

theorem sameR_c (w1 h1 w2 h2 : Int) (b1 b2 : Bool) (l m : List Bool) (hl : l.length ≤ 9223372036854775807) : Contract Try.prog 11 [GA w1 h1 b1 l, GA w2 h2 b2 m] (B (decide (w1 = w2 ∧ h1 = h2 ∧ l = m))) := by
  refine Contract.intro (effS [] false) 6 follows Try.func11 rfl rfl (by kernel_rfl) (Nat.le_of_ble_eq_true rfl) ?_
  by_cases c1 : w1 = w2
  rotate_left
  · simp (disch := first | assumption | omega | rfl | simp only [RH]) only [↓RP, RG, FX, RQ, ↓reduceIte, Nat.reduceEqDiff, reduceCtorEq, Nat.reduceBEq, Nat.reduceAdd, Nat.reduceLeDiff, args0_2]
    rw [resVal_1 rfl]; simp (disch := first | assumption | omega | rfl | simp only [RH]) only [↓RP, RG, FX, RQ, ↓reduceIte, Nat.reduceEqDiff, reduceCtorEq, Nat.reduceBEq, Nat.reduceAdd, Nat.reduceLeDiff, RS]
    first | done | exact okF (fun h => c1 h.1)
  by_cases c2 : h1 = h2
  rotate_left
  · simp (disch := first | assumption | omega | rfl | simp only [RH]) only [↓RP, RG, FX, RQ, ↓reduceIte, Nat.reduceEqDiff, reduceCtorEq, Nat.reduceBEq, Nat.reduceAdd, Nat.reduceLeDiff, args0_2]
    rw [resVal_1 rfl]; simp (disch := first | assumption | omega | rfl | simp only [RH]) only [↓RP, RG, FX, RQ, ↓reduceIte, Nat.reduceEqDiff, reduceCtorEq, Nat.reduceBEq, Nat.reduceAdd, Nat.reduceLeDiff, RS]
    first | done | exact okF (fun h => c2 h.2.1)
  by_cases hlen : l.length = m.length
  rotate_left
  · simp (disch := first | assumption | omega | rfl | simp only [RH]) only [↓RP, RG, FX, RQ, ↓reduceIte, Nat.reduceEqDiff, reduceCtorEq, Nat.reduceBEq, Nat.reduceAdd, Nat.reduceLeDiff, args0_2]
    rw [resVal_1 rfl]; simp (disch := first | assumption | omega | rfl | simp only [RH]) only [↓RP, RG, FX, RQ, ↓reduceIte, Nat.reduceEqDiff, reduceCtorEq, Nat.reduceBEq, Nat.reduceAdd, Nat.reduceLeDiff, RS]
    first | done | exact okF (fun h => hlen (by rw [h.2.2]))
  simp (disch := first | assumption | omega | rfl | simp only [RH]) only [↓RP, RG, FX, RQ, ↓reduceIte, Nat.reduceEqDiff, reduceCtorEq, Nat.reduceBEq, Nat.reduceAdd, Nat.reduceLeDiff, args0_2]
  refine loopK_I [2, 3, 5] (fun k : Nat => k ≤ l.length ∧ l.take k = m.take k) (fun k : Nat => ⟨[(2, .ptr 0 0 3), (3, .ptr 1 0 3), (5, I k)], [⟨24, 3, [I w1, I h1, BA b1 l]⟩, ⟨24, 3, [I w2, I h2, BA b2 m]⟩]⟩) (fun k => l.length - k) 0 (by simp) (by simp only [↓RP, RG, FX, RQ, ↓reduceIte, Nat.reduceEqDiff, reduceCtorEq, Nat.reduceBEq, Nat.reduceAdd, Nat.reduceLeDiff]; rfl) ?_
  rintro k ⟨hk, htk⟩
  by_cases hlt : k < l.length
  · by_cases he : l.getD k false = m.getD k false
    · simp (disch := first | assumption | omega | rfl | simp only [RH]) only [↓RP, RG, FX, RQ, ↓reduceIte, Nat.reduceEqDiff, reduceCtorEq, Nat.reduceBEq, Nat.reduceAdd, Nat.reduceLeDiff, he, beq_self_eq_true, Bool.not_true]
      refine ⟨k + 1, ⟨by omega, ?_⟩, rfl, by omega⟩
      rw [List.take_add_one, List.take_add_one, htk]
      simp [hlt, show k < m.length by omega] at he
      rw [List.getElem?_eq_getElem hlt, List.getElem?_eq_getElem (show k < m.length by omega), he]
    · simp (disch := first | assumption | omega | rfl | simp only [RH]) only [↓RP, RG, FX, RQ, ↓reduceIte, Nat.reduceEqDiff, reduceCtorEq, Nat.reduceBEq, Nat.reduceAdd, Nat.reduceLeDiff, bneq he]
      rw [resVal_1 rfl]; simp (disch := first | assumption | omega | rfl | simp only [RH]) only [↓RP, RG, FX, RQ, ↓reduceIte, Nat.reduceEqDiff, reduceCtorEq, Nat.reduceBEq, Nat.reduceAdd, Nat.reduceLeDiff, RS]
      refine okF ?_
      rintro ⟨_, _, rfl⟩; exact he rfl
  · simp (disch := first | assumption | omega | rfl | simp only [RH]) only [↓RP, RG, FX, RQ, ↓reduceIte, Nat.reduceEqDiff, reduceCtorEq, Nat.reduceBEq, Nat.reduceAdd, Nat.reduceLeDiff]
    rw [resVal_1 rfl]; simp (disch := first | assumption | omega | rfl | simp only [RH]) only [↓RP, RG, FX, RQ, ↓reduceIte, Nat.reduceEqDiff, reduceCtorEq, Nat.reduceBEq, Nat.reduceAdd, Nat.reduceLeDiff, RS]
    refine okT ⟨c1, c2, ?_⟩
    have hk' : k = l.length := by omega
    rw [hk', List.take_length] at htk
    rw [htk, hlen, List.take_length]

theorem twin_c (w h : Int) (b : Bool) (l : List Bool) (hl : l.length ≤ 1000000000000) : Contract Try.prog 6 [GA w h b l] (GR w h false l) := by
  refine Contract.intro (effS [] false [7]) 6 follows Try.func6 rfl rfl (by kernel_rfl) (Nat.le_of_ble_eq_true rfl) ?_
  simp (disch := first | assumption | omega | rfl | simp only [RH]) only [↓RP, RG, FX, RQ, ↓reduceIte, Nat.reduceEqDiff, reduceCtorEq, Nat.reduceBEq, Nat.reduceAdd, Nat.reduceLeDiff, args0_1, copy_bools]
  rw [resVal_1 rfl]; simp (disch := first | assumption | omega | rfl | simp only [RH]) only [↓RP, RG, FX, RQ, ↓reduceIte, Nat.reduceEqDiff, reduceCtorEq, Nat.reduceBEq, Nat.reduceAdd, Nat.reduceLeDiff, RS]
  rfl
end Go.Proofs.Ytaelfinlmbkhnaa

/- Drafts: their checks. -/
set_option linter.unusedSimpArgs false
set_option linter.unusedVariables false
set_option maxRecDepth 100000
namespace Go.Proofs.Ytaelfinlmbkhnaa
open Go Go.Proofs Go.AW

end Go.Proofs.Ytaelfinlmbkhnaa

/- Drafts: tables, drawdowns, lifts. -/
set_option linter.unusedSimpArgs false
set_option linter.unusedVariables false
set_option maxRecDepth 100000
namespace Go.Proofs.Ytaelfinlmbkhnaa
open Go Go.Proofs Go.AW

end Go.Proofs.Ytaelfinlmbkhnaa

/- Drafts: drawdowns and lifts, of the program and the reference. -/
set_option linter.unusedSimpArgs false
set_option linter.unusedVariables false
set_option maxRecDepth 100000
namespace Go.Proofs.Ytaelfinlmbkhnaa
open Go Go.Proofs Go.AW

theorem idx_nat (W y x : Nat) : ((y : Int) * (W : Int) + (x : Int)).toNat = W * y + x := by
  rw [← Int.natCast_mul, ← Int.natCast_add, Int.toNat_natCast, Nat.mul_comm]
theorem idx_lt {W H x y : Nat} (hx : x < W) (hy : y < H) : W * y + x < W * H := by
  have : W * (y + 1) ≤ W * H := Nat.mul_le_mul_left W hy
  rw [Nat.mul_succ] at this; omega

end Go.Proofs.Ytaelfinlmbkhnaa

/- Chapter 8: the threads of a grid, one after another. -/
set_option linter.unusedSimpArgs false
set_option linter.unusedVariables false
set_option maxRecDepth 100000
namespace Go.Proofs.Ytaelfinlmbkhnaa
open Go Go.Proofs Go.AW

/-- The cells of a column, of a row turned over. -/
def faC (W H : Nat) (l : List Bool) (x : Nat) : List Bool := (List.range H).map fun y => l.getD (W * y + x) false
def faR (W : Nat) (l : List Bool) (y : Nat) : List Bool := (List.range W).map fun x => !l.getD (W * y + x) false
theorem faC_len (W H : Nat) (l : List Bool) (x : Nat) : (faC W H l x).length = H := by simp [faC]
theorem faR_len (W : Nat) (l : List Bool) (y : Nat) : (faR W l y).length = W := by simp [faR]
theorem faC_take {W H : Nat} {l : List Bool} {x y : Nat} (hy : y < H) : (faC W H l x).take (y + 1) = (faC W H l x).take y ++ [l.getD (W * y + x) false] := by
  rw [List.take_add_one]; simp [faC, hy]
theorem faR_take {W : Nat} {l : List Bool} {x y : Nat} (hx : x < W) : (faR W l y).take (x + 1) = (faR W l y).take x ++ [!l.getD (W * y + x) false] := by
  rw [List.take_add_one]; simp [faR, hx]
/-- Thread number k: ends first. -/
def faK (W H : Nat) (l : List Bool) (k : Nat) : List Bool := if k < W then faC W H l k else faR W l (k - W)
def lineA (m W H : Nat) (l : List Bool) (k : Nat) : AVal := .agg [B (decide (k < W)), I (if k < W then k else k - W : Nat), .ref (m + 1) 0 (if k < W then H else W) (if k < W then H else W)]
def lineO (m W H : Nat) (l : List Bool) (k : Nat) : List AObj := [⟨52, 3, [B (decide (k < W)), I (if k < W then k else k - W : Nat), .ref (m + 1) 0 (if k < W then H else W) (if k < W then H else W)]⟩, ⟨4, 1, bools (faK W H l k)⟩]

theorem lineA_c {W x : Nat} (m H : Nat) (l : List Bool) (h : x < W) : lineA m W H l x = .agg [B true, I x, .ref (m + 1) 0 H H] := by unfold lineA; rw [if_pos h, if_pos h, decide_eq_true h]
theorem lineA_r {W x : Nat} (m H : Nat) (l : List Bool) (h : ¬ x < W) : lineA m W H l x = .agg [B false, I (x - W : Nat), .ref (m + 1) 0 W W] := by unfold lineA; rw [if_neg h, if_neg h, decide_eq_false h]
theorem lineO_c {W x : Nat} (m H : Nat) (l : List Bool) (h : x < W) : lineO m W H l x = [⟨52, 3, [B true, I x, .ref (m + 1) 0 H H]⟩, ⟨4, 1, bools (faC W H l x)⟩] := by unfold lineO faK; rw [if_pos h, if_pos h, if_pos h, decide_eq_true h]
theorem lineO_r {W x : Nat} (m H : Nat) (l : List Bool) (h : ¬ x < W) : lineO m W H l x = [⟨52, 3, [B false, I (x - W : Nat), .ref (m + 1) 0 W W]⟩, ⟨4, 1, bools (faR W l (x - W))⟩] := by unfold lineO faK; rw [if_neg h, if_neg h, if_neg h, decide_eq_false h]

theorem lines_c (W H : Nat) (b : Bool) (l : List Bool) : Contract Try.prog 20 [GA W H b l] (.func (.func 28) [] [.spot true [I W, I H, BA b l]]) := by
  refine Contract.intro (effS [] false [] [0]) 6 follows Try.func20 rfl rfl (by kernel_rfl) (Nat.le_of_ble_eq_true rfl) ?_
  simp (disch := first | assumption | omega | rfl | simp only [RH]) only [↓RP, RG, FX, RQ, ↓reduceIte, Nat.reduceEqDiff, reduceCtorEq, Nat.reduceBEq, Nat.reduceAdd, Nat.reduceLeDiff, args0_1]
  rw [resVal_1 rfl]; simp (disch := first | assumption | omega | rfl | simp only [RH]) only [↓RP, RG, FX, RQ, ↓reduceIte, Nat.reduceEqDiff, reduceCtorEq, Nat.reduceBEq, Nat.reduceAdd, Nat.reduceLeDiff, RS]
  first | done | simp [resOf, resOf_list, bools_res]
end Go.Proofs.Ytaelfinlmbkhnaa

/- Chapter 8: the threads, yielded. -/
set_option linter.unusedSimpArgs false
set_option linter.unusedVariables false
set_option maxRecDepth 100000
namespace Go.Proofs.Ytaelfinlmbkhnaa
open Go Go.Proofs Go.AW

section
variable {W H : Nat} (hW0 : 0 < W) (hH0 : 0 < H) (hW : W ≤ 1000) (hH : H ≤ 1000) (p b : Bool) {l : List Bool} (hn : l.length = W * H) (m : Nat) (hs ex : Nat → List AObj)
include hW0 hH0 hW hH hn
theorem linesF_y (hsh : ∀ k, k ≤ W + H → Shut m (hs k)) : SpecY Try.prog 28 (stepsO (W + H) hs (lineO m W H l) ex (lineA m W H l)) [.spot p [I W, I H, BA b l]] (hs 0) (hs (W + H)) := by
  have hm : ∀ k, k ≤ W + H → (hs k).length = m := fun k hk => (hsh k hk).1
  refine SpecY.intro (effS [] false) follows Try.func28 rfl rfl (by kernel_rfl) (Nat.le_of_ble_eq_true rfl) rfl (fun yv => ?_)
  simp (disch := first | assumption | omega | rfl | simp only [RH]) only [↓RP, RG, FX, RQ, ↓reduceIte, Nat.reduceEqDiff, reduceCtorEq, Nat.reduceBEq, Nat.reduceAdd, Nat.reduceLeDiff, args0_2]
  refine loopK_WW [0, 1, 10, 11] (fun x : Nat => x ≤ W) (fun x : Nat => ⟨[(0, .val yv), (1, .spot p [I W, I H, BA b l]), (10, I W), (11, I x)], hs x⟩) (fun x => W - x) 0 (by omega) (Wk.of_eq (by simp only [↓RP, RG, FX, RQ, ↓reduceIte, Nat.reduceEqDiff, reduceCtorEq, Nat.reduceBEq, Nat.reduceAdd, Nat.reduceLeDiff]; rfl)) ?_
  intro x hx
  by_cases hlt : x < W
  · have hmx := hm x (by omega)
    simp (disch := first | assumption | omega | rfl | simp only [RH]) only [↓RP, RG, FX, RQ, ↓reduceIte, Nat.reduceEqDiff, reduceCtorEq, Nat.reduceBEq, Nat.reduceAdd, Nat.reduceLeDiff]
    refine loopK_WW [0, 1, 3, 4, 10, 11, 17, 18] (fun y : Nat => y ≤ H) (fun y : Nat => ⟨[(0, .val yv), (1, .spot p [I W, I H, BA b l]), (3, I x), (4, .ptr (hs x).length 0 3), (10, I W), (11, I x), (17, I H), (18, I y)], hs x ++ [⟨52, 3, [B true, I x, gw true ((hs x).length + 1) (bools ((faC W H l x).take y))]⟩, go 4 (bools ((faC W H l x).take y))]⟩) (fun y => H - y) 0 (by omega) ?_ ?_
    · simp only [↓RP, RG, FX, RQ, ↓reduceIte, Nat.reduceEqDiff, reduceCtorEq, Nat.reduceBEq, Nat.reduceAdd, Nat.reduceLeDiff]
      exact Wk.weak (fun t => .refl _) (.app (hs x) (.cons _ _ _ _ (.cons (.refl _) (.cons (.refl _) (.cons (.nil _) .nil))) (.nil _ (by simp [go, bools]))))
    intro y hy
    by_cases hlt2 : y < H
    · have hil := idx_lt hlt hlt2
      have hWH : W * H ≤ 1000 * 1000 := Nat.mul_le_mul hW hH
      have m1 : (y : Int) * (W : Int) = ((W * y : Nat) : Int) := by rw [Int.natCast_mul, Int.mul_comm]
      have m2 : ((W * y : Nat) : Int) + (x : Int) = ((W * y + x : Nat) : Int) := by omega
      have htk : ((faC W H l x).take y).length = y := by rw [List.length_take, faC_len]; omega
      simp (disch := first | assumption | omega | rfl | simp only [RH]) only [↓RP, RG, FX, RQ, ↓reduceIte, Nat.reduceEqDiff, reduceCtorEq, Nat.reduceBEq, Nat.reduceAdd, Nat.reduceLeDiff, m1, m2, Int.toNat_natCast, effY_b, effY_n, effY_f, effY_l, effY_z, effY_D, append_bool]
      refine ⟨y + 1, by omega, Wk.of_eq ?_, by omega⟩
      rw [faC_take hlt2]
      rfl
    · obtain rfl : H = y := by omega
      have htk : (faC W H l x).take H = faC W H l x := List.take_of_length_le (by rw [faC_len]; omega)
      have hcl := faC_len W H l x
      have hp : 0 < (bools (faC W H l x)).length := by rw [bools_length]; omega
      simp (disch := first | assumption | omega | rfl | simp only [RH]) only [↓RP, RG, FX, RQ, ↓reduceIte, Nat.reduceEqDiff, reduceCtorEq, Nat.reduceBEq, Nat.reduceAdd, Nat.reduceLeDiff, htk, gw_pos hp, go_pos hp, bools_length, hcl]
      refine callK_Y rfl (stepsO_at x (by omega) (by rw [lineA_c _ _ _ hlt, hmx]) (by rw [lineO_c _ _ _ hlt, hmx]) rfl) ?_
      simp (disch := first | assumption | omega | rfl | simp only [RH]) only [↓RP, RG, FX, RQ, ↓reduceIte, Nat.reduceEqDiff, reduceCtorEq, Nat.reduceBEq, Nat.reduceAdd, Nat.reduceLeDiff]
      refine ⟨x + 1, by omega, ?_, by omega⟩
      refine (Wk.shut ((hm _ (by omega)).trans (hm 0 (by omega)).symm) ?_).trans (Wk.of_eq ?_)
      · rw [hm 0 (by omega)]; exact hsh _ (by omega)
      · simp [ren, map_ren_bools]
  · obtain rfl : W = x := by omega
    simp (disch := first | assumption | omega | rfl | simp only [RH]) only [↓RP, RG, FX, RQ, ↓reduceIte, Nat.reduceEqDiff, reduceCtorEq, Nat.reduceBEq, Nat.reduceAdd, Nat.reduceLeDiff]
    refine loopK_WW [0, 1, 43, 44] (fun y : Nat => y ≤ H) (fun y : Nat => ⟨[(0, .val yv), (1, .spot p [I W, I H, BA b l]), (43, I H), (44, I y)], hs (W + y)⟩) (fun y => H - y) 0 (by omega) (Wk.of_eq (by simp only [↓RP, RG, FX, RQ, ↓reduceIte, Nat.reduceEqDiff, reduceCtorEq, Nat.reduceBEq, Nat.reduceAdd, Nat.reduceLeDiff]; rfl)) ?_
    intro y hy
    by_cases hlt2 : y < H
    · have hmx := hm (W + y) (by omega)
      have hge : ¬ W + y < W := by omega
      have hsub : W + y - W = y := by omega
      simp (disch := first | assumption | omega | rfl | simp only [RH]) only [↓RP, RG, FX, RQ, ↓reduceIte, Nat.reduceEqDiff, reduceCtorEq, Nat.reduceBEq, Nat.reduceAdd, Nat.reduceLeDiff]
      refine loopK_WW [0, 1, 6, 7, 43, 44, 50, 51] (fun x : Nat => x ≤ W) (fun x : Nat => ⟨[(0, .val yv), (1, .spot p [I W, I H, BA b l]), (6, I y), (7, .ptr (hs (W + y)).length 0 3), (43, I H), (44, I y), (50, I W), (51, I x)], hs (W + y) ++ [⟨52, 3, [B false, I y, gw true ((hs (W + y)).length + 1) (bools ((faR W l y).take x))]⟩, go 4 (bools ((faR W l y).take x))]⟩) (fun x => W - x) 0 (by omega) ?_ ?_
      · simp only [↓RP, RG, FX, RQ, ↓reduceIte, Nat.reduceEqDiff, reduceCtorEq, Nat.reduceBEq, Nat.reduceAdd, Nat.reduceLeDiff]
        exact Wk.weak (fun t => .refl _) (.app (hs (W + y)) (.cons _ _ _ _ (.cons (.refl _) (.cons (.refl _) (.cons (.nil _) .nil))) (.nil _ (by simp [go, bools]))))
      intro x hx
      by_cases hlt3 : x < W
      · have hil := idx_lt hlt3 hlt2
        have hWH : W * H ≤ 1000 * 1000 := Nat.mul_le_mul hW hH
        have m1 : (y : Int) * (W : Int) = ((W * y : Nat) : Int) := by rw [Int.natCast_mul, Int.mul_comm]
        have m2 : ((W * y : Nat) : Int) + (x : Int) = ((W * y + x : Nat) : Int) := by omega
        have htk : ((faR W l y).take x).length = x := by rw [List.length_take, faR_len]; omega
        simp (disch := first | assumption | omega | rfl | simp only [RH]) only [↓RP, RG, FX, RQ, ↓reduceIte, Nat.reduceEqDiff, reduceCtorEq, Nat.reduceBEq, Nat.reduceAdd, Nat.reduceLeDiff, m1, m2, Int.toNat_natCast, effY_b, effY_n, effY_f, effY_l, effY_z, effY_D, append_bool]
        refine ⟨x + 1, by omega, Wk.of_eq ?_, by omega⟩
        rw [faR_take hlt3]
        rfl
      · obtain rfl : W = x := by omega
        have htk : (faR W l y).take W = faR W l y := List.take_of_length_le (by rw [faR_len]; omega)
        have hcl := faR_len W l y
        have hp : 0 < (bools (faR W l y)).length := by rw [bools_length]; omega
        simp (disch := first | assumption | omega | rfl | simp only [RH]) only [↓RP, RG, FX, RQ, ↓reduceIte, Nat.reduceEqDiff, reduceCtorEq, Nat.reduceBEq, Nat.reduceAdd, Nat.reduceLeDiff, htk, gw_pos hp, go_pos hp, bools_length, hcl]
        refine callK_Y rfl (stepsO_at (W + y) (by omega) (by rw [lineA_r _ _ _ hge, hmx, hsub]) (by rw [lineO_r _ _ _ hge, hmx, hsub]) rfl) ?_
        simp (disch := first | assumption | omega | rfl | simp only [RH]) only [↓RP, RG, FX, RQ, ↓reduceIte, Nat.reduceEqDiff, reduceCtorEq, Nat.reduceBEq, Nat.reduceAdd, Nat.reduceLeDiff]
        refine ⟨y + 1, by omega, ?_, by omega⟩
        refine (Wk.shut ((hm _ (by omega)).trans (hm 0 (by omega)).symm) ?_).trans (Wk.of_eq ?_)
        · rw [hm 0 (by omega)]; exact hsh _ (by omega)
        · simp [ren, map_ren_bools]; rfl
    · obtain rfl : H = y := by omega
      simp (disch := first | assumption | omega | rfl | simp only [RH]) only [↓RP, RG, FX, RQ, ↓reduceIte, Nat.reduceEqDiff, reduceCtorEq, Nat.reduceBEq, Nat.reduceAdd, Nat.reduceLeDiff]
      exact Wk.refl _ _
end
end Go.Proofs.Ytaelfinlmbkhnaa

/- Chapter 8: the threads, yielded until the loop is left. -/
set_option linter.unusedSimpArgs false
set_option linter.unusedVariables false
set_option maxRecDepth 100000
namespace Go.Proofs.Ytaelfinlmbkhnaa
open Go Go.Proofs Go.AW

section
variable {W H : Nat} (hW0 : 0 < W) (hH0 : 0 < H) (hW : W ≤ 1000) (hH : H ≤ 1000) (p b : Bool) {l : List Bool} (hn : l.length = W * H) (m : Nat) (hs ex : Nat → List AObj)
include hW0 hH0 hW hH hn
theorem linesF_x1 {N : Nat} (hN : N < W) (hsh : ∀ k, k ≤ N → Shut m (hs k)) (hS : List AObj) : SpecX Try.prog 28 (stepsO N hs (lineO m W H l) ex (lineA m W H l)) (lastO N hs (lineO m W H l) (lineA m W H l)) [.spot p [I W, I H, BA b l]] (hs 0) hS := by
  have hm : ∀ k, k ≤ N → (hs k).length = m := fun k hk => (hsh k hk).1
  refine SpecX.intro (effS [] false) follows Try.func28 rfl rfl (by kernel_rfl) (Nat.le_of_ble_eq_true rfl) rfl (fun yv => ?_)
  refine awpX_left (awpX_seq ?_)
  simp (disch := first | assumption | omega | rfl | simp only [RH]) only [↓RP, RG, FX, RQ, ↓reduceIte, Nat.reduceEqDiff, reduceCtorEq, Nat.reduceBEq, Nat.reduceAdd, Nat.reduceLeDiff, args0_2]
  refine awpX_block ?_
  refine loopX_WW [0, 1, 10, 11] (fun x : Nat => x ≤ N) (fun x : Nat => ⟨[(0, .val yv), (1, .spot p [I W, I H, BA b l]), (10, I W), (11, I x)], hs x⟩) (fun x => N - x) 0 (by omega) (Wk.of_eq (by simp only [↓RP, RG, FX, RQ, ↓reduceIte, Nat.reduceEqDiff, reduceCtorEq, Nat.reduceBEq, Nat.reduceAdd, Nat.reduceLeDiff]; rfl)) ?_
  intro x hx
  have hlt : x < W := by omega
  have hmx := hm x (by omega)
  by_cases hxN : x < N
  · refine awpX_of_awp _ _ _ ?_
    simp (disch := first | assumption | omega | rfl | simp only [RH]) only [↓RP, RG, FX, RQ, ↓reduceIte, Nat.reduceEqDiff, reduceCtorEq, Nat.reduceBEq, Nat.reduceAdd, Nat.reduceLeDiff]
    refine loopK_WW [0, 1, 3, 4, 10, 11, 17, 18] (fun y : Nat => y ≤ H) (fun y : Nat => ⟨[(0, .val yv), (1, .spot p [I W, I H, BA b l]), (3, I x), (4, .ptr (hs x).length 0 3), (10, I W), (11, I x), (17, I H), (18, I y)], hs x ++ [⟨52, 3, [B true, I x, gw true ((hs x).length + 1) (bools ((faC W H l x).take y))]⟩, go 4 (bools ((faC W H l x).take y))]⟩) (fun y => H - y) 0 (by omega) ?_ ?_
    · simp only [↓RP, RG, FX, RQ, ↓reduceIte, Nat.reduceEqDiff, reduceCtorEq, Nat.reduceBEq, Nat.reduceAdd, Nat.reduceLeDiff]
      exact Wk.weak (fun t => .refl _) (.app (hs x) (.cons _ _ _ _ (.cons (.refl _) (.cons (.refl _) (.cons (.nil _) .nil))) (.nil _ (by simp [go, bools]))))
    intro y hy
    by_cases hlt2 : y < H
    · have hil := idx_lt hlt hlt2
      have hWH : W * H ≤ 1000 * 1000 := Nat.mul_le_mul hW hH
      have m1 : (y : Int) * (W : Int) = ((W * y : Nat) : Int) := by rw [Int.natCast_mul, Int.mul_comm]
      have m2 : ((W * y : Nat) : Int) + (x : Int) = ((W * y + x : Nat) : Int) := by omega
      have htk : ((faC W H l x).take y).length = y := by rw [List.length_take, faC_len]; omega
      simp (disch := first | assumption | omega | rfl | simp only [RH]) only [↓RP, RG, FX, RQ, ↓reduceIte, Nat.reduceEqDiff, reduceCtorEq, Nat.reduceBEq, Nat.reduceAdd, Nat.reduceLeDiff, m1, m2, Int.toNat_natCast, effY_b, effY_n, effY_f, effY_l, effY_z, effY_D, append_bool]
      refine ⟨y + 1, by omega, Wk.of_eq ?_, by omega⟩
      rw [faC_take hlt2]
      rfl
    · obtain rfl : H = y := by omega
      have htk : (faC W H l x).take H = faC W H l x := List.take_of_length_le (by rw [faC_len]; omega)
      have hcl := faC_len W H l x
      have hp : 0 < (bools (faC W H l x)).length := by rw [bools_length]; omega
      simp (disch := first | assumption | omega | rfl | simp only [RH]) only [↓RP, RG, FX, RQ, ↓reduceIte, Nat.reduceEqDiff, reduceCtorEq, Nat.reduceBEq, Nat.reduceAdd, Nat.reduceLeDiff, htk, gw_pos hp, go_pos hp, bools_length, hcl]
      refine callK_Y rfl (stepsO_at x (by omega) (by rw [lineA_c _ _ _ hlt, hmx]) (by rw [lineO_c _ _ _ hlt, hmx]) rfl) ?_
      simp (disch := first | assumption | omega | rfl | simp only [RH]) only [↓RP, RG, FX, RQ, ↓reduceIte, Nat.reduceEqDiff, reduceCtorEq, Nat.reduceBEq, Nat.reduceAdd, Nat.reduceLeDiff]
      refine ⟨x + 1, by omega, ?_, by omega⟩
      refine (Wk.shut ((hm _ (by omega)).trans (hm 0 (by omega)).symm) ?_).trans (Wk.of_eq ?_)
      · rw [hm 0 (by omega)]; exact hsh _ (by omega)
      · simp [ren, map_ren_bools]
  · have hNx : N = x := by omega
    clear hxN
    refine awpX_seq ?_
    simp (disch := first | assumption | omega | rfl | simp only [RH]) only [↓RP, RG, FX, RQ, ↓reduceIte, Nat.reduceEqDiff, reduceCtorEq, Nat.reduceBEq, Nat.reduceAdd, Nat.reduceLeDiff]
    refine awpX_seq ?_
    simp (disch := first | assumption | omega | rfl | simp only [RH]) only [↓RP, RG, FX, RQ, ↓reduceIte, Nat.reduceEqDiff, reduceCtorEq, Nat.reduceBEq, Nat.reduceAdd, Nat.reduceLeDiff]
    refine awpX_left (awpX_block (awpX_seq ?_))
    simp (disch := first | assumption | omega | rfl | simp only [RH]) only [↓RP, RG, FX, RQ, ↓reduceIte, Nat.reduceEqDiff, reduceCtorEq, Nat.reduceBEq, Nat.reduceAdd, Nat.reduceLeDiff]
    refine awpX_seq ?_
    simp (disch := first | assumption | omega | rfl | simp only [RH]) only [↓RP, RG, FX, RQ, ↓reduceIte, Nat.reduceEqDiff, reduceCtorEq, Nat.reduceBEq, Nat.reduceAdd, Nat.reduceLeDiff]
    refine awpX_seq ?_
    simp (disch := first | assumption | omega | rfl | simp only [RH]) only [↓RP, RG, FX, RQ, ↓reduceIte, Nat.reduceEqDiff, reduceCtorEq, Nat.reduceBEq, Nat.reduceAdd, Nat.reduceLeDiff]
    refine loopK_WW [0, 1, 3, 4, 10, 11, 17, 18] (fun y : Nat => y ≤ H) (fun y : Nat => ⟨[(0, .val yv), (1, .spot p [I W, I H, BA b l]), (3, I x), (4, .ptr (hs x).length 0 3), (10, I W), (11, I x), (17, I H), (18, I y)], hs x ++ [⟨52, 3, [B true, I x, gw true ((hs x).length + 1) (bools ((faC W H l x).take y))]⟩, go 4 (bools ((faC W H l x).take y))]⟩) (fun y => H - y) 0 (by omega) ?_ ?_
    · simp only [↓RP, RG, FX, RQ, ↓reduceIte, Nat.reduceEqDiff, reduceCtorEq, Nat.reduceBEq, Nat.reduceAdd, Nat.reduceLeDiff]
      exact Wk.weak (fun t => .refl _) (.app (hs x) (.cons _ _ _ _ (.cons (.refl _) (.cons (.refl _) (.cons (.nil _) .nil))) (.nil _ (by simp [go, bools]))))
    intro y hy
    by_cases hlt2 : y < H
    · have hil := idx_lt hlt hlt2
      have hWH : W * H ≤ 1000 * 1000 := Nat.mul_le_mul hW hH
      have m1 : (y : Int) * (W : Int) = ((W * y : Nat) : Int) := by rw [Int.natCast_mul, Int.mul_comm]
      have m2 : ((W * y : Nat) : Int) + (x : Int) = ((W * y + x : Nat) : Int) := by omega
      have htk : ((faC W H l x).take y).length = y := by rw [List.length_take, faC_len]; omega
      simp (disch := first | assumption | omega | rfl | simp only [RH]) only [↓RP, RG, FX, RQ, ↓reduceIte, Nat.reduceEqDiff, reduceCtorEq, Nat.reduceBEq, Nat.reduceAdd, Nat.reduceLeDiff, m1, m2, Int.toNat_natCast, effY_b, effY_n, effY_f, effY_l, effY_z, effY_D, append_bool]
      refine ⟨y + 1, by omega, Wk.of_eq ?_, by omega⟩
      rw [faC_take hlt2]
      rfl
    · obtain rfl : H = y := by omega
      have htk : (faC W H l x).take H = faC W H l x := List.take_of_length_le (by rw [faC_len]; omega)
      have hcl := faC_len W H l x
      have hp : 0 < (bools (faC W H l x)).length := by rw [bools_length]; omega
      simp (disch := first | assumption | omega | rfl | simp only [RH]) only [↓RP, RG, FX, RQ, ↓reduceIte, Nat.reduceEqDiff, reduceCtorEq, Nat.reduceBEq, Nat.reduceAdd, Nat.reduceLeDiff, htk, gw_pos hp, go_pos hp, bools_length, hcl]
      refine awpX_stop ⟨[_, _], _, _, 39, 40, _, _, _, _, rfl, rfl, rfl, rfl, rfl, rfl, rfl, rfl, ?_⟩
      simp (disch := first | assumption | omega | rfl | simp only [RH]) only [↓RP, RG, FX, RQ, ↓reduceIte, Nat.reduceEqDiff, reduceCtorEq, Nat.reduceBEq, Nat.reduceAdd, Nat.reduceLeDiff]
      exact ⟨by rw [hNx, lineA_c _ _ _ hlt, hmx], by rw [hNx, lineO_c _ _ _ hlt, hmx]⟩
theorem linesF_x2 {N : Nat} (hN : W ≤ N ∧ N < W + H) (hsh : ∀ k, k ≤ N → Shut m (hs k)) (hS : List AObj) : SpecX Try.prog 28 (stepsO N hs (lineO m W H l) ex (lineA m W H l)) (lastO N hs (lineO m W H l) (lineA m W H l)) [.spot p [I W, I H, BA b l]] (hs 0) hS := by
  have hm : ∀ k, k ≤ N → (hs k).length = m := fun k hk => (hsh k hk).1
  refine SpecX.intro (effS [] false) follows Try.func28 rfl rfl (by kernel_rfl) (Nat.le_of_ble_eq_true rfl) rfl (fun yv => ?_)
  refine awpX_seq ?_
  simp (disch := first | assumption | omega | rfl | simp only [RH]) only [↓RP, RG, FX, RQ, ↓reduceIte, Nat.reduceEqDiff, reduceCtorEq, Nat.reduceBEq, Nat.reduceAdd, Nat.reduceLeDiff, args0_2]
  refine loopK_WW [0, 1, 10, 11] (fun x : Nat => x ≤ W) (fun x : Nat => ⟨[(0, .val yv), (1, .spot p [I W, I H, BA b l]), (10, I W), (11, I x)], hs x⟩) (fun x => W - x) 0 (by omega) (Wk.of_eq (by simp only [↓RP, RG, FX, RQ, ↓reduceIte, Nat.reduceEqDiff, reduceCtorEq, Nat.reduceBEq, Nat.reduceAdd, Nat.reduceLeDiff]; rfl)) ?_
  intro x hx
  by_cases hlt : x < W
  · have hmx := hm x (by omega)
    simp (disch := first | assumption | omega | rfl | simp only [RH]) only [↓RP, RG, FX, RQ, ↓reduceIte, Nat.reduceEqDiff, reduceCtorEq, Nat.reduceBEq, Nat.reduceAdd, Nat.reduceLeDiff]
    refine loopK_WW [0, 1, 3, 4, 10, 11, 17, 18] (fun y : Nat => y ≤ H) (fun y : Nat => ⟨[(0, .val yv), (1, .spot p [I W, I H, BA b l]), (3, I x), (4, .ptr (hs x).length 0 3), (10, I W), (11, I x), (17, I H), (18, I y)], hs x ++ [⟨52, 3, [B true, I x, gw true ((hs x).length + 1) (bools ((faC W H l x).take y))]⟩, go 4 (bools ((faC W H l x).take y))]⟩) (fun y => H - y) 0 (by omega) ?_ ?_
    · simp only [↓RP, RG, FX, RQ, ↓reduceIte, Nat.reduceEqDiff, reduceCtorEq, Nat.reduceBEq, Nat.reduceAdd, Nat.reduceLeDiff]
      exact Wk.weak (fun t => .refl _) (.app (hs x) (.cons _ _ _ _ (.cons (.refl _) (.cons (.refl _) (.cons (.nil _) .nil))) (.nil _ (by simp [go, bools]))))
    intro y hy
    by_cases hlt2 : y < H
    · have hil := idx_lt hlt hlt2
      have hWH : W * H ≤ 1000 * 1000 := Nat.mul_le_mul hW hH
      have m1 : (y : Int) * (W : Int) = ((W * y : Nat) : Int) := by rw [Int.natCast_mul, Int.mul_comm]
      have m2 : ((W * y : Nat) : Int) + (x : Int) = ((W * y + x : Nat) : Int) := by omega
      have htk : ((faC W H l x).take y).length = y := by rw [List.length_take, faC_len]; omega
      simp (disch := first | assumption | omega | rfl | simp only [RH]) only [↓RP, RG, FX, RQ, ↓reduceIte, Nat.reduceEqDiff, reduceCtorEq, Nat.reduceBEq, Nat.reduceAdd, Nat.reduceLeDiff, m1, m2, Int.toNat_natCast, effY_b, effY_n, effY_f, effY_l, effY_z, effY_D, append_bool]
      refine ⟨y + 1, by omega, Wk.of_eq ?_, by omega⟩
      rw [faC_take hlt2]
      rfl
    · obtain rfl : H = y := by omega
      have htk : (faC W H l x).take H = faC W H l x := List.take_of_length_le (by rw [faC_len]; omega)
      have hcl := faC_len W H l x
      have hp : 0 < (bools (faC W H l x)).length := by rw [bools_length]; omega
      simp (disch := first | assumption | omega | rfl | simp only [RH]) only [↓RP, RG, FX, RQ, ↓reduceIte, Nat.reduceEqDiff, reduceCtorEq, Nat.reduceBEq, Nat.reduceAdd, Nat.reduceLeDiff, htk, gw_pos hp, go_pos hp, bools_length, hcl]
      refine callK_Y rfl (stepsO_at x (by omega) (by rw [lineA_c _ _ _ hlt, hmx]) (by rw [lineO_c _ _ _ hlt, hmx]) rfl) ?_
      simp (disch := first | assumption | omega | rfl | simp only [RH]) only [↓RP, RG, FX, RQ, ↓reduceIte, Nat.reduceEqDiff, reduceCtorEq, Nat.reduceBEq, Nat.reduceAdd, Nat.reduceLeDiff]
      refine ⟨x + 1, by omega, ?_, by omega⟩
      refine (Wk.shut ((hm _ (by omega)).trans (hm 0 (by omega)).symm) ?_).trans (Wk.of_eq ?_)
      · rw [hm 0 (by omega)]; exact hsh _ (by omega)
      · simp [ren, map_ren_bools]
  · obtain rfl : W = x := by omega
    simp (disch := first | assumption | omega | rfl | simp only [RH]) only [↓RP, RG, FX, RQ, ↓reduceIte, Nat.reduceEqDiff, reduceCtorEq, Nat.reduceBEq, Nat.reduceAdd, Nat.reduceLeDiff]
    refine awpX_seq ?_
    simp (disch := first | assumption | omega | rfl | simp only [RH]) only [↓RP, RG, FX, RQ, ↓reduceIte, Nat.reduceEqDiff, reduceCtorEq, Nat.reduceBEq, Nat.reduceAdd, Nat.reduceLeDiff]
    refine awpX_block ?_
    refine loopX_WW [0, 1, 43, 44] (fun y : Nat => y ≤ N - W) (fun y : Nat => ⟨[(0, .val yv), (1, .spot p [I W, I H, BA b l]), (43, I H), (44, I y)], hs (W + y)⟩) (fun y => N - W - y) 0 (by omega) (Wk.of_eq (by simp only [↓RP, RG, FX, RQ, ↓reduceIte, Nat.reduceEqDiff, reduceCtorEq, Nat.reduceBEq, Nat.reduceAdd, Nat.reduceLeDiff]; rfl)) ?_
    intro y hy
    have hlt2 : y < H := by omega
    have hmx := hm (W + y) (by omega)
    by_cases hyN : y < N - W
    · refine awpX_of_awp _ _ _ ?_
      have hge : ¬ W + y < W := by omega
      have hsub : W + y - W = y := by omega
      simp (disch := first | assumption | omega | rfl | simp only [RH]) only [↓RP, RG, FX, RQ, ↓reduceIte, Nat.reduceEqDiff, reduceCtorEq, Nat.reduceBEq, Nat.reduceAdd, Nat.reduceLeDiff]
      refine loopK_WW [0, 1, 6, 7, 43, 44, 50, 51] (fun x : Nat => x ≤ W) (fun x : Nat => ⟨[(0, .val yv), (1, .spot p [I W, I H, BA b l]), (6, I y), (7, .ptr (hs (W + y)).length 0 3), (43, I H), (44, I y), (50, I W), (51, I x)], hs (W + y) ++ [⟨52, 3, [B false, I y, gw true ((hs (W + y)).length + 1) (bools ((faR W l y).take x))]⟩, go 4 (bools ((faR W l y).take x))]⟩) (fun x => W - x) 0 (by omega) ?_ ?_
      · simp only [↓RP, RG, FX, RQ, ↓reduceIte, Nat.reduceEqDiff, reduceCtorEq, Nat.reduceBEq, Nat.reduceAdd, Nat.reduceLeDiff]
        exact Wk.weak (fun t => .refl _) (.app (hs (W + y)) (.cons _ _ _ _ (.cons (.refl _) (.cons (.refl _) (.cons (.nil _) .nil))) (.nil _ (by simp [go, bools]))))
      intro x hx
      by_cases hlt3 : x < W
      · have hil := idx_lt hlt3 hlt2
        have hWH : W * H ≤ 1000 * 1000 := Nat.mul_le_mul hW hH
        have m1 : (y : Int) * (W : Int) = ((W * y : Nat) : Int) := by rw [Int.natCast_mul, Int.mul_comm]
        have m2 : ((W * y : Nat) : Int) + (x : Int) = ((W * y + x : Nat) : Int) := by omega
        have htk : ((faR W l y).take x).length = x := by rw [List.length_take, faR_len]; omega
        simp (disch := first | assumption | omega | rfl | simp only [RH]) only [↓RP, RG, FX, RQ, ↓reduceIte, Nat.reduceEqDiff, reduceCtorEq, Nat.reduceBEq, Nat.reduceAdd, Nat.reduceLeDiff, m1, m2, Int.toNat_natCast, effY_b, effY_n, effY_f, effY_l, effY_z, effY_D, append_bool]
        refine ⟨x + 1, by omega, Wk.of_eq ?_, by omega⟩
        rw [faR_take hlt3]
        rfl
      · obtain rfl : W = x := by omega
        have htk : (faR W l y).take W = faR W l y := List.take_of_length_le (by rw [faR_len]; omega)
        have hcl := faR_len W l y
        have hp : 0 < (bools (faR W l y)).length := by rw [bools_length]; omega
        simp (disch := first | assumption | omega | rfl | simp only [RH]) only [↓RP, RG, FX, RQ, ↓reduceIte, Nat.reduceEqDiff, reduceCtorEq, Nat.reduceBEq, Nat.reduceAdd, Nat.reduceLeDiff, htk, gw_pos hp, go_pos hp, bools_length, hcl]
        refine callK_Y rfl (stepsO_at (W + y) (by omega) (by rw [lineA_r _ _ _ hge, hmx, hsub]) (by rw [lineO_r _ _ _ hge, hmx, hsub]) rfl) ?_
        simp (disch := first | assumption | omega | rfl | simp only [RH]) only [↓RP, RG, FX, RQ, ↓reduceIte, Nat.reduceEqDiff, reduceCtorEq, Nat.reduceBEq, Nat.reduceAdd, Nat.reduceLeDiff]
        refine ⟨y + 1, by omega, ?_, by omega⟩
        refine (Wk.shut ((hm _ (by omega)).trans (hm 0 (by omega)).symm) ?_).trans (Wk.of_eq ?_)
        · rw [hm 0 (by omega)]; exact hsh _ (by omega)
        · simp [ren, map_ren_bools]; rfl
    · have hNx : N = W + y := by omega
      clear hyN
      refine awpX_seq ?_
      simp (disch := first | assumption | omega | rfl | simp only [RH]) only [↓RP, RG, FX, RQ, ↓reduceIte, Nat.reduceEqDiff, reduceCtorEq, Nat.reduceBEq, Nat.reduceAdd, Nat.reduceLeDiff]
      refine awpX_seq ?_
      simp (disch := first | assumption | omega | rfl | simp only [RH]) only [↓RP, RG, FX, RQ, ↓reduceIte, Nat.reduceEqDiff, reduceCtorEq, Nat.reduceBEq, Nat.reduceAdd, Nat.reduceLeDiff]
      refine awpX_left (awpX_block (awpX_seq ?_))
      simp (disch := first | assumption | omega | rfl | simp only [RH]) only [↓RP, RG, FX, RQ, ↓reduceIte, Nat.reduceEqDiff, reduceCtorEq, Nat.reduceBEq, Nat.reduceAdd, Nat.reduceLeDiff]
      refine awpX_seq ?_
      simp (disch := first | assumption | omega | rfl | simp only [RH]) only [↓RP, RG, FX, RQ, ↓reduceIte, Nat.reduceEqDiff, reduceCtorEq, Nat.reduceBEq, Nat.reduceAdd, Nat.reduceLeDiff]
      refine awpX_seq ?_
      have hge : ¬ W + y < W := by omega
      have hsub : W + y - W = y := by omega
      simp (disch := first | assumption | omega | rfl | simp only [RH]) only [↓RP, RG, FX, RQ, ↓reduceIte, Nat.reduceEqDiff, reduceCtorEq, Nat.reduceBEq, Nat.reduceAdd, Nat.reduceLeDiff]
      refine loopK_WW [0, 1, 6, 7, 43, 44, 50, 51] (fun x : Nat => x ≤ W) (fun x : Nat => ⟨[(0, .val yv), (1, .spot p [I W, I H, BA b l]), (6, I y), (7, .ptr (hs (W + y)).length 0 3), (43, I H), (44, I y), (50, I W), (51, I x)], hs (W + y) ++ [⟨52, 3, [B false, I y, gw true ((hs (W + y)).length + 1) (bools ((faR W l y).take x))]⟩, go 4 (bools ((faR W l y).take x))]⟩) (fun x => W - x) 0 (by omega) ?_ ?_
      · simp only [↓RP, RG, FX, RQ, ↓reduceIte, Nat.reduceEqDiff, reduceCtorEq, Nat.reduceBEq, Nat.reduceAdd, Nat.reduceLeDiff]
        exact Wk.weak (fun t => .refl _) (.app (hs (W + y)) (.cons _ _ _ _ (.cons (.refl _) (.cons (.refl _) (.cons (.nil _) .nil))) (.nil _ (by simp [go, bools]))))
      intro x hx
      by_cases hlt3 : x < W
      · have hil := idx_lt hlt3 hlt2
        have hWH : W * H ≤ 1000 * 1000 := Nat.mul_le_mul hW hH
        have m1 : (y : Int) * (W : Int) = ((W * y : Nat) : Int) := by rw [Int.natCast_mul, Int.mul_comm]
        have m2 : ((W * y : Nat) : Int) + (x : Int) = ((W * y + x : Nat) : Int) := by omega
        have htk : ((faR W l y).take x).length = x := by rw [List.length_take, faR_len]; omega
        simp (disch := first | assumption | omega | rfl | simp only [RH]) only [↓RP, RG, FX, RQ, ↓reduceIte, Nat.reduceEqDiff, reduceCtorEq, Nat.reduceBEq, Nat.reduceAdd, Nat.reduceLeDiff, m1, m2, Int.toNat_natCast, effY_b, effY_n, effY_f, effY_l, effY_z, effY_D, append_bool]
        refine ⟨x + 1, by omega, Wk.of_eq ?_, by omega⟩
        rw [faR_take hlt3]
        rfl
      · obtain rfl : W = x := by omega
        have htk : (faR W l y).take W = faR W l y := List.take_of_length_le (by rw [faR_len]; omega)
        have hcl := faR_len W l y
        have hp : 0 < (bools (faR W l y)).length := by rw [bools_length]; omega
        simp (disch := first | assumption | omega | rfl | simp only [RH]) only [↓RP, RG, FX, RQ, ↓reduceIte, Nat.reduceEqDiff, reduceCtorEq, Nat.reduceBEq, Nat.reduceAdd, Nat.reduceLeDiff, htk, gw_pos hp, go_pos hp, bools_length, hcl]
        refine awpX_stop ⟨[_, _], _, _, 73, 74, _, _, _, _, rfl, rfl, rfl, rfl, rfl, rfl, rfl, rfl, ?_⟩
        simp (disch := first | assumption | omega | rfl | simp only [RH]) only [↓RP, RG, FX, RQ, ↓reduceIte, Nat.reduceEqDiff, reduceCtorEq, Nat.reduceBEq, Nat.reduceAdd, Nat.reduceLeDiff]
        exact ⟨by rw [hNx, lineA_r _ _ _ hge, hmx, hsub], by rw [hNx, lineO_r _ _ _ hge, hmx, hsub]⟩
end
end Go.Proofs.Ytaelfinlmbkhnaa

/- Chapter 8: the crossings of a thread, of both. -/
set_option linter.unusedSimpArgs false
set_option linter.unusedVariables false
set_option maxRecDepth 100000
namespace Go.Proofs.Ytaelfinlmbkhnaa
open Go Go.Proofs Go.AW

/-- The cell ahead of a thread's cell, around. -/
def pvF (f : List Bool) (i : Nat) : Bool := if i = 0 then f.getD (f.length - 1) false else f.getD (i - 1) false
/-- How often a thread changes sides. -/
def crs (f : List Bool) : Nat → Nat
  | 0 => 0
  | i + 1 => crs f i + if f.getD i false = pvF f i then 0 else 1
theorem crs_le (f : List Bool) : ∀ i, crs f i ≤ i
  | 0 => Nat.le_refl _
  | i + 1 => by have := crs_le f i; unfold crs; split <;> omega
theorem crossP_c (w : Bool) (at' : Int) (b : Bool) {f : List Bool} {n : Nat} (hn : f.length = n) (h0 : 0 < n) (hl : n ≤ 1000000) : Contract Try.prog 21 [.agg [B w, I at', BA b f]] (I (crs f n)) := by
  have hp : ∀ i, pvF f (i + 1) = f.getD i false := fun i => by unfold pvF; rw [if_neg (by omega)]; rfl
  have hp0 : pvF f 0 = f.getD (n - 1) false := by unfold pvF; rw [if_pos rfl, hn]
  refine Contract.intro (effS [] false) 6 follows Try.func21 rfl rfl (by kernel_rfl) (Nat.le_of_ble_eq_true rfl) ?_
  have hs1 : ((n : Int) - 1).toNat = n - 1 := by omega
  simp (disch := first | assumption | omega | rfl | simp only [RH]) only [↓RP, RG, FX, RQ, ↓reduceIte, Nat.reduceEqDiff, reduceCtorEq, Nat.reduceBEq, Nat.reduceAdd, Nat.reduceLeDiff, args0_1, hn, hs1]
  rw [← hp0]
  refine loopK_I [3, 4, 16, 17, 18] (fun i : Nat => i ≤ n) (fun i => ⟨[(3, I (crs f i)), (4, B (pvF f i)), (16, BA b f), (17, I n), (18, I i)], [⟨52, 3, [B w, I at', BA b f]⟩]⟩) (fun i => n - i) 0 (by omega) (by simp only [↓RP, RG, FX, RQ, ↓reduceIte, Nat.reduceEqDiff, reduceCtorEq, Nat.reduceBEq, Nat.reduceAdd, Nat.reduceLeDiff]; rfl) ?_
  intro i hi
  by_cases hlt : i < n
  · have hpi := hp i
    have hcl := crs_le f i
    by_cases hq : f.getD i false = pvF f i
    · have hq2 : (!(f.getD i false == pvF f i)) = false := by simpa using hq
      simp (disch := first | assumption | omega | rfl | simp only [RH]) only [↓RP, RG, FX, RQ, ↓reduceIte, Nat.reduceEqDiff, reduceCtorEq, Nat.reduceBEq, Nat.reduceAdd, Nat.reduceLeDiff, hn, hq2, Int.toNat_natCast]
      exact ⟨i + 1, by omega, by simp only [crs, if_pos hq, hpi, Nat.add_zero]; rfl, by omega⟩
    · have hq2 : (!(f.getD i false == pvF f i)) = true := by simpa using hq
      simp (disch := first | assumption | omega | rfl | simp only [RH]) only [↓RP, RG, FX, RQ, ↓reduceIte, Nat.reduceEqDiff, reduceCtorEq, Nat.reduceBEq, Nat.reduceAdd, Nat.reduceLeDiff, hn, hq2, Int.toNat_natCast]
      exact ⟨i + 1, by omega, by simp only [crs, if_neg hq, hpi]; rfl, by omega⟩
  · obtain rfl : n = i := by omega
    simp (disch := first | assumption | omega | rfl | simp only [RH]) only [↓RP, RG, FX, RQ, ↓reduceIte, Nat.reduceEqDiff, reduceCtorEq, Nat.reduceBEq, Nat.reduceAdd, Nat.reduceLeDiff, hn]
    rw [resVal_1 rfl]; simp (disch := first | assumption | omega | rfl | simp only [RH]) only [↓RP, RG, FX, RQ, ↓reduceIte, Nat.reduceEqDiff, reduceCtorEq, Nat.reduceBEq, Nat.reduceAdd, Nat.reduceLeDiff, RS]
    first | done | rfl
theorem mod_c {i : Int} {n : Nat} (hn : 0 < n) (hn2 : n ≤ 1000000) (h1 : -1000000000 ≤ i) (h2 : i ≤ 1000000000) : Contract Try.prog 34 [I i, I n] (I (i % (n : Int))) := by
  have b1 := Int.tmod_lt_of_pos i (show (0 : Int) < n by omega)
  have b2 : -(n : Int) < i.tmod n := by
    have := Int.tmod_lt_of_pos (-i) (show (0 : Int) < n by omega)
    rw [Int.neg_tmod] at this; omega
  have e1 : aInt .rem .i64 i (n : Int) = some (I (i.tmod n)) := by
    simp only [aInt]; rw [if_neg (by omega)]
  have e2 : aInt .rem .i64 (i.tmod n + n) (n : Int) = some (I ((i.tmod n + n).tmod n)) := by
    simp only [aInt]; rw [if_neg (by omega)]
  have e3 : (i.tmod n + n).tmod n = i % (n : Int) := by
    rw [Int.tmod_eq_emod_of_nonneg (by omega), Int.add_emod_right]
    have h3 := Int.tmod_add_mul_tdiv i n
    have h4 : i.tmod n = i - n * i.tdiv n := by omega
    rw [h4, Int.sub_mul_emod_self_left]
  have b3 := Int.emod_nonneg i (show (n : Int) ≠ 0 by omega)
  have b4 := Int.emod_lt_of_pos i (show (0 : Int) < n by omega)
  rw [← e3]
  generalize i.tmod n = r at *
  generalize (r + n).tmod n = q at *
  refine Contract.intro (effS [] false) 6 follows Try.func34 rfl rfl (by kernel_rfl) (Nat.le_of_ble_eq_true rfl) ?_
  simp (disch := first | assumption | omega | rfl | simp only [RH]) only [↓RP, RG, FX, RQ, ↓reduceIte, Nat.reduceEqDiff, reduceCtorEq, Nat.reduceBEq, Nat.reduceAdd, Nat.reduceLeDiff, args0_2, e1, e2]
  rw [resVal_1 rfl]; simp (disch := first | assumption | omega | rfl | simp only [RH]) only [↓RP, RG, FX, RQ, ↓reduceIte, Nat.reduceEqDiff, reduceCtorEq, Nat.reduceBEq, Nat.reduceAdd, Nat.reduceLeDiff, RS]
  first | done | rfl
section
variable {W H : Nat} (hW0 : 0 < W) (hH0 : 0 < H) (hW : W ≤ 64) (hH : H ≤ 64) (b : Bool) {l : List Bool} (hn : l.length = W * H)
include hW0 hH0 hW hH hn
theorem faceC_c {x : Nat} (hx : x < W) {i : Int} (h1 : -1000000 ≤ i) (h2 : i ≤ 1000000) : Contract Try.prog 30 [GA W H b l, B true, I x, I i] (B ((faC W H l x).getD (i % (H : Int)).toNat false)) := by
  have hm := mod_c (i := i) hH0 (by omega) (by omega) (by omega)
  have b3 := Int.emod_nonneg i (show (H : Int) ≠ 0 by omega)
  have b4 := Int.emod_lt_of_pos i (show (0 : Int) < H by omega)
  obtain ⟨j, hj⟩ : ∃ j : Nat, i % (H : Int) = j := ⟨(i % (H : Int)).toNat, by omega⟩
  rw [hj] at hm b3 b4 ⊢
  have hj2 : j < H := by omega
  have hil := idx_lt hx hj2
  have hWH : W * H ≤ 64 * 64 := Nat.mul_le_mul hW hH
  have m1 : (j : Int) * (W : Int) = ((W * j : Nat) : Int) := by rw [Int.natCast_mul, Int.mul_comm]
  have hat := at_c W H b l x j (by omega) (by omega) (by omega) (by omega) (by omega)
  have hcl : cell W l x j = (faC W H l x).getD j false := by
    unfold cell; rw [idx_nat]; simp [faC, List.getD_eq_getElem?_getD, hj2]
  rw [hcl] at hat
  rw [Int.toNat_natCast]
  refine Contract.intro (effS [] false) 6 follows Try.func30 rfl rfl (by kernel_rfl) (Nat.le_of_ble_eq_true rfl) ?_
  simp (disch := first | assumption | omega | rfl | simp only [RH]) only [↓RP, RG, FX, RQ, ↓reduceIte, Nat.reduceEqDiff, reduceCtorEq, Nat.reduceBEq, Nat.reduceAdd, Nat.reduceLeDiff, args0_4]
  refine callK_F 6 (hm) (by simp (disch := first | assumption | omega | rfl | simp only [RH]) only [↓RP, RG, FX, RQ, ↓reduceIte, Nat.reduceEqDiff, reduceCtorEq, Nat.reduceBEq, Nat.reduceAdd, Nat.reduceLeDiff, RA] <;> rfl) (.inl (by simp [allFresh, ints_fresh, bools_fresh])) ?_
  simp (disch := first | assumption | omega | rfl | simp only [RH]) only [↓RP, RG, FX, RQ, ↓reduceIte, Nat.reduceEqDiff, reduceCtorEq, Nat.reduceBEq, Nat.reduceAdd, Nat.reduceLeDiff]
  refine callK_F 6 (hat) (by simp (disch := first | assumption | omega | rfl | simp only [RH]) only [↓RP, RG, FX, RQ, ↓reduceIte, Nat.reduceEqDiff, reduceCtorEq, Nat.reduceBEq, Nat.reduceAdd, Nat.reduceLeDiff, RA] <;> rfl) (.inl (by simp [allFresh, ints_fresh, bools_fresh])) ?_
  simp (disch := first | assumption | omega | rfl | simp only [RH]) only [↓RP, RG, FX, RQ, ↓reduceIte, Nat.reduceEqDiff, reduceCtorEq, Nat.reduceBEq, Nat.reduceAdd, Nat.reduceLeDiff]
  rw [resVal_1 rfl]; simp (disch := first | assumption | omega | rfl | simp only [RH]) only [↓RP, RG, FX, RQ, ↓reduceIte, Nat.reduceEqDiff, reduceCtorEq, Nat.reduceBEq, Nat.reduceAdd, Nat.reduceLeDiff, RS]
  first | done | rfl
theorem faceR_c {y : Nat} (hy : y < H) {i : Int} (h1 : -1000000 ≤ i) (h2 : i ≤ 1000000) : Contract Try.prog 30 [GA W H b l, B false, I y, I i] (B ((faR W l y).getD (i % (W : Int)).toNat false)) := by
  have hm := mod_c (i := i) hW0 (by omega) (by omega) (by omega)
  have _ := hH0
  have b3 := Int.emod_nonneg i (show (W : Int) ≠ 0 by omega)
  have b4 := Int.emod_lt_of_pos i (show (0 : Int) < W by omega)
  obtain ⟨j, hj⟩ : ∃ j : Nat, i % (W : Int) = j := ⟨(i % (W : Int)).toNat, by omega⟩
  rw [hj] at hm b3 b4 ⊢
  have hj2 : j < W := by omega
  have hil := idx_lt hj2 hy
  have hWH : W * H ≤ 64 * 64 := Nat.mul_le_mul hW hH
  have m1 : (y : Int) * (W : Int) = ((W * y : Nat) : Int) := by rw [Int.natCast_mul, Int.mul_comm]
  have hat := at_c W H b l j y (by omega) (by omega) (by omega) (by omega) (by omega)
  have hcl : (!cell W l j y) = (faR W l y).getD j false := by
    unfold cell; rw [idx_nat]; simp [faR, List.getD_eq_getElem?_getD, hj2]
  rw [Int.toNat_natCast, ← hcl]
  refine Contract.intro (effS [] false) 6 follows Try.func30 rfl rfl (by kernel_rfl) (Nat.le_of_ble_eq_true rfl) ?_
  simp (disch := first | assumption | omega | rfl | simp only [RH]) only [↓RP, RG, FX, RQ, ↓reduceIte, Nat.reduceEqDiff, reduceCtorEq, Nat.reduceBEq, Nat.reduceAdd, Nat.reduceLeDiff, args0_4]
  refine callK_F 6 (hm) (by simp (disch := first | assumption | omega | rfl | simp only [RH]) only [↓RP, RG, FX, RQ, ↓reduceIte, Nat.reduceEqDiff, reduceCtorEq, Nat.reduceBEq, Nat.reduceAdd, Nat.reduceLeDiff, RA] <;> rfl) (.inl (by simp [allFresh, ints_fresh, bools_fresh])) ?_
  simp (disch := first | assumption | omega | rfl | simp only [RH]) only [↓RP, RG, FX, RQ, ↓reduceIte, Nat.reduceEqDiff, reduceCtorEq, Nat.reduceBEq, Nat.reduceAdd, Nat.reduceLeDiff]
  refine callK_F 6 (hat) (by simp (disch := first | assumption | omega | rfl | simp only [RH]) only [↓RP, RG, FX, RQ, ↓reduceIte, Nat.reduceEqDiff, reduceCtorEq, Nat.reduceBEq, Nat.reduceAdd, Nat.reduceLeDiff, RA] <;> rfl) (.inl (by simp [allFresh, ints_fresh, bools_fresh])) ?_
  simp (disch := first | assumption | omega | rfl | simp only [RH]) only [↓RP, RG, FX, RQ, ↓reduceIte, Nat.reduceEqDiff, reduceCtorEq, Nat.reduceBEq, Nat.reduceAdd, Nat.reduceLeDiff]
  rw [resVal_1 rfl]; simp (disch := first | assumption | omega | rfl | simp only [RH]) only [↓RP, RG, FX, RQ, ↓reduceIte, Nat.reduceEqDiff, reduceCtorEq, Nat.reduceBEq, Nat.reduceAdd, Nat.reduceLeDiff, RS]
  first | done | rfl
end
end Go.Proofs.Ytaelfinlmbkhnaa

/- Chapter 8: crossings and counts of both. -/
set_option linter.unusedSimpArgs false
set_option linter.unusedVariables false
set_option maxRecDepth 100000
namespace Go.Proofs.Ytaelfinlmbkhnaa
open Go Go.Proofs Go.AW

theorem pv_mod (f : List Bool) {n i : Nat} (hn : f.length = n) (hi : i < n) : f.getD (((i : Int) - 1) % (n : Int)).toNat false = pvF f i := by
  unfold pvF
  by_cases h : i = 0
  · subst h
    rw [if_pos rfl, hn]
    have : (((0 : Nat) : Int) - 1) % (n : Int) = (n : Int) - 1 := by
      rw [show ((0 : Nat) : Int) - 1 = ((n : Int) - 1) - n by omega, Int.sub_emod_right]
      exact Int.emod_eq_of_lt (by omega) (by omega)
    rw [this, show ((n : Int) - 1).toNat = n - 1 by omega]
  · rw [if_neg h, Int.emod_eq_of_lt (by omega) (by omega), show ((i : Int) - 1).toNat = i - 1 by omega]
theorem at_mod (f : List Bool) {n i : Nat} (hi : i < n) : f.getD ((i : Int) % (n : Int)).toNat false = f.getD i false := by
  rw [Int.emod_eq_of_lt (by omega) (by omega), Int.toNat_natCast]
theorem cellsC_c (w h : Int) (b : Bool) (l : List Bool) : Contract Try.prog 29 [GA w h b l, B true] (I h) := by
  refine Contract.intro (effS [] false) 6 follows Try.func29 rfl rfl (by kernel_rfl) (Nat.le_of_ble_eq_true rfl) ?_
  simp (disch := first | assumption | omega | rfl | simp only [RH]) only [↓RP, RG, FX, RQ, ↓reduceIte, Nat.reduceEqDiff, reduceCtorEq, Nat.reduceBEq, Nat.reduceAdd, Nat.reduceLeDiff, args0_2]
  rw [resVal_1 rfl]; simp (disch := first | assumption | omega | rfl | simp only [RH]) only [↓RP, RG, FX, RQ, ↓reduceIte, Nat.reduceEqDiff, reduceCtorEq, Nat.reduceBEq, Nat.reduceAdd, Nat.reduceLeDiff, RS]
theorem cellsR_c (w h : Int) (b : Bool) (l : List Bool) : Contract Try.prog 29 [GA w h b l, B false] (I w) := by
  refine Contract.intro (effS [] false) 6 follows Try.func29 rfl rfl (by kernel_rfl) (Nat.le_of_ble_eq_true rfl) ?_
  simp (disch := first | assumption | omega | rfl | simp only [RH]) only [↓RP, RG, FX, RQ, ↓reduceIte, Nat.reduceEqDiff, reduceCtorEq, Nat.reduceBEq, Nat.reduceAdd, Nat.reduceLeDiff, args0_2]
  rw [resVal_1 rfl]; simp (disch := first | assumption | omega | rfl | simp only [RH]) only [↓RP, RG, FX, RQ, ↓reduceIte, Nat.reduceEqDiff, reduceCtorEq, Nat.reduceBEq, Nat.reduceAdd, Nat.reduceLeDiff, RS]
theorem crossW_c {W H : Nat} (b : Bool) {l : List Bool} (wp : Bool) (at' : Int) (f : List Bool) {n : Nat} (hn : f.length = n) (hn2 : n ≤ 64) (hc : Contract Try.prog 29 [GA W H b l, B wp] (I n)) (hf : ∀ i : Int, -1000000 ≤ i → i ≤ 1000000 → Contract Try.prog 30 [GA W H b l, B wp, I at', I i] (B (f.getD (i % (n : Int)).toNat false))) :
    Contract Try.prog 23 [GA W H b l, B wp, I at'] (I (crs f n)) := by
  refine Contract.intro (effS [] false) 6 follows Try.func23 rfl rfl (by kernel_rfl) (Nat.le_of_ble_eq_true rfl) ?_
  simp (disch := first | assumption | omega | rfl | simp only [RH]) only [↓RP, RG, FX, RQ, ↓reduceIte, Nat.reduceEqDiff, reduceCtorEq, Nat.reduceBEq, Nat.reduceAdd, Nat.reduceLeDiff, args0_3]
  refine loopK_I [1, 2, 3, 7, 8] (fun i : Nat => i ≤ n) (fun i => ⟨[(1, B wp), (2, I at'), (3, .ptr 0 0 3), (7, I (crs f i)), (8, I i)], [⟨24, 3, [I W, I H, BA b l]⟩]⟩) (fun i => n - i) 0 (by omega) (by simp only [↓RP, RG, FX, RQ, ↓reduceIte, Nat.reduceEqDiff, reduceCtorEq, Nat.reduceBEq, Nat.reduceAdd, Nat.reduceLeDiff]; rfl) ?_
  intro i hi
  by_cases hlt : i < n
  · have f1 := hf i (by omega) (by omega)
    have f2 := hf ((i : Int) - 1) (by omega) (by omega)
    rw [at_mod f hlt] at f1
    rw [pv_mod f hn hlt] at f2
    have hcl := crs_le f i
    simp (disch := first | assumption | omega | rfl | simp only [RH]) only [↓RP, RG, FX, RQ, ↓reduceIte, Nat.reduceEqDiff, reduceCtorEq, Nat.reduceBEq, Nat.reduceAdd, Nat.reduceLeDiff]
    refine callK_F 6 (hc) (by simp (disch := first | assumption | omega | rfl | simp only [RH]) only [↓RP, RG, FX, RQ, ↓reduceIte, Nat.reduceEqDiff, reduceCtorEq, Nat.reduceBEq, Nat.reduceAdd, Nat.reduceLeDiff, RA] <;> rfl) (.inl (by simp [allFresh, ints_fresh, bools_fresh])) ?_
    simp (disch := first | assumption | omega | rfl | simp only [RH]) only [↓RP, RG, FX, RQ, ↓reduceIte, Nat.reduceEqDiff, reduceCtorEq, Nat.reduceBEq, Nat.reduceAdd, Nat.reduceLeDiff]
    refine callK_F 6 (f1) (by simp (disch := first | assumption | omega | rfl | simp only [RH]) only [↓RP, RG, FX, RQ, ↓reduceIte, Nat.reduceEqDiff, reduceCtorEq, Nat.reduceBEq, Nat.reduceAdd, Nat.reduceLeDiff, RA] <;> rfl) (.inl (by simp [allFresh, ints_fresh, bools_fresh])) ?_
    simp (disch := first | assumption | omega | rfl | simp only [RH]) only [↓RP, RG, FX, RQ, ↓reduceIte, Nat.reduceEqDiff, reduceCtorEq, Nat.reduceBEq, Nat.reduceAdd, Nat.reduceLeDiff]
    refine callK_F 6 (f2) (by simp (disch := first | assumption | omega | rfl | simp only [RH]) only [↓RP, RG, FX, RQ, ↓reduceIte, Nat.reduceEqDiff, reduceCtorEq, Nat.reduceBEq, Nat.reduceAdd, Nat.reduceLeDiff, RA] <;> rfl) (.inl (by simp [allFresh, ints_fresh, bools_fresh])) ?_
    by_cases hq : f.getD i false = pvF f i
    · have hq2 : (!(f.getD i false == pvF f i)) = false := by simpa using hq
      simp (disch := first | assumption | omega | rfl | simp only [RH]) only [↓RP, RG, FX, RQ, ↓reduceIte, Nat.reduceEqDiff, reduceCtorEq, Nat.reduceBEq, Nat.reduceAdd, Nat.reduceLeDiff, hq2]
      exact ⟨i + 1, by omega, by simp only [crs, if_pos hq, Nat.add_zero]; rfl, by omega⟩
    · have hq2 : (!(f.getD i false == pvF f i)) = true := by simpa using hq
      simp (disch := first | assumption | omega | rfl | simp only [RH]) only [↓RP, RG, FX, RQ, ↓reduceIte, Nat.reduceEqDiff, reduceCtorEq, Nat.reduceBEq, Nat.reduceAdd, Nat.reduceLeDiff, hq2]
      exact ⟨i + 1, by omega, by simp only [crs, if_neg hq]; rfl, by omega⟩
  · obtain rfl : n = i := by omega
    simp (disch := first | assumption | omega | rfl | simp only [RH]) only [↓RP, RG, FX, RQ, ↓reduceIte, Nat.reduceEqDiff, reduceCtorEq, Nat.reduceBEq, Nat.reduceAdd, Nat.reduceLeDiff]
    refine callK_F 6 (hc) (by simp (disch := first | assumption | omega | rfl | simp only [RH]) only [↓RP, RG, FX, RQ, ↓reduceIte, Nat.reduceEqDiff, reduceCtorEq, Nat.reduceBEq, Nat.reduceAdd, Nat.reduceLeDiff, RA] <;> rfl) (.inl (by simp [allFresh, ints_fresh, bools_fresh])) ?_
    simp (disch := first | assumption | omega | rfl | simp only [RH]) only [↓RP, RG, FX, RQ, ↓reduceIte, Nat.reduceEqDiff, reduceCtorEq, Nat.reduceBEq, Nat.reduceAdd, Nat.reduceLeDiff]
    rw [resVal_1 rfl]; simp (disch := first | assumption | omega | rfl | simp only [RH]) only [↓RP, RG, FX, RQ, ↓reduceIte, Nat.reduceEqDiff, reduceCtorEq, Nat.reduceBEq, Nat.reduceAdd, Nat.reduceLeDiff, RS]
    first | done | rfl
section
variable {W H : Nat} (hW0 : 0 < W) (hH0 : 0 < H) (hW : W ≤ 64) (hH : H ≤ 64) (b : Bool) {l : List Bool} (hn : l.length = W * H)
include hW0 hH0 hW hH hn
theorem crossRC_c {x : Nat} (hx : x < W) : Contract Try.prog 23 [GA W H b l, B true, I x] (I (crs (faC W H l x) H)) :=
  crossW_c b true x (faC W H l x) (faC_len W H l x) hH (cellsC_c W H b l) fun i h1 h2 => faceC_c hW0 hH0 hW hH b hn hx h1 h2
theorem crossRR_c {y : Nat} (hy : y < H) : Contract Try.prog 23 [GA W H b l, B false, I y] (I (crs (faR W l y) W)) :=
  crossW_c b false y (faR W l y) (faR_len W l y) hW (cellsR_c W H b l) fun i h1 h2 => faceR_c hW0 hH0 hW hH b hn hy h1 h2
end
def ctC (W H : Nat) (l : List Bool) : Nat → Nat
  | 0 => 0
  | x + 1 => ctC W H l x + crs (faC W H l x) H
def ctR (W : Nat) (l : List Bool) : Nat → Nat
  | 0 => 0
  | y + 1 => ctR W l y + crs (faR W l y) W
theorem ctC_le (W H : Nat) (l : List Bool) : ∀ x, ctC W H l x ≤ x * H
  | 0 => by simp [ctC]
  | x + 1 => by have := ctC_le W H l x; have := crs_le (faC W H l x) H; unfold ctC; rw [Nat.succ_mul]; omega
theorem ctR_le (W : Nat) (l : List Bool) : ∀ y, ctR W l y ≤ y * W
  | 0 => by simp [ctR]
  | y + 1 => by have := ctR_le W l y; have := crs_le (faR W l y) W; unfold ctR; rw [Nat.succ_mul]; omega
theorem countR_bad (w h : Int) (b : Bool) (l : List Bool) (hz : gchk w h l.length ≠ 0) : Contract Try.prog 10 [GA w h b l] (.tuple [I 0, I 0, I (gchk w h l.length)]) := by
  refine Contract.intro (effS [] false) 6 follows Try.func10 rfl rfl (by kernel_rfl) (Nat.le_of_ble_eq_true rfl) ?_
  simp (disch := first | assumption | omega | rfl | simp only [RH]) only [↓RP, RG, FX, RQ, ↓reduceIte, Nat.reduceEqDiff, reduceCtorEq, Nat.reduceBEq, Nat.reduceAdd, Nat.reduceLeDiff, args0_1]
  refine callK_F 6 (gcheckR_c w h b l) (by simp (disch := first | assumption | omega | rfl | simp only [RH]) only [↓RP, RG, FX, RQ, ↓reduceIte, Nat.reduceEqDiff, reduceCtorEq, Nat.reduceBEq, Nat.reduceAdd, Nat.reduceLeDiff, RA] <;> rfl) (.inl (by simp [allFresh, ints_fresh, bools_fresh])) ?_
  simp (disch := first | assumption | omega | rfl | simp only [RH]) only [↓RP, RG, FX, RQ, ↓reduceIte, Nat.reduceEqDiff, reduceCtorEq, Nat.reduceBEq, Nat.reduceAdd, Nat.reduceLeDiff]
  refine callK_F 6 (gcheckR_c w h b l) (by simp (disch := first | assumption | omega | rfl | simp only [RH]) only [↓RP, RG, FX, RQ, ↓reduceIte, Nat.reduceEqDiff, reduceCtorEq, Nat.reduceBEq, Nat.reduceAdd, Nat.reduceLeDiff, RA] <;> rfl) (.inl (by simp [allFresh, ints_fresh, bools_fresh])) ?_
  simp (disch := first | assumption | omega | rfl | simp only [RH]) only [↓RP, RG, FX, RQ, ↓reduceIte, Nat.reduceEqDiff, reduceCtorEq, Nat.reduceBEq, Nat.reduceAdd, Nat.reduceLeDiff]
  rw [resVal_3 rfl]; simp (disch := first | assumption | omega | rfl | simp only [RH]) only [↓RP, RG, FX, RQ, ↓reduceIte, Nat.reduceEqDiff, reduceCtorEq, Nat.reduceBEq, Nat.reduceAdd, Nat.reduceLeDiff, RS]
theorem countR_c {W H : Nat} (hW0 : 0 < W) (hH0 : 0 < H) (hW : W ≤ 64) (hH : H ≤ 64) (b : Bool) {l : List Bool} (hn : l.length = W * H) : Contract Try.prog 10 [GA W H b l] (.tuple [I (ctC W H l W), I (ctR W l H), I 0]) := by
  have hz : gchk W H l.length = 0 := gchk_ok ⟨by omega, by omega, by omega, by omega, by rw [hn, Int.natCast_mul]⟩
  have hck := gcheckR_c W H b l
  rw [hz] at hck
  have hWH : W * H ≤ 64 * 64 := Nat.mul_le_mul hW hH
  refine Contract.intro (effS [] false) 6 follows Try.func10 rfl rfl (by kernel_rfl) (Nat.le_of_ble_eq_true rfl) ?_
  simp (disch := first | assumption | omega | rfl | simp only [RH]) only [↓RP, RG, FX, RQ, ↓reduceIte, Nat.reduceEqDiff, reduceCtorEq, Nat.reduceBEq, Nat.reduceAdd, Nat.reduceLeDiff, args0_1]
  refine callK_F 6 (hck) (by simp (disch := first | assumption | omega | rfl | simp only [RH]) only [↓RP, RG, FX, RQ, ↓reduceIte, Nat.reduceEqDiff, reduceCtorEq, Nat.reduceBEq, Nat.reduceAdd, Nat.reduceLeDiff, RA] <;> rfl) (.inl (by simp [allFresh, ints_fresh, bools_fresh])) ?_
  simp (disch := first | assumption | omega | rfl | simp only [RH]) only [↓RP, RG, FX, RQ, ↓reduceIte, Nat.reduceEqDiff, reduceCtorEq, Nat.reduceBEq, Nat.reduceAdd, Nat.reduceLeDiff]
  refine loopK_I [1, 5, 6, 7] (fun x : Nat => x ≤ W) (fun x => ⟨[(1, .ptr 0 0 3), (5, I (ctC W H l x)), (6, I 0), (7, I x)], [⟨24, 3, [I W, I H, BA b l]⟩]⟩) (fun x => W - x) 0 (by omega) (by simp only [↓RP, RG, FX, RQ, ↓reduceIte, Nat.reduceEqDiff, reduceCtorEq, Nat.reduceBEq, Nat.reduceAdd, Nat.reduceLeDiff]; rfl) ?_
  intro x hx
  by_cases hlt : x < W
  · have hc := crossRC_c hW0 hH0 hW hH b hn hlt
    have h1 := ctC_le W H l x
    have h2 := crs_le (faC W H l x) H
    have h3 : x * H ≤ 64 * 64 := Nat.mul_le_mul (by omega) hH
    simp (disch := first | assumption | omega | rfl | simp only [RH]) only [↓RP, RG, FX, RQ, ↓reduceIte, Nat.reduceEqDiff, reduceCtorEq, Nat.reduceBEq, Nat.reduceAdd, Nat.reduceLeDiff]
    refine callK_F 6 (hc) (by simp (disch := first | assumption | omega | rfl | simp only [RH]) only [↓RP, RG, FX, RQ, ↓reduceIte, Nat.reduceEqDiff, reduceCtorEq, Nat.reduceBEq, Nat.reduceAdd, Nat.reduceLeDiff, RA] <;> rfl) (.inl (by simp [allFresh, ints_fresh, bools_fresh])) ?_
    simp (disch := first | assumption | omega | rfl | simp only [RH]) only [↓RP, RG, FX, RQ, ↓reduceIte, Nat.reduceEqDiff, reduceCtorEq, Nat.reduceBEq, Nat.reduceAdd, Nat.reduceLeDiff]
    exact ⟨x + 1, by omega, by simp only [ctC]; rfl, by omega⟩
  · obtain rfl : W = x := by omega
    simp (disch := first | assumption | omega | rfl | simp only [RH]) only [↓RP, RG, FX, RQ, ↓reduceIte, Nat.reduceEqDiff, reduceCtorEq, Nat.reduceBEq, Nat.reduceAdd, Nat.reduceLeDiff]
    refine loopK_I [1, 5, 6, 8] (fun y : Nat => y ≤ H) (fun y => ⟨[(1, .ptr 0 0 3), (5, I (ctC W H l W)), (6, I (ctR W l y)), (8, I y)], [⟨24, 3, [I W, I H, BA b l]⟩]⟩) (fun y => H - y) 0 (by omega) (by simp only [↓RP, RG, FX, RQ, ↓reduceIte, Nat.reduceEqDiff, reduceCtorEq, Nat.reduceBEq, Nat.reduceAdd, Nat.reduceLeDiff]; rfl) ?_
    intro y hy
    by_cases hlt2 : y < H
    · have hc := crossRR_c hW0 hH0 hW hH b hn hlt2
      have h1 := ctR_le W l y
      have h2 := crs_le (faR W l y) W
      have h3 : y * W ≤ 64 * 64 := Nat.mul_le_mul (by omega) hW
      simp (disch := first | assumption | omega | rfl | simp only [RH]) only [↓RP, RG, FX, RQ, ↓reduceIte, Nat.reduceEqDiff, reduceCtorEq, Nat.reduceBEq, Nat.reduceAdd, Nat.reduceLeDiff]
      refine callK_F 6 (hc) (by simp (disch := first | assumption | omega | rfl | simp only [RH]) only [↓RP, RG, FX, RQ, ↓reduceIte, Nat.reduceEqDiff, reduceCtorEq, Nat.reduceBEq, Nat.reduceAdd, Nat.reduceLeDiff, RA] <;> rfl) (.inl (by simp [allFresh, ints_fresh, bools_fresh])) ?_
      simp (disch := first | assumption | omega | rfl | simp only [RH]) only [↓RP, RG, FX, RQ, ↓reduceIte, Nat.reduceEqDiff, reduceCtorEq, Nat.reduceBEq, Nat.reduceAdd, Nat.reduceLeDiff]
      exact ⟨y + 1, by omega, by simp only [ctR]; rfl, by omega⟩
    · obtain rfl : H = y := by omega
      simp (disch := first | assumption | omega | rfl | simp only [RH]) only [↓RP, RG, FX, RQ, ↓reduceIte, Nat.reduceEqDiff, reduceCtorEq, Nat.reduceBEq, Nat.reduceAdd, Nat.reduceLeDiff]
      rw [resVal_3 rfl]; simp (disch := first | assumption | omega | rfl | simp only [RH]) only [↓RP, RG, FX, RQ, ↓reduceIte, Nat.reduceEqDiff, reduceCtorEq, Nat.reduceBEq, Nat.reduceAdd, Nat.reduceLeDiff, RS]
      first | done | rfl
/-- Is it a thread? -/
def thr (W H : Nat) (wp : Bool) (a : Int) : Prop := 0 ≤ a ∧ a < if wp then (W : Int) else H
theorem crossgR_bad (w h : Int) (b : Bool) (l : List Bool) (wp : Bool) (a : Int) (hz : gchk w h l.length ≠ 0) : Contract Try.prog 8 [GA w h b l, B wp, I a] (.tuple [I 0, I (gchk w h l.length)]) := by
  refine Contract.intro (effS [] false) 6 follows Try.func8 rfl rfl (by kernel_rfl) (Nat.le_of_ble_eq_true rfl) ?_
  simp (disch := first | assumption | omega | rfl | simp only [RH]) only [↓RP, RG, FX, RQ, ↓reduceIte, Nat.reduceEqDiff, reduceCtorEq, Nat.reduceBEq, Nat.reduceAdd, Nat.reduceLeDiff, args0_3]
  refine callK_F 6 (gcheckR_c w h b l) (by simp (disch := first | assumption | omega | rfl | simp only [RH]) only [↓RP, RG, FX, RQ, ↓reduceIte, Nat.reduceEqDiff, reduceCtorEq, Nat.reduceBEq, Nat.reduceAdd, Nat.reduceLeDiff, RA] <;> rfl) (.inl (by simp [allFresh, ints_fresh, bools_fresh])) ?_
  simp (disch := first | assumption | omega | rfl | simp only [RH]) only [↓RP, RG, FX, RQ, ↓reduceIte, Nat.reduceEqDiff, reduceCtorEq, Nat.reduceBEq, Nat.reduceAdd, Nat.reduceLeDiff]
  refine callK_F 6 (gcheckR_c w h b l) (by simp (disch := first | assumption | omega | rfl | simp only [RH]) only [↓RP, RG, FX, RQ, ↓reduceIte, Nat.reduceEqDiff, reduceCtorEq, Nat.reduceBEq, Nat.reduceAdd, Nat.reduceLeDiff, RA] <;> rfl) (.inl (by simp [allFresh, ints_fresh, bools_fresh])) ?_
  simp (disch := first | assumption | omega | rfl | simp only [RH]) only [↓RP, RG, FX, RQ, ↓reduceIte, Nat.reduceEqDiff, reduceCtorEq, Nat.reduceBEq, Nat.reduceAdd, Nat.reduceLeDiff]
  rw [resVal_2 rfl]; simp (disch := first | assumption | omega | rfl | simp only [RH]) only [↓RP, RG, FX, RQ, ↓reduceIte, Nat.reduceEqDiff, reduceCtorEq, Nat.reduceBEq, Nat.reduceAdd, Nat.reduceLeDiff, RS]
section
variable {W H : Nat} (hW0 : 0 < W) (hH0 : 0 < H) (hW : W ≤ 64) (hH : H ≤ 64) (b : Bool) {l : List Bool} (hn : l.length = W * H)
include hW0 hH0 hW hH hn
theorem crossgR_no (wp : Bool) {a : Int} (ha : ¬ thr W H wp a) : Contract Try.prog 8 [GA W H b l, B wp, I a] (.tuple [I 0, I 2]) := by
  have hz : gchk W H l.length = 0 := gchk_ok ⟨by omega, by omega, by omega, by omega, by rw [hn, Int.natCast_mul]⟩
  have hck := gcheckR_c W H b l
  rw [hz] at hck
  by_cases h0 : a < 0
  · refine Contract.intro (effS [] false) 6 follows Try.func8 rfl rfl (by kernel_rfl) (Nat.le_of_ble_eq_true rfl) ?_
    simp (disch := first | assumption | omega | rfl | simp only [RH]) only [↓RP, RG, FX, RQ, ↓reduceIte, Nat.reduceEqDiff, reduceCtorEq, Nat.reduceBEq, Nat.reduceAdd, Nat.reduceLeDiff, args0_3]
    refine callK_F 6 (hck) (by simp (disch := first | assumption | omega | rfl | simp only [RH]) only [↓RP, RG, FX, RQ, ↓reduceIte, Nat.reduceEqDiff, reduceCtorEq, Nat.reduceBEq, Nat.reduceAdd, Nat.reduceLeDiff, RA] <;> rfl) (.inl (by simp [allFresh, ints_fresh, bools_fresh])) ?_
    simp (disch := first | assumption | omega | rfl | simp only [RH]) only [↓RP, RG, FX, RQ, ↓reduceIte, Nat.reduceEqDiff, reduceCtorEq, Nat.reduceBEq, Nat.reduceAdd, Nat.reduceLeDiff]
    rw [resVal_2 rfl]; simp (disch := first | assumption | omega | rfl | simp only [RH]) only [↓RP, RG, FX, RQ, ↓reduceIte, Nat.reduceEqDiff, reduceCtorEq, Nat.reduceBEq, Nat.reduceAdd, Nat.reduceLeDiff, RS]
  · cases wp with
    | true =>
      have h1 : (W : Int) ≤ a := by unfold thr at ha; rw [if_pos rfl] at ha; omega
      refine Contract.intro (effS [] false) 6 follows Try.func8 rfl rfl (by kernel_rfl) (Nat.le_of_ble_eq_true rfl) ?_
      simp (disch := first | assumption | omega | rfl | simp only [RH]) only [↓RP, RG, FX, RQ, ↓reduceIte, Nat.reduceEqDiff, reduceCtorEq, Nat.reduceBEq, Nat.reduceAdd, Nat.reduceLeDiff, args0_3]
      refine callK_F 6 (hck) (by simp (disch := first | assumption | omega | rfl | simp only [RH]) only [↓RP, RG, FX, RQ, ↓reduceIte, Nat.reduceEqDiff, reduceCtorEq, Nat.reduceBEq, Nat.reduceAdd, Nat.reduceLeDiff, RA] <;> rfl) (.inl (by simp [allFresh, ints_fresh, bools_fresh])) ?_
      simp (disch := first | assumption | omega | rfl | simp only [RH]) only [↓RP, RG, FX, RQ, ↓reduceIte, Nat.reduceEqDiff, reduceCtorEq, Nat.reduceBEq, Nat.reduceAdd, Nat.reduceLeDiff]
      rw [resVal_2 rfl]; simp (disch := first | assumption | omega | rfl | simp only [RH]) only [↓RP, RG, FX, RQ, ↓reduceIte, Nat.reduceEqDiff, reduceCtorEq, Nat.reduceBEq, Nat.reduceAdd, Nat.reduceLeDiff, RS]
    | false =>
      have h1 : (H : Int) ≤ a := by unfold thr at ha; rw [if_neg (by simp)] at ha; omega
      refine Contract.intro (effS [] false) 6 follows Try.func8 rfl rfl (by kernel_rfl) (Nat.le_of_ble_eq_true rfl) ?_
      simp (disch := first | assumption | omega | rfl | simp only [RH]) only [↓RP, RG, FX, RQ, ↓reduceIte, Nat.reduceEqDiff, reduceCtorEq, Nat.reduceBEq, Nat.reduceAdd, Nat.reduceLeDiff, args0_3]
      refine callK_F 6 (hck) (by simp (disch := first | assumption | omega | rfl | simp only [RH]) only [↓RP, RG, FX, RQ, ↓reduceIte, Nat.reduceEqDiff, reduceCtorEq, Nat.reduceBEq, Nat.reduceAdd, Nat.reduceLeDiff, RA] <;> rfl) (.inl (by simp [allFresh, ints_fresh, bools_fresh])) ?_
      simp (disch := first | assumption | omega | rfl | simp only [RH]) only [↓RP, RG, FX, RQ, ↓reduceIte, Nat.reduceEqDiff, reduceCtorEq, Nat.reduceBEq, Nat.reduceAdd, Nat.reduceLeDiff]
      rw [resVal_2 rfl]; simp (disch := first | assumption | omega | rfl | simp only [RH]) only [↓RP, RG, FX, RQ, ↓reduceIte, Nat.reduceEqDiff, reduceCtorEq, Nat.reduceBEq, Nat.reduceAdd, Nat.reduceLeDiff, RS]
theorem crossgR_c {x : Nat} (hx : x < W) : Contract Try.prog 8 [GA W H b l, B true, I x] (.tuple [I (crs (faC W H l x) H), I 0]) := by
  have hz : gchk W H l.length = 0 := gchk_ok ⟨by omega, by omega, by omega, by omega, by rw [hn, Int.natCast_mul]⟩
  have hck := gcheckR_c W H b l
  rw [hz] at hck
  have hc := crossRC_c hW0 hH0 hW hH b hn hx
  refine Contract.intro (effS [] false) 6 follows Try.func8 rfl rfl (by kernel_rfl) (Nat.le_of_ble_eq_true rfl) ?_
  simp (disch := first | assumption | omega | rfl | simp only [RH]) only [↓RP, RG, FX, RQ, ↓reduceIte, Nat.reduceEqDiff, reduceCtorEq, Nat.reduceBEq, Nat.reduceAdd, Nat.reduceLeDiff, args0_3]
  refine callK_F 6 (hck) (by simp (disch := first | assumption | omega | rfl | simp only [RH]) only [↓RP, RG, FX, RQ, ↓reduceIte, Nat.reduceEqDiff, reduceCtorEq, Nat.reduceBEq, Nat.reduceAdd, Nat.reduceLeDiff, RA] <;> rfl) (.inl (by simp [allFresh, ints_fresh, bools_fresh])) ?_
  simp (disch := first | assumption | omega | rfl | simp only [RH]) only [↓RP, RG, FX, RQ, ↓reduceIte, Nat.reduceEqDiff, reduceCtorEq, Nat.reduceBEq, Nat.reduceAdd, Nat.reduceLeDiff]
  refine callK_F 6 (hc) (by simp (disch := first | assumption | omega | rfl | simp only [RH]) only [↓RP, RG, FX, RQ, ↓reduceIte, Nat.reduceEqDiff, reduceCtorEq, Nat.reduceBEq, Nat.reduceAdd, Nat.reduceLeDiff, RA] <;> rfl) (.inl (by simp [allFresh, ints_fresh, bools_fresh])) ?_
  simp (disch := first | assumption | omega | rfl | simp only [RH]) only [↓RP, RG, FX, RQ, ↓reduceIte, Nat.reduceEqDiff, reduceCtorEq, Nat.reduceBEq, Nat.reduceAdd, Nat.reduceLeDiff]
  rw [resVal_2 rfl]; simp (disch := first | assumption | omega | rfl | simp only [RH]) only [↓RP, RG, FX, RQ, ↓reduceIte, Nat.reduceEqDiff, reduceCtorEq, Nat.reduceBEq, Nat.reduceAdd, Nat.reduceLeDiff, RS]
  first | done | rfl
theorem crossgR_r {y : Nat} (hy : y < H) : Contract Try.prog 8 [GA W H b l, B false, I y] (.tuple [I (crs (faR W l y) W), I 0]) := by
  have hz : gchk W H l.length = 0 := gchk_ok ⟨by omega, by omega, by omega, by omega, by rw [hn, Int.natCast_mul]⟩
  have hck := gcheckR_c W H b l
  rw [hz] at hck
  have hc := crossRR_c hW0 hH0 hW hH b hn hy
  refine Contract.intro (effS [] false) 6 follows Try.func8 rfl rfl (by kernel_rfl) (Nat.le_of_ble_eq_true rfl) ?_
  simp (disch := first | assumption | omega | rfl | simp only [RH]) only [↓RP, RG, FX, RQ, ↓reduceIte, Nat.reduceEqDiff, reduceCtorEq, Nat.reduceBEq, Nat.reduceAdd, Nat.reduceLeDiff, args0_3]
  refine callK_F 6 (hck) (by simp (disch := first | assumption | omega | rfl | simp only [RH]) only [↓RP, RG, FX, RQ, ↓reduceIte, Nat.reduceEqDiff, reduceCtorEq, Nat.reduceBEq, Nat.reduceAdd, Nat.reduceLeDiff, RA] <;> rfl) (.inl (by simp [allFresh, ints_fresh, bools_fresh])) ?_
  simp (disch := first | assumption | omega | rfl | simp only [RH]) only [↓RP, RG, FX, RQ, ↓reduceIte, Nat.reduceEqDiff, reduceCtorEq, Nat.reduceBEq, Nat.reduceAdd, Nat.reduceLeDiff]
  refine callK_F 6 (hc) (by simp (disch := first | assumption | omega | rfl | simp only [RH]) only [↓RP, RG, FX, RQ, ↓reduceIte, Nat.reduceEqDiff, reduceCtorEq, Nat.reduceBEq, Nat.reduceAdd, Nat.reduceLeDiff, RA] <;> rfl) (.inl (by simp [allFresh, ints_fresh, bools_fresh])) ?_
  simp (disch := first | assumption | omega | rfl | simp only [RH]) only [↓RP, RG, FX, RQ, ↓reduceIte, Nat.reduceEqDiff, reduceCtorEq, Nat.reduceBEq, Nat.reduceAdd, Nat.reduceLeDiff]
  rw [resVal_2 rfl]; simp (disch := first | assumption | omega | rfl | simp only [RH]) only [↓RP, RG, FX, RQ, ↓reduceIte, Nat.reduceEqDiff, reduceCtorEq, Nat.reduceBEq, Nat.reduceAdd, Nat.reduceLeDiff, RS]
  first | done | rfl
end
end Go.Proofs.Ytaelfinlmbkhnaa

/- Chapter 8: float.Count, float.Crossings. -/
set_option linter.unusedSimpArgs false
set_option linter.unusedVariables false
set_option maxRecDepth 100000
namespace Go.Proofs.Ytaelfinlmbkhnaa
open Go Go.Proofs Go.AW

theorem countP_bad (w h : Int) (b : Bool) (l : List Bool) (hz : gchk w h l.length ≠ 0) : Contract Try.prog 9 [GA w h b l] (.tuple [I 0, I 0, I (gchk w h l.length)]) := by
  refine Contract.intro (effS [] false [] [] [] (fun _ => true) [25, 26]) 6 follows Try.func9 rfl rfl (by kernel_rfl) (Nat.le_of_ble_eq_true rfl) ?_
  simp (disch := first | assumption | omega | rfl | simp only [RH]) only [↓RP, RG, FX, RQ, ↓reduceIte, Nat.reduceEqDiff, reduceCtorEq, Nat.reduceBEq, Nat.reduceAdd, Nat.reduceLeDiff, args0_1]
  refine callK_F 6 (gcheckP_c w h b l) (by simp (disch := first | assumption | omega | rfl | simp only [RH]) only [↓RP, RG, FX, RQ, ↓reduceIte, Nat.reduceEqDiff, reduceCtorEq, Nat.reduceBEq, Nat.reduceAdd, Nat.reduceLeDiff, RA] <;> rfl) (.inl (by simp [allFresh, ints_fresh, bools_fresh])) ?_
  simp (disch := first | assumption | omega | rfl | simp only [RH]) only [↓RP, RG, FX, RQ, ↓reduceIte, Nat.reduceEqDiff, reduceCtorEq, Nat.reduceBEq, Nat.reduceAdd, Nat.reduceLeDiff]
  rw [resVal_3 rfl]; simp (disch := first | assumption | omega | rfl | simp only [RH]) only [↓RP, RG, FX, RQ, ↓reduceIte, Nat.reduceEqDiff, reduceCtorEq, Nat.reduceBEq, Nat.reduceAdd, Nat.reduceLeDiff, RS]
section
variable {W H : Nat} (hW0 : 0 < W) (hH0 : 0 < H) (hW : W ≤ 64) (hH : H ≤ 64) (b : Bool) {l : List Bool} (hn : l.length = W * H)
include hW0 hH0 hW hH hn
theorem countP_c : Contract Try.prog 9 [GA W H b l] (.tuple [I (ctC W H l W), I (ctR W l H), I 0]) := by
  have hz : gchk W H l.length = 0 := gchk_ok ⟨by omega, by omega, by omega, by omega, by rw [hn, Int.natCast_mul]⟩
  have hck := gcheckP_c W H b l
  rw [hz] at hck
  have hWH : W * H ≤ 64 * 64 := Nat.mul_le_mul hW hH
  refine Contract.intro (effS [] false [] [] [] (fun _ => true) [25, 26]) 6 follows Try.func9 rfl rfl (by kernel_rfl) (Nat.le_of_ble_eq_true rfl) ?_
  simp (disch := first | assumption | omega | rfl | simp only [RH]) only [↓RP, RG, FX, RQ, ↓reduceIte, Nat.reduceEqDiff, reduceCtorEq, Nat.reduceBEq, Nat.reduceAdd, Nat.reduceLeDiff, args0_1]
  refine callK_F 6 (hck) (by simp (disch := first | assumption | omega | rfl | simp only [RH]) only [↓RP, RG, FX, RQ, ↓reduceIte, Nat.reduceEqDiff, reduceCtorEq, Nat.reduceBEq, Nat.reduceAdd, Nat.reduceLeDiff, RA] <;> rfl) (.inl (by simp [allFresh, ints_fresh, bools_fresh])) ?_
  simp (disch := first | assumption | omega | rfl | simp only [RH]) only [↓RP, RG, FX, RQ, ↓reduceIte, Nat.reduceEqDiff, reduceCtorEq, Nat.reduceBEq, Nat.reduceAdd, Nat.reduceLeDiff]
  refine callK_F 6 (lines_c W H b l) (by simp (disch := first | assumption | omega | rfl | simp only [RH]) only [↓RP, RG, FX, RQ, ↓reduceIte, Nat.reduceEqDiff, reduceCtorEq, Nat.reduceBEq, Nat.reduceAdd, Nat.reduceLeDiff, RA] <;> rfl) (.inr (by simp [noRef, bools_noRef])) ?_
  simp (disch := first | assumption | omega | rfl | simp only [RH]) only [↓RP, RG, FX, RQ, ↓reduceIte, Nat.reduceEqDiff, reduceCtorEq, Nat.reduceBEq, Nat.reduceAdd, Nat.reduceLeDiff]
  refine rangeK_O (s := ⟨[(1, .ptr 0 0 3), (2, .ptr 1 0 1), (3, .ptr 2 0 1), (13, .func (.func 28) [] [.spot true [I W, I H, BA b l]])], [⟨24, 3, [I W, I H, BA b l]⟩, ⟨3, 1, [I 0]⟩, ⟨3, 1, [I 0]⟩]⟩) [1, 2, 3, 13] (W + H) (fun k => [⟨24, 3, [I W, I H, BA b l]⟩, ⟨3, 1, [I (ctC W H l (min k W))]⟩, ⟨3, 1, [I (ctR W l (k - W))]⟩]) (lineO 3 W H l) (fun k => [⟨52, 3, [B (decide (k < W)), I (if k < W then k else k - W : Nat), .ref 4 0 (if k < W then H else W) (if k < W then H else W)]⟩]) (lineA 3 W H l) (Wk.of_eq (by simp only [↓RP, RG, FX, RQ, ↓reduceIte, Nat.reduceEqDiff, reduceCtorEq, Nat.reduceBEq, Nat.reduceAdd, Nat.reduceLeDiff])) ?_ rfl (linesF_y hW0 hH0 (by omega) (by omega) true b hn 3 _ _ (fun k _ => ⟨rfl, by simp [ren, map_ren_bools]⟩)) ?_ ?_
  · simp [ctC, ctR]
  · intro i hi
    by_cases hlt : i < W
    · rw [lineA_c _ _ _ hlt, lineO_c _ _ _ hlt]
      simp (disch := first | assumption | omega | rfl | simp only [RH]) only [↓RP, RG, FX, RQ, ↓reduceIte, Nat.reduceEqDiff, reduceCtorEq, Nat.reduceBEq, Nat.reduceAdd, Nat.reduceLeDiff]
      have hcl := crossP_c true i false (faC_len W H l i) hH0 (by omega)
      have q0 := faC_len W H l i
      have q1 := ctC_le W H l i
      have q2 := crs_le (faC W H l i) H
      have q3 : i * H ≤ 64 * 64 := Nat.mul_le_mul (by omega) hH
      rw [show min i W = i by omega, show i - W = 0 by omega]
      refine callK_F 6 hcl (by simp (disch := first | assumption | omega | rfl | simp only [RH]) only [↓RP, RG, FX, RQ, ↓reduceIte, Nat.reduceEqDiff, reduceCtorEq, Nat.reduceBEq, Nat.reduceAdd, Nat.reduceLeDiff, RA] <;> rfl) (.inl rfl) ?_
      simp (disch := first | assumption | omega | rfl | simp only [RH]) only [↓RP, RG, FX, RQ, ↓reduceIte, Nat.reduceEqDiff, reduceCtorEq, Nat.reduceBEq, Nat.reduceAdd, Nat.reduceLeDiff]
      refine Wk.of_eq ?_
      simp only [show min (i + 1) W = i + 1 by omega, show i + 1 - W = 0 by omega, decide_eq_true hlt, if_pos hlt, ctC]
      rfl
    · rw [lineA_r _ _ _ hlt, lineO_r _ _ _ hlt]
      simp (disch := first | assumption | omega | rfl | simp only [RH]) only [↓RP, RG, FX, RQ, ↓reduceIte, Nat.reduceEqDiff, reduceCtorEq, Nat.reduceBEq, Nat.reduceAdd, Nat.reduceLeDiff]
      have hcl := crossP_c false (i - W : Nat) false (faR_len W l (i - W)) hW0 (by omega)
      have q0 := faR_len W l (i - W)
      have q1 := ctR_le W l (i - W)
      have q2 := crs_le (faR W l (i - W)) W
      have q3 : (i - W) * W ≤ 64 * 64 := Nat.mul_le_mul (by omega) hW
      rw [show min i W = W by omega]
      refine callK_F 6 hcl (by simp (disch := first | assumption | omega | rfl | simp only [RH]) only [↓RP, RG, FX, RQ, ↓reduceIte, Nat.reduceEqDiff, reduceCtorEq, Nat.reduceBEq, Nat.reduceAdd, Nat.reduceLeDiff, RA] <;> rfl) (.inl rfl) ?_
      simp (disch := first | assumption | omega | rfl | simp only [RH]) only [↓RP, RG, FX, RQ, ↓reduceIte, Nat.reduceEqDiff, reduceCtorEq, Nat.reduceBEq, Nat.reduceAdd, Nat.reduceLeDiff]
      refine Wk.of_eq ?_
      simp only [show min (i + 1) W = W by omega, show i + 1 - W = (i - W) + 1 by omega, decide_eq_false hlt, if_neg hlt, ctR]
      rfl
  · simp only [show min (W + H) W = W by omega, show W + H - W = H by omega]
    simp (disch := first | assumption | omega | rfl | simp only [RH]) only [↓RP, RG, FX, RQ, ↓reduceIte, Nat.reduceEqDiff, reduceCtorEq, Nat.reduceBEq, Nat.reduceAdd, Nat.reduceLeDiff]
    rw [resVal_3 rfl]; simp (disch := first | assumption | omega | rfl | simp only [RH]) only [↓RP, RG, FX, RQ, ↓reduceIte, Nat.reduceEqDiff, reduceCtorEq, Nat.reduceBEq, Nat.reduceAdd, Nat.reduceLeDiff, RS]
end
end Go.Proofs.Ytaelfinlmbkhnaa

/- Chapter 8: float.Crossings. -/
set_option linter.unusedSimpArgs false
set_option linter.unusedVariables false
set_option maxRecDepth 100000
namespace Go.Proofs.Ytaelfinlmbkhnaa
open Go Go.Proofs Go.AW

theorem crossgP_bad (w h : Int) (b : Bool) (l : List Bool) (wp : Bool) (a : Int) (hz : gchk w h l.length ≠ 0) : Contract Try.prog 7 [GA w h b l, B wp, I a] (.tuple [I 0, I (gchk w h l.length)]) := by
  refine Contract.intro (effS [] false) 6 follows Try.func7 rfl rfl (by kernel_rfl) (Nat.le_of_ble_eq_true rfl) ?_
  simp (disch := first | assumption | omega | rfl | simp only [RH]) only [↓RP, RG, FX, RQ, ↓reduceIte, Nat.reduceEqDiff, reduceCtorEq, Nat.reduceBEq, Nat.reduceAdd, Nat.reduceLeDiff, args0_3]
  refine callK_F 6 (gcheckP_c w h b l) (by simp (disch := first | assumption | omega | rfl | simp only [RH]) only [↓RP, RG, FX, RQ, ↓reduceIte, Nat.reduceEqDiff, reduceCtorEq, Nat.reduceBEq, Nat.reduceAdd, Nat.reduceLeDiff, RA] <;> rfl) (.inl (by simp [allFresh, ints_fresh, bools_fresh])) ?_
  simp (disch := first | assumption | omega | rfl | simp only [RH]) only [↓RP, RG, FX, RQ, ↓reduceIte, Nat.reduceEqDiff, reduceCtorEq, Nat.reduceBEq, Nat.reduceAdd, Nat.reduceLeDiff]
  rw [resVal_2 rfl]; simp (disch := first | assumption | omega | rfl | simp only [RH]) only [↓RP, RG, FX, RQ, ↓reduceIte, Nat.reduceEqDiff, reduceCtorEq, Nat.reduceBEq, Nat.reduceAdd, Nat.reduceLeDiff, RS]
section
variable {W H : Nat} (hW0 : 0 < W) (hH0 : 0 < H) (hW : W ≤ 64) (hH : H ≤ 64) (b : Bool) {l : List Bool} (hn : l.length = W * H)
include hW0 hH0 hW hH hn
theorem crossgP_noC {a : Int} (hno : ∀ i : Nat, i < W + H → i < W → (i : Int) ≠ a) : Contract Try.prog 7 [GA W H b l, B true, I a] (.tuple [I 0, I 2]) := by
  have hz : gchk W H l.length = 0 := gchk_ok ⟨by omega, by omega, by omega, by omega, by rw [hn, Int.natCast_mul]⟩
  have hck := gcheckP_c W H b l
  rw [hz] at hck
  refine Contract.intro (effS [] false) 6 follows Try.func7 rfl rfl (by kernel_rfl) (Nat.le_of_ble_eq_true rfl) ?_
  simp (disch := first | assumption | omega | rfl | simp only [RH]) only [↓RP, RG, FX, RQ, ↓reduceIte, Nat.reduceEqDiff, reduceCtorEq, Nat.reduceBEq, Nat.reduceAdd, Nat.reduceLeDiff, args0_3]
  refine callK_F 6 (hck) (by simp (disch := first | assumption | omega | rfl | simp only [RH]) only [↓RP, RG, FX, RQ, ↓reduceIte, Nat.reduceEqDiff, reduceCtorEq, Nat.reduceBEq, Nat.reduceAdd, Nat.reduceLeDiff, RA] <;> rfl) (.inl (by simp [allFresh, ints_fresh, bools_fresh])) ?_
  simp (disch := first | assumption | omega | rfl | simp only [RH]) only [↓RP, RG, FX, RQ, ↓reduceIte, Nat.reduceEqDiff, reduceCtorEq, Nat.reduceBEq, Nat.reduceAdd, Nat.reduceLeDiff]
  refine callK_F 6 (lines_c W H b l) (by simp (disch := first | assumption | omega | rfl | simp only [RH]) only [↓RP, RG, FX, RQ, ↓reduceIte, Nat.reduceEqDiff, reduceCtorEq, Nat.reduceBEq, Nat.reduceAdd, Nat.reduceLeDiff, RA] <;> rfl) (.inr (by simp [noRef, bools_noRef])) ?_
  simp (disch := first | assumption | omega | rfl | simp only [RH]) only [↓RP, RG, FX, RQ, ↓reduceIte, Nat.reduceEqDiff, reduceCtorEq, Nat.reduceBEq, Nat.reduceAdd, Nat.reduceLeDiff]
  refine rangeK_O (s := ⟨[(3, .ptr 0 0 3), (4, .ptr 1 0 1), (5, .ptr 2 0 1), (6, .ptr 3 0 1), (7, .ptr 4 0 1), (16, .func (.func 28) [] [.spot true [I W, I H, BA b l]])], [⟨24, 3, [I W, I H, BA b l]⟩, ⟨4, 1, [B true]⟩, ⟨3, 1, [I a]⟩, ⟨3, 1, [I 0]⟩, ⟨27, 1, [I 0]⟩]⟩) [3, 4, 5, 6, 7, 16] (W + H) (fun k => [⟨24, 3, [I W, I H, BA b l]⟩, ⟨4, 1, [B true]⟩, ⟨3, 1, [I a]⟩, ⟨3, 1, [I 0]⟩, ⟨27, 1, [I 0]⟩]) (lineO 5 W H l) (fun k => [⟨52, 3, [B (decide (k < W)), I (if k < W then k else k - W : Nat), .ref 6 0 (if k < W then H else W) (if k < W then H else W)]⟩]) (lineA 5 W H l) (Wk.of_eq (by simp only [↓RP, RG, FX, RQ, ↓reduceIte, Nat.reduceEqDiff, reduceCtorEq, Nat.reduceBEq, Nat.reduceAdd, Nat.reduceLeDiff])) rfl rfl (linesF_y hW0 hH0 (by omega) (by omega) true b hn 5 _ _ (fun k _ => ⟨rfl, by simp [ren, map_ren_bools]⟩)) ?_ ?_
  · intro i hi
    by_cases hlt : i < W
    · rw [lineA_c _ _ _ hlt, lineO_c _ _ _ hlt]
      have hne := hno i hi hlt
      simp (disch := first | assumption | omega | rfl | simp only [RH]) only [↓RP, RG, FX, RQ, ↓reduceIte, Nat.reduceEqDiff, reduceCtorEq, Nat.reduceBEq, Nat.reduceAdd, Nat.reduceLeDiff, beq_self_eq_true]
      refine Wk.of_eq ?_
      simp only [decide_eq_true hlt, if_pos hlt]
      first | done | rfl
    · rw [lineA_r _ _ _ hlt, lineO_r _ _ _ hlt]
      simp (disch := first | assumption | omega | rfl | simp only [RH]) only [↓RP, RG, FX, RQ, ↓reduceIte, Nat.reduceEqDiff, reduceCtorEq, Nat.reduceBEq, Nat.reduceAdd, Nat.reduceLeDiff, Bool.true_beq, Bool.false_beq, Bool.not_true, Bool.not_false, beq_self_eq_true]
      refine Wk.of_eq ?_
      first | (exfalso; omega) | (simp only [decide_eq_false hlt, if_neg hlt]; done) | (simp only [decide_eq_false hlt, if_neg hlt]; rfl)
  · simp (disch := first | assumption | omega | rfl | simp only [RH]) only [↓RP, RG, FX, RQ, ↓reduceIte, Nat.reduceEqDiff, reduceCtorEq, Nat.reduceBEq, Nat.reduceAdd, Nat.reduceLeDiff]
    rw [resVal_2 rfl]; simp (disch := first | assumption | omega | rfl | simp only [RH]) only [↓RP, RG, FX, RQ, ↓reduceIte, Nat.reduceEqDiff, reduceCtorEq, Nat.reduceBEq, Nat.reduceAdd, Nat.reduceLeDiff, RS]
theorem crossgP_noR {a : Int} (hno : ∀ i : Nat, i < W + H → ¬ i < W → ((i - W : Nat) : Int) ≠ a) : Contract Try.prog 7 [GA W H b l, B false, I a] (.tuple [I 0, I 2]) := by
  have hz : gchk W H l.length = 0 := gchk_ok ⟨by omega, by omega, by omega, by omega, by rw [hn, Int.natCast_mul]⟩
  have hck := gcheckP_c W H b l
  rw [hz] at hck
  refine Contract.intro (effS [] false) 6 follows Try.func7 rfl rfl (by kernel_rfl) (Nat.le_of_ble_eq_true rfl) ?_
  simp (disch := first | assumption | omega | rfl | simp only [RH]) only [↓RP, RG, FX, RQ, ↓reduceIte, Nat.reduceEqDiff, reduceCtorEq, Nat.reduceBEq, Nat.reduceAdd, Nat.reduceLeDiff, args0_3]
  refine callK_F 6 (hck) (by simp (disch := first | assumption | omega | rfl | simp only [RH]) only [↓RP, RG, FX, RQ, ↓reduceIte, Nat.reduceEqDiff, reduceCtorEq, Nat.reduceBEq, Nat.reduceAdd, Nat.reduceLeDiff, RA] <;> rfl) (.inl (by simp [allFresh, ints_fresh, bools_fresh])) ?_
  simp (disch := first | assumption | omega | rfl | simp only [RH]) only [↓RP, RG, FX, RQ, ↓reduceIte, Nat.reduceEqDiff, reduceCtorEq, Nat.reduceBEq, Nat.reduceAdd, Nat.reduceLeDiff]
  refine callK_F 6 (lines_c W H b l) (by simp (disch := first | assumption | omega | rfl | simp only [RH]) only [↓RP, RG, FX, RQ, ↓reduceIte, Nat.reduceEqDiff, reduceCtorEq, Nat.reduceBEq, Nat.reduceAdd, Nat.reduceLeDiff, RA] <;> rfl) (.inr (by simp [noRef, bools_noRef])) ?_
  simp (disch := first | assumption | omega | rfl | simp only [RH]) only [↓RP, RG, FX, RQ, ↓reduceIte, Nat.reduceEqDiff, reduceCtorEq, Nat.reduceBEq, Nat.reduceAdd, Nat.reduceLeDiff]
  refine rangeK_O (s := ⟨[(3, .ptr 0 0 3), (4, .ptr 1 0 1), (5, .ptr 2 0 1), (6, .ptr 3 0 1), (7, .ptr 4 0 1), (16, .func (.func 28) [] [.spot true [I W, I H, BA b l]])], [⟨24, 3, [I W, I H, BA b l]⟩, ⟨4, 1, [B false]⟩, ⟨3, 1, [I a]⟩, ⟨3, 1, [I 0]⟩, ⟨27, 1, [I 0]⟩]⟩) [3, 4, 5, 6, 7, 16] (W + H) (fun k => [⟨24, 3, [I W, I H, BA b l]⟩, ⟨4, 1, [B false]⟩, ⟨3, 1, [I a]⟩, ⟨3, 1, [I 0]⟩, ⟨27, 1, [I 0]⟩]) (lineO 5 W H l) (fun k => [⟨52, 3, [B (decide (k < W)), I (if k < W then k else k - W : Nat), .ref 6 0 (if k < W then H else W) (if k < W then H else W)]⟩]) (lineA 5 W H l) (Wk.of_eq (by simp only [↓RP, RG, FX, RQ, ↓reduceIte, Nat.reduceEqDiff, reduceCtorEq, Nat.reduceBEq, Nat.reduceAdd, Nat.reduceLeDiff])) rfl rfl (linesF_y hW0 hH0 (by omega) (by omega) true b hn 5 _ _ (fun k _ => ⟨rfl, by simp [ren, map_ren_bools]⟩)) ?_ ?_
  · intro i hi
    by_cases hlt : i < W
    · rw [lineA_c _ _ _ hlt, lineO_c _ _ _ hlt]
      simp (disch := first | assumption | omega | rfl | simp only [RH]) only [↓RP, RG, FX, RQ, ↓reduceIte, Nat.reduceEqDiff, reduceCtorEq, Nat.reduceBEq, Nat.reduceAdd, Nat.reduceLeDiff, Bool.true_beq, Bool.false_beq, Bool.not_true, Bool.not_false, beq_self_eq_true]
      refine Wk.of_eq ?_
      simp only [decide_eq_true hlt, if_pos hlt]
      first | done | rfl
    · rw [lineA_r _ _ _ hlt, lineO_r _ _ _ hlt]
      have hne := hno i hi hlt
      simp (disch := first | assumption | omega | rfl | simp only [RH]) only [↓RP, RG, FX, RQ, ↓reduceIte, Nat.reduceEqDiff, reduceCtorEq, Nat.reduceBEq, Nat.reduceAdd, Nat.reduceLeDiff, beq_self_eq_true]
      refine Wk.of_eq ?_
      first | (exfalso; omega) | (simp only [decide_eq_false hlt, if_neg hlt]; done) | (simp only [decide_eq_false hlt, if_neg hlt]; rfl)
  · simp (disch := first | assumption | omega | rfl | simp only [RH]) only [↓RP, RG, FX, RQ, ↓reduceIte, Nat.reduceEqDiff, reduceCtorEq, Nat.reduceBEq, Nat.reduceAdd, Nat.reduceLeDiff]
    rw [resVal_2 rfl]; simp (disch := first | assumption | omega | rfl | simp only [RH]) only [↓RP, RG, FX, RQ, ↓reduceIte, Nat.reduceEqDiff, reduceCtorEq, Nat.reduceBEq, Nat.reduceAdd, Nat.reduceLeDiff, RS]
theorem crossgP_c {x : Nat} (hx : x < W) : Contract Try.prog 7 [GA W H b l, B true, I x] (.tuple [I (crs (faC W H l x) H), I 0]) := by
  have hno : ∀ i : Nat, i < x → i < W → (i : Int) ≠ (x : Int) := fun i h1 _ => by omega
  have hz : gchk W H l.length = 0 := gchk_ok ⟨by omega, by omega, by omega, by omega, by rw [hn, Int.natCast_mul]⟩
  have hck := gcheckP_c W H b l
  rw [hz] at hck
  refine Contract.intro (effS [] false) 6 follows Try.func7 rfl rfl (by kernel_rfl) (Nat.le_of_ble_eq_true rfl) ?_
  simp (disch := first | assumption | omega | rfl | simp only [RH]) only [↓RP, RG, FX, RQ, ↓reduceIte, Nat.reduceEqDiff, reduceCtorEq, Nat.reduceBEq, Nat.reduceAdd, Nat.reduceLeDiff, args0_3]
  refine callK_F 6 (hck) (by simp (disch := first | assumption | omega | rfl | simp only [RH]) only [↓RP, RG, FX, RQ, ↓reduceIte, Nat.reduceEqDiff, reduceCtorEq, Nat.reduceBEq, Nat.reduceAdd, Nat.reduceLeDiff, RA] <;> rfl) (.inl (by simp [allFresh, ints_fresh, bools_fresh])) ?_
  simp (disch := first | assumption | omega | rfl | simp only [RH]) only [↓RP, RG, FX, RQ, ↓reduceIte, Nat.reduceEqDiff, reduceCtorEq, Nat.reduceBEq, Nat.reduceAdd, Nat.reduceLeDiff]
  refine callK_F 6 (lines_c W H b l) (by simp (disch := first | assumption | omega | rfl | simp only [RH]) only [↓RP, RG, FX, RQ, ↓reduceIte, Nat.reduceEqDiff, reduceCtorEq, Nat.reduceBEq, Nat.reduceAdd, Nat.reduceLeDiff, RA] <;> rfl) (.inr (by simp [noRef, bools_noRef])) ?_
  simp (disch := first | assumption | omega | rfl | simp only [RH]) only [↓RP, RG, FX, RQ, ↓reduceIte, Nat.reduceEqDiff, reduceCtorEq, Nat.reduceBEq, Nat.reduceAdd, Nat.reduceLeDiff]
  refine rangeK_OX (s := ⟨[(3, .ptr 0 0 3), (4, .ptr 1 0 1), (5, .ptr 2 0 1), (6, .ptr 3 0 1), (7, .ptr 4 0 1), (16, .func (.func 28) [] [.spot true [I W, I H, BA b l]])], [⟨24, 3, [I W, I H, BA b l]⟩, ⟨4, 1, [B true]⟩, ⟨3, 1, [I x]⟩, ⟨3, 1, [I 0]⟩, ⟨27, 1, [I 0]⟩]⟩) [3, 4, 5, 6, 7, 16] x (fun k => [⟨24, 3, [I W, I H, BA b l]⟩, ⟨4, 1, [B true]⟩, ⟨3, 1, [I x]⟩, ⟨3, 1, [I 0]⟩, ⟨27, 1, [I 0]⟩]) (lineO 5 W H l) (fun k => [⟨52, 3, [B (decide (k < W)), I (if k < W then k else k - W : Nat), .ref 6 0 (if k < W then H else W) (if k < W then H else W)]⟩]) (lineA 5 W H l) ([⟨24, 3, [I W, I H, BA b l]⟩, ⟨4, 1, [B true]⟩, ⟨3, 1, [I x]⟩, ⟨3, 1, [I (crs (faC W H l x) H)]⟩, ⟨27, 1, [I 0]⟩] ++ [⟨52, 3, [B true, I x, .ref 6 0 H H]⟩, ⟨4, 1, bools (faC W H l x)⟩, ⟨52, 3, [B true, I x, .ref 6 0 H H]⟩]) .ret (.inl rfl) (Wk.of_eq (by simp only [↓RP, RG, FX, RQ, ↓reduceIte, Nat.reduceEqDiff, reduceCtorEq, Nat.reduceBEq, Nat.reduceAdd, Nat.reduceLeDiff])) rfl rfl (linesF_x1 hW0 hH0 (by omega) (by omega) true b hn 5 _ _ hx (fun k _ => ⟨rfl, by simp [ren, map_ren_bools]⟩) _) ?_ ?_ ?_
  · intro i hi
    by_cases hlt : i < W
    · rw [lineA_c _ _ _ hlt, lineO_c _ _ _ hlt]
      have hne := hno i hi hlt
      simp (disch := first | assumption | omega | rfl | simp only [RH]) only [↓RP, RG, FX, RQ, ↓reduceIte, Nat.reduceEqDiff, reduceCtorEq, Nat.reduceBEq, Nat.reduceAdd, Nat.reduceLeDiff, beq_self_eq_true]
      refine Wk.of_eq ?_
      simp only [decide_eq_true hlt, if_pos hlt]
      first | done | rfl
    · rw [lineA_r _ _ _ hlt, lineO_r _ _ _ hlt]
      simp (disch := first | assumption | omega | rfl | simp only [RH]) only [↓RP, RG, FX, RQ, ↓reduceIte, Nat.reduceEqDiff, reduceCtorEq, Nat.reduceBEq, Nat.reduceAdd, Nat.reduceLeDiff, Bool.true_beq, Bool.false_beq, Bool.not_true, Bool.not_false, beq_self_eq_true]
      refine Wk.of_eq ?_
      first | (exfalso; omega) | (simp only [decide_eq_false hlt, if_neg hlt]; done) | (simp only [decide_eq_false hlt, if_neg hlt]; rfl)
  · simp only []
    rw [lineA_c _ _ _ hx, lineO_c _ _ _ hx]
    have hcl := crossP_c true x false (faC_len W H l x) hH0 (by omega)
    have q0 := faC_len W H l x
    simp (disch := first | assumption | omega | rfl | simp only [RH]) only [↓RP, RG, FX, RQ, ↓reduceIte, Nat.reduceEqDiff, reduceCtorEq, Nat.reduceBEq, Nat.reduceAdd, Nat.reduceLeDiff, beq_self_eq_true]
    refine callK_F 6 hcl (by simp (disch := first | assumption | omega | rfl | simp only [RH]) only [↓RP, RG, FX, RQ, ↓reduceIte, Nat.reduceEqDiff, reduceCtorEq, Nat.reduceBEq, Nat.reduceAdd, Nat.reduceLeDiff, RA] <;> rfl) (.inl rfl) ?_
    simp (disch := first | assumption | omega | rfl | simp only [RH]) only [↓RP, RG, FX, RQ, ↓reduceIte, Nat.reduceEqDiff, reduceCtorEq, Nat.reduceBEq, Nat.reduceAdd, Nat.reduceLeDiff]
    exact Wk.of_eq (by rfl)
  · simp (disch := first | assumption | omega | rfl | simp only [RH]) only [↓RP, RG, FX, RQ, ↓reduceIte, Nat.reduceEqDiff, reduceCtorEq, Nat.reduceBEq, Nat.reduceAdd, Nat.reduceLeDiff]
    rw [resVal_2 rfl]; simp (disch := first | assumption | omega | rfl | simp only [RH]) only [↓RP, RG, FX, RQ, ↓reduceIte, Nat.reduceEqDiff, reduceCtorEq, Nat.reduceBEq, Nat.reduceAdd, Nat.reduceLeDiff, RS]
theorem crossgP_r {y : Nat} (hy : y < H) : Contract Try.prog 7 [GA W H b l, B false, I y] (.tuple [I (crs (faR W l y) W), I 0]) := by
  have hno : ∀ i : Nat, i < W + y → ¬ i < W → ((i - W : Nat) : Int) ≠ (y : Int) := fun i h1 h2 => by omega
  have hge : ¬ W + y < W := by omega
  have hsub : W + y - W = y := by omega
  have hz : gchk W H l.length = 0 := gchk_ok ⟨by omega, by omega, by omega, by omega, by rw [hn, Int.natCast_mul]⟩
  have hck := gcheckP_c W H b l
  rw [hz] at hck
  refine Contract.intro (effS [] false) 6 follows Try.func7 rfl rfl (by kernel_rfl) (Nat.le_of_ble_eq_true rfl) ?_
  simp (disch := first | assumption | omega | rfl | simp only [RH]) only [↓RP, RG, FX, RQ, ↓reduceIte, Nat.reduceEqDiff, reduceCtorEq, Nat.reduceBEq, Nat.reduceAdd, Nat.reduceLeDiff, args0_3]
  refine callK_F 6 (hck) (by simp (disch := first | assumption | omega | rfl | simp only [RH]) only [↓RP, RG, FX, RQ, ↓reduceIte, Nat.reduceEqDiff, reduceCtorEq, Nat.reduceBEq, Nat.reduceAdd, Nat.reduceLeDiff, RA] <;> rfl) (.inl (by simp [allFresh, ints_fresh, bools_fresh])) ?_
  simp (disch := first | assumption | omega | rfl | simp only [RH]) only [↓RP, RG, FX, RQ, ↓reduceIte, Nat.reduceEqDiff, reduceCtorEq, Nat.reduceBEq, Nat.reduceAdd, Nat.reduceLeDiff]
  refine callK_F 6 (lines_c W H b l) (by simp (disch := first | assumption | omega | rfl | simp only [RH]) only [↓RP, RG, FX, RQ, ↓reduceIte, Nat.reduceEqDiff, reduceCtorEq, Nat.reduceBEq, Nat.reduceAdd, Nat.reduceLeDiff, RA] <;> rfl) (.inr (by simp [noRef, bools_noRef])) ?_
  simp (disch := first | assumption | omega | rfl | simp only [RH]) only [↓RP, RG, FX, RQ, ↓reduceIte, Nat.reduceEqDiff, reduceCtorEq, Nat.reduceBEq, Nat.reduceAdd, Nat.reduceLeDiff]
  refine rangeK_OX (s := ⟨[(3, .ptr 0 0 3), (4, .ptr 1 0 1), (5, .ptr 2 0 1), (6, .ptr 3 0 1), (7, .ptr 4 0 1), (16, .func (.func 28) [] [.spot true [I W, I H, BA b l]])], [⟨24, 3, [I W, I H, BA b l]⟩, ⟨4, 1, [B false]⟩, ⟨3, 1, [I y]⟩, ⟨3, 1, [I 0]⟩, ⟨27, 1, [I 0]⟩]⟩) [3, 4, 5, 6, 7, 16] (W + y) (fun k => [⟨24, 3, [I W, I H, BA b l]⟩, ⟨4, 1, [B false]⟩, ⟨3, 1, [I y]⟩, ⟨3, 1, [I 0]⟩, ⟨27, 1, [I 0]⟩]) (lineO 5 W H l) (fun k => [⟨52, 3, [B (decide (k < W)), I (if k < W then k else k - W : Nat), .ref 6 0 (if k < W then H else W) (if k < W then H else W)]⟩]) (lineA 5 W H l) ([⟨24, 3, [I W, I H, BA b l]⟩, ⟨4, 1, [B false]⟩, ⟨3, 1, [I y]⟩, ⟨3, 1, [I (crs (faR W l y) W)]⟩, ⟨27, 1, [I 0]⟩] ++ [⟨52, 3, [B false, I y, .ref 6 0 W W]⟩, ⟨4, 1, bools (faR W l y)⟩, ⟨52, 3, [B false, I y, .ref 6 0 W W]⟩]) .ret (.inl rfl) (Wk.of_eq (by simp only [↓RP, RG, FX, RQ, ↓reduceIte, Nat.reduceEqDiff, reduceCtorEq, Nat.reduceBEq, Nat.reduceAdd, Nat.reduceLeDiff])) rfl rfl (linesF_x2 hW0 hH0 (by omega) (by omega) true b hn 5 _ _ ⟨by omega, by omega⟩ (fun k _ => ⟨rfl, by simp [ren, map_ren_bools]⟩) _) ?_ ?_ ?_
  · intro i hi
    by_cases hlt : i < W
    · rw [lineA_c _ _ _ hlt, lineO_c _ _ _ hlt]
      simp (disch := first | assumption | omega | rfl | simp only [RH]) only [↓RP, RG, FX, RQ, ↓reduceIte, Nat.reduceEqDiff, reduceCtorEq, Nat.reduceBEq, Nat.reduceAdd, Nat.reduceLeDiff, Bool.true_beq, Bool.false_beq, Bool.not_true, Bool.not_false, beq_self_eq_true]
      refine Wk.of_eq ?_
      simp only [decide_eq_true hlt, if_pos hlt]
      first | done | rfl
    · rw [lineA_r _ _ _ hlt, lineO_r _ _ _ hlt]
      have hne := hno i hi hlt
      simp (disch := first | assumption | omega | rfl | simp only [RH]) only [↓RP, RG, FX, RQ, ↓reduceIte, Nat.reduceEqDiff, reduceCtorEq, Nat.reduceBEq, Nat.reduceAdd, Nat.reduceLeDiff, beq_self_eq_true]
      refine Wk.of_eq ?_
      first | (exfalso; omega) | (simp only [decide_eq_false hlt, if_neg hlt]; done) | (simp only [decide_eq_false hlt, if_neg hlt]; rfl)
  · simp only []
    rw [lineA_r _ _ _ hge, lineO_r _ _ _ hge, hsub]
    have hcl := crossP_c false y false (faR_len W l y) hW0 (by omega)
    have q0 := faR_len W l y
    simp (disch := first | assumption | omega | rfl | simp only [RH]) only [↓RP, RG, FX, RQ, ↓reduceIte, Nat.reduceEqDiff, reduceCtorEq, Nat.reduceBEq, Nat.reduceAdd, Nat.reduceLeDiff, beq_self_eq_true]
    refine callK_F 6 hcl (by simp (disch := first | assumption | omega | rfl | simp only [RH]) only [↓RP, RG, FX, RQ, ↓reduceIte, Nat.reduceEqDiff, reduceCtorEq, Nat.reduceBEq, Nat.reduceAdd, Nat.reduceLeDiff, RA] <;> rfl) (.inl rfl) ?_
    simp (disch := first | assumption | omega | rfl | simp only [RH]) only [↓RP, RG, FX, RQ, ↓reduceIte, Nat.reduceEqDiff, reduceCtorEq, Nat.reduceBEq, Nat.reduceAdd, Nat.reduceLeDiff]
    exact Wk.of_eq (by rfl)
  · simp (disch := first | assumption | omega | rfl | simp only [RH]) only [↓RP, RG, FX, RQ, ↓reduceIte, Nat.reduceEqDiff, reduceCtorEq, Nat.reduceBEq, Nat.reduceAdd, Nat.reduceLeDiff]
    rw [resVal_2 rfl]; simp (disch := first | assumption | omega | rfl | simp only [RH]) only [↓RP, RG, FX, RQ, ↓reduceIte, Nat.reduceEqDiff, reduceCtorEq, Nat.reduceBEq, Nat.reduceAdd, Nat.reduceLeDiff, RS]
end
end Go.Proofs.Ytaelfinlmbkhnaa

/- The law FloatCounts. -/
set_option linter.unusedSimpArgs false
set_option linter.unusedVariables false
set_option maxRecDepth 100000
namespace Go.Proofs.Ytaelfinlmbkhnaa
open Go Go.Proofs Go.AW

theorem great8_c (w h : Int) (b : Bool) (l : List Bool) : Contract Try.prog 5 [GA w h b l] (B (decide (600 < (l.length : Int)))) := by
  refine Contract.intro (effS [] false) 6 follows Try.func5 rfl rfl (by kernel_rfl) (Nat.le_of_ble_eq_true rfl) ?_
  simp (disch := first | assumption | omega | rfl | simp only [RH]) only [↓RP, RG, FX, RQ, ↓reduceIte, Nat.reduceEqDiff, reduceCtorEq, Nat.reduceBEq, Nat.reduceAdd, Nat.reduceLeDiff, args0_1]
  rw [resVal_1 rfl]; simp (disch := first | assumption | omega | rfl | simp only [RH]) only [↓RP, RG, FX, RQ, ↓reduceIte, Nat.reduceEqDiff, reduceCtorEq, Nat.reduceBEq, Nat.reduceAdd, Nat.reduceLeDiff, RS]
  first | done | rfl
/-- Contracts of all that the law calls. -/
theorem counts_law (w h : Int) (b : Bool) (l : List Bool) (wp : Bool) (a : Int) (hl : ¬ 600 < (l.length : Int)) (c1 e1 n m e2 : Int)
    (p1 : Contract Try.prog 7 [GA w h b l, B wp, I a] (.tuple [I c1, I e1])) (p2 : Contract Try.prog 8 [GA w h b l, B wp, I a] (.tuple [I c1, I e1]))
    (p3 : Contract Try.prog 9 [GA w h b l] (.tuple [I n, I m, I e2])) (p4 : Contract Try.prog 10 [GA w h b l] (.tuple [I n, I m, I e2])) :
    Contract Try.prog 3 [GA w h b l, B wp, I a] (B true) := by
  have hg := great8_c w h b l
  rw [decide_eq_false hl] at hg
  have hs := sameR_c w h w h b false l l (by omega)
  rw [decide_eq_true ⟨rfl, rfl, rfl⟩] at hs
  refine Contract.intro (effS [] false) 6 follows Try.func3 rfl rfl (by kernel_rfl) (Nat.le_of_ble_eq_true rfl) ?_
  simp (disch := first | assumption | omega | rfl | simp only [RH]) only [↓RP, RG, FX, RQ, ↓reduceIte, Nat.reduceEqDiff, reduceCtorEq, Nat.reduceBEq, Nat.reduceAdd, Nat.reduceLeDiff, args0_3]
  refine callK_F 6 (hg) (by simp (disch := first | assumption | omega | rfl | simp only [RH]) only [↓RP, RG, FX, RQ, ↓reduceIte, Nat.reduceEqDiff, reduceCtorEq, Nat.reduceBEq, Nat.reduceAdd, Nat.reduceLeDiff, RA] <;> rfl) (.inl (by simp [allFresh, ints_fresh, bools_fresh])) ?_
  simp (disch := first | assumption | omega | rfl | simp only [RH]) only [↓RP, RG, FX, RQ, ↓reduceIte, Nat.reduceEqDiff, reduceCtorEq, Nat.reduceBEq, Nat.reduceAdd, Nat.reduceLeDiff]
  refine callK_F 6 (twin_c w h b l (by omega)) (by simp (disch := first | assumption | omega | rfl | simp only [RH]) only [↓RP, RG, FX, RQ, ↓reduceIte, Nat.reduceEqDiff, reduceCtorEq, Nat.reduceBEq, Nat.reduceAdd, Nat.reduceLeDiff, RA] <;> rfl) (.inl (by simp [allFresh, ints_fresh, bools_fresh])) ?_
  simp (disch := first | assumption | omega | rfl | simp only [RH]) only [↓RP, RG, FX, RQ, ↓reduceIte, Nat.reduceEqDiff, reduceCtorEq, Nat.reduceBEq, Nat.reduceAdd, Nat.reduceLeDiff]
  refine callK_F 6 (p1) (by simp (disch := first | assumption | omega | rfl | simp only [RH]) only [↓RP, RG, FX, RQ, ↓reduceIte, Nat.reduceEqDiff, reduceCtorEq, Nat.reduceBEq, Nat.reduceAdd, Nat.reduceLeDiff, RA] <;> rfl) (.inl (by simp [allFresh, ints_fresh, bools_fresh])) ?_
  simp (disch := first | assumption | omega | rfl | simp only [RH]) only [↓RP, RG, FX, RQ, ↓reduceIte, Nat.reduceEqDiff, reduceCtorEq, Nat.reduceBEq, Nat.reduceAdd, Nat.reduceLeDiff]
  refine callK_F 6 (p2) (by simp (disch := first | assumption | omega | rfl | simp only [RH]) only [↓RP, RG, FX, RQ, ↓reduceIte, Nat.reduceEqDiff, reduceCtorEq, Nat.reduceBEq, Nat.reduceAdd, Nat.reduceLeDiff, RA] <;> rfl) (.inl (by simp [allFresh, ints_fresh, bools_fresh])) ?_
  simp (disch := first | assumption | omega | rfl | simp only [RH]) only [↓RP, RG, FX, RQ, ↓reduceIte, Nat.reduceEqDiff, reduceCtorEq, Nat.reduceBEq, Nat.reduceAdd, Nat.reduceLeDiff]
  refine callK_F 6 (p3) (by simp (disch := first | assumption | omega | rfl | simp only [RH]) only [↓RP, RG, FX, RQ, ↓reduceIte, Nat.reduceEqDiff, reduceCtorEq, Nat.reduceBEq, Nat.reduceAdd, Nat.reduceLeDiff, RA] <;> rfl) (.inl (by simp [allFresh, ints_fresh, bools_fresh])) ?_
  simp (disch := first | assumption | omega | rfl | simp only [RH]) only [↓RP, RG, FX, RQ, ↓reduceIte, Nat.reduceEqDiff, reduceCtorEq, Nat.reduceBEq, Nat.reduceAdd, Nat.reduceLeDiff]
  refine callK_F 6 (p4) (by simp (disch := first | assumption | omega | rfl | simp only [RH]) only [↓RP, RG, FX, RQ, ↓reduceIte, Nat.reduceEqDiff, reduceCtorEq, Nat.reduceBEq, Nat.reduceAdd, Nat.reduceLeDiff, RA] <;> rfl) (.inl (by simp [allFresh, ints_fresh, bools_fresh])) ?_
  simp (disch := first | assumption | omega | rfl | simp only [RH]) only [↓RP, RG, FX, RQ, ↓reduceIte, Nat.reduceEqDiff, reduceCtorEq, Nat.reduceBEq, Nat.reduceAdd, Nat.reduceLeDiff, beq_self_eq_true]
  refine callK_F 6 (hs) (by simp (disch := first | assumption | omega | rfl | simp only [RH]) only [↓RP, RG, FX, RQ, ↓reduceIte, Nat.reduceEqDiff, reduceCtorEq, Nat.reduceBEq, Nat.reduceAdd, Nat.reduceLeDiff, RA] <;> rfl) (.inl (by simp [allFresh, ints_fresh, bools_fresh])) ?_
  simp (disch := first | assumption | omega | rfl | simp only [RH]) only [↓RP, RG, FX, RQ, ↓reduceIte, Nat.reduceEqDiff, reduceCtorEq, Nat.reduceBEq, Nat.reduceAdd, Nat.reduceLeDiff]
  rw [resVal_1 rfl]; simp (disch := first | assumption | omega | rfl | simp only [RH]) only [↓RP, RG, FX, RQ, ↓reduceIte, Nat.reduceEqDiff, reduceCtorEq, Nat.reduceBEq, Nat.reduceAdd, Nat.reduceLeDiff, RS]
theorem floatCounts_c (w h : Int) (b : Bool) (l : List Bool) (wp : Bool) (a : Int) : Contract Try.prog 3 [GA w h b l, B wp, I a] (B true) := by
  by_cases c1 : 600 < (l.length : Int)
  · have hg := great8_c w h b l
    rw [decide_eq_true c1] at hg
    refine Contract.intro (effS [] false) 6 follows Try.func3 rfl rfl (by kernel_rfl) (Nat.le_of_ble_eq_true rfl) ?_
    simp (disch := first | assumption | omega | rfl | simp only [RH]) only [↓RP, RG, FX, RQ, ↓reduceIte, Nat.reduceEqDiff, reduceCtorEq, Nat.reduceBEq, Nat.reduceAdd, Nat.reduceLeDiff, args0_3]
    refine callK_F 6 (hg) (by simp (disch := first | assumption | omega | rfl | simp only [RH]) only [↓RP, RG, FX, RQ, ↓reduceIte, Nat.reduceEqDiff, reduceCtorEq, Nat.reduceBEq, Nat.reduceAdd, Nat.reduceLeDiff, RA] <;> rfl) (.inl (by simp [allFresh, ints_fresh, bools_fresh])) ?_
    simp (disch := first | assumption | omega | rfl | simp only [RH]) only [↓RP, RG, FX, RQ, ↓reduceIte, Nat.reduceEqDiff, reduceCtorEq, Nat.reduceBEq, Nat.reduceAdd, Nat.reduceLeDiff]
    rw [resVal_1 rfl]; simp (disch := first | assumption | omega | rfl | simp only [RH]) only [↓RP, RG, FX, RQ, ↓reduceIte, Nat.reduceEqDiff, reduceCtorEq, Nat.reduceBEq, Nat.reduceAdd, Nat.reduceLeDiff, RS]
  by_cases hz : gchk w h l.length = 0
  rotate_left
  · exact counts_law w h b l wp a c1 _ _ _ _ _ (crossgP_bad w h b l wp a hz) (crossgR_bad w h b l wp a hz) (countP_bad w h b l hz) (countR_bad w h b l hz)
  obtain ⟨g1, g2, g3, g4, g5⟩ := gchk_iff.1 hz
  obtain ⟨W, rfl⟩ : ∃ W : Nat, w = W := ⟨w.toNat, by omega⟩
  obtain ⟨H, rfl⟩ : ∃ H : Nat, h = H := ⟨h.toNat, by omega⟩
  have hn : l.length = W * H := by
    have e1 : ((W * H : Nat) : Int) = (W : Int) * H := Int.natCast_mul _ _
    omega
  have hW0 : 0 < W := by omega
  have hH0 : 0 < H := by omega
  have hW : W ≤ 64 := by omega
  have hH : H ≤ 64 := by omega
  have q3 := countP_c hW0 hH0 hW hH b hn
  have q4 := countR_c hW0 hH0 hW hH b hn
  cases wp with
  | true =>
    by_cases ht : 0 ≤ a ∧ a < W
    · obtain ⟨x, rfl⟩ : ∃ x : Nat, a = x := ⟨a.toNat, by omega⟩
      exact counts_law W H b l true x c1 _ _ _ _ _ (crossgP_c hW0 hH0 hW hH b hn (by omega)) (crossgR_c hW0 hH0 hW hH b hn (by omega)) q3 q4
    · exact counts_law W H b l true a c1 _ _ _ _ _ (crossgP_noC hW0 hH0 hW hH b hn (fun i h1 h2 => by omega)) (crossgR_no hW0 hH0 hW hH b hn true (fun h => by unfold thr at h; rw [if_pos rfl] at h; omega)) q3 q4
  | false =>
    by_cases ht : 0 ≤ a ∧ a < H
    · obtain ⟨y, rfl⟩ : ∃ y : Nat, a = y := ⟨a.toNat, by omega⟩
      exact counts_law W H b l false y c1 _ _ _ _ _ (crossgP_r hW0 hH0 hW hH b hn (by omega)) (crossgR_r hW0 hH0 hW hH b hn (by omega)) q3 q4
    · exact counts_law W H b l false a c1 _ _ _ _ _ (crossgP_noR hW0 hH0 hW hH b hn (fun i h1 h2 => by omega)) (crossgR_no hW0 hH0 hW hH b hn false (fun h => by unfold thr at h; rw [if_neg (by simp)] at h; omega)) q3 q4
end Go.Proofs.Ytaelfinlmbkhnaa
