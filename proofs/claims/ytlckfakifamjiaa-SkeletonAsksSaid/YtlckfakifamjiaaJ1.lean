/- Part 1 of the proof's own texts: the contracts of functions, and what they rest on. -/
import Derived.Test.YtlckfakifamjiaaProg
import Derived.Test.YtlckfakifamjiaaBw3
import Derived.Test.YtlckfakifamjiaaBw5
import Derived.Test.YtlckfakifamjiaaBw4
import Derived.Shelf.Sort.AssemblyIn
import Derived.Shelf.Slices.CompactI
/- Closed facts on the types. -/
namespace Go.Proofs.Ytlckfakifamjiaa
open Go Go.Proofs Go.AW
theorem follows : Try.prog.follows .mixedOrders = true := by kernel_rfl
-- 0: ()
theorem ag0 : agT Try.prog 0 = some (false, 1) := by kernel_rfl
-- 3: int
theorem ag3 : agT Try.prog 3 = some (false, 1) := by kernel_rfl
theorem zc3 : zT Try.prog 3 = some ([I 0], 1) := by kernel_rfl
-- 4: bool
theorem ag4 : agT Try.prog 4 = some (false, 1) := by kernel_rfl
theorem zc4 : zT Try.prog 4 = some ([B false], 1) := by kernel_rfl
instance bo4 : BoT Try.prog 4 := ⟨by kernel_rfl⟩
-- 9: string
theorem ag9 : agT Try.prog 9 = some (false, 1) := by kernel_rfl
theorem zc9 : zT Try.prog 9 = some ([.val (.string ⟨#[]⟩)], 1) := by kernel_rfl
-- 16: *runtime.PanicNilError
theorem ag16 : agT Try.prog 16 = some (false, 1) := by kernel_rfl
theorem zc16 : zT Try.prog 16 = some ([.val (.pointer none)], 1) := by kernel_rfl
-- 22: []bool
theorem ag22 : agT Try.prog 22 = some (false, 1) := by kernel_rfl
theorem zc22 : zT Try.prog 22 = some ([.cap0 true], 1) := by kernel_rfl
instance S22 : SlT Try.prog 22 4 1 (.bool false) := SlT.of (by kernel_rfl) (by kernel_rfl)
-- 24: api.Grid
theorem ag24 : agT Try.prog 24 = some (true, 3) := by kernel_rfl
theorem zc24 : zT Try.prog 24 = some ([I 0, I 0, .cap0 true], 3) := by kernel_rfl
theorem fo24_0 : fOff Try.prog 24 0 = some 0 := by kernel_rfl
theorem ft24_0 : fOT Try.prog 24 0 = some (0, 3) := by kernel_rfl
theorem fo24_1 : fOff Try.prog 24 1 = some 1 := by kernel_rfl
theorem ft24_1 : fOT Try.prog 24 1 = some (1, 3) := by kernel_rfl
theorem fo24_2 : fOff Try.prog 24 2 = some 2 := by kernel_rfl
theorem ft24_2 : fOT Try.prog 24 2 = some (2, 22) := by kernel_rfl
theorem fl24 : flT Try.prog 24 = some ([(0, 1), (1, 1), (2, 1)], [I 0, I 0, .cap0 true]) := by kernel_rfl
-- 25: []int
theorem ag25 : agT Try.prog 25 = some (false, 1) := by kernel_rfl
theorem zc25 : zT Try.prog 25 = some ([.cap0 true], 1) := by kernel_rfl
instance S25 : SlT Try.prog 25 3 8 (.int .i64 0) := SlT.of (by kernel_rfl) (by kernel_rfl)
-- 27: api.Errno
theorem ag27 : agT Try.prog 27 = some (false, 1) := by kernel_rfl
theorem zc27 : zT Try.prog 27 = some ([I 0], 1) := by kernel_rfl
-- 49: func(int) bool
theorem ag49 : agT Try.prog 49 = some (false, 1) := by kernel_rfl
theorem zc49 : zT Try.prog 49 = some ([.val .nilFunc], 1) := by kernel_rfl
-- 57: skeleton.family
theorem ag57 : agT Try.prog 57 = some (false, 1) := by kernel_rfl
theorem zc57 : zT Try.prog 57 = some ([.val (.int .u16 0)], 1) := by kernel_rfl
-- 62: iter.Seq[[]bool]
theorem ag62 : agT Try.prog 62 = some (false, 1) := by kernel_rfl
theorem zc62 : zT Try.prog 62 = some ([.val .nilFunc], 1) := by kernel_rfl
-- 66: uint
theorem ag66 : agT Try.prog 66 = some (false, 1) := by kernel_rfl
theorem zc66 : zT Try.prog 66 = some ([.val (.int .u64 0)], 1) := by kernel_rfl
-- 71: [16]bool
theorem ag71 : agT Try.prog 71 = some (true, 16) := by kernel_rfl
theorem zc71 : zT Try.prog 71 = some (bools (List.replicate 16 false), 16) := by kernel_rfl
theorem fl71 : flT Try.prog 71 = some ([(0, 1), (1, 1), (2, 1), (3, 1), (4, 1), (5, 1), (6, 1), (7, 1), (8, 1), (9, 1), (10, 1), (11, 1), (12, 1), (13, 1), (14, 1), (15, 1)], bools (List.replicate 16 false)) := by kernel_rfl
-- 73: func([]bool) bool
theorem ag73 : agT Try.prog 73 = some (false, 1) := by kernel_rfl
theorem zc73 : zT Try.prog 73 = some ([.val .nilFunc], 1) := by kernel_rfl
-- 75: slices.sortedHint
theorem ag75 : agT Try.prog 75 = some (false, 1) := by kernel_rfl
theorem zc75 : zT Try.prog 75 = some ([I 0], 1) := by kernel_rfl
-- 85: uint64
theorem ag85 : agT Try.prog 85 = some (false, 1) := by kernel_rfl
theorem zc85 : zT Try.prog 85 = some ([.val (.int .u64 0)], 1) := by kernel_rfl
-- 87: slices.xorshift
theorem ag87 : agT Try.prog 87 = some (false, 1) := by kernel_rfl
theorem zc87 : zT Try.prog 87 = some ([.val (.int .u64 0)], 1) := by kernel_rfl
-- 91: *int
theorem ag91 : agT Try.prog 91 = some (false, 1) := by kernel_rfl
theorem zc91 : zT Try.prog 91 = some ([.val (.pointer none)], 1) := by kernel_rfl
-- 93: *slices.xorshift
theorem ag93 : agT Try.prog 93 = some (false, 1) := by kernel_rfl
theorem zc93 : zT Try.prog 93 = some ([.val (.pointer none)], 1) := by kernel_rfl
-- 99: [0]*runtime.PanicNilError
theorem ag99 : agT Try.prog 99 = some (true, 0) := by kernel_rfl
theorem fl99 : flT Try.prog 99 = some ([], []) := by kernel_rfl
-- 101: runtime.PanicNilError
theorem ag101 : agT Try.prog 101 = some (true, 0) := by kernel_rfl
theorem ft101_0 : fOT Try.prog 101 0 = some (0, 99) := by kernel_rfl
theorem fl101 : flT Try.prog 101 = some ([(0, 0)], []) := by kernel_rfl

theorem FX : type_of% @ag0 ∧ type_of% @ag3 ∧ type_of% @zc3 ∧ type_of% @ag4 ∧ type_of% @zc4 ∧ type_of% @ag9 ∧ type_of% @zc9 ∧ type_of% @ag16 ∧ type_of% @zc16 ∧ type_of% @ag22 ∧ type_of% @zc22 ∧ type_of% @ag24 ∧ type_of% @zc24 ∧ type_of% @fo24_0 ∧ type_of% @ft24_0 ∧ type_of% @fo24_1 ∧ type_of% @ft24_1 ∧ type_of% @fo24_2 ∧ type_of% @ft24_2 ∧ type_of% @fl24 ∧ type_of% @ag25 ∧ type_of% @zc25 ∧ type_of% @ag27 ∧ type_of% @zc27 ∧ type_of% @ag49 ∧ type_of% @zc49 ∧ type_of% @ag57 ∧ type_of% @zc57 ∧ type_of% @ag62 ∧ type_of% @zc62 ∧ type_of% @ag66 ∧ type_of% @zc66 ∧ type_of% @ag71 ∧ type_of% @zc71 ∧ type_of% @fl71 ∧ type_of% @ag73 ∧ type_of% @zc73 ∧ type_of% @ag75 ∧ type_of% @zc75 ∧ type_of% @ag85 ∧ type_of% @zc85 ∧ type_of% @ag87 ∧ type_of% @zc87 ∧ type_of% @ag91 ∧ type_of% @zc91 ∧ type_of% @ag93 ∧ type_of% @zc93 ∧ type_of% @ag99 ∧ type_of% @fl99 ∧ type_of% @ag101 ∧ type_of% @ft101_0 ∧ type_of% @fl101 :=
  ⟨@ag0, @ag3, @zc3, @ag4, @zc4, @ag9, @zc9, @ag16, @zc16, @ag22, @zc22, @ag24, @zc24, @fo24_0, @ft24_0, @fo24_1, @ft24_1, @fo24_2, @ft24_2, @fl24, @ag25, @zc25, @ag27, @zc27, @ag49, @zc49, @ag57, @zc57, @ag62, @zc62, @ag66, @zc66, @ag71, @zc71, @fl71, @ag73, @zc73, @ag75, @zc75, @ag85, @zc85, @ag87, @zc87, @ag91, @zc91, @ag93, @zc93, @ag99, @fl99, @ag101, @ft101_0, @fl101⟩
end Go.Proofs.Ytlckfakifamjiaa

/- Grids: their checks. -/
set_option linter.unusedSimpArgs false
set_option linter.unusedVariables false
set_option maxRecDepth 100000
namespace Go.Proofs.Ytlckfakifamjiaa
open Go Go.Proofs Go.AW

abbrev LA (b : Bool) (l : List Int) : AVal := .list false b l.length (ints l)
abbrev LR (b : Bool) (l : List Int) : AVal := .list true b l.length (ints l)
abbrev BA (b : Bool) (l : List Bool) : AVal := .list false b l.length (bools l)
abbrev GA (w h : Int) (b : Bool) (l : List Bool) : AVal := .agg [I w, I h, BA b l]
theorem great_c (w h : Int) (b : Bool) (l : List Bool) : Contract Try.prog 4 [GA w h b l] (B (decide (4200 < (l.length : Int)))) := by
  refine Contract.intro (effS [] false) 6 follows Try.func4 rfl rfl (by kernel_rfl) (Nat.le_of_ble_eq_true rfl) ?_
  simp (disch := omega) only [↓RP, RG, FX, RQ, ↓reduceIte, Nat.reduceEqDiff, reduceCtorEq, Nat.reduceBEq, Nat.reduceAdd, Nat.reduceLeDiff, args0_1]
  rw [resVal_1 rfl]; simp (disch := first | assumption | omega | rfl | simp only [RH]) only [↓RP, RG, FX, RQ, ↓reduceIte, Nat.reduceEqDiff, reduceCtorEq, Nat.reduceBEq, Nat.reduceAdd, Nat.reduceLeDiff, RS]

/-- The error of a grid. -/
def gchk (w h n : Int) : Int := if 64 < w ∨ 64 < h then 4 else if w < 1 ∨ h < 1 ∨ n ≠ w * h then 8 else 0
def gOk (w h n : Int) : Prop := 1 ≤ w ∧ w ≤ 64 ∧ 1 ≤ h ∧ h ≤ 64 ∧ n = w * h
theorem gchk_ok {w h n : Int} (hg : gOk w h n) : gchk w h n = 0 := by
  obtain ⟨h1, h2, h3, h4, h5⟩ := hg
  unfold gchk
  rw [if_neg (by omega), if_neg (by omega)]
theorem gchk_iff {w h n : Int} : gchk w h n = 0 ↔ gOk w h n := by
  refine ⟨fun hz => ?_, gchk_ok⟩
  unfold gchk at hz
  unfold gOk
  split at hz
  · omega
  · split at hz
    · omega
    · omega
theorem prod64 {w h : Int} (h1 : 0 ≤ w) (h2 : w ≤ 64) (h3 : 0 ≤ h) (h4 : h ≤ 64) : 0 ≤ w * h ∧ w * h ≤ 4096 := by
  constructor
  · exact Int.mul_nonneg h1 h3
  · have := Int.mul_le_mul h2 h4 h3 (by omega); omega

theorem gcheckP_c (w h : Int) (b : Bool) (l : List Bool) : Contract Try.prog 14 [GA w h b l] (I (gchk w h l.length)) := by
  unfold gchk
  refine Contract.intro (effS [] false) 6 follows Try.func14 rfl rfl (by kernel_rfl) (Nat.le_of_ble_eq_true rfl) ?_
  by_cases c1 : 64 < w ∨ 64 < h
  · rw [if_pos c1]
    have : 64 < max w h := by omega
    simp (disch := omega) only [↓RP, RG, FX, RQ, ↓reduceIte, Nat.reduceEqDiff, reduceCtorEq, Nat.reduceBEq, Nat.reduceAdd, Nat.reduceLeDiff, args0_1]
    rw [resVal_1 rfl]; simp (disch := first | assumption | omega | rfl | simp only [RH]) only [↓RP, RG, FX, RQ, ↓reduceIte, Nat.reduceEqDiff, reduceCtorEq, Nat.reduceBEq, Nat.reduceAdd, Nat.reduceLeDiff, RS]
  rw [if_neg c1]
  have : ¬ 64 < max w h := by omega
  by_cases c2 : w < 1 ∨ h < 1
  · rw [if_pos (by omega)]
    have : min w h < 1 := by omega
    simp (disch := omega) only [↓RP, RG, FX, RQ, ↓reduceIte, Nat.reduceEqDiff, reduceCtorEq, Nat.reduceBEq, Nat.reduceAdd, Nat.reduceLeDiff, args0_1]
    rw [resVal_1 rfl]; simp (disch := first | assumption | omega | rfl | simp only [RH]) only [↓RP, RG, FX, RQ, ↓reduceIte, Nat.reduceEqDiff, reduceCtorEq, Nat.reduceBEq, Nat.reduceAdd, Nat.reduceLeDiff, RS]
  have : ¬ min w h < 1 := by omega
  have hp := prod64 (w := w) (h := h) (by omega) (by omega) (by omega) (by omega)
  by_cases c3 : (l.length : Int) = w * h
  · rw [if_neg (by omega)]
    simp (disch := omega) only [↓RP, RG, FX, RQ, ↓reduceIte, Nat.reduceEqDiff, reduceCtorEq, Nat.reduceBEq, Nat.reduceAdd, Nat.reduceLeDiff, args0_1]
    rw [resVal_1 rfl]; simp (disch := first | assumption | omega | rfl | simp only [RH]) only [↓RP, RG, FX, RQ, ↓reduceIte, Nat.reduceEqDiff, reduceCtorEq, Nat.reduceBEq, Nat.reduceAdd, Nat.reduceLeDiff, RS]
  · rw [if_pos (by omega)]
    simp (disch := omega) only [↓RP, RG, FX, RQ, ↓reduceIte, Nat.reduceEqDiff, reduceCtorEq, Nat.reduceBEq, Nat.reduceAdd, Nat.reduceLeDiff, args0_1]
    rw [resVal_1 rfl]; simp (disch := first | assumption | omega | rfl | simp only [RH]) only [↓RP, RG, FX, RQ, ↓reduceIte, Nat.reduceEqDiff, reduceCtorEq, Nat.reduceBEq, Nat.reduceAdd, Nat.reduceLeDiff, RS]

theorem gcheckR_c (w h : Int) (b : Bool) (l : List Bool) : Contract Try.prog 18 [GA w h b l] (I (gchk w h l.length)) := by
  unfold gchk
  refine Contract.intro (effS [] false) 6 follows Try.func18 rfl rfl (by kernel_rfl) (Nat.le_of_ble_eq_true rfl) ?_
  by_cases c0 : 64 < w
  · rw [if_pos (by omega)]
    simp (disch := omega) only [↓RP, RG, FX, RQ, ↓reduceIte, Nat.reduceEqDiff, reduceCtorEq, Nat.reduceBEq, Nat.reduceAdd, Nat.reduceLeDiff, args0_1]
    rw [resVal_1 rfl]; simp (disch := first | assumption | omega | rfl | simp only [RH]) only [↓RP, RG, FX, RQ, ↓reduceIte, Nat.reduceEqDiff, reduceCtorEq, Nat.reduceBEq, Nat.reduceAdd, Nat.reduceLeDiff, RS]
  by_cases c1 : 64 < h
  · rw [if_pos (by omega)]
    simp (disch := omega) only [↓RP, RG, FX, RQ, ↓reduceIte, Nat.reduceEqDiff, reduceCtorEq, Nat.reduceBEq, Nat.reduceAdd, Nat.reduceLeDiff, args0_1]
    rw [resVal_1 rfl]; simp (disch := first | assumption | omega | rfl | simp only [RH]) only [↓RP, RG, FX, RQ, ↓reduceIte, Nat.reduceEqDiff, reduceCtorEq, Nat.reduceBEq, Nat.reduceAdd, Nat.reduceLeDiff, RS]
  rw [if_neg (by omega)]
  by_cases c2 : w < 1
  · rw [if_pos (by omega)]
    simp (disch := omega) only [↓RP, RG, FX, RQ, ↓reduceIte, Nat.reduceEqDiff, reduceCtorEq, Nat.reduceBEq, Nat.reduceAdd, Nat.reduceLeDiff, args0_1]
    rw [resVal_1 rfl]; simp (disch := first | assumption | omega | rfl | simp only [RH]) only [↓RP, RG, FX, RQ, ↓reduceIte, Nat.reduceEqDiff, reduceCtorEq, Nat.reduceBEq, Nat.reduceAdd, Nat.reduceLeDiff, RS]
  by_cases c3 : h < 1
  · rw [if_pos (by omega)]
    simp (disch := omega) only [↓RP, RG, FX, RQ, ↓reduceIte, Nat.reduceEqDiff, reduceCtorEq, Nat.reduceBEq, Nat.reduceAdd, Nat.reduceLeDiff, args0_1]
    rw [resVal_1 rfl]; simp (disch := first | assumption | omega | rfl | simp only [RH]) only [↓RP, RG, FX, RQ, ↓reduceIte, Nat.reduceEqDiff, reduceCtorEq, Nat.reduceBEq, Nat.reduceAdd, Nat.reduceLeDiff, RS]
  have hp := prod64 (w := w) (h := h) (by omega) (by omega) (by omega) (by omega)
  by_cases c4 : (l.length : Int) = w * h
  · rw [if_neg (by omega)]
    simp (disch := omega) only [↓RP, RG, FX, RQ, ↓reduceIte, Nat.reduceEqDiff, reduceCtorEq, Nat.reduceBEq, Nat.reduceAdd, Nat.reduceLeDiff, args0_1]
    rw [resVal_1 rfl]; simp (disch := first | assumption | omega | rfl | simp only [RH]) only [↓RP, RG, FX, RQ, ↓reduceIte, Nat.reduceEqDiff, reduceCtorEq, Nat.reduceBEq, Nat.reduceAdd, Nat.reduceLeDiff, RS]
  · rw [if_pos (by omega)]
    simp (disch := omega) only [↓RP, RG, FX, RQ, ↓reduceIte, Nat.reduceEqDiff, reduceCtorEq, Nat.reduceBEq, Nat.reduceAdd, Nat.reduceLeDiff, args0_1]
    rw [resVal_1 rfl]; simp (disch := first | assumption | omega | rfl | simp only [RH]) only [↓RP, RG, FX, RQ, ↓reduceIte, Nat.reduceEqDiff, reduceCtorEq, Nat.reduceBEq, Nat.reduceAdd, Nat.reduceLeDiff, RS]
end Go.Proofs.Ytlckfakifamjiaa

/- Lists: compared. -/
set_option linter.unusedSimpArgs false
set_option linter.unusedVariables false
set_option maxRecDepth 100000
namespace Go.Proofs.Ytlckfakifamjiaa
open Go Go.Proofs Go.AW

/-- Lists compared. -/
theorem same02_c (b1 b2 : Bool) (l m : List Int) (hl : l.length ≤ 9223372036854775807) : Contract Try.prog 11 [LA b1 l, LA b2 m] (B (decide (l = m))) := by
  refine Contract.intro (effS [] false) 6 follows Try.func11 rfl rfl (by kernel_rfl) (Nat.le_of_ble_eq_true rfl) ?_
  by_cases hlen : l.length = m.length
  · simp (disch := first | assumption | omega | rfl | simp only [RH]) only [↓RP, RG, FX, RQ, ↓reduceIte, Nat.reduceEqDiff, reduceCtorEq, Nat.reduceBEq, Nat.reduceAdd, Nat.reduceLeDiff, args0_2]
    refine loopK_I [0, 1, 5] (fun k : Nat => k ≤ l.length ∧ l.take k = m.take k) (fun k : Nat => ⟨[(0, LA b1 l), (1, LA b2 m), (5, I k)], []⟩) (fun k => l.length - k) 0 (by simp) (by simp only [↓RP, RG, FX, RQ, ↓reduceIte, Nat.reduceEqDiff, reduceCtorEq, Nat.reduceBEq, Nat.reduceAdd, Nat.reduceLeDiff]; rfl) ?_
    rintro k ⟨hk, htk⟩
    by_cases hlt : k < l.length
    · by_cases he : l.getD k 0 = m.getD k 0
      · simp (disch := first | assumption | omega | rfl | simp only [RH]) only [↓RP, RG, FX, RQ, ↓reduceIte, Nat.reduceEqDiff, reduceCtorEq, Nat.reduceBEq, Nat.reduceAdd, Nat.reduceLeDiff]
        refine ⟨k + 1, ⟨by omega, ?_⟩, rfl, by omega⟩
        rw [List.take_add_one, List.take_add_one, htk]
        simp [hlt, show k < m.length by omega] at he
        rw [List.getElem?_eq_getElem hlt, List.getElem?_eq_getElem (show k < m.length by omega), he]
      · simp (disch := first | assumption | omega | rfl | simp only [RH]) only [↓RP, RG, FX, RQ, ↓reduceIte, Nat.reduceEqDiff, reduceCtorEq, Nat.reduceBEq, Nat.reduceAdd, Nat.reduceLeDiff]
        rw [resVal_1 rfl]; simp (disch := first | assumption | omega | rfl | simp only [RH]) only [↓RP, RG, FX, RQ, ↓reduceIte, Nat.reduceEqDiff, reduceCtorEq, Nat.reduceBEq, Nat.reduceAdd, Nat.reduceLeDiff, RS]
        refine okF ?_
        rintro rfl; exact he rfl
    · simp (disch := first | assumption | omega | rfl | simp only [RH]) only [↓RP, RG, FX, RQ, ↓reduceIte, Nat.reduceEqDiff, reduceCtorEq, Nat.reduceBEq, Nat.reduceAdd, Nat.reduceLeDiff]
      rw [resVal_1 rfl]; simp (disch := first | assumption | omega | rfl | simp only [RH]) only [↓RP, RG, FX, RQ, ↓reduceIte, Nat.reduceEqDiff, reduceCtorEq, Nat.reduceBEq, Nat.reduceAdd, Nat.reduceLeDiff, RS]
      refine okT ?_
      have hk' : k = l.length := by omega
      rw [hk', List.take_length] at htk
      rw [htk, hlen, List.take_length]
  · simp (disch := first | assumption | omega | rfl | simp only [RH]) only [↓RP, RG, FX, RQ, ↓reduceIte, Nat.reduceEqDiff, reduceCtorEq, Nat.reduceBEq, Nat.reduceAdd, Nat.reduceLeDiff, args0_2]
    rw [resVal_1 rfl]; simp (disch := first | assumption | omega | rfl | simp only [RH]) only [↓RP, RG, FX, RQ, ↓reduceIte, Nat.reduceEqDiff, reduceCtorEq, Nat.reduceBEq, Nat.reduceAdd, Nat.reduceLeDiff, RS]
    refine okF ?_
    rintro rfl; exact hlen rfl

end Go.Proofs.Ytlckfakifamjiaa

/- Lists: least and greatest element, within a range; cells of grids. -/
set_option linter.unusedSimpArgs false
set_option linter.unusedVariables false
set_option maxRecDepth 100000
namespace Go.Proofs.Ytlckfakifamjiaa
open Go Go.Proofs Go.AW

/-- It has elements, all of them from 0 to n - 1. -/
def wIn (l : List Int) (n : Int) : Prop := 0 < l.length ∧ ∀ j, j < l.length → 0 ≤ l.getD j 0 ∧ l.getD j 0 < n
instance (l : List Int) (n : Int) : Decidable (wIn l n) := by unfold wIn; infer_instance

/-- A grid's cell. -/
def cell (w : Int) (l : List Bool) (x y : Int) : Bool := l.getD (y * w + x).toNat false

theorem at_c (w h : Int) (b : Bool) (l : List Bool) (x y : Int) (h0 : 0 ≤ y * w + x) (h1 : y * w + x < l.length) (h2 : l.length ≤ 1000000000000) (h3 : 0 ≤ y * w) (h4 : y * w ≤ 1000000000000) : Contract Try.prog 34 [GA w h b l, I x, I y] (B (cell w l x y)) := by
  refine Contract.intro (effS [] false) 6 follows Try.func34 rfl rfl (by kernel_rfl) (Nat.le_of_ble_eq_true rfl) ?_
  simp (disch := first | assumption | omega | rfl | simp only [RH]) only [↓RP, RG, FX, RQ, ↓reduceIte, Nat.reduceEqDiff, reduceCtorEq, Nat.reduceBEq, Nat.reduceAdd, Nat.reduceLeDiff, args0_3]
  rw [resVal_1 rfl]; simp (disch := first | assumption | omega | rfl | simp only [RH]) only [↓RP, RG, FX, RQ, ↓reduceIte, Nat.reduceEqDiff, reduceCtorEq, Nat.reduceBEq, Nat.reduceAdd, Nat.reduceLeDiff, RS]
  rfl

end Go.Proofs.Ytlckfakifamjiaa

/- Grids: compared, copied. -/
set_option linter.unusedSimpArgs false
set_option linter.unusedVariables false
set_option maxRecDepth 100000
namespace Go.Proofs.Ytlckfakifamjiaa
open Go Go.Proofs Go.AW

end Go.Proofs.Ytlckfakifamjiaa

/- Drafts: their checks. -/
set_option linter.unusedSimpArgs false
set_option linter.unusedVariables false
set_option maxRecDepth 100000
namespace Go.Proofs.Ytlckfakifamjiaa
open Go Go.Proofs Go.AW

end Go.Proofs.Ytlckfakifamjiaa

/- Drafts: tables, drawdowns, lifts. -/
set_option linter.unusedSimpArgs false
set_option linter.unusedVariables false
set_option maxRecDepth 100000
namespace Go.Proofs.Ytlckfakifamjiaa
open Go Go.Proofs Go.AW

theorem ints_isEmpty (l : List Int) : (ints l).isEmpty = l.isEmpty := by cases l <;> rfl

end Go.Proofs.Ytlckfakifamjiaa

/- Drafts: drawdowns and lifts, of the program and the reference. -/
set_option linter.unusedSimpArgs false
set_option linter.unusedVariables false
set_option maxRecDepth 100000
namespace Go.Proofs.Ytlckfakifamjiaa
open Go Go.Proofs Go.AW

theorem idx_nat (W y x : Nat) : ((y : Int) * (W : Int) + (x : Int)).toNat = W * y + x := by
  rw [← Int.natCast_mul, ← Int.natCast_add, Int.toNat_natCast, Nat.mul_comm]
theorem idx_lt {W H x y : Nat} (hx : x < W) (hy : y < H) : W * y + x < W * H := by
  have : W * (y + 1) ≤ W * H := Nat.mul_le_mul_left W hy
  rw [Nat.mul_succ] at this; omega

end Go.Proofs.Ytlckfakifamjiaa

/- Kinds: numbered by first occurrence. Plain. -/
set_option linter.unusedSimpArgs false
set_option linter.unusedVariables false
namespace Go.Proofs.Ytlckfakifamjiaa

section
variable {α : Type} [DecidableEq α] {β : Type} [DecidableEq β]

end
end Go.Proofs.Ytlckfakifamjiaa

/- The kinds of rows. -/
set_option linter.unusedSimpArgs false
set_option linter.unusedVariables false
set_option maxRecDepth 100000
namespace Go.Proofs.Ytlckfakifamjiaa
open Go Go.Proofs Go.AW

end Go.Proofs.Ytlckfakifamjiaa

/- The kinds of rows, by the reference. -/
set_option linter.unusedSimpArgs false
set_option linter.unusedVariables false
set_option maxRecDepth 100000
namespace Go.Proofs.Ytlckfakifamjiaa
open Go Go.Proofs Go.AW

def nI (l : List Nat) : List Int := l.map fun n : Nat => (n : Int)
theorem nI_len (l : List Nat) : (nI l).length = l.length := by simp [nI]
theorem nI_app (l : List Nat) (n : Nat) : nI (l ++ [n]) = nI l ++ [(n : Int)] := by simp [nI]
theorem nI_get (l : List Nat) (k : Nat) : (nI l).getD k 0 = ((l.getD k 0 : Nat) : Int) := by
  simp only [nI, List.getD_eq_getElem?_getD, List.getElem?_map]
  cases l[k]? <;> rfl
end Go.Proofs.Ytlckfakifamjiaa

/- Families of sets as numbers: their digits; what is reached by joining; least lists. Plain. -/
set_option linter.unusedSimpArgs false
set_option linter.unusedVariables false
set_option maxRecDepth 100000
namespace Go.Proofs.Ytlckfakifamjiaa
open Go Go.Proofs Go.AW

/-- The digits of a number that are 1. -/
def bitsL (f : Nat) : List Nat := (List.range 16).filter fun i => f.testBit i
theorem mem_bitsL {f i : Nat} : i ∈ bitsL f ↔ i < 16 ∧ f.testBit i = true := by
  simp only [bitsL, List.mem_filter, List.mem_range]
theorem bitsL_inc (f : Nat) : (bitsL f).Pairwise (· < ·) := List.Pairwise.filter _ List.pairwise_lt_range
/-- What at most k of a list's sets join to. -/
def Rk (tie : List Nat) : Nat → Nat → Prop
  | 0, i => i = 0
  | k + 1, i => Rk tie k i ∨ ∃ x, Rk tie k x ∧ ∃ t ∈ tie, i = x ||| t
theorem Rk_lt {tie : List Nat} {s : Nat} (h : ∀ t ∈ tie, t < 2 ^ s) : ∀ k i, Rk tie k i → i < 2 ^ s
  | 0, i, g => by
    have : i = 0 := g
    subst this; exact Nat.two_pow_pos s
  | k + 1, i, g => by
    rcases g with g | ⟨x, g, t, ht, e⟩
    · exact Rk_lt h k i g
    · subst e; exact Nat.or_lt_two_pow (Rk_lt h k x g) (h t ht)
/-- It covers these lifts. -/
def Cov (tie lifts : List Nat) (feet : Nat) : Prop := ∀ x ∈ lifts, Rk tie feet x
/-- Ahead of it, by their elements. -/
def lexlt : List Nat → List Nat → Prop
  | [], [] => False
  | [], _ :: _ => True
  | _ :: _, [] => False
  | a :: x, b :: y => a < b ∨ a = b ∧ lexlt x y
theorem lexlt_irr : ∀ a, ¬ lexlt a a
  | [] => id
  | a :: x => by
    rintro (h | ⟨_, h⟩)
    · omega
    · exact lexlt_irr x h
theorem lexlt_trans : ∀ {a b c : List Nat}, lexlt a b → lexlt b c → lexlt a c
  | [], [], _, h, _ => h.elim
  | [], _ :: _, [], _, h => h.elim
  | [], _ :: _, _ :: _, _, _ => trivial
  | _ :: _, [], _, h, _ => h.elim
  | _ :: _, _ :: _, [], _, h => h.elim
  | a :: x, b :: y, c :: z, h, g => by
    rcases h with h | ⟨h1, h2⟩
    · rcases g with g | ⟨g1, g2⟩
      · exact .inl (by omega)
      · exact .inl (by omega)
    · rcases g with g | ⟨g1, g2⟩
      · exact .inl (by omega)
      · exact .inr ⟨by omega, lexlt_trans h2 g2⟩
theorem lexlt_total : ∀ (a b : List Nat), lexlt a b ∨ a = b ∨ lexlt b a
  | [], [] => .inr (.inl rfl)
  | [], _ :: _ => .inl trivial
  | _ :: _, [] => .inr (.inr trivial)
  | a :: x, b :: y => by
    rcases Nat.lt_trichotomy a b with h | h | h
    · exact .inl (.inl h)
    · subst h
      rcases lexlt_total x y with g | g | g
      · exact .inl (.inr ⟨rfl, g⟩)
      · subst g; exact .inr (.inl rfl)
      · exact .inr (.inr (.inr ⟨rfl, g⟩))
    · exact .inr (.inr (.inl h))
/-- Fewer, or as many and ahead. -/
def btr (a b : List Nat) : Prop := a.length < b.length ∨ a.length = b.length ∧ lexlt a b
theorem btr_irr (a : List Nat) : ¬ btr a a := by
  rintro (h | ⟨_, h⟩)
  · omega
  · exact lexlt_irr a h
theorem btr_trans {a b c : List Nat} (h : btr a b) (g : btr b c) : btr a c := by
  rcases h with h | ⟨h1, h2⟩
  · rcases g with g | ⟨g1, g2⟩ <;> exact .inl (by omega)
  · rcases g with g | ⟨g1, g2⟩
    · exact .inl (by omega)
    · exact .inr ⟨by omega, lexlt_trans h2 g2⟩
theorem btr_total (a b : List Nat) : btr a b ∨ a = b ∨ btr b a := by
  rcases Nat.lt_trichotomy a.length b.length with h | h | h
  · exact .inl (.inl h)
  · rcases lexlt_total a b with g | g | g
    · exact .inl (.inr ⟨h, g⟩)
    · exact .inr (.inl g)
    · exact .inr (.inr (.inr ⟨h.symm, g⟩))
  · exact .inr (.inr (.inl h))
/-- A tie-up. -/
def Tie (s : Nat) (u : List Nat) : Prop := u.Pairwise (· < ·) ∧ ∀ x ∈ u, 0 < x ∧ x < 2 ^ s
/-- Each tie-up is a family. -/
def famN : List Nat → Nat
  | [] => 0
  | x :: r => 2 ^ x ||| famN r
theorem famN_bit : ∀ (u : List Nat) (i : Nat), (famN u).testBit i = true ↔ i ∈ u
  | [], i => by simp [famN]
  | x :: r, i => by
    simp only [famN]
    rw [Nat.testBit_or, Bool.or_eq_true, famN_bit r i, Nat.testBit_two_pow, List.mem_cons]
    simp only [decide_eq_true_eq]
    constructor
    · rintro (h | h)
      · exact .inl h.symm
      · exact .inr h
    · rintro (h | h)
      · exact .inl h.symm
      · exact .inr h
theorem famN_ok {s : Nat} (hs : s ≤ 4) {u : List Nat} (hu : Tie s u) : famN u % 2 = 0 ∧ famN u < 2 ^ (2 ^ s) ∧ bitsL (famN u) = u := by
  have hs16 : 2 ^ s ≤ 16 := by
    have := Nat.pow_le_pow_right (show 0 < 2 by omega) hs
    simpa using this
  refine ⟨?_, ?_, ?_⟩
  · have h0 : ¬ (famN u).testBit 0 = true := fun h => by
      have := (hu.2 0 ((famN_bit u 0).1 h)).1; omega
    rw [Nat.testBit_zero] at h0
    simp at h0; omega
  · refine Nat.lt_pow_two_of_testBit _ fun i hi => ?_
    cases h : (famN u).testBit i with
    | false => rfl
    | true => have := (hu.2 i ((famN_bit u i).1 h)).2; omega
  · have hmem : ∀ x, x ∈ bitsL (famN u) ↔ x ∈ u := fun x => by
      rw [mem_bitsL, famN_bit]
      exact ⟨fun h => h.2, fun h => ⟨by have := (hu.2 x h).2; omega, h⟩⟩
    have key : nI (bitsL (famN u)) = nI u := by
      refine sinc_ext _ _ ?_ ?_ fun x => ?_
      · unfold nI; rw [List.pairwise_map]; exact (bitsL_inc _).imp fun h => by omega
      · unfold nI; rw [List.pairwise_map]; exact hu.1.imp fun h => by omega
      · unfold nI
        simp only [List.mem_map]
        constructor
        · rintro ⟨a, ha, rfl⟩; exact ⟨a, (hmem a).1 ha, rfl⟩
        · rintro ⟨a, ha, rfl⟩; exact ⟨a, (hmem a).2 ha, rfl⟩
    have : ∀ a b : List Nat, nI a = nI b → a = b := by
      intro a
      induction a with
      | nil => intro b h; cases b with | nil => rfl | cons y b => simp [nI] at h
      | cons x a ih =>
        intro b h
        cases b with
        | nil => simp [nI] at h
        | cons y b =>
          simp only [nI, List.map_cons, List.cons.injEq] at h
          have h1 : x = y := by omega
          rw [h1, ih b h.2]
    exact this _ _ key
/-- The least tie-up. -/
structure Lst (s : Nat) (lifts : List Nat) (feet : Nat) (u : List Nat) : Prop where
  tie : Tie s u
  cov : Cov u lifts feet
  min : ∀ v, Tie s v → Cov v lifts feet → ¬ btr v u
end Go.Proofs.Ytlckfakifamjiaa

/- Least lists: more feet, fewer lifts. Plain. -/
set_option linter.unusedSimpArgs false
set_option linter.unusedVariables false
set_option maxRecDepth 100000
namespace Go.Proofs.Ytlckfakifamjiaa
open Go Go.Proofs Go.AW

def joinL : List Nat → Nat
  | [] => 0
  | t :: r => joinL r ||| t
/-- The lifts that are not empty. -/
def nzL (s : Nat) (lifts : List Nat) : List Nat := (List.range (2 ^ s)).filter fun x => decide (0 < x ∧ x ∈ lifts)
theorem mem_nz {s : Nat} {lifts : List Nat} {x : Nat} : x ∈ nzL s lifts ↔ x < 2 ^ s ∧ 0 < x ∧ x ∈ lifts := by
  simp only [nzL, List.mem_filter, List.mem_range, decide_eq_true_eq]
theorem nz_tie (s : Nat) (lifts : List Nat) : Tie s (nzL s lifts) :=
  ⟨List.Pairwise.filter _ List.pairwise_lt_range, fun x hx => ⟨(mem_nz.1 hx).2.1, (mem_nz.1 hx).1⟩⟩
end Go.Proofs.Ytlckfakifamjiaa

/- The least lists of the examples. Plain. -/
set_option linter.unusedSimpArgs false
set_option linter.unusedVariables false
set_option maxRecDepth 100000
namespace Go.Proofs.Ytlckfakifamjiaa
open Go Go.Proofs Go.AW

end Go.Proofs.Ytlckfakifamjiaa

/- Operations on small numbers, digit by digit. -/
set_option linter.unusedSimpArgs false
set_option linter.unusedVariables false
set_option maxRecDepth 100000
namespace Go.Proofs.Ytlckfakifamjiaa
open Go Go.Proofs Go.AW

section
variable {fb fn ff fl fz : Operand → Bool} {fD : Nat → Bool} {fy : Option (Value × (List AVal → List AObj → List AObj → Prop))} {P : Program} {dst : Option Tmp} {ty : TypeId} {pos : String} {after : Array Edge} {g : Option (Nat × Bool)} {ρ : Operand → AVal} {h : List AObj} {K : AVal → List AObj → Prop}
end
theorem aBin_shr (P : Program) (t : TypeId) (k k' : IntKind) (a b : Int) : aBin P t .shr (.val (.int k a)) (.val (.int k' b)) = aInt .shr k a b := by simp [aBin, isShift]
theorem aBin_shl (P : Program) (t : TypeId) (k k' : IntKind) (a b : Int) : aBin P t .shl (.val (.int k a)) (.val (.int k' b)) = aInt .shl k a b := by simp [aBin, isShift]
theorem wr16 {n : Nat} (h : n < 65536) : IntKind.u16.wrap (n : Int) = n := by
  have e1 : IntKind.u16.bits = 16 := rfl
  have e2 : IntKind.u16.signed = false := rfl
  simp only [IntKind.wrap, e1, e2]
  simp
  omega
theorem wr64 {n : Nat} (h : n < 1000000) : IntKind.i64.wrap (n : Int) = n := wrap_id (by omega) (by omega)
theorem ofI16 {n : Nat} : BitVec.ofInt 16 (n : Int) = BitVec.ofNat 16 n := BitVec.ofInt_natCast 16 n
theorem ofI64 {n : Nat} : BitVec.ofInt 64 (n : Int) = BitVec.ofNat 64 n := BitVec.ofInt_natCast 64 n
theorem and16 {x y : Nat} (hx : x < 65536) (hy : y < 65536) : aInt .and .u16 (x : Int) (y : Int) = some (.val (.int .u16 ((x &&& y : Nat) : Int))) := by
  show some (AVal.val (.int .u16 (IntKind.u16.wrap ((BitVec.ofInt 16 (x : Int) &&& BitVec.ofInt 16 (y : Int)).toNat)))) = _
  rw [ofI16, ofI16, BitVec.toNat_and, BitVec.toNat_ofNat, BitVec.toNat_ofNat, Nat.mod_eq_of_lt (by omega), Nat.mod_eq_of_lt (by omega), wr16 (Nat.lt_of_le_of_lt Nat.and_le_left hx)]
theorem or16 {x y : Nat} (hx : x < 65536) (hy : y < 65536) : aInt .or .u16 (x : Int) (y : Int) = some (.val (.int .u16 ((x ||| y : Nat) : Int))) := by
  show some (AVal.val (.int .u16 (IntKind.u16.wrap ((BitVec.ofInt 16 (x : Int) ||| BitVec.ofInt 16 (y : Int)).toNat)))) = _
  rw [ofI16, ofI16, BitVec.toNat_or, BitVec.toNat_ofNat, BitVec.toNat_ofNat, Nat.mod_eq_of_lt (by omega), Nat.mod_eq_of_lt (by omega), wr16 (Nat.or_lt_two_pow (n := 16) hx hy)]
theorem or64 {x y : Nat} (hx : x < 16) (hy : y < 16) : aInt .or .i64 (x : Int) (y : Int) = some (.val (.int .i64 ((x ||| y : Nat) : Int))) := by
  show some (AVal.val (.int .i64 (IntKind.i64.wrap ((BitVec.ofInt 64 (x : Int) ||| BitVec.ofInt 64 (y : Int)).toNat)))) = _
  rw [ofI64, ofI64, BitVec.toNat_or, BitVec.toNat_ofNat, BitVec.toNat_ofNat, Nat.mod_eq_of_lt (by omega), Nat.mod_eq_of_lt (by omega), wr64 (Nat.lt_of_lt_of_le (Nat.or_lt_two_pow (n := 4) hx hy) (by omega))]
theorem and16_1 {x : Nat} (hx : x < 65536) : aInt .and .u16 (x : Int) 1 = some (.val (.int .u16 ((x % 2 : Nat) : Int))) := by
  have := and16 (x := x) (y := 1) hx (by omega)
  rwa [Nat.and_one_is_mod] at this
theorem shr16 {x n : Nat} (hn : n ≤ 16) : aInt .shr .u16 (x : Int) (n : Int) = some (.val (.int .u16 ((x / 2 ^ n : Nat) : Int))) := by
  have e : (min (Int.toNat (n : Int)) IntKind.u16.bits) = n := by
    rw [Int.toNat_natCast, show IntKind.u16.bits = 16 from rfl]; omega
  show (if (n : Int) < 0 then none else some _) = _
  rw [if_neg (by omega), e, show ((2 : Int) ^ n) = ((2 ^ n : Nat) : Int) by norm_cast, Int.fdiv_eq_ediv_of_nonneg _ (Int.natCast_nonneg _)]
  rfl
theorem shl16 {n : Nat} (hn : n < 16) : aInt .shl .u16 1 (n : Int) = some (.val (.int .u16 ((2 ^ n : Nat) : Int))) := by
  have e : (min (Int.toNat (n : Int)) IntKind.u16.bits) = n := by
    rw [Int.toNat_natCast, show IntKind.u16.bits = 16 from rfl]; omega
  show (if (n : Int) < 0 then none else some _) = _
  rw [if_neg (by omega), e, Int.one_mul, show ((2 : Int) ^ n) = ((2 ^ n : Nat) : Int) by norm_cast, wr16 (by
    have := Nat.pow_lt_pow_right (show 1 < 2 by omega) hn
    simpa using this)]
theorem shl64 {n : Nat} (hn : n ≤ 16) : aInt .shl .i64 1 (n : Int) = some (.val (.int .i64 ((2 ^ n : Nat) : Int))) := by
  have e : (min (Int.toNat (n : Int)) IntKind.i64.bits) = n := by
    rw [Int.toNat_natCast, show IntKind.i64.bits = 64 from rfl]; omega
  show (if (n : Int) < 0 then none else some _) = _
  have h16 : 2 ^ n ≤ 2 ^ 16 := Nat.pow_le_pow_right (by omega) hn
  rw [if_neg (by omega), e, Int.one_mul, show ((2 : Int) ^ n) = ((2 ^ n : Nat) : Int) by norm_cast, wr64 (by omega)]
def andn (a b : Nat) : Nat := (BitVec.ofNat 16 a &&& ~~~ BitVec.ofNat 16 b).toNat
theorem andn16 {x y : Nat} : aInt .andNot .u16 (x : Int) (y : Int) = some (.val (.int .u16 ((andn x y : Nat) : Int))) := by
  show some (AVal.val (.int .u16 (IntKind.u16.wrap ((BitVec.ofInt 16 (x : Int) &&& ~~~ BitVec.ofInt 16 (y : Int)).toNat)))) = _
  rw [ofI16, ofI16, wr16 (BitVec.isLt _)]; rfl
theorem andn_zero {x y : Nat} (hx : x < 65536) : andn x y = 0 ↔ ∀ i, x.testBit i = true → y.testBit i = true := by
  have hb : ∀ i, (andn x y).testBit i = (decide (i < 16) && (x.testBit i && !y.testBit i)) := fun i => by
    unfold andn
    rw [BitVec.testBit_toNat, BitVec.getLsbD_and, BitVec.getLsbD_not, BitVec.getLsbD_ofNat, BitVec.getLsbD_ofNat]
    by_cases h : i < 16
    · simp [h]
    · simp [h]
  constructor
  · intro h i hi
    have := hb i
    rw [h, Nat.zero_testBit, hi] at this
    have hlt : i < 16 := Nat.lt_of_not_le fun hle => by
      rw [Nat.testBit_lt_two_pow (Nat.lt_of_lt_of_le (show x < 2 ^ 16 from hx) (Nat.pow_le_pow_right (by omega) hle))] at hi
      cases hi
    rw [decide_eq_true hlt] at this
    cases hy : y.testBit i with
    | true => rfl
    | false => rw [hy] at this; cases this
  · intro h
    refine Nat.eq_of_testBit_eq fun i => ?_
    rw [hb, Nat.zero_testBit]
    cases hx : x.testBit i with
    | false => simp
    | true => rw [h i hx]; simp
end Go.Proofs.Ytlckfakifamjiaa

/- The library's counting of digits. -/
set_option linter.unusedSimpArgs false
set_option linter.unusedVariables false
set_option maxRecDepth 100000
namespace Go.Proofs.Ytlckfakifamjiaa
open Go Go.Proofs Go.AW
/-- The sign of a comparison of numbers. -/
def sg (x y : Int) : Int := if x < y then -1 else if y < x then 1 else 0
end Go.Proofs.Ytlckfakifamjiaa

/- Families of lifts, by the program. -/
set_option linter.unusedSimpArgs false
set_option linter.unusedVariables false
set_option maxRecDepth 100000
namespace Go.Proofs.Ytlckfakifamjiaa
open Go Go.Proofs Go.AW

theorem feet_c (n : Int) : Contract Try.prog 21 [I n] (B (decide (1 ≤ n ∧ n ≤ 4))) := by
  by_cases c1 : 1 ≤ n
  · by_cases c2 : n ≤ 4
    · refine Contract.intro (effS [] false) 6 follows Try.func21 rfl rfl (by kernel_rfl) (Nat.le_of_ble_eq_true rfl) ?_
      simp (disch := first | assumption | omega | rfl | simp only [RH]) only [↓RP, RG, FX, RQ, ↓reduceIte, Nat.reduceEqDiff, reduceCtorEq, Nat.reduceBEq, Nat.reduceAdd, Nat.reduceLeDiff, args0_1]
      rw [resVal_1 rfl]; simp (disch := first | assumption | omega | rfl | simp only [RH]) only [↓RP, RG, FX, RQ, ↓reduceIte, Nat.reduceEqDiff, reduceCtorEq, Nat.reduceBEq, Nat.reduceAdd, Nat.reduceLeDiff, RS]
      first | done | simp [c1, c2]
    · refine Contract.intro (effS [] false) 6 follows Try.func21 rfl rfl (by kernel_rfl) (Nat.le_of_ble_eq_true rfl) ?_
      simp (disch := first | assumption | omega | rfl | simp only [RH]) only [↓RP, RG, FX, RQ, ↓reduceIte, Nat.reduceEqDiff, reduceCtorEq, Nat.reduceBEq, Nat.reduceAdd, Nat.reduceLeDiff, args0_1]
      rw [resVal_1 rfl]; simp (disch := first | assumption | omega | rfl | simp only [RH]) only [↓RP, RG, FX, RQ, ↓reduceIte, Nat.reduceEqDiff, reduceCtorEq, Nat.reduceBEq, Nat.reduceAdd, Nat.reduceLeDiff, RS]
      first | done | simp [c1, c2]
  · refine Contract.intro (effS [] false) 6 follows Try.func21 rfl rfl (by kernel_rfl) (Nat.le_of_ble_eq_true rfl) ?_
    simp (disch := first | assumption | omega | rfl | simp only [RH]) only [↓RP, RG, FX, RQ, ↓reduceIte, Nat.reduceEqDiff, reduceCtorEq, Nat.reduceBEq, Nat.reduceAdd, Nat.reduceLeDiff, args0_1]
    rw [resVal_1 rfl]; simp (disch := first | assumption | omega | rfl | simp only [RH]) only [↓RP, RG, FX, RQ, ↓reduceIte, Nat.reduceEqDiff, reduceCtorEq, Nat.reduceBEq, Nat.reduceAdd, Nat.reduceLeDiff, RS]
    first | done | simp [c1]
theorem pow4 {s : Nat} (hs : s ≤ 4) : 2 ^ s ≤ 16 ∧ 1 ≤ 2 ^ s := by
  have := Nat.pow_le_pow_right (show 0 < 2 by omega) hs
  exact ⟨by simpa using this, Nat.two_pow_pos s⟩
theorem outF_c {s : Nat} (hs : s ≤ 4) (x : Int) (r : Bool) (hr : r = true ↔ ¬ (0 ≤ x ∧ x < ((2 ^ s : Nat) : Int))) : Contract Try.prog 36 [I x, .spot false [I s]] (B r) := by
  obtain ⟨p1, p2⟩ := pow4 hs
  have hsh := shl64 (n := s) (by omega)
  generalize 2 ^ s = q at *
  by_cases c1 : x < 0
  · obtain rfl : r = true := hr.2 (by omega)
    refine Contract.intro (effS [] false) 6 follows Try.func36 rfl rfl (by kernel_rfl) (Nat.le_of_ble_eq_true rfl) ?_
    simp (disch := first | assumption | omega | rfl | simp only [RH]) only [↓RP, RG, FX, RQ, ↓reduceIte, Nat.reduceEqDiff, reduceCtorEq, Nat.reduceBEq, Nat.reduceAdd, Nat.reduceLeDiff, args0_2]
    rw [resVal_1 rfl]; simp (disch := first | assumption | omega | rfl | simp only [RH]) only [↓RP, RG, FX, RQ, ↓reduceIte, Nat.reduceEqDiff, reduceCtorEq, Nat.reduceBEq, Nat.reduceAdd, Nat.reduceLeDiff, RS]
  · by_cases c2 : x < (q : Int)
    · obtain rfl : r = false := by cases r with | false => rfl | true => exact absurd ⟨by omega, c2⟩ (hr.1 rfl)
      refine Contract.intro (effS [] false) 6 follows Try.func36 rfl rfl (by kernel_rfl) (Nat.le_of_ble_eq_true rfl) ?_
      simp (disch := first | assumption | omega | rfl | simp only [RH]) only [↓RP, RG, FX, RQ, ↓reduceIte, Nat.reduceEqDiff, reduceCtorEq, Nat.reduceBEq, Nat.reduceAdd, Nat.reduceLeDiff, args0_2, aBin_shl, hsh]
      rw [resVal_1 rfl]; simp (disch := first | assumption | omega | rfl | simp only [RH]) only [↓RP, RG, FX, RQ, ↓reduceIte, Nat.reduceEqDiff, reduceCtorEq, Nat.reduceBEq, Nat.reduceAdd, Nat.reduceLeDiff, RS]
    · obtain rfl : r = true := hr.2 (by omega)
      refine Contract.intro (effS [] false) 6 follows Try.func36 rfl rfl (by kernel_rfl) (Nat.le_of_ble_eq_true rfl) ?_
      simp (disch := first | assumption | omega | rfl | simp only [RH]) only [↓RP, RG, FX, RQ, ↓reduceIte, Nat.reduceEqDiff, reduceCtorEq, Nat.reduceBEq, Nat.reduceAdd, Nat.reduceLeDiff, args0_2, aBin_shl, hsh]
      rw [resVal_1 rfl]; simp (disch := first | assumption | omega | rfl | simp only [RH]) only [↓RP, RG, FX, RQ, ↓reduceIte, Nat.reduceEqDiff, reduceCtorEq, Nat.reduceBEq, Nat.reduceAdd, Nat.reduceLeDiff, RS]
/-- There is one of them that is out of range. -/
theorem someOut_c {s : Nat} (hs : s ≤ 4) (bs : Bool) (l : List Int) (hl : l.length ≤ 1000000) (r : Bool) (hr : r = true ↔ ∃ i, i < l.length ∧ ¬ (0 ≤ l.getD i 0 ∧ l.getD i 0 < ((2 ^ s : Nat) : Int))) :
    Contract Try.prog 35 [LA bs l, .func (.func 36) [] [.spot false [I s]]] (B r) := by
  generalize hq : ((2 ^ s : Nat) : Int) = q at *
  have key : Contract Try.prog 54 [LA bs l, .func (.func 36) [] [.spot false [I s]]] (I (if r = true then (l.findIdx fun x => !decide (0 ≤ x ∧ x < q) : Nat) else -1)) := by
    refine Contract.intro (effS [] false) 6 follows Try.func54 rfl rfl (by kernel_rfl) (Nat.le_of_ble_eq_true rfl) ?_
    simp (disch := first | assumption | omega | rfl | simp only [RH]) only [↓RP, RG, FX, RQ, ↓reduceIte, Nat.reduceEqDiff, reduceCtorEq, Nat.reduceBEq, Nat.reduceAdd, Nat.reduceLeDiff, args0_2]
    refine loopK_I [0, 1, 7, 8] (fun k : Nat => k ≤ l.length ∧ ∀ j, j < k → 0 ≤ l.getD j 0 ∧ l.getD j 0 < q) (fun k : Nat => ⟨[(0, LA bs l), (1, .func (.func 36) [] [.spot false [I s]]), (7, I l.length), (8, I k)], []⟩) (fun k => l.length - k) 0 ⟨by omega, fun j hj => by omega⟩ (by simp only [↓RP, RG, FX, RQ, ↓reduceIte, Nat.reduceEqDiff, reduceCtorEq, Nat.reduceBEq, Nat.reduceAdd, Nat.reduceLeDiff]; rfl) ?_
    rintro k ⟨hk, hall⟩
    by_cases hlt : k < l.length
    · have hgd : ∀ (j : Nat) (hj : j < l.length), l.getD j 0 = l[j]'hj := fun j hj => by rw [List.getD_eq_getElem?_getD, List.getElem?_eq_getElem hj]; rfl
      by_cases hc : 0 ≤ l.getD k 0 ∧ l.getD k 0 < q
      · have hNI := outF_c hs (l.getD k 0) false ⟨fun h => (by cases h), fun h => absurd hc (by rw [hq] at h; exact h)⟩
        simp (disch := first | assumption | omega | rfl | simp only [RH]) only [↓RP, RG, FX, RQ, ↓reduceIte, Nat.reduceEqDiff, reduceCtorEq, Nat.reduceBEq, Nat.reduceAdd, Nat.reduceLeDiff]
        refine callK_V 6 hNI (by simp (disch := omega) only [↓RP, RG, FX, RQ, ↓reduceIte, Nat.reduceEqDiff, reduceCtorEq, Nat.reduceBEq, Nat.reduceAdd, Nat.reduceLeDiff, RA] <;> rfl) (.inl rfl) ?_
        simp (disch := first | assumption | omega | rfl | simp only [RH]) only [↓RP, RG, FX, RQ, ↓reduceIte, Nat.reduceEqDiff, reduceCtorEq, Nat.reduceBEq, Nat.reduceAdd, Nat.reduceLeDiff]
        refine ⟨k + 1, ⟨hlt, fun j hj => ?_⟩, rfl, by omega⟩
        by_cases e : j = k
        · subst e; exact hc
        · exact hall j (by omega)
      · have hNI := outF_c hs (l.getD k 0) true ⟨fun _ => by rw [hq]; exact hc, fun _ => rfl⟩
        have hrt : r = true := hr.2 ⟨k, hlt, hc⟩
        have hf : (l.findIdx fun x => !decide (0 ≤ x ∧ x < q)) = k := by
          refine (List.findIdx_eq hlt).2 ⟨?_, fun j hj => ?_⟩
          · rw [hgd k hlt] at hc
            simp only [decide_eq_false hc, Bool.not_false]
          · have := hall j hj
            rw [hgd j (by omega)] at this
            simp only [decide_eq_true this, Bool.not_true]
        rw [if_pos hrt, hf]
        simp (disch := first | assumption | omega | rfl | simp only [RH]) only [↓RP, RG, FX, RQ, ↓reduceIte, Nat.reduceEqDiff, reduceCtorEq, Nat.reduceBEq, Nat.reduceAdd, Nat.reduceLeDiff]
        refine callK_V 6 hNI (by simp (disch := omega) only [↓RP, RG, FX, RQ, ↓reduceIte, Nat.reduceEqDiff, reduceCtorEq, Nat.reduceBEq, Nat.reduceAdd, Nat.reduceLeDiff, RA] <;> rfl) (.inl rfl) ?_
        simp (disch := first | assumption | omega | rfl | simp only [RH]) only [↓RP, RG, FX, RQ, ↓reduceIte, Nat.reduceEqDiff, reduceCtorEq, Nat.reduceBEq, Nat.reduceAdd, Nat.reduceLeDiff]
        rw [resVal_1 rfl]; simp (disch := first | assumption | omega | rfl | simp only [RH]) only [↓RP, RG, FX, RQ, ↓reduceIte, Nat.reduceEqDiff, reduceCtorEq, Nat.reduceBEq, Nat.reduceAdd, Nat.reduceLeDiff, RS]
    · obtain rfl : k = l.length := by omega
      have hrf : r = false := by
        cases r with
        | false => rfl
        | true =>
          obtain ⟨i, h1, h2⟩ := hr.1 rfl
          exact absurd (hall i h1) h2
      subst hrf
      simp (disch := first | assumption | omega | rfl | simp only [RH]) only [↓RP, RG, FX, RQ, ↓reduceIte, Nat.reduceEqDiff, reduceCtorEq, Nat.reduceBEq, Nat.reduceAdd, Nat.reduceLeDiff]
      rw [resVal_1 rfl]; simp (disch := first | assumption | omega | rfl | simp only [RH]) only [↓RP, RG, FX, RQ, ↓reduceIte, Nat.reduceEqDiff, reduceCtorEq, Nat.reduceBEq, Nat.reduceAdd, Nat.reduceLeDiff, RS]
      first | done | rfl
  refine Contract.intro (effS [] false) 6 follows Try.func35 rfl rfl (by kernel_rfl) (Nat.le_of_ble_eq_true rfl) ?_
  simp (disch := first | assumption | omega | rfl | simp only [RH]) only [↓RP, RG, FX, RQ, ↓reduceIte, Nat.reduceEqDiff, reduceCtorEq, Nat.reduceBEq, Nat.reduceAdd, Nat.reduceLeDiff, args0_2]
  refine callK_F 6 key (by simp (disch := omega) only [↓RP, RG, FX, RQ, ↓reduceIte, Nat.reduceEqDiff, reduceCtorEq, Nat.reduceBEq, Nat.reduceAdd, Nat.reduceLeDiff, RA] <;> rfl) (.inl rfl) ?_
  cases r with
  | false =>
    rw [if_neg (by simp)]
    simp (disch := first | assumption | omega | rfl | simp only [RH]) only [↓RP, RG, FX, RQ, ↓reduceIte, Nat.reduceEqDiff, reduceCtorEq, Nat.reduceBEq, Nat.reduceAdd, Nat.reduceLeDiff]
    rw [resVal_1 rfl]; simp (disch := first | assumption | omega | rfl | simp only [RH]) only [↓RP, RG, FX, RQ, ↓reduceIte, Nat.reduceEqDiff, reduceCtorEq, Nat.reduceBEq, Nat.reduceAdd, Nat.reduceLeDiff, RS]
  | true =>
    rw [if_pos rfl]
    simp (disch := first | assumption | omega | rfl | simp only [RH]) only [↓RP, RG, FX, RQ, ↓reduceIte, Nat.reduceEqDiff, reduceCtorEq, Nat.reduceBEq, Nat.reduceAdd, Nat.reduceLeDiff]
    rw [resVal_1 rfl]; simp (disch := first | assumption | omega | rfl | simp only [RH]) only [↓RP, RG, FX, RQ, ↓reduceIte, Nat.reduceEqDiff, reduceCtorEq, Nat.reduceBEq, Nat.reduceAdd, Nat.reduceLeDiff, RS]
/-- All of them are sets of shafts. -/
def inR (s : Nat) (l : List Int) : Prop := ∀ i, i < l.length → 0 ≤ l.getD i 0 ∧ l.getD i 0 < ((2 ^ s : Nat) : Int)
theorem sets_c {s : Nat} (hs : s ≤ 4) (b : Bool) (l : List Int) (hl : l.length ≤ 1000000) (r : Bool) (hr : r = true ↔ inR s l) : Contract Try.prog 20 [I s, LA b l] (B r) := by
  have hC := someOut_c hs b l hl (!r) (by
    cases r with
    | true =>
      refine ⟨fun h => (by cases h), fun ⟨i, h1, h2⟩ => absurd (hr.1 rfl i h1) h2⟩
    | false =>
      refine ⟨fun _ => Classical.byContradiction fun hn => ?_, fun _ => rfl⟩
      have : inR s l := fun i hi => Classical.byContradiction fun h => hn ⟨i, hi, h⟩
      have := hr.2 this
      cases this)
  refine Contract.intro (effS [] false) 6 follows Try.func20 rfl rfl (by kernel_rfl) (Nat.le_of_ble_eq_true rfl) ?_
  simp (disch := first | assumption | omega | rfl | simp only [RH]) only [↓RP, RG, FX, RQ, ↓reduceIte, Nat.reduceEqDiff, reduceCtorEq, Nat.reduceBEq, Nat.reduceAdd, Nat.reduceLeDiff, args0_2]
  refine callK_F 6 hC (by simp (disch := omega) only [↓RP, RG, FX, RQ, ↓reduceIte, Nat.reduceEqDiff, reduceCtorEq, Nat.reduceBEq, Nat.reduceAdd, Nat.reduceLeDiff, RA] <;> rfl) (.inl rfl) ?_
  simp (disch := first | assumption | omega | rfl | simp only [RH]) only [↓RP, RG, FX, RQ, ↓reduceIte, Nat.reduceEqDiff, reduceCtorEq, Nat.reduceBEq, Nat.reduceAdd, Nat.reduceLeDiff]
  rw [resVal_1 rfl]; simp (disch := first | assumption | omega | rfl | simp only [RH]) only [↓RP, RG, FX, RQ, ↓reduceIte, Nat.reduceEqDiff, reduceCtorEq, Nat.reduceBEq, Nat.reduceAdd, Nat.reduceLeDiff, RS]
  first | done | simp
/-- The family of the first k lifts. -/
def gK (l : List Nat) : Nat → Nat
  | 0 => 0
  | k + 1 => gK l k ||| 2 ^ (l.getD k 0)
theorem gK_bit (l : List Nat) : ∀ (k i : Nat), (gK l k).testBit i = true ↔ ∃ j, j < k ∧ l.getD j 0 = i
  | 0, i => by simp [gK]
  | k + 1, i => by
    simp only [gK]
    rw [Nat.testBit_or, Bool.or_eq_true, gK_bit l k i, Nat.testBit_two_pow, decide_eq_true_eq]
    constructor
    · rintro (⟨j, h1, h2⟩ | h)
      · exact ⟨j, by omega, h2⟩
      · exact ⟨k, by omega, h⟩
    · rintro ⟨j, h1, h2⟩
      by_cases e : j = k
      · subst e; exact .inr h2
      · exact .inl ⟨j, by omega, h2⟩
theorem p16 {x : Nat} (hx : x < 16) : 2 ^ x < 65536 := Nat.pow_lt_pow_right (show 1 < 2 by omega) hx
theorem gK_lt {l : List Nat} (hl : ∀ i, i < l.length → l.getD i 0 < 16) : ∀ k, k ≤ l.length → gK l k < 65536
  | 0, _ => by simp [gK]
  | k + 1, hk => Nat.or_lt_two_pow (n := 16) (gK_lt hl k (by omega)) (p16 (hl k (by omega)))
theorem gath_c (b : Bool) {l : List Nat} (hn : l.length ≤ 1000) (hl : ∀ i, i < l.length → l.getD i 0 < 16) : Contract Try.prog 28 [LA b (nI l)] (.val (.int .u16 ((gK l l.length : Nat) : Int))) := by
  have ll := nI_len l
  refine Contract.intro (effS [] false) 6 follows Try.func28 rfl rfl (by kernel_rfl) (Nat.le_of_ble_eq_true rfl) ?_
  simp (disch := first | assumption | omega | rfl | simp only [RH]) only [↓RP, RG, FX, RQ, ↓reduceIte, Nat.reduceEqDiff, reduceCtorEq, Nat.reduceBEq, Nat.reduceAdd, Nat.reduceLeDiff, args0_1]
  refine loopK_I [3, 6, 7, 8] (fun k : Nat => k ≤ l.length) (fun k => ⟨[(3, .val (.int .u16 ((gK l k : Nat) : Int))), (6, LA b (nI l)), (7, I (nI l).length), (8, I k)], []⟩) (fun k => l.length - k) 0 (by omega) (by simp only [↓RP, RG, FX, RQ, ↓reduceIte, Nat.reduceEqDiff, reduceCtorEq, Nat.reduceBEq, Nat.reduceAdd, Nat.reduceLeDiff]; rfl) ?_
  intro k hk
  have g1 := gK_lt hl k hk
  by_cases c : k < l.length
  · have hg := nI_get l k
    have g2 := hl k c
    have g3 := p16 g2
    have g4 : gK l (k + 1) = gK l k ||| 2 ^ (l.getD k 0) := rfl
    have s1 := shl16 g2
    have s2 := or16 g1 g3
    generalize l.getD k 0 = x at *
    simp (disch := first | assumption | omega | rfl | simp only [RH]) only [↓RP, RG, FX, RQ, ↓reduceIte, Nat.reduceEqDiff, reduceCtorEq, Nat.reduceBEq, Nat.reduceAdd, Nat.reduceLeDiff, hg, aBin_shl, s1, s2]
    exact ⟨k + 1, c, by rw [g4]; rfl, by omega⟩
  · obtain rfl : k = l.length := by omega
    simp (disch := first | assumption | omega | rfl | simp only [RH]) only [↓RP, RG, FX, RQ, ↓reduceIte, Nat.reduceEqDiff, reduceCtorEq, Nat.reduceBEq, Nat.reduceAdd, Nat.reduceLeDiff]
    rw [resVal_1 rfl]; simp (disch := first | assumption | omega | rfl | simp only [RH]) only [↓RP, RG, FX, RQ, ↓reduceIte, Nat.reduceEqDiff, reduceCtorEq, Nat.reduceBEq, Nat.reduceAdd, Nat.reduceLeDiff, RS]
end Go.Proofs.Ytlckfakifamjiaa

/- What a tie-up covers, by the program. -/
set_option linter.unusedSimpArgs false
set_option linter.unusedVariables false
set_option maxRecDepth 100000
namespace Go.Proofs.Ytlckfakifamjiaa
open Go Go.Proofs Go.AW

theorem bit_mod (n x : Nat) : n.testBit x = decide (n / 2 ^ x % 2 = 1) := Nat.testBit_eq_decide_div_mod_eq
theorem covers_c (b : Bool) {tie : List Nat} (hn : tie.length ≤ 1000) (ht : ∀ i, i < tie.length → tie.getD i 0 < 16) {want : Nat} (hw : want < 65536) {feet : Nat} (hf : feet ≤ 4) (r : Bool) (hr : r = true ↔ ∀ i, want.testBit i = true → Rk tie feet i) :
    Contract Try.prog 27 [LA b (nI tie), .val (.int .u16 (want : Int)), I feet] (B r) := by
  have lt := nI_len tie
  have hmem : ∀ t, t ∈ tie ↔ ∃ j, j < tie.length ∧ tie.getD j 0 = t := fun t => by
    rw [List.mem_iff_getElem]
    constructor
    · rintro ⟨i, hi, h⟩; exact ⟨i, hi, by rw [List.getD_eq_getElem?_getD, List.getElem?_eq_getElem hi]; exact h⟩
    · rintro ⟨i, hi, h⟩; exact ⟨i, hi, by rw [List.getD_eq_getElem?_getD, List.getElem?_eq_getElem hi] at h; exact h⟩
  refine Contract.intro (effS [] false) 6 follows Try.func27 rfl rfl (by kernel_rfl) (Nat.le_of_ble_eq_true rfl) ?_
  simp (disch := first | assumption | omega | rfl | simp only [RH]) only [↓RP, RG, FX, RQ, ↓reduceIte, Nat.reduceEqDiff, reduceCtorEq, Nat.reduceBEq, Nat.reduceAdd, Nat.reduceLeDiff, args0_3]
  refine loopK_I [0, 1, 7, 12, 13] (fun s : Nat × Nat => s.1 ≤ feet ∧ s.2 < 65536 ∧ ∀ i, s.2.testBit i = true ↔ Rk tie s.1 i) (fun s => ⟨[(0, LA b (nI tie)), (1, .val (.int .u16 (want : Int))), (7, .val (.int .u16 (s.2 : Int))), (12, I feet), (13, I s.1)], []⟩) (fun s => feet - s.1) (0, 1) ⟨by simp only; omega, by simp only; omega, fun i => by
    simp only [Rk]
    rw [show (1 : Nat) = 2 ^ 0 from rfl, Nat.testBit_two_pow, decide_eq_true_eq]
    exact eq_comm⟩ (by simp only [↓RP, RG, FX, RQ, ↓reduceIte, Nat.reduceEqDiff, reduceCtorEq, Nat.reduceBEq, Nat.reduceAdd, Nat.reduceLeDiff]; rfl) ?_
  rintro ⟨k, now⟩ ⟨h1, h2, h3⟩
  simp only at h1 h2 h3 ⊢
  by_cases hk : k < feet
  · simp (disch := first | assumption | omega | rfl | simp only [RH]) only [↓RP, RG, FX, RQ, ↓reduceIte, Nat.reduceEqDiff, reduceCtorEq, Nat.reduceBEq, Nat.reduceAdd, Nat.reduceLeDiff]
    refine loopK_I [0, 1, 7, 8, 12, 13, 16] (fun s : Nat × Nat => s.1 ≤ 16 ∧ s.2 < 65536 ∧ ∀ i, s.2.testBit i = true ↔ now.testBit i = true ∨ ∃ x, x < s.1 ∧ now.testBit x = true ∧ ∃ t ∈ tie, i = x ||| t) (fun s => ⟨[(0, LA b (nI tie)), (1, .val (.int .u16 (want : Int))), (7, .val (.int .u16 (now : Int))), (8, .val (.int .u16 (s.2 : Int))), (12, I feet), (13, I k), (16, I s.1)], []⟩) (fun s => 16 - s.1) (0, now) ⟨by simp only; omega, h2, fun i => ⟨.inl, fun h => by
      rcases h with h | ⟨x, hx, _⟩
      · exact h
      · simp only at hx; omega⟩⟩ (by simp only [↓RP, RG, FX, RQ, ↓reduceIte, Nat.reduceEqDiff, reduceCtorEq, Nat.reduceBEq, Nat.reduceAdd, Nat.reduceLeDiff]; rfl) ?_
    rintro ⟨x, nx⟩ ⟨g1, g2, g3⟩
    simp only at g1 g2 g3 ⊢
    by_cases hx : x < 16
    · have hdv : now / 2 ^ x < 65536 := Nat.lt_of_le_of_lt (Nat.div_le_self _ _) h2
      have hbm := bit_mod now x
      have s1 := shr16 (x := now) (n := x) (by omega)
      generalize hq : now / 2 ^ x = q at *
      by_cases hb : q % 2 = 0
      · have hbf : now.testBit x = false := by rw [hbm]; exact decide_eq_false (by omega)
        simp (disch := first | assumption | omega | rfl | simp only [RH]) only [↓RP, RG, FX, RQ, ↓reduceIte, Nat.reduceEqDiff, reduceCtorEq, Nat.reduceBEq, Nat.reduceAdd, Nat.reduceLeDiff, aBin_shr, s1, and16_1]
        refine ⟨(x + 1, nx), ⟨hx, g2, fun i => (g3 i).trans (or_congr_right ⟨fun ⟨y, y1, y2⟩ => ⟨y, by simp only; omega, y2⟩, fun ⟨y, y1, y2, y3⟩ => ⟨y, ?_, y2, y3⟩⟩)⟩, rfl, by simp only; omega⟩
        simp only at y1
        by_cases e : y = x
        · subst e; rw [hbf] at y2; cases y2
        · omega
      · have hbt : now.testBit x = true := by rw [hbm]; exact decide_eq_true (by omega)
        simp (disch := first | assumption | omega | rfl | simp only [RH]) only [↓RP, RG, FX, RQ, ↓reduceIte, Nat.reduceEqDiff, reduceCtorEq, Nat.reduceBEq, Nat.reduceAdd, Nat.reduceLeDiff, aBin_shr, s1, and16_1]
        refine loopK_I [0, 1, 7, 8, 9, 12, 13, 16, 24, 25, 26] (fun s : Nat × Nat => s.1 ≤ tie.length ∧ s.2 < 65536 ∧ ∀ i, s.2.testBit i = true ↔ nx.testBit i = true ∨ ∃ j, j < s.1 ∧ i = x ||| tie.getD j 0) (fun s => ⟨[(0, LA b (nI tie)), (1, .val (.int .u16 (want : Int))), (7, .val (.int .u16 (now : Int))), (8, .val (.int .u16 (s.2 : Int))), (9, I x), (12, I feet), (13, I k), (16, I x), (24, LA b (nI tie)), (25, I (nI tie).length), (26, I s.1)], []⟩) (fun s => tie.length - s.1) (0, nx) ⟨by simp only; omega, g2, fun i => ⟨.inl, fun h => by
          rcases h with h | ⟨j, hj, _⟩
          · exact h
          · simp only at hj; omega⟩⟩ (by simp only [↓RP, RG, FX, RQ, ↓reduceIte, Nat.reduceEqDiff, reduceCtorEq, Nat.reduceBEq, Nat.reduceAdd, Nat.reduceLeDiff]; rfl) ?_
        rintro ⟨j, ny⟩ ⟨f1, f2, f3⟩
        simp only at f1 f2 f3 ⊢
        by_cases hj : j < tie.length
        · have hg := nI_get tie j
          have htj := ht j hj
          have hor : x ||| tie.getD j 0 < 16 := Nat.or_lt_two_pow (n := 4) hx htj
          have hp := p16 hor
          have hny : ny ||| 2 ^ (x ||| tie.getD j 0) < 65536 := Nat.or_lt_two_pow (n := 16) f2 hp
          have s2 := or64 hx htj
          have s3 := shl16 hor
          have s4 := or16 f2 hp
          have f4 : ∀ i, (ny ||| 2 ^ (x ||| tie.getD j 0)).testBit i = true ↔ nx.testBit i = true ∨ ∃ j', j' < j + 1 ∧ i = x ||| tie.getD j' 0 := fun i => by
            rw [Nat.testBit_or, Bool.or_eq_true, f3 i, Nat.testBit_two_pow, decide_eq_true_eq]
            constructor
            · rintro ((h | ⟨j', e1, e2⟩) | h)
              · exact .inl h
              · exact .inr ⟨j', by omega, e2⟩
              · exact .inr ⟨j, by omega, h.symm⟩
            · rintro (h | ⟨j', e1, e2⟩)
              · exact .inl (.inl h)
              · by_cases e : j' = j
                · subst e; exact .inr e2.symm
                · exact .inl (.inr ⟨j', by omega, e2⟩)
          generalize ny ||| 2 ^ (x ||| tie.getD j 0) = nz at *
          generalize hP : 2 ^ (x ||| tie.getD j 0) = P at *
          generalize hO : x ||| tie.getD j 0 = O at *
          generalize tie.getD j 0 = tj at *
          simp (disch := first | assumption | omega | rfl | simp only [RH]) only [↓RP, RG, FX, RQ, ↓reduceIte, Nat.reduceEqDiff, reduceCtorEq, Nat.reduceBEq, Nat.reduceAdd, Nat.reduceLeDiff, hg, aBin_shl, s2, s3, s4]
          exact ⟨(j + 1, nz), ⟨hj, hny, f4⟩, rfl, by simp only; omega⟩
        · obtain rfl : j = tie.length := by omega
          simp (disch := first | assumption | omega | rfl | simp only [RH]) only [↓RP, RG, FX, RQ, ↓reduceIte, Nat.reduceEqDiff, reduceCtorEq, Nat.reduceBEq, Nat.reduceAdd, Nat.reduceLeDiff]
          refine ⟨(x + 1, ny), ⟨hx, f2, fun i => (f3 i).trans ?_⟩, rfl, by simp only; omega⟩
          rw [g3 i]
          simp only
          constructor
          · rintro ((h | ⟨y, y1, y2, y3⟩) | ⟨j', e1, e2⟩)
            · exact .inl h
            · exact .inr ⟨y, by omega, y2, y3⟩
            · exact .inr ⟨x, by omega, hbt, _, (hmem _).2 ⟨j', e1, rfl⟩, e2⟩
          · rintro (h | ⟨y, y1, y2, t, y3, y4⟩)
            · exact .inl (.inl h)
            · by_cases e : y = x
              · subst e
                obtain ⟨j', e1, e2⟩ := (hmem t).1 y3
                exact .inr ⟨j', e1, by rw [e2]; exact y4⟩
              · exact .inl (.inr ⟨y, by omega, y2, t, y3, y4⟩)
    · obtain rfl : x = 16 := by omega
      simp (disch := first | assumption | omega | rfl | simp only [RH]) only [↓RP, RG, FX, RQ, ↓reduceIte, Nat.reduceEqDiff, reduceCtorEq, Nat.reduceBEq, Nat.reduceAdd, Nat.reduceLeDiff]
      refine ⟨(k + 1, nx), ⟨hk, g2, fun i => (g3 i).trans ?_⟩, rfl, by simp only; omega⟩
      simp only [Rk]
      refine or_congr (h3 i) ⟨fun ⟨y, y1, y2, y3⟩ => ⟨y, (h3 y).1 y2, y3⟩, fun ⟨y, y2, y3⟩ => ⟨y, ?_, (h3 y).2 y2, y3⟩⟩
      have := (h3 y).2 y2
      exact Nat.lt_of_not_le fun hle => by
        rw [Nat.testBit_lt_two_pow (Nat.lt_of_lt_of_le (show now < 2 ^ 16 from h2) (Nat.pow_le_pow_right (by omega) hle))] at this
        cases this
  · obtain rfl : k = feet := by omega
    have hz := andn_zero (x := want) (y := now) hw
    have hr2 : r = true ↔ andn want now = 0 := hr.trans (by rw [hz]; exact forall_congr' fun i => imp_congr_right fun _ => (h3 i).symm)
    by_cases c : andn want now = 0
    · obtain rfl := hr2.2 c
      simp (disch := first | assumption | omega | rfl | simp only [RH]) only [↓RP, RG, FX, RQ, ↓reduceIte, Nat.reduceEqDiff, reduceCtorEq, Nat.reduceBEq, Nat.reduceAdd, Nat.reduceLeDiff, andn16]
      rw [resVal_1 rfl]; simp (disch := first | assumption | omega | rfl | simp only [RH]) only [↓RP, RG, FX, RQ, ↓reduceIte, Nat.reduceEqDiff, reduceCtorEq, Nat.reduceBEq, Nat.reduceAdd, Nat.reduceLeDiff, RS]
      first | done | simp [c]
    · obtain rfl : r = false := by cases r with | false => rfl | true => exact absurd (hr2.1 rfl) c
      simp (disch := first | assumption | omega | rfl | simp only [RH]) only [↓RP, RG, FX, RQ, ↓reduceIte, Nat.reduceEqDiff, reduceCtorEq, Nat.reduceBEq, Nat.reduceAdd, Nat.reduceLeDiff, andn16]
      rw [resVal_1 rfl]; simp (disch := first | assumption | omega | rfl | simp only [RH]) only [↓RP, RG, FX, RQ, ↓reduceIte, Nat.reduceEqDiff, reduceCtorEq, Nat.reduceBEq, Nat.reduceAdd, Nat.reduceLeDiff, RS]
      first | done | simp [c]
/-- What a tie-up is: a list of sets that rise. -/
def tieOk (s : Nat) (l : List Int) (k : Nat) : Prop := ∀ i, i < k → (0 < l.getD i 0 ∧ l.getD i 0 < ((2 ^ s : Nat) : Int)) ∧ (0 < i → l.getD (i - 1) 0 < l.getD i 0)
theorem checkP_c (b : Bool) (l : List Int) (hl : l.length ≤ 1000000) {s : Nat} (h1 : 1 ≤ s) (h4 : s ≤ 4) (e : Int) (h0 : tieOk s l l.length → e = 0) (h8 : ¬ tieOk s l l.length → e = 8) : Contract Try.prog 12 [LA b l, I s] (I e) := by
  obtain ⟨p1, p2⟩ := pow4 h4
  have hsh := shl64 (n := s) (by omega)
  unfold tieOk at h0 h8
  generalize 2 ^ s = q at *
  refine Contract.intro (effS [] false) 6 follows Try.func12 rfl rfl (by kernel_rfl) (Nat.le_of_ble_eq_true rfl) ?_
  simp (disch := first | assumption | omega | rfl | simp only [RH]) only [↓RP, RG, FX, RQ, ↓reduceIte, Nat.reduceEqDiff, reduceCtorEq, Nat.reduceBEq, Nat.reduceAdd, Nat.reduceLeDiff, args0_2]
  refine loopK_I [1, 5, 14, 15, 16] (fun k : Nat => k ≤ l.length ∧ ∀ i, i < k → (0 < l.getD i 0 ∧ l.getD i 0 < (q : Int)) ∧ (0 < i → l.getD (i - 1) 0 < l.getD i 0)) (fun k => ⟨[(1, I s), (5, I (if k = 0 then 0 else l.getD (k - 1) 0)), (14, LA b l), (15, I l.length), (16, I k)], []⟩) (fun k => l.length - k) 0 ⟨by omega, fun i hi => by omega⟩ (by simp only [↓RP, RG, FX, RQ, ↓reduceIte, Nat.reduceEqDiff, reduceCtorEq, Nat.reduceBEq, Nat.reduceAdd, Nat.reduceLeDiff]; rfl) ?_
  rintro k ⟨hk, hall⟩
  by_cases hlt : k < l.length
  · have hla : (if k = 0 then (0 : Int) else l.getD (k - 1) 0) = if k = 0 then 0 else l.getD (k - 1) 0 := rfl
    have hlp : 0 ≤ (if k = 0 then (0 : Int) else l.getD (k - 1) 0) := by
      split
      · omega
      · have := (hall (k - 1) (by omega)).1; omega
    have hnext : (if k + 1 = 0 then (0 : Int) else l.getD (k + 1 - 1) 0) = l.getD k 0 := by rw [if_neg (by omega), Nat.add_sub_cancel]
    have hbad : ∀ i, (i = k → ¬ ((0 < l.getD i 0 ∧ l.getD i 0 < (q : Int)) ∧ (0 < i → l.getD (i - 1) 0 < l.getD i 0))) → i = k → e = 8 := fun i hn hi => h8 fun h => hn hi (h i (by omega))
    have hprev : 0 < k → (if k = 0 then (0 : Int) else l.getD (k - 1) 0) = l.getD (k - 1) 0 := fun h => if_neg (by omega)
    have hzero : k = 0 → (if k = 0 then (0 : Int) else l.getD (k - 1) 0) = 0 := fun h => if_pos h
    generalize (if k = 0 then (0 : Int) else l.getD (k - 1) 0) = la at *
    by_cases c1 : l.getD k 0 ≤ la
    · obtain rfl := hbad k (fun _ h => by
        by_cases e0 : k = 0
        · have := hzero e0; have := h.1.1; omega
        · have := hprev (by omega); have := h.2 (by omega); omega) rfl
      simp (disch := first | assumption | omega | rfl | simp only [RH]) only [↓RP, RG, FX, RQ, ↓reduceIte, Nat.reduceEqDiff, reduceCtorEq, Nat.reduceBEq, Nat.reduceAdd, Nat.reduceLeDiff]
      rw [resVal_1 rfl]; simp (disch := first | assumption | omega | rfl | simp only [RH]) only [↓RP, RG, FX, RQ, ↓reduceIte, Nat.reduceEqDiff, reduceCtorEq, Nat.reduceBEq, Nat.reduceAdd, Nat.reduceLeDiff, RS]
    · by_cases c2 : l.getD k 0 < (q : Int)
      · simp (disch := first | assumption | omega | rfl | simp only [RH]) only [↓RP, RG, FX, RQ, ↓reduceIte, Nat.reduceEqDiff, reduceCtorEq, Nat.reduceBEq, Nat.reduceAdd, Nat.reduceLeDiff, aBin_shl, hsh]
        refine ⟨k + 1, ⟨hlt, fun i hi => ?_⟩, by rw [hnext]; rfl, by omega⟩
        by_cases e0 : i = k
        · subst e0
          exact ⟨⟨by omega, c2⟩, fun h => by have := hprev h; omega⟩
        · exact hall i (by omega)
      · obtain rfl := hbad k (fun _ h => by have := h.1.2; omega) rfl
        simp (disch := first | assumption | omega | rfl | simp only [RH]) only [↓RP, RG, FX, RQ, ↓reduceIte, Nat.reduceEqDiff, reduceCtorEq, Nat.reduceBEq, Nat.reduceAdd, Nat.reduceLeDiff, aBin_shl, hsh]
        rw [resVal_1 rfl]; simp (disch := first | assumption | omega | rfl | simp only [RH]) only [↓RP, RG, FX, RQ, ↓reduceIte, Nat.reduceEqDiff, reduceCtorEq, Nat.reduceBEq, Nat.reduceAdd, Nat.reduceLeDiff, RS]
  · obtain rfl : k = l.length := by omega
    obtain rfl := h0 hall
    simp (disch := first | assumption | omega | rfl | simp only [RH]) only [↓RP, RG, FX, RQ, ↓reduceIte, Nat.reduceEqDiff, reduceCtorEq, Nat.reduceBEq, Nat.reduceAdd, Nat.reduceLeDiff]
    rw [resVal_1 rfl]; simp (disch := first | assumption | omega | rfl | simp only [RH]) only [↓RP, RG, FX, RQ, ↓reduceIte, Nat.reduceEqDiff, reduceCtorEq, Nat.reduceBEq, Nat.reduceAdd, Nat.reduceLeDiff, RS]
end Go.Proofs.Ytlckfakifamjiaa

/- The least tie-up, by the program. -/
set_option linter.unusedSimpArgs false
set_option linter.unusedVariables false
set_option maxRecDepth 100000
namespace Go.Proofs.Ytlckfakifamjiaa
open Go Go.Proofs Go.AW

/-- The list found so far. -/
noncomputable def fv : Option (List Nat) → AVal
  | none => .cap0 true
  | some T => gw false 0 (ints (nI T))
end Go.Proofs.Ytlckfakifamjiaa

/- No closed runs here. -/
namespace Go.Proofs.Ytlckfakifamjiaa
open Go Go.Proofs Go.AW
end Go.Proofs.Ytlckfakifamjiaa

/- What a tie-up covers: the whole call; the examples; the law SkeletonLeast. -/
set_option linter.unusedSimpArgs false
set_option linter.unusedVariables false
set_option maxRecDepth 100000
namespace Go.Proofs.Ytlckfakifamjiaa
open Go Go.Proofs Go.AW

theorem toN_eq {l : List Int} (h : ∀ i, i < l.length → 0 ≤ l.getD i 0) : nI (l.map Int.toNat) = l := by
  unfold nI
  rw [List.map_map]
  apply List.ext_getElem (by simp)
  intro i h1 h2
  simp only [List.getElem_map, Function.comp]
  have := h i h2
  rw [List.getD_eq_getElem?_getD, List.getElem?_eq_getElem h2] at this
  have h3 : 0 ≤ l[i] := this
  omega
theorem inR_lt {s : Nat} {l : List Int} (h : inR s l) : ∀ x ∈ l.map Int.toNat, x < 2 ^ s := by
  intro x hx
  obtain ⟨i, hi, e⟩ := List.mem_iff_getElem.1 hx
  rw [List.length_map] at hi
  have := h i hi
  rw [List.getElem_map] at e
  rw [List.getD_eq_getElem?_getD, List.getElem?_eq_getElem hi] at this
  have h2 : 0 ≤ l[i] ∧ l[i] < ((2 ^ s : Nat) : Int) := this
  omega
theorem tieOk_tie {s : Nat} {l : List Int} (h : tieOk s l l.length) : nI (l.map Int.toNat) = l ∧ Tie s (l.map Int.toNat) := by
  have hgd : ∀ (j : Nat) (hj : j < l.length), l.getD j 0 = l[j]'hj := fun j hj => by rw [List.getD_eq_getElem?_getD, List.getElem?_eq_getElem hj]; rfl
  refine ⟨toN_eq fun i hi => by have := (h i hi).1; omega, ?_, fun x hx => ?_⟩
  · have : ∀ (d i : Nat), i + d + 1 < l.length → l.getD i 0 < l.getD (i + d + 1) 0 := by
      intro d
      induction d with
      | zero => intro i hi; have := (h (i + 1) hi).2 (by omega); rwa [show i + 1 - 1 = i by omega] at this
      | succ d ih =>
        intro i hi
        have h1 := ih i (by omega)
        have h2 := (h (i + (d + 1) + 1) hi).2 (by omega)
        rw [show i + (d + 1) + 1 - 1 = i + d + 1 by omega] at h2
        omega
    rw [List.pairwise_iff_getElem]
    intro i j hi hj hij
    rw [List.length_map] at hi hj
    rw [List.getElem_map, List.getElem_map, ← hgd i hi, ← hgd j hj]
    have h1 := this (j - i - 1) i (by omega)
    rw [show i + (j - i - 1) + 1 = j by omega] at h1
    have h2 := (h i hi).1
    omega
  · obtain ⟨i, hi, e⟩ := List.mem_iff_getElem.1 hx
    rw [List.length_map] at hi
    rw [List.getElem_map, ← hgd i hi] at e
    have := (h i hi).1
    omega
theorem tie_tieOk {s : Nat} {u : List Nat} (h : Tie s u) : tieOk s (nI u) (nI u).length := by
  intro i hi
  rw [nI_len] at hi
  have hgd : ∀ (j : Nat) (hj : j < u.length), u.getD j 0 = u[j]'hj := fun j hj => by rw [List.getD_eq_getElem?_getD, List.getElem?_eq_getElem hj]; rfl
  rw [nI_get, nI_get]
  have h1 := h.2 (u.getD i 0) (by rw [hgd i hi]; exact List.getElem_mem hi)
  refine ⟨⟨by omega, by omega⟩, fun h0 => ?_⟩
  have h2 := List.pairwise_iff_getElem.1 h.1 (i - 1) i (by omega) hi (by omega)
  rw [← hgd (i - 1) (by omega), ← hgd i hi] at h2
  omega
theorem coversP_c (b : Bool) {u : List Nat} (hu : u.length ≤ 1000) {s : Nat} (h1 : 1 ≤ s) (h4 : s ≤ 4) (ht : Tie s u) (b2 : Bool) {L : List Nat} (hn : L.length ≤ 1000) (hl : ∀ x ∈ L, x < 2 ^ s) {feet : Nat} (hf1 : 1 ≤ feet) (hf4 : feet ≤ 4) (r : Bool) (hr : r = true ↔ Cov u L feet) :
    Contract Try.prog 9 [LA b (nI u), I s, LA b2 (nI L), I feet] (.tuple [B r, I 0]) := by
  obtain ⟨p1, p2⟩ := pow4 h4
  have hlg : ∀ i, i < L.length → L.getD i 0 < 2 ^ s := fun i hi => hl _ (by rw [List.getD_eq_getElem?_getD, List.getElem?_eq_getElem hi]; exact List.getElem_mem hi)
  have hL := nI_len L
  have hU := nI_len u
  have hin : inR s (nI L) := fun i hi => by
    rw [hL] at hi
    rw [nI_get]
    have := hlg i hi
    omega
  have hfe := feet_c (feet : Int)
  rw [decide_eq_true (by omega)] at hfe
  have hse := sets_c h4 b2 (nI L) (by omega) true ⟨fun _ => hin, fun _ => rfl⟩
  have hga := gath_c b2 hn (fun i hi => by have := hlg i hi; omega)
  have hgl := gK_lt (l := L) (fun i hi => by have := hlg i hi; omega) L.length (Nat.le_refl _)
  have hgb : ∀ i, (gK L L.length).testBit i = true ↔ i ∈ L := fun i => by
    rw [gK_bit, List.mem_iff_getElem]
    constructor
    · rintro ⟨j, hj, h⟩; exact ⟨j, hj, by rw [List.getD_eq_getElem?_getD, List.getElem?_eq_getElem hj] at h; exact h⟩
    · rintro ⟨j, hj, h⟩; exact ⟨j, hj, by rw [List.getD_eq_getElem?_getD, List.getElem?_eq_getElem hj]; exact h⟩
  have hug : ∀ i, i < u.length → u.getD i 0 < 16 := fun i hi => by
    have := (ht.2 (u.getD i 0) (by rw [List.getD_eq_getElem?_getD, List.getElem?_eq_getElem hi]; exact List.getElem_mem hi)).2
    omega
  have hco := covers_c b hu hug hgl hf4 r (hr.trans ⟨fun h i hi => h i ((hgb i).1 hi), fun h x hx => h x ((hgb x).2 hx)⟩)
  have hch := checkP_c b (nI u) (by omega) h1 h4 0 (fun _ => rfl) (fun h => absurd (tie_tieOk ht) h)
  generalize gK L L.length = want at *
  refine Contract.intro (effS [] false) 6 follows Try.func9 rfl rfl (by kernel_rfl) (Nat.le_of_ble_eq_true rfl) ?_
  simp (disch := first | assumption | omega | rfl | simp only [RH]) only [↓RP, RG, FX, RQ, ↓reduceIte, Nat.reduceEqDiff, reduceCtorEq, Nat.reduceBEq, Nat.reduceAdd, Nat.reduceLeDiff, args0_4]
  refine callK_F 6 (hch) (by simp (disch := first | assumption | omega | rfl | simp only [RH]) only [↓RP, RG, FX, RQ, ↓reduceIte, Nat.reduceEqDiff, reduceCtorEq, Nat.reduceBEq, Nat.reduceAdd, Nat.reduceLeDiff, RA] <;> rfl) (.inl (by simp [allFresh, ints_fresh, bools_fresh])) ?_
  simp (disch := first | assumption | omega | rfl | simp only [RH]) only [↓RP, RG, FX, RQ, ↓reduceIte, Nat.reduceEqDiff, reduceCtorEq, Nat.reduceBEq, Nat.reduceAdd, Nat.reduceLeDiff]
  refine callK_F 6 (hfe) (by simp (disch := first | assumption | omega | rfl | simp only [RH]) only [↓RP, RG, FX, RQ, ↓reduceIte, Nat.reduceEqDiff, reduceCtorEq, Nat.reduceBEq, Nat.reduceAdd, Nat.reduceLeDiff, RA] <;> rfl) (.inl (by simp [allFresh, ints_fresh, bools_fresh])) ?_
  simp (disch := first | assumption | omega | rfl | simp only [RH]) only [↓RP, RG, FX, RQ, ↓reduceIte, Nat.reduceEqDiff, reduceCtorEq, Nat.reduceBEq, Nat.reduceAdd, Nat.reduceLeDiff]
  refine callK_F 6 (hse) (by simp (disch := first | assumption | omega | rfl | simp only [RH]) only [↓RP, RG, FX, RQ, ↓reduceIte, Nat.reduceEqDiff, reduceCtorEq, Nat.reduceBEq, Nat.reduceAdd, Nat.reduceLeDiff, RA] <;> rfl) (.inl (by simp [allFresh, ints_fresh, bools_fresh])) ?_
  simp (disch := first | assumption | omega | rfl | simp only [RH]) only [↓RP, RG, FX, RQ, ↓reduceIte, Nat.reduceEqDiff, reduceCtorEq, Nat.reduceBEq, Nat.reduceAdd, Nat.reduceLeDiff]
  refine callK_F 6 (hga) (by simp (disch := first | assumption | omega | rfl | simp only [RH]) only [↓RP, RG, FX, RQ, ↓reduceIte, Nat.reduceEqDiff, reduceCtorEq, Nat.reduceBEq, Nat.reduceAdd, Nat.reduceLeDiff, RA] <;> rfl) (.inl (by simp [allFresh, ints_fresh, bools_fresh])) ?_
  simp (disch := first | assumption | omega | rfl | simp only [RH]) only [↓RP, RG, FX, RQ, ↓reduceIte, Nat.reduceEqDiff, reduceCtorEq, Nat.reduceBEq, Nat.reduceAdd, Nat.reduceLeDiff]
  refine callK_F 6 (hco) (by simp (disch := first | assumption | omega | rfl | simp only [RH]) only [↓RP, RG, FX, RQ, ↓reduceIte, Nat.reduceEqDiff, reduceCtorEq, Nat.reduceBEq, Nat.reduceAdd, Nat.reduceLeDiff, RA] <;> rfl) (.inl (by simp [allFresh, ints_fresh, bools_fresh])) ?_
  simp (disch := first | assumption | omega | rfl | simp only [RH]) only [↓RP, RG, FX, RQ, ↓reduceIte, Nat.reduceEqDiff, reduceCtorEq, Nat.reduceBEq, Nat.reduceAdd, Nat.reduceLeDiff]
  rw [resVal_2 rfl]; simp (disch := first | assumption | omega | rfl | simp only [RH]) only [↓RP, RG, FX, RQ, ↓reduceIte, Nat.reduceEqDiff, reduceCtorEq, Nat.reduceBEq, Nat.reduceAdd, Nat.reduceLeDiff, RS]
theorem feetR_c (n : Int) : Contract Try.prog 24 [I n] (B (decide (1 ≤ n ∧ n ≤ 4))) := by
  by_cases c1 : 1 ≤ n
  · by_cases c2 : n ≤ 4
    · refine Contract.intro (effS [] false) 6 follows Try.func24 rfl rfl (by kernel_rfl) (Nat.le_of_ble_eq_true rfl) ?_
      simp (disch := first | assumption | omega | rfl | simp only [RH]) only [↓RP, RG, FX, RQ, ↓reduceIte, Nat.reduceEqDiff, reduceCtorEq, Nat.reduceBEq, Nat.reduceAdd, Nat.reduceLeDiff, args0_1]
      rw [resVal_1 rfl]; simp (disch := first | assumption | omega | rfl | simp only [RH]) only [↓RP, RG, FX, RQ, ↓reduceIte, Nat.reduceEqDiff, reduceCtorEq, Nat.reduceBEq, Nat.reduceAdd, Nat.reduceLeDiff, RS]
      first | done | simp [c1, c2]
    · refine Contract.intro (effS [] false) 6 follows Try.func24 rfl rfl (by kernel_rfl) (Nat.le_of_ble_eq_true rfl) ?_
      simp (disch := first | assumption | omega | rfl | simp only [RH]) only [↓RP, RG, FX, RQ, ↓reduceIte, Nat.reduceEqDiff, reduceCtorEq, Nat.reduceBEq, Nat.reduceAdd, Nat.reduceLeDiff, args0_1]
      rw [resVal_1 rfl]; simp (disch := first | assumption | omega | rfl | simp only [RH]) only [↓RP, RG, FX, RQ, ↓reduceIte, Nat.reduceEqDiff, reduceCtorEq, Nat.reduceBEq, Nat.reduceAdd, Nat.reduceLeDiff, RS]
      first | done | simp [c1, c2]
  · refine Contract.intro (effS [] false) 6 follows Try.func24 rfl rfl (by kernel_rfl) (Nat.le_of_ble_eq_true rfl) ?_
    simp (disch := first | assumption | omega | rfl | simp only [RH]) only [↓RP, RG, FX, RQ, ↓reduceIte, Nat.reduceEqDiff, reduceCtorEq, Nat.reduceBEq, Nat.reduceAdd, Nat.reduceLeDiff, args0_1]
    rw [resVal_1 rfl]; simp (disch := first | assumption | omega | rfl | simp only [RH]) only [↓RP, RG, FX, RQ, ↓reduceIte, Nat.reduceEqDiff, reduceCtorEq, Nat.reduceBEq, Nat.reduceAdd, Nat.reduceLeDiff, RS]
    first | done | simp [c1]
theorem setR_c {s : Nat} (hs : s ≤ 4) (x : Int) : Contract Try.prog 23 [I x, I s] (B (decide (0 ≤ x ∧ x < ((2 ^ s : Nat) : Int)))) := by
  obtain ⟨p1, p2⟩ := pow4 hs
  have hsh := shl64 (n := s) (by omega)
  generalize 2 ^ s = q at *
  by_cases c1 : 0 ≤ x
  · by_cases c2 : x < (q : Int)
    · refine Contract.intro (effS [] false) 6 follows Try.func23 rfl rfl (by kernel_rfl) (Nat.le_of_ble_eq_true rfl) ?_
      simp (disch := first | assumption | omega | rfl | simp only [RH]) only [↓RP, RG, FX, RQ, ↓reduceIte, Nat.reduceEqDiff, reduceCtorEq, Nat.reduceBEq, Nat.reduceAdd, Nat.reduceLeDiff, args0_2, aBin_shl, hsh]
      rw [resVal_1 rfl]; simp (disch := first | assumption | omega | rfl | simp only [RH]) only [↓RP, RG, FX, RQ, ↓reduceIte, Nat.reduceEqDiff, reduceCtorEq, Nat.reduceBEq, Nat.reduceAdd, Nat.reduceLeDiff, RS]
      first | done | simp [c1, c2]
    · refine Contract.intro (effS [] false) 6 follows Try.func23 rfl rfl (by kernel_rfl) (Nat.le_of_ble_eq_true rfl) ?_
      simp (disch := first | assumption | omega | rfl | simp only [RH]) only [↓RP, RG, FX, RQ, ↓reduceIte, Nat.reduceEqDiff, reduceCtorEq, Nat.reduceBEq, Nat.reduceAdd, Nat.reduceLeDiff, args0_2, aBin_shl, hsh]
      rw [resVal_1 rfl]; simp (disch := first | assumption | omega | rfl | simp only [RH]) only [↓RP, RG, FX, RQ, ↓reduceIte, Nat.reduceEqDiff, reduceCtorEq, Nat.reduceBEq, Nat.reduceAdd, Nat.reduceLeDiff, RS]
      first | done | simp [c1, c2]
  · refine Contract.intro (effS [] false) 6 follows Try.func23 rfl rfl (by kernel_rfl) (Nat.le_of_ble_eq_true rfl) ?_
    simp (disch := first | assumption | omega | rfl | simp only [RH]) only [↓RP, RG, FX, RQ, ↓reduceIte, Nat.reduceEqDiff, reduceCtorEq, Nat.reduceBEq, Nat.reduceAdd, Nat.reduceLeDiff, args0_2]
    rw [resVal_1 rfl]; simp (disch := first | assumption | omega | rfl | simp only [RH]) only [↓RP, RG, FX, RQ, ↓reduceIte, Nat.reduceEqDiff, reduceCtorEq, Nat.reduceBEq, Nat.reduceAdd, Nat.reduceLeDiff, RS]
    first | done | simp [c1]
theorem checkR_c (b : Bool) (l : List Int) (hl : l.length ≤ 1000000) {s : Nat} (h1 : 1 ≤ s) (h4 : s ≤ 4) (e : Int) (h0 : tieOk s l l.length → e = 0) (h8 : ¬ tieOk s l l.length → e = 8) : Contract Try.prog 13 [LA b l, I s] (I e) := by
  obtain ⟨p1, p2⟩ := pow4 h4
  have hsh := shl64 (n := s) (by omega)
  unfold tieOk at h0 h8
  generalize 2 ^ s = q at *
  refine Contract.intro (effS [] false) 6 follows Try.func13 rfl rfl (by kernel_rfl) (Nat.le_of_ble_eq_true rfl) ?_
  simp (disch := first | assumption | omega | rfl | simp only [RH]) only [↓RP, RG, FX, RQ, ↓reduceIte, Nat.reduceEqDiff, reduceCtorEq, Nat.reduceBEq, Nat.reduceAdd, Nat.reduceLeDiff, args0_2]
  refine loopK_I [0, 1, 5, 6] (fun k : Nat => k ≤ l.length ∧ ∀ i, i < k → (0 < l.getD i 0 ∧ l.getD i 0 < (q : Int)) ∧ (0 < i → l.getD (i - 1) 0 < l.getD i 0)) (fun k => ⟨[(0, LA b l), (1, I s), (5, I (if k = 0 then 0 else l.getD (k - 1) 0)), (6, I k)], []⟩) (fun k => l.length - k) 0 ⟨by omega, fun i hi => by omega⟩ (by simp only [↓RP, RG, FX, RQ, ↓reduceIte, Nat.reduceEqDiff, reduceCtorEq, Nat.reduceBEq, Nat.reduceAdd, Nat.reduceLeDiff]; rfl) ?_
  rintro k ⟨hk, hall⟩
  by_cases hlt : k < l.length
  · have hlp : 0 ≤ (if k = 0 then (0 : Int) else l.getD (k - 1) 0) := by
      split
      · omega
      · have := (hall (k - 1) (by omega)).1; omega
    have hnext : (if k + 1 = 0 then (0 : Int) else l.getD (k + 1 - 1) 0) = l.getD k 0 := by rw [if_neg (by omega), Nat.add_sub_cancel]
    have hbad : ∀ i, (i = k → ¬ ((0 < l.getD i 0 ∧ l.getD i 0 < (q : Int)) ∧ (0 < i → l.getD (i - 1) 0 < l.getD i 0))) → i = k → e = 8 := fun i hn hi => h8 fun h => hn hi (h i (by omega))
    have hprev : 0 < k → (if k = 0 then (0 : Int) else l.getD (k - 1) 0) = l.getD (k - 1) 0 := fun h => if_neg (by omega)
    have hzero : k = 0 → (if k = 0 then (0 : Int) else l.getD (k - 1) 0) = 0 := fun h => if_pos h
    generalize (if k = 0 then (0 : Int) else l.getD (k - 1) 0) = la at *
    by_cases c1 : l.getD k 0 ≤ la
    · obtain rfl := hbad k (fun _ h => by
        by_cases e0 : k = 0
        · have := hzero e0; have := h.1.1; omega
        · have := hprev (by omega); have := h.2 (by omega); omega) rfl
      simp (disch := first | assumption | omega | rfl | simp only [RH]) only [↓RP, RG, FX, RQ, ↓reduceIte, Nat.reduceEqDiff, reduceCtorEq, Nat.reduceBEq, Nat.reduceAdd, Nat.reduceLeDiff]
      rw [resVal_1 rfl]; simp (disch := first | assumption | omega | rfl | simp only [RH]) only [↓RP, RG, FX, RQ, ↓reduceIte, Nat.reduceEqDiff, reduceCtorEq, Nat.reduceBEq, Nat.reduceAdd, Nat.reduceLeDiff, RS]
    · by_cases c2 : l.getD k 0 < (q : Int)
      · simp (disch := first | assumption | omega | rfl | simp only [RH]) only [↓RP, RG, FX, RQ, ↓reduceIte, Nat.reduceEqDiff, reduceCtorEq, Nat.reduceBEq, Nat.reduceAdd, Nat.reduceLeDiff, aBin_shl, hsh]
        refine ⟨k + 1, ⟨hlt, fun i hi => ?_⟩, by rw [hnext]; rfl, by omega⟩
        by_cases e0 : i = k
        · subst e0
          exact ⟨⟨by omega, c2⟩, fun h => by have := hprev h; omega⟩
        · exact hall i (by omega)
      · obtain rfl := hbad k (fun _ h => by have := h.1.2; omega) rfl
        simp (disch := first | assumption | omega | rfl | simp only [RH]) only [↓RP, RG, FX, RQ, ↓reduceIte, Nat.reduceEqDiff, reduceCtorEq, Nat.reduceBEq, Nat.reduceAdd, Nat.reduceLeDiff, aBin_shl, hsh]
        rw [resVal_1 rfl]; simp (disch := first | assumption | omega | rfl | simp only [RH]) only [↓RP, RG, FX, RQ, ↓reduceIte, Nat.reduceEqDiff, reduceCtorEq, Nat.reduceBEq, Nat.reduceAdd, Nat.reduceLeDiff, RS]
  · obtain rfl : k = l.length := by omega
    obtain rfl := h0 hall
    simp (disch := first | assumption | omega | rfl | simp only [RH]) only [↓RP, RG, FX, RQ, ↓reduceIte, Nat.reduceEqDiff, reduceCtorEq, Nat.reduceBEq, Nat.reduceAdd, Nat.reduceLeDiff]
    rw [resVal_1 rfl]; simp (disch := first | assumption | omega | rfl | simp only [RH]) only [↓RP, RG, FX, RQ, ↓reduceIte, Nat.reduceEqDiff, reduceCtorEq, Nat.reduceBEq, Nat.reduceAdd, Nat.reduceLeDiff, RS]
end Go.Proofs.Ytlckfakifamjiaa

/- Pressings: the best one. Plain. -/
set_option linter.unusedSimpArgs false
set_option linter.unusedVariables false
set_option maxRecDepth 100000
namespace Go.Proofs.Ytlckfakifamjiaa
open Go Go.Proofs Go.AW

/-- All of the one are in the other. -/
def Sb (x y : Nat) : Prop := ∀ b, x.testBit b = true → y.testBit b = true
/-- The treadles u, and what is lifted already, lift just the lift. -/
def Lf (tie : List Nat) (lift done : Nat) (u : List Nat) : Prop := ∀ b, lift.testBit b = true ↔ done.testBit b = true ∨ ∃ i ∈ u, (tie.getD i 0).testBit b = true
/-- n treadles from an index on that do so. -/
structure Prs (tie : List Nat) (lift n done fr : Nat) (u : List Nat) : Prop where
  len : u.length = n
  inc : u.Pairwise (· < ·)
  low : ∀ i ∈ u, fr ≤ i ∧ i < tie.length
  lif : Lf tie lift done u
theorem lf_cons {tie : List Nat} {lift done i : Nat} {u : List Nat} : Lf tie lift done (i :: u) ↔ Lf tie lift (done ||| tie.getD i 0) u := by
  unfold Lf
  refine forall_congr' fun b => iff_congr Iff.rfl ?_
  rw [Nat.testBit_or, Bool.or_eq_true]
  constructor
  · rintro (h | ⟨j, hj, h⟩)
    · exact .inl (.inl h)
    · rcases List.mem_cons.1 hj with e | e
      · subst e; exact .inl (.inr h)
      · exact .inr ⟨j, e, h⟩
  · rintro ((h | h) | ⟨j, hj, h⟩)
    · exact .inl h
    · exact .inr ⟨i, List.mem_cons_self, h⟩
    · exact .inr ⟨j, List.mem_cons_of_mem _ hj, h⟩
theorem prs_cons {tie : List Nat} {lift n done fr i : Nat} {u : List Nat} : Prs tie lift (n + 1) done fr (i :: u) ↔ (fr ≤ i ∧ i < tie.length) ∧ Prs tie lift n (done ||| tie.getD i 0) (i + 1) u := by
  constructor
  · rintro ⟨h1, h2, h3, h4⟩
    have h2' := List.pairwise_cons.1 h2
    exact ⟨h3 i List.mem_cons_self, by simpa using h1, h2'.2, fun j hj => ⟨h2'.1 j hj, (h3 j (List.mem_cons_of_mem _ hj)).2⟩, lf_cons.1 h4⟩
  · rintro ⟨h0, h1, h2, h3, h4⟩
    refine ⟨by simp [h1], List.pairwise_cons.2 ⟨fun j hj => (h3 j hj).1, h2⟩, fun j hj => ?_, lf_cons.2 h4⟩
    rcases List.mem_cons.1 hj with e | e
    · subst e; exact h0
    · have := h3 j e; omega
/-- A list found: the first of all that do; none: there is none. -/
def Fst (tie : List Nat) (lift n done fr : Nat) (r : Option (List Nat)) : Prop := match r with
  | some u => Prs tie lift n done fr u ∧ ∀ v, Prs tie lift n done fr v → ¬ lexlt v u
  | none => ∀ v, ¬ Prs tie lift n done fr v
theorem fst_zero (tie : List Nat) (lift done fr : Nat) : Fst tie lift 0 done fr (if done = lift then some [] else none) := by
  by_cases h : done = lift
  · rw [if_pos h]
    refine ⟨⟨rfl, List.Pairwise.nil, fun i hi => absurd hi (by simp), fun b => ?_⟩, fun v _ => by cases v <;> simp [lexlt]⟩
    subst h; simp
  · rw [if_neg h]
    intro v hv
    have : v = [] := List.eq_nil_of_length_eq_zero hv.len
    subst this
    refine h (Nat.eq_of_testBit_eq fun b => ?_)
    have := hv.lif b
    simp only [List.not_mem_nil, false_and, exists_false, or_false] at this
    cases h1 : done.testBit b <;> cases h2 : lift.testBit b <;> simp_all
/-- The search at an index: a treadle that lifts too much is passed by. -/
theorem fst_skip {tie : List Nat} {lift n done i : Nat} (hs : ¬ Sb (tie.getD i 0) lift) {r : Option (List Nat)} (h : Fst tie lift (n + 1) done (i + 1) r) : Fst tie lift (n + 1) done i r := by
  have key : ∀ v, Prs tie lift (n + 1) done i v ↔ Prs tie lift (n + 1) done (i + 1) v := fun v => by
    cases v with
    | nil => exact ⟨fun h => by have := h.len; simp at this, fun h => by have := h.len; simp at this⟩
    | cons j v =>
      rw [prs_cons, prs_cons]
      refine and_congr_left fun h2 => ⟨fun h1 => ⟨?_, h1.2⟩, fun h1 => ⟨by omega, h1.2⟩⟩
      refine Nat.lt_of_le_of_ne h1.1 fun e => hs fun b hb => ?_
      subst e
      exact (h2.lif b).2 (.inl (by rw [Nat.testBit_or, hb, Bool.or_true]))
  cases r with
  | none => intro v hv; exact h v ((key v).1 hv)
  | some u => exact ⟨(key u).2 h.1, fun v hv => h.2 v ((key v).1 hv)⟩
theorem fst_found {tie : List Nat} {lift n done i : Nat} (hi : i < tie.length) {u : List Nat} (h : Fst tie lift n (done ||| tie.getD i 0) (i + 1) (some u)) : Fst tie lift (n + 1) done i (some (i :: u)) := by
  refine ⟨prs_cons.2 ⟨⟨Nat.le_refl _, hi⟩, h.1⟩, fun v hv hl => ?_⟩
  cases v with
  | nil => have := hv.len; simp at this
  | cons j v =>
    obtain ⟨h1, h2⟩ := prs_cons.1 hv
    rcases hl with g | ⟨rfl, g⟩
    · omega
    · exact h.2 v h2 g
theorem fst_next {tie : List Nat} {lift n done i : Nat} (h0 : Fst tie lift n (done ||| tie.getD i 0) (i + 1) none) {r : Option (List Nat)} (h : Fst tie lift (n + 1) done (i + 1) r) : Fst tie lift (n + 1) done i r := by
  have key : ∀ v, Prs tie lift (n + 1) done i v ↔ Prs tie lift (n + 1) done (i + 1) v := fun v => by
    cases v with
    | nil => exact ⟨fun h => by have := h.len; simp at this, fun h => by have := h.len; simp at this⟩
    | cons j v =>
      rw [prs_cons, prs_cons]
      refine and_congr_left fun h2 => ⟨fun h1 => ⟨?_, h1.2⟩, fun h1 => ⟨by omega, h1.2⟩⟩
      refine Nat.lt_of_le_of_ne h1.1 fun e => ?_
      subst e
      exact h0 v h2
  cases r with
  | none => intro v hv; exact h v ((key v).1 hv)
  | some u => exact ⟨(key u).2 h.1, fun v hv => h.2 v ((key v).1 hv)⟩
theorem fst_end {tie : List Nat} {lift n done i : Nat} (hi : tie.length ≤ i) : Fst tie lift (n + 1) done i none := by
  intro v hv
  cases v with
  | nil => have := hv.len; simp at this
  | cons j v => have := (prs_cons.1 hv).1; omega
/-- There is an answer. -/
theorem fst_ex (tie : List Nat) (lift n done fr : Nat) : ∃ r, Fst tie lift n done fr r := by
  classical
  induction n generalizing done fr with
  | zero => exact ⟨_, fst_zero tie lift done fr⟩
  | succ n ih =>
    have key : ∀ d fr, tie.length - fr = d → ∃ r, Fst tie lift (n + 1) done fr r := by
      intro d
      induction d with
      | zero => intro fr h; exact ⟨none, fst_end (by omega)⟩
      | succ d ihd =>
        intro fr h
        obtain ⟨r, hr⟩ := ihd (fr + 1) (by omega)
        by_cases hs : Sb (tie.getD fr 0) lift
        · obtain ⟨r', hr'⟩ := ih (done ||| tie.getD fr 0) (fr + 1)
          cases r' with
          | none => exact ⟨r, fst_next hr' hr⟩
          | some u => exact ⟨some (fr :: u), fst_found (by omega) hr'⟩
        · exact ⟨r, fst_skip hs hr⟩
    exact key _ fr rfl
theorem fst_unique {tie : List Nat} {lift n done fr : Nat} {r r' : Option (List Nat)} (h : Fst tie lift n done fr r) (h' : Fst tie lift n done fr r') : r = r' := by
  cases r with
  | none =>
    cases r' with
    | none => rfl
    | some u => exact absurd h'.1 (h u)
  | some u =>
    cases r' with
    | none => exact absurd h.1 (h' u)
    | some v =>
      rcases lexlt_total u v with g | g | g
      · exact absurd g (h'.2 u h.1)
      · rw [g]
      · exact absurd g (h.2 v h'.1)
/-- A pressing with at most so many feet. -/
structure Pok (tie : List Nat) (lift feet : Nat) (u : List Nat) : Prop where
  len : u.length ≤ feet
  inc : u.Pairwise (· < ·)
  low : ∀ i ∈ u, i < tie.length
  lif : Lf tie lift 0 u
theorem pok_prs {tie : List Nat} {lift feet : Nat} {u : List Nat} : Pok tie lift feet u ↔ u.length ≤ feet ∧ Prs tie lift u.length 0 0 u :=
  ⟨fun h => ⟨h.len, rfl, h.inc, fun i hi => ⟨Nat.zero_le _, h.low i hi⟩, h.lif⟩, fun h => ⟨h.1, h.2.inc, fun i hi => (h.2.low i hi).2, h.2.lif⟩⟩
/-- The best pressing; or there is none. -/
def Bst (tie : List Nat) (lift feet : Nat) (r : Option (List Nat)) : Prop := match r with
  | some u => Pok tie lift feet u ∧ ∀ v, Pok tie lift feet v → ¬ btr v u
  | none => ∀ v, ¬ Pok tie lift feet v
theorem bst_unique {tie : List Nat} {lift feet : Nat} {r r' : Option (List Nat)} (h : Bst tie lift feet r) (h' : Bst tie lift feet r') : r = r' := by
  cases r with
  | none =>
    cases r' with
    | none => rfl
    | some u => exact absurd h'.1 (h u)
  | some u =>
    cases r' with
    | none => exact absurd h.1 (h' u)
    | some v =>
      rcases btr_total u v with g | g | g
      · exact absurd g (h'.2 u h.1)
      · rw [g]
      · exact absurd g (h.2 v h'.1)
/-- The first number of treadles for which there is one gives the best. -/
theorem bst_of {tie : List Nat} {lift feet n : Nat} {u : List Nat} (hn : n ≤ feet) (hno : ∀ m, m < n → Fst tie lift m 0 0 none) (h : Fst tie lift n 0 0 (some u)) : Bst tie lift feet (some u) := by
  refine ⟨pok_prs.2 ⟨by rw [h.1.len]; exact hn, by rw [h.1.len]; exact h.1⟩, fun v hv hb => ?_⟩
  obtain ⟨h1, h2⟩ := pok_prs.1 hv
  rcases hb with g | ⟨g1, g2⟩
  · rw [h.1.len] at g
    exact hno _ g v h2
  · rw [h.1.len] at g1
    rw [g1] at h2
    exact h.2 v h2 g2
theorem bst_none {tie : List Nat} {lift feet : Nat} (hno : ∀ m, m < feet + 1 → Fst tie lift m 0 0 none) : Bst tie lift feet none := fun v hv => by
  obtain ⟨h1, h2⟩ := pok_prs.1 hv
  exact hno _ (by omega) v h2
theorem bst_ex (tie : List Nat) (lift feet : Nat) : ∃ r, Bst tie lift feet r := by
  have key : ∀ k, k ≤ feet + 1 → (∀ m, m < k → Fst tie lift m 0 0 none) ∨ ∃ u, Bst tie lift feet (some u) := by
    intro k
    induction k with
    | zero => intro _; exact .inl fun m hm => by omega
    | succ k ih =>
      intro hk
      rcases ih (by omega) with h | h
      · obtain ⟨r, hr⟩ := fst_ex tie lift k 0 0
        cases r with
        | none =>
          refine .inl fun m hm => ?_
          by_cases e : m = k
          · subst e; exact hr
          · exact h m (by omega)
        | some u => exact .inr ⟨u, bst_of (by omega) h hr⟩
      · exact .inr h
  rcases key (feet + 1) (Nat.le_refl _) with h | ⟨u, h⟩
  · exact ⟨none, bst_none h⟩
  · exact ⟨some u, h⟩
end Go.Proofs.Ytlckfakifamjiaa

/- Pressings, by the program. -/
set_option linter.unusedSimpArgs false
set_option linter.unusedVariables false
set_option maxRecDepth 100000
namespace Go.Proofs.Ytlckfakifamjiaa
open Go Go.Proofs Go.AW

theorem append_litL {P : Program} {t e : Nat} {z : Value} [S : SlT P t e 8 z] {h : List AObj} {m k : Nat} {l ys : List Int} {p q : Bool} (hl : l.length = m) (hm : m ≤ 1000000) (hk : ys.length = k) (hk0 : 0 < k) (hk1 : k ≤ 1000000) : aAppend P t h (.lit m (ints l)) (.list p q k (ints ys)) = some (.ref h.length 0 (m + k) (m + k), h ++ [⟨e, 1, ints (l ++ ys)⟩]) := by
  obtain ⟨⟨T, hT, hTe⟩, E, hE, g1, g2, g3, g4⟩ := S
  have hz : E.zero.length = 1 := by rw [g4]; rfl
  have hli : (ints l).length = m := by rw [ints_length, hl]
  have hki : (ints ys).length = k := by rw [ints_length, hk]
  have htk : (ints ys).take k = ints ys := List.take_of_length_le (by omega)
  simp only [aAppend, hT, hTe, hE, sview_list, g1, Nat.mul_one, htk]
  rw [if_pos ⟨hki, ints_one ys, by omega, hz⟩, if_neg (by omega), if_pos ⟨hli, by rw [g3]; omega, by omega⟩, ← ints_append]
theorem append_lit0 {P : Program} {t e : Nat} {z : Value} [S : SlT P t e 8 z] {h : List AObj} {m : Nat} {cs : List AVal} {p q : Bool} : aAppend P t h (.lit m cs) (.list p q 0 []) = some (.lit m cs, h) := by
  obtain ⟨⟨T, hT, hTe⟩, E, hE, g1, g2, g3, g4⟩ := S
  have hz : E.zero.length = 1 := by rw [g4]; rfl
  simp only [aAppend, hT, hTe, hE, sview_list, g1]
  rw [if_pos ⟨rfl, rfl, by omega, hz⟩, if_pos trivial]
def andn4 (a b : Nat) : Nat := (BitVec.ofNat 64 a &&& ~~~ BitVec.ofNat 64 b).toNat
theorem andn4_bit {x y : Nat} (hx : x < 16) : ∀ i, (andn4 x y).testBit i = (x.testBit i && !y.testBit i) := fun i => by
  unfold andn4
  rw [BitVec.testBit_toNat, BitVec.getLsbD_and, BitVec.getLsbD_not, BitVec.getLsbD_ofNat, BitVec.getLsbD_ofNat]
  by_cases h : i < 64
  · simp [h]
  · have : x.testBit i = false := Nat.testBit_lt_two_pow (Nat.lt_of_lt_of_le (show x < 2 ^ 4 from hx) (Nat.pow_le_pow_right (by omega) (by omega)))
    simp [h, this]
theorem andn4_lt {x y : Nat} (hx : x < 16) : andn4 x y < 16 := by
  refine Nat.lt_pow_two_of_testBit (n := 4) _ fun i hi => ?_
  rw [andn4_bit hx, Nat.testBit_lt_two_pow (Nat.lt_of_lt_of_le (show x < 2 ^ 4 from hx) (Nat.pow_le_pow_right (by omega) hi)), Bool.false_and]
theorem andn4_i {x y : Nat} (hx : x < 16) : aInt .andNot .i64 (x : Int) (y : Int) = some (.val (.int .i64 ((andn4 x y : Nat) : Int))) := by
  show some (AVal.val (.int .i64 (IntKind.i64.wrap ((BitVec.ofInt 64 (x : Int) &&& ~~~ BitVec.ofInt 64 (y : Int)).toNat)))) = _
  rw [ofI64, ofI64]
  have := andn4_lt (y := y) hx
  unfold andn4 at this ⊢
  rw [wr64 (by omega)]
theorem andn4_zero {x y : Nat} (hx : x < 16) : andn4 x y = 0 ↔ Sb x y := by
  constructor
  · intro h b hb
    have := andn4_bit (y := y) hx b
    rw [h, Nat.zero_testBit, hb, Bool.true_and] at this
    cases hy : y.testBit b with
    | true => rfl
    | false => rw [hy] at this; cases this
  · intro h
    refine Nat.eq_of_testBit_eq fun i => ?_
    rw [andn4_bit hx, Nat.zero_testBit]
    cases hb : x.testBit i with
    | false => rfl
    | true => rw [h i hb]; rfl
/-- What the search gives back. -/
def pvR : Option (List Nat) → AVal
  | none => .tuple [LR true [], B false]
  | some u => .tuple [LR u.isEmpty (nI u), B true]
theorem presses_c (b : Bool) {tie : List Nat} (hn : tie.length ≤ 1000) (ht : ∀ i, i < tie.length → tie.getD i 0 < 16) {lift : Nat} (hl : lift < 16) :
    ∀ (n : Nat), n ≤ 100 → ∀ (done fr : Nat), done < 16 → fr ≤ tie.length → ∀ r, Fst tie lift n done fr r → Contract Try.prog 37 [LA b (nI tie), I lift, I done, I fr, I n] (pvR r) := by
  intro n
  have lt := nI_len tie
  induction n with
  | zero =>
    intro _ done fr hd hf r hr
    have hu := fst_unique hr (fst_zero tie lift done fr)
    by_cases c : done = lift
    · rw [if_pos c] at hu
      subst hu
      refine Contract.intro (effS [] false) 6 follows Try.func37 rfl rfl (by kernel_rfl) (Nat.le_of_ble_eq_true rfl) ?_
      simp (disch := first | assumption | omega | rfl | simp only [RH]) only [↓RP, RG, FX, RQ, ↓reduceIte, Nat.reduceEqDiff, reduceCtorEq, Nat.reduceBEq, Nat.reduceAdd, Nat.reduceLeDiff, args0_5]
      rw [resVal_2 rfl]; simp (disch := first | assumption | omega | rfl | simp only [RH]) only [↓RP, RG, FX, RQ, ↓reduceIte, Nat.reduceEqDiff, reduceCtorEq, Nat.reduceBEq, Nat.reduceAdd, Nat.reduceLeDiff, RS]
      first | done | simp [pvR, c, nI, ints]
    · rw [if_neg c] at hu
      subst hu
      refine Contract.intro (effS [] false) 6 follows Try.func37 rfl rfl (by kernel_rfl) (Nat.le_of_ble_eq_true rfl) ?_
      simp (disch := first | assumption | omega | rfl | simp only [RH]) only [↓RP, RG, FX, RQ, ↓reduceIte, Nat.reduceEqDiff, reduceCtorEq, Nat.reduceBEq, Nat.reduceAdd, Nat.reduceLeDiff, args0_5]
      rw [resVal_2 rfl]; simp (disch := first | assumption | omega | rfl | simp only [RH]) only [↓RP, RG, FX, RQ, ↓reduceIte, Nat.reduceEqDiff, reduceCtorEq, Nat.reduceBEq, Nat.reduceAdd, Nat.reduceLeDiff, RS]
      first | done | simp [pvR, c, nI, ints]
  | succ n ih =>
    intro hn100 done fr hd hf r hr
    refine Contract.intro (effS [] false) 6 follows Try.func37 rfl rfl (by kernel_rfl) (Nat.le_of_ble_eq_true rfl) ?_
    simp (disch := first | assumption | omega | rfl | simp only [RH]) only [↓RP, RG, FX, RQ, ↓reduceIte, Nat.reduceEqDiff, reduceCtorEq, Nat.reduceBEq, Nat.reduceAdd, Nat.reduceLeDiff, args0_5]
    refine loopK_I [0, 1, 2, 4, 12] (fun i : Nat => i ≤ tie.length ∧ Fst tie lift (n + 1) done i r) (fun i => ⟨[(0, LA b (nI tie)), (1, I lift), (2, I done), (4, I ((n + 1 : Nat) : Int)), (12, I i)], []⟩) (fun i => tie.length - i) fr ⟨hf, hr⟩ (by simp only [↓RP, RG, FX, RQ, ↓reduceIte, Nat.reduceEqDiff, reduceCtorEq, Nat.reduceBEq, Nat.reduceAdd, Nat.reduceLeDiff]) ?_
    rintro i ⟨hi, hF⟩
    by_cases hlt : i < tie.length
    · have hg := nI_get tie i
      have hti := ht i hlt
      have han := andn4_i (x := tie.getD i 0) (y := lift) hti
      have haz := andn4_zero (x := tie.getD i 0) (y := lift) hti
      obtain ⟨r1, hr1⟩ := fst_ex tie lift (n + 1) done (i + 1)
      by_cases hs : Sb (tie.getD i 0) lift
      · have hor := or64 hd hti
        have hd2 : done ||| tie.getD i 0 < 16 := Nat.or_lt_two_pow (n := 4) hd hti
        have hz := haz.2 hs
        obtain ⟨r', hr'⟩ := fst_ex tie lift n (done ||| tie.getD i 0) (i + 1)
        have hC := ih (by omega) (done ||| tie.getD i 0) (i + 1) hd2 (by omega) r' hr'
        have hn1 : ((n + 1 : Nat) : Int) - 1 = (n : Int) := by omega
        cases r' with
        | none =>
          have hnx : Fst tie lift (n + 1) done (i + 1) r := by
            have := fst_unique (fst_next hr' hr1) hF
            subst this; exact hr1
          rw [hz] at han
          generalize andn4 (tie.getD i 0) lift = z at *
          generalize hO : done ||| tie.getD i 0 = O at *
          generalize tie.getD i 0 = t at *
          simp (disch := first | assumption | omega | rfl | simp only [RH]) only [↓RP, RG, FX, RQ, ↓reduceIte, Nat.reduceEqDiff, reduceCtorEq, Nat.reduceBEq, Nat.reduceAdd, Nat.reduceLeDiff, hg, han, hor, hn1, pvR]
          refine callK_F 6 hC (by simp (disch := first | assumption | omega | rfl | simp only [RH]) only [↓RP, RG, FX, RQ, ↓reduceIte, Nat.reduceEqDiff, reduceCtorEq, Nat.reduceBEq, Nat.reduceAdd, Nat.reduceLeDiff, RA] <;> rfl) (.inl (by simp [allFresh, ints_fresh, pvR])) ?_
          simp (disch := first | assumption | omega | rfl | simp only [RH]) only [↓RP, RG, FX, RQ, ↓reduceIte, Nat.reduceEqDiff, reduceCtorEq, Nat.reduceBEq, Nat.reduceAdd, Nat.reduceLeDiff, pvR]
          exact ⟨i + 1, ⟨hlt, hnx⟩, rfl, by omega⟩
        | some u =>
          have hfo := fst_unique (fst_found hlt hr') hF
          subst hfo
          have hul : u.length ≤ 1000 := by
            have := hr'.1.len; omega
          have hun := nI_len u
          rw [hz] at han
          generalize andn4 (tie.getD i 0) lift = z at *
          generalize hO : done ||| tie.getD i 0 = O at *
          generalize tie.getD i 0 = t at *
          by_cases hu0 : u.length = 0
          · obtain rfl : u = [] := List.eq_nil_of_length_eq_zero hu0
            simp (disch := first | assumption | omega | rfl | simp only [RH]) only [↓RP, RG, FX, RQ, ↓reduceIte, Nat.reduceEqDiff, reduceCtorEq, Nat.reduceBEq, Nat.reduceAdd, Nat.reduceLeDiff, hg, han, hor, hn1]
            refine callK_F 6 hC (by simp (disch := first | assumption | omega | rfl | simp only [RH]) only [↓RP, RG, FX, RQ, ↓reduceIte, Nat.reduceEqDiff, reduceCtorEq, Nat.reduceBEq, Nat.reduceAdd, Nat.reduceLeDiff, RA] <;> rfl) (.inl (by simp [allFresh, ints_fresh, pvR])) ?_
            have hap0 : ∀ h : List AObj, aAppend Try.prog 25 h (.lit 1 [.val (.int .i64 (i : Int))]) (LR ([] : List Nat).isEmpty (nI [])) = some (.lit 1 [.val (.int .i64 (i : Int))], h) := fun h => append_lit0
            simp (disch := first | assumption | omega | rfl | simp only [RH]) only [↓RP, RG, FX, RQ, ↓reduceIte, Nat.reduceEqDiff, reduceCtorEq, Nat.reduceBEq, Nat.reduceAdd, Nat.reduceLeDiff, pvR, hap0]
            rw [resVal_2 rfl]; simp (disch := first | assumption | omega | rfl | simp only [RH]) only [↓RP, RG, FX, RQ, ↓reduceIte, Nat.reduceEqDiff, reduceCtorEq, Nat.reduceBEq, Nat.reduceAdd, Nat.reduceLeDiff, RS]
            first | done | rfl
          · have hap : ∀ h : List AObj, aAppend Try.prog 25 h (.lit 1 [.val (.int .i64 (i : Int))]) (LR u.isEmpty (nI u)) = some (.ref h.length 0 (1 + (nI u).length) (1 + (nI u).length), h ++ [⟨3, 1, ints ([(i : Int)] ++ nI u)⟩]) := fun h => append_litL (l := [(i : Int)]) rfl (by omega) rfl (by omega) (by omega)
            simp (disch := first | assumption | omega | rfl | simp only [RH]) only [↓RP, RG, FX, RQ, ↓reduceIte, Nat.reduceEqDiff, reduceCtorEq, Nat.reduceBEq, Nat.reduceAdd, Nat.reduceLeDiff, hg, han, hor, hn1]
            refine callK_F 6 hC (by simp (disch := first | assumption | omega | rfl | simp only [RH]) only [↓RP, RG, FX, RQ, ↓reduceIte, Nat.reduceEqDiff, reduceCtorEq, Nat.reduceBEq, Nat.reduceAdd, Nat.reduceLeDiff, RA] <;> rfl) (.inl (by simp [allFresh, ints_fresh, pvR])) ?_
            have hla : ((i : Int) :: nI u).length = 1 + (nI u).length := by rw [List.length_cons]; omega
            simp (disch := first | assumption | omega | rfl | simp only [RH]) only [↓RP, RG, FX, RQ, ↓reduceIte, Nat.reduceEqDiff, reduceCtorEq, Nat.reduceBEq, Nat.reduceAdd, Nat.reduceLeDiff, pvR, hap]
            rw [resVal_2 rfl]; simp (disch := first | assumption | omega | rfl | simp only [RH]) only [↓RP, RG, FX, RQ, ↓reduceIte, Nat.reduceEqDiff, reduceCtorEq, Nat.reduceBEq, Nat.reduceAdd, Nat.reduceLeDiff, RS]
            first | done | rfl
      · have hz : andn4 (tie.getD i 0) lift ≠ 0 := fun h => hs (haz.1 h)
        have hnx : Fst tie lift (n + 1) done (i + 1) r := by
          have := fst_unique (fst_skip hs hr1) hF
          subst this; exact hr1
        generalize andn4 (tie.getD i 0) lift = z at *
        generalize tie.getD i 0 = t at *
        simp (disch := first | assumption | omega | rfl | simp only [RH]) only [↓RP, RG, FX, RQ, ↓reduceIte, Nat.reduceEqDiff, reduceCtorEq, Nat.reduceBEq, Nat.reduceAdd, Nat.reduceLeDiff, hg, han]
        exact ⟨i + 1, ⟨hlt, hnx⟩, rfl, by omega⟩
    · obtain rfl : i = tie.length := by omega
      have := fst_unique (fst_end (Nat.le_refl _)) hF
      subst this
      simp (disch := first | assumption | omega | rfl | simp only [RH]) only [↓RP, RG, FX, RQ, ↓reduceIte, Nat.reduceEqDiff, reduceCtorEq, Nat.reduceBEq, Nat.reduceAdd, Nat.reduceLeDiff]
      rw [resVal_2 rfl]; simp (disch := first | assumption | omega | rfl | simp only [RH]) only [↓RP, RG, FX, RQ, ↓reduceIte, Nat.reduceEqDiff, reduceCtorEq, Nat.reduceBEq, Nat.reduceAdd, Nat.reduceLeDiff, RS]
      first | done | rfl
end Go.Proofs.Ytlckfakifamjiaa

/- The best pressing, by the program. -/
set_option linter.unusedSimpArgs false
set_option linter.unusedVariables false
set_option maxRecDepth 100000
namespace Go.Proofs.Ytlckfakifamjiaa
open Go Go.Proofs Go.AW

theorem best_c (b : Bool) {tie : List Nat} (hn : tie.length ≤ 1000) (ht : ∀ i, i < tie.length → tie.getD i 0 < 16) {lift : Nat} (hl : lift < 16) {feet : Nat} (hf : feet ≤ 4) (r : Option (List Nat)) (hr : Bst tie lift feet r) :
    Contract Try.prog 22 [LA b (nI tie), I lift, I feet] (pvR r) := by
  have lt := nI_len tie
  refine Contract.intro (effS [] false) 6 follows Try.func22 rfl rfl (by kernel_rfl) (Nat.le_of_ble_eq_true rfl) ?_
  simp (disch := first | assumption | omega | rfl | simp only [RH]) only [↓RP, RG, FX, RQ, ↓reduceIte, Nat.reduceEqDiff, reduceCtorEq, Nat.reduceBEq, Nat.reduceAdd, Nat.reduceLeDiff, args0_3]
  refine loopK_I [0, 1, 12, 13] (fun n : Nat => n ≤ feet + 1 ∧ ∀ m, m < n → Fst tie lift m 0 0 none) (fun n => ⟨[(0, LA b (nI tie)), (1, I lift), (12, I ((feet + 1 : Nat) : Int)), (13, I n)], []⟩) (fun n => feet + 1 - n) 0 ⟨by omega, fun m hm => by omega⟩ (by simp only [↓RP, RG, FX, RQ, ↓reduceIte, Nat.reduceEqDiff, reduceCtorEq, Nat.reduceBEq, Nat.reduceAdd, Nat.reduceLeDiff]; rfl) ?_
  rintro n ⟨hn1, hall⟩
  by_cases hlt : n < feet + 1
  · obtain ⟨r', hr'⟩ := fst_ex tie lift n 0 0
    have hC := presses_c b hn ht hl n (by omega) 0 0 (by omega) (by omega) r' hr'
    cases r' with
    | none =>
      simp (disch := first | assumption | omega | rfl | simp only [RH]) only [↓RP, RG, FX, RQ, ↓reduceIte, Nat.reduceEqDiff, reduceCtorEq, Nat.reduceBEq, Nat.reduceAdd, Nat.reduceLeDiff]
      refine callK_F 6 hC (by simp (disch := first | assumption | omega | rfl | simp only [RH]) only [↓RP, RG, FX, RQ, ↓reduceIte, Nat.reduceEqDiff, reduceCtorEq, Nat.reduceBEq, Nat.reduceAdd, Nat.reduceLeDiff, RA] <;> rfl) (.inl (by simp [allFresh, ints_fresh, pvR])) ?_
      simp (disch := first | assumption | omega | rfl | simp only [RH]) only [↓RP, RG, FX, RQ, ↓reduceIte, Nat.reduceEqDiff, reduceCtorEq, Nat.reduceBEq, Nat.reduceAdd, Nat.reduceLeDiff, pvR]
      refine ⟨n + 1, ⟨hlt, fun m hm => ?_⟩, rfl, by omega⟩
      by_cases e : m = n
      · subst e; exact hr'
      · exact hall m (by omega)
    | some u =>
      have := bst_unique (bst_of (by omega) hall hr') hr
      subst this
      simp (disch := first | assumption | omega | rfl | simp only [RH]) only [↓RP, RG, FX, RQ, ↓reduceIte, Nat.reduceEqDiff, reduceCtorEq, Nat.reduceBEq, Nat.reduceAdd, Nat.reduceLeDiff]
      refine callK_F 6 hC (by simp (disch := first | assumption | omega | rfl | simp only [RH]) only [↓RP, RG, FX, RQ, ↓reduceIte, Nat.reduceEqDiff, reduceCtorEq, Nat.reduceBEq, Nat.reduceAdd, Nat.reduceLeDiff, RA] <;> rfl) (.inl (by simp [allFresh, ints_fresh, pvR])) ?_
      simp (disch := first | assumption | omega | rfl | simp only [RH]) only [↓RP, RG, FX, RQ, ↓reduceIte, Nat.reduceEqDiff, reduceCtorEq, Nat.reduceBEq, Nat.reduceAdd, Nat.reduceLeDiff, pvR]
      rw [resVal_2 rfl]; simp (disch := first | assumption | omega | rfl | simp only [RH]) only [↓RP, RG, FX, RQ, ↓reduceIte, Nat.reduceEqDiff, reduceCtorEq, Nat.reduceBEq, Nat.reduceAdd, Nat.reduceLeDiff, RS]
      first | done | rfl
  · obtain rfl : n = feet + 1 := by omega
    have := bst_unique (bst_none hall) hr
    subst this
    simp (disch := first | assumption | omega | rfl | simp only [RH]) only [↓RP, RG, FX, RQ, ↓reduceIte, Nat.reduceEqDiff, reduceCtorEq, Nat.reduceBEq, Nat.reduceAdd, Nat.reduceLeDiff]
    rw [resVal_2 rfl]; simp (disch := first | assumption | omega | rfl | simp only [RH]) only [↓RP, RG, FX, RQ, ↓reduceIte, Nat.reduceEqDiff, reduceCtorEq, Nat.reduceBEq, Nat.reduceAdd, Nat.reduceLeDiff, RS]
    first | done | rfl
/-- What Press gives back. -/
def prR : Option (List Nat) → AVal
  | none => .tuple [LR true [], I 6]
  | some u => .tuple [LR u.isEmpty (nI u), I 0]
theorem pressP_c (b : Bool) {tie : List Nat} (hn : tie.length ≤ 1000) {s : Nat} (h1 : 1 ≤ s) (h4 : s ≤ 4) (ht : Tie s tie) {lift : Nat} (hl : lift < 2 ^ s) {feet : Nat} (hf1 : 1 ≤ feet) (hf4 : feet ≤ 4) (r : Option (List Nat)) (hr : Bst tie lift feet r) :
    Contract Try.prog 7 [LA b (nI tie), I s, I lift, I feet] (prR r) := by
  obtain ⟨p1, p2⟩ := pow4 h4
  have lt := nI_len tie
  have hug : ∀ i, i < tie.length → tie.getD i 0 < 16 := fun i hi => by
    have := (ht.2 (tie.getD i 0) (by rw [List.getD_eq_getElem?_getD, List.getElem?_eq_getElem hi]; exact List.getElem_mem hi)).2
    omega
  have hch := checkP_c b (nI tie) (by omega) h1 h4 0 (fun _ => rfl) (fun h => absurd (tie_tieOk ht) h)
  have hse := sets_c h4 false [(lift : Int)] (by simp) true ⟨fun _ i hi => by
    obtain rfl : i = 0 := by simp at hi; omega
    simp only [List.getD_cons_zero]; omega, fun _ => rfl⟩
  have hfe := feet_c (feet : Int)
  rw [decide_eq_true (by omega)] at hfe
  have hbe := best_c b hn hug (by omega) hf4 r hr
  cases r with
  | none =>
    refine Contract.intro (effS [] false) 6 follows Try.func7 rfl rfl (by kernel_rfl) (Nat.le_of_ble_eq_true rfl) ?_
    simp (disch := first | assumption | omega | rfl | simp only [RH]) only [↓RP, RG, FX, RQ, ↓reduceIte, Nat.reduceEqDiff, reduceCtorEq, Nat.reduceBEq, Nat.reduceAdd, Nat.reduceLeDiff, args0_4]
    refine callK_F 6 (hch) (by simp (disch := first | assumption | omega | rfl | simp only [RH]) only [↓RP, RG, FX, RQ, ↓reduceIte, Nat.reduceEqDiff, reduceCtorEq, Nat.reduceBEq, Nat.reduceAdd, Nat.reduceLeDiff, RA] <;> rfl) (.inl (by simp [allFresh, ints_fresh, bools_fresh])) ?_
    simp (disch := first | assumption | omega | rfl | simp only [RH]) only [↓RP, RG, FX, RQ, ↓reduceIte, Nat.reduceEqDiff, reduceCtorEq, Nat.reduceBEq, Nat.reduceAdd, Nat.reduceLeDiff]
    refine callK_F 6 hse (by simp (disch := first | assumption | omega | rfl | simp only [RH]) only [↓RP, RG, FX, RQ, ↓reduceIte, Nat.reduceEqDiff, reduceCtorEq, Nat.reduceBEq, Nat.reduceAdd, Nat.reduceLeDiff, RA] <;> rfl) (.inl rfl) ?_
    simp (disch := first | assumption | omega | rfl | simp only [RH]) only [↓RP, RG, FX, RQ, ↓reduceIte, Nat.reduceEqDiff, reduceCtorEq, Nat.reduceBEq, Nat.reduceAdd, Nat.reduceLeDiff]
    refine callK_F 6 (hfe) (by simp (disch := first | assumption | omega | rfl | simp only [RH]) only [↓RP, RG, FX, RQ, ↓reduceIte, Nat.reduceEqDiff, reduceCtorEq, Nat.reduceBEq, Nat.reduceAdd, Nat.reduceLeDiff, RA] <;> rfl) (.inl (by simp [allFresh, ints_fresh, bools_fresh])) ?_
    simp (disch := first | assumption | omega | rfl | simp only [RH]) only [↓RP, RG, FX, RQ, ↓reduceIte, Nat.reduceEqDiff, reduceCtorEq, Nat.reduceBEq, Nat.reduceAdd, Nat.reduceLeDiff]
    refine callK_F 6 hbe (by simp (disch := first | assumption | omega | rfl | simp only [RH]) only [↓RP, RG, FX, RQ, ↓reduceIte, Nat.reduceEqDiff, reduceCtorEq, Nat.reduceBEq, Nat.reduceAdd, Nat.reduceLeDiff, RA] <;> rfl) (.inl (by simp [allFresh, ints_fresh, pvR])) ?_
    simp (disch := first | assumption | omega | rfl | simp only [RH]) only [↓RP, RG, FX, RQ, ↓reduceIte, Nat.reduceEqDiff, reduceCtorEq, Nat.reduceBEq, Nat.reduceAdd, Nat.reduceLeDiff, pvR]
    rw [resVal_2 rfl]; simp (disch := first | assumption | omega | rfl | simp only [RH]) only [↓RP, RG, FX, RQ, ↓reduceIte, Nat.reduceEqDiff, reduceCtorEq, Nat.reduceBEq, Nat.reduceAdd, Nat.reduceLeDiff, RS]
    first | done | rfl
  | some u =>
    have hul : u.length ≤ 4 := Nat.le_trans hr.1.len hf4
    refine Contract.intro (effS [] false) 6 follows Try.func7 rfl rfl (by kernel_rfl) (Nat.le_of_ble_eq_true rfl) ?_
    simp (disch := first | assumption | omega | rfl | simp only [RH]) only [↓RP, RG, FX, RQ, ↓reduceIte, Nat.reduceEqDiff, reduceCtorEq, Nat.reduceBEq, Nat.reduceAdd, Nat.reduceLeDiff, args0_4]
    refine callK_F 6 (hch) (by simp (disch := first | assumption | omega | rfl | simp only [RH]) only [↓RP, RG, FX, RQ, ↓reduceIte, Nat.reduceEqDiff, reduceCtorEq, Nat.reduceBEq, Nat.reduceAdd, Nat.reduceLeDiff, RA] <;> rfl) (.inl (by simp [allFresh, ints_fresh, bools_fresh])) ?_
    simp (disch := first | assumption | omega | rfl | simp only [RH]) only [↓RP, RG, FX, RQ, ↓reduceIte, Nat.reduceEqDiff, reduceCtorEq, Nat.reduceBEq, Nat.reduceAdd, Nat.reduceLeDiff]
    refine callK_F 6 hse (by simp (disch := first | assumption | omega | rfl | simp only [RH]) only [↓RP, RG, FX, RQ, ↓reduceIte, Nat.reduceEqDiff, reduceCtorEq, Nat.reduceBEq, Nat.reduceAdd, Nat.reduceLeDiff, RA] <;> rfl) (.inl rfl) ?_
    simp (disch := first | assumption | omega | rfl | simp only [RH]) only [↓RP, RG, FX, RQ, ↓reduceIte, Nat.reduceEqDiff, reduceCtorEq, Nat.reduceBEq, Nat.reduceAdd, Nat.reduceLeDiff]
    refine callK_F 6 (hfe) (by simp (disch := first | assumption | omega | rfl | simp only [RH]) only [↓RP, RG, FX, RQ, ↓reduceIte, Nat.reduceEqDiff, reduceCtorEq, Nat.reduceBEq, Nat.reduceAdd, Nat.reduceLeDiff, RA] <;> rfl) (.inl (by simp [allFresh, ints_fresh, bools_fresh])) ?_
    simp (disch := first | assumption | omega | rfl | simp only [RH]) only [↓RP, RG, FX, RQ, ↓reduceIte, Nat.reduceEqDiff, reduceCtorEq, Nat.reduceBEq, Nat.reduceAdd, Nat.reduceLeDiff]
    refine callK_F 6 hbe (by simp (disch := first | assumption | omega | rfl | simp only [RH]) only [↓RP, RG, FX, RQ, ↓reduceIte, Nat.reduceEqDiff, reduceCtorEq, Nat.reduceBEq, Nat.reduceAdd, Nat.reduceLeDiff, RA] <;> rfl) (.inl (by simp [allFresh, ints_fresh, pvR])) ?_
    simp (disch := first | assumption | omega | rfl | simp only [RH]) only [↓RP, RG, FX, RQ, ↓reduceIte, Nat.reduceEqDiff, reduceCtorEq, Nat.reduceBEq, Nat.reduceAdd, Nat.reduceLeDiff, pvR]
    rw [resVal_2 rfl]; simp (disch := first | assumption | omega | rfl | simp only [RH]) only [↓RP, RG, FX, RQ, ↓reduceIte, Nat.reduceEqDiff, reduceCtorEq, Nat.reduceBEq, Nat.reduceAdd, Nat.reduceLeDiff, RS]
    first | done | rfl
end Go.Proofs.Ytlckfakifamjiaa

/- The rows of a grid as numbers, by the program. -/
set_option linter.unusedSimpArgs false
set_option linter.unusedVariables false
set_option maxRecDepth 100000
namespace Go.Proofs.Ytlckfakifamjiaa
open Go Go.Proofs Go.AW

/-- The first k cells of row y. -/
def rowK (W : Nat) (l : List Bool) (y : Nat) : Nat → Nat
  | 0 => 0
  | s + 1 => if l.getD (W * y + s) false = true then rowK W l y s ||| 2 ^ s else rowK W l y s
theorem rowK_bit (W : Nat) (l : List Bool) (y : Nat) : ∀ k i, (rowK W l y k).testBit i = (decide (i < k) && l.getD (W * y + i) false)
  | 0, i => by simp [rowK]
  | k + 1, i => by
    simp only [rowK]
    have ih := rowK_bit W l y k i
    by_cases h : l.getD (W * y + k) false = true
    · rw [if_pos h, Nat.testBit_or, ih, Nat.testBit_two_pow]
      by_cases e : k = i
      · subst e; rw [h]; simp
      · by_cases c : i < k
        · simp [c, e, show i < k + 1 by omega]
        · simp [c, e, show ¬ i < k + 1 by omega]
    · rw [if_neg h, ih]
      by_cases e : k = i
      · subst e
        have : l.getD (W * y + k) false = false := by simpa using h
        rw [this]; simp
      · by_cases c : i < k
        · simp [c, show i < k + 1 by omega]
        · simp [c, show ¬ i < k + 1 by omega]
theorem rowK_lt (W : Nat) (l : List Bool) (y k : Nat) : rowK W l y k < 2 ^ k := by
  refine Nat.lt_pow_two_of_testBit _ fun i hi => ?_
  rw [rowK_bit, decide_eq_false (by omega), Bool.false_and]
/-- The rows. -/
def rowsL (W : Nat) (l : List Bool) (k : Nat) : List Nat := (List.range k).map fun y => rowK W l y W
theorem rowsL_len (W : Nat) (l : List Bool) (k : Nat) : (rowsL W l k).length = k := by simp [rowsL]
theorem rowsL_succ (W : Nat) (l : List Bool) (k : Nat) : rowsL W l (k + 1) = rowsL W l k ++ [rowK W l k W] := by simp [rowsL, List.range_succ]
theorem chunk_c (b : Bool) (l : List Bool) {W : Nat} (hW : 1 ≤ W) : Contract Try.prog 31 [BA b l, I W] (.func (.func 42) [] [.spot true [BA b l], .spot true [I W]]) := by
  refine Contract.intro (effS [] false [] [0, 1]) 6 follows Try.func31 rfl rfl (by kernel_rfl) (Nat.le_of_ble_eq_true rfl) ?_
  simp (disch := first | assumption | omega | rfl | simp only [RH]) only [↓RP, RG, FX, RQ, ↓reduceIte, Nat.reduceEqDiff, reduceCtorEq, Nat.reduceBEq, Nat.reduceAdd, Nat.reduceLeDiff, args0_2]
  rw [resVal_1 rfl]; simp (disch := first | assumption | omega | rfl | simp only [RH]) only [↓RP, RG, FX, RQ, ↓reduceIte, Nat.reduceEqDiff, reduceCtorEq, Nat.reduceBEq, Nat.reduceAdd, Nat.reduceLeDiff, RS]
  first | done | simp [resOf, resOf_list, bools_res]
section
variable {P : Program} {t e : Nat} {z : Value} {h : List AObj}
theorem slice_loB [S : SlT P t e 1 z] {p b : Bool} {l : List Bool} {n : Nat} {k : IntKind} {c : Int} (hn : n = l.length) (h0 : 0 ≤ c) (h1 : c ≤ n) :
    aSlice P t h (.list p b n (bools l)) (some (.val (.int k c))) none none = some (.list p b (n - c.toNat) (bools (l.drop c.toNat))) := by
  obtain ⟨⟨T, hT, hTe⟩, E, hE, g1, g2, g3, g4⟩ := S
  subst hn
  simp only [aSlice, hT, hTe, hE, sview_list, optInt]
  rw [if_pos ⟨h0, h1, by omega, by omega⟩]
  have : ((l.length : Int) - c).toNat = l.length - c.toNat := by omega
  rw [this, g1]
  simp [bools, List.map_drop]
  rw [List.take_of_length_le (by simp)]
theorem aCut_list {p b : Bool} {n : Nat} {cs : List AVal} (lo hi mx : Option AVal) : aCut P t h (.list p b n cs) lo hi mx = none := by
  unfold aCut
  repeat' (first | rfl | split)
theorem slice3B [S : SlT P t e 1 z] {p b : Bool} {l : List Bool} {n : Nat} {k k' k'' : IntKind} {lo hi : Int} (hn : n = l.length) (h0 : 0 ≤ lo) (h1 : lo ≤ hi) (h2 : hi ≤ n) (h3 : hi ≠ 0) :
    aSlice P t h (.list p b n (bools l)) (some (.val (.int k lo))) (some (.val (.int k' hi))) (some (.val (.int k'' hi))) = some (.list p b (hi - lo).toNat (bools ((l.drop lo.toNat).take (hi - lo).toNat))) := by
  obtain ⟨⟨T, hT, hTe⟩, E, hE, g1, g2, g3, g4⟩ := S
  subst hn
  simp only [aSlice, hT, hTe, hE, sview_list, optInt]
  rw [if_pos ⟨h0, h1, Int.le_refl _, h2⟩, if_neg h3, g1]
  simp [bools, List.map_drop, List.map_take]
end
/-- A row as a list of its own. -/
def chV (b : Bool) (W : Nat) (l : List Bool) (k : Nat) : AVal := .list false b W (bools ((l.drop (W * k)).take W))
theorem chunkF_y (p q b : Bool) {l : List Bool} {W H : Nat} (hW1 : 1 ≤ W) (hW : W ≤ 64) (hH : H ≤ 64) (hn : l.length = W * H) : Gives Try.prog 42 [.spot p [BA b l], .spot q [I W]] ((List.range H).map (chV b W l)) := by
  intro hs
  have h3 : W * H ≤ 64 * 64 := Nat.mul_le_mul hW hH
  have hxl : ((List.range H).map (chV b W l)).length = H := by simp
  have hxg : ∀ k, k < H → ((List.range H).map (chV b W l)).getD k .undef = chV b W l k := fun k hk => by
    rw [List.getD_eq_getElem?_getD, List.getElem?_map, List.getElem?_range hk]; rfl
  refine SpecY.intro (effS [] false) follows Try.func42 rfl rfl (by kernel_rfl) (Nat.le_of_ble_eq_true rfl) rfl (fun yv => ?_)
  generalize (List.range H).map (chV b W l) = xs at *
  simp (disch := first | assumption | omega | rfl | simp only [RH]) only [↓RP, RG, FX, RQ, ↓reduceIte, Nat.reduceEqDiff, reduceCtorEq, Nat.reduceBEq, Nat.reduceAdd, Nat.reduceLeDiff, args0_3]
  refine loopK_I [0, 1, 2, 4] (fun k : Nat => k ≤ H) (fun k : Nat => ⟨[(0, .val yv), (1, .spot p [BA b l]), (2, .spot q [I W]), (4, I ((W * k : Nat) : Int))], hs k⟩) (fun k => H - k) 0 (by omega) (by simp only [↓RP, RG, FX, RQ, ↓reduceIte, Nat.reduceEqDiff, reduceCtorEq, Nat.reduceBEq, Nat.reduceAdd, Nat.reduceLeDiff]; rfl) ?_
  intro k hk
  by_cases hlt : k < H
  · have h1 : W * k + W ≤ W * H := by
      have := Nat.mul_le_mul_left W (show k + 1 ≤ H by omega)
      rwa [Nat.mul_succ] at this
    have hx := hxg k hlt
    unfold chV at hx
    have hnx : ((W * k : Nat) : Int) + (W : Int) = ((W * (k + 1) : Nat) : Int) := by rw [Nat.mul_succ]; omega
    generalize hi : W * k = i at *
    have hw : ((i : Int) + (W : Int) - (i : Int)).toNat = W := by omega
    have hmin : min (W : Int) ((l.length - i : Nat) : Int) = W := by omega
    simp (disch := first | assumption | omega | rfl | simp only [RH]) only [↓RP, RG, FX, RQ, ↓reduceIte, Nat.reduceEqDiff, reduceCtorEq, Nat.reduceBEq, Nat.reduceAdd, Nat.reduceLeDiff, Int.toNat_natCast, slice_loB, cutB_none, aCut_list, slice3B, hmin, hw]
    refine callK_Y rfl (stepsY_at k (by omega) hx) ?_
    simp (disch := first | assumption | omega | rfl | simp only [RH]) only [↓RP, RG, FX, RQ, ↓reduceIte, Nat.reduceEqDiff, reduceCtorEq, Nat.reduceBEq, Nat.reduceAdd, Nat.reduceLeDiff, hnx]
    exact ⟨k + 1, hlt, rfl, by omega⟩
  · obtain rfl : k = H := by omega
    simp (disch := first | assumption | omega | rfl | simp only [RH]) only [↓RP, RG, FX, RQ, ↓reduceIte, Nat.reduceEqDiff, reduceCtorEq, Nat.reduceBEq, Nat.reduceAdd, Nat.reduceLeDiff]
    rw [hxl]
    exact Wk.refl _ _
end Go.Proofs.Ytlckfakifamjiaa

/- The library's sort and compaction, as this program bears them. -/
set_option linter.unusedVariables false
namespace Go.Proofs
open Go.Shelf
def Try.lays189_ren : Go.Shelf.Ren := ⟨fun | 189 => 16 | 125 => 33 | 257 => 32 | 128 => 52 | 129 => 53 | 294 => 43 | 295 => 44 | 296 => 45 | 297 => 46 | 298 => 47 | 299 => 48 | 216 => 49 | 300 => 50 | 301 => 51 | 328 => 55 | 329 => 56 | 330 => 57 | 331 => 58 | 332 => 59 | 215 => 60 | 343 => 61 | n => n, fun | 28 => 25 | 3 => 3 | 46 => 66 | 0 => 0 | 51 => 83 | 53 => 85 | 4 => 4 | 183 => 76 | 182 => 75 | 131 => 80 | 5 => 5 | 9 => 9 | 218 => 87 | 222 => 91 | 228 => 93 | 229 => 94 | n => n, fun | n => n⟩
theorem Try.lays189 : Go.Proofs.Lays.n189 Try.prog Try.lays189_ren := {
  mixed := by kernel_rfl
  f125 := Try.func33.trans (congrArg some (by kernel_rfl))
  f128 := Try.func52.trans (congrArg some (by kernel_rfl))
  f129 := Try.func53.trans (congrArg some (by kernel_rfl))
  f189 := Try.func16.trans (congrArg some (by kernel_rfl))
  f215 := Try.func60.trans (congrArg some (by kernel_rfl))
  f216 := Try.func49.trans (congrArg some (by kernel_rfl))
  f257 := Try.func32.trans (congrArg some (by kernel_rfl))
  f294 := Try.func43.trans (congrArg some (by kernel_rfl))
  f295 := Try.func44.trans (congrArg some (by kernel_rfl))
  f296 := Try.func45.trans (congrArg some (by kernel_rfl))
  f297 := Try.func46.trans (congrArg some (by kernel_rfl))
  f298 := Try.func47.trans (congrArg some (by kernel_rfl))
  f299 := Try.func48.trans (congrArg some (by kernel_rfl))
  f300 := Try.func50.trans (congrArg some (by kernel_rfl))
  f301 := Try.func51.trans (congrArg some (by kernel_rfl))
  f328 := Try.func55.trans (congrArg some (by kernel_rfl))
  f329 := Try.func56.trans (congrArg some (by kernel_rfl))
  f330 := Try.func57.trans (congrArg some (by kernel_rfl))
  f331 := Try.func58.trans (congrArg some (by kernel_rfl))
  f332 := Try.func59.trans (congrArg some (by kernel_rfl))
  f343 := Try.func61.trans (congrArg some (by kernel_rfl))
  t0 := Try.underlying0
  a0 := Try.isAgg0
  z0 := Try.sizeOf0
  v0 := Try.zeroValue0
  t3 := Try.underlying3
  a3 := Try.isAgg3
  z3 := Try.sizeOf3
  v3 := Try.zeroValue3
  t4 := Try.underlying4
  a4 := Try.isAgg4
  z4 := Try.sizeOf4
  v4 := Try.zeroValue4
  t5 := Try.underlying5
  a5 := Try.isAgg5
  z5 := Try.sizeOf5
  v5 := Try.zeroValue5
  t9 := Try.underlying9
  a9 := Try.isAgg9
  z9 := Try.sizeOf9
  v9 := Try.zeroValue9
  t28 := Try.underlying25
  a28 := Try.isAgg25
  z28 := Try.sizeOf25
  v28 := Try.zeroValue25
  t46 := Try.underlying66
  a46 := Try.isAgg66
  z46 := Try.sizeOf66
  v46 := Try.zeroValue66
  t51 := Try.underlying83
  a51 := Try.isAgg83
  z51 := Try.sizeOf83
  v51 := Try.zeroValue83
  t53 := Try.underlying85
  a53 := Try.isAgg85
  z53 := Try.sizeOf85
  v53 := Try.zeroValue85
  t131 := Try.underlying80
  a131 := Try.isAgg80
  z131 := Try.sizeOf80
  v131 := Try.zeroValue80
  t182 := Try.underlying75
  a182 := Try.isAgg75
  z182 := Try.sizeOf75
  v182 := Try.zeroValue75
  t183 := Try.underlying76
  a183 := Try.isAgg76
  z183 := Try.sizeOf76
  v183 := Try.zeroValue76
  t218 := Try.underlying87
  a218 := Try.isAgg87
  z218 := Try.sizeOf87
  v218 := Try.zeroValue87
  t222 := Try.underlying91
  a222 := Try.isAgg91
  z222 := Try.sizeOf91
  v222 := Try.zeroValue91
  t228 := Try.underlying93
  a228 := Try.isAgg93
  z228 := Try.sizeOf93
  v228 := Try.zeroValue93
  t229 := Try.underlying94
  a229 := Try.isAgg94
  z229 := Try.sizeOf94
  v229 := Try.zeroValue94 }
def Try.lays2_20_ren : Go.Shelf.Ren := ⟨fun | 20 => 17 | n => n, fun | 22 => 25 | 3 => 3 | 4 => 4 | 0 => 0 | n => n, fun | n => n⟩
theorem Try.lays2_20 : Go.Proofs.Lays2.n20 Try.prog Try.lays2_20_ren := {
  mixed := by kernel_rfl
  f20 := Try.func17.trans (congrArg some (by kernel_rfl))
  t0 := Try.underlying0
  a0 := Try.isAgg0
  z0 := Try.sizeOf0
  v0 := Try.zeroValue0
  t3 := Try.underlying3
  a3 := Try.isAgg3
  z3 := Try.sizeOf3
  v3 := Try.zeroValue3
  t4 := Try.underlying4
  a4 := Try.isAgg4
  z4 := Try.sizeOf4
  v4 := Try.zeroValue4
  t22 := Try.underlying25
  a22 := Try.isAgg25
  z22 := Try.sizeOf25
  v22 := Try.zeroValue25
  i3 := by kernel_rfl }
end Go.Proofs

/- The lifts of a grid, by the program. -/
set_option linter.unusedSimpArgs false
set_option linter.unusedVariables false
set_option maxRecDepth 100000
namespace Go.Proofs.Ytlckfakifamjiaa
open Go Go.Proofs Go.AW

theorem rows_s (h0 : List AObj) {W H : Nat} (hW1 : 1 ≤ W) (hW4 : W ≤ 4) (hH1 : 1 ≤ H) (hH : H ≤ 64) (b : Bool) {l : List Bool} (hn : l.length = W * H) : SpecTo Try.prog 15 [GA W H b l] h0 (.ref h0.length 0 H H) (h0 ++ [⟨3, 1, ints (nI (rowsL W l H))⟩]) := by
  have hxl : ((List.range H).map (chV b W l)).length = H := by simp
  have hxg : ∀ k, k < H → ((List.range H).map (chV b W l)).getD k .undef = chV b W l k := fun k hk => by
    rw [List.getD_eq_getElem?_getD, List.getElem?_map, List.getElem?_range hk]; rfl
  have hg := chunkF_y true true b hW1 (show W ≤ 64 by omega) hH hn
  generalize (List.range H).map (chV b W l) = xs at *
  refine SpecTo.intro (effS [] false) follows Try.func15 rfl rfl (by kernel_rfl) (Nat.le_of_ble_eq_true rfl) ?_
  simp (disch := first | assumption | omega | rfl | simp only [RH]) only [↓RP, RG, FX, RQ, ↓reduceIte, Nat.reduceEqDiff, reduceCtorEq, Nat.reduceBEq, Nat.reduceAdd, Nat.reduceLeDiff, args0_1]
  refine callK_F 6 (chunk_c b l hW1) (by simp (disch := first | assumption | omega | rfl | simp only [RH]) only [↓RP, RG, FX, RQ, ↓reduceIte, Nat.reduceEqDiff, reduceCtorEq, Nat.reduceBEq, Nat.reduceAdd, Nat.reduceLeDiff, RA] <;> rfl) (.inr (by simp [noRef, bools_noRef])) ?_
  simp (disch := first | assumption | omega | rfl | simp only [RH]) only [↓RP, RG, FX, RQ, ↓reduceIte, Nat.reduceEqDiff, reduceCtorEq, Nat.reduceBEq, Nat.reduceAdd, Nat.reduceLeDiff]
  refine rangeK_S (s := ⟨[(3, .ptr (h0.length + 1) 0 1), (12, .func (.func 42) [] [.spot true [BA b l], .spot true [I W]])], h0 ++ [⟨24, 3, [I W, I H, BA b l]⟩, ⟨25, 1, [gw true (h0.length + 2) (ints (nI (rowsL W l 0)))]⟩, go 3 (ints (nI (rowsL W l 0)))]⟩) [3, 12] xs (fun k => h0 ++ [⟨24, 3, [I W, I H, BA b l]⟩, ⟨25, 1, [gw true (h0.length + 2) (ints (nI (rowsL W l k)))]⟩, go 3 (ints (nI (rowsL W l k)))]) ?_ rfl rfl (hg _) (fun i hi => ?_) ?_
  · simp only [↓RP, RG, FX, RQ, ↓reduceIte, Nat.reduceEqDiff, reduceCtorEq, Nat.reduceBEq, Nat.reduceAdd, Nat.reduceLeDiff]
    exact Wk.weak (fun t => .refl _) (.app h0 (.cons _ _ _ _ (WL.refl _) (.cons _ _ _ _ (.cons (.nil _) .nil) (.nil _ (by simp [go, ints, rowsL, nI])))))
  · rw [hxl] at hi
    rw [hxg i hi]
    have hlen := rowsL_len W l i
    have hnl := nI_len (rowsL W l i)
    have h3 : W * i + W ≤ W * H := by
      have := Nat.mul_le_mul_left W (show i + 1 ≤ H by omega)
      rwa [Nat.mul_succ] at this
    have hsucc : nI (rowsL W l (i + 1)) = nI (rowsL W l i) ++ [((rowK W l i W : Nat) : Int)] := by rw [rowsL_succ, nI_app]
    have hcl : ((l.drop (W * i)).take W).length = W := by rw [List.length_take, List.length_drop]; omega
    have hcg : ∀ s, s < W → ((l.drop (W * i)).take W).getD s false = l.getD (W * i + s) false := fun s hs => by
      rw [List.getD_eq_getElem?_getD, List.getElem?_take_of_lt hs, List.getElem?_drop, List.getD_eq_getElem?_getD]
    unfold chV
    generalize (l.drop (W * i)).take W = c at *
    generalize hR : rowsL W l i = R at *
    simp (disch := first | assumption | omega | rfl | simp only [RH]) only [↓RP, RG, FX, RQ, ↓reduceIte, Nat.reduceEqDiff, reduceCtorEq, Nat.reduceBEq, Nat.reduceAdd, Nat.reduceLeDiff]
    refine loopK_I [3, 5, 14, 15, 16] (fun k : Nat => k ≤ W) (fun k : Nat => ⟨[(3, .ptr (h0.length + 1) 0 1), (5, I ((rowK W l i k : Nat) : Int)), (14, .list false b W (bools c)), (15, I W), (16, I k)], h0 ++ [⟨24, 3, [I W, I H, BA b l]⟩, ⟨25, 1, [gw true (h0.length + 2) (ints (nI R))]⟩, go 3 (ints (nI R))]⟩) (fun k => W - k) 0 (by omega) (by simp only [↓RP, RG, FX, RQ, ↓reduceIte, Nat.reduceEqDiff, reduceCtorEq, Nat.reduceBEq, Nat.reduceAdd, Nat.reduceLeDiff]; rfl) ?_
    intro k hk
    have hrl := rowK_lt W l i k
    have hp4 : 2 ^ k ≤ 16 := by
      have := Nat.pow_le_pow_right (show 0 < 2 by omega) (show k ≤ 4 by omega)
      simpa using this
    by_cases hlt : k < W
    · have hck := hcg k hlt
      have hrk : rowK W l i (k + 1) = if l.getD (W * i + k) false = true then rowK W l i k ||| 2 ^ k else rowK W l i k := rfl
      cases hb : l.getD (W * i + k) false with
      | true =>
        rw [hb, if_pos rfl] at hrk
        rw [hb] at hck
        have s1 := shl64 (n := k) (by omega)
        have hp16 : 2 ^ k < 16 := by
          have := Nat.pow_lt_pow_right (show 1 < 2 by omega) (show k < 4 by omega)
          simpa using this
        have s2 := or64 (x := rowK W l i k) (y := 2 ^ k) (by omega) hp16
        generalize 2 ^ k = q at *
        generalize hr : rowK W l i k = r at *
        simp (disch := first | assumption | omega | rfl | simp only [RH]) only [↓RP, RG, FX, RQ, ↓reduceIte, Nat.reduceEqDiff, reduceCtorEq, Nat.reduceBEq, Nat.reduceAdd, Nat.reduceLeDiff, hck, aBin_shl, s1, s2]
        exact ⟨k + 1, hlt, by rw [hrk]; rfl, by omega⟩
      | false =>
        rw [hb, if_neg (by simp)] at hrk
        rw [hb] at hck
        generalize hr : rowK W l i k = r at *
        simp (disch := first | assumption | omega | rfl | simp only [RH]) only [↓RP, RG, FX, RQ, ↓reduceIte, Nat.reduceEqDiff, reduceCtorEq, Nat.reduceBEq, Nat.reduceAdd, Nat.reduceLeDiff, hck]
        exact ⟨k + 1, hlt, by rw [hrk]; rfl, by omega⟩
    · obtain rfl : k = W := by omega
      generalize hr : rowK k l i k = r at *
      simp (disch := first | assumption | omega | rfl | simp only [RH]) only [↓RP, RG, FX, RQ, ↓reduceIte, Nat.reduceEqDiff, reduceCtorEq, Nat.reduceBEq, Nat.reduceAdd, Nat.reduceLeDiff, append_int]
      refine Wk.of_eq ?_
      rw [hsucc]
  · have hlen := rowsL_len W l H
    have hnl := nI_len (rowsL W l H)
    have hp : 0 < (ints (nI (rowsL W l H))).length := by rw [ints_length]; omega
    have hpl : (ints (nI (rowsL W l H))).length = H := by rw [ints_length]; omega
    rw [hxl]
    generalize rowsL W l H = R at *
    simp (disch := first | assumption | omega | rfl | simp only [RH]) only [↓RP, RG, FX, RQ, ↓reduceIte, Nat.reduceEqDiff, reduceCtorEq, Nat.reduceBEq, Nat.reduceAdd, Nat.reduceLeDiff, gw_pos hp, go_pos hp, hpl]
    refine ⟨_, by rw [resVal_1 rfl]; simp (disch := first | assumption | omega | rfl | simp only [RH]) only [↓RP, RG, FX, RQ, ↓reduceIte, Nat.reduceEqDiff, reduceCtorEq, Nat.reduceBEq, Nat.reduceAdd, Nat.reduceLeDiff, raX_tmp, raX_cell, rvX_0, rvX_1, rvX_2, rvX_3, rvX_4, rvX_5]; rfl, (Wk.drop 8 [2] (by simp) (by decide) (by simp) (same_refl)).trans (Wk.of_eq (by simp (disch := omega) only [RK, List.idxOf?_cons, List.idxOf?_nil, Nat.reduceBEq, Option.map_some, Option.map_none, List.map_cons, List.map_nil, List.getD_cons_zero, List.getD_cons_succ, Bool.false_eq_true, ↓reduceIte, Nat.add_zero, List.append_nil]))⟩
theorem rowsL_lt (W : Nat) (l : List Bool) (k : Nat) : ∀ x ∈ rowsL W l k, x < 2 ^ W := by
  intro x hx
  simp only [rowsL, List.mem_map] at hx
  obtain ⟨y, _, rfl⟩ := hx
  exact rowK_lt W l y W
theorem uniq_rows {W : Nat} {R : List Nat} (hR : ∀ x ∈ R, x < 2 ^ W) : uniq (nI R) = nI (if 0 ∈ R then 0 :: nzL W R else nzL W R) := by
  have hm : ∀ x : Int, x ∈ nI R ↔ ∃ y ∈ R, x = (y : Int) := fun x => by
    unfold nI; simp only [List.mem_map]
    exact ⟨fun ⟨y, h, e⟩ => ⟨y, h, e.symm⟩, fun ⟨y, h, e⟩ => ⟨y, h, e.symm⟩⟩
  have hnz := (nz_tie W R).1
  refine uniq_eq ?_ fun x => ?_
  · unfold nI
    rw [List.pairwise_map]
    by_cases h0 : 0 ∈ R
    · rw [if_pos h0]
      refine List.pairwise_cons.2 ⟨fun y hy => by have := (mem_nz.1 hy).2.1; omega, hnz.imp fun h => by omega⟩
    · rw [if_neg h0]; exact hnz.imp fun h => by omega
  · rw [hm]
    unfold nI
    simp only [List.mem_map]
    by_cases h0 : 0 ∈ R
    · rw [if_pos h0]
      constructor
      · rintro ⟨y, hy, rfl⟩
        rcases List.mem_cons.1 hy with e | e
        · subst e; exact ⟨0, h0, rfl⟩
        · exact ⟨y, (mem_nz.1 e).2.2, rfl⟩
      · rintro ⟨y, hy, rfl⟩
        by_cases e : y = 0
        · subst e; exact ⟨0, List.mem_cons_self, rfl⟩
        · exact ⟨y, List.mem_cons_of_mem _ (mem_nz.2 ⟨hR y hy, by omega, hy⟩), rfl⟩
    · rw [if_neg h0]
      constructor
      · rintro ⟨y, hy, rfl⟩; exact ⟨y, (mem_nz.1 hy).2.2, rfl⟩
      · rintro ⟨y, hy, rfl⟩
        have : y ≠ 0 := fun e => h0 (e ▸ hy)
        exact ⟨y, mem_nz.2 ⟨hR y hy, by omega, hy⟩, rfl⟩
theorem rX_off {h : List AObj} {n k ext ty : Nat} {a : Int} {u z : List Int} (hk : k = u.length) (he : ext = (a :: (u ++ z)).length) : rX h (n + 1) 1 k ext (some ⟨ty, 1, ints (a :: (u ++ z))⟩) = LR false u := by
  subst hk; subst he
  have e : List.take u.length (ints (a :: (u ++ z))).tail = ints u := by simp [ints, ← List.map_take]
  simp [rX, ints_length, e, ints_res]
theorem rX_cutL {h : List AObj} {n k ext ty : Nat} {u z : List Int} (hk : k = u.length) (he : ext = (u ++ z).length) : rX h (n + 1) 0 k ext (some ⟨ty, 1, ints (u ++ z)⟩) = LR false u := by
  subst hk; subst he
  have e : (ints (u ++ z)).take u.length = ints u := by simp [ints, ← List.map_take]
  simp [rX, ints_length, e, ints_res]
theorem sl_ref_end {P : Program} {t e nb : Nat} {z : Value} [S : SlT P t e nb z] {h : List AObj} {id n ext : Nat} {k : IntKind} {c : Int} {cs : List AVal} (hc : cA h[id]? ext = some cs) (h0 : c = n) :
    aSlice P t h (.ref id 0 n ext) (some (.val (.int k c))) none none = some (.list true false 0 []) := by
  obtain ⟨⟨T, hT, hTe⟩, E, hE, g1, g2, g3, g4⟩ := S
  subst h0
  simp only [aSlice, hT, hTe, hE, sview, optInt, g1, cellsAt_eq, hc]
  simp only [Option.map_some, Nat.mul_one]
  rw [if_pos ⟨by omega, Int.le_refl _, Int.le_refl _, by rw [g1]; decide⟩, if_pos trivial]
theorem liftsP_c {W H : Nat} (hW1 : 1 ≤ W) (hW4 : W ≤ 4) (hH1 : 1 ≤ H) (hH : H ≤ 64) (b : Bool) {l : List Bool} (hn : l.length = W * H) : Contract Try.prog 5 [GA W H b l] (.tuple [LR false (nI (nzL W (rowsL W l H))), I 0]) := by
  have hz : gchk W H l.length = 0 := gchk_ok ⟨by omega, by omega, by omega, by omega, by rw [hn, Int.natCast_mul]⟩
  have hlen := rowsL_len W l H
  have hnl := nI_len (rowsL W l H)
  have hul : (uniq (nI (rowsL W l H))).length ≤ H := by have := uniq_len (nI (rowsL W l H)); rw [ms_len] at this; omega
  have hsl := ms_len (nI (rowsL W l H))
  have hur := uniq_rows (rowsL_lt W l H)
  have hup : 0 < (uniq (nI (rowsL W l H))).length := by
    have h1 : (nI (rowsL W l H)).getD 0 0 ∈ uniq (nI (rowsL W l H)) := ((uniq_spec _).2 _).2 (by rw [List.getD_eq_getElem?_getD, List.getElem?_eq_getElem (by omega)]; exact List.getElem_mem (by omega))
    exact List.length_pos_of_mem h1
  refine Contract.intro (effS [15, 16, 17] false) 6 follows Try.func5 rfl rfl (by kernel_rfl) (Nat.le_of_ble_eq_true rfl) ?_
  simp (disch := first | assumption | omega | rfl | simp only [RH]) only [↓RP, RG, FX, RQ, ↓reduceIte, Nat.reduceEqDiff, reduceCtorEq, Nat.reduceBEq, Nat.reduceAdd, Nat.reduceLeDiff, args0_1]
  refine callK_F 6 (gcheckP_c W H b l) (by simp (disch := first | assumption | omega | rfl | simp only [RH]) only [↓RP, RG, FX, RQ, ↓reduceIte, Nat.reduceEqDiff, reduceCtorEq, Nat.reduceBEq, Nat.reduceAdd, Nat.reduceLeDiff, RA] <;> rfl) (.inl (by simp [allFresh, ints_fresh, bools_fresh])) ?_
  simp (disch := first | assumption | omega | rfl | simp only [RH]) only [↓RP, RG, FX, RQ, ↓reduceIte, Nat.reduceEqDiff, reduceCtorEq, Nat.reduceBEq, Nat.reduceAdd, Nat.reduceLeDiff, hz]
  refine callK_T rfl (rows_s _ hW1 hW4 hH1 hH b hn) ?_
  simp (disch := first | assumption | omega | rfl | simp only [RH]) only [↓RP, RG, FX, RQ, ↓reduceIte, Nat.reduceEqDiff, reduceCtorEq, Nat.reduceBEq, Nat.reduceAdd, Nat.reduceLeDiff]
  refine callK_T rfl (sort_spec (ρ := Try.lays189_ren) Try.lays189 (by kernel_rfl) (id := 1) rfl (by decide) (hnl.trans hlen) (by omega)) ?_
  simp (disch := first | assumption | omega | rfl | simp only [RH]) only [↓RP, RG, FX, RQ, ↓reduceIte, Nat.reduceEqDiff, reduceCtorEq, Nat.reduceBEq, Nat.reduceAdd, Nat.reduceLeDiff]
  refine callK_T rfl (compact_spec (ρ := Try.lays2_20_ren) Try.lays2_20 (by kernel_rfl) (id := 1) rfl (by decide) (hsl.trans (hnl.trans hlen)) (by omega)) ?_
  have hu : Lib.compact (srt (nI (rowsL W l H))) = uniq (nI (rowsL W l H)) := rfl
  rw [hu, hur]
  rw [hur] at hul hup
  generalize hzz : List.replicate (H - (nI (if 0 ∈ rowsL W l H then 0 :: nzL W (rowsL W l H) else nzL W (rowsL W l H))).length) (0 : Int) = z
  have hzl : z.length = H - (nI (if 0 ∈ rowsL W l H then 0 :: nzL W (rowsL W l H) else nzL W (rowsL W l H))).length := by rw [← hzz, List.length_replicate]
  by_cases h0 : 0 ∈ rowsL W l H
  · simp only [if_pos h0] at hul hup hzl ⊢
    have hcons : nI (0 :: nzL W (rowsL W l H)) = 0 :: nI (nzL W (rowsL W l H)) := rfl
    rw [hcons] at hul hup hzl ⊢
    generalize nI (nzL W (rowsL W l H)) = N at *
    have hl1 : (0 :: (N ++ z)).length = H := by rw [List.length_cons, List.length_append]; rw [List.length_cons] at hzl hul; omega
    have hg0 : (0 :: (N ++ z)).getD 0 0 = 0 := rfl
    have hNl : (0 :: N).length = N.length + 1 := List.length_cons
    by_cases hN0 : N.length = 0
    · obtain rfl : N = [] := List.eq_nil_of_length_eq_zero hN0
      have hl2 : (0 :: z).length = H := hl1
      have hg2 : (0 :: z).getD 0 0 = 0 := rfl
      have hse : aSlice Try.prog 25 [⟨24, 3, [I W, I H, BA b l]⟩, ⟨3, 1, ints (0 :: z)⟩] (.ref 1 0 1 H) (some (.val (.int .i64 1))) none none = some (.list true false 0 []) := sl_ref_end (cs := ints (0 :: z)) (cA_ints hl2) rfl
      simp (disch := first | assumption | omega | rfl | simp only [RH]) only [↓RP, RG, FX, RQ, ↓reduceIte, Nat.reduceEqDiff, reduceCtorEq, Nat.reduceBEq, Nat.reduceAdd, Nat.reduceLeDiff, Int.toNat_zero, hg2, hse]
      rw [resVal_2 rfl]; simp (disch := first | assumption | omega | rfl | simp only [RH]) only [↓RP, RG, FX, RQ, ↓reduceIte, Nat.reduceEqDiff, reduceCtorEq, Nat.reduceBEq, Nat.reduceAdd, Nat.reduceLeDiff, RS]
      first | done | rfl
    · have h1t : Int.toNat 1 = 1 := rfl
      simp (disch := first | assumption | omega | rfl | simp only [RH]) only [↓RP, RG, FX, RQ, ↓reduceIte, Nat.reduceEqDiff, reduceCtorEq, Nat.reduceBEq, Nat.reduceAdd, Nat.reduceLeDiff, Int.toNat_zero, hg0, sl_ref_lo, h1t, Nat.add_sub_cancel]
      rw [resVal_2 rfl]; simp (disch := first | assumption | omega | rfl | simp only [RH]) only [↓RP, RG, FX, RQ, ↓reduceIte, Nat.reduceEqDiff, reduceCtorEq, Nat.reduceBEq, Nat.reduceAdd, Nat.reduceLeDiff, RS]
      first | done | (rw [rX_off rfl hl1.symm])
  · simp only [if_neg h0] at hul hup hzl ⊢
    have hpos : ∀ i, i < (nI (nzL W (rowsL W l H))).length → (nI (nzL W (rowsL W l H))).getD i 0 ≠ 0 := fun i hi => by
      rw [nI_len] at hi
      rw [nI_get]
      have hm : (nzL W (rowsL W l H)).getD i 0 ∈ nzL W (rowsL W l H) := by rw [List.getD_eq_getElem?_getD, List.getElem?_eq_getElem hi]; exact List.getElem_mem hi
      have := (mem_nz.1 hm).2.1
      omega
    generalize nI (nzL W (rowsL W l H)) = N at *
    have hl1 : (N ++ z).length = H := by rw [List.length_append]; omega
    have hg0 : (N ++ z).getD 0 0 = N.getD 0 0 := by
      rw [List.getD_eq_getElem?_getD, List.getElem?_append_left hup, List.getD_eq_getElem?_getD]
    have hp0 := hpos 0 hup
    simp (disch := first | assumption | omega | rfl | simp only [RH]) only [↓RP, RG, FX, RQ, ↓reduceIte, Nat.reduceEqDiff, reduceCtorEq, Nat.reduceBEq, Nat.reduceAdd, Nat.reduceLeDiff, Int.toNat_zero, hg0]
    rw [resVal_2 rfl]; simp (disch := first | assumption | omega | rfl | simp only [RH]) only [↓RP, RG, FX, RQ, ↓reduceIte, Nat.reduceEqDiff, reduceCtorEq, Nat.reduceBEq, Nat.reduceAdd, Nat.reduceLeDiff, RS]
    first | done | (rw [rX_cutL rfl hl1.symm])
end Go.Proofs.Ytlckfakifamjiaa

/- What a tie-up covers, by the reference: an array of bools. -/
set_option linter.unusedSimpArgs false
set_option linter.unusedVariables false
set_option maxRecDepth 100000
namespace Go.Proofs.Ytlckfakifamjiaa
open Go Go.Proofs Go.AW

theorem arT : ∃ T E, tyI Try.prog 71 = some T ∧ T.elem = none ∧ T.arr = some (16, 4) ∧ tyI Try.prog 4 = some E ∧ E.size = 1 := by
  have h : (tyI Try.prog 71).any (fun T => T.elem.isNone && (T.arr == some (16, 4)) && (tyI Try.prog 4).any fun E => E.size == 1) = true := by kernel_rfl
  revert h
  cases tyI Try.prog 71 with
  | none => intro h; cases h
  | some T =>
    cases tyI Try.prog 4 with
    | none => intro h; simp at h
    | some E =>
      intro h
      simp only [Option.any_some, Bool.and_eq_true, beq_iff_eq, Option.isNone_iff_eq_none] at h
      exact ⟨T, E, rfl, h.1.1, h.1.2, rfl, h.2⟩
theorem arAt {h : List AObj} {id off ext : Nat} {k : IntKind} {n : Int} (h0 : 0 ≤ n) (h1 : n < 16) : aIdx Try.prog 71 h (.ptr id off ext) (.val (.int k n)) = (cA h[id]? ext).map fun _ => .ptr id (off + n.toNat) ext := by
  obtain ⟨T, E, e1, e2, e3, e4, e5⟩ := arT
  simp only [aIdx, e1, e2, e3, e4, e5, Nat.mul_one, cellsAt_eq]
  cases hc : cA h[id]? ext with
  | none => simp
  | some cs => rw [if_pos ⟨h0, by omega, rfl⟩]; rfl
theorem parts_bools (l : List Bool) : AVal.parts (.agg (bools l)) = some (bools l) := rfl
theorem cA16 {l : List Bool} {t n : Nat} (hl : l.length = 16) : cA (some ⟨t, n, bools l⟩) 16 = some (bools l) := by
  simp [cA, bools_length, hl]
theorem take16 {l : List Bool} (hl : l.length = 16) : (bools l).take 16 = bools l := List.take_of_length_le (by rw [bools_length]; omega)
theorem splice16 {l m : List Bool} (hl : l.length = 16) (hm : m.length = 16) : splice (bools l) 0 (bools m) = bools m := by
  unfold splice
  split
  · rename_i v hv
    have := congrArg List.length hv
    rw [bools_length, hm] at this; simp at this
  · rw [List.take_zero, List.nil_append, Nat.zero_add, List.drop_eq_nil_of_le (by rw [bools_length, bools_length]; omega), List.append_nil]
theorem sX16 {g : Bool} {h : List AObj} {id es ty : Nat} {l m : List Bool} (hty : ty ≠ 1000003) (hl : l.length = 16) (hm : m.length = 16) : sX (some (g, 16)) h id 0 16 (some ⟨ty, es, bools l⟩) (some (bools m)) = some (h.set id ⟨ty, es, bools m⟩) := by
  rw [sX_mk hty, if_pos ⟨by rw [bools_length]; exact hl, by rw [bools_length]; exact hm, by rw [bools_length]; omega, by simp [bools, AVal.one, Value.oneCell']⟩, splice16 hl hm]
/-- The array after n rounds. -/
def Rt (tie : List Nat) (n : Nat) (l : List Bool) : Prop := l.length = 16 ∧ ∀ y, y < 16 → (l.getD y false = true ↔ Rk tie n y)
theorem rt_unique {tie : List Nat} {n : Nat} {l m : List Bool} (hl : Rt tie n l) (hm : Rt tie n m) : l = m := by
  apply List.ext_getElem (by rw [hl.1, hm.1])
  intro i h1 h2
  have h3 := hl.2 i (by rw [← hl.1]; exact h1)
  have h4 := hm.2 i (by rw [← hl.1]; exact h1)
  rw [List.getD_eq_getElem?_getD, List.getElem?_eq_getElem h1] at h3
  rw [List.getD_eq_getElem?_getD, List.getElem?_eq_getElem h2] at h4
  exact Bool.eq_iff_iff.2 (h3.trans h4.symm)
theorem set_getD {l : List Bool} {i j : Nat} (hi : i < l.length) : (l.set i true).getD j false = (decide (i = j) || l.getD j false) := by
  rw [List.getD_eq_getElem?_getD, List.getElem?_set, List.getD_eq_getElem?_getD]
  by_cases h : i = j
  · subst h; simp [hi]
  · simp [h]
theorem reached_c (b : Bool) {tie : List Nat} (hn : tie.length ≤ 1000) (ht : ∀ i, i < tie.length → tie.getD i 0 < 16) {feet : Nat} (hf : feet ≤ 4) {l : List Bool} (hl : Rt tie feet l) :
    Contract Try.prog 41 [LA b (nI tie), I feet] (.agg (bools l)) := by
  have lt := nI_len tie
  have hmem : ∀ t, t ∈ tie ↔ ∃ j, j < tie.length ∧ tie.getD j 0 = t := fun t => by
    rw [List.mem_iff_getElem]
    constructor
    · rintro ⟨i, hi, h⟩; exact ⟨i, hi, by rw [List.getD_eq_getElem?_getD, List.getElem?_eq_getElem hi]; exact h⟩
    · rintro ⟨i, hi, h⟩; exact ⟨i, hi, by rw [List.getD_eq_getElem?_getD, List.getElem?_eq_getElem hi] at h; exact h⟩
  have hR0 : (List.replicate 16 false).length = 16 := List.length_replicate
  generalize hZ : List.replicate 16 false = Z at *
  have hz0 : ∀ y, Z.getD y false = false := fun y => by rw [← hZ, List.getD_eq_getElem?_getD, List.getElem?_replicate]; split <;> rfl
  have hl0 := hl.1
  refine Contract.intro (effS [] false) 6 follows Try.func41 rfl rfl (by kernel_rfl) (Nat.le_of_ble_eq_true rfl) ?_
  simp (disch := first | assumption | omega | rfl | simp only [RH]) only [↓RP, RG, FX, RQ, ↓reduceIte, Nat.reduceEqDiff, reduceCtorEq, Nat.reduceBEq, Nat.reduceAdd, Nat.reduceLeDiff, args0_2, hZ, arAt, cA16]
  refine loopK_WW [0, 1, 4, 5, 6] (fun s : Nat × List Bool => s.1 ≤ feet ∧ Rt tie s.1 s.2) (fun s => ⟨[(0, LA b (nI tie)), (1, I feet), (4, .ptr 0 0 16), (5, .ptr 1 0 16), (6, I s.1)], [⟨71, 16, bools Z⟩, ⟨71, 16, bools s.2⟩]⟩) (fun s => feet - s.1) (0, Z.set 0 true) ⟨by simp only; omega, by simp [hR0], fun y hy => by
    simp only
    rw [set_getD (by omega), hz0, Bool.or_false, decide_eq_true_eq]
    exact eq_comm⟩ (Wk.of_eq (by simp only [↓RP, RG, FX, RQ, ↓reduceIte, Nat.reduceEqDiff, reduceCtorEq, Nat.reduceBEq, Nat.reduceAdd, Nat.reduceLeDiff]; rfl)) ?_
  rintro ⟨n, m⟩ ⟨h1, h2, h3⟩
  simp only at h1 h2 h3 ⊢
  by_cases hk : n < feet
  · have c1 := fun (t : TypeId) (k : Nat) => cA16 (t := t) (n := k) h2
    simp (disch := first | assumption | omega | rfl | simp only [RH]) only [↓RP, RG, FX, RQ, ↓reduceIte, Nat.reduceEqDiff, reduceCtorEq, Nat.reduceBEq, Nat.reduceAdd, Nat.reduceLeDiff, hZ, c1, take16 h2, parts_bools, h2, Nat.le_refl, sX16]
    refine loopK_I [0, 1, 4, 5, 6, 7, 8] (fun s : Nat × List Bool => s.1 ≤ 16 ∧ s.2.length = 16 ∧ ∀ y, y < 16 → (s.2.getD y false = true ↔ m.getD y false = true ∨ ∃ x, x < s.1 ∧ m.getD x false = true ∧ ∃ t ∈ tie, y = x ||| t)) (fun s => ⟨[(0, LA b (nI tie)), (1, I feet), (4, .ptr 0 0 16), (5, .ptr 1 0 16), (6, I n), (7, .ptr 2 0 16), (8, I s.1)], [⟨71, 16, bools Z⟩, ⟨71, 16, bools m⟩, ⟨71, 16, bools s.2⟩]⟩) (fun s => 16 - s.1) (0, m) ⟨by simp only; omega, h2, fun y hy => by simp⟩ (by simp only [↓RP, RG, FX, RQ, ↓reduceIte, Nat.reduceEqDiff, reduceCtorEq, Nat.reduceBEq, Nat.reduceAdd, Nat.reduceLeDiff]; rfl) ?_
    rintro ⟨x, p⟩ ⟨g1, g2, g3⟩
    simp only at g1 g2 g3 ⊢
    by_cases hx : x < 16
    · obtain ⟨A, hA⟩ : ∃ A : Prop, A ↔ m.getD x false = true := ⟨_, Iff.rfl⟩
      simp (disch := first | assumption | omega | rfl | simp only [RH]) only [↓RP, RG, FX, RQ, ↓reduceIte, Nat.reduceEqDiff, reduceCtorEq, Nat.reduceBEq, Nat.reduceAdd, Nat.reduceLeDiff]
      refine loopK_I [0, 1, 4, 5, 6, 7, 8, 9] (fun s : Nat × List Bool => s.1 ≤ tie.length ∧ s.2.length = 16 ∧ ∀ y, y < 16 → (s.2.getD y false = true ↔ p.getD y false = true ∨ A ∧ ∃ j, j < s.1 ∧ y = x ||| tie.getD j 0)) (fun s => ⟨[(0, LA b (nI tie)), (1, I feet), (4, .ptr 0 0 16), (5, .ptr 1 0 16), (6, I n), (7, .ptr 2 0 16), (8, I x), (9, I s.1)], [⟨71, 16, bools Z⟩, ⟨71, 16, bools m⟩, ⟨71, 16, bools s.2⟩]⟩) (fun s => tie.length - s.1) (0, p) ⟨by simp only; omega, g2, fun y hy => by simp⟩ (by simp only [↓RP, RG, FX, RQ, ↓reduceIte, Nat.reduceEqDiff, reduceCtorEq, Nat.reduceBEq, Nat.reduceAdd, Nat.reduceLeDiff]; rfl) ?_
      rintro ⟨i, q⟩ ⟨f1, f2, f3⟩
      simp only at f1 f2 f3 ⊢
      have c3 := fun (t : TypeId) (k : Nat) => cA16 (t := t) (n := k) f2
      have hfin : ∀ q' : List Bool, q'.length = 16 → (∀ y, y < 16 → (q'.getD y false = true ↔ p.getD y false = true ∨ A ∧ ∃ j, j < tie.length ∧ y = x ||| tie.getD j 0)) → ∀ y, y < 16 → (q'.getD y false = true ↔ m.getD y false = true ∨ ∃ x', x' < x + 1 ∧ m.getD x' false = true ∧ ∃ t ∈ tie, y = x' ||| t) := fun q' hq1 hq2 y hy => by
        rw [hq2 y hy, g3 y hy]
        constructor
        · rintro ((h | ⟨x', e1, e2, e3⟩) | ⟨e1, j, e2, e3⟩)
          · exact .inl h
          · exact .inr ⟨x', by omega, e2, e3⟩
          · exact .inr ⟨x, by omega, hA.1 e1, _, (hmem _).2 ⟨j, e2, rfl⟩, e3⟩
        · rintro (h | ⟨x', e1, e2, t, e3, e4⟩)
          · exact .inl (.inl h)
          · by_cases e : x' = x
            · subst e
              obtain ⟨j, j1, j2⟩ := (hmem _).1 e3
              exact .inr ⟨hA.2 e2, j, j1, by rw [j2]; exact e4⟩
            · exact .inl (.inr ⟨x', by omega, e2, t, e3, e4⟩)
      by_cases hi : i < tie.length
      · cases hm : m.getD x false with
        | true =>
          have hti := ht i hi
          have hg := nI_get tie i
          have ho := or64 hx hti
          have ho2 : x ||| tie.getD i 0 < 16 := Nat.or_lt_two_pow (n := 4) hx hti
          have hst : ∀ y, y < 16 → ((q.set (x ||| tie.getD i 0) true).getD y false = true ↔ p.getD y false = true ∨ A ∧ ∃ j, j < i + 1 ∧ y = x ||| tie.getD j 0) := fun y hy => by
            rw [set_getD (by omega), Bool.or_eq_true, decide_eq_true_eq, f3 y hy]
            constructor
            · rintro (h | h | ⟨e1, j, e2, e3⟩)
              · exact .inr ⟨hA.2 hm, i, by omega, h.symm⟩
              · exact .inl h
              · exact .inr ⟨e1, j, by omega, e3⟩
            · rintro (h | ⟨e1, j, e2, e3⟩)
              · exact .inr (.inl h)
              · by_cases e : j = i
                · subst e; exact .inl e3.symm
                · exact .inr (.inr ⟨e1, j, by omega, e3⟩)
          generalize x ||| tie.getD i 0 = o at *
          simp (disch := first | assumption | omega | rfl | simp only [RH]) only [↓RP, RG, FX, RQ, ↓reduceIte, Nat.reduceEqDiff, reduceCtorEq, Nat.reduceBEq, Nat.reduceAdd, Nat.reduceLeDiff, arAt, c1, c3, hm, hg, ho, Nat.zero_add]
          exact ⟨(i + 1, q.set o true), ⟨hi, by rw [List.length_set]; exact f2, hst⟩, rfl, by simp only; omega⟩
        | false =>
          simp (disch := first | assumption | omega | rfl | simp only [RH]) only [↓RP, RG, FX, RQ, ↓reduceIte, Nat.reduceEqDiff, reduceCtorEq, Nat.reduceBEq, Nat.reduceAdd, Nat.reduceLeDiff, arAt, c1, c3, hm]
          exact ⟨(x + 1, q), ⟨hx, f2, hfin q f2 (fun y hy => by
            have : ¬ A := fun h => by rw [hA.1 h] at hm; cases hm
            rw [f3 y hy]; simp [this])⟩, rfl, by simp only; omega⟩
      · obtain rfl : i = tie.length := by omega
        simp (disch := first | assumption | omega | rfl | simp only [RH]) only [↓RP, RG, FX, RQ, ↓reduceIte, Nat.reduceEqDiff, reduceCtorEq, Nat.reduceBEq, Nat.reduceAdd, Nat.reduceLeDiff]
        exact ⟨(x + 1, q), ⟨hx, f2, hfin q f2 f3⟩, rfl, by simp only; omega⟩
    · obtain rfl : x = 16 := by omega
      have c2 := fun (t : TypeId) (k : Nat) => cA16 (t := t) (n := k) g2
      simp (disch := first | assumption | omega | rfl | simp only [RH]) only [↓RP, RG, FX, RQ, ↓reduceIte, Nat.reduceEqDiff, reduceCtorEq, Nat.reduceBEq, Nat.reduceAdd, Nat.reduceLeDiff, c1, c2, take16 g2, parts_bools, g2, Nat.le_refl, sX16]
      refine ⟨(n + 1, p), ⟨hk, g2, fun y hy => ?_⟩, (Wk.drop (hb := []) (h1 := []) (gs := [_, _, _]) 8 [0, 1] rfl (by decide) (by simp) (by simp)).trans (Wk.of_eq (by simp only [RK, List.idxOf?_cons, List.idxOf?_nil, Nat.reduceBEq, Option.map_some, Option.map_none, List.map_cons, List.map_nil, List.getD_cons_zero, List.getD_cons_succ, Bool.false_eq_true, ↓reduceIte, Nat.add_zero, List.append_nil, map_ren_bools]; rfl)), by simp only; omega⟩
      rw [g3 y hy, h3 y hy]
      constructor
      · rintro (h | ⟨x, e1, e2, e3⟩)
        · exact .inl h
        · exact .inr ⟨x, (h3 x e1).1 e2, e3⟩
      · rintro (h | ⟨x, e2, t, e3, e4⟩)
        · exact .inl h
        · have hx16 : x < 16 := by
            have := Rk_lt (tie := tie) (s := 4) (fun t ht' => by
              obtain ⟨j, j1, j2⟩ := (hmem t).1 ht'
              have := ht j j1; omega) n x e2
            simpa using this
          exact .inr ⟨x, hx16, (h3 x hx16).2 e2, t, e3, e4⟩
  · obtain rfl : n = feet := by omega
    obtain rfl := rt_unique ⟨h2, h3⟩ hl
    have c1 := fun (t : TypeId) (k : Nat) => cA16 (t := t) (n := k) h2
    simp (disch := first | assumption | omega | rfl | simp only [RH]) only [↓RP, RG, FX, RQ, ↓reduceIte, Nat.reduceEqDiff, reduceCtorEq, Nat.reduceBEq, Nat.reduceAdd, Nat.reduceLeDiff, c1, take16 h2, parts_bools, h2, Nat.le_refl, sX16]
    rw [resVal_1 rfl]; simp (disch := first | assumption | omega | rfl | simp only [RH]) only [↓RP, RG, FX, RQ, ↓reduceIte, Nat.reduceEqDiff, reduceCtorEq, Nat.reduceBEq, Nat.reduceAdd, Nat.reduceLeDiff, RS]
    rw [if_pos (by omega), take16 h2]
    simp [rvX, resOf, bools_res]
theorem rt_ex (tie : List Nat) (n : Nat) : ∃ l, Rt tie n l := by
  classical
  refine ⟨(List.range 16).map fun y => decide (Rk tie n y), by simp, fun y hy => ?_⟩
  rw [List.getD_eq_getElem?_getD, List.getElem?_map, List.getElem?_range hy]
  simp
theorem coversF_c (b b2 : Bool) {tie : List Nat} (hn : tie.length ≤ 1000) (ht : ∀ i, i < tie.length → tie.getD i 0 < 16) {L : List Nat} (hL : L.length ≤ 1000) (hg : ∀ i, i < L.length → L.getD i 0 < 16) {feet : Nat} (hf : feet ≤ 4) (r : Bool) (hr : r = true ↔ Cov tie L feet) :
    Contract Try.prog 30 [LA b (nI tie), LA b2 (nI L), I feet] (B r) := by
  obtain ⟨l, hl⟩ := rt_ex tie feet
  have hre := reached_c b hn ht hf hl
  have h2 := hl.1
  have ll := nI_len L
  have hgL := nI_get L
  have hR0 : (List.replicate 16 false).length = 16 := List.length_replicate
  generalize hZ : List.replicate 16 false = Z at *
  have c1 := fun (t : TypeId) (k : Nat) => cA16 (t := t) (n := k) h2
  refine Contract.intro (effS [] false) 6 follows Try.func30 rfl rfl (by kernel_rfl) (Nat.le_of_ble_eq_true rfl) ?_
  simp (disch := first | assumption | omega | rfl | simp only [RH]) only [↓RP, RG, FX, RQ, ↓reduceIte, Nat.reduceEqDiff, reduceCtorEq, Nat.reduceBEq, Nat.reduceAdd, Nat.reduceLeDiff, args0_3]
  refine callK_F 6 hre (by simp (disch := first | assumption | omega | rfl | simp only [RH]) only [↓RP, RG, FX, RQ, ↓reduceIte, Nat.reduceEqDiff, reduceCtorEq, Nat.reduceBEq, Nat.reduceAdd, Nat.reduceLeDiff, RA] <;> rfl) (.inl (by simp [allFresh, bools_fresh])) ?_
  simp (disch := first | assumption | omega | rfl | simp only [RH]) only [↓RP, RG, FX, RQ, ↓reduceIte, Nat.reduceEqDiff, reduceCtorEq, Nat.reduceBEq, Nat.reduceAdd, Nat.reduceLeDiff, hZ, c1, parts_bools, sX16]
  refine loopK_I [0, 1, 2, 7, 8] (fun i : Nat => i ≤ L.length ∧ ∀ j, j < i → Rk tie feet (L.getD j 0)) (fun i => ⟨[(0, LA b (nI tie)), (1, LA b2 (nI L)), (2, I feet), (7, .ptr 0 0 16), (8, I i)], [⟨71, 16, bools l⟩]⟩) (fun i => L.length - i) 0 ⟨by omega, fun j hj => by omega⟩ (by simp only [↓RP, RG, FX, RQ, ↓reduceIte, Nat.reduceEqDiff, reduceCtorEq, Nat.reduceBEq, Nat.reduceAdd, Nat.reduceLeDiff]; rfl) ?_
  rintro i ⟨hi, hall⟩
  by_cases hlt : i < L.length
  · have hgi := hg i hlt
    have hgg := hgL i
    have hrk := hl.2 (L.getD i 0) hgi
    have hnx : Rk tie feet (L.getD i 0) → ∀ j, j < i + 1 → Rk tie feet (L.getD j 0) := fun h j hj => by
      by_cases e : j = i
      · rw [e]; exact h
      · exact hall j (by omega)
    have hno : ¬ Rk tie feet (L.getD i 0) → r = false := fun h => by
      cases hrr : r with
      | false => rfl
      | true => exact absurd (hr.1 hrr (L.getD i 0) (by rw [List.getD_eq_getElem?_getD, List.getElem?_eq_getElem hlt]; exact List.getElem_mem hlt)) h
    generalize hx : L.getD i 0 = x at *
    cases hb : l.getD x false with
    | true =>
      have hk := hrk.1 hb
      simp (disch := first | assumption | omega | rfl | simp only [RH]) only [↓RP, RG, FX, RQ, ↓reduceIte, Nat.reduceEqDiff, reduceCtorEq, Nat.reduceBEq, Nat.reduceAdd, Nat.reduceLeDiff, hgg, arAt, c1, hb, Nat.zero_add, Int.toNat_natCast]
      exact ⟨i + 1, ⟨hlt, hnx hk⟩, rfl, by omega⟩
    | false =>
      obtain rfl := hno fun h => by rw [hrk.2 h] at hb; cases hb
      simp (disch := first | assumption | omega | rfl | simp only [RH]) only [↓RP, RG, FX, RQ, ↓reduceIte, Nat.reduceEqDiff, reduceCtorEq, Nat.reduceBEq, Nat.reduceAdd, Nat.reduceLeDiff, hgg, arAt, c1, hb, Nat.zero_add, Int.toNat_natCast]
      rw [resVal_1 rfl]; simp (disch := first | assumption | omega | rfl | simp only [RH]) only [↓RP, RG, FX, RQ, ↓reduceIte, Nat.reduceEqDiff, reduceCtorEq, Nat.reduceBEq, Nat.reduceAdd, Nat.reduceLeDiff, RS]
  · obtain rfl : i = L.length := by omega
    have : r = true := hr.2 fun x hx => by
      obtain ⟨j, hj, e⟩ := List.mem_iff_getElem.1 hx
      have := hall j hj
      rwa [List.getD_eq_getElem?_getD, List.getElem?_eq_getElem hj, Option.getD_some, e] at this
    subst this
    simp (disch := first | assumption | omega | rfl | simp only [RH]) only [↓RP, RG, FX, RQ, ↓reduceIte, Nat.reduceEqDiff, reduceCtorEq, Nat.reduceBEq, Nat.reduceAdd, Nat.reduceLeDiff]
    rw [resVal_1 rfl]; simp (disch := first | assumption | omega | rfl | simp only [RH]) only [↓RP, RG, FX, RQ, ↓reduceIte, Nat.reduceEqDiff, reduceCtorEq, Nat.reduceBEq, Nat.reduceAdd, Nat.reduceLeDiff, RS]
theorem setsR_c {s : Nat} (hs4 : s ≤ 4) (b : Bool) {l : List Int} (hl : l.length ≤ 1000000) (r : Bool) (hr : r = true ↔ inR s l) : Contract Try.prog 29 [LA b l, I s] (B r) := by
  refine Contract.intro (effS [] false) 6 follows Try.func29 rfl rfl (by kernel_rfl) (Nat.le_of_ble_eq_true rfl) ?_
  simp (disch := first | assumption | omega | rfl | simp only [RH]) only [↓RP, RG, FX, RQ, ↓reduceIte, Nat.reduceEqDiff, reduceCtorEq, Nat.reduceBEq, Nat.reduceAdd, Nat.reduceLeDiff, args0_2]
  refine loopK_I [0, 1, 5] (fun i : Nat => i ≤ l.length ∧ ∀ j, j < i → 0 ≤ l.getD j 0 ∧ l.getD j 0 < ((2 ^ s : Nat) : Int)) (fun i => ⟨[(0, LA b l), (1, I s), (5, I i)], []⟩) (fun i => l.length - i) 0 ⟨by omega, fun j hj => by omega⟩ (by simp only [↓RP, RG, FX, RQ, ↓reduceIte, Nat.reduceEqDiff, reduceCtorEq, Nat.reduceBEq, Nat.reduceAdd, Nat.reduceLeDiff]; rfl) ?_
  rintro i ⟨hi, hall⟩
  by_cases hlt : i < l.length
  · have hS := setR_c hs4 (l.getD i 0)
    by_cases hc : 0 ≤ l.getD i 0 ∧ l.getD i 0 < ((2 ^ s : Nat) : Int)
    · rw [decide_eq_true hc] at hS
      simp (disch := first | assumption | omega | rfl | simp only [RH]) only [↓RP, RG, FX, RQ, ↓reduceIte, Nat.reduceEqDiff, reduceCtorEq, Nat.reduceBEq, Nat.reduceAdd, Nat.reduceLeDiff]
      refine callK_F 6 (hS) (by simp (disch := first | assumption | omega | rfl | simp only [RH]) only [↓RP, RG, FX, RQ, ↓reduceIte, Nat.reduceEqDiff, reduceCtorEq, Nat.reduceBEq, Nat.reduceAdd, Nat.reduceLeDiff, RA] <;> rfl) (.inl (by simp [allFresh, ints_fresh, bools_fresh])) ?_
      simp (disch := first | assumption | omega | rfl | simp only [RH]) only [↓RP, RG, FX, RQ, ↓reduceIte, Nat.reduceEqDiff, reduceCtorEq, Nat.reduceBEq, Nat.reduceAdd, Nat.reduceLeDiff]
      refine ⟨i + 1, ⟨hlt, fun j hj => ?_⟩, rfl, by omega⟩
      by_cases e : j = i
      · subst e; exact hc
      · exact hall j (by omega)
    · rw [decide_eq_false hc] at hS
      have hrf : r = false := by
        cases hrr : r with
        | false => rfl
        | true => exact absurd (hr.1 hrr i hlt) hc
      subst hrf
      simp (disch := first | assumption | omega | rfl | simp only [RH]) only [↓RP, RG, FX, RQ, ↓reduceIte, Nat.reduceEqDiff, reduceCtorEq, Nat.reduceBEq, Nat.reduceAdd, Nat.reduceLeDiff]
      refine callK_F 6 (hS) (by simp (disch := first | assumption | omega | rfl | simp only [RH]) only [↓RP, RG, FX, RQ, ↓reduceIte, Nat.reduceEqDiff, reduceCtorEq, Nat.reduceBEq, Nat.reduceAdd, Nat.reduceLeDiff, RA] <;> rfl) (.inl (by simp [allFresh, ints_fresh, bools_fresh])) ?_
      simp (disch := first | assumption | omega | rfl | simp only [RH]) only [↓RP, RG, FX, RQ, ↓reduceIte, Nat.reduceEqDiff, reduceCtorEq, Nat.reduceBEq, Nat.reduceAdd, Nat.reduceLeDiff]
      rw [resVal_1 rfl]; simp (disch := first | assumption | omega | rfl | simp only [RH]) only [↓RP, RG, FX, RQ, ↓reduceIte, Nat.reduceEqDiff, reduceCtorEq, Nat.reduceBEq, Nat.reduceAdd, Nat.reduceLeDiff, RS]
  · obtain rfl : i = l.length := by omega
    obtain rfl := hr.2 hall
    simp (disch := first | assumption | omega | rfl | simp only [RH]) only [↓RP, RG, FX, RQ, ↓reduceIte, Nat.reduceEqDiff, reduceCtorEq, Nat.reduceBEq, Nat.reduceAdd, Nat.reduceLeDiff]
    rw [resVal_1 rfl]; simp (disch := first | assumption | omega | rfl | simp only [RH]) only [↓RP, RG, FX, RQ, ↓reduceIte, Nat.reduceEqDiff, reduceCtorEq, Nat.reduceBEq, Nat.reduceAdd, Nat.reduceLeDiff, RS]
end Go.Proofs.Ytlckfakifamjiaa

/- Pressings by the digits of numbers, by the reference. -/
set_option linter.unusedSimpArgs false
set_option linter.unusedVariables false
set_option maxRecDepth 100000
namespace Go.Proofs.Ytlckfakifamjiaa
open Go Go.Proofs Go.AW

theorem shrN {x n : Nat} (hn : n ≤ 16) : aInt .shr .i64 (x : Int) (n : Int) = some (.val (.int .i64 ((x / 2 ^ n : Nat) : Int))) := by
  have e : (min (Int.toNat (n : Int)) IntKind.i64.bits) = n := by
    rw [Int.toNat_natCast, show IntKind.i64.bits = 64 from rfl]; omega
  show (if (n : Int) < 0 then none else some _) = _
  rw [if_neg (by omega), e, show ((2 : Int) ^ n) = ((2 ^ n : Nat) : Int) by norm_cast, Int.fdiv_eq_ediv_of_nonneg _ (Int.natCast_nonneg _)]
  rfl
theorem andN1 {x : Nat} (hx : x < 1000000) : aInt .and .i64 (x : Int) 1 = some (.val (.int .i64 ((x % 2 : Nat) : Int))) := by
  show some (AVal.val (.int .i64 (IntKind.i64.wrap ((BitVec.ofInt 64 (x : Int) &&& BitVec.ofInt 64 ((1 : Nat) : Int)).toNat)))) = _
  rw [ofI64, ofI64, BitVec.toNat_and, BitVec.toNat_ofNat, BitVec.toNat_ofNat, Nat.mod_eq_of_lt (by omega), Nat.mod_eq_of_lt (by omega), Nat.and_one_is_mod, wr64 (by omega)]
/-- A digit. -/
def dig (x i : Nat) : Nat := x / 2 ^ i % 2
theorem dig_lt (x i : Nat) : dig x i < 2 := Nat.mod_lt _ (by omega)
theorem dig_bit (x i : Nat) : x.testBit i = decide (dig x i = 1) := bit_mod x i
theorem dig_ops {x i : Nat} (hx : x < 65536) (hi : i ≤ 16) : aInt .shr .i64 (x : Int) (i : Int) = some (.val (.int .i64 ((x / 2 ^ i : Nat) : Int))) ∧ aInt .and .i64 ((x / 2 ^ i : Nat) : Int) 1 = some (.val (.int .i64 ((dig x i : Nat) : Int))) :=
  ⟨shrN hi, andN1 (Nat.lt_of_le_of_lt (Nat.div_le_self _ _) (by omega))⟩
/-- The digits below k. -/
def bitsK (x k : Nat) : List Nat := (List.range k).filter fun i => x.testBit i
theorem bitsK_len (x k : Nat) : (bitsK x k).length ≤ k := Nat.le_trans (List.length_filter_le _ _) (by simp)
theorem bitsK_t {x k : Nat} (h : dig x k = 1) : bitsK x (k + 1) = bitsK x k ++ [k] := by
  unfold bitsK; rw [List.range_succ, List.filter_append, List.filter_cons_of_pos (by rw [dig_bit]; exact decide_eq_true h), List.filter_nil]
theorem bitsK_f {x k : Nat} (h : ¬ dig x k = 1) : bitsK x (k + 1) = bitsK x k := by
  unfold bitsK; rw [List.range_succ, List.filter_append, List.filter_cons_of_neg (by rw [dig_bit, decide_eq_true_eq]; exact h), List.filter_nil, List.append_nil]
theorem onesR_c {x : Nat} (hx : x < 65536) : Contract Try.prog 38 [I x] (I (bitsL x).length) := by
  refine Contract.intro (effS [] false) 6 follows Try.func38 rfl rfl (by kernel_rfl) (Nat.le_of_ble_eq_true rfl) ?_
  simp (disch := first | assumption | omega | rfl | simp only [RH]) only [↓RP, RG, FX, RQ, ↓reduceIte, Nat.reduceEqDiff, reduceCtorEq, Nat.reduceBEq, Nat.reduceAdd, Nat.reduceLeDiff, args0_1]
  refine loopK_I [0, 3, 4] (fun i : Nat => i ≤ 16) (fun i => ⟨[(0, I x), (3, I (bitsK x i).length), (4, I i)], []⟩) (fun i => 16 - i) 0 (by omega) (by simp only [↓RP, RG, FX, RQ, ↓reduceIte, Nat.reduceEqDiff, reduceCtorEq, Nat.reduceBEq, Nat.reduceAdd, Nat.reduceLeDiff]; rfl) ?_
  intro i hi
  have hl := bitsK_len x i
  by_cases hlt : i < 16
  · obtain ⟨s1, s2⟩ := dig_ops (i := i) hx (by omega)
    have hd := dig_lt x i
    have hn : (((bitsK x i).length : Nat) : Int) + ((dig x i : Nat) : Int) = (((bitsK x (i + 1)).length : Nat) : Int) := by
      by_cases h : dig x i = 1
      · rw [bitsK_t h, List.length_append, List.length_singleton]; omega
      · rw [bitsK_f h]; omega
    generalize dig x i = d at *
    generalize x / 2 ^ i = q at *
    simp (disch := first | assumption | omega | rfl | simp only [RH]) only [↓RP, RG, FX, RQ, ↓reduceIte, Nat.reduceEqDiff, reduceCtorEq, Nat.reduceBEq, Nat.reduceAdd, Nat.reduceLeDiff, aBin_shr, s1, s2]
    exact ⟨i + 1, hlt, by rw [hn]; rfl, by omega⟩
  · obtain rfl : i = 16 := by omega
    simp (disch := first | assumption | omega | rfl | simp only [RH]) only [↓RP, RG, FX, RQ, ↓reduceIte, Nat.reduceEqDiff, reduceCtorEq, Nat.reduceBEq, Nat.reduceAdd, Nat.reduceLeDiff]
    rw [resVal_1 rfl]; simp (disch := first | assumption | omega | rfl | simp only [RH]) only [↓RP, RG, FX, RQ, ↓reduceIte, Nat.reduceEqDiff, reduceCtorEq, Nat.reduceBEq, Nat.reduceAdd, Nat.reduceLeDiff, RS]
    first | done | rfl
/-- What the treadles of a number's digits below k lift. -/
def lfK (tie : List Nat) (x : Nat) : Nat → Nat
  | 0 => 0
  | k + 1 => if dig x k = 1 then lfK tie x k ||| tie.getD k 0 else lfK tie x k
theorem lfK_lt {tie : List Nat} (ht : ∀ i, i < tie.length → tie.getD i 0 < 16) (x : Nat) : ∀ k, k ≤ tie.length → lfK tie x k < 16
  | 0, _ => by unfold lfK; omega
  | k + 1, h => by
    unfold lfK
    have := lfK_lt ht x k (by omega)
    split
    · exact Nat.or_lt_two_pow (n := 4) this (ht k (by omega))
    · exact this
theorem lfK_bit (tie : List Nat) (x : Nat) : ∀ k b, (lfK tie x k).testBit b = true ↔ ∃ i, i < k ∧ x.testBit i = true ∧ (tie.getD i 0).testBit b = true
  | 0, b => by simp [lfK]
  | k + 1, b => by
    have ih := lfK_bit tie x k b
    unfold lfK
    split
    · rename_i h
      rw [Nat.testBit_or, Bool.or_eq_true, ih]
      constructor
      · rintro (⟨i, h1, h2⟩ | h1)
        · exact ⟨i, by omega, h2⟩
        · exact ⟨k, by omega, by rw [dig_bit]; exact decide_eq_true h, h1⟩
      · rintro ⟨i, h1, h2, h3⟩
        by_cases e : i = k
        · subst e; exact .inr h3
        · exact .inl ⟨i, by omega, h2, h3⟩
    · rename_i h
      rw [ih]
      constructor
      · rintro ⟨i, h1, h2⟩; exact ⟨i, by omega, h2⟩
      · rintro ⟨i, h1, h2, h3⟩
        by_cases e : i = k
        · subst e; rw [dig_bit, decide_eq_true_eq] at h2; exact absurd h2 h
        · exact ⟨i, by omega, h2, h3⟩
theorem lifted_c (b : Bool) {tie : List Nat} (hn : tie.length ≤ 16) (ht : ∀ i, i < tie.length → tie.getD i 0 < 16) {x : Nat} (hx : x < 65536) : Contract Try.prog 39 [LA b (nI tie), I x] (I (lfK tie x tie.length)) := by
  have lt := nI_len tie
  refine Contract.intro (effS [] false) 6 follows Try.func39 rfl rfl (by kernel_rfl) (Nat.le_of_ble_eq_true rfl) ?_
  simp (disch := first | assumption | omega | rfl | simp only [RH]) only [↓RP, RG, FX, RQ, ↓reduceIte, Nat.reduceEqDiff, reduceCtorEq, Nat.reduceBEq, Nat.reduceAdd, Nat.reduceLeDiff, args0_2]
  refine loopK_I [0, 1, 5, 6] (fun i : Nat => i ≤ tie.length) (fun i => ⟨[(0, LA b (nI tie)), (1, I x), (5, I (lfK tie x i)), (6, I i)], []⟩) (fun i => tie.length - i) 0 (by omega) (by simp only [↓RP, RG, FX, RQ, ↓reduceIte, Nat.reduceEqDiff, reduceCtorEq, Nat.reduceBEq, Nat.reduceAdd, Nat.reduceLeDiff]; rfl) ?_
  intro i hi
  by_cases hlt : i < tie.length
  · obtain ⟨s1, s2⟩ := dig_ops (i := i) hx (by omega)
    have hd := dig_lt x i
    have hg := nI_get tie i
    have hor := or64 (lfK_lt ht x i hi) (ht i hlt)
    have hs : lfK tie x (i + 1) = if dig x i = 1 then lfK tie x i ||| tie.getD i 0 else lfK tie x i := rfl
    by_cases h : dig x i = 1
    · rw [if_pos h] at hs
      generalize dig x i = d at *
      generalize x / 2 ^ i = q at *
      simp (disch := first | assumption | omega | rfl | simp only [RH]) only [↓RP, RG, FX, RQ, ↓reduceIte, Nat.reduceEqDiff, reduceCtorEq, Nat.reduceBEq, Nat.reduceAdd, Nat.reduceLeDiff, aBin_shr, s1, s2, hg, hor]
      exact ⟨i + 1, hlt, by rw [hs]; rfl, by omega⟩
    · rw [if_neg h] at hs
      generalize dig x i = d at *
      generalize x / 2 ^ i = q at *
      simp (disch := first | assumption | omega | rfl | simp only [RH]) only [↓RP, RG, FX, RQ, ↓reduceIte, Nat.reduceEqDiff, reduceCtorEq, Nat.reduceBEq, Nat.reduceAdd, Nat.reduceLeDiff, aBin_shr, s1, s2]
      exact ⟨i + 1, hlt, by rw [hs]; rfl, by omega⟩
  · obtain rfl : i = tie.length := by omega
    simp (disch := first | assumption | omega | rfl | simp only [RH]) only [↓RP, RG, FX, RQ, ↓reduceIte, Nat.reduceEqDiff, reduceCtorEq, Nat.reduceBEq, Nat.reduceAdd, Nat.reduceLeDiff]
    rw [resVal_1 rfl]; simp (disch := first | assumption | omega | rfl | simp only [RH]) only [↓RP, RG, FX, RQ, ↓reduceIte, Nat.reduceEqDiff, reduceCtorEq, Nat.reduceBEq, Nat.reduceAdd, Nat.reduceLeDiff, RS]
theorem lexlt_pre (p : List Nat) (u v : List Nat) : lexlt (p ++ u) (p ++ v) ↔ lexlt u v := by
  induction p with
  | nil => exact Iff.rfl
  | cons a p ih =>
    simp only [List.cons_append, lexlt, Nat.lt_irrefl, false_or, true_and]
    exact ih
theorem bits_split (x i : Nat) (hi : i < 16) : bitsL x = bitsK x i ++ (if x.testBit i then [i] else []) ++ (((List.range (15 - i)).map fun k => i + 1 + k).filter fun k => x.testBit k) := by
  have h : List.range 16 = List.range i ++ ([i] ++ (List.range (15 - i)).map fun k => i + 1 + k) := by
    rw [show 16 = i + (1 + (15 - i)) by omega, List.range_add, List.range_add, List.map_append, List.map_map]
    congr 2
    refine List.map_congr_left fun k _ => ?_
    simp only [Function.comp]; omega
  unfold bitsL bitsK
  rw [h, List.filter_append, List.filter_append, List.append_assoc]
  congr 2
  cases hb : x.testBit i with
  | true => simp [hb]
  | false => simp [hb]
theorem bitsK_congr {x y i : Nat} (h : ∀ j, j < i → x.testBit j = y.testBit j) : bitsK x i = bitsK y i := by
  unfold bitsK
  exact List.filter_congr fun j hj => by rw [h j (List.mem_range.1 hj)]
/-- Of two numbers with as many digits, the first different digit tells. -/
theorem bits_first {x y i : Nat} (hi : i < 16) (h : ∀ j, j < i → x.testBit j = y.testBit j) (hx : x.testBit i = true) (hy : y.testBit i = false) (hl : (bitsL x).length = (bitsL y).length) : lexlt (bitsL x) (bitsL y) := by
  rw [bits_split x i hi, bits_split y i hi, hx, hy, bitsK_congr h] at *
  simp only [↓reduceIte, Bool.false_eq_true, List.append_nil] at *
  rw [List.append_assoc, lexlt_pre]
  rw [List.append_assoc, List.length_append, List.length_append, List.length_append, List.length_singleton] at hl
  have hmem : ∀ t ∈ (((List.range (15 - i)).map fun k => i + 1 + k).filter fun k => y.testBit k), i < t := fun t ht => by
    obtain ⟨k, -, e⟩ := List.mem_map.1 (List.mem_filter.1 ht).1
    omega
  generalize (((List.range (15 - i)).map fun k => i + 1 + k).filter fun k => y.testBit k) = v at *
  cases v with
  | nil => simp at hl
  | cons a v => exact .inl (hmem a (by simp))
theorem lexlt_asymm {a b : List Nat} (h : lexlt a b) : ¬ lexlt b a := fun g => lexlt_irr a (lexlt_trans h g)
open Classical in
theorem better_c {x y : Nat} (hx : x < 65536) (hy : y < 65536) (r : Bool) (hr : r = true ↔ btr (bitsL x) (bitsL y)) : Contract Try.prog 40 [I x, I y] (B r) := by
  have h1 := onesR_c hx
  have h2 := onesR_c hy
  have hl1 : (bitsL x).length ≤ 16 := by unfold bitsL; exact Nat.le_trans (List.length_filter_le _ _) (by simp)
  have hl2 : (bitsL y).length ≤ 16 := by unfold bitsL; exact Nat.le_trans (List.length_filter_le _ _) (by simp)
  unfold btr at hr
  by_cases c1 : (bitsL x).length = (bitsL y).length
  rotate_left
  · have hrr : r = decide ((bitsL x).length < (bitsL y).length) := by
      refine Bool.eq_iff_iff.2 (hr.trans ?_)
      rw [decide_eq_true_eq]
      exact ⟨fun h => h.resolve_right fun g => c1 g.1, .inl⟩
    subst hrr
    generalize (bitsL x).length = n at *
    generalize (bitsL y).length = m at *
    refine Contract.intro (effS [] false) 6 follows Try.func40 rfl rfl (by kernel_rfl) (Nat.le_of_ble_eq_true rfl) ?_
    simp (disch := first | assumption | omega | rfl | simp only [RH]) only [↓RP, RG, FX, RQ, ↓reduceIte, Nat.reduceEqDiff, reduceCtorEq, Nat.reduceBEq, Nat.reduceAdd, Nat.reduceLeDiff, args0_2]
    refine callK_F 6 (h1) (by simp (disch := first | assumption | omega | rfl | simp only [RH]) only [↓RP, RG, FX, RQ, ↓reduceIte, Nat.reduceEqDiff, reduceCtorEq, Nat.reduceBEq, Nat.reduceAdd, Nat.reduceLeDiff, RA] <;> rfl) (.inl (by simp [allFresh, ints_fresh, bools_fresh])) ?_
    simp (disch := first | assumption | omega | rfl | simp only [RH]) only [↓RP, RG, FX, RQ, ↓reduceIte, Nat.reduceEqDiff, reduceCtorEq, Nat.reduceBEq, Nat.reduceAdd, Nat.reduceLeDiff]
    refine callK_F 6 (h2) (by simp (disch := first | assumption | omega | rfl | simp only [RH]) only [↓RP, RG, FX, RQ, ↓reduceIte, Nat.reduceEqDiff, reduceCtorEq, Nat.reduceBEq, Nat.reduceAdd, Nat.reduceLeDiff, RA] <;> rfl) (.inl (by simp [allFresh, ints_fresh, bools_fresh])) ?_
    simp (disch := first | assumption | omega | rfl | simp only [RH]) only [↓RP, RG, FX, RQ, ↓reduceIte, Nat.reduceEqDiff, reduceCtorEq, Nat.reduceBEq, Nat.reduceAdd, Nat.reduceLeDiff]
    rw [resVal_1 rfl]; simp (disch := first | assumption | omega | rfl | simp only [RH]) only [↓RP, RG, FX, RQ, ↓reduceIte, Nat.reduceEqDiff, reduceCtorEq, Nat.reduceBEq, Nat.reduceAdd, Nat.reduceLeDiff, RS]
    first | done | simp
  have hfirst : ∀ i, i < 16 → (∀ j, j < i → x.testBit j = y.testBit j) → x.testBit i ≠ y.testBit i → r = x.testBit i := fun i hi hall hne => by
    cases hxb : x.testBit i with
    | true =>
      cases hyb : y.testBit i with
      | true => exact absurd (hxb.trans hyb.symm) hne
      | false => exact hr.2 (.inr ⟨c1, bits_first hi hall hxb hyb c1⟩)
    | false =>
      cases hyb : y.testBit i with
      | false => exact absurd (hxb.trans hyb.symm) hne
      | true =>
        have := bits_first hi (fun j hj => (hall j hj).symm) hyb hxb c1.symm
        cases hrr : r with
        | false => rfl
        | true =>
          rcases hr.1 hrr with g | g
          · omega
          · exact absurd g.2 (lexlt_asymm this)
  refine Contract.intro (effS [] false) 6 follows Try.func40 rfl rfl (by kernel_rfl) (Nat.le_of_ble_eq_true rfl) ?_
  simp (disch := first | assumption | omega | rfl | simp only [RH]) only [↓RP, RG, FX, RQ, ↓reduceIte, Nat.reduceEqDiff, reduceCtorEq, Nat.reduceBEq, Nat.reduceAdd, Nat.reduceLeDiff, args0_2]
  refine callK_F 6 (h1) (by simp (disch := first | assumption | omega | rfl | simp only [RH]) only [↓RP, RG, FX, RQ, ↓reduceIte, Nat.reduceEqDiff, reduceCtorEq, Nat.reduceBEq, Nat.reduceAdd, Nat.reduceLeDiff, RA] <;> rfl) (.inl (by simp [allFresh, ints_fresh, bools_fresh])) ?_
  simp (disch := first | assumption | omega | rfl | simp only [RH]) only [↓RP, RG, FX, RQ, ↓reduceIte, Nat.reduceEqDiff, reduceCtorEq, Nat.reduceBEq, Nat.reduceAdd, Nat.reduceLeDiff]
  refine callK_F 6 (h2) (by simp (disch := first | assumption | omega | rfl | simp only [RH]) only [↓RP, RG, FX, RQ, ↓reduceIte, Nat.reduceEqDiff, reduceCtorEq, Nat.reduceBEq, Nat.reduceAdd, Nat.reduceLeDiff, RA] <;> rfl) (.inl (by simp [allFresh, ints_fresh, bools_fresh])) ?_
  simp (disch := first | assumption | omega | rfl | simp only [RH]) only [↓RP, RG, FX, RQ, ↓reduceIte, Nat.reduceEqDiff, reduceCtorEq, Nat.reduceBEq, Nat.reduceAdd, Nat.reduceLeDiff]
  refine loopK_I [0, 1, 7] (fun i : Nat => i ≤ 16 ∧ ∀ j, j < i → x.testBit j = y.testBit j) (fun i => ⟨[(0, I x), (1, I y), (7, I i)], []⟩) (fun i => 16 - i) 0 ⟨by omega, fun j hj => by omega⟩ (by simp only [↓RP, RG, FX, RQ, ↓reduceIte, Nat.reduceEqDiff, reduceCtorEq, Nat.reduceBEq, Nat.reduceAdd, Nat.reduceLeDiff]; rfl) ?_
  rintro i ⟨hi, hall⟩
  by_cases hlt : i < 16
  · obtain ⟨s1, s2⟩ := dig_ops (i := i) hx (by omega)
    obtain ⟨s3, s4⟩ := dig_ops (i := i) hy (by omega)
    have hd := dig_lt x i
    have hd2 := dig_lt y i
    have hf := hfirst i hlt hall
    have hst : x.testBit i = y.testBit i → ∀ j, j < i + 1 → x.testBit j = y.testBit j := fun h j hj => by
      by_cases e : j = i
      · rw [e]; exact h
      · exact hall j (by omega)
    rw [dig_bit, dig_bit y] at hf hst
    generalize dig x i = d at *
    generalize x / 2 ^ i = q at *
    generalize dig y i = d2 at *
    generalize y / 2 ^ i = q2 at *
    by_cases e : d = d2
    · subst e
      simp (disch := first | assumption | omega | rfl | simp only [RH]) only [↓RP, RG, FX, RQ, ↓reduceIte, Nat.reduceEqDiff, reduceCtorEq, Nat.reduceBEq, Nat.reduceAdd, Nat.reduceLeDiff, aBin_shr, s1, s2, s3, s4]
      exact ⟨i + 1, ⟨hlt, hst rfl⟩, rfl, by omega⟩
    · have hf := hf (fun h => e (by
        by_cases g : d = 1
        · rw [decide_eq_true g] at h; have := of_decide_eq_true h.symm; omega
        · rw [decide_eq_false g] at h; have := of_decide_eq_false h.symm; omega))
      subst hf
      simp (disch := first | assumption | omega | rfl | simp only [RH]) only [↓RP, RG, FX, RQ, ↓reduceIte, Nat.reduceEqDiff, reduceCtorEq, Nat.reduceBEq, Nat.reduceAdd, Nat.reduceLeDiff, aBin_shr, s1, s2, s3, s4]
      rw [resVal_1 rfl]; simp (disch := first | assumption | omega | rfl | simp only [RH]) only [↓RP, RG, FX, RQ, ↓reduceIte, Nat.reduceEqDiff, reduceCtorEq, Nat.reduceBEq, Nat.reduceAdd, Nat.reduceLeDiff, RS]
      by_cases g : d = 1
      · subst g; rfl
      · rw [decide_eq_false g]; have : d = 0 := by omega
        subst this; rfl
  · obtain rfl : i = 16 := by omega
    have : bitsL x = bitsL y := bitsK_congr hall
    have hrf : r = false := by
      cases hrr : r with
      | false => rfl
      | true =>
        rcases hr.1 hrr with g | g
        · omega
        · rw [this] at g; exact absurd g.2 (lexlt_irr _)
    subst hrf
    simp (disch := first | assumption | omega | rfl | simp only [RH]) only [↓RP, RG, FX, RQ, ↓reduceIte, Nat.reduceEqDiff, reduceCtorEq, Nat.reduceBEq, Nat.reduceAdd, Nat.reduceLeDiff]
    rw [resVal_1 rfl]; simp (disch := first | assumption | omega | rfl | simp only [RH]) only [↓RP, RG, FX, RQ, ↓reduceIte, Nat.reduceEqDiff, reduceCtorEq, Nat.reduceBEq, Nat.reduceAdd, Nat.reduceLeDiff, RS]
end Go.Proofs.Ytlckfakifamjiaa

/- The best pressing by the reference: numbers one by one. -/
set_option linter.unusedSimpArgs false
set_option linter.unusedVariables false
set_option maxRecDepth 100000
namespace Go.Proofs.Ytlckfakifamjiaa
open Go Go.Proofs Go.AW

theorem joinP_bit : ∀ (l : List Nat) (b : Nat), (joinL (l.map fun i => 2 ^ i)).testBit b = true ↔ b ∈ l
  | [], b => by simp [joinL]
  | t :: r, b => by
    simp only [List.map_cons, joinL]
    rw [Nat.testBit_or, Bool.or_eq_true, joinP_bit r b, Nat.testBit_two_pow, decide_eq_true_eq, List.mem_cons]
    constructor
    · rintro (h | h)
      · exact .inr h
      · exact .inl h.symm
    · rintro (h | h)
      · exact .inr h.symm
      · exact .inl h
/-- The number with these digits. -/
def famL (u : List Nat) : Nat := joinL (u.map fun i => 2 ^ i)
theorem famL_bits {y : Nat} (hy : y < 65536) : famL (bitsL y) = y := Nat.eq_of_testBit_eq fun b => by
  refine Bool.eq_iff_iff.2 ((joinP_bit _ b).trans ?_)
  rw [mem_bitsL]
  refine ⟨fun h => h.2, fun h => ⟨?_, h⟩⟩
  by_cases c : b < 16
  · exact c
  · rw [Nat.testBit_lt_two_pow (Nat.lt_of_lt_of_le hy (by have := Nat.pow_le_pow_right (n := 2) (by omega) (show 16 ≤ b by omega); simpa using this))] at h; cases h
theorem famL_lt {u : List Nat} {n : Nat} (h : ∀ i ∈ u, i < n) : famL u < 2 ^ n := Nat.lt_pow_two_of_testBit _ fun i hi => by
  cases hb : (famL u).testBit i with
  | false => rfl
  | true => have := h i ((joinP_bit u i).1 hb); omega
theorem bits_famL {u : List Nat} (hp : u.Pairwise (· < ·)) (h : ∀ i ∈ u, i < 16) : bitsL (famL u) = u := by
  have key : nI (bitsL (famL u)) = nI u := by
    refine sinc_ext _ _ ?_ ?_ fun x => ?_
    · unfold nI; rw [List.pairwise_map]; exact (bitsL_inc _).imp fun h => by omega
    · unfold nI; rw [List.pairwise_map]; exact hp.imp fun h => by omega
    · unfold nI
      simp only [List.mem_map]
      constructor
      · rintro ⟨a, h1, rfl⟩; exact ⟨a, (joinP_bit u a).1 (mem_bitsL.1 h1).2, rfl⟩
      · rintro ⟨a, h1, rfl⟩; exact ⟨a, mem_bitsL.2 ⟨h a h1, (joinP_bit u a).2 h1⟩, rfl⟩
  have := congrArg (List.map Int.toNat) key
  simpa [nI, Function.comp_def] using this
theorem bit_low {x n i : Nat} (hx : x < 2 ^ n) (h : x.testBit i = true) : i < n := by
  by_cases c : i < n
  · exact c
  · rw [Nat.testBit_lt_two_pow (Nat.lt_of_lt_of_le hx (Nat.pow_le_pow_right (by omega) (by omega)))] at h; cases h
theorem pok_num {tie : List Nat} (hn : tie.length ≤ 16) {lift feet x : Nat} (hx : x < 2 ^ tie.length) : Pok tie lift feet (bitsL x) ↔ (bitsL x).length ≤ feet ∧ lfK tie x tie.length = lift := by
  have hb : ∀ b, (∃ i ∈ bitsL x, (tie.getD i 0).testBit b = true) ↔ (lfK tie x tie.length).testBit b = true := fun b => by
    rw [lfK_bit]
    constructor
    · rintro ⟨i, h1, h2⟩; exact ⟨i, bit_low hx (mem_bitsL.1 h1).2, (mem_bitsL.1 h1).2, h2⟩
    · rintro ⟨i, h1, h2, h3⟩; exact ⟨i, mem_bitsL.2 ⟨by omega, h2⟩, h3⟩
  constructor
  · intro h
    refine ⟨h.len, Nat.eq_of_testBit_eq fun b => Bool.eq_iff_iff.2 ?_⟩
    have := h.lif b
    simp only [Nat.zero_testBit, Bool.false_eq_true, false_or] at this
    rw [this, hb]
  · rintro ⟨h1, h2⟩
    refine ⟨h1, bitsL_inc x, fun i hi => bit_low hx (mem_bitsL.1 hi).2, fun b => ?_⟩
    simp only [Nat.zero_testBit, Bool.false_eq_true, false_or]
    rw [hb, h2]
/-- The best of the numbers below n. -/
def PB (tie : List Nat) (lift feet n : Nat) : Option Nat → Prop
  | none => ∀ y, y < n → ¬ Pok tie lift feet (bitsL y)
  | some y => y < n ∧ Pok tie lift feet (bitsL y) ∧ ∀ z, z < n → Pok tie lift feet (bitsL z) → ¬ btr (bitsL z) (bitsL y)
theorem pb_bst {tie : List Nat} (hn : tie.length ≤ 16) {lift feet : Nat} {o : Option Nat} (h : PB tie lift feet (2 ^ tie.length) o) : Bst tie lift feet (o.map bitsL) := by
  have hv : ∀ v, Pok tie lift feet v → famL v < 2 ^ tie.length ∧ bitsL (famL v) = v := fun v hv =>
    ⟨famL_lt hv.low, bits_famL hv.inc fun i hi => by have := hv.low i hi; omega⟩
  cases o with
  | none =>
    intro v hp
    obtain ⟨h1, h2⟩ := hv v hp
    exact h _ h1 (by rw [h2]; exact hp)
  | some y =>
    refine ⟨h.2.1, fun v hp => ?_⟩
    obtain ⟨h1, h2⟩ := hv v hp
    have := h.2.2 _ h1 (by rw [h2]; exact hp)
    rwa [h2] at this
def pbI : Option Nat → Int
  | none => -1
  | some y => y
def prI : Option (List Nat) → Int
  | none => -1
  | some u => famL u
theorem pressing_c (b : Bool) {tie : List Nat} (hn : tie.length ≤ 15) (ht : ∀ i, i < tie.length → tie.getD i 0 < 16) {lift feet : Nat} (hl : lift < 16) (r : Option (List Nat)) (hr : Bst tie lift feet r) :
    Contract Try.prog 25 [LA b (nI tie), I lift, I feet] (I (prI r)) := by
  have lt := nI_len tie
  have hsh := shl64 (n := tie.length) (by omega)
  have hp16 : 2 ^ tie.length ≤ 2 ^ 15 := Nat.pow_le_pow_right (by omega) hn
  have hN : 2 ^ tie.length ≤ 32768 := hp16
  have hpn : ∀ x : Nat, x < 2 ^ tie.length → (Pok tie lift feet (bitsL x) ↔ (bitsL x).length ≤ feet ∧ lfK tie x tie.length = lift) := fun x hx => pok_num (by omega) hx
  have hfin : ∀ o, PB tie lift feet (2 ^ tie.length) o → pbI o = prI r := fun o ho => by
    have h1 := bst_unique hr (pb_bst (by omega) ho)
    cases o with
    | none => rw [h1]; rfl
    | some y =>
      rw [h1]
      show (y : Int) = ((famL (bitsL y) : Nat) : Int)
      rw [famL_bits (by have := ho.1; omega)]
  have hlf : ∀ x : Nat, x < 2 ^ tie.length → Contract Try.prog 39 [LA b (nI tie), I x] (I (lfK tie x tie.length)) := fun x hx => lifted_c b (by omega) ht (by omega)
  have hlt16 : ∀ x, lfK tie x tie.length < 16 := fun x => lfK_lt ht x _ (Nat.le_refl _)
  have hones : ∀ x : Nat, x < 2 ^ tie.length → Contract Try.prog 38 [I x] (I (bitsL x).length) := fun x hx => onesR_c (by omega)
  have hbe : ∀ x y : Nat, x < 2 ^ tie.length → y < 2 ^ tie.length → ∀ q : Bool, (q = true ↔ btr (bitsL x) (bitsL y)) → Contract Try.prog 40 [I x, I y] (B q) := fun x y hx hy q hq => better_c (by omega) (by omega) q hq
  have hlen16 : ∀ x, (bitsL x).length ≤ 16 := fun x => by unfold bitsL; exact Nat.le_trans (List.length_filter_le _ _) (by simp)
  generalize hM : 2 ^ tie.length = M at *
  rw [← lt] at hsh
  refine Contract.intro (effS [] false) 6 follows Try.func25 rfl rfl (by kernel_rfl) (Nat.le_of_ble_eq_true rfl) ?_
  simp (disch := first | assumption | omega | rfl | simp only [RH]) only [↓RP, RG, FX, RQ, ↓reduceIte, Nat.reduceEqDiff, reduceCtorEq, Nat.reduceBEq, Nat.reduceAdd, Nat.reduceLeDiff, args0_3]
  refine loopK_I [0, 1, 2, 7, 8] (fun s : Nat × Option Nat => s.1 ≤ M ∧ PB tie lift feet s.1 s.2) (fun s => ⟨[(0, LA b (nI tie)), (1, I lift), (2, I feet), (7, I (pbI s.2)), (8, I s.1)], []⟩) (fun s => M - s.1) (0, none) ⟨by simp only; omega, fun y hy => by simp at hy⟩ (by simp only [↓RP, RG, FX, RQ, ↓reduceIte, Nat.reduceEqDiff, reduceCtorEq, Nat.reduceBEq, Nat.reduceAdd, Nat.reduceLeDiff]; rfl) ?_
  rintro ⟨x, o⟩ ⟨h1, h2⟩
  simp only at h1 h2 ⊢
  by_cases hlt : x < M
  · have c1 := hones x hlt
    have c2 := hlf x hlt
    have hx16 := hlt16 x
    have hl16 := hlen16 x
    have hpx := hpn x hlt
    have hno : ¬ Pok tie lift feet (bitsL x) → PB tie lift feet (x + 1) o := fun h => by
      cases o with
      | none =>
        intro y hy hp
        by_cases e : y = x
        · subst e; exact h hp
        · exact h2 y (by omega) hp
      | some y0 =>
        refine ⟨by have := h2.1; omega, h2.2.1, fun z hz hp => ?_⟩
        by_cases e : z = x
        · subst e; exact absurd hp h
        · exact h2.2.2 z (by omega) hp
    by_cases d1 : (bitsL x).length ≤ feet
    · by_cases d2 : lfK tie x tie.length = lift
      · have hp := hpx.2 ⟨d1, d2⟩
        cases o with
        | none =>
          have hst : PB tie lift feet (x + 1) (some x) := ⟨by omega, hp, fun z hz hpz => by
            by_cases e : z = x
            · subst e; exact btr_irr _
            · exact absurd hpz (h2 z (by omega))⟩
          generalize (bitsL x).length = n at *
          generalize lfK tie x tie.length = q at *
          simp (disch := first | assumption | omega | rfl | simp only [RH]) only [↓RP, RG, FX, RQ, ↓reduceIte, Nat.reduceEqDiff, reduceCtorEq, Nat.reduceBEq, Nat.reduceAdd, Nat.reduceLeDiff, aBin_shl, hsh, pbI]
          refine callK_F 6 (c1) (by simp (disch := first | assumption | omega | rfl | simp only [RH]) only [↓RP, RG, FX, RQ, ↓reduceIte, Nat.reduceEqDiff, reduceCtorEq, Nat.reduceBEq, Nat.reduceAdd, Nat.reduceLeDiff, RA] <;> rfl) (.inl (by simp [allFresh, ints_fresh, bools_fresh])) ?_
          simp (disch := first | assumption | omega | rfl | simp only [RH]) only [↓RP, RG, FX, RQ, ↓reduceIte, Nat.reduceEqDiff, reduceCtorEq, Nat.reduceBEq, Nat.reduceAdd, Nat.reduceLeDiff]
          refine callK_F 6 (c2) (by simp (disch := first | assumption | omega | rfl | simp only [RH]) only [↓RP, RG, FX, RQ, ↓reduceIte, Nat.reduceEqDiff, reduceCtorEq, Nat.reduceBEq, Nat.reduceAdd, Nat.reduceLeDiff, RA] <;> rfl) (.inl (by simp [allFresh, ints_fresh, bools_fresh])) ?_
          simp (disch := first | assumption | omega | rfl | simp only [RH]) only [↓RP, RG, FX, RQ, ↓reduceIte, Nat.reduceEqDiff, reduceCtorEq, Nat.reduceBEq, Nat.reduceAdd, Nat.reduceLeDiff]
          exact ⟨(x + 1, some x), ⟨hlt, hst⟩, rfl, by simp only; omega⟩
        | some y =>
          obtain ⟨e1, e2, e3⟩ := h2
          by_cases d3 : btr (bitsL x) (bitsL y)
          · have c3 := hbe x y hlt (by omega) true ⟨fun _ => d3, fun _ => rfl⟩
            have hst : PB tie lift feet (x + 1) (some x) := ⟨by omega, hp, fun z hz hpz => by
              by_cases e : z = x
              · subst e; exact btr_irr _
              · exact fun h => e3 z (by omega) hpz (btr_trans h d3)⟩
            generalize (bitsL x).length = n at *
            generalize lfK tie x tie.length = q at *
            simp (disch := first | assumption | omega | rfl | simp only [RH]) only [↓RP, RG, FX, RQ, ↓reduceIte, Nat.reduceEqDiff, reduceCtorEq, Nat.reduceBEq, Nat.reduceAdd, Nat.reduceLeDiff, aBin_shl, hsh, pbI]
            refine callK_F 6 (c1) (by simp (disch := first | assumption | omega | rfl | simp only [RH]) only [↓RP, RG, FX, RQ, ↓reduceIte, Nat.reduceEqDiff, reduceCtorEq, Nat.reduceBEq, Nat.reduceAdd, Nat.reduceLeDiff, RA] <;> rfl) (.inl (by simp [allFresh, ints_fresh, bools_fresh])) ?_
            simp (disch := first | assumption | omega | rfl | simp only [RH]) only [↓RP, RG, FX, RQ, ↓reduceIte, Nat.reduceEqDiff, reduceCtorEq, Nat.reduceBEq, Nat.reduceAdd, Nat.reduceLeDiff]
            refine callK_F 6 (c2) (by simp (disch := first | assumption | omega | rfl | simp only [RH]) only [↓RP, RG, FX, RQ, ↓reduceIte, Nat.reduceEqDiff, reduceCtorEq, Nat.reduceBEq, Nat.reduceAdd, Nat.reduceLeDiff, RA] <;> rfl) (.inl (by simp [allFresh, ints_fresh, bools_fresh])) ?_
            simp (disch := first | assumption | omega | rfl | simp only [RH]) only [↓RP, RG, FX, RQ, ↓reduceIte, Nat.reduceEqDiff, reduceCtorEq, Nat.reduceBEq, Nat.reduceAdd, Nat.reduceLeDiff]
            refine callK_F 6 (c3) (by simp (disch := first | assumption | omega | rfl | simp only [RH]) only [↓RP, RG, FX, RQ, ↓reduceIte, Nat.reduceEqDiff, reduceCtorEq, Nat.reduceBEq, Nat.reduceAdd, Nat.reduceLeDiff, RA] <;> rfl) (.inl (by simp [allFresh, ints_fresh, bools_fresh])) ?_
            simp (disch := first | assumption | omega | rfl | simp only [RH]) only [↓RP, RG, FX, RQ, ↓reduceIte, Nat.reduceEqDiff, reduceCtorEq, Nat.reduceBEq, Nat.reduceAdd, Nat.reduceLeDiff]
            exact ⟨(x + 1, some x), ⟨hlt, hst⟩, rfl, by simp only; omega⟩
          · have c3 := hbe x y hlt (by omega) false ⟨(fun h => by cases h), fun h => absurd h d3⟩
            have hst : PB tie lift feet (x + 1) (some y) := ⟨by omega, e2, fun z hz hpz => by
              by_cases e : z = x
              · subst e; exact d3
              · exact e3 z (by omega) hpz⟩
            generalize (bitsL x).length = n at *
            generalize lfK tie x tie.length = q at *
            simp (disch := first | assumption | omega | rfl | simp only [RH]) only [↓RP, RG, FX, RQ, ↓reduceIte, Nat.reduceEqDiff, reduceCtorEq, Nat.reduceBEq, Nat.reduceAdd, Nat.reduceLeDiff, aBin_shl, hsh, pbI]
            refine callK_F 6 (c1) (by simp (disch := first | assumption | omega | rfl | simp only [RH]) only [↓RP, RG, FX, RQ, ↓reduceIte, Nat.reduceEqDiff, reduceCtorEq, Nat.reduceBEq, Nat.reduceAdd, Nat.reduceLeDiff, RA] <;> rfl) (.inl (by simp [allFresh, ints_fresh, bools_fresh])) ?_
            simp (disch := first | assumption | omega | rfl | simp only [RH]) only [↓RP, RG, FX, RQ, ↓reduceIte, Nat.reduceEqDiff, reduceCtorEq, Nat.reduceBEq, Nat.reduceAdd, Nat.reduceLeDiff]
            refine callK_F 6 (c2) (by simp (disch := first | assumption | omega | rfl | simp only [RH]) only [↓RP, RG, FX, RQ, ↓reduceIte, Nat.reduceEqDiff, reduceCtorEq, Nat.reduceBEq, Nat.reduceAdd, Nat.reduceLeDiff, RA] <;> rfl) (.inl (by simp [allFresh, ints_fresh, bools_fresh])) ?_
            simp (disch := first | assumption | omega | rfl | simp only [RH]) only [↓RP, RG, FX, RQ, ↓reduceIte, Nat.reduceEqDiff, reduceCtorEq, Nat.reduceBEq, Nat.reduceAdd, Nat.reduceLeDiff]
            refine callK_F 6 (c3) (by simp (disch := first | assumption | omega | rfl | simp only [RH]) only [↓RP, RG, FX, RQ, ↓reduceIte, Nat.reduceEqDiff, reduceCtorEq, Nat.reduceBEq, Nat.reduceAdd, Nat.reduceLeDiff, RA] <;> rfl) (.inl (by simp [allFresh, ints_fresh, bools_fresh])) ?_
            simp (disch := first | assumption | omega | rfl | simp only [RH]) only [↓RP, RG, FX, RQ, ↓reduceIte, Nat.reduceEqDiff, reduceCtorEq, Nat.reduceBEq, Nat.reduceAdd, Nat.reduceLeDiff]
            exact ⟨(x + 1, some y), ⟨hlt, hst⟩, rfl, by simp only; omega⟩
      · have hnx := hno fun h => d2 (hpx.1 h).2
        generalize (bitsL x).length = n at *
        generalize lfK tie x tie.length = q at *
        simp (disch := first | assumption | omega | rfl | simp only [RH]) only [↓RP, RG, FX, RQ, ↓reduceIte, Nat.reduceEqDiff, reduceCtorEq, Nat.reduceBEq, Nat.reduceAdd, Nat.reduceLeDiff, aBin_shl, hsh]
        refine callK_F 6 (c1) (by simp (disch := first | assumption | omega | rfl | simp only [RH]) only [↓RP, RG, FX, RQ, ↓reduceIte, Nat.reduceEqDiff, reduceCtorEq, Nat.reduceBEq, Nat.reduceAdd, Nat.reduceLeDiff, RA] <;> rfl) (.inl (by simp [allFresh, ints_fresh, bools_fresh])) ?_
        simp (disch := first | assumption | omega | rfl | simp only [RH]) only [↓RP, RG, FX, RQ, ↓reduceIte, Nat.reduceEqDiff, reduceCtorEq, Nat.reduceBEq, Nat.reduceAdd, Nat.reduceLeDiff]
        refine callK_F 6 (c2) (by simp (disch := first | assumption | omega | rfl | simp only [RH]) only [↓RP, RG, FX, RQ, ↓reduceIte, Nat.reduceEqDiff, reduceCtorEq, Nat.reduceBEq, Nat.reduceAdd, Nat.reduceLeDiff, RA] <;> rfl) (.inl (by simp [allFresh, ints_fresh, bools_fresh])) ?_
        simp (disch := first | assumption | omega | rfl | simp only [RH]) only [↓RP, RG, FX, RQ, ↓reduceIte, Nat.reduceEqDiff, reduceCtorEq, Nat.reduceBEq, Nat.reduceAdd, Nat.reduceLeDiff]
        exact ⟨(x + 1, o), ⟨hlt, hnx⟩, rfl, by simp only; omega⟩
    · have hnx := hno fun h => d1 (hpx.1 h).1
      generalize (bitsL x).length = n at *
      simp (disch := first | assumption | omega | rfl | simp only [RH]) only [↓RP, RG, FX, RQ, ↓reduceIte, Nat.reduceEqDiff, reduceCtorEq, Nat.reduceBEq, Nat.reduceAdd, Nat.reduceLeDiff, aBin_shl, hsh]
      refine callK_F 6 (c1) (by simp (disch := first | assumption | omega | rfl | simp only [RH]) only [↓RP, RG, FX, RQ, ↓reduceIte, Nat.reduceEqDiff, reduceCtorEq, Nat.reduceBEq, Nat.reduceAdd, Nat.reduceLeDiff, RA] <;> rfl) (.inl (by simp [allFresh, ints_fresh, bools_fresh])) ?_
      simp (disch := first | assumption | omega | rfl | simp only [RH]) only [↓RP, RG, FX, RQ, ↓reduceIte, Nat.reduceEqDiff, reduceCtorEq, Nat.reduceBEq, Nat.reduceAdd, Nat.reduceLeDiff]
      exact ⟨(x + 1, o), ⟨hlt, hnx⟩, rfl, by simp only; omega⟩
  · obtain rfl : x = M := by omega
    have hf := hfin o h2
    simp (disch := first | assumption | omega | rfl | simp only [RH]) only [↓RP, RG, FX, RQ, ↓reduceIte, Nat.reduceEqDiff, reduceCtorEq, Nat.reduceBEq, Nat.reduceAdd, Nat.reduceLeDiff, aBin_shl, hsh]
    rw [resVal_1 rfl]; simp (disch := first | assumption | omega | rfl | simp only [RH]) only [↓RP, RG, FX, RQ, ↓reduceIte, Nat.reduceEqDiff, reduceCtorEq, Nat.reduceBEq, Nat.reduceAdd, Nat.reduceLeDiff, RS]
    rw [hf]
theorem indices_c {x : Nat} (hx : x < 65536) : Contract Try.prog 26 [I x] (LR (nI (bitsL x)).isEmpty (nI (bitsL x))) := by
  refine Contract.intro (effS [] false) 6 follows Try.func26 rfl rfl (by kernel_rfl) (Nat.le_of_ble_eq_true rfl) ?_
  simp (disch := first | assumption | omega | rfl | simp only [RH]) only [↓RP, RG, FX, RQ, ↓reduceIte, Nat.reduceEqDiff, reduceCtorEq, Nat.reduceBEq, Nat.reduceAdd, Nat.reduceLeDiff, args0_1]
  refine loopK_W [0, 3, 4] (fun i : Nat => i ≤ 16) (fun i => ⟨[(0, I x), (3, gw true 0 (ints (nI (bitsK x i)))), (4, I i)], [go 3 (ints (nI (bitsK x i)))]⟩) (fun i => 16 - i) 0 (by omega) (by
    simp only [↓RP, RG, FX, RQ, ↓reduceIte, Nat.reduceEqDiff, reduceCtorEq, Nat.reduceBEq, Nat.reduceAdd, Nat.reduceLeDiff]
    exact Wk.weak (WE.cons _ (.refl _) (WE.cons _ (.nil _) (WE.cons _ (.refl _) WE.nil))) (.nil _ (by simp [go, ints, nI, bitsK]))) ?_
  intro i hi
  have hl := bitsK_len x i
  have hn := nI_len (bitsK x i)
  by_cases hlt : i < 16
  · obtain ⟨s1, s2⟩ := dig_ops (i := i) hx (by omega)
    have hd := dig_lt x i
    by_cases h : dig x i = 1
    · have hs : nI (bitsK x (i + 1)) = nI (bitsK x i) ++ [(i : Int)] := by rw [bitsK_t h, nI_app]
      generalize dig x i = d at *
      generalize x / 2 ^ i = q at *
      simp (disch := first | assumption | omega | rfl | simp only [RH]) only [↓RP, RG, FX, RQ, ↓reduceIte, Nat.reduceEqDiff, reduceCtorEq, Nat.reduceBEq, Nat.reduceAdd, Nat.reduceLeDiff, aBin_shr, s1, s2, append_int]
      exact ⟨i + 1, hlt, by rw [hs]; rfl, by omega⟩
    · have hs : nI (bitsK x (i + 1)) = nI (bitsK x i) := by rw [bitsK_f h]
      generalize dig x i = d at *
      generalize x / 2 ^ i = q at *
      simp (disch := first | assumption | omega | rfl | simp only [RH]) only [↓RP, RG, FX, RQ, ↓reduceIte, Nat.reduceEqDiff, reduceCtorEq, Nat.reduceBEq, Nat.reduceAdd, Nat.reduceLeDiff, aBin_shr, s1, s2]
      exact ⟨i + 1, hlt, by rw [hs]; rfl, by omega⟩
  · obtain rfl : i = 16 := by omega
    simp (disch := first | assumption | omega | rfl | simp only [RH]) only [↓RP, RG, FX, RQ, ↓reduceIte, Nat.reduceEqDiff, reduceCtorEq, Nat.reduceBEq, Nat.reduceAdd, Nat.reduceLeDiff]
    rw [resVal_1 rfl]; simp (disch := first | assumption | omega | rfl | simp only [RH]) only [↓RP, RG, FX, RQ, ↓reduceIte, Nat.reduceEqDiff, reduceCtorEq, Nat.reduceBEq, Nat.reduceAdd, Nat.reduceLeDiff, RS]
    simp only [Bool.true_and, ints_isEmpty]
    first | done | rfl
end Go.Proofs.Ytlckfakifamjiaa

/- Lifts by the reference. -/
set_option linter.unusedSimpArgs false
set_option linter.unusedVariables false
set_option maxRecDepth 100000
namespace Go.Proofs.Ytlckfakifamjiaa
open Go Go.Proofs Go.AW

theorem cellU (W : Nat) (l : List Bool) (x y : Nat) : cell W l x y = l.getD (W * y + x) false := by rw [cell, idx_nat]
theorem cellV {W H : Nat} {n x y : Nat} (hn : n = W * H) (hx : x < W) (hy : y < H) (hW : W ≤ 64) (hH : H ≤ 64) : 0 ≤ (y : Int) * W + x ∧ (y : Int) * W + x < n ∧ 0 ≤ (y : Int) * W ∧ (y : Int) * W ≤ 1000000000000 ∧ n ≤ 4096 := by
  have e : (y : Int) * (W : Int) = ((W * y : Nat) : Int) := by rw [Int.natCast_mul, Int.mul_comm]
  have := idx_lt hx hy
  have : W * H ≤ 64 * 64 := Nat.mul_le_mul hW hH
  omega
theorem pow2_16 {i : Nat} (hi : i < 4) : 2 ^ i < 16 := Nat.pow_lt_pow_right (m := i) (n := 4) (by omega) hi
theorem rowR_c {W H : Nat} (hW4 : W ≤ 4) (hH : H ≤ 64) (b : Bool) {l : List Bool} (hn : l.length = W * H) {y : Nat} (hy : y < H) : Contract Try.prog 19 [GA W H b l, I y] (I (rowK W l y W)) := by
  have hat : ∀ s, s < W → Contract Try.prog 34 [GA W H b l, I s, I y] (B (l.getD (W * y + s) false)) := fun s hs => by
    obtain ⟨i1, i2, i3, i4, i5⟩ := cellV hn hs hy (by omega) hH
    have := at_c (W : Int) H b l s y i1 i2 (by omega) i3 i4
    rwa [cellU] at this
  refine Contract.intro (effS [] false) 6 follows Try.func19 rfl rfl (by kernel_rfl) (Nat.le_of_ble_eq_true rfl) ?_
  simp (disch := first | assumption | omega | rfl | simp only [RH]) only [↓RP, RG, FX, RQ, ↓reduceIte, Nat.reduceEqDiff, reduceCtorEq, Nat.reduceBEq, Nat.reduceAdd, Nat.reduceLeDiff, args0_2]
  refine loopK_I [1, 2, 5, 6] (fun s : Nat => s ≤ W) (fun s => ⟨[(1, I y), (2, .ptr 0 0 3), (5, I (rowK W l y s)), (6, I s)], [⟨24, 3, [I W, I H, BA b l]⟩]⟩) (fun s => W - s) 0 (by omega) (by simp only [↓RP, RG, FX, RQ, ↓reduceIte, Nat.reduceEqDiff, reduceCtorEq, Nat.reduceBEq, Nat.reduceAdd, Nat.reduceLeDiff]; rfl) ?_
  intro s hs
  by_cases hlt : s < W
  · have hA := hat s hlt
    have hsh := shl64 (n := s) (by omega)
    have hk : rowK W l y s < 16 := Nat.lt_of_lt_of_le (rowK_lt W l y s) (by have := Nat.pow_le_pow_right (n := 2) (by omega) (show s ≤ 4 by omega); simpa using this)
    have hp := pow2_16 (i := s) (by omega)
    have hor := or64 hk hp
    have hst : rowK W l y (s + 1) = if l.getD (W * y + s) false = true then rowK W l y s ||| 2 ^ s else rowK W l y s := rfl
    generalize 2 ^ s = q at *
    cases hb : l.getD (W * y + s) false with
    | true =>
      rw [hb, if_pos rfl] at hst
      rw [hb] at hA
      simp (disch := first | assumption | omega | rfl | simp only [RH]) only [↓RP, RG, FX, RQ, ↓reduceIte, Nat.reduceEqDiff, reduceCtorEq, Nat.reduceBEq, Nat.reduceAdd, Nat.reduceLeDiff]
      refine callK_F 6 (hA) (by simp (disch := first | assumption | omega | rfl | simp only [RH]) only [↓RP, RG, FX, RQ, ↓reduceIte, Nat.reduceEqDiff, reduceCtorEq, Nat.reduceBEq, Nat.reduceAdd, Nat.reduceLeDiff, RA] <;> rfl) (.inl (by simp [allFresh, ints_fresh, bools_fresh])) ?_
      simp (disch := first | assumption | omega | rfl | simp only [RH]) only [↓RP, RG, FX, RQ, ↓reduceIte, Nat.reduceEqDiff, reduceCtorEq, Nat.reduceBEq, Nat.reduceAdd, Nat.reduceLeDiff, aBin_shl, hsh, hor]
      exact ⟨s + 1, hlt, by rw [hst]; rfl, by omega⟩
    | false =>
      rw [hb, if_neg (by simp)] at hst
      rw [hb] at hA
      simp (disch := first | assumption | omega | rfl | simp only [RH]) only [↓RP, RG, FX, RQ, ↓reduceIte, Nat.reduceEqDiff, reduceCtorEq, Nat.reduceBEq, Nat.reduceAdd, Nat.reduceLeDiff]
      refine callK_F 6 (hA) (by simp (disch := first | assumption | omega | rfl | simp only [RH]) only [↓RP, RG, FX, RQ, ↓reduceIte, Nat.reduceEqDiff, reduceCtorEq, Nat.reduceBEq, Nat.reduceAdd, Nat.reduceLeDiff, RA] <;> rfl) (.inl (by simp [allFresh, ints_fresh, bools_fresh])) ?_
      simp (disch := first | assumption | omega | rfl | simp only [RH]) only [↓RP, RG, FX, RQ, ↓reduceIte, Nat.reduceEqDiff, reduceCtorEq, Nat.reduceBEq, Nat.reduceAdd, Nat.reduceLeDiff]
      exact ⟨s + 1, hlt, by rw [hst]; rfl, by omega⟩
  · obtain rfl : s = W := by omega
    simp (disch := first | assumption | omega | rfl | simp only [RH]) only [↓RP, RG, FX, RQ, ↓reduceIte, Nat.reduceEqDiff, reduceCtorEq, Nat.reduceBEq, Nat.reduceAdd, Nat.reduceLeDiff]
    rw [resVal_1 rfl]; simp (disch := first | assumption | omega | rfl | simp only [RH]) only [↓RP, RG, FX, RQ, ↓reduceIte, Nat.reduceEqDiff, reduceCtorEq, Nat.reduceBEq, Nat.reduceAdd, Nat.reduceLeDiff, RS]
theorem liftsR_bad (w h : Int) (b : Bool) (l : List Bool) (hz : gchk w h l.length ≠ 0) : Contract Try.prog 6 [GA w h b l] (.tuple [LR true [], I (gchk w h l.length)]) := by
  have hgk := gcheckR_c w h b l
  generalize gchk w h l.length = e at *
  refine Contract.intro (effS [] false) 6 follows Try.func6 rfl rfl (by kernel_rfl) (Nat.le_of_ble_eq_true rfl) ?_
  simp (disch := first | assumption | omega | rfl | simp only [RH]) only [↓RP, RG, FX, RQ, ↓reduceIte, Nat.reduceEqDiff, reduceCtorEq, Nat.reduceBEq, Nat.reduceAdd, Nat.reduceLeDiff, args0_1]
  refine callK_F 6 (hgk) (by simp (disch := first | assumption | omega | rfl | simp only [RH]) only [↓RP, RG, FX, RQ, ↓reduceIte, Nat.reduceEqDiff, reduceCtorEq, Nat.reduceBEq, Nat.reduceAdd, Nat.reduceLeDiff, RA] <;> rfl) (.inl (by simp [allFresh, ints_fresh, bools_fresh])) ?_
  simp (disch := first | assumption | omega | rfl | simp only [RH]) only [↓RP, RG, FX, RQ, ↓reduceIte, Nat.reduceEqDiff, reduceCtorEq, Nat.reduceBEq, Nat.reduceAdd, Nat.reduceLeDiff]
  refine callK_F 6 (hgk) (by simp (disch := first | assumption | omega | rfl | simp only [RH]) only [↓RP, RG, FX, RQ, ↓reduceIte, Nat.reduceEqDiff, reduceCtorEq, Nat.reduceBEq, Nat.reduceAdd, Nat.reduceLeDiff, RA] <;> rfl) (.inl (by simp [allFresh, ints_fresh, bools_fresh])) ?_
  simp (disch := first | assumption | omega | rfl | simp only [RH]) only [↓RP, RG, FX, RQ, ↓reduceIte, Nat.reduceEqDiff, reduceCtorEq, Nat.reduceBEq, Nat.reduceAdd, Nat.reduceLeDiff]
  rw [resVal_2 rfl]; simp (disch := first | assumption | omega | rfl | simp only [RH]) only [↓RP, RG, FX, RQ, ↓reduceIte, Nat.reduceEqDiff, reduceCtorEq, Nat.reduceBEq, Nat.reduceAdd, Nat.reduceLeDiff, RS]
  first | done | rfl
theorem liftsR_many (w h : Int) (b : Bool) (l : List Bool) (hz : gchk w h l.length = 0) (hw : 4 < w) : Contract Try.prog 6 [GA w h b l] (.tuple [LR true [], I 4]) := by
  have hgk := gcheckR_c w h b l
  rw [hz] at hgk
  refine Contract.intro (effS [] false) 6 follows Try.func6 rfl rfl (by kernel_rfl) (Nat.le_of_ble_eq_true rfl) ?_
  simp (disch := first | assumption | omega | rfl | simp only [RH]) only [↓RP, RG, FX, RQ, ↓reduceIte, Nat.reduceEqDiff, reduceCtorEq, Nat.reduceBEq, Nat.reduceAdd, Nat.reduceLeDiff, args0_1]
  refine callK_F 6 (hgk) (by simp (disch := first | assumption | omega | rfl | simp only [RH]) only [↓RP, RG, FX, RQ, ↓reduceIte, Nat.reduceEqDiff, reduceCtorEq, Nat.reduceBEq, Nat.reduceAdd, Nat.reduceLeDiff, RA] <;> rfl) (.inl (by simp [allFresh, ints_fresh, bools_fresh])) ?_
  simp (disch := first | assumption | omega | rfl | simp only [RH]) only [↓RP, RG, FX, RQ, ↓reduceIte, Nat.reduceEqDiff, reduceCtorEq, Nat.reduceBEq, Nat.reduceAdd, Nat.reduceLeDiff]
  rw [resVal_2 rfl]; simp (disch := first | assumption | omega | rfl | simp only [RH]) only [↓RP, RG, FX, RQ, ↓reduceIte, Nat.reduceEqDiff, reduceCtorEq, Nat.reduceBEq, Nat.reduceAdd, Nat.reduceLeDiff, RS]
  first | done | rfl
theorem liftsP_bad (w h : Int) (b : Bool) (l : List Bool) (hz : gchk w h l.length ≠ 0) : Contract Try.prog 5 [GA w h b l] (.tuple [LR true [], I (gchk w h l.length)]) := by
  have hgk := gcheckP_c w h b l
  generalize gchk w h l.length = e at *
  refine Contract.intro (effS [] false) 6 follows Try.func5 rfl rfl (by kernel_rfl) (Nat.le_of_ble_eq_true rfl) ?_
  simp (disch := first | assumption | omega | rfl | simp only [RH]) only [↓RP, RG, FX, RQ, ↓reduceIte, Nat.reduceEqDiff, reduceCtorEq, Nat.reduceBEq, Nat.reduceAdd, Nat.reduceLeDiff, args0_1]
  refine callK_F 6 (hgk) (by simp (disch := first | assumption | omega | rfl | simp only [RH]) only [↓RP, RG, FX, RQ, ↓reduceIte, Nat.reduceEqDiff, reduceCtorEq, Nat.reduceBEq, Nat.reduceAdd, Nat.reduceLeDiff, RA] <;> rfl) (.inl (by simp [allFresh, ints_fresh, bools_fresh])) ?_
  simp (disch := first | assumption | omega | rfl | simp only [RH]) only [↓RP, RG, FX, RQ, ↓reduceIte, Nat.reduceEqDiff, reduceCtorEq, Nat.reduceBEq, Nat.reduceAdd, Nat.reduceLeDiff]
  rw [resVal_2 rfl]; simp (disch := first | assumption | omega | rfl | simp only [RH]) only [↓RP, RG, FX, RQ, ↓reduceIte, Nat.reduceEqDiff, reduceCtorEq, Nat.reduceBEq, Nat.reduceAdd, Nat.reduceLeDiff, RS]
  first | done | rfl
theorem liftsP_many (w h : Int) (b : Bool) (l : List Bool) (hz : gchk w h l.length = 0) (hw : 4 < w) : Contract Try.prog 5 [GA w h b l] (.tuple [LR true [], I 4]) := by
  have hgk := gcheckP_c w h b l
  rw [hz] at hgk
  refine Contract.intro (effS [] false) 6 follows Try.func5 rfl rfl (by kernel_rfl) (Nat.le_of_ble_eq_true rfl) ?_
  simp (disch := first | assumption | omega | rfl | simp only [RH]) only [↓RP, RG, FX, RQ, ↓reduceIte, Nat.reduceEqDiff, reduceCtorEq, Nat.reduceBEq, Nat.reduceAdd, Nat.reduceLeDiff, args0_1]
  refine callK_F 6 (hgk) (by simp (disch := first | assumption | omega | rfl | simp only [RH]) only [↓RP, RG, FX, RQ, ↓reduceIte, Nat.reduceEqDiff, reduceCtorEq, Nat.reduceBEq, Nat.reduceAdd, Nat.reduceLeDiff, RA] <;> rfl) (.inl (by simp [allFresh, ints_fresh, bools_fresh])) ?_
  simp (disch := first | assumption | omega | rfl | simp only [RH]) only [↓RP, RG, FX, RQ, ↓reduceIte, Nat.reduceEqDiff, reduceCtorEq, Nat.reduceBEq, Nat.reduceAdd, Nat.reduceLeDiff]
  rw [resVal_2 rfl]; simp (disch := first | assumption | omega | rfl | simp only [RH]) only [↓RP, RG, FX, RQ, ↓reduceIte, Nat.reduceEqDiff, reduceCtorEq, Nat.reduceBEq, Nat.reduceAdd, Nat.reduceLeDiff, RS]
  first | done | rfl
/-- The lifts below x that are not empty. -/
def nzU (L : List Nat) (x : Nat) : List Nat := (List.range x).filter fun y => decide (0 < y ∧ y ∈ L)
theorem nzU_len_le (L : List Nat) (x : Nat) : (nzU L x).length ≤ x := Nat.le_trans (List.length_filter_le _ _) (by simp)
theorem nzU_t {L : List Nat} {x : Nat} (h0 : 0 < x) (h : x ∈ L) : nzU L (x + 1) = nzU L x ++ [x] := by
  unfold nzU; rw [List.range_succ, List.filter_append, List.filter_cons_of_pos (by simp [h0, h]), List.filter_nil]
theorem nzU_f {L : List Nat} {x : Nat} (h : x ∉ L) : nzU L (x + 1) = nzU L x := by
  unfold nzU; rw [List.range_succ, List.filter_append, List.filter_cons_of_neg (by simp [h]), List.filter_nil, List.append_nil]
theorem liftsR_c {W H : Nat} (hW1 : 1 ≤ W) (hW4 : W ≤ 4) (hH1 : 1 ≤ H) (hH : H ≤ 64) (b : Bool) {l : List Bool} (hn : l.length = W * H) : Contract Try.prog 6 [GA W H b l] (.tuple [LR (nzL W (rowsL W l H)).isEmpty (nI (nzL W (rowsL W l H))), I 0]) := by
  obtain ⟨p1, p2⟩ := pow4 hW4
  have hgk := gcheckR_c W H b l
  rw [gchk_ok ⟨by omega, by omega, by omega, by omega, by rw [← Int.natCast_mul, hn]⟩] at hgk
  have hsh := shl64 (n := W) (by omega)
  have hrow : ∀ y, y < H → Contract Try.prog 19 [GA W H b l, I y] (I (rowK W l y W)) := fun y hy => rowR_c hW4 hH b hn hy
  have hz1 : nzU (rowsL W l H) 1 = [] := by simp [nzU]
  have hzW : nzL W (rowsL W l H) = nzU (rowsL W l H) (2 ^ W) := rfl
  have hlen0 := nzU_len_le (rowsL W l H)
  have hst := fun x => @nzU_t (rowsL W l H) x
  have hsf := fun x => @nzU_f (rowsL W l H) x
  have hsc := rowsL_succ W l
  have hr0 : rowsL W l 0 = [] := rfl
  rw [hzW]
  generalize nzU (rowsL W l H) = U at *
  generalize 2 ^ W = q at *
  refine Contract.intro (effS [] false) 6 follows Try.func6 rfl rfl (by kernel_rfl) (Nat.le_of_ble_eq_true rfl) ?_
  simp (disch := first | assumption | omega | rfl | simp only [RH]) only [↓RP, RG, FX, RQ, ↓reduceIte, Nat.reduceEqDiff, reduceCtorEq, Nat.reduceBEq, Nat.reduceAdd, Nat.reduceLeDiff, args0_1]
  refine callK_F 6 (hgk) (by simp (disch := first | assumption | omega | rfl | simp only [RH]) only [↓RP, RG, FX, RQ, ↓reduceIte, Nat.reduceEqDiff, reduceCtorEq, Nat.reduceBEq, Nat.reduceAdd, Nat.reduceLeDiff, RA] <;> rfl) (.inl (by simp [allFresh, ints_fresh, bools_fresh])) ?_
  simp (disch := first | assumption | omega | rfl | simp only [RH]) only [↓RP, RG, FX, RQ, ↓reduceIte, Nat.reduceEqDiff, reduceCtorEq, Nat.reduceBEq, Nat.reduceAdd, Nat.reduceLeDiff]
  refine loopK_W [1, 4, 5] (fun x : Nat => 1 ≤ x ∧ x ≤ q) (fun x => ⟨[(1, .ptr 0 0 3), (4, gw true 1 (ints (nI (U x)))), (5, I x)], [⟨24, 3, [I W, I H, BA b l]⟩, go 3 (ints (nI (U x)))]⟩) (fun x => q - x) 1 ⟨by omega, by omega⟩ (by
    rw [hz1]
    simp only [↓RP, RG, FX, RQ, ↓reduceIte, Nat.reduceEqDiff, reduceCtorEq, Nat.reduceBEq, Nat.reduceAdd, Nat.reduceLeDiff]
    exact Wk.weak (WE.cons _ (.refl _) (WE.cons _ (.nil _) (WE.cons _ (.refl _) WE.nil))) (.cons _ _ _ _ (WL.refl _) (.nil _ (by simp [go, ints, nI])))) ?_
  rintro x ⟨hx1, hxq⟩
  have hUl := hlen0 x
  have hUn := nI_len (U x)
  by_cases hlt : x < q
  · simp (disch := first | assumption | omega | rfl | simp only [RH]) only [↓RP, RG, FX, RQ, ↓reduceIte, Nat.reduceEqDiff, reduceCtorEq, Nat.reduceBEq, Nat.reduceAdd, Nat.reduceLeDiff, aBin_shl, hsh]
    refine loopK_I [1, 4, 5, 6, 7] (fun y : Nat => y ≤ H) (fun y => ⟨[(1, .ptr 0 0 3), (4, gw true 1 (ints (nI (U x)))), (5, I x), (6, B (decide (x ∈ rowsL W l y))), (7, I y)], [⟨24, 3, [I W, I H, BA b l]⟩, go 3 (ints (nI (U x)))]⟩) (fun y => H - y) 0 (by omega) (by rw [hr0]; simp only [↓RP, RG, FX, RQ, ↓reduceIte, Nat.reduceEqDiff, reduceCtorEq, Nat.reduceBEq, Nat.reduceAdd, Nat.reduceLeDiff]; rfl) ?_
    intro y hy
    by_cases hylt : y < H
    · have hR := hrow y hylt
      have hs := hsc y
      by_cases hm : x ∈ rowsL W l y
      · have hm2 : x ∈ rowsL W l (y + 1) := by rw [hs]; exact List.mem_append_left _ hm
        rw [decide_eq_true hm]
        simp (disch := first | assumption | omega | rfl | simp only [RH]) only [↓RP, RG, FX, RQ, ↓reduceIte, Nat.reduceEqDiff, reduceCtorEq, Nat.reduceBEq, Nat.reduceAdd, Nat.reduceLeDiff]
        exact ⟨y + 1, hylt, by rw [decide_eq_true hm2]; rfl, by omega⟩
      · have hm2 : x ∈ rowsL W l (y + 1) ↔ rowK W l y W = x := by
          rw [hs, List.mem_append, List.mem_singleton]
          exact ⟨fun h => (h.resolve_left hm).symm, fun h => .inr h.symm⟩
        rw [decide_eq_false hm]
        generalize rowK W l y W = k at *
        by_cases e : k = x
        · simp (disch := first | assumption | omega | rfl | simp only [RH]) only [↓RP, RG, FX, RQ, ↓reduceIte, Nat.reduceEqDiff, reduceCtorEq, Nat.reduceBEq, Nat.reduceAdd, Nat.reduceLeDiff]
          refine callK_F 6 (hR) (by simp (disch := first | assumption | omega | rfl | simp only [RH]) only [↓RP, RG, FX, RQ, ↓reduceIte, Nat.reduceEqDiff, reduceCtorEq, Nat.reduceBEq, Nat.reduceAdd, Nat.reduceLeDiff, RA] <;> rfl) (.inl (by simp [allFresh, ints_fresh, bools_fresh])) ?_
          simp (disch := first | assumption | omega | rfl | simp only [RH]) only [↓RP, RG, FX, RQ, ↓reduceIte, Nat.reduceEqDiff, reduceCtorEq, Nat.reduceBEq, Nat.reduceAdd, Nat.reduceLeDiff]
          exact ⟨y + 1, hylt, by rw [decide_eq_true (hm2.2 e)]; rfl, by omega⟩
        · simp (disch := first | assumption | omega | rfl | simp only [RH]) only [↓RP, RG, FX, RQ, ↓reduceIte, Nat.reduceEqDiff, reduceCtorEq, Nat.reduceBEq, Nat.reduceAdd, Nat.reduceLeDiff]
          refine callK_F 6 (hR) (by simp (disch := first | assumption | omega | rfl | simp only [RH]) only [↓RP, RG, FX, RQ, ↓reduceIte, Nat.reduceEqDiff, reduceCtorEq, Nat.reduceBEq, Nat.reduceAdd, Nat.reduceLeDiff, RA] <;> rfl) (.inl (by simp [allFresh, ints_fresh, bools_fresh])) ?_
          simp (disch := first | assumption | omega | rfl | simp only [RH]) only [↓RP, RG, FX, RQ, ↓reduceIte, Nat.reduceEqDiff, reduceCtorEq, Nat.reduceBEq, Nat.reduceAdd, Nat.reduceLeDiff]
          exact ⟨y + 1, hylt, by rw [decide_eq_false (fun h => e (hm2.1 h))]; rfl, by omega⟩
    · obtain rfl : y = H := by omega
      by_cases hm : x ∈ rowsL W l y
      · have hs := hst x (by omega) hm
        have hs2 : nI (U (x + 1)) = nI (U x) ++ [(x : Int)] := by rw [hs, nI_app]
        rw [decide_eq_true hm]
        simp (disch := first | assumption | omega | rfl | simp only [RH]) only [↓RP, RG, FX, RQ, ↓reduceIte, Nat.reduceEqDiff, reduceCtorEq, Nat.reduceBEq, Nat.reduceAdd, Nat.reduceLeDiff, append_int]
        exact ⟨x + 1, ⟨by omega, by omega⟩, by rw [hs2]; rfl, by omega⟩
      · have hs := hsf x hm
        rw [decide_eq_false hm]
        simp (disch := first | assumption | omega | rfl | simp only [RH]) only [↓RP, RG, FX, RQ, ↓reduceIte, Nat.reduceEqDiff, reduceCtorEq, Nat.reduceBEq, Nat.reduceAdd, Nat.reduceLeDiff]
        exact ⟨x + 1, ⟨by omega, by omega⟩, by rw [hs]; rfl, by omega⟩
  · obtain rfl : x = q := by omega
    simp (disch := first | assumption | omega | rfl | simp only [RH]) only [↓RP, RG, FX, RQ, ↓reduceIte, Nat.reduceEqDiff, reduceCtorEq, Nat.reduceBEq, Nat.reduceAdd, Nat.reduceLeDiff, aBin_shl, hsh]
    rw [resVal_2 rfl]; simp (disch := first | assumption | omega | rfl | simp only [RH]) only [↓RP, RG, FX, RQ, ↓reduceIte, Nat.reduceEqDiff, reduceCtorEq, Nat.reduceBEq, Nat.reduceAdd, Nat.reduceLeDiff, RS]
    simp only [Bool.true_and, ints_isEmpty]
    cases U x <;> first | done | rfl
end Go.Proofs.Ytlckfakifamjiaa

/- The search of a least tie-up, plain. -/
set_option linter.unusedSimpArgs false
set_option linter.unusedVariables false
set_option maxRecDepth 100000
namespace Go.Proofs.Ytlckfakifamjiaa
open Go Go.Proofs Go.AW

theorem tie_len' {s : Nat} (hs : s ≤ 4) {u : List Nat} (hu : Tie s u) : u.length ≤ 16 := by
  obtain ⟨q1, q2, q3⟩ := famN_ok hs hu
  rw [← q3]; unfold bitsL; exact Nat.le_trans (List.length_filter_le _ _) (by simp)
theorem tie_lt {s : Nat} (hs : s ≤ 4) {u : List Nat} (hu : Tie s u) {i : Nat} (hi : i < u.length) : u.getD i 0 < 16 := by
  obtain ⟨p1, p2⟩ := pow4 hs
  have := (hu.2 (u.getD i 0) (by rw [List.getD_eq_getElem?_getD, List.getElem?_eq_getElem hi]; exact List.getElem_mem hi)).2
  omega
theorem inc_bound {M : Nat} : ∀ (v : List Nat) (y : Nat), (y :: v).Pairwise (· < ·) → (∀ a ∈ y :: v, a < M) → y + v.length < M
  | [], y, _, h => by have := h y (by simp); simpa using this
  | z :: v, y, hp, h => by
    have h1 := inc_bound v z (List.Pairwise.of_cons hp) (fun a ha => h a (List.mem_cons_of_mem _ ha))
    have h2 : y < z := (List.pairwise_cons.1 hp).1 z (by simp)
    simp only [List.length_cons]; omega
end Go.Proofs.Ytlckfakifamjiaa
