/- Closed facts on the types. -/
import Derived.Test.YtfnbejllakoiiaaProg
import Derived.Test.YtfnbejllakoiiaaBw3
namespace Go.Proofs.Ytfnbejllakoiiaa
open Go Go.Proofs Go.AW
theorem follows : Try.prog.follows .mixedOrders = true := by kernel_rfl
-- 3: int
theorem ag3 : agT Try.prog 3 = some (false, 1) := by kernel_rfl
theorem zc3 : zT Try.prog 3 = some ([I 0], 1) := by kernel_rfl
-- 4: bool
theorem ag4 : agT Try.prog 4 = some (false, 1) := by kernel_rfl
theorem zc4 : zT Try.prog 4 = some ([B false], 1) := by kernel_rfl
instance bo4 : BoT Try.prog 4 := ⟨by kernel_rfl⟩
-- 9: string
theorem ag9 : agT Try.prog 9 = some (false, 1) := by kernel_rfl
theorem zc9 : zT Try.prog 9 = some ([.val (.string ⟨#[]⟩)], 1) := by kernel_rfl
-- 22: []int
theorem ag22 : agT Try.prog 22 = some (false, 1) := by kernel_rfl
theorem zc22 : zT Try.prog 22 = some ([.cap0 true], 1) := by kernel_rfl
instance S22 : SlT Try.prog 22 3 8 (.int .i64 0) := SlT.of (by kernel_rfl) (by kernel_rfl)
-- 23: []bool
theorem ag23 : agT Try.prog 23 = some (false, 1) := by kernel_rfl
theorem zc23 : zT Try.prog 23 = some ([.cap0 true], 1) := by kernel_rfl
instance S23 : SlT Try.prog 23 4 1 (.bool false) := SlT.of (by kernel_rfl) (by kernel_rfl)
-- 25: api.Grid
theorem ag25 : agT Try.prog 25 = some (true, 3) := by kernel_rfl
theorem zc25 : zT Try.prog 25 = some ([I 0, I 0, .cap0 true], 3) := by kernel_rfl
theorem fo25_0 : fOff Try.prog 25 0 = some 0 := by kernel_rfl
theorem ft25_0 : fOT Try.prog 25 0 = some (0, 3) := by kernel_rfl
theorem fo25_1 : fOff Try.prog 25 1 = some 1 := by kernel_rfl
theorem ft25_1 : fOT Try.prog 25 1 = some (1, 3) := by kernel_rfl
theorem fo25_2 : fOff Try.prog 25 2 = some 2 := by kernel_rfl
theorem ft25_2 : fOT Try.prog 25 2 = some (2, 23) := by kernel_rfl
theorem fl25 : flT Try.prog 25 = some ([(0, 1), (1, 1), (2, 1)], [I 0, I 0, .cap0 true]) := by kernel_rfl
-- 27: api.Draft
theorem ag27 : agT Try.prog 27 = some (true, 7) := by kernel_rfl
theorem zc27 : zT Try.prog 27 = some ([I 0, I 0, .cap0 true, .cap0 true, I 0, I 0, .cap0 true], 7) := by kernel_rfl
theorem fo27_0 : fOff Try.prog 27 0 = some 0 := by kernel_rfl
theorem ft27_0 : fOT Try.prog 27 0 = some (0, 3) := by kernel_rfl
theorem fo27_1 : fOff Try.prog 27 1 = some 1 := by kernel_rfl
theorem ft27_1 : fOT Try.prog 27 1 = some (1, 3) := by kernel_rfl
theorem fo27_2 : fOff Try.prog 27 2 = some 2 := by kernel_rfl
theorem ft27_2 : fOT Try.prog 27 2 = some (2, 22) := by kernel_rfl
theorem fo27_3 : fOff Try.prog 27 3 = some 3 := by kernel_rfl
theorem ft27_3 : fOT Try.prog 27 3 = some (3, 22) := by kernel_rfl
theorem fo27_4 : fOff Try.prog 27 4 = some 4 := by kernel_rfl
theorem ft27_4 : fOT Try.prog 27 4 = some (4, 25) := by kernel_rfl
theorem fl27 : flT Try.prog 27 = some ([(0, 1), (1, 1), (2, 1), (3, 1), (4, 3)], [I 0, I 0, .cap0 true, .cap0 true, I 0, I 0, .cap0 true]) := by kernel_rfl
-- 30: api.Errno
theorem ag30 : agT Try.prog 30 = some (false, 1) := by kernel_rfl
theorem zc30 : zT Try.prog 30 = some ([I 0], 1) := by kernel_rfl
-- 40: func(int) []bool
theorem ag40 : agT Try.prog 40 = some (false, 1) := by kernel_rfl
theorem zc40 : zT Try.prog 40 = some ([.val .nilFunc], 1) := by kernel_rfl
-- 42: [][]bool
theorem ag42 : agT Try.prog 42 = some (false, 1) := by kernel_rfl
theorem zc42 : zT Try.prog 42 = some ([.cap0 true], 1) := by kernel_rfl
instance S42 : SlT Try.prog 42 23 24 (.slice none 0 0) := SlT.of (by kernel_rfl) (by kernel_rfl)
-- 45: func([]bool) bool
theorem ag45 : agT Try.prog 45 = some (false, 1) := by kernel_rfl
theorem zc45 : zT Try.prog 45 = some ([.val .nilFunc], 1) := by kernel_rfl
-- 47: func(int, int) bool
theorem ag47 : agT Try.prog 47 = some (false, 1) := by kernel_rfl
theorem zc47 : zT Try.prog 47 = some ([.val .nilFunc], 1) := by kernel_rfl
-- 58: *api.Draft
theorem ag58 : agT Try.prog 58 = some (false, 1) := by kernel_rfl
theorem zc58 : zT Try.prog 58 = some ([.val (.pointer none)], 1) := by kernel_rfl
-- 65: uint
theorem ag65 : agT Try.prog 65 = some (false, 1) := by kernel_rfl
theorem zc65 : zT Try.prog 65 = some ([.val (.int .u64 0)], 1) := by kernel_rfl

theorem FX : type_of% @ag3 ∧ type_of% @zc3 ∧ type_of% @ag4 ∧ type_of% @zc4 ∧ type_of% @ag9 ∧ type_of% @zc9 ∧ type_of% @ag22 ∧ type_of% @zc22 ∧ type_of% @ag23 ∧ type_of% @zc23 ∧ type_of% @ag25 ∧ type_of% @zc25 ∧ type_of% @fo25_0 ∧ type_of% @ft25_0 ∧ type_of% @fo25_1 ∧ type_of% @ft25_1 ∧ type_of% @fo25_2 ∧ type_of% @ft25_2 ∧ type_of% @fl25 ∧ type_of% @ag27 ∧ type_of% @zc27 ∧ type_of% @fo27_0 ∧ type_of% @ft27_0 ∧ type_of% @fo27_1 ∧ type_of% @ft27_1 ∧ type_of% @fo27_2 ∧ type_of% @ft27_2 ∧ type_of% @fo27_3 ∧ type_of% @ft27_3 ∧ type_of% @fo27_4 ∧ type_of% @ft27_4 ∧ type_of% @fl27 ∧ type_of% @ag30 ∧ type_of% @zc30 ∧ type_of% @ag40 ∧ type_of% @zc40 ∧ type_of% @ag42 ∧ type_of% @zc42 ∧ type_of% @ag45 ∧ type_of% @zc45 ∧ type_of% @ag47 ∧ type_of% @zc47 ∧ type_of% @ag58 ∧ type_of% @zc58 ∧ type_of% @ag65 ∧ type_of% @zc65 :=
  ⟨@ag3, @zc3, @ag4, @zc4, @ag9, @zc9, @ag22, @zc22, @ag23, @zc23, @ag25, @zc25, @fo25_0, @ft25_0, @fo25_1, @ft25_1, @fo25_2, @ft25_2, @fl25, @ag27, @zc27, @fo27_0, @ft27_0, @fo27_1, @ft27_1, @fo27_2, @ft27_2, @fo27_3, @ft27_3, @fo27_4, @ft27_4, @fl27, @ag30, @zc30, @ag40, @zc40, @ag42, @zc42, @ag45, @zc45, @ag47, @zc47, @ag58, @zc58, @ag65, @zc65⟩
end Go.Proofs.Ytfnbejllakoiiaa
