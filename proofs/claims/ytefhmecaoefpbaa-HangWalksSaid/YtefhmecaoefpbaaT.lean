/- Closed facts on the types. -/
import Derived.Test.YtefhmecaoefpbaaProg
import Derived.Test.YtefhmecaoefpbaaBw3
namespace Go.Proofs.Ytefhmecaoefpbaa
open Go Go.Proofs Go.AW
theorem follows : Try.prog.follows .mixedOrders = true := by kernel_rfl
-- 3: int
theorem ag3 : agT Try.prog 3 = some (false, 1) := by kernel_rfl
theorem zc3 : zT Try.prog 3 = some ([I 0], 1) := by kernel_rfl
-- 4: bool
theorem ag4 : agT Try.prog 4 = some (false, 1) := by kernel_rfl
theorem zc4 : zT Try.prog 4 = some ([B false], 1) := by kernel_rfl
instance bo4 : BoT Try.prog 4 := ⟨by kernel_rfl⟩
-- 9: string
theorem ag9 : agT Try.prog 9 = some (false, 1) := by kernel_rfl
theorem zc9 : zT Try.prog 9 = some ([.val (.string ⟨#[]⟩)], 1) := by kernel_rfl
-- 22: []bool
theorem ag22 : agT Try.prog 22 = some (false, 1) := by kernel_rfl
theorem zc22 : zT Try.prog 22 = some ([.cap0 true], 1) := by kernel_rfl
instance S22 : SlT Try.prog 22 4 1 (.bool false) := SlT.of (by kernel_rfl) (by kernel_rfl)
-- 24: api.Grid
theorem ag24 : agT Try.prog 24 = some (true, 3) := by kernel_rfl
theorem zc24 : zT Try.prog 24 = some ([I 0, I 0, .cap0 true], 3) := by kernel_rfl
theorem fo24_0 : fOff Try.prog 24 0 = some 0 := by kernel_rfl
theorem ft24_0 : fOT Try.prog 24 0 = some (0, 3) := by kernel_rfl
theorem fo24_1 : fOff Try.prog 24 1 = some 1 := by kernel_rfl
theorem ft24_1 : fOT Try.prog 24 1 = some (1, 3) := by kernel_rfl
theorem fo24_2 : fOff Try.prog 24 2 = some 2 := by kernel_rfl
theorem ft24_2 : fOT Try.prog 24 2 = some (2, 22) := by kernel_rfl
theorem fl24 : flT Try.prog 24 = some ([(0, 1), (1, 1), (2, 1)], [I 0, I 0, .cap0 true]) := by kernel_rfl
-- 25: []int
theorem ag25 : agT Try.prog 25 = some (false, 1) := by kernel_rfl
theorem zc25 : zT Try.prog 25 = some ([.cap0 true], 1) := by kernel_rfl
instance S25 : SlT Try.prog 25 3 8 (.int .i64 0) := SlT.of (by kernel_rfl) (by kernel_rfl)
-- 27: api.Errno
theorem ag27 : agT Try.prog 27 = some (false, 1) := by kernel_rfl
theorem zc27 : zT Try.prog 27 = some ([I 0], 1) := by kernel_rfl
-- 49: [][]int
theorem ag49 : agT Try.prog 49 = some (false, 1) := by kernel_rfl
theorem zc49 : zT Try.prog 49 = some ([.cap0 true], 1) := by kernel_rfl
instance S49 : SlT Try.prog 49 25 24 (.slice none 0 0) := SlT.of (by kernel_rfl) (by kernel_rfl)
-- 51: hang.order
theorem ag51 : agT Try.prog 51 = some (true, 2) := by kernel_rfl
theorem zc51 : zT Try.prog 51 = some ([.cap0 true, .cap0 true], 2) := by kernel_rfl
theorem fo51_0 : fOff Try.prog 51 0 = some 0 := by kernel_rfl
theorem ft51_0 : fOT Try.prog 51 0 = some (0, 49) := by kernel_rfl
theorem fo51_1 : fOff Try.prog 51 1 = some 1 := by kernel_rfl
theorem ft51_1 : fOT Try.prog 51 1 = some (1, 49) := by kernel_rfl
theorem fl51 : flT Try.prog 51 = some ([(0, 1), (1, 1)], [.cap0 true, .cap0 true]) := by kernel_rfl
-- 55: func(int) bool
theorem ag55 : agT Try.prog 55 = some (false, 1) := by kernel_rfl
theorem zc55 : zT Try.prog 55 = some ([.val .nilFunc], 1) := by kernel_rfl
-- 67: iter.Seq[int]
theorem ag67 : agT Try.prog 67 = some (false, 1) := by kernel_rfl
theorem zc67 : zT Try.prog 67 = some ([.val .nilFunc], 1) := by kernel_rfl
-- 74: uint
theorem ag74 : agT Try.prog 74 = some (false, 1) := by kernel_rfl
theorem zc74 : zT Try.prog 74 = some ([.val (.int .u64 0)], 1) := by kernel_rfl
-- 82: slices.sortedHint
theorem ag82 : agT Try.prog 82 = some (false, 1) := by kernel_rfl
theorem zc82 : zT Try.prog 82 = some ([I 0], 1) := by kernel_rfl
-- 91: uint64
theorem ag91 : agT Try.prog 91 = some (false, 1) := by kernel_rfl
theorem zc91 : zT Try.prog 91 = some ([.val (.int .u64 0)], 1) := by kernel_rfl
-- 96: slices.xorshift
theorem ag96 : agT Try.prog 96 = some (false, 1) := by kernel_rfl
theorem zc96 : zT Try.prog 96 = some ([.val (.int .u64 0)], 1) := by kernel_rfl
-- 100: *int
theorem ag100 : agT Try.prog 100 = some (false, 1) := by kernel_rfl
theorem zc100 : zT Try.prog 100 = some ([.val (.pointer none)], 1) := by kernel_rfl
-- 102: *slices.xorshift
theorem ag102 : agT Try.prog 102 = some (false, 1) := by kernel_rfl
theorem zc102 : zT Try.prog 102 = some ([.val (.pointer none)], 1) := by kernel_rfl

theorem FX : type_of% @ag3 ∧ type_of% @zc3 ∧ type_of% @ag4 ∧ type_of% @zc4 ∧ type_of% @ag9 ∧ type_of% @zc9 ∧ type_of% @ag22 ∧ type_of% @zc22 ∧ type_of% @ag24 ∧ type_of% @zc24 ∧ type_of% @fo24_0 ∧ type_of% @ft24_0 ∧ type_of% @fo24_1 ∧ type_of% @ft24_1 ∧ type_of% @fo24_2 ∧ type_of% @ft24_2 ∧ type_of% @fl24 ∧ type_of% @ag25 ∧ type_of% @zc25 ∧ type_of% @ag27 ∧ type_of% @zc27 ∧ type_of% @ag49 ∧ type_of% @zc49 ∧ type_of% @ag51 ∧ type_of% @zc51 ∧ type_of% @fo51_0 ∧ type_of% @ft51_0 ∧ type_of% @fo51_1 ∧ type_of% @ft51_1 ∧ type_of% @fl51 ∧ type_of% @ag55 ∧ type_of% @zc55 ∧ type_of% @ag67 ∧ type_of% @zc67 ∧ type_of% @ag74 ∧ type_of% @zc74 ∧ type_of% @ag82 ∧ type_of% @zc82 ∧ type_of% @ag91 ∧ type_of% @zc91 ∧ type_of% @ag96 ∧ type_of% @zc96 ∧ type_of% @ag100 ∧ type_of% @zc100 ∧ type_of% @ag102 ∧ type_of% @zc102 :=
  ⟨@ag3, @zc3, @ag4, @zc4, @ag9, @zc9, @ag22, @zc22, @ag24, @zc24, @fo24_0, @ft24_0, @fo24_1, @ft24_1, @fo24_2, @ft24_2, @fl24, @ag25, @zc25, @ag27, @zc27, @ag49, @zc49, @ag51, @zc51, @fo51_0, @ft51_0, @fo51_1, @ft51_1, @fl51, @ag55, @zc55, @ag67, @zc67, @ag74, @zc74, @ag82, @zc82, @ag91, @zc91, @ag96, @zc96, @ag100, @zc100, @ag102, @zc102⟩
end Go.Proofs.Ytefhmecaoefpbaa
