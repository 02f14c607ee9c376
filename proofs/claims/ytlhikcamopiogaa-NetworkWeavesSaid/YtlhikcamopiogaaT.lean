/- Closed facts on the types. -/
import Derived.Test.YtlhikcamopiogaaProg
import Derived.Test.YtlhikcamopiogaaBw3
namespace Go.Proofs.Ytlhikcamopiogaa
open Go Go.Proofs Go.AW
theorem follows : Try.prog.follows .mixedOrders = true := by kernel_rfl
-- 3: int
theorem ag3 : agT Try.prog 3 = some (false, 1) := by kernel_rfl
theorem zc3 : zT Try.prog 3 = some ([I 0], 1) := by kernel_rfl
-- 4: bool
theorem ag4 : agT Try.prog 4 = some (false, 1) := by kernel_rfl
theorem zc4 : zT Try.prog 4 = some ([B false], 1) := by kernel_rfl
instance bo4 : BoT Try.prog 4 := ⟨by kernel_rfl⟩
-- 9: string
theorem ag9 : agT Try.prog 9 = some (false, 1) := by kernel_rfl
theorem zc9 : zT Try.prog 9 = some ([.val (.string ⟨#[]⟩)], 1) := by kernel_rfl
-- 22: []int
theorem ag22 : agT Try.prog 22 = some (false, 1) := by kernel_rfl
theorem zc22 : zT Try.prog 22 = some ([.cap0 true], 1) := by kernel_rfl
instance S22 : SlT Try.prog 22 3 8 (.int .i64 0) := SlT.of (by kernel_rfl) (by kernel_rfl)
-- 24: api.Net
theorem ag24 : agT Try.prog 24 = some (true, 3) := by kernel_rfl
theorem zc24 : zT Try.prog 24 = some ([I 0, I 0, .cap0 true], 3) := by kernel_rfl
theorem fo24_0 : fOff Try.prog 24 0 = some 0 := by kernel_rfl
theorem ft24_0 : fOT Try.prog 24 0 = some (0, 3) := by kernel_rfl
theorem fo24_1 : fOff Try.prog 24 1 = some 1 := by kernel_rfl
theorem ft24_1 : fOT Try.prog 24 1 = some (1, 3) := by kernel_rfl
theorem fo24_2 : fOff Try.prog 24 2 = some 2 := by kernel_rfl
theorem ft24_2 : fOT Try.prog 24 2 = some (2, 22) := by kernel_rfl
theorem fl24 : flT Try.prog 24 = some ([(0, 1), (1, 1), (2, 1)], [I 0, I 0, .cap0 true]) := by kernel_rfl
-- 27: api.Errno
theorem ag27 : agT Try.prog 27 = some (false, 1) := by kernel_rfl
theorem zc27 : zT Try.prog 27 = some ([I 0], 1) := by kernel_rfl
-- 41: []api.Point
theorem ag41 : agT Try.prog 41 = some (false, 1) := by kernel_rfl
theorem zc41 : zT Try.prog 41 = some ([.cap0 true], 1) := by kernel_rfl
instance SM41 : SlM Try.prog 41 2 := ⟨by kernel_rfl⟩
instance LT41_1 : LitT Try.prog 41 1 [(0, 2)] [I 0, I 0] := ⟨by kernel_rfl⟩
instance LT41_2 : LitT Try.prog 41 2 [(0, 2), (2, 2)] [I 0, I 0, I 0, I 0] := ⟨by kernel_rfl⟩
-- 51: api.Point
theorem ag51 : agT Try.prog 51 = some (true, 2) := by kernel_rfl
theorem zc51 : zT Try.prog 51 = some ([I 0, I 0], 2) := by kernel_rfl
instance nc51 : NumT Try.prog 51 2 := ⟨by kernel_rfl⟩
theorem fo51_0 : fOff Try.prog 51 0 = some 0 := by kernel_rfl
theorem ft51_0 : fOT Try.prog 51 0 = some (0, 3) := by kernel_rfl
theorem fo51_1 : fOff Try.prog 51 1 = some 1 := by kernel_rfl
theorem ft51_1 : fOT Try.prog 51 1 = some (1, 3) := by kernel_rfl
theorem fl51 : flT Try.prog 51 = some ([(0, 1), (1, 1)], [I 0, I 0]) := by kernel_rfl
-- 54: []bool
theorem ag54 : agT Try.prog 54 = some (false, 1) := by kernel_rfl
theorem zc54 : zT Try.prog 54 = some ([.cap0 true], 1) := by kernel_rfl
instance S54 : SlT Try.prog 54 4 1 (.bool false) := SlT.of (by kernel_rfl) (by kernel_rfl)
-- 56: api.Grid
theorem ag56 : agT Try.prog 56 = some (true, 3) := by kernel_rfl
theorem zc56 : zT Try.prog 56 = some ([I 0, I 0, .cap0 true], 3) := by kernel_rfl
theorem fo56_0 : fOff Try.prog 56 0 = some 0 := by kernel_rfl
theorem ft56_0 : fOT Try.prog 56 0 = some (0, 3) := by kernel_rfl
theorem fo56_1 : fOff Try.prog 56 1 = some 1 := by kernel_rfl
theorem ft56_1 : fOT Try.prog 56 1 = some (1, 3) := by kernel_rfl
theorem fo56_2 : fOff Try.prog 56 2 = some 2 := by kernel_rfl
theorem ft56_2 : fOT Try.prog 56 2 = some (2, 54) := by kernel_rfl
theorem fl56 : flT Try.prog 56 = some ([(0, 1), (1, 1), (2, 1)], [I 0, I 0, .cap0 true]) := by kernel_rfl
-- 62: api.Draft
theorem ag62 : agT Try.prog 62 = some (true, 7) := by kernel_rfl
theorem zc62 : zT Try.prog 62 = some ([I 0, I 0, .cap0 true, .cap0 true, I 0, I 0, .cap0 true], 7) := by kernel_rfl
theorem fo62_0 : fOff Try.prog 62 0 = some 0 := by kernel_rfl
theorem ft62_0 : fOT Try.prog 62 0 = some (0, 3) := by kernel_rfl
theorem fo62_1 : fOff Try.prog 62 1 = some 1 := by kernel_rfl
theorem ft62_1 : fOT Try.prog 62 1 = some (1, 3) := by kernel_rfl
theorem fo62_2 : fOff Try.prog 62 2 = some 2 := by kernel_rfl
theorem ft62_2 : fOT Try.prog 62 2 = some (2, 22) := by kernel_rfl
theorem fo62_3 : fOff Try.prog 62 3 = some 3 := by kernel_rfl
theorem ft62_3 : fOT Try.prog 62 3 = some (3, 22) := by kernel_rfl
theorem fo62_4 : fOff Try.prog 62 4 = some 4 := by kernel_rfl
theorem ft62_4 : fOT Try.prog 62 4 = some (4, 56) := by kernel_rfl
theorem fl62 : flT Try.prog 62 = some ([(0, 1), (1, 1), (2, 1), (3, 1), (4, 3)], [I 0, I 0, .cap0 true, .cap0 true, I 0, I 0, .cap0 true]) := by kernel_rfl
-- 65: []api.Net
theorem ag65 : agT Try.prog 65 = some (false, 1) := by kernel_rfl
theorem zc65 : zT Try.prog 65 = some ([.cap0 true], 1) := by kernel_rfl
instance SM65 : SlM Try.prog 65 3 := ⟨by kernel_rfl⟩
instance LT65_9 : LitT Try.prog 65 9 [(0, 3), (3, 3), (6, 3), (9, 3), (12, 3), (15, 3), (18, 3), (21, 3), (24, 3)] [I 0, I 0, .cap0 true, I 0, I 0, .cap0 true, I 0, I 0, .cap0 true, I 0, I 0, .cap0 true, I 0, I 0, .cap0 true, I 0, I 0, .cap0 true, I 0, I 0, .cap0 true, I 0, I 0, .cap0 true, I 0, I 0, .cap0 true] := ⟨by kernel_rfl⟩
-- 69: func(func(int) bool)
theorem ag69 : agT Try.prog 69 = some (false, 1) := by kernel_rfl
theorem zc69 : zT Try.prog 69 = some ([.val .nilFunc], 1) := by kernel_rfl
-- 71: func(int) int
theorem ag71 : agT Try.prog 71 = some (false, 1) := by kernel_rfl
theorem zc71 : zT Try.prog 71 = some ([.val .nilFunc], 1) := by kernel_rfl
-- 79: *api.Draft
theorem ag79 : agT Try.prog 79 = some (false, 1) := by kernel_rfl
theorem zc79 : zT Try.prog 79 = some ([.val (.pointer none)], 1) := by kernel_rfl
-- 80: func(int, int) bool
theorem ag80 : agT Try.prog 80 = some (false, 1) := by kernel_rfl
theorem zc80 : zT Try.prog 80 = some ([.val .nilFunc], 1) := by kernel_rfl
-- 81: func(int) bool
theorem ag81 : agT Try.prog 81 = some (false, 1) := by kernel_rfl
theorem zc81 : zT Try.prog 81 = some ([.val .nilFunc], 1) := by kernel_rfl
-- 83: iter.Seq[int]
theorem ag83 : agT Try.prog 83 = some (false, 1) := by kernel_rfl
theorem zc83 : zT Try.prog 83 = some ([.val .nilFunc], 1) := by kernel_rfl
-- 87: [][]int
theorem ag87 : agT Try.prog 87 = some (false, 1) := by kernel_rfl
theorem zc87 : zT Try.prog 87 = some ([.cap0 true], 1) := by kernel_rfl
instance S87 : SlT Try.prog 87 22 24 (.slice none 0 0) := SlT.of (by kernel_rfl) (by kernel_rfl)

theorem FX : type_of% @ag3 ∧ type_of% @zc3 ∧ type_of% @ag4 ∧ type_of% @zc4 ∧ type_of% @ag9 ∧ type_of% @zc9 ∧ type_of% @ag22 ∧ type_of% @zc22 ∧ type_of% @ag24 ∧ type_of% @zc24 ∧ type_of% @fo24_0 ∧ type_of% @ft24_0 ∧ type_of% @fo24_1 ∧ type_of% @ft24_1 ∧ type_of% @fo24_2 ∧ type_of% @ft24_2 ∧ type_of% @fl24 ∧ type_of% @ag27 ∧ type_of% @zc27 ∧ type_of% @ag41 ∧ type_of% @zc41 ∧ type_of% @ag51 ∧ type_of% @zc51 ∧ type_of% @fo51_0 ∧ type_of% @ft51_0 ∧ type_of% @fo51_1 ∧ type_of% @ft51_1 ∧ type_of% @fl51 ∧ type_of% @ag54 ∧ type_of% @zc54 ∧ type_of% @ag56 ∧ type_of% @zc56 ∧ type_of% @fo56_0 ∧ type_of% @ft56_0 ∧ type_of% @fo56_1 ∧ type_of% @ft56_1 ∧ type_of% @fo56_2 ∧ type_of% @ft56_2 ∧ type_of% @fl56 ∧ type_of% @ag62 ∧ type_of% @zc62 ∧ type_of% @fo62_0 ∧ type_of% @ft62_0 ∧ type_of% @fo62_1 ∧ type_of% @ft62_1 ∧ type_of% @fo62_2 ∧ type_of% @ft62_2 ∧ type_of% @fo62_3 ∧ type_of% @ft62_3 ∧ type_of% @fo62_4 ∧ type_of% @ft62_4 ∧ type_of% @fl62 ∧ type_of% @ag65 ∧ type_of% @zc65 ∧ type_of% @ag69 ∧ type_of% @zc69 ∧ type_of% @ag71 ∧ type_of% @zc71 ∧ type_of% @ag79 ∧ type_of% @zc79 ∧ type_of% @ag80 ∧ type_of% @zc80 ∧ type_of% @ag81 ∧ type_of% @zc81 ∧ type_of% @ag83 ∧ type_of% @zc83 ∧ type_of% @ag87 ∧ type_of% @zc87 :=
  ⟨@ag3, @zc3, @ag4, @zc4, @ag9, @zc9, @ag22, @zc22, @ag24, @zc24, @fo24_0, @ft24_0, @fo24_1, @ft24_1, @fo24_2, @ft24_2, @fl24, @ag27, @zc27, @ag41, @zc41, @ag51, @zc51, @fo51_0, @ft51_0, @fo51_1, @ft51_1, @fl51, @ag54, @zc54, @ag56, @zc56, @fo56_0, @ft56_0, @fo56_1, @ft56_1, @fo56_2, @ft56_2, @fl56, @ag62, @zc62, @fo62_0, @ft62_0, @fo62_1, @ft62_1, @fo62_2, @ft62_2, @fo62_3, @ft62_3, @fo62_4, @ft62_4, @fl62, @ag65, @zc65, @ag69, @zc69, @ag71, @zc71, @ag79, @zc79, @ag80, @zc80, @ag81, @zc81, @ag83, @zc83, @ag87, @zc87⟩
end Go.Proofs.Ytlhikcamopiogaa
