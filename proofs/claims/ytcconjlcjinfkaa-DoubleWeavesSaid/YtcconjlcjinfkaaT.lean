/- Closed facts on the types. -/
import Derived.Test.YtcconjlcjinfkaaProg
import Derived.Test.YtcconjlcjinfkaaBw2
namespace Go.Proofs.Ytcconjlcjinfkaa
open Go Go.Proofs Go.AW
theorem follows : Try.prog.follows .mixedOrders = true := by kernel_rfl
-- 2: int64
theorem ag2 : agT Try.prog 2 = some (false, 1) := by kernel_rfl
theorem zc2 : zT Try.prog 2 = some ([I 0], 1) := by kernel_rfl
-- 3: int
theorem ag3 : agT Try.prog 3 = some (false, 1) := by kernel_rfl
theorem zc3 : zT Try.prog 3 = some ([I 0], 1) := by kernel_rfl
-- 4: bool
theorem ag4 : agT Try.prog 4 = some (false, 1) := by kernel_rfl
theorem zc4 : zT Try.prog 4 = some ([B false], 1) := by kernel_rfl
instance bo4 : BoT Try.prog 4 := ⟨by kernel_rfl⟩
-- 9: string
theorem ag9 : agT Try.prog 9 = some (false, 1) := by kernel_rfl
theorem zc9 : zT Try.prog 9 = some ([.val (.string ⟨#[]⟩)], 1) := by kernel_rfl
-- 22: []bool
theorem ag22 : agT Try.prog 22 = some (false, 1) := by kernel_rfl
theorem zc22 : zT Try.prog 22 = some ([.cap0 true], 1) := by kernel_rfl
instance S22 : SlT Try.prog 22 4 1 (.bool false) := SlT.of (by kernel_rfl) (by kernel_rfl)
-- 24: api.Grid
theorem ag24 : agT Try.prog 24 = some (true, 3) := by kernel_rfl
theorem zc24 : zT Try.prog 24 = some ([I 0, I 0, .cap0 true], 3) := by kernel_rfl
theorem fo24_0 : fOff Try.prog 24 0 = some 0 := by kernel_rfl
theorem ft24_0 : fOT Try.prog 24 0 = some (0, 3) := by kernel_rfl
theorem fo24_1 : fOff Try.prog 24 1 = some 1 := by kernel_rfl
theorem ft24_1 : fOT Try.prog 24 1 = some (1, 3) := by kernel_rfl
theorem fo24_2 : fOff Try.prog 24 2 = some 2 := by kernel_rfl
theorem ft24_2 : fOT Try.prog 24 2 = some (2, 22) := by kernel_rfl
theorem fl24 : flT Try.prog 24 = some ([(0, 1), (1, 1), (2, 1)], [I 0, I 0, .cap0 true]) := by kernel_rfl
-- 27: api.Errno
theorem ag27 : agT Try.prog 27 = some (false, 1) := by kernel_rfl
theorem zc27 : zT Try.prog 27 = some ([I 0], 1) := by kernel_rfl
-- 48: [2]int
theorem ag48 : agT Try.prog 48 = some (true, 2) := by kernel_rfl
theorem zc48 : zT Try.prog 48 = some ([I 0, I 0], 2) := by kernel_rfl
instance nc48 : NumT Try.prog 48 2 := ⟨by kernel_rfl⟩
theorem fl48 : flT Try.prog 48 = some ([(0, 1), (1, 1)], [I 0, I 0]) := by kernel_rfl
-- 52: []api.Grid
theorem ag52 : agT Try.prog 52 = some (false, 1) := by kernel_rfl
theorem zc52 : zT Try.prog 52 = some ([.cap0 true], 1) := by kernel_rfl
instance SM52 : SlM Try.prog 52 3 := ⟨by kernel_rfl⟩
instance LT52_3 : LitT Try.prog 52 3 [(0, 3), (3, 3), (6, 3)] [I 0, I 0, .cap0 true, I 0, I 0, .cap0 true, I 0, I 0, .cap0 true] := ⟨by kernel_rfl⟩
instance LT52_1 : LitT Try.prog 52 1 [(0, 3)] [I 0, I 0, .cap0 true] := ⟨by kernel_rfl⟩

theorem FX : type_of% @ag2 ∧ type_of% @zc2 ∧ type_of% @ag3 ∧ type_of% @zc3 ∧ type_of% @ag4 ∧ type_of% @zc4 ∧ type_of% @ag9 ∧ type_of% @zc9 ∧ type_of% @ag22 ∧ type_of% @zc22 ∧ type_of% @ag24 ∧ type_of% @zc24 ∧ type_of% @fo24_0 ∧ type_of% @ft24_0 ∧ type_of% @fo24_1 ∧ type_of% @ft24_1 ∧ type_of% @fo24_2 ∧ type_of% @ft24_2 ∧ type_of% @fl24 ∧ type_of% @ag27 ∧ type_of% @zc27 ∧ type_of% @ag48 ∧ type_of% @zc48 ∧ type_of% @fl48 ∧ type_of% @ag52 ∧ type_of% @zc52 :=
  ⟨@ag2, @zc2, @ag3, @zc3, @ag4, @zc4, @ag9, @zc9, @ag22, @zc22, @ag24, @zc24, @fo24_0, @ft24_0, @fo24_1, @ft24_1, @fo24_2, @ft24_2, @fl24, @ag27, @zc27, @ag48, @zc48, @fl48, @ag52, @zc52⟩
end Go.Proofs.Ytcconjlcjinfkaa
