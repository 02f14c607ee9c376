/- Closed facts on the types. -/
import Derived.Test.YtolacobehmcdlaaProg
import Derived.Test.YtolacobehmcdlaaBw2
namespace Go.Proofs.Ytolacobehmcdlaa
open Go Go.Proofs Go.AW
theorem follows : Try.prog.follows .mixedOrders = true := by kernel_rfl
-- 3: int
theorem ag3 : agT Try.prog 3 = some (false, 1) := by kernel_rfl
theorem zc3 : zT Try.prog 3 = some ([I 0], 1) := by kernel_rfl
-- 4: bool
theorem ag4 : agT Try.prog 4 = some (false, 1) := by kernel_rfl
theorem zc4 : zT Try.prog 4 = some ([B false], 1) := by kernel_rfl
instance bo4 : BoT Try.prog 4 := ⟨by kernel_rfl⟩
-- 9: string
theorem ag9 : agT Try.prog 9 = some (false, 1) := by kernel_rfl
theorem zc9 : zT Try.prog 9 = some ([.val (.string ⟨#[]⟩)], 1) := by kernel_rfl
-- 22: []bool
theorem ag22 : agT Try.prog 22 = some (false, 1) := by kernel_rfl
theorem zc22 : zT Try.prog 22 = some ([.cap0 true], 1) := by kernel_rfl
instance S22 : SlT Try.prog 22 4 1 (.bool false) := SlT.of (by kernel_rfl) (by kernel_rfl)
-- 24: api.Grid
theorem ag24 : agT Try.prog 24 = some (true, 3) := by kernel_rfl
theorem zc24 : zT Try.prog 24 = some ([I 0, I 0, .cap0 true], 3) := by kernel_rfl
theorem fo24_0 : fOff Try.prog 24 0 = some 0 := by kernel_rfl
theorem ft24_0 : fOT Try.prog 24 0 = some (0, 3) := by kernel_rfl
theorem fo24_1 : fOff Try.prog 24 1 = some 1 := by kernel_rfl
theorem ft24_1 : fOT Try.prog 24 1 = some (1, 3) := by kernel_rfl
theorem fo24_2 : fOff Try.prog 24 2 = some 2 := by kernel_rfl
theorem ft24_2 : fOT Try.prog 24 2 = some (2, 22) := by kernel_rfl
theorem fl24 : flT Try.prog 24 = some ([(0, 1), (1, 1), (2, 1)], [I 0, I 0, .cap0 true]) := by kernel_rfl
-- 25: []int
theorem ag25 : agT Try.prog 25 = some (false, 1) := by kernel_rfl
theorem zc25 : zT Try.prog 25 = some ([.cap0 true], 1) := by kernel_rfl
instance S25 : SlT Try.prog 25 3 8 (.int .i64 0) := SlT.of (by kernel_rfl) (by kernel_rfl)
-- 27: api.Errno
theorem ag27 : agT Try.prog 27 = some (false, 1) := by kernel_rfl
theorem zc27 : zT Try.prog 27 = some ([I 0], 1) := by kernel_rfl
-- 37: api.Layer
theorem ag37 : agT Try.prog 37 = some (true, 2) := by kernel_rfl
theorem zc37 : zT Try.prog 37 = some ([.cap0 true, .cap0 true], 2) := by kernel_rfl
theorem fo37_0 : fOff Try.prog 37 0 = some 0 := by kernel_rfl
theorem ft37_0 : fOT Try.prog 37 0 = some (0, 25) := by kernel_rfl
theorem fo37_1 : fOff Try.prog 37 1 = some 1 := by kernel_rfl
theorem ft37_1 : fOT Try.prog 37 1 = some (1, 25) := by kernel_rfl
theorem fl37 : flT Try.prog 37 = some ([(0, 1), (1, 1)], [.cap0 true, .cap0 true]) := by kernel_rfl

theorem FX : type_of% @ag3 ∧ type_of% @zc3 ∧ type_of% @ag4 ∧ type_of% @zc4 ∧ type_of% @ag9 ∧ type_of% @zc9 ∧ type_of% @ag22 ∧ type_of% @zc22 ∧ type_of% @ag24 ∧ type_of% @zc24 ∧ type_of% @fo24_0 ∧ type_of% @ft24_0 ∧ type_of% @fo24_1 ∧ type_of% @ft24_1 ∧ type_of% @fo24_2 ∧ type_of% @ft24_2 ∧ type_of% @fl24 ∧ type_of% @ag25 ∧ type_of% @zc25 ∧ type_of% @ag27 ∧ type_of% @zc27 ∧ type_of% @ag37 ∧ type_of% @zc37 ∧ type_of% @fo37_0 ∧ type_of% @ft37_0 ∧ type_of% @fo37_1 ∧ type_of% @ft37_1 ∧ type_of% @fl37 :=
  ⟨@ag3, @zc3, @ag4, @zc4, @ag9, @zc9, @ag22, @zc22, @ag24, @zc24, @fo24_0, @ft24_0, @fo24_1, @ft24_1, @fo24_2, @ft24_2, @fl24, @ag25, @zc25, @ag27, @zc27, @ag37, @zc37, @fo37_0, @ft37_0, @fo37_1, @ft37_1, @fl37⟩
end Go.Proofs.Ytolacobehmcdlaa
