/- Closed facts on the types. -/
import Derived.Test.YtoliobpligbbjaaProg
import Derived.Test.YtoliobpligbbjaaBw3
namespace Go.Proofs.Ytoliobpligbbjaa
open Go Go.Proofs Go.AW
theorem follows : Try.prog.follows .mixedOrders = true := by kernel_rfl
-- 3: int
theorem ag3 : agT Try.prog 3 = some (false, 1) := by kernel_rfl
theorem zc3 : zT Try.prog 3 = some ([I 0], 1) := by kernel_rfl
-- 4: bool
theorem ag4 : agT Try.prog 4 = some (false, 1) := by kernel_rfl
theorem zc4 : zT Try.prog 4 = some ([B false], 1) := by kernel_rfl
instance bo4 : BoT Try.prog 4 := ⟨by kernel_rfl⟩
-- 5: uint8
theorem ag5 : agT Try.prog 5 = some (false, 1) := by kernel_rfl
theorem zc5 : zT Try.prog 5 = some ([.val (.int .u8 0)], 1) := by kernel_rfl
-- 9: string
theorem ag9 : agT Try.prog 9 = some (false, 1) := by kernel_rfl
theorem zc9 : zT Try.prog 9 = some ([.val (.string ⟨#[]⟩)], 1) := by kernel_rfl
-- 22: []int
theorem ag22 : agT Try.prog 22 = some (false, 1) := by kernel_rfl
theorem zc22 : zT Try.prog 22 = some ([.cap0 true], 1) := by kernel_rfl
instance S22 : SlT Try.prog 22 3 8 (.int .i64 0) := SlT.of (by kernel_rfl) (by kernel_rfl)
-- 23: []bool
theorem ag23 : agT Try.prog 23 = some (false, 1) := by kernel_rfl
theorem zc23 : zT Try.prog 23 = some ([.cap0 true], 1) := by kernel_rfl
instance S23 : SlT Try.prog 23 4 1 (.bool false) := SlT.of (by kernel_rfl) (by kernel_rfl)
-- 25: api.Grid
theorem ag25 : agT Try.prog 25 = some (true, 3) := by kernel_rfl
theorem zc25 : zT Try.prog 25 = some ([I 0, I 0, .cap0 true], 3) := by kernel_rfl
theorem fo25_0 : fOff Try.prog 25 0 = some 0 := by kernel_rfl
theorem ft25_0 : fOT Try.prog 25 0 = some (0, 3) := by kernel_rfl
theorem fo25_1 : fOff Try.prog 25 1 = some 1 := by kernel_rfl
theorem ft25_1 : fOT Try.prog 25 1 = some (1, 3) := by kernel_rfl
theorem fo25_2 : fOff Try.prog 25 2 = some 2 := by kernel_rfl
theorem ft25_2 : fOT Try.prog 25 2 = some (2, 23) := by kernel_rfl
theorem fl25 : flT Try.prog 25 = some ([(0, 1), (1, 1), (2, 1)], [I 0, I 0, .cap0 true]) := by kernel_rfl
-- 27: api.Draft
theorem ag27 : agT Try.prog 27 = some (true, 7) := by kernel_rfl
theorem zc27 : zT Try.prog 27 = some ([I 0, I 0, .cap0 true, .cap0 true, I 0, I 0, .cap0 true], 7) := by kernel_rfl
theorem fo27_0 : fOff Try.prog 27 0 = some 0 := by kernel_rfl
theorem ft27_0 : fOT Try.prog 27 0 = some (0, 3) := by kernel_rfl
theorem fo27_1 : fOff Try.prog 27 1 = some 1 := by kernel_rfl
theorem ft27_1 : fOT Try.prog 27 1 = some (1, 3) := by kernel_rfl
theorem fo27_2 : fOff Try.prog 27 2 = some 2 := by kernel_rfl
theorem ft27_2 : fOT Try.prog 27 2 = some (2, 22) := by kernel_rfl
theorem fo27_3 : fOff Try.prog 27 3 = some 3 := by kernel_rfl
theorem ft27_3 : fOT Try.prog 27 3 = some (3, 22) := by kernel_rfl
theorem fo27_4 : fOff Try.prog 27 4 = some 4 := by kernel_rfl
theorem ft27_4 : fOT Try.prog 27 4 = some (4, 25) := by kernel_rfl
theorem fl27 : flT Try.prog 27 = some ([(0, 1), (1, 1), (2, 1), (3, 1), (4, 3)], [I 0, I 0, .cap0 true, .cap0 true, I 0, I 0, .cap0 true]) := by kernel_rfl
-- 30: api.Errno
theorem ag30 : agT Try.prog 30 = some (false, 1) := by kernel_rfl
theorem zc30 : zT Try.prog 30 = some ([I 0], 1) := by kernel_rfl
-- 51: *api.Draft
theorem ag51 : agT Try.prog 51 = some (false, 1) := by kernel_rfl
theorem zc51 : zT Try.prog 51 = some ([.val (.pointer none)], 1) := by kernel_rfl
-- 52: func(int, int) bool
theorem ag52 : agT Try.prog 52 = some (false, 1) := by kernel_rfl
theorem zc52 : zT Try.prog 52 = some ([.val .nilFunc], 1) := by kernel_rfl
-- 72: iter.Seq[int]
theorem ag72 : agT Try.prog 72 = some (false, 1) := by kernel_rfl
theorem zc72 : zT Try.prog 72 = some ([.val .nilFunc], 1) := by kernel_rfl
-- 77: *strings.Builder
theorem ag77 : agT Try.prog 77 = some (false, 1) := by kernel_rfl
theorem zc77 : zT Try.prog 77 = some ([.val (.pointer none)], 1) := by kernel_rfl
-- 78: []uint8
theorem ag78 : agT Try.prog 78 = some (false, 1) := by kernel_rfl
theorem zc78 : zT Try.prog 78 = some ([.cap0 true], 1) := by kernel_rfl
instance S78 : SlT Try.prog 78 5 1 (.int .u8 0) := SlT.of (by kernel_rfl) (by kernel_rfl)
-- 80: strings.Builder
theorem ag80 : agT Try.prog 80 = some (true, 2) := by kernel_rfl
theorem zc80 : zT Try.prog 80 = some ([.val (.pointer none), .cap0 true], 2) := by kernel_rfl
theorem fo80_0 : fOff Try.prog 80 0 = some 0 := by kernel_rfl
theorem ft80_0 : fOT Try.prog 80 0 = some (0, 77) := by kernel_rfl
theorem fo80_1 : fOff Try.prog 80 1 = some 1 := by kernel_rfl
theorem ft80_1 : fOT Try.prog 80 1 = some (1, 78) := by kernel_rfl
theorem fl80 : flT Try.prog 80 = some ([(0, 1), (1, 1)], [.val (.pointer none), .cap0 true]) := by kernel_rfl
-- 82: error
theorem ag82 : agT Try.prog 82 = some (false, 1) := by kernel_rfl
theorem zc82 : zT Try.prog 82 = some ([.val .nilIface], 1) := by kernel_rfl
-- 87: func(int) bool
theorem ag87 : agT Try.prog 87 = some (false, 1) := by kernel_rfl
theorem zc87 : zT Try.prog 87 = some ([.val .nilFunc], 1) := by kernel_rfl
-- 88: uint
theorem ag88 : agT Try.prog 88 = some (false, 1) := by kernel_rfl
theorem zc88 : zT Try.prog 88 = some ([.val (.int .u64 0)], 1) := by kernel_rfl
-- 91: *uint8
theorem ag91 : agT Try.prog 91 = some (false, 1) := by kernel_rfl
theorem zc91 : zT Try.prog 91 = some ([.val (.pointer none)], 1) := by kernel_rfl
-- 98: uint64
theorem ag98 : agT Try.prog 98 = some (false, 1) := by kernel_rfl
theorem zc98 : zT Try.prog 98 = some ([.val (.int .u64 0)], 1) := by kernel_rfl
-- 101: unsafe.Pointer
theorem ag101 : agT Try.prog 101 = some (false, 1) := by kernel_rfl
theorem zc101 : zT Try.prog 101 = some ([.val (.pointer none)], 1) := by kernel_rfl
-- 104: slices.sortedHint
theorem ag104 : agT Try.prog 104 = some (false, 1) := by kernel_rfl
theorem zc104 : zT Try.prog 104 = some ([I 0], 1) := by kernel_rfl
-- 112: slices.xorshift
theorem ag112 : agT Try.prog 112 = some (false, 1) := by kernel_rfl
theorem zc112 : zT Try.prog 112 = some ([.val (.int .u64 0)], 1) := by kernel_rfl
-- 116: *int
theorem ag116 : agT Try.prog 116 = some (false, 1) := by kernel_rfl
theorem zc116 : zT Try.prog 116 = some ([.val (.pointer none)], 1) := by kernel_rfl
-- 118: *slices.xorshift
theorem ag118 : agT Try.prog 118 = some (false, 1) := by kernel_rfl
theorem zc118 : zT Try.prog 118 = some ([.val (.pointer none)], 1) := by kernel_rfl

theorem FX : type_of% @ag3 ∧ type_of% @zc3 ∧ type_of% @ag4 ∧ type_of% @zc4 ∧ type_of% @ag5 ∧ type_of% @zc5 ∧ type_of% @ag9 ∧ type_of% @zc9 ∧ type_of% @ag22 ∧ type_of% @zc22 ∧ type_of% @ag23 ∧ type_of% @zc23 ∧ type_of% @ag25 ∧ type_of% @zc25 ∧ type_of% @fo25_0 ∧ type_of% @ft25_0 ∧ type_of% @fo25_1 ∧ type_of% @ft25_1 ∧ type_of% @fo25_2 ∧ type_of% @ft25_2 ∧ type_of% @fl25 ∧ type_of% @ag27 ∧ type_of% @zc27 ∧ type_of% @fo27_0 ∧ type_of% @ft27_0 ∧ type_of% @fo27_1 ∧ type_of% @ft27_1 ∧ type_of% @fo27_2 ∧ type_of% @ft27_2 ∧ type_of% @fo27_3 ∧ type_of% @ft27_3 ∧ type_of% @fo27_4 ∧ type_of% @ft27_4 ∧ type_of% @fl27 ∧ type_of% @ag30 ∧ type_of% @zc30 ∧ type_of% @ag51 ∧ type_of% @zc51 ∧ type_of% @ag52 ∧ type_of% @zc52 ∧ type_of% @ag72 ∧ type_of% @zc72 ∧ type_of% @ag77 ∧ type_of% @zc77 ∧ type_of% @ag78 ∧ type_of% @zc78 ∧ type_of% @ag80 ∧ type_of% @zc80 ∧ type_of% @fo80_0 ∧ type_of% @ft80_0 ∧ type_of% @fo80_1 ∧ type_of% @ft80_1 ∧ type_of% @fl80 ∧ type_of% @ag82 ∧ type_of% @zc82 ∧ type_of% @ag87 ∧ type_of% @zc87 ∧ type_of% @ag88 ∧ type_of% @zc88 ∧ type_of% @ag91 ∧ type_of% @zc91 ∧ type_of% @ag98 ∧ type_of% @zc98 ∧ type_of% @ag101 ∧ type_of% @zc101 ∧ type_of% @ag104 ∧ type_of% @zc104 ∧ type_of% @ag112 ∧ type_of% @zc112 ∧ type_of% @ag116 ∧ type_of% @zc116 ∧ type_of% @ag118 ∧ type_of% @zc118 :=
  ⟨@ag3, @zc3, @ag4, @zc4, @ag5, @zc5, @ag9, @zc9, @ag22, @zc22, @ag23, @zc23, @ag25, @zc25, @fo25_0, @ft25_0, @fo25_1, @ft25_1, @fo25_2, @ft25_2, @fl25, @ag27, @zc27, @fo27_0, @ft27_0, @fo27_1, @ft27_1, @fo27_2, @ft27_2, @fo27_3, @ft27_3, @fo27_4, @ft27_4, @fl27, @ag30, @zc30, @ag51, @zc51, @ag52, @zc52, @ag72, @zc72, @ag77, @zc77, @ag78, @zc78, @ag80, @zc80, @fo80_0, @ft80_0, @fo80_1, @ft80_1, @fl80, @ag82, @zc82, @ag87, @zc87, @ag88, @zc88, @ag91, @zc91, @ag98, @zc98, @ag101, @zc101, @ag104, @zc104, @ag112, @zc112, @ag116, @zc116, @ag118, @zc118⟩
end Go.Proofs.Ytoliobpligbbjaa
