/- Closed facts on the types. -/
import Derived.Test.YtgnalfajlcnngaaProg
import Derived.Test.YtgnalfajlcnngaaBw2
namespace Go.Proofs.Ytgnalfajlcnngaa
open Go Go.Proofs Go.AW
theorem follows : Try.prog.follows .mixedOrders = true := by kernel_rfl
-- 3: int
theorem ag3 : agT Try.prog 3 = some (false, 1) := by kernel_rfl
theorem zc3 : zT Try.prog 3 = some ([I 0], 1) := by kernel_rfl
-- 4: bool
theorem ag4 : agT Try.prog 4 = some (false, 1) := by kernel_rfl
theorem zc4 : zT Try.prog 4 = some ([B false], 1) := by kernel_rfl
instance bo4 : BoT Try.prog 4 := ⟨by kernel_rfl⟩
-- 5: uint8
theorem ag5 : agT Try.prog 5 = some (false, 1) := by kernel_rfl
theorem zc5 : zT Try.prog 5 = some ([.val (.int .u8 0)], 1) := by kernel_rfl
-- 9: string
theorem ag9 : agT Try.prog 9 = some (false, 1) := by kernel_rfl
theorem zc9 : zT Try.prog 9 = some ([.val (.string ⟨#[]⟩)], 1) := by kernel_rfl
-- 22: []int
theorem ag22 : agT Try.prog 22 = some (false, 1) := by kernel_rfl
theorem zc22 : zT Try.prog 22 = some ([.cap0 true], 1) := by kernel_rfl
instance S22 : SlT Try.prog 22 3 8 (.int .i64 0) := SlT.of (by kernel_rfl) (by kernel_rfl)
-- 23: []bool
theorem ag23 : agT Try.prog 23 = some (false, 1) := by kernel_rfl
theorem zc23 : zT Try.prog 23 = some ([.cap0 true], 1) := by kernel_rfl
instance S23 : SlT Try.prog 23 4 1 (.bool false) := SlT.of (by kernel_rfl) (by kernel_rfl)
-- 25: api.Grid
theorem ag25 : agT Try.prog 25 = some (true, 3) := by kernel_rfl
theorem zc25 : zT Try.prog 25 = some ([I 0, I 0, .cap0 true], 3) := by kernel_rfl
theorem fo25_0 : fOff Try.prog 25 0 = some 0 := by kernel_rfl
theorem ft25_0 : fOT Try.prog 25 0 = some (0, 3) := by kernel_rfl
theorem fo25_1 : fOff Try.prog 25 1 = some 1 := by kernel_rfl
theorem ft25_1 : fOT Try.prog 25 1 = some (1, 3) := by kernel_rfl
theorem fo25_2 : fOff Try.prog 25 2 = some 2 := by kernel_rfl
theorem ft25_2 : fOT Try.prog 25 2 = some (2, 23) := by kernel_rfl
theorem fl25 : flT Try.prog 25 = some ([(0, 1), (1, 1), (2, 1)], [I 0, I 0, .cap0 true]) := by kernel_rfl
-- 27: api.Draft
theorem ag27 : agT Try.prog 27 = some (true, 7) := by kernel_rfl
theorem zc27 : zT Try.prog 27 = some ([I 0, I 0, .cap0 true, .cap0 true, I 0, I 0, .cap0 true], 7) := by kernel_rfl
theorem fo27_0 : fOff Try.prog 27 0 = some 0 := by kernel_rfl
theorem ft27_0 : fOT Try.prog 27 0 = some (0, 3) := by kernel_rfl
theorem fo27_1 : fOff Try.prog 27 1 = some 1 := by kernel_rfl
theorem ft27_1 : fOT Try.prog 27 1 = some (1, 3) := by kernel_rfl
theorem fo27_2 : fOff Try.prog 27 2 = some 2 := by kernel_rfl
theorem ft27_2 : fOT Try.prog 27 2 = some (2, 22) := by kernel_rfl
theorem fo27_3 : fOff Try.prog 27 3 = some 3 := by kernel_rfl
theorem ft27_3 : fOT Try.prog 27 3 = some (3, 22) := by kernel_rfl
theorem fo27_4 : fOff Try.prog 27 4 = some 4 := by kernel_rfl
theorem ft27_4 : fOT Try.prog 27 4 = some (4, 25) := by kernel_rfl
theorem fl27 : flT Try.prog 27 = some ([(0, 1), (1, 1), (2, 1), (3, 1), (4, 3)], [I 0, I 0, .cap0 true, .cap0 true, I 0, I 0, .cap0 true]) := by kernel_rfl
-- 30: api.Errno
theorem ag30 : agT Try.prog 30 = some (false, 1) := by kernel_rfl
theorem zc30 : zT Try.prog 30 = some ([I 0], 1) := by kernel_rfl
-- 61: *api.Draft
theorem ag61 : agT Try.prog 61 = some (false, 1) := by kernel_rfl
theorem zc61 : zT Try.prog 61 = some ([.val (.pointer none)], 1) := by kernel_rfl
-- 62: func(int, int) bool
theorem ag62 : agT Try.prog 62 = some (false, 1) := by kernel_rfl
theorem zc62 : zT Try.prog 62 = some ([.val .nilFunc], 1) := by kernel_rfl
-- 71: func(int) []bool
theorem ag71 : agT Try.prog 71 = some (false, 1) := by kernel_rfl
theorem zc71 : zT Try.prog 71 = some ([.val .nilFunc], 1) := by kernel_rfl
-- 72: [][]bool
theorem ag72 : agT Try.prog 72 = some (false, 1) := by kernel_rfl
theorem zc72 : zT Try.prog 72 = some ([.cap0 true], 1) := by kernel_rfl
instance S72 : SlT Try.prog 72 23 24 (.slice none 0 0) := SlT.of (by kernel_rfl) (by kernel_rfl)
-- 75: func([]bool) bool
theorem ag75 : agT Try.prog 75 = some (false, 1) := by kernel_rfl
theorem zc75 : zT Try.prog 75 = some ([.val .nilFunc], 1) := by kernel_rfl
-- 87: iter.Seq[int]
theorem ag87 : agT Try.prog 87 = some (false, 1) := by kernel_rfl
theorem zc87 : zT Try.prog 87 = some ([.val .nilFunc], 1) := by kernel_rfl
-- 91: *strings.Builder
theorem ag91 : agT Try.prog 91 = some (false, 1) := by kernel_rfl
theorem zc91 : zT Try.prog 91 = some ([.val (.pointer none)], 1) := by kernel_rfl
-- 92: []uint8
theorem ag92 : agT Try.prog 92 = some (false, 1) := by kernel_rfl
theorem zc92 : zT Try.prog 92 = some ([.cap0 true], 1) := by kernel_rfl
instance S92 : SlT Try.prog 92 5 1 (.int .u8 0) := SlT.of (by kernel_rfl) (by kernel_rfl)
-- 94: strings.Builder
theorem ag94 : agT Try.prog 94 = some (true, 2) := by kernel_rfl
theorem zc94 : zT Try.prog 94 = some ([.val (.pointer none), .cap0 true], 2) := by kernel_rfl
theorem fo94_0 : fOff Try.prog 94 0 = some 0 := by kernel_rfl
theorem ft94_0 : fOT Try.prog 94 0 = some (0, 91) := by kernel_rfl
theorem fo94_1 : fOff Try.prog 94 1 = some 1 := by kernel_rfl
theorem ft94_1 : fOT Try.prog 94 1 = some (1, 92) := by kernel_rfl
theorem fl94 : flT Try.prog 94 = some ([(0, 1), (1, 1)], [.val (.pointer none), .cap0 true]) := by kernel_rfl
-- 96: error
theorem ag96 : agT Try.prog 96 = some (false, 1) := by kernel_rfl
theorem zc96 : zT Try.prog 96 = some ([.val .nilIface], 1) := by kernel_rfl
-- 99: uint
theorem ag99 : agT Try.prog 99 = some (false, 1) := by kernel_rfl
theorem zc99 : zT Try.prog 99 = some ([.val (.int .u64 0)], 1) := by kernel_rfl
-- 103: func(int) bool
theorem ag103 : agT Try.prog 103 = some (false, 1) := by kernel_rfl
theorem zc103 : zT Try.prog 103 = some ([.val .nilFunc], 1) := by kernel_rfl
-- 104: *uint8
theorem ag104 : agT Try.prog 104 = some (false, 1) := by kernel_rfl
theorem zc104 : zT Try.prog 104 = some ([.val (.pointer none)], 1) := by kernel_rfl
-- 108: uint64
theorem ag108 : agT Try.prog 108 = some (false, 1) := by kernel_rfl
theorem zc108 : zT Try.prog 108 = some ([.val (.int .u64 0)], 1) := by kernel_rfl
-- 114: unsafe.Pointer
theorem ag114 : agT Try.prog 114 = some (false, 1) := by kernel_rfl
theorem zc114 : zT Try.prog 114 = some ([.val (.pointer none)], 1) := by kernel_rfl
-- 117: slices.sortedHint
theorem ag117 : agT Try.prog 117 = some (false, 1) := by kernel_rfl
theorem zc117 : zT Try.prog 117 = some ([I 0], 1) := by kernel_rfl
-- 125: slices.xorshift
theorem ag125 : agT Try.prog 125 = some (false, 1) := by kernel_rfl
theorem zc125 : zT Try.prog 125 = some ([.val (.int .u64 0)], 1) := by kernel_rfl
-- 129: *int
theorem ag129 : agT Try.prog 129 = some (false, 1) := by kernel_rfl
theorem zc129 : zT Try.prog 129 = some ([.val (.pointer none)], 1) := by kernel_rfl
-- 131: *slices.xorshift
theorem ag131 : agT Try.prog 131 = some (false, 1) := by kernel_rfl
theorem zc131 : zT Try.prog 131 = some ([.val (.pointer none)], 1) := by kernel_rfl

theorem FX : type_of% @ag3 ∧ type_of% @zc3 ∧ type_of% @ag4 ∧ type_of% @zc4 ∧ type_of% @ag5 ∧ type_of% @zc5 ∧ type_of% @ag9 ∧ type_of% @zc9 ∧ type_of% @ag22 ∧ type_of% @zc22 ∧ type_of% @ag23 ∧ type_of% @zc23 ∧ type_of% @ag25 ∧ type_of% @zc25 ∧ type_of% @fo25_0 ∧ type_of% @ft25_0 ∧ type_of% @fo25_1 ∧ type_of% @ft25_1 ∧ type_of% @fo25_2 ∧ type_of% @ft25_2 ∧ type_of% @fl25 ∧ type_of% @ag27 ∧ type_of% @zc27 ∧ type_of% @fo27_0 ∧ type_of% @ft27_0 ∧ type_of% @fo27_1 ∧ type_of% @ft27_1 ∧ type_of% @fo27_2 ∧ type_of% @ft27_2 ∧ type_of% @fo27_3 ∧ type_of% @ft27_3 ∧ type_of% @fo27_4 ∧ type_of% @ft27_4 ∧ type_of% @fl27 ∧ type_of% @ag30 ∧ type_of% @zc30 ∧ type_of% @ag61 ∧ type_of% @zc61 ∧ type_of% @ag62 ∧ type_of% @zc62 ∧ type_of% @ag71 ∧ type_of% @zc71 ∧ type_of% @ag72 ∧ type_of% @zc72 ∧ type_of% @ag75 ∧ type_of% @zc75 ∧ type_of% @ag87 ∧ type_of% @zc87 ∧ type_of% @ag91 ∧ type_of% @zc91 ∧ type_of% @ag92 ∧ type_of% @zc92 ∧ type_of% @ag94 ∧ type_of% @zc94 ∧ type_of% @fo94_0 ∧ type_of% @ft94_0 ∧ type_of% @fo94_1 ∧ type_of% @ft94_1 ∧ type_of% @fl94 ∧ type_of% @ag96 ∧ type_of% @zc96 ∧ type_of% @ag99 ∧ type_of% @zc99 ∧ type_of% @ag103 ∧ type_of% @zc103 ∧ type_of% @ag104 ∧ type_of% @zc104 ∧ type_of% @ag108 ∧ type_of% @zc108 ∧ type_of% @ag114 ∧ type_of% @zc114 ∧ type_of% @ag117 ∧ type_of% @zc117 ∧ type_of% @ag125 ∧ type_of% @zc125 ∧ type_of% @ag129 ∧ type_of% @zc129 ∧ type_of% @ag131 ∧ type_of% @zc131 :=
  ⟨@ag3, @zc3, @ag4, @zc4, @ag5, @zc5, @ag9, @zc9, @ag22, @zc22, @ag23, @zc23, @ag25, @zc25, @fo25_0, @ft25_0, @fo25_1, @ft25_1, @fo25_2, @ft25_2, @fl25, @ag27, @zc27, @fo27_0, @ft27_0, @fo27_1, @ft27_1, @fo27_2, @ft27_2, @fo27_3, @ft27_3, @fo27_4, @ft27_4, @fl27, @ag30, @zc30, @ag61, @zc61, @ag62, @zc62, @ag71, @zc71, @ag72, @zc72, @ag75, @zc75, @ag87, @zc87, @ag91, @zc91, @ag92, @zc92, @ag94, @zc94, @fo94_0, @ft94_0, @fo94_1, @ft94_1, @fl94, @ag96, @zc96, @ag99, @zc99, @ag103, @zc103, @ag104, @zc104, @ag108, @zc108, @ag114, @zc114, @ag117, @zc117, @ag125, @zc125, @ag129, @zc129, @ag131, @zc131⟩
end Go.Proofs.Ytgnalfajlcnngaa
