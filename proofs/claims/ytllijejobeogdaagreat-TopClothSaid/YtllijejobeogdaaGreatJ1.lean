/- Part 1 of the proof's own texts: the contracts of functions, and what they rest on. -/
import Derived.Test.YtllijejobeogdaaGreatProg
import Derived.Test.YtllijejobeogdaaGreatBw3
import Derived.Shelf.Sort.AssemblyIn
import Derived.Shelf.Slices.CompactI
import Derived.Test.YtllijejobeogdaaGreatBw5
set_option linter.unusedVariables false
set_option linter.unusedSimpArgs false
set_option maxRecDepth 100000
namespace Go.Proofs.YtllijejobeogdaaGreat
open Go Go.Proofs Go.AW
theorem follows : Tryz.prog.follows .mixedOrders = true := by kernel_rfl
theorem ag2 : agT Tryz.prog 2 = some (false, 1) := by kernel_rfl
theorem zc2 : zT Tryz.prog 2 = some ([I 0], 1) := by kernel_rfl
theorem ag3 : agT Tryz.prog 3 = some (false, 1) := by kernel_rfl
theorem zc3 : zT Tryz.prog 3 = some ([I 0], 1) := by kernel_rfl
theorem ag4 : agT Tryz.prog 4 = some (false, 1) := by kernel_rfl
theorem zc4 : zT Tryz.prog 4 = some ([B false], 1) := by kernel_rfl
instance bo4 : BoT Tryz.prog 4 := ⟨by kernel_rfl⟩
theorem ag9 : agT Tryz.prog 9 = some (false, 1) := by kernel_rfl
theorem zc9 : zT Tryz.prog 9 = some ([.val (.string ⟨#[]⟩)], 1) := by kernel_rfl
theorem ag22 : agT Tryz.prog 22 = some (false, 1) := by kernel_rfl
theorem zc22 : zT Tryz.prog 22 = some ([.cap0 true], 1) := by kernel_rfl
instance S22 : SlT Tryz.prog 22 4 1 (.bool false) := SlT.of (by kernel_rfl) (by kernel_rfl)
theorem ag24 : agT Tryz.prog 24 = some (true, 3) := by kernel_rfl
theorem zc24 : zT Tryz.prog 24 = some ([I 0, I 0, .cap0 true], 3) := by kernel_rfl
theorem fo24_0 : fOff Tryz.prog 24 0 = some 0 := by kernel_rfl
theorem ft24_0 : fOT Tryz.prog 24 0 = some (0, 3) := by kernel_rfl
theorem fo24_1 : fOff Tryz.prog 24 1 = some 1 := by kernel_rfl
theorem ft24_1 : fOT Tryz.prog 24 1 = some (1, 3) := by kernel_rfl
theorem fo24_2 : fOff Tryz.prog 24 2 = some 2 := by kernel_rfl
theorem ft24_2 : fOT Tryz.prog 24 2 = some (2, 22) := by kernel_rfl
theorem fl24 : flT Tryz.prog 24 = some ([(0, 1), (1, 1), (2, 1)], [I 0, I 0, .cap0 true]) := by kernel_rfl
theorem ag27 : agT Tryz.prog 27 = some (false, 1) := by kernel_rfl
theorem zc27 : zT Tryz.prog 27 = some ([.val .nilFunc], 1) := by kernel_rfl
theorem ag28 : agT Tryz.prog 28 = some (false, 1) := by kernel_rfl
theorem zc28 : zT Tryz.prog 28 = some ([I 0], 1) := by kernel_rfl
theorem ag44 : agT Tryz.prog 44 = some (false, 1) := by kernel_rfl
theorem zc44 : zT Tryz.prog 44 = some ([.cap0 true], 1) := by kernel_rfl
instance SM44 : SlM Tryz.prog 44 2 := ⟨by kernel_rfl⟩
instance SW44 : SlW Tryz.prog 44 49 2 48 := ⟨by kernel_rfl⟩
instance LT44_1 : LitT Tryz.prog 44 1 [(0, 2)] ([.cap0 true, .cap0 true]) := ⟨by kernel_rfl⟩
theorem ag47 : agT Tryz.prog 47 = some (false, 1) := by kernel_rfl
theorem zc47 : zT Tryz.prog 47 = some ([.cap0 true], 1) := by kernel_rfl
instance S47 : SlT Tryz.prog 47 3 8 (.int .i64 0) := SlT.of (by kernel_rfl) (by kernel_rfl)
theorem ag49 : agT Tryz.prog 49 = some (true, 2) := by kernel_rfl
theorem zc49 : zT Tryz.prog 49 = some ([.cap0 true, .cap0 true], 2) := by kernel_rfl
theorem fo49_0 : fOff Tryz.prog 49 0 = some 0 := by kernel_rfl
theorem ft49_0 : fOT Tryz.prog 49 0 = some (0, 47) := by kernel_rfl
theorem fo49_1 : fOff Tryz.prog 49 1 = some 1 := by kernel_rfl
theorem ft49_1 : fOT Tryz.prog 49 1 = some (1, 47) := by kernel_rfl
theorem fl49 : flT Tryz.prog 49 = some ([(0, 1), (1, 1)], [.cap0 true, .cap0 true]) := by kernel_rfl
theorem ag55 : agT Tryz.prog 55 = some (true, 3) := by kernel_rfl
theorem zc55 : zT Tryz.prog 55 = some ([I 0, I 0, I 0], 3) := by kernel_rfl
instance nc55 : NumT Tryz.prog 55 3 := ⟨by kernel_rfl⟩
theorem fo55_0 : fOff Tryz.prog 55 0 = some 0 := by kernel_rfl
theorem ft55_0 : fOT Tryz.prog 55 0 = some (0, 3) := by kernel_rfl
theorem fo55_1 : fOff Tryz.prog 55 1 = some 1 := by kernel_rfl
theorem ft55_1 : fOT Tryz.prog 55 1 = some (1, 3) := by kernel_rfl
theorem fo55_2 : fOff Tryz.prog 55 2 = some 2 := by kernel_rfl
theorem ft55_2 : fOT Tryz.prog 55 2 = some (2, 3) := by kernel_rfl
theorem fl55 : flT Tryz.prog 55 = some ([(0, 1), (1, 1), (2, 1)], [I 0, I 0, I 0]) := by kernel_rfl
theorem ag66 : agT Tryz.prog 66 = some (false, 1) := by kernel_rfl
theorem zc66 : zT Tryz.prog 66 = some ([.val .nilFunc], 1) := by kernel_rfl
theorem ag71 : agT Tryz.prog 71 = some (false, 1) := by kernel_rfl
theorem zc71 : zT Tryz.prog 71 = some ([.cap0 true], 1) := by kernel_rfl
instance S71 : SlT Tryz.prog 71 47 24 (.slice none 0 0) := SlT.of (by kernel_rfl) (by kernel_rfl)
theorem ag77 : agT Tryz.prog 77 = some (false, 1) := by kernel_rfl
theorem zc77 : zT Tryz.prog 77 = some ([.cap0 true], 1) := by kernel_rfl
instance SM77 : SlM Tryz.prog 77 5 := ⟨by kernel_rfl⟩
instance SW77 : SlW Tryz.prog 77 81 5 40 := ⟨by kernel_rfl⟩
instance LT77_1 : LitT Tryz.prog 77 1 [(0, 5)] ([B false, I 0, I 0, I 0, B false]) := ⟨by kernel_rfl⟩
theorem ag81 : agT Tryz.prog 81 = some (true, 5) := by kernel_rfl
theorem zc81 : zT Tryz.prog 81 = some ([B false, I 0, I 0, I 0, B false], 5) := by kernel_rfl
instance kt81 : KT Tryz.prog 81 ([true, false, false, false, true]) := ⟨by kernel_rfl, by kernel_rfl, by kernel_rfl, by kernel_rfl⟩
theorem fo81_0 : fOff Tryz.prog 81 0 = some 0 := by kernel_rfl
theorem ft81_0 : fOT Tryz.prog 81 0 = some (0, 4) := by kernel_rfl
theorem fo81_1 : fOff Tryz.prog 81 1 = some 1 := by kernel_rfl
theorem ft81_1 : fOT Tryz.prog 81 1 = some (1, 3) := by kernel_rfl
theorem fo81_2 : fOff Tryz.prog 81 2 = some 2 := by kernel_rfl
theorem ft81_2 : fOT Tryz.prog 81 2 = some (2, 3) := by kernel_rfl
theorem fo81_3 : fOff Tryz.prog 81 3 = some 3 := by kernel_rfl
theorem ft81_3 : fOT Tryz.prog 81 3 = some (3, 3) := by kernel_rfl
theorem fo81_4 : fOff Tryz.prog 81 4 = some 4 := by kernel_rfl
theorem ft81_4 : fOT Tryz.prog 81 4 = some (4, 4) := by kernel_rfl
theorem fl81 : flT Tryz.prog 81 = some ([(0, 1), (1, 1), (2, 1), (3, 1), (4, 1)], [B false, I 0, I 0, I 0, B false]) := by kernel_rfl
theorem ag82 : agT Tryz.prog 82 = some (false, 1) := by kernel_rfl
theorem zc82 : zT Tryz.prog 82 = some ([.cap0 true], 1) := by kernel_rfl
instance SM82 : SlM Tryz.prog 82 3 := ⟨by kernel_rfl⟩
instance SW82 : SlW Tryz.prog 82 24 3 40 := ⟨by kernel_rfl⟩
instance LT82_1 : LitT Tryz.prog 82 1 [(0, 3)] ([I 0, I 0, .cap0 true]) := ⟨by kernel_rfl⟩
instance LT82_3 : LitT Tryz.prog 82 3 [(0, 3), (3, 3), (6, 3)] ([I 0, I 0] ++ [.cap0 true] ++ [I 0, I 0] ++ [.cap0 true] ++ [I 0, I 0] ++ [.cap0 true]) := ⟨by kernel_rfl⟩
instance LT82_2 : LitT Tryz.prog 82 2 [(0, 3), (3, 3)] ([I 0, I 0, .cap0 true, I 0, I 0, .cap0 true]) := ⟨by kernel_rfl⟩
theorem ag84 : agT Tryz.prog 84 = some (true, 2) := by kernel_rfl
theorem zc84 : zT Tryz.prog 84 = some ([.cap0 true, .cap0 true], 2) := by kernel_rfl
theorem fo84_0 : fOff Tryz.prog 84 0 = some 0 := by kernel_rfl
theorem ft84_0 : fOT Tryz.prog 84 0 = some (0, 71) := by kernel_rfl
theorem fo84_1 : fOff Tryz.prog 84 1 = some 1 := by kernel_rfl
theorem ft84_1 : fOT Tryz.prog 84 1 = some (1, 71) := by kernel_rfl
theorem fl84 : flT Tryz.prog 84 = some ([(0, 1), (1, 1)], [.cap0 true, .cap0 true]) := by kernel_rfl
theorem ag96 : agT Tryz.prog 96 = some (false, 1) := by kernel_rfl
theorem zc96 : zT Tryz.prog 96 = some ([.val .nilFunc], 1) := by kernel_rfl
theorem ag98 : agT Tryz.prog 98 = some (true, 2) := by kernel_rfl
theorem zc98 : zT Tryz.prog 98 = some ([I 0, I 0], 2) := by kernel_rfl
instance nc98 : NumT Tryz.prog 98 2 := ⟨by kernel_rfl⟩
instance AR98 : ArT Tryz.prog 98 2 := ⟨by kernel_rfl⟩
instance AE98 : ArE Tryz.prog 98 2 := ⟨by kernel_rfl⟩
theorem fl98 : flT Tryz.prog 98 = some ([(0, 1), (1, 1)], [I 0, I 0]) := by kernel_rfl
theorem ag102 : agT Tryz.prog 102 = some (true, 2) := by kernel_rfl
theorem zc102 : zT Tryz.prog 102 = some ([I 0, I 0], 2) := by kernel_rfl
instance nc102 : NumT Tryz.prog 102 2 := ⟨by kernel_rfl⟩
theorem fo102_0 : fOff Tryz.prog 102 0 = some 0 := by kernel_rfl
theorem ft102_0 : fOT Tryz.prog 102 0 = some (0, 3) := by kernel_rfl
theorem fo102_1 : fOff Tryz.prog 102 1 = some 1 := by kernel_rfl
theorem ft102_1 : fOT Tryz.prog 102 1 = some (1, 3) := by kernel_rfl
theorem fl102 : flT Tryz.prog 102 = some ([(0, 1), (1, 1)], [I 0, I 0]) := by kernel_rfl
theorem ag108 : agT Tryz.prog 108 = some (false, 1) := by kernel_rfl
theorem zc108 : zT Tryz.prog 108 = some ([.val .nilFunc], 1) := by kernel_rfl
theorem ag112 : agT Tryz.prog 112 = some (false, 1) := by kernel_rfl
theorem zc112 : zT Tryz.prog 112 = some ([.val (.int .u64 0)], 1) := by kernel_rfl
theorem ag114 : agT Tryz.prog 114 = some (true, 7) := by kernel_rfl
theorem zc114 : zT Tryz.prog 114 = some ([.cap0 true, .cap0 true, .cap0 true, .cap0 true, .cap0 true, I 0, .cap0 true], 7) := by kernel_rfl
theorem fo114_0 : fOff Tryz.prog 114 0 = some 0 := by kernel_rfl
theorem ft114_0 : fOT Tryz.prog 114 0 = some (0, 71) := by kernel_rfl
theorem fo114_1 : fOff Tryz.prog 114 1 = some 1 := by kernel_rfl
theorem ft114_1 : fOT Tryz.prog 114 1 = some (1, 47) := by kernel_rfl
theorem fo114_2 : fOff Tryz.prog 114 2 = some 2 := by kernel_rfl
theorem ft114_2 : fOT Tryz.prog 114 2 = some (2, 47) := by kernel_rfl
theorem fo114_3 : fOff Tryz.prog 114 3 = some 3 := by kernel_rfl
theorem ft114_3 : fOT Tryz.prog 114 3 = some (3, 47) := by kernel_rfl
theorem fo114_4 : fOff Tryz.prog 114 4 = some 4 := by kernel_rfl
theorem ft114_4 : fOT Tryz.prog 114 4 = some (4, 47) := by kernel_rfl
theorem fo114_5 : fOff Tryz.prog 114 5 = some 5 := by kernel_rfl
theorem ft114_5 : fOT Tryz.prog 114 5 = some (5, 3) := by kernel_rfl
theorem fo114_6 : fOff Tryz.prog 114 6 = some 6 := by kernel_rfl
theorem ft114_6 : fOT Tryz.prog 114 6 = some (6, 71) := by kernel_rfl
theorem fl114 : flT Tryz.prog 114 = some ([(0, 1), (1, 1), (2, 1), (3, 1), (4, 1), (5, 1), (6, 1)], [.cap0 true, .cap0 true, .cap0 true, .cap0 true, .cap0 true, I 0, .cap0 true]) := by kernel_rfl
theorem ag119 : agT Tryz.prog 119 = some (false, 1) := by kernel_rfl
theorem zc119 : zT Tryz.prog 119 = some ([.val .nilFunc], 1) := by kernel_rfl
theorem ag122 : agT Tryz.prog 122 = some (true, 3) := by kernel_rfl
theorem zc122 : zT Tryz.prog 122 = some ([B false, I 0, .cap0 true], 3) := by kernel_rfl
theorem fo122_0 : fOff Tryz.prog 122 0 = some 0 := by kernel_rfl
theorem ft122_0 : fOT Tryz.prog 122 0 = some (0, 4) := by kernel_rfl
theorem fo122_1 : fOff Tryz.prog 122 1 = some 1 := by kernel_rfl
theorem ft122_1 : fOT Tryz.prog 122 1 = some (1, 3) := by kernel_rfl
theorem fo122_2 : fOff Tryz.prog 122 2 = some 2 := by kernel_rfl
theorem ft122_2 : fOT Tryz.prog 122 2 = some (2, 22) := by kernel_rfl
theorem fl122 : flT Tryz.prog 122 = some ([(0, 1), (1, 1), (2, 1)], [B false, I 0, .cap0 true]) := by kernel_rfl
theorem ag124 : agT Tryz.prog 124 = some (false, 1) := by kernel_rfl
theorem zc124 : zT Tryz.prog 124 = some ([.val .nilFunc], 1) := by kernel_rfl
theorem ag131 : agT Tryz.prog 131 = some (false, 1) := by kernel_rfl
theorem zc131 : zT Tryz.prog 131 = some ([.val (.pointer none)], 1) := by kernel_rfl
theorem ag133 : agT Tryz.prog 133 = some (false, 1) := by kernel_rfl
theorem zc133 : zT Tryz.prog 133 = some ([.val .nilFunc], 1) := by kernel_rfl
theorem ag136 : agT Tryz.prog 136 = some (false, 1) := by kernel_rfl
theorem zc136 : zT Tryz.prog 136 = some ([.val .nilFunc], 1) := by kernel_rfl
theorem ag138 : agT Tryz.prog 138 = some (false, 1) := by kernel_rfl
theorem zc138 : zT Tryz.prog 138 = some ([I 0], 1) := by kernel_rfl
theorem ag147 : agT Tryz.prog 147 = some (false, 1) := by kernel_rfl
theorem zc147 : zT Tryz.prog 147 = some ([.val (.int .u64 0)], 1) := by kernel_rfl
theorem ag153 : agT Tryz.prog 153 = some (false, 1) := by kernel_rfl
theorem zc153 : zT Tryz.prog 153 = some ([.val (.int .u64 0)], 1) := by kernel_rfl
theorem ag157 : agT Tryz.prog 157 = some (false, 1) := by kernel_rfl
theorem zc157 : zT Tryz.prog 157 = some ([.val (.pointer none)], 1) := by kernel_rfl
theorem ag164 : agT Tryz.prog 164 = some (false, 1) := by kernel_rfl
theorem zc164 : zT Tryz.prog 164 = some ([.val (.pointer none)], 1) := by kernel_rfl
theorem FX : type_of% @ag2 ∧ type_of% @zc2 ∧ type_of% @ag3 ∧ type_of% @zc3 ∧ type_of% @ag4 ∧ type_of% @zc4 ∧ type_of% @ag9 ∧ type_of% @zc9 ∧ type_of% @ag22 ∧ type_of% @zc22 ∧ type_of% @ag24 ∧ type_of% @zc24 ∧ type_of% @fo24_0 ∧ type_of% @ft24_0 ∧ type_of% @fo24_1 ∧ type_of% @ft24_1 ∧ type_of% @fo24_2 ∧ type_of% @ft24_2 ∧ type_of% @fl24 ∧ type_of% @ag27 ∧ type_of% @zc27 ∧ type_of% @ag28 ∧ type_of% @zc28 ∧ type_of% @ag44 ∧ type_of% @zc44 ∧ type_of% @ag47 ∧ type_of% @zc47 ∧ type_of% @ag49 ∧ type_of% @zc49 ∧ type_of% @fo49_0 ∧ type_of% @ft49_0 ∧ type_of% @fo49_1 ∧ type_of% @ft49_1 ∧ type_of% @fl49 ∧ type_of% @ag55 ∧ type_of% @zc55 ∧ type_of% @fo55_0 ∧ type_of% @ft55_0 ∧ type_of% @fo55_1 ∧ type_of% @ft55_1 ∧ type_of% @fo55_2 ∧ type_of% @ft55_2 ∧ type_of% @fl55 ∧ type_of% @ag66 ∧ type_of% @zc66 ∧ type_of% @ag71 ∧ type_of% @zc71 ∧ type_of% @ag77 ∧ type_of% @zc77 ∧ type_of% @ag81 ∧ type_of% @zc81 ∧ type_of% @fo81_0 ∧ type_of% @ft81_0 ∧ type_of% @fo81_1 ∧ type_of% @ft81_1 ∧ type_of% @fo81_2 ∧ type_of% @ft81_2 ∧ type_of% @fo81_3 ∧ type_of% @ft81_3 ∧ type_of% @fo81_4 ∧ type_of% @ft81_4 ∧ type_of% @fl81 ∧ type_of% @ag82 ∧ type_of% @zc82 ∧ type_of% @ag84 ∧ type_of% @zc84 ∧ type_of% @fo84_0 ∧ type_of% @ft84_0 ∧ type_of% @fo84_1 ∧ type_of% @ft84_1 ∧ type_of% @fl84 ∧ type_of% @ag96 ∧ type_of% @zc96 ∧ type_of% @ag98 ∧ type_of% @zc98 ∧ type_of% @fl98 ∧ type_of% @ag102 ∧ type_of% @zc102 ∧ type_of% @fo102_0 ∧ type_of% @ft102_0 ∧ type_of% @fo102_1 ∧ type_of% @ft102_1 ∧ type_of% @fl102 ∧ type_of% @ag108 ∧ type_of% @zc108 ∧ type_of% @ag112 ∧ type_of% @zc112 ∧ type_of% @ag114 ∧ type_of% @zc114 ∧ type_of% @fo114_0 ∧ type_of% @ft114_0 ∧ type_of% @fo114_1 ∧ type_of% @ft114_1 ∧ type_of% @fo114_2 ∧ type_of% @ft114_2 ∧ type_of% @fo114_3 ∧ type_of% @ft114_3 ∧ type_of% @fo114_4 ∧ type_of% @ft114_4 ∧ type_of% @fo114_5 ∧ type_of% @ft114_5 ∧ type_of% @fo114_6 ∧ type_of% @ft114_6 ∧ type_of% @fl114 ∧ type_of% @ag119 ∧ type_of% @zc119 ∧ type_of% @ag122 ∧ type_of% @zc122 ∧ type_of% @fo122_0 ∧ type_of% @ft122_0 ∧ type_of% @fo122_1 ∧ type_of% @ft122_1 ∧ type_of% @fo122_2 ∧ type_of% @ft122_2 ∧ type_of% @fl122 ∧ type_of% @ag124 ∧ type_of% @zc124 ∧ type_of% @ag131 ∧ type_of% @zc131 ∧ type_of% @ag133 ∧ type_of% @zc133 ∧ type_of% @ag136 ∧ type_of% @zc136 ∧ type_of% @ag138 ∧ type_of% @zc138 ∧ type_of% @ag147 ∧ type_of% @zc147 ∧ type_of% @ag153 ∧ type_of% @zc153 ∧ type_of% @ag157 ∧ type_of% @zc157 ∧ type_of% @ag164 ∧ type_of% @zc164 :=
  ⟨@ag2, @zc2, @ag3, @zc3, @ag4, @zc4, @ag9, @zc9, @ag22, @zc22, @ag24, @zc24, @fo24_0, @ft24_0, @fo24_1, @ft24_1, @fo24_2, @ft24_2, @fl24, @ag27, @zc27, @ag28, @zc28, @ag44, @zc44, @ag47, @zc47, @ag49, @zc49, @fo49_0, @ft49_0, @fo49_1, @ft49_1, @fl49, @ag55, @zc55, @fo55_0, @ft55_0, @fo55_1, @ft55_1, @fo55_2, @ft55_2, @fl55, @ag66, @zc66, @ag71, @zc71, @ag77, @zc77, @ag81, @zc81, @fo81_0, @ft81_0, @fo81_1, @ft81_1, @fo81_2, @ft81_2, @fo81_3, @ft81_3, @fo81_4, @ft81_4, @fl81, @ag82, @zc82, @ag84, @zc84, @fo84_0, @ft84_0, @fo84_1, @ft84_1, @fl84, @ag96, @zc96, @ag98, @zc98, @fl98, @ag102, @zc102, @fo102_0, @ft102_0, @fo102_1, @ft102_1, @fl102, @ag108, @zc108, @ag112, @zc112, @ag114, @zc114, @fo114_0, @ft114_0, @fo114_1, @ft114_1, @fo114_2, @ft114_2, @fo114_3, @ft114_3, @fo114_4, @ft114_4, @fo114_5, @ft114_5, @fo114_6, @ft114_6, @fl114, @ag119, @zc119, @ag122, @zc122, @fo122_0, @ft122_0, @fo122_1, @ft122_1, @fo122_2, @ft122_2, @fl122, @ag124, @zc124, @ag131, @zc131, @ag133, @zc133, @ag136, @zc136, @ag138, @zc138, @ag147, @zc147, @ag153, @zc153, @ag157, @zc157, @ag164, @zc164⟩
theorem RZ : type_of% @RG ∧ type_of% @FX ∧ type_of% @RQ ∧ type_of% @args0_0 ∧ type_of% @args0_1 ∧ type_of% @args0_2 ∧ type_of% @args0_3 ∧ type_of% @args0_4 ∧ type_of% @args0_5 ∧ type_of% @args0_6 :=
  ⟨@RG, @FX, @RQ, @args0_0, @args0_1, @args0_2, @args0_3, @args0_4, @args0_5, @args0_6⟩
theorem zs {a b : Prop} (k : b) (e : a = b := by conv => (lhs; simp (disch := first | assumption | omega | rfl | simp only [RH]) only [↓RP, RZ, ↓reduceIte, Nat.reduceEqDiff, reduceCtorEq, Nat.reduceBEq, Nat.reduceAdd, Nat.reduceLeDiff])) : a := e.mpr k
theorem zt {a : Prop} (e : a := by simp (disch := first | assumption | omega | rfl | simp only [RH]) only [↓RP, RZ, ↓reduceIte, Nat.reduceEqDiff, reduceCtorEq, Nat.reduceBEq, Nat.reduceAdd, Nat.reduceLeDiff]) : a := e
theorem zx1 {a b X : Prop} (x : X) (c : b) (e : X → a = b := by intro x; conv => (lhs; simp (disch := first | assumption | omega | rfl | simp only [RH]) only [↓RP, RZ, ↓reduceIte, Nat.reduceEqDiff, reduceCtorEq, Nat.reduceBEq, Nat.reduceAdd, Nat.reduceLeDiff, x])) : a := (e x).mpr c
theorem zx2 {a b X Y : Prop} (x : X) (y : Y) (c : b) (e : X → Y → a = b := by intro x y; conv => (lhs; simp (disch := first | assumption | omega | rfl | simp only [RH]) only [↓RP, RZ, ↓reduceIte, Nat.reduceEqDiff, reduceCtorEq, Nat.reduceBEq, Nat.reduceAdd, Nat.reduceLeDiff, x, y])) : a := (e x y).mpr c
theorem zx3 {a b X Y Z : Prop} (x : X) (y : Y) (z : Z) (c : b) (e : X → Y → Z → a = b := by intro x y z; conv => (lhs; simp (disch := first | assumption | omega | rfl | simp only [RH]) only [↓RP, RZ, ↓reduceIte, Nat.reduceEqDiff, reduceCtorEq, Nat.reduceBEq, Nat.reduceAdd, Nat.reduceLeDiff, x, y, z])) : a := (e x y z).mpr c
theorem zx4 {a b X Y Z U : Prop} (x : X) (y : Y) (z : Z) (u : U) (c : b) (e : X → Y → Z → U → a = b := by intro x y z u; conv => (lhs; simp (disch := first | assumption | omega | rfl | simp only [RH]) only [↓RP, RZ, ↓reduceIte, Nat.reduceEqDiff, reduceCtorEq, Nat.reduceBEq, Nat.reduceAdd, Nat.reduceLeDiff, x, y, z, u])) : a := (e x y z u).mpr c
theorem zx5 {a b X Y Z U V : Prop} (x : X) (y : Y) (z : Z) (u : U) (v : V) (c : b) (e : X → Y → Z → U → V → a = b := by intro x y z u v; conv => (lhs; simp (disch := first | assumption | omega | rfl | simp only [RH]) only [↓RP, RZ, ↓reduceIte, Nat.reduceEqDiff, reduceCtorEq, Nat.reduceBEq, Nat.reduceAdd, Nat.reduceLeDiff, x, y, z, u, v])) : a := (e x y z u v).mpr c
theorem zx6 {a b X Y Z U V W : Prop} (x : X) (y : Y) (z : Z) (u : U) (v : V) (w : W) (c : b) (e : X → Y → Z → U → V → W → a = b := by intro x y z u v w; conv => (lhs; simp (disch := first | assumption | omega | rfl | simp only [RH]) only [↓RP, RZ, ↓reduceIte, Nat.reduceEqDiff, reduceCtorEq, Nat.reduceBEq, Nat.reduceAdd, Nat.reduceLeDiff, x, y, z, u, v, w])) : a := (e x y z u v w).mpr c
theorem zq0 {a : Prop} (e : a := by rw [resVal_0 rfl]; simp (disch := first | assumption | omega | rfl | simp only [RH]) only [↓RP, RZ, ↓reduceIte, Nat.reduceEqDiff, reduceCtorEq, Nat.reduceBEq, Nat.reduceAdd, Nat.reduceLeDiff, RS]) : a := e
theorem zq1 {a : Prop} (e : a := by rw [resVal_1 rfl]; simp (disch := first | assumption | omega | rfl | simp only [RH]) only [↓RP, RZ, ↓reduceIte, Nat.reduceEqDiff, reduceCtorEq, Nat.reduceBEq, Nat.reduceAdd, Nat.reduceLeDiff, RS]) : a := e
theorem zr1 {a b : Prop} (k : b) (e : a = b := by conv => (lhs; rw [resVal_1 rfl]; simp (disch := first | assumption | omega | rfl | simp only [RH]) only [↓RP, RZ, ↓reduceIte, Nat.reduceEqDiff, reduceCtorEq, Nat.reduceBEq, Nat.reduceAdd, Nat.reduceLeDiff, RS])) : a := e.mpr k
theorem zq2 {a : Prop} (e : a := by rw [resVal_2 rfl]; simp (disch := first | assumption | omega | rfl | simp only [RH]) only [↓RP, RZ, ↓reduceIte, Nat.reduceEqDiff, reduceCtorEq, Nat.reduceBEq, Nat.reduceAdd, Nat.reduceLeDiff, RS]) : a := e
theorem zr2 {a b : Prop} (k : b) (e : a = b := by conv => (lhs; rw [resVal_2 rfl]; simp (disch := first | assumption | omega | rfl | simp only [RH]) only [↓RP, RZ, ↓reduceIte, Nat.reduceEqDiff, reduceCtorEq, Nat.reduceBEq, Nat.reduceAdd, Nat.reduceLeDiff, RS])) : a := e.mpr k
theorem zq3 {a : Prop} (e : a := by rw [resVal_3 rfl]; simp (disch := first | assumption | omega | rfl | simp only [RH]) only [↓RP, RZ, ↓reduceIte, Nat.reduceEqDiff, reduceCtorEq, Nat.reduceBEq, Nat.reduceAdd, Nat.reduceLeDiff, RS]) : a := e
theorem zc {b nb : Bool} {yo : Option (Value × (List AVal → List AObj → List AObj → Prop))} {h : List AObj} {P : Program} {f : FuncId} {avs args' : List AVal} {res : AVal} {K : AVal → List AObj → Prop} (hc : Contract P f args' res) (hK : K res h) (he : avs.map (argOf h 6) = args' := by simp (disch := first | assumption | omega | rfl | simp only [RH]) only [↓RP, RZ, ↓reduceIte, Nat.reduceEqDiff, reduceCtorEq, Nat.reduceBEq, Nat.reduceAdd, Nat.reduceLeDiff, RA] <;> rfl) (hfr : allFresh 6 res = true := by first | simp [allFresh, ints_fresh, bools_fresh] | rfl) (hn : nb = false := by rfl) : @callK P (.func (.func f) [] []) avs h ⟨b, nb, yo⟩ ⟨K⟩ := callK_F 6 hc he (.inl hfr) hK hn
theorem zi {P : Program} {f : FuncId} {fn : Func} {c : Code} {args : List AVal} {res : AVal} (hf : P.funcs[f]? = some fn) (h : awp P (effS [] false) [] c (fun e s => match e with | .normal | .ret => (resVal P fn s).map (resOf s.heap 6) = some res | _ => False) ⟨args0 args, []⟩) (hm : P.follows .mixedOrders = true := by exact follows) (hname : (fn.name == "runtime.NumGoroutine") = false := by exact rfl) (hb : fn.body = some c := by exact rfl) (hok : codeOk fn.ntmps (effS [] false) c = true := by kernel_rfl) (hargs : args.length ≤ fn.ntmps := by exact Nat.le_of_ble_eq_true rfl) : Contract P f args res := Contract.intro (effS [] false) 6 hm hf hname hb hok hargs h
theorem kz {a : Prop} (e : a := by simp only [↓RP, RZ, ↓reduceIte, Nat.reduceEqDiff, reduceCtorEq, Nat.reduceBEq, Nat.reduceAdd, Nat.reduceLeDiff]; rfl) : a := e
theorem ky {a : Prop} (e : a := by simp only [↓RP, RZ, ↓reduceIte, Nat.reduceEqDiff, reduceCtorEq, Nat.reduceBEq, Nat.reduceAdd, Nat.reduceLeDiff]) : a := e
abbrev LA (b : Bool) (l : List Int) : AVal := .list false b l.length (ints l)
abbrev LR (b : Bool) (l : List Int) : AVal := .list true b l.length (ints l)
abbrev BA (b : Bool) (l : List Bool) : AVal := .list false b l.length (bools l)
abbrev BR (b : Bool) (l : List Bool) : AVal := .list true b l.length (bools l)
abbrev GA (w h : Int) (b : Bool) (l : List Bool) : AVal := .agg [I w, I h, BA b l]
abbrev GR (w h : Int) (b : Bool) (l : List Bool) : AVal := .agg [I w, I h, BR b l]
def gchk (w h n : Int) : Int := if 64 < w ∨ 64 < h then 4 else if w < 1 ∨ h < 1 ∨ n ≠ w * h then 8 else 0
def gOk (w h n : Int) : Prop := 1 ≤ w ∧ w ≤ 64 ∧ 1 ≤ h ∧ h ≤ 64 ∧ n = w * h
theorem gchk_ok {w h n : Int} (hg : gOk w h n) : gchk w h n = 0 := by
  obtain ⟨h1, h2, h3, h4, h5⟩ := hg
  unfold gchk
  rw [if_neg (by omega), if_neg (by omega)]
theorem gchk_iff {w h n : Int} : gchk w h n = 0 ↔ gOk w h n := by
  refine ⟨fun hz => ?_, gchk_ok⟩
  unfold gchk at hz
  unfold gOk
  split at hz
  · omega
  · split at hz
    · omega
    · omega
theorem prod64 {w h : Int} (h1 : 0 ≤ w) (h2 : w ≤ 64) (h3 : 0 ≤ h) (h4 : h ≤ 64) : 0 ≤ w * h ∧ w * h ≤ 4096 := by
  constructor
  · exact Int.mul_nonneg h1 h3
  · have := Int.mul_le_mul h2 h4 h3 (by omega); omega
theorem gcheckP_c (w h : Int) (b : Bool) (l : List Bool) : Contract Tryz.prog 27 [GA w h b l] (I (gchk w h l.length)) := by
  unfold gchk
  refine zi Tryz.func27 ?_
  by_cases c1 : 64 < w ∨ 64 < h
  · rw [if_pos c1]
    have : 64 < max w h := by omega
    simp (disch := omega) only [↓RP, RG, FX, RQ, ↓reduceIte, Nat.reduceEqDiff, reduceCtorEq, Nat.reduceBEq, Nat.reduceAdd, Nat.reduceLeDiff, args0_1]
    exact zq1
  rw [if_neg c1]
  have : ¬ 64 < max w h := by omega
  by_cases c2 : w < 1 ∨ h < 1
  · rw [if_pos (by omega)]
    have : min w h < 1 := by omega
    simp (disch := omega) only [↓RP, RG, FX, RQ, ↓reduceIte, Nat.reduceEqDiff, reduceCtorEq, Nat.reduceBEq, Nat.reduceAdd, Nat.reduceLeDiff, args0_1]
    exact zq1
  have : ¬ min w h < 1 := by omega
  have hp := prod64 (w := w) (h := h) (by omega) (by omega) (by omega) (by omega)
  by_cases c3 : (l.length : Int) = w * h
  · rw [if_neg (by omega)]
    simp (disch := omega) only [↓RP, RG, FX, RQ, ↓reduceIte, Nat.reduceEqDiff, reduceCtorEq, Nat.reduceBEq, Nat.reduceAdd, Nat.reduceLeDiff, args0_1]
    exact zq1
  · rw [if_pos (by omega)]
    simp (disch := omega) only [↓RP, RG, FX, RQ, ↓reduceIte, Nat.reduceEqDiff, reduceCtorEq, Nat.reduceBEq, Nat.reduceAdd, Nat.reduceLeDiff, args0_1]
    exact zq1
theorem gcheckR_c (w h : Int) (b : Bool) (l : List Bool) : Contract Tryz.prog 23 [GA w h b l] (I (gchk w h l.length)) := by
  unfold gchk
  refine zi Tryz.func23 ?_
  by_cases c0 : 64 < w
  · rw [if_pos (by omega)]
    simp (disch := omega) only [↓RP, RG, FX, RQ, ↓reduceIte, Nat.reduceEqDiff, reduceCtorEq, Nat.reduceBEq, Nat.reduceAdd, Nat.reduceLeDiff, args0_1]
    exact zq1
  by_cases c1 : 64 < h
  · rw [if_pos (by omega)]
    simp (disch := omega) only [↓RP, RG, FX, RQ, ↓reduceIte, Nat.reduceEqDiff, reduceCtorEq, Nat.reduceBEq, Nat.reduceAdd, Nat.reduceLeDiff, args0_1]
    exact zq1
  rw [if_neg (by omega)]
  by_cases c2 : w < 1
  · rw [if_pos (by omega)]
    simp (disch := omega) only [↓RP, RG, FX, RQ, ↓reduceIte, Nat.reduceEqDiff, reduceCtorEq, Nat.reduceBEq, Nat.reduceAdd, Nat.reduceLeDiff, args0_1]
    exact zq1
  by_cases c3 : h < 1
  · rw [if_pos (by omega)]
    simp (disch := omega) only [↓RP, RG, FX, RQ, ↓reduceIte, Nat.reduceEqDiff, reduceCtorEq, Nat.reduceBEq, Nat.reduceAdd, Nat.reduceLeDiff, args0_1]
    exact zq1
  have hp := prod64 (w := w) (h := h) (by omega) (by omega) (by omega) (by omega)
  by_cases c4 : (l.length : Int) = w * h
  · rw [if_neg (by omega)]
    simp (disch := omega) only [↓RP, RG, FX, RQ, ↓reduceIte, Nat.reduceEqDiff, reduceCtorEq, Nat.reduceBEq, Nat.reduceAdd, Nat.reduceLeDiff, args0_1]
    exact zq1
  · rw [if_pos (by omega)]
    simp (disch := omega) only [↓RP, RG, FX, RQ, ↓reduceIte, Nat.reduceEqDiff, reduceCtorEq, Nat.reduceBEq, Nat.reduceAdd, Nat.reduceLeDiff, args0_1]
    exact zq1
theorem bneq {a b : Bool} (h : ¬ a = b) : (a == b) = false := by simpa using h
theorem equalB_c (b1 b2 : Bool) (l m : List Bool) (hl : l.length ≤ 9223372036854775807) : Contract Tryz.prog 81 [BA b1 l, BA b2 m] (B (decide (l = m))) := by
  refine zi Tryz.func81 ?_
  by_cases hlen : l.length = m.length
  · refine zs ?_
    refine loopK_I [0, 1, 12, 13] (fun k : Nat => k ≤ l.length ∧ l.take k = m.take k) (fun k : Nat => ⟨[(0, BA b1 l), (1, BA b2 m), (12, I l.length), (13, I k)], []⟩) (fun k => l.length - k) 0 (by simp) kz ?_
    rintro k ⟨hk, htk⟩
    by_cases hlt : k < l.length
    · by_cases he : l.getD k false = m.getD k false
      · simp (disch := first | assumption | omega | rfl | simp only [RH]) only [↓RP, RG, FX, RQ, ↓reduceIte, Nat.reduceEqDiff, reduceCtorEq, Nat.reduceBEq, Nat.reduceAdd, Nat.reduceLeDiff, he, beq_self_eq_true, Bool.not_true]
        refine ⟨k + 1, ⟨by omega, ?_⟩, rfl, by omega⟩
        rw [List.take_add_one, List.take_add_one, htk]
        simp [hlt, show k < m.length by omega] at he
        rw [List.getElem?_eq_getElem hlt, List.getElem?_eq_getElem (show k < m.length by omega), he]
      · refine zx1 (bneq he) ?_
        refine zr1 ?_
        refine okF ?_
        rintro rfl; exact he rfl
    · refine zs ?_
      refine zr1 ?_
      refine okT ?_
      have hk' : k = l.length := by omega
      rw [hk', List.take_length] at htk
      rw [htk, hlen, List.take_length]
  · refine zs ?_
    refine zr1 ?_
    refine okF ?_
    rintro rfl; exact hlen rfl
def wIn (l : List Int) (n : Int) : Prop := 0 < l.length ∧ ∀ j, j < l.length → 0 ≤ l.getD j 0 ∧ l.getD j 0 < n
instance (l : List Int) (n : Int) : Decidable (wIn l n) := by unfold wIn; infer_instance
def cell (w : Int) (l : List Bool) (x y : Int) : Bool := l.getD (y * w + x).toNat false
theorem sameR_c (w1 h1 w2 h2 : Int) (b1 b2 : Bool) (l m : List Bool) (hl : l.length ≤ 9223372036854775807) : Contract Tryz.prog 13 [GA w1 h1 b1 l, GA w2 h2 b2 m] (B (decide (w1 = w2 ∧ h1 = h2 ∧ l = m))) := by
  refine zi Tryz.func13 ?_
  by_cases c1 : w1 = w2
  rotate_left
  · refine zs ?_
    exact zq1
    first | done | exact okF (fun h => c1 h.1)
  by_cases c2 : h1 = h2
  rotate_left
  · refine zs ?_
    exact zq1
    first | done | exact okF (fun h => c2 h.2.1)
  by_cases hlen : l.length = m.length
  rotate_left
  · refine zs ?_
    refine zr1 ?_
    first | done | exact okF (fun h => hlen (by rw [h.2.2]))
  refine zs ?_
  refine loopK_I [2, 3, 5] (fun k : Nat => k ≤ l.length ∧ l.take k = m.take k) (fun k : Nat => ⟨[(2, .ptr 0 0 3), (3, .ptr 1 0 3), (5, I k)], [⟨24, 3, [I w1, I h1, BA b1 l]⟩, ⟨24, 3, [I w2, I h2, BA b2 m]⟩]⟩) (fun k => l.length - k) 0 (by simp) kz ?_
  rintro k ⟨hk, htk⟩
  by_cases hlt : k < l.length
  · by_cases he : l.getD k false = m.getD k false
    · simp (disch := first | assumption | omega | rfl | simp only [RH]) only [↓RP, RG, FX, RQ, ↓reduceIte, Nat.reduceEqDiff, reduceCtorEq, Nat.reduceBEq, Nat.reduceAdd, Nat.reduceLeDiff, he, beq_self_eq_true, Bool.not_true]
      refine ⟨k + 1, ⟨by omega, ?_⟩, rfl, by omega⟩
      rw [List.take_add_one, List.take_add_one, htk]
      simp [hlt, show k < m.length by omega] at he
      rw [List.getElem?_eq_getElem hlt, List.getElem?_eq_getElem (show k < m.length by omega), he]
    · refine zx1 (bneq he) ?_
      refine zr1 ?_
      refine okF ?_
      rintro ⟨_, _, rfl⟩; exact he rfl
  · refine zs ?_
    refine zr1 ?_
    refine okT ⟨c1, c2, ?_⟩
    have hk' : k = l.length := by omega
    rw [hk', List.take_length] at htk
    rw [htk, hlen, List.take_length]
def tabN (W : Nat) (u : Nat → Nat → Bool) (n : Nat) : List Bool := (List.range n).map fun i => u (i % W) (i / W)
theorem tabN_len (W : Nat) (u : Nat → Nat → Bool) (n : Nat) : (tabN W u n).length = n := by simp [tabN]
theorem tabN_succ (W : Nat) (u : Nat → Nat → Bool) {y x : Nat} (hx : x < W) : tabN W u (W * y + x + 1) = tabN W u (W * y + x) ++ [u x y] := by
  have e1 : (W * y + x) % W = x := by rw [Nat.mul_add_mod]; exact Nat.mod_eq_of_lt hx
  have e2 : (W * y + x) / W = y := by rw [Nat.mul_add_div (by omega), Nat.div_eq_of_lt hx, Nat.add_zero]
  simp only [tabN, List.range_succ, List.map_append, List.map_cons, List.map_nil, e1, e2]
theorem tabN_get (W : Nat) (u : Nat → Nat → Bool) {n y x : Nat} (hx : x < W) (hn : W * y + x < n) : (tabN W u n).getD (W * y + x) false = u x y := by
  have e1 : (W * y + x) % W = x := by rw [Nat.mul_add_mod]; exact Nat.mod_eq_of_lt hx
  have e2 : (W * y + x) / W = y := by rw [Nat.mul_add_div (by omega), Nat.div_eq_of_lt hx, Nat.add_zero]
  simp [tabN, List.getD_eq_getElem?_getD, List.getElem?_range hn, e1, e2]
theorem tabN_congr {W : Nat} {u v : Nat → Nat → Bool} {H : Nat} (h : ∀ x y, x < W → y < H → u x y = v x y) : tabN W u (W * H) = tabN W v (W * H) := by
  apply List.map_congr_left
  intro i hi
  have hi' : i < W * H := by simpa using hi
  have hW : 0 < W := by
    rcases Nat.eq_zero_or_pos W with h0 | h0
    · subst h0; simp at hi'
    · exact h0
  exact h _ _ (Nat.mod_lt _ hW) (Nat.div_lt_of_lt_mul hi')
theorem tabN_pos {W H : Nat} (hw : 0 < W) (hh : 0 < H) (u : Nat → Nat → Bool) : 0 < (bools (tabN W u (W * H))).length := by
  rw [bools_length, tabN_len]; exact Nat.mul_pos hw hh
theorem bools_isEmpty (l : List Bool) : (bools l).isEmpty = l.isEmpty := by cases l <;> rfl
theorem ints_isEmpty (l : List Int) : (ints l).isEmpty = l.isEmpty := by cases l <;> rfl
theorem idx_nat (W y x : Nat) : ((y : Int) * (W : Int) + (x : Int)).toNat = W * y + x := by
  rw [← Int.natCast_mul, ← Int.natCast_add, Int.toNat_natCast, Nat.mul_comm]
theorem mul_bd {W H : Nat} (hw : W ≤ 10000) (hh : H ≤ 10000) : 0 ≤ (W : Int) * (H : Int) ∧ (W : Int) * (H : Int) ≤ 100000000 := by
  have h1 : W * H ≤ 10000 * 10000 := Nat.mul_le_mul hw hh
  rw [← Int.natCast_mul]; omega
theorem idx_lt {W H x y : Nat} (hx : x < W) (hy : y < H) : W * y + x < W * H := by
  have : W * (y + 1) ≤ W * H := Nat.mul_le_mul_left W hy
  rw [Nat.mul_succ] at this; omega
theorem cell_bd {a b s t : Int} (h1 : 0 ≤ a) (h2 : a < s) (h3 : 0 ≤ b) (h4 : b < t) : 0 ≤ a * t ∧ a * t + b < s * t := by
  constructor
  · exact Int.mul_nonneg h1 (by omega)
  · have : (a + 1) * t ≤ s * t := Int.mul_le_mul_of_nonneg_right (by omega) (by omega)
    rw [Int.add_mul] at this; omega
def gws (k : Nat) (rs : List (List Int)) : List AVal := rs.mapIdx fun a r => gw true (k + a) (ints r)
def gos (rs : List (List Int)) : List AObj := rs.map fun r => go 3 (ints r)
theorem gws_len (k : Nat) (rs : List (List Int)) : (gws k rs).length = rs.length := by simp [gws]
theorem gos_len (rs : List (List Int)) : (gos rs).length = rs.length := by simp [gos]
theorem gws_at {k : Nat} {rs : List (List Int)} {a : Nat} (ha : a < rs.length) : ((gws k rs).drop a)[0]? = some (gw true (k + a) (ints (rs.getD a []))) := by
  rw [List.getElem?_drop, Nat.add_zero, gws, List.getElem?_mapIdx, List.getElem?_eq_getElem ha, List.getD_eq_getElem?_getD, List.getElem?_eq_getElem ha]; rfl
theorem gws_set (k : Nat) (rs : List (List Int)) (a : Nat) (r : List Int) : (gws k rs).set a (gw true (k + a) (ints r)) = gws k (rs.set a r) := by
  apply List.ext_getElem
  · simp [gws]
  intro i h1 h2
  rw [List.getElem_set]
  simp only [gws, List.getElem_mapIdx, List.getElem_set]
  by_cases h : a = i
  · subst h; simp
  · simp [h]
theorem gos_at {rs : List (List Int)} {a : Nat} (ha : a < rs.length) : (gos rs)[a]? = some (go 3 (ints (rs.getD a []))) := by
  rw [gos, List.getElem?_map, List.getElem?_eq_getElem ha, List.getD_eq_getElem?_getD, List.getElem?_eq_getElem ha]; rfl
theorem gos_set (rs : List (List Int)) (a : Nat) (r : List Int) : (gos rs).set a (go 3 (ints r)) = gos (rs.set a r) := by simp [gos, List.map_set]
section
variable {o0 o1 o2 o3 o4 : AObj} {rB rA : List (List Int)} {n a : Nat}
theorem h5_atB (ha : a < rB.length) : (o0 :: o1 :: o2 :: o3 :: o4 :: (gos rB ++ gos rA))[5 + a]? = some (go 3 (ints (rB.getD a []))) := by
  rw [show 5 + a = a + 5 by omega]
  simp only [List.getElem?_cons_succ]
  rw [List.getElem?_append_left (by rw [gos_len]; exact ha), gos_at ha]
theorem h5_atA (hn : rB.length = n) (ha : a < rA.length) : (o0 :: o1 :: o2 :: o3 :: o4 :: (gos rB ++ gos rA))[5 + n + a]? = some (go 3 (ints (rA.getD a []))) := by
  rw [show 5 + n + a = n + a + 5 by omega]
  simp only [List.getElem?_cons_succ]
  rw [List.getElem?_append_right (by rw [gos_len]; omega), gos_len, hn, show n + a - n = a by omega, gos_at ha]
theorem h5_setB (ha : a < rB.length) (r : List Int) : (o0 :: o1 :: o2 :: o3 :: o4 :: (gos rB ++ gos rA)).set (5 + a) (go 3 (ints r)) = o0 :: o1 :: o2 :: o3 :: o4 :: (gos (rB.set a r) ++ gos rA) := by
  rw [show 5 + a = a + 5 by omega]
  simp only [List.set_cons_succ]
  rw [List.set_append_left _ _ (by rw [gos_len]; exact ha), gos_set]
theorem h5_setA (hn : rB.length = n) (r : List Int) : (o0 :: o1 :: o2 :: o3 :: o4 :: (gos rB ++ gos rA)).set (5 + n + a) (go 3 (ints r)) = o0 :: o1 :: o2 :: o3 :: o4 :: (gos rB ++ gos (rA.set a r)) := by
  rw [show 5 + n + a = n + a + 5 by omega]
  simp only [List.set_cons_succ]
  rw [List.set_append_right _ _ (by rw [gos_len]; omega), gos_len, hn, show n + a - n = a by omega, gos_set]
end
theorem WL_nil : ∀ (m k : Nat) (f : Nat → Nat), WL (List.replicate m (.cap0 true)) ((List.range m).map fun a => .res (f (k + a)))
  | 0, k, f => .nil
  | m + 1, k, f => by
    rw [List.replicate_succ, List.range_succ_eq_map, List.map_cons, List.map_map]
    refine .cons (.nil _) ?_
    have := WL_nil m (k + 1) f
    have e : ((fun a => AVal.res (f (k + a))) ∘ Nat.succ) = fun a => .res (f (k + 1 + a)) := by funext a; simp only [Function.comp]; congr 2; omega
    rw [e]; exact this
theorem gws_nil (k m : Nat) : gws k (List.replicate m []) = (List.range m).map fun a => .res (k + a) := by
  apply List.ext_getElem
  · simp [gws]
  intro i h1 h2
  simp [gws, gw, ints]
theorem WL_gws (k m : Nat) : WL (List.replicate m (.cap0 true)) (gws k (List.replicate m [])) := by
  rw [gws_nil]
  have := WL_nil m 0 (fun a => k + a)
  simpa using this
theorem gos_nil (m : Nat) : ∀ o ∈ gos (List.replicate m []), o.es = 0 := by
  intro o ho
  simp only [gos, List.mem_map] at ho
  obtain ⟨r, hr, rfl⟩ := ho
  rw [(List.mem_replicate.1 hr).2]; rfl
def rowG (v : Bool) (W H : Nat) (l : List Bool) (x y a : Nat) : List Int :=
  if a < W then ((List.range (if a < x then H else if a = x then y else 0)).filter fun j => l.getD (W * j + a) false == v).map fun j => ((W + j : Nat) : Int)
  else ((List.range (if a - W < y then x + 1 else x)).filter fun i => l.getD (W * (a - W) + i) false == !v).map fun i : Nat => (i : Int)
def rowsG (v : Bool) (W H : Nat) (l : List Bool) (x y : Nat) : List (List Int) := (List.range (W + H)).map (rowG v W H l x y)
theorem rowsG_len (v : Bool) (W H : Nat) (l : List Bool) (x y : Nat) : (rowsG v W H l x y).length = W + H := by simp [rowsG]
theorem rowsG_get {v : Bool} {W H : Nat} {l : List Bool} {x y a : Nat} (ha : a < W + H) : (rowsG v W H l x y).getD a [] = rowG v W H l x y a := by
  simp [rowsG, List.getD_eq_getElem?_getD, List.getElem?_range ha]
theorem rowG_le {v : Bool} {W H : Nat} {l : List Bool} {x y a : Nat} (hx : x < W) (hy : y < H) : (rowG v W H l x y a).length ≤ W + H := by
  unfold rowG
  split
  · rw [List.length_map]
    refine Nat.le_trans (List.length_filter_le _ _) ?_
    rw [List.length_range]
    split
    · omega
    · split <;> omega
  · rw [List.length_map]
    refine Nat.le_trans (List.length_filter_le _ _) ?_
    rw [List.length_range]
    split <;> omega
theorem rowG_inc (v : Bool) (W H : Nat) (l : List Bool) (x y a : Nat) : (rowG v W H l x y a).Pairwise (· < ·) := by
  unfold rowG
  split
  · rw [List.pairwise_map]
    refine (List.Pairwise.filter _ List.pairwise_lt_range).imp fun h => by omega
  · rw [List.pairwise_map]
    refine (List.Pairwise.filter _ List.pairwise_lt_range).imp fun h => by omega
theorem rowG_end {v : Bool} {W H : Nat} {l : List Bool} {a : Nat} (hW : W ≤ 64) (hH : H ≤ 64) : (rowG v W H l W 0 a).length ≤ 200 := by
  unfold rowG
  split
  · rw [List.length_map]
    refine Nat.le_trans (List.length_filter_le _ _) ?_
    rw [List.length_range]
    repeat' split
    all_goals omega
  · rw [List.length_map]
    refine Nat.le_trans (List.length_filter_le _ _) ?_
    rw [List.length_range]
    repeat' split
    all_goals omega
theorem rowsG_zero (v : Bool) (W H : Nat) (l : List Bool) : rowsG v W H l 0 0 = List.replicate (W + H) [] := by
  apply List.ext_getElem
  · simp [rowsG]
  intro a h1 h2
  simp [rowsG, rowG]
theorem rowsG_row (v : Bool) (W H : Nat) (l : List Bool) (x : Nat) : rowsG v W H l x H = rowsG v W H l (x + 1) 0 := by
  unfold rowsG
  apply List.map_congr_left
  intro a ha
  have ha : a < W + H := by simpa using ha
  unfold rowG
  by_cases h : a < W
  · rw [if_pos h, if_pos h]
    congr 2
    by_cases h1 : a < x
    · rw [if_pos h1, if_pos (by omega)]
    · rw [if_neg h1]
      by_cases h2 : a = x
      · rw [if_pos h2, if_pos (by omega)]
      · rw [if_neg h2, if_neg (by omega)]; split <;> rfl
  · rw [if_neg h, if_neg h, if_pos (by omega), if_neg (by omega)]
theorem rowsG_step (v : Bool) {W H : Nat} (l : List Bool) {x y : Nat} (hx : x < W) (hy : y < H) (b : Bool) (hb : l.getD (W * y + x) false = b) :
    rowsG v W H l x (y + 1) = (rowsG v W H l x y).set (if b = v then x else W + y) (rowG v W H l x y (if b = v then x else W + y) ++ [if b = v then ((W + y : Nat) : Int) else (x : Int)]) := by
  apply List.ext_getElem
  · simp [rowsG]
  intro a h1 h2
  have ha : a < W + H := by rw [rowsG_len] at h1; exact h1
  rw [List.getElem_set]
  simp only [rowsG, List.getElem_map, List.getElem_range]
  have e1 : a = x → rowG v W H l x (y + 1) a = if b = v then rowG v W H l x y a ++ [((W + y : Nat) : Int)] else rowG v W H l x y a := by
    rintro rfl
    have g2 : ¬ a < a := by omega
    simp only [rowG, if_pos hx, if_neg g2, if_true, List.range_succ, List.filter_append, List.map_append, List.filter_cons, List.filter_nil, hb]
    by_cases hv : b = v
    · subst hv; simp
    · have : (b == v) = false := by simpa using hv
      simp [this, hv]
  have e2 : a = W + y → rowG v W H l x (y + 1) a = if b = v then rowG v W H l x y a else rowG v W H l x y a ++ [(x : Int)] := by
    rintro rfl
    have g1 : ¬ W + y < W := by omega
    have e3 : W + y - W = y := by omega
    have g2 : y < y + 1 := by omega
    have g3 : ¬ y < y := by omega
    simp only [rowG, if_neg g1, e3, if_pos g2, if_neg g3, List.range_succ, List.filter_append, List.map_append, List.filter_cons, List.filter_nil, hb]
    by_cases hv : b = v
    · subst hv; cases b <;> simp
    · have : b = !v := by cases b <;> cases v <;> simp_all
      subst this
      simp
  have e3 : a ≠ x → a ≠ W + y → rowG v W H l x (y + 1) a = rowG v W H l x y a := by
    intro g1 g2
    unfold rowG
    by_cases h : a < W
    · rw [if_pos h, if_pos h, if_neg g1, if_neg g1]
    · rw [if_neg h, if_neg h]
      congr 3
      by_cases h3 : a - W < y
      · rw [if_pos h3, if_pos (by omega)]
      · rw [if_neg h3, if_neg (by omega)]
  by_cases hv : b = v
  · simp only [if_pos hv] at *
    by_cases g : x = a
    · rw [if_pos g, e1 g.symm, g]
    · rw [if_neg g]
      by_cases g2 : a = W + y
      · exact e2 g2
      · exact e3 (fun h => g h.symm) g2
  · simp only [if_neg hv] at *
    by_cases g : W + y = a
    · rw [if_pos g, e2 g.symm, g]
    · rw [if_neg g]
      by_cases g2 : a = x
      · exact e1 g2
      · exact e3 g2 (fun h => g h.symm)
end Go.Proofs.YtllijejobeogdaaGreat
set_option linter.unusedVariables false
namespace Go.Proofs
open Go.Shelf
def Tryz.lays189_ren : Go.Shelf.Ren := ⟨fun | 189 => 70 | 125 => 85 | 257 => 84 | 128 => 103 | 129 => 104 | 294 => 95 | 295 => 96 | 296 => 97 | 297 => 98 | 298 => 99 | 299 => 100 | 216 => 74 | 300 => 101 | 301 => 102 | 328 => 108 | 329 => 109 | 330 => 110 | 331 => 111 | 332 => 112 | 215 => 87 | 343 => 121 | n => n, fun | 28 => 47 | 3 => 3 | 46 => 112 | 0 => 0 | 51 => 145 | 53 => 147 | 4 => 4 | 183 => 139 | 182 => 138 | 131 => 91 | 5 => 5 | 9 => 9 | 218 => 153 | 222 => 157 | 228 => 164 | 229 => 165 | n => n, fun | n => n⟩
theorem Tryz.lays189 : Go.Proofs.Lays.n189 Tryz.prog Tryz.lays189_ren := {
  mixed := by kernel_rfl
  f125 := Tryz.func85.trans (congrArg some (by kernel_rfl))
  f128 := Tryz.func103.trans (congrArg some (by kernel_rfl))
  f129 := Tryz.func104.trans (congrArg some (by kernel_rfl))
  f189 := Tryz.func70.trans (congrArg some (by kernel_rfl))
  f215 := Tryz.func87.trans (congrArg some (by kernel_rfl))
  f216 := Tryz.func74.trans (congrArg some (by kernel_rfl))
  f257 := Tryz.func84.trans (congrArg some (by kernel_rfl))
  f294 := Tryz.func95.trans (congrArg some (by kernel_rfl))
  f295 := Tryz.func96.trans (congrArg some (by kernel_rfl))
  f296 := Tryz.func97.trans (congrArg some (by kernel_rfl))
  f297 := Tryz.func98.trans (congrArg some (by kernel_rfl))
  f298 := Tryz.func99.trans (congrArg some (by kernel_rfl))
  f299 := Tryz.func100.trans (congrArg some (by kernel_rfl))
  f300 := Tryz.func101.trans (congrArg some (by kernel_rfl))
  f301 := Tryz.func102.trans (congrArg some (by kernel_rfl))
  f328 := Tryz.func108.trans (congrArg some (by kernel_rfl))
  f329 := Tryz.func109.trans (congrArg some (by kernel_rfl))
  f330 := Tryz.func110.trans (congrArg some (by kernel_rfl))
  f331 := Tryz.func111.trans (congrArg some (by kernel_rfl))
  f332 := Tryz.func112.trans (congrArg some (by kernel_rfl))
  f343 := Tryz.func121.trans (congrArg some (by kernel_rfl))
  t0 := Tryz.underlying0
  a0 := Tryz.isAgg0
  z0 := Tryz.sizeOf0
  v0 := Tryz.zeroValue0
  t3 := Tryz.underlying3
  a3 := Tryz.isAgg3
  z3 := Tryz.sizeOf3
  v3 := Tryz.zeroValue3
  t4 := Tryz.underlying4
  a4 := Tryz.isAgg4
  z4 := Tryz.sizeOf4
  v4 := Tryz.zeroValue4
  t5 := Tryz.underlying5
  a5 := Tryz.isAgg5
  z5 := Tryz.sizeOf5
  v5 := Tryz.zeroValue5
  t9 := Tryz.underlying9
  a9 := Tryz.isAgg9
  z9 := Tryz.sizeOf9
  v9 := Tryz.zeroValue9
  t28 := Tryz.underlying47
  a28 := Tryz.isAgg47
  z28 := Tryz.sizeOf47
  v28 := Tryz.zeroValue47
  t46 := Tryz.underlying112
  a46 := Tryz.isAgg112
  z46 := Tryz.sizeOf112
  v46 := Tryz.zeroValue112
  t51 := Tryz.underlying145
  a51 := Tryz.isAgg145
  z51 := Tryz.sizeOf145
  v51 := Tryz.zeroValue145
  t53 := Tryz.underlying147
  a53 := Tryz.isAgg147
  z53 := Tryz.sizeOf147
  v53 := Tryz.zeroValue147
  t131 := Tryz.underlying91
  a131 := Tryz.isAgg91
  z131 := Tryz.sizeOf91
  v131 := Tryz.zeroValue91
  t182 := Tryz.underlying138
  a182 := Tryz.isAgg138
  z182 := Tryz.sizeOf138
  v182 := Tryz.zeroValue138
  t183 := Tryz.underlying139
  a183 := Tryz.isAgg139
  z183 := Tryz.sizeOf139
  v183 := Tryz.zeroValue139
  t218 := Tryz.underlying153
  a218 := Tryz.isAgg153
  z218 := Tryz.sizeOf153
  v218 := Tryz.zeroValue153
  t222 := Tryz.underlying157
  a222 := Tryz.isAgg157
  z222 := Tryz.sizeOf157
  v222 := Tryz.zeroValue157
  t228 := Tryz.underlying164
  a228 := Tryz.isAgg164
  z228 := Tryz.sizeOf164
  v228 := Tryz.zeroValue164
  t229 := Tryz.underlying165
  a229 := Tryz.isAgg165
  z229 := Tryz.sizeOf165
  v229 := Tryz.zeroValue165 }
def Tryz.lays2_20_ren : Go.Shelf.Ren := ⟨fun | 20 => 56 | n => n, fun | 22 => 47 | 3 => 3 | 4 => 4 | 0 => 0 | n => n, fun | n => n⟩
theorem Tryz.lays2_20 : Go.Proofs.Lays2.n20 Tryz.prog Tryz.lays2_20_ren := {
  mixed := by kernel_rfl
  f20 := Tryz.func56.trans (congrArg some (by kernel_rfl))
  t0 := Tryz.underlying0
  a0 := Tryz.isAgg0
  z0 := Tryz.sizeOf0
  v0 := Tryz.zeroValue0
  t3 := Tryz.underlying3
  a3 := Tryz.isAgg3
  z3 := Tryz.sizeOf3
  v3 := Tryz.zeroValue3
  t4 := Tryz.underlying4
  a4 := Tryz.isAgg4
  z4 := Tryz.sizeOf4
  v4 := Tryz.zeroValue4
  t22 := Tryz.underlying47
  a22 := Tryz.isAgg47
  z22 := Tryz.sizeOf47
  v22 := Tryz.zeroValue47
  i3 := by kernel_rfl }
end Go.Proofs
namespace Go.Proofs.YtllijejobeogdaaGreat
open Go Go.Proofs Go.AW
abbrev U (n : Int) : AVal := .val (.int .u64 n)
def isU (r : Option AVal) (m : Int) : Bool := match r with | some (.val (.int .u64 x)) => x == m | _ => false
theorem isU_eq {r : Option AVal} {m : Int} (h : isU r m = true) : r = some (U m) := by
  unfold isU at h
  split at h
  · rw [beq_iff_eq] at h; rw [h]
  · cases h
theorem u_all : (List.range 65).all (fun n => isU (aInt .and .u64 (n : Int) 4294967295) n && isU (aInt .shr .u64 (n : Int) 32) 0 && isU (aInt .mul .u64 1 (n : Int)) n && isU (aInt .mul .u64 0 (n : Int)) 0) = true := by kernel_rfl
theorem mul64_c {n : Nat} (hn : n ≤ 64) : Contract Tryz.prog 106 [U 1, U n] (.tuple [U 0, U n]) := by
  have h := List.all_eq_true.1 u_all n (by simp; omega)
  simp only [Bool.and_eq_true] at h
  obtain ⟨⟨⟨h1, h2⟩, h3⟩, h4⟩ := h
  replace h1 := isU_eq h1
  replace h2 := isU_eq h2
  replace h3 := isU_eq h3
  replace h4 := isU_eq h4
  have a1 : aInt .and .u64 1 4294967295 = some (U 1) := by kernel_rfl
  have a2 : aInt .shr .u64 1 32 = some (U 0) := by kernel_rfl
  have a3 : aInt .and .u64 0 4294967295 = some (U 0) := by kernel_rfl
  have a4 : aInt .shr .u64 0 32 = some (U 0) := by kernel_rfl
  have a5 : aInt .mul .u64 1 0 = some (U 0) := by kernel_rfl
  have a6 : aInt .mul .u64 0 0 = some (U 0) := by kernel_rfl
  have a7 : aInt .add .u64 0 0 = some (U 0) := by kernel_rfl
  refine zi Tryz.func106 ?_
  simp (disch := first | assumption | omega | rfl | simp only [RH]) only [↓RP, RZ, ↓reduceIte, Nat.reduceEqDiff, reduceCtorEq, Nat.reduceBEq, Nat.reduceAdd, Nat.reduceLeDiff, h1, h2, h3, h4, a1, a2, a3, a4, a5, a6, a7]
  exact zq2
  first | done | rfl
theorem mul_c {n : Nat} (hn : n ≤ 64) : Contract Tryz.prog 86 [.val (.int .u64 1), .val (.int .u64 n)] (.tuple [.val (.int .u64 0), .val (.int .u64 n)]) := by
  refine zi Tryz.func86 ?_
  refine zs ?_
  refine zc (mul64_c hn) ?_
  refine zs ?_
  exact zq2
  first | done | rfl
theorem bindK_to {r : Option AVal} {K : AVal → Prop} (v : AVal) (e : r = some v) (h : K v) : @bindK AVal r ⟨K⟩ := by rw [e]; exact h
theorem opK_index0 {P : Program} {fb fn ff fl fD fz fy dst t x i ty pos after g ρ h K} : @opK P ⟨fb, fn, ff, fl, fD, fz, fy⟩ ⟨dst, .index t x i, ty, pos, after, g⟩ ρ h K = @bindK _ (aIndex P t (ρ x) (ρ i)) ⟨fun v => K v h⟩ := opK_pure rfl rfl rfl rfl
theorem len64_c : Contract Tryz.prog 104 [U 0] (I 0) := by
  obtain ⟨d, hd⟩ := Option.isSome_iff_exists.1 (show (tyI Tryz.prog 147).isSome = true by kernel_rfl)
  obtain ⟨D, hD, hk⟩ := Option.bind_eq_some_iff.1 (show (tyI Tryz.prog 5).bind (·.kind) = some .u8 by kernel_rfl)
  obtain ⟨D3, hD3, hk3⟩ := Option.bind_eq_some_iff.1 (show (tyI Tryz.prog 3).bind (·.kind) = some .i64 by kernel_rfl)
  refine zi Tryz.func104 ?_
  refine zx3 @hd @hD @hk ?_
  rw [opK_index0]
  refine bindK_to (.val (.int .u8 0)) (by kernel_rfl) ?_
  refine zx5 @hd @hD @hk @hD3 @hk3 ?_
  refine zr1 ?_
  rfl
theorem len0_c : Contract Tryz.prog 85 [U 0] (I 0) := by
  refine zi Tryz.func85 ?_
  refine zs ?_
  refine zc (len64_c) ?_
  refine zs ?_
  exact zq1
theorem ins_nil : Contract Tryz.prog 95 [.list false true 0 [], I 0, I 0] (.tuple []) := by
  refine zi Tryz.func95 ?_
  refine zs ?_
  refine loopK_I [0, 1, 2, 6] (fun x : Nat => True) (fun x => ⟨[(0, .list false true 0 []), (1, I 0), (2, I 0), (6, I 1)], []⟩) (fun x => 0) 0 trivial kz ?_
  intro x hx
  refine zs ?_
  exact zq0
theorem pdq_nil : Contract Tryz.prog 84 [.list false true 0 [], I 0, I 0, I 0] (.tuple []) := by
  refine zi Tryz.func84 ?_
  refine zs ?_
  refine loopK_I [0, 1, 2, 3, 8, 9] (fun x : Nat => True) (fun x => ⟨[(0, .list false true 0 []), (1, I 0), (2, I 0), (3, I 0), (8, B true), (9, B true)], []⟩) (fun x => 0) 0 trivial ky ?_
  intro x hx
  refine zs ?_
  refine zc ins_nil ?_
  refine zs ?_
  exact zq0
theorem sort_nil : Contract Tryz.prog 70 [.list false true 0 []] (.tuple []) := by
  obtain ⟨d, hd⟩ := Option.isSome_iff_exists.1 (show (tyI Tryz.prog 3).isSome = true by kernel_rfl)
  obtain ⟨D, hD, hk⟩ := Option.bind_eq_some_iff.1 (show (tyI Tryz.prog 112).bind (·.kind) = some .u64 by kernel_rfl)
  refine zi Tryz.func70 ?_
  refine zx3 @hd @hD @hk ?_
  refine zc (len0_c) ?_
  refine zs ?_
  refine zc (pdq_nil) ?_
  refine zs ?_
  exact zq0
theorem apZ_gw (D : Nat → Bool) (k : Nat) (xs : List AVal) (r : Option (AVal × List AObj)) : apZ true D (gw true k xs) r = if D k = true then r else none := by
  cases xs with
  | nil => exact apZ_res D k r
  | cons a t => exact apZ_ref D k 0 _ _ r
theorem cA_any {ty es ext : Nat} {cs : List AVal} (hl : cs.length = ext) : cA (some ⟨ty, es, cs⟩) ext = some cs := by simp [cA, hl]
theorem sX_gw {g : Bool} {h : List AObj} {id a ext ty es : Nat} {cs : List AVal} {bb : Bool} {k : Nat} {xs : List AVal} (hty : ty ≠ 1000003) (hl : cs.length = ext) (hk : a < ext) : sX (some (g, 1)) h id a ext (some ⟨ty, es, cs⟩) (some [gw bb k xs]) = some (h.set id ⟨ty, es, cs.set a (gw bb k xs)⟩) := by
  rw [sX_mk hty, if_pos ⟨hl, rfl, by simp; omega, by simp [one_gw]⟩]; rfl
def LL (rs : List (List Int)) : List AVal := rs.map fun r => LR r.isEmpty r
theorem gws_res {h : List AObj} {k : Nat} {rs : List (List Int)} (m : Nat) (hh : ∀ a, a < rs.length → h[k + a]? = some (go 3 (ints (rs.getD a [])))) : (gws k rs).map (resOf h (m + 2)) = LL rs := by
  apply List.ext_getElem
  · simp [gws, LL]
  intro a h1 h2
  have ha : a < rs.length := by simpa [LL] using h2
  have hg := hh a ha
  have e : rs.getD a [] = rs[a] := by rw [List.getD_eq_getElem?_getD, List.getElem?_eq_getElem ha]; rfl
  rw [e] at hg
  simp only [gws, LL, List.getElem_map, List.getElem_mapIdx]
  generalize rs[a] = r at *
  cases r with
  | nil => rfl
  | cons x t =>
    have hp : 0 < (ints (x :: t)).length := by simp [ints]
    rw [gw_pos hp]
    rw [go_pos hp] at hg
    simp only [resOf, hg, if_true, List.drop_zero, Nat.mul_one, List.take_length]
    have := ints_res (x :: t) h m
    simp only [this, ints_length]
    rfl
theorem set_self {h : List AObj} {i : Nat} {o : AObj} (ho : h[i]? = some o) : h.set i o = h := by
  obtain ⟨hi, rfl⟩ := List.getElem?_eq_some_iff.1 ho
  exact List.set_getElem_self hi
theorem srt_inc {r : List Int} (h : r.Pairwise (· < ·)) : srt r = r := by
  apply List.mergeSort_of_pairwise
  exact h.imp fun hab => by simp; omega
theorem rX_any {h : List AObj} {m n ty : Nat} {cs : List AVal} (hl : cs.length = n) : rX h m 0 n n (some ⟨ty, 1, cs⟩) = .list true false n (cs.map (resOf h m)) := by
  subst hl
  simp [rX]
theorem newOrder_c {W H n : Nat} (hN : W + H = n) (hW0 : 0 < W) (hH0 : 0 < H) (hW : W ≤ 64) (hH : H ≤ 64) (b : Bool) {l : List Bool} (hn : l.length = W * H) :
    Contract Tryz.prog 46 [GA W H b l] (.agg [.list true false n (LL (rowsG true W H l W 0)), .list true false n (LL (rowsG false W H l W 0))]) := by
  have hWH : W * H ≤ 64 * 64 := Nat.mul_le_mul hW hH
  have hNi : ((W : Int) + (H : Int)).toNat = n := by omega
  have hcell : ofCell (.slice none 0 0) = .cap0 true := rfl
  refine Contract.intro (effS [] false [] [] [4, 48, 51, 60, 63] (fun i => !(i == 4)) [55, 67]) 6 follows Tryz.func46 rfl rfl (by kernel_rfl) (Nat.le_of_ble_eq_true rfl) ?_
  refine zx3 @make_one @hNi @hcell ?_
  refine loopK_W [1, 2, 3, 4, 21, 22] (fun x : Nat => x ≤ W) (fun x : Nat => ⟨[(1, .ptr 0 0 3), (2, .ptr 1 0 2), (3, I ((W : Int) + (H : Int))), (4, .ptr 4 0 2), (21, I W), (22, I x)], ⟨24, 3, [I W, I H, BA b l]⟩ :: ⟨84, 2, [.cap0 true, .cap0 true]⟩ :: ⟨47, 1, gws 5 (rowsG true W H l x 0)⟩ :: ⟨47, 1, gws (5 + n) (rowsG false W H l x 0)⟩ :: ⟨84, 2, [.ref 2 0 n n, .ref 3 0 n n]⟩ :: (gos (rowsG true W H l x 0) ++ gos (rowsG false W H l x 0))⟩) (fun x => W - x) 0 (by omega) ?_ ?_
  · simp only [↓RP, RG, FX, RQ, ↓reduceIte, Nat.reduceEqDiff, reduceCtorEq, Nat.reduceBEq, Nat.reduceAdd, Nat.reduceLeDiff]
    rw [rowsG_zero, rowsG_zero, hN]
    refine Wk.weak (fun t => .refl _) (.cons _ _ _ _ (WL.refl _) (.cons _ _ _ _ (WL.refl _) (.cons _ _ _ _ (WL_gws 5 n) (.cons _ _ _ _ (WL_gws (5 + n) n) (.cons _ _ _ _ (WL.refl _) (.nil _ ?_))))))
    intro o ho
    rcases List.mem_append.1 ho with h | h <;> exact gos_nil n o h
  intro x hx
  by_cases hlt : x < W
  · refine zs ?_
    refine loopK_I [1, 2, 3, 4, 5, 21, 22, 26, 27] (fun y : Nat => y ≤ H) (fun y : Nat => ⟨[(1, .ptr 0 0 3), (2, .ptr 1 0 2), (3, I ((W : Int) + (H : Int))), (4, .ptr 4 0 2), (5, I x), (21, I W), (22, I x), (26, I H), (27, I y)], ⟨24, 3, [I W, I H, BA b l]⟩ :: ⟨84, 2, [.cap0 true, .cap0 true]⟩ :: ⟨47, 1, gws 5 (rowsG true W H l x y)⟩ :: ⟨47, 1, gws (5 + n) (rowsG false W H l x y)⟩ :: ⟨84, 2, [.ref 2 0 n n, .ref 3 0 n n]⟩ :: (gos (rowsG true W H l x y) ++ gos (rowsG false W H l x y))⟩) (fun y => H - y) 0 (by omega) kz ?_
    intro y hy
    by_cases hlt2 : y < H
    · have lB := rowsG_len true W H l x y
      have lA := rowsG_len false W H l x y
      have hil := idx_lt hlt hlt2
      have hid := idx_nat W y x
      have hxw : (y : Int) * (W : Int) = ((W * y : Nat) : Int) := by rw [Int.natCast_mul, Int.mul_comm]
      have hwy : W * y ≤ 64 * 64 := Nat.mul_le_mul (by omega) (by omega)
      have hcst : (W : Int) + (y : Int) = ((W + y : Nat) : Int) := by omega
      have hix : (((W * y : Nat) : Int) + (x : Int)).toNat = W * y + x := by omega
      cases hb : l.getD (W * y + x) false with
      | true =>
        have sB := rowsG_step true l hlt hlt2 true hb
        have sA := rowsG_step false l hlt hlt2 true hb
        rw [if_pos rfl, if_pos rfl, ← rowsG_get (by omega)] at sB
        rw [if_neg (by simp), if_neg (by simp), ← rowsG_get (by omega)] at sA
        have zB : ((rowsG true W H l x y).getD x []).length ≤ 200 := by rw [rowsG_get (by omega)]; have := rowG_le (v := true) (l := l) (a := x) hlt hlt2; omega
        have zA : ((rowsG false W H l x y).getD (W + y) []).length ≤ 200 := by rw [rowsG_get (by omega)]; have := rowG_le (v := false) (l := l) (a := W + y) hlt hlt2; omega
        generalize rowsG true W H l x y = rB at *
        generalize rowsG false W H l x y = rA at *
        generalize hB' : rowsG true W H l x (y + 1) = rB' at *
        generalize hA' : rowsG false W H l x (y + 1) = rA' at *
        have lB' : rB'.length = n := by rw [sB, List.length_set]; omega
        have gB : (gws 5 rB).length = n := by rw [gws_len]; omega
        have gA : (gws (5 + n) rA).length = n := by rw [gws_len]; omega
        have gB' : (gws 5 rB').length = n := by rw [gws_len]; omega
        have a1 := gws_at (k := 5) (show x < rB.length by omega)
        have a2 := gws_at (k := 5 + n) (show W + y < rA.length by omega)
        have d1 : (5 + x == 4) = false := beq_eq_false_iff_ne.2 (by omega)
        have d2 : (5 + n + (W + y) == 4) = false := beq_eq_false_iff_ne.2 (by omega)
        have o1 : (⟨24, 3, [I W, I H, BA b l]⟩ :: ⟨84, 2, [.cap0 true, .cap0 true]⟩ :: ⟨47, 1, gws 5 rB⟩ :: ⟨47, 1, gws (5 + n) rA⟩ :: ⟨84, 2, [.ref 2 0 n n, .ref 3 0 n n]⟩ :: (gos rB ++ gos rA))[5 + x]? = some (go 3 (ints (rB.getD x []))) := h5_atB (by omega)
        have t1 : (⟨24, 3, [I W, I H, BA b l]⟩ :: ⟨84, 2, [.cap0 true, .cap0 true]⟩ :: ⟨47, 1, gws 5 rB⟩ :: ⟨47, 1, gws (5 + n) rA⟩ :: ⟨84, 2, [.ref 2 0 n n, .ref 3 0 n n]⟩ :: (gos rB ++ gos rA)).set (5 + x) (go 3 (ints (rB.getD x [] ++ [((W + y : Nat) : Int)]))) = ⟨24, 3, [I W, I H, BA b l]⟩ :: ⟨84, 2, [.cap0 true, .cap0 true]⟩ :: ⟨47, 1, gws 5 rB⟩ :: ⟨47, 1, gws (5 + n) rA⟩ :: ⟨84, 2, [.ref 2 0 n n, .ref 3 0 n n]⟩ :: (gos rB' ++ gos rA) := by rw [h5_setB (by omega), ← sB]
        have p1 : (gws 5 rB).set x (gw true (5 + x) (ints (rB.getD x [] ++ [((W + y : Nat) : Int)]))) = gws 5 rB' := by rw [gws_set, ← sB]
        have o2 : (⟨24, 3, [I W, I H, BA b l]⟩ :: ⟨84, 2, [.cap0 true, .cap0 true]⟩ :: ⟨47, 1, gws 5 rB'⟩ :: ⟨47, 1, gws (5 + n) rA⟩ :: ⟨84, 2, [.ref 2 0 n n, .ref 3 0 n n]⟩ :: (gos rB' ++ gos rA))[5 + n + (W + y)]? = some (go 3 (ints (rA.getD (W + y) []))) := h5_atA lB' (by omega)
        have t2 : (⟨24, 3, [I W, I H, BA b l]⟩ :: ⟨84, 2, [.cap0 true, .cap0 true]⟩ :: ⟨47, 1, gws 5 rB'⟩ :: ⟨47, 1, gws (5 + n) rA⟩ :: ⟨84, 2, [.ref 2 0 n n, .ref 3 0 n n]⟩ :: (gos rB' ++ gos rA)).set (5 + n + (W + y)) (go 3 (ints (rA.getD (W + y) [] ++ [(x : Int)]))) = ⟨24, 3, [I W, I H, BA b l]⟩ :: ⟨84, 2, [.cap0 true, .cap0 true]⟩ :: ⟨47, 1, gws 5 rB'⟩ :: ⟨47, 1, gws (5 + n) rA⟩ :: ⟨84, 2, [.ref 2 0 n n, .ref 3 0 n n]⟩ :: (gos rB' ++ gos rA') := by rw [h5_setA lB', ← sA]
        have p2 : (gws (5 + n) rA).set (W + y) (gw true (5 + n + (W + y)) (ints (rA.getD (W + y) [] ++ [(x : Int)]))) = gws (5 + n) rA' := by rw [gws_set, ← sA]
        simp (disch := first | assumption | omega | rfl | simp only [RH]) only [↓RP, RZ, ↓reduceIte, Nat.reduceEqDiff, reduceCtorEq, Nat.reduceBEq, Nat.reduceAdd, Nat.reduceLeDiff, hxw, hcst, hix, hb, cA_any, a1, a2, apZ_gw, sX_gw, d1, d2, append_int, t1, p1, t2, p2]
        exact ⟨y + 1, by omega, by rw [hB', hA']; rfl, by omega⟩
      | false =>
        have sB := rowsG_step true l hlt hlt2 false hb
        have sA := rowsG_step false l hlt hlt2 false hb
        rw [if_neg (by simp), if_neg (by simp), ← rowsG_get (by omega)] at sB
        rw [if_pos rfl, if_pos rfl, ← rowsG_get (by omega)] at sA
        have zB : ((rowsG true W H l x y).getD (W + y) []).length ≤ 200 := by rw [rowsG_get (by omega)]; have := rowG_le (v := true) (l := l) (a := W + y) hlt hlt2; omega
        have zA : ((rowsG false W H l x y).getD x []).length ≤ 200 := by rw [rowsG_get (by omega)]; have := rowG_le (v := false) (l := l) (a := x) hlt hlt2; omega
        generalize rowsG true W H l x y = rB at *
        generalize rowsG false W H l x y = rA at *
        generalize hB' : rowsG true W H l x (y + 1) = rB' at *
        generalize hA' : rowsG false W H l x (y + 1) = rA' at *
        have lB' : rB'.length = n := by rw [sB, List.length_set]; omega
        have gB : (gws 5 rB).length = n := by rw [gws_len]; omega
        have gA : (gws (5 + n) rA).length = n := by rw [gws_len]; omega
        have gB' : (gws 5 rB').length = n := by rw [gws_len]; omega
        have a1 := gws_at (k := 5) (show W + y < rB.length by omega)
        have a2 := gws_at (k := 5 + n) (show x < rA.length by omega)
        have d1 : (5 + (W + y) == 4) = false := beq_eq_false_iff_ne.2 (by omega)
        have d2 : (5 + n + x == 4) = false := beq_eq_false_iff_ne.2 (by omega)
        have o1 : (⟨24, 3, [I W, I H, BA b l]⟩ :: ⟨84, 2, [.cap0 true, .cap0 true]⟩ :: ⟨47, 1, gws 5 rB⟩ :: ⟨47, 1, gws (5 + n) rA⟩ :: ⟨84, 2, [.ref 2 0 n n, .ref 3 0 n n]⟩ :: (gos rB ++ gos rA))[5 + (W + y)]? = some (go 3 (ints (rB.getD (W + y) []))) := h5_atB (by omega)
        have t1 : (⟨24, 3, [I W, I H, BA b l]⟩ :: ⟨84, 2, [.cap0 true, .cap0 true]⟩ :: ⟨47, 1, gws 5 rB⟩ :: ⟨47, 1, gws (5 + n) rA⟩ :: ⟨84, 2, [.ref 2 0 n n, .ref 3 0 n n]⟩ :: (gos rB ++ gos rA)).set (5 + (W + y)) (go 3 (ints (rB.getD (W + y) [] ++ [(x : Int)]))) = ⟨24, 3, [I W, I H, BA b l]⟩ :: ⟨84, 2, [.cap0 true, .cap0 true]⟩ :: ⟨47, 1, gws 5 rB⟩ :: ⟨47, 1, gws (5 + n) rA⟩ :: ⟨84, 2, [.ref 2 0 n n, .ref 3 0 n n]⟩ :: (gos rB' ++ gos rA) := by rw [h5_setB (by omega), ← sB]
        have p1 : (gws 5 rB).set (W + y) (gw true (5 + (W + y)) (ints (rB.getD (W + y) [] ++ [(x : Int)]))) = gws 5 rB' := by rw [gws_set, ← sB]
        have o2 : (⟨24, 3, [I W, I H, BA b l]⟩ :: ⟨84, 2, [.cap0 true, .cap0 true]⟩ :: ⟨47, 1, gws 5 rB'⟩ :: ⟨47, 1, gws (5 + n) rA⟩ :: ⟨84, 2, [.ref 2 0 n n, .ref 3 0 n n]⟩ :: (gos rB' ++ gos rA))[5 + n + x]? = some (go 3 (ints (rA.getD x []))) := h5_atA lB' (by omega)
        have t2 : (⟨24, 3, [I W, I H, BA b l]⟩ :: ⟨84, 2, [.cap0 true, .cap0 true]⟩ :: ⟨47, 1, gws 5 rB'⟩ :: ⟨47, 1, gws (5 + n) rA⟩ :: ⟨84, 2, [.ref 2 0 n n, .ref 3 0 n n]⟩ :: (gos rB' ++ gos rA)).set (5 + n + x) (go 3 (ints (rA.getD x [] ++ [((W + y : Nat) : Int)]))) = ⟨24, 3, [I W, I H, BA b l]⟩ :: ⟨84, 2, [.cap0 true, .cap0 true]⟩ :: ⟨47, 1, gws 5 rB'⟩ :: ⟨47, 1, gws (5 + n) rA⟩ :: ⟨84, 2, [.ref 2 0 n n, .ref 3 0 n n]⟩ :: (gos rB' ++ gos rA') := by rw [h5_setA lB', ← sA]
        have p2 : (gws (5 + n) rA).set x (gw true (5 + n + x) (ints (rA.getD x [] ++ [((W + y : Nat) : Int)]))) = gws (5 + n) rA' := by rw [gws_set, ← sA]
        simp (disch := first | assumption | omega | rfl | simp only [RH]) only [↓RP, RZ, ↓reduceIte, Nat.reduceEqDiff, reduceCtorEq, Nat.reduceBEq, Nat.reduceAdd, Nat.reduceLeDiff, hxw, hcst, hix, hb, cA_any, a1, a2, apZ_gw, sX_gw, d1, d2, append_int, t1, p1, t2, p2]
        exact ⟨y + 1, by omega, by rw [hB', hA']; rfl, by omega⟩
    · obtain rfl : y = H := by omega
      refine zs ?_
      exact ⟨x + 1, by omega, by rw [rowsG_row, rowsG_row]; rfl, by omega⟩
  · obtain rfl : x = W := by omega
    refine zs ?_
    have lB := rowsG_len true x H l x 0
    have lA := rowsG_len false x H l x 0
    have sS : ∀ a, a < n → ((rowsG true x H l x 0).getD a []).Pairwise (· < ·) ∧ ((rowsG true x H l x 0).getD a []).length ≤ 200 := fun a ha => by
      rw [rowsG_get (by omega)]; exact ⟨rowG_inc _ _ _ _ _ _ _, rowG_end (by omega) (by omega)⟩
    generalize rowsG true x H l x 0 = rB at *
    generalize rowsG false x H l x 0 = rA at *
    have gB : (gws 5 rB).length = n := by rw [gws_len]; omega
    have gA : (gws (5 + n) rA).length = n := by rw [gws_len]; omega
    refine loopK_I [1, 2, 4, 74, 75] (fun a : Nat => a ≤ n) (fun a : Nat => ⟨[(1, .ptr 0 0 3), (2, .ptr 1 0 2), (4, .ptr 4 0 2), (74, I ((x : Int) + (H : Int))), (75, I a)], ⟨24, 3, [I x, I H, BA b l]⟩ :: ⟨84, 2, [.cap0 true, .cap0 true]⟩ :: ⟨47, 1, gws 5 rB⟩ :: ⟨47, 1, gws (5 + n) rA⟩ :: ⟨84, 2, [.ref 2 0 n n, .ref 3 0 n n]⟩ :: (gos rB ++ gos rA)⟩) (fun a => n - a) 0 (by omega) kz ?_
    intro a ha
    by_cases hlt3 : a < n
    · have a1 := gws_at (k := 5) (show a < rB.length by omega)
      obtain ⟨s1, s2⟩ := sS a hlt3
      have o1 : (⟨24, 3, [I x, I H, BA b l]⟩ :: ⟨84, 2, [.cap0 true, .cap0 true]⟩ :: ⟨47, 1, gws 5 rB⟩ :: ⟨47, 1, gws (5 + n) rA⟩ :: ⟨84, 2, [.ref 2 0 n n, .ref 3 0 n n]⟩ :: (gos rB ++ gos rA))[5 + a]? = some (go 3 (ints (rB.getD a []))) := h5_atB (by omega)
      refine zx2 @cA_any @a1 ?_
      generalize rB.getD a [] = ra at *
      cases ra with
      | nil =>
        refine callK_F 6 sort_nil (by rfl) (.inl (by simp [allFresh])) ?_
        refine zs ?_
        exact ⟨a + 1, by omega, rfl, by omega⟩
      | cons v t =>
        have hp : 0 < (ints (v :: t)).length := by simp [ints]
        rw [gw_pos hp, ints_length]
        rw [go_pos hp] at o1
        refine callK_T rfl (sort_spec (ρ := Tryz.lays189_ren) Tryz.lays189 (by kernel_rfl) (id := 5 + a) o1 (by decide) (n := (v :: t).length) rfl (by omega)) ?_
        rw [srt_inc s1, set_self o1]
        refine zs ?_
        exact ⟨a + 1, by omega, rfl, by omega⟩
    · obtain rfl : a = n := by omega
      refine zx1 @cA_any ?_
      have f1 := gws_res (h := (⟨24, 3, [I x, I H, BA b l]⟩ :: ⟨84, 2, [.ref 2 0 a a, .ref 3 0 a a]⟩ :: ⟨47, 1, gws 5 rB⟩ :: ⟨47, 1, gws (5 + a) rA⟩ :: ⟨84, 2, [.ref 2 0 a a, .ref 3 0 a a]⟩ :: (gos rB ++ gos rA))) (k := 5) (rs := rB) 2 (fun i hi => h5_atB hi)
      have f2 := gws_res (h := (⟨24, 3, [I x, I H, BA b l]⟩ :: ⟨84, 2, [.ref 2 0 a a, .ref 3 0 a a]⟩ :: ⟨47, 1, gws 5 rB⟩ :: ⟨47, 1, gws (5 + a) rA⟩ :: ⟨84, 2, [.ref 2 0 a a, .ref 3 0 a a]⟩ :: (gos rB ++ gos rA))) (k := 5 + a) (rs := rA) 2 (fun i hi => h5_atA (by omega) hi)
      refine zr1 ?_
      rw [rX_any gB, rX_any gA, f1, f2]
def ov (W : Nat) (l : List Bool) (a b : Nat) : Bool :=
  if a < W then (if b < W then false else l.getD (W * (b - W) + a) false) else (if b < W then !l.getD (W * (a - W) + b) false else false)
def sel (n : Nat) (p : Nat → Bool) : List Int := ((List.range n).filter p).map fun i : Nat => (i : Int)
theorem sel_inc (n : Nat) (p : Nat → Bool) : (sel n p).Pairwise (· < ·) := by
  unfold sel
  rw [List.pairwise_map]
  exact (List.Pairwise.filter _ List.pairwise_lt_range).imp fun h => by omega
theorem sel_mem {n : Nat} {p : Nat → Bool} {x : Int} : x ∈ sel n p ↔ ∃ i : Nat, i < n ∧ p i = true ∧ x = i := by
  simp only [sel, List.mem_map, List.mem_filter, List.mem_range]
  exact ⟨fun ⟨i, ⟨h1, h2⟩, h3⟩ => ⟨i, h1, h2, h3.symm⟩, fun ⟨i, h1, h2, h3⟩ => ⟨i, ⟨h1, h2⟩, h3.symm⟩⟩
theorem sel_len (n : Nat) (p : Nat → Bool) : (sel n p).length ≤ n := by
  unfold sel
  rw [List.length_map]
  exact Nat.le_trans (List.length_filter_le _ _) (by simp)
theorem sel_split (W H : Nat) (p : Nat → Bool) : sel (W + H) p = sel W p ++ ((List.range H).filter fun j => p (W + j)).map fun j => ((W + j : Nat) : Int) := by
  unfold sel
  rw [List.range_add, List.filter_append, List.map_append, List.filter_map, List.map_map]
  rfl
theorem sel_none {n : Nat} {p : Nat → Bool} (h : ∀ i, i < n → p i = false) : sel n p = [] := by
  unfold sel
  rw [List.filter_eq_nil_iff.2 (fun i hi => by rw [h i (by simpa using hi)]; simp)]
  rfl
theorem rowG_sel {v : Bool} {W H : Nat} {l : List Bool} {a : Nat} (ha : a < W + H) : rowG v W H l W 0 a = sel (W + H) fun b => if v then ov W l a b else ov W l b a := by
  rw [sel_split]
  unfold rowG
  by_cases h : a < W
  · rw [if_pos h, if_pos h, sel_none, List.nil_append]
    · congr 1
      apply List.filter_congr
      intro j hj
      have h1 : ¬ W + j < W := by omega
      have h2 : W + j - W = j := by omega
      cases v
      · simp [ov, h, h1, h2]
      · simp [ov, h, h1, h2]
    · intro i hi
      cases v <;> simp [ov, h, hi]
  · rw [if_neg h, if_neg (by omega)]
    have e2 : ((List.range H).filter fun j => if v = true then ov W l a (W + j) else ov W l (W + j) a) = [] := by
      rw [List.filter_eq_nil_iff]
      intro j hj
      have h1 : ¬ W + j < W := by omega
      cases v <;> simp [ov, h, h1]
    rw [e2, List.map_nil, List.append_nil]
    unfold sel
    congr 1
    apply List.filter_congr
    intro i hi
    have hi : i < W := by simpa using hi
    cases v
    · simp [ov, h, hi]
    · simp [ov, h, hi]
def bel (W n : Nat) (l : List Bool) : List (List Int) := (List.range n).map fun a => sel n fun b => ov W l a b
def abv (W n : Nat) (l : List Bool) : List (List Int) := (List.range n).map fun a => sel n fun b => ov W l b a
theorem rowsG_bel {W H n : Nat} (hN : W + H = n) (l : List Bool) : rowsG true W H l W 0 = bel W n l ∧ rowsG false W H l W 0 = abv W n l := by
  subst hN
  constructor
  · unfold rowsG bel
    apply List.map_congr_left
    intro a ha
    rw [rowG_sel (by simpa using ha)]; rfl
  · unfold rowsG abv
    apply List.map_congr_left
    intro a ha
    rw [rowG_sel (by simpa using ha)]; rfl
theorem order_c {W H n : Nat} (hN : W + H = n) (hW0 : 0 < W) (hH0 : 0 < H) (hW : W ≤ 64) (hH : H ≤ 64) (b : Bool) {l : List Bool} (hn : l.length = W * H) :
    Contract Tryz.prog 46 [GA W H b l] (.agg [.list true false n (LL (bel W n l)), .list true false n (LL (abv W n l))]) := by
  obtain ⟨h1, h2⟩ := rowsG_bel hN l
  have := newOrder_c hN hW0 hH0 hW hH b hn
  rwa [h1, h2] at this
theorem LL_at {rs : List (List Int)} {a : Nat} (ha : a < rs.length) : ((LL rs).drop a)[0]? = some (LR (rs.getD a []).isEmpty (rs.getD a [])) := by
  rw [List.getElem?_drop, Nat.add_zero, LL, List.getElem?_map, List.getElem?_eq_getElem ha, List.getD_eq_getElem?_getD, List.getElem?_eq_getElem ha]; rfl
theorem bel_get {W n : Nat} {l : List Bool} {a : Nat} (ha : a < n) : (bel W n l).getD a [] = sel n fun b => ov W l a b := by
  simp [bel, List.getD_eq_getElem?_getD, List.getElem?_range ha]
theorem abv_get {W n : Nat} {l : List Bool} {a : Nat} (ha : a < n) : (abv W n l).getD a [] = sel n fun b => ov W l b a := by
  simp [abv, List.getD_eq_getElem?_getD, List.getElem?_range ha]
theorem isThread_c (W H : Nat) (b : Bool) (l : List Bool) (a : Int) (hW : W ≤ 64) (hH : H ≤ 64) : Contract Tryz.prog 48 [GA W H b l, I a] (B (decide (0 ≤ a ∧ a < (W : Int) + H))) := by
  refine zi Tryz.func48 ?_
  by_cases h1 : 0 ≤ a
  · by_cases h2 : a < (W : Int) + H
    · refine zs ?_
      exact zq1
      first | done | simp [h1, h2]
    · refine zs ?_
      exact zq1
      first | done | simp [h1, h2]
  · refine zs ?_
    exact zq1
    first | done | simp [h1]
def IsPl (l : List Int) (x : Int) (k : Nat) (r : Int) : Prop := (∃ i : Nat, i < k ∧ l.getD i 0 = x ∧ (∀ j, j < i → l.getD j 0 ≠ x) ∧ r = i) ∨ ((∀ j, j < k → l.getD j 0 ≠ x) ∧ r = -1)
theorem isPl_ex (l : List Int) (x : Int) : ∀ k, ∃ r, IsPl l x k r ∧ (0 ≤ r ↔ ∃ i, i < k ∧ l.getD i 0 = x) := by
  intro k
  induction k with
  | zero => exact ⟨-1, .inr ⟨fun j hj => by omega, rfl⟩, by omega, fun ⟨i, hi, _⟩ => by omega⟩
  | succ k ih =>
    obtain ⟨r, hr, hi⟩ := ih
    rcases hr with ⟨i, h1, h2, h3, h4⟩ | ⟨h1, h2⟩
    · exact ⟨r, .inl ⟨i, by omega, h2, h3, h4⟩, fun _ => ⟨i, by omega, h2⟩, fun _ => by omega⟩
    · by_cases hk : l.getD k 0 = x
      · exact ⟨k, .inl ⟨k, by omega, hk, fun j hj => h1 j hj, rfl⟩, fun _ => ⟨k, by omega, hk⟩, fun _ => by omega⟩
      · refine ⟨-1, .inr ⟨fun j hj => ?_, rfl⟩, by omega, fun ⟨i, h3, h4⟩ => ?_⟩
        · by_cases hjk : j = k
          · subst hjk; exact hk
          · exact h1 j (by omega)
        · by_cases hik : i = k
          · subst hik; exact absurd h4 hk
          · exact absurd h4 (h1 i (by omega))
def has (l : List Int) (x : Int) : Prop := ∃ i, i < l.length ∧ l.getD i 0 = x
instance (l : List Int) (x : Int) : Decidable (has l x) := by unfold has; infer_instance
theorem index_c (b : Bool) (l : List Int) (x : Int) (hl : l.length ≤ 1000000) (r : Int) (hr : IsPl l x l.length r) : Contract Tryz.prog 89 [LA b l, I x] (I r) := by
  refine zi Tryz.func89 ?_
  refine zs ?_
  refine loopK_I [0, 1, 7, 8] (fun i : Nat => i ≤ l.length ∧ ∀ j, j < i → l.getD j 0 ≠ x) (fun i : Nat => ⟨[(0, LA b l), (1, I x), (7, I l.length), (8, I i)], []⟩) (fun i => l.length - i) 0 ⟨by omega, fun j hj => by omega⟩ kz ?_
  rintro i ⟨hi, hne⟩
  by_cases hlt : i < l.length
  · by_cases he : x = l.getD i 0
    · refine zs ?_
      refine zr1 ?_
      rcases hr with ⟨i', h1, h2, h3, rfl⟩ | ⟨h1, rfl⟩
      · have : i' = i := by
          rcases Nat.lt_trichotomy i' i with h | h | h
          · exact absurd h2 (hne i' h)
          · exact h
          · exact absurd he.symm (h3 i h)
        rw [this]
      · exact absurd he.symm (h1 i hlt)
    · refine zs ?_
      refine ⟨i + 1, ⟨by omega, fun j hj => ?_⟩, rfl, by omega⟩
      by_cases hji : j = i
      · subst hji; exact fun h => he h.symm
      · exact hne j (by omega)
  · obtain rfl : i = l.length := by omega
    refine zs ?_
    refine zr1 ?_
    rcases hr with ⟨i', h1, h2, h3, rfl⟩ | ⟨h1, rfl⟩
    · exact absurd h2 (hne i' h1)
    · rfl
theorem contains_c (b : Bool) (l : List Int) (x : Int) (hl : l.length ≤ 1000000) : Contract Tryz.prog 80 [LA b l, I x] (B (decide (x ∈ l))) := by
  obtain ⟨r, hr, h⟩ := isPl_ex l x l.length
  have hm : 0 ≤ r ↔ x ∈ l := by
    rw [h]
    constructor
    · rintro ⟨i, hi, e⟩
      rw [← e, List.getD_eq_getElem?_getD, List.getElem?_eq_getElem hi]; exact List.getElem_mem hi
    · intro hx
      obtain ⟨i, hi, e⟩ := List.mem_iff_getElem.1 hx
      exact ⟨i, hi, by rw [List.getD_eq_getElem?_getD, List.getElem?_eq_getElem hi]; exact e⟩
  refine zi Tryz.func80 ?_
  refine zs ?_
  refine zc (index_c b l x hl r hr) ?_
  by_cases h0 : 0 ≤ r
  · have := hm.1 h0
    refine zs ?_
    exact zq1
    first | done | simp [this]
  · have : x ∉ l := fun h => h0 (hm.2 h)
    refine zs ?_
    exact zq1
    first | done | simp [this]
def inner (c : Nat) : List Nat → List Int × List Nat → List Int × List Nat
  | [], s => s
  | b :: r, s => if s.1.getD b 0 < 0 then inner c r (s.1.set b (s.1.getD c 0 + 1), s.2 ++ [b]) else inner c r s
def bfs (adj : Nat → List Nat) : Nat → List Int → List Nat → List Int
  | 0, far, _ => far
  | _ + 1, far, [] => far
  | k + 1, far, c :: q => bfs adj k (inner c (adj c) (far, q)).1 (inner c (adj c) (far, q)).2
def neg (far : List Int) : Nat := far.countP fun x => decide (x < 0)
structure Sound (n : Nat) (far : List Int) (q : List Nat) : Prop where
  len : far.length = n
  mem : ∀ c ∈ q, c < n
  low : ∀ i, i < n → -1 ≤ far.getD i 0
  high : ∀ i, i < n → far.getD i 0 + neg far ≤ n
theorem neg_set {far : List Int} {b : Nat} {v : Int} (hb : b < far.length) (h : far.getD b 0 < 0) (hv : 0 ≤ v) : neg (far.set b v) + 1 = neg far := by
  induction far generalizing b with
  | nil => simp at hb
  | cons x r ih =>
    cases b with
    | zero =>
      simp only [List.getD_cons_zero] at h
      simp only [neg, List.set_cons_zero, List.countP_cons]
      simp [h, Int.not_lt.2 hv]
    | succ b =>
      have := ih (b := b) (by simpa using hb) (by simpa using h)
      simp only [neg, List.set_cons_succ, List.countP_cons] at this ⊢
      omega
theorem getD_set' {far : List Int} {b i : Nat} {v : Int} (hb : b < far.length) : (far.set b v).getD i 0 = if i = b then v else far.getD i 0 := by
  simp only [List.getD_eq_getElem?_getD, List.getElem?_set]
  by_cases h : b = i
  · subst h; simp [hb]
  · simp [h, Ne.symm h]
theorem Sound.push {n : Nat} {far : List Int} {q : List Nat} (h : Sound n far q) {b c : Nat} (hb : b < n) (hc : c < n) (hn : far.getD b 0 < 0) : Sound n (far.set b (far.getD c 0 + 1)) (q ++ [b]) ∧ neg (far.set b (far.getD c 0 + 1)) + 1 = neg far := by
  have hbl : b < far.length := by rw [h.len]; exact hb
  have h1 := h.low c hc
  have h2 := h.high c hc
  have h3 := neg_set hbl hn (show 0 ≤ far.getD c 0 + 1 by omega)
  refine ⟨⟨by rw [List.length_set]; exact h.len, fun x hx => ?_, fun i hi => ?_, fun i hi => ?_⟩, h3⟩
  · rcases List.mem_append.1 hx with g | g
    · exact h.mem x g
    · simp at g; omega
  · rw [getD_set' hbl]
    have := h.low i hi
    split <;> omega
  · rw [getD_set' hbl]
    have := h.high i hi
    split <;> omega
theorem Sound.tail {n : Nat} {far : List Int} {c : Nat} {q : List Nat} (h : Sound n far (c :: q)) : Sound n far q := ⟨h.len, fun x hx => h.mem x (List.mem_cons_of_mem _ hx), h.low, h.high⟩
theorem inner_ok {n : Nat} {c : Nat} (hc : c < n) : ∀ (adj : List Nat) (far : List Int) (q : List Nat), (∀ b ∈ adj, b < n) → Sound n far q → Sound n (inner c adj (far, q)).1 (inner c adj (far, q)).2 ∧ 2 * neg (inner c adj (far, q)).1 + (inner c adj (far, q)).2.length ≤ 2 * neg far + q.length
  | [], far, q, _, h => ⟨h, Nat.le_refl _⟩
  | b :: r, far, q, ha, h => by
    have ha' : ∀ x ∈ r, x < n := fun x hx => ha x (List.mem_cons_of_mem _ hx)
    simp only [inner]
    split
    · rename_i hneg
      obtain ⟨h1, h2⟩ := h.push (ha b List.mem_cons_self) hc hneg
      obtain ⟨h3, h4⟩ := inner_ok hc r _ _ ha' h1
      refine ⟨h3, ?_⟩
      simp only [List.length_append, List.length_singleton] at h4
      omega
    · exact inner_ok hc r far q ha' h
theorem bfs_nil (adj : Nat → List Nat) (k : Nat) (far : List Int) : bfs adj k far [] = far := by cases k <;> rfl
theorem bfs_more {n : Nat} {adj : Nat → List Nat} (ha : ∀ c, c < n → ∀ b ∈ adj c, b < n) : ∀ (k m : Nat) (far : List Int) (q : List Nat), Sound n far q → 2 * neg far + q.length ≤ k → k ≤ m → bfs adj m far q = bfs adj k far q := by
  intro k
  induction k with
  | zero =>
    intro m far q h hk hm
    have : q = [] := List.eq_nil_of_length_eq_zero (by omega)
    subst this
    rw [bfs_nil, bfs_nil]
  | succ k ih =>
    intro m far q h hk hm
    cases q with
    | nil => rw [bfs_nil, bfs_nil]
    | cons c q =>
      obtain ⟨m, rfl⟩ : ∃ m', m = m' + 1 := ⟨m - 1, by omega⟩
      have hc := h.mem c List.mem_cons_self
      obtain ⟨h1, h2⟩ := inner_ok hc (adj c) far q (ha c hc) h.tail
      simp only [List.length_cons] at hk
      simp only [bfs]
      exact ih m _ _ h1 (by omega) (by omega)
def far0 (n a : Nat) : List Int := (List.replicate n (-1)).set a 0
theorem far0_sound {n a : Nat} (ha : a < n) : Sound n (far0 n a) [a] ∧ neg (far0 n a) + 1 = n := by
  have h0 : neg (List.replicate n (-1)) = n := by simp [neg, List.countP_replicate]
  have h1 : (List.replicate n (-1 : Int)).getD a 0 = -1 := by simp [List.getD_eq_getElem?_getD, List.getElem?_replicate, ha]
  have h2 := neg_set (far := List.replicate n (-1)) (b := a) (v := 0) (by simpa using ha) (by rw [h1]; omega) (by omega)
  rw [h0] at h2
  refine ⟨⟨by simp [far0], fun c hc => by simp at hc; omega, fun i hi => ?_, fun i hi => ?_⟩, h2⟩
  · unfold far0
    rw [getD_set' (by simpa using ha)]
    split
    · omega
    · simp [List.getD_eq_getElem?_getD, List.getElem?_replicate, hi]
  · have h2' : neg (far0 n a) + 1 = n := h2
    unfold far0 at h2' ⊢
    rw [getD_set' (by simpa using ha)]
    split
    · omega
    · have : (List.replicate n (-1 : Int)).getD i 0 = -1 := by simp [List.getD_eq_getElem?_getD, List.getElem?_replicate, hi]
      omega
theorem nodup_lt : ∀ (m : Nat) (l : List Nat), l.Nodup → (∀ x ∈ l, x < m) → l.length ≤ m := by
  intro m
  induction m with
  | zero =>
    intro l _ h
    cases l with
    | nil => exact Nat.le_refl _
    | cons x r => have := h x (by simp); omega
  | succ m ih =>
    intro l hn h
    by_cases hm : m ∈ l
    · have h1 := ih (l.erase m) (hn.erase m) (fun x hx => by
        have h2 := (hn.mem_erase_iff).1 hx
        have := h x h2.2
        have := h2.1
        omega)
      rw [List.length_erase_of_mem hm] at h1
      omega
    · have h1 := ih l hn (fun x hx => by
        have := h x hx
        have : x ≠ m := fun e => hm (e ▸ hx)
        omega)
      omega
section
variable {α : Type} [DecidableEq α] {β : Type} [DecidableEq β]
end
def nI (l : List Nat) : List Int := l.map fun n : Nat => (n : Int)
theorem nI_len (l : List Nat) : (nI l).length = l.length := by simp [nI]
theorem nI_app (l : List Nat) (n : Nat) : nI (l ++ [n]) = nI l ++ [(n : Int)] := by simp [nI]
theorem nI_get (l : List Nat) (k : Nat) : (nI l).getD k 0 = ((l.getD k 0 : Nat) : Int) := by
  simp only [nI, List.getD_eq_getElem?_getD, List.getElem?_map]
  cases l[k]? <;> rfl
def srch (adj : Nat → List Nat) (far : List Int) (q : List Nat) : List Int := bfs adj (2 * neg far + q.length) far q
theorem srch_nil (adj : Nat → List Nat) (far : List Int) : srch adj far [] = far := bfs_nil _ _ _
theorem srch_step {n : Nat} {adj : Nat → List Nat} (ha : ∀ c, c < n → ∀ b ∈ adj c, b < n) {far : List Int} {c : Nat} {q : List Nat} (h : Sound n far (c :: q)) : srch adj far (c :: q) = srch adj (inner c (adj c) (far, q)).1 (inner c (adj c) (far, q)).2 := by
  have hc := h.mem c List.mem_cons_self
  obtain ⟨h1, h2⟩ := inner_ok hc (adj c) far q (ha c hc) h.tail
  unfold srch
  rw [show 2 * neg far + (c :: q).length = (2 * neg far + q.length) + 1 by simp only [List.length_cons]; omega]
  show bfs adj _ _ _ = _
  exact bfs_more ha _ _ _ _ h1 (Nat.le_refl _) h2
def adjT (W n : Nat) (l : List Bool) (c : Nat) : List Nat := (List.range n).filter fun b => ov W l b c
theorem adjT_lt {W n : Nat} {l : List Bool} {c b : Nat} (h : b ∈ adjT W n l c) : b < n := by
  simp only [adjT, List.mem_filter, List.mem_range] at h; exact h.1
def rep (n k : Nat) : List Int := List.replicate k (-1) ++ List.replicate (n - k) 0
theorem rep_len {n k : Nat} (hk : k ≤ n) : (rep n k).length = n := by simp [rep]; omega
theorem rep_more {n k : Nat} (hk : 0 < k) (hn : k < n) : over (rep n k) k ((rep n k).take (Nat.min k (n - k))) = rep n (k + Nat.min k (n - k)) := by
  have hm : Nat.min k (n - k) ≤ k := Nat.min_le_left _ _
  have hm2 : Nat.min k (n - k) ≤ n - k := Nat.min_le_right _ _
  generalize Nat.min k (n - k) = m at *
  have e1 : (rep n k).take m = List.replicate m (-1) := by
    rw [rep, List.take_append_of_le_length (by simp; omega), List.take_replicate, Nat.min_eq_left hm]
  have e2 : (rep n k).take k = List.replicate k (-1) := by rw [rep, List.take_left' (by simp)]
  have e3 : (rep n k).drop (k + m) = List.replicate (n - (k + m)) 0 := by
    rw [rep, List.drop_append, List.drop_eq_nil_of_le (by simp), List.nil_append, List.drop_replicate]
    congr 1
    simp; omega
  rw [over, e1, e2, List.length_replicate, e3, rep, List.replicate_append_replicate]
theorem ki3 : ∃ T, tyI Tryz.prog 3 = some T ∧ T.kind = some .i64 := by
  have h : (tyI Tryz.prog 3).any (fun T => T.kind == some .i64) = true := by kernel_rfl
  revert h
  cases tyI Tryz.prog 3 with
  | none => intro h; cases h
  | some T => intro h; exact ⟨T, rfl, by simpa using h⟩
theorem ki99 : ∃ T, tyI Tryz.prog 112 = some T ∧ T.kind = some .u64 := by
  have h : (tyI Tryz.prog 112).any (fun T => T.kind == some .u64) = true := by kernel_rfl
  revert h
  cases tyI Tryz.prog 112 with
  | none => intro h; cases h
  | some T => intro h; exact ⟨T, rfl, by simpa using h⟩
theorem wrap_u64 {n : Int} (h1 : 0 ≤ n) (h2 : n ≤ 9223372036854775807) : IntKind.u64.wrap n = n := by
  have e1 : IntKind.u64.bits = 64 := rfl
  have e2 : IntKind.u64.signed = false := rfl
  simp only [IntKind.wrap, e1, e2]
  simp
  omega
theorem repeat_s (h0 : List AObj) {n : Nat} (hn0 : 0 < n) (hn : n ≤ 64) : SpecTo Tryz.prog 73 [.lit 1 [I (-1)], I n] h0 (.ref h0.length 0 n n) (h0 ++ [⟨3, 1, ints (List.replicate n (-1))⟩]) := by
  obtain ⟨T3, hT3, hk3⟩ := ki3
  obtain ⟨T9, hT9, hk9⟩ := ki99
  refine SpecTo.intro (effS [] false) follows Tryz.func73 rfl rfl (by kernel_rfl) (Nat.le_of_ble_eq_true rfl) ?_
  refine zx6 @hT3 @hT9 @hk3 @hk9 @wrap_u64 @wrap_id ?_
  refine zc (mul_c (n := n) (by omega)) ?_
  refine zx6 @hT3 @hT9 @hk3 @hk9 @wrap_u64 @wrap_id ?_
  refine zx1 @make_int ?_
  have hc : ∀ h : List AObj, h[h0.length]? = some ⟨3, 1, ints (List.replicate n 0)⟩ → aCopy Tryz.prog 47 h (.ref h0.length 0 n n) (.lit 1 [I (-1)]) = some (I 1, h.set h0.length ⟨3, 1, ints (rep n 1)⟩) := by
    intro h hh
    have e1 : Nat.min 1 n = 1 := by have := Nat.min_eq_left (show 1 ≤ n by omega); exact this
    have := copy_ints_at (P := Tryz.prog) (t := 47) (h := h) (off := 0) (n := n) (ext := n) (m := 1) (x := .lit 1 [I (-1)]) (l := [-1]) hh (by decide) (by simp) rfl (by simp) (by rw [e1]; decide) (by rw [e1]; omega)
    rw [this, e1]
    simp [over, rep, List.drop_replicate]
  simp (disch := simp) only [↓RP, RG, FX, RQ, ↓reduceIte, Nat.reduceEqDiff, reduceCtorEq, Nat.reduceBEq, Nat.reduceAdd, Nat.reduceLeDiff, opK_copy, hc, List.set_append_right, Nat.sub_self, List.set_cons_zero, Nat.le_refl]
  have hq : ∀ (h : List AObj) (k : Nat), h[h0.length]? = some ⟨3, 1, ints (rep n k)⟩ → 0 < k → k < n → aCopy Tryz.prog 47 h (.ref h0.length k (n - k) n) (.ref h0.length 0 k n) = some (I (Nat.min k (n - k) : Nat), h.set h0.length ⟨3, 1, ints (rep n (k + Nat.min k (n - k)))⟩) := by
    intro h k hh h1 h2
    have e1 : Nat.min k (n - k) ≤ n - k := Nat.min_le_right _ _
    have e2 : 0 < Nat.min k (n - k) := by have : Nat.min k (n - k) = min k (n - k) := rfl; omega
    have hl := rep_len (n := n) (k := k) (by omega)
    have := copy_ints_at (P := Tryz.prog) (t := 47) (h := h) (id := h0.length) (off := k) (n := n - k) (ext := n) (m := k) (x := .ref h0.length 0 k n) (l := rep n k) hh (by decide) hl (by simp [sview, cellsAt, hh, hl, ints_length]) (by omega) (by omega) (by omega)
    rw [this, rep_more h1 h2]
  refine loopK_I [7, 8] (fun k : Nat => 0 < k ∧ k ≤ n) (fun k => ⟨[(7, .ref h0.length 0 n n), (8, I k)], h0 ++ [⟨3, 1, ints (rep n k)⟩]⟩) (fun k => n - k) 1 (by omega) kz ?_
  intro k ⟨hk0, hk⟩
  have hl := rep_len (n := n) (k := k) (by omega)
  by_cases hlt : k < n
  · have e1 : Nat.min k (n - k) ≤ n - k := Nat.min_le_right _ _
    have e2 : 0 < Nat.min k (n - k) := by have : Nat.min k (n - k) = min k (n - k) := rfl; omega
    simp (disch := first | omega | simp) only [↓RP, RG, FX, RQ, ↓reduceIte, Nat.reduceEqDiff, reduceCtorEq, Nat.reduceBEq, Nat.reduceAdd, Nat.reduceLeDiff, opK_copy, hq, sl_ref_lo, sl_ref_hi, List.set_append_right, Nat.sub_self, List.set_cons_zero, Nat.le_refl]
    exact ⟨k + Nat.min k (n - k), ⟨by omega, by omega⟩, by simp, by omega⟩
  · obtain rfl : k = n := by omega
    refine zs ?_
    refine ⟨_, rfl, ?_⟩
    rw [show rep k k = List.replicate k (-1) by simp [rep]]
    exact Wk.of_eq rfl
theorem cutB_some (r : AVal × List AObj) (s : Option AVal) (h : List AObj) (K : AVal → List AObj → Prop) : @cutB (some r) s h ⟨K⟩ = K r.1 r.2 := _root_.id rfl
theorem aCut_lit {P : Program} {t e nb : Nat} {z : Value} [S : SlT P t e nb z] {h : List AObj} {m : Nat} {l : List Int} (hl : l.length = m) (hm : 0 < m) : aCut P t h (.lit m (ints l)) (some (I 1)) (some (I m)) (some (I m)) = some (.lit (m - 1) (ints (l.drop 1)), h) := by
  obtain ⟨⟨T, hT, hTe⟩, E, hE, g1, g2, g3, g4⟩ := S
  simp only [aCut, hT, hTe, hE, sview_lit, optInt]
  rw [if_pos ⟨by omega, by omega, by first | trivial | rfl, by omega, by omega, g1⟩]
  have e1 : ((m : Int) - 1).toNat = m - 1 := by omega
  have e2 : ((ints l).drop 1).take (m - 1) = ints (l.drop 1) := by
    rw [List.take_of_length_le (by rw [List.length_drop, ints_length]; omega)]
    simp [ints, List.map_drop]
  rw [e1]
  simp only [show (1 : Int).toNat = 1 from rfl, e2]
theorem aCut_ref {P : Program} {t e nb : Nat} {z : Value} [S : SlT P t e nb z] {h : List AObj} {id m ty : Nat} {l : List Int} (ho : h[id]? = some ⟨ty, 1, ints l⟩) (hz : ty ≠ FZ) (hl : l.length = m) (hm : 0 < m) : aCut P t h (.ref id 0 m m) (some (I 1)) (some (I m)) (some (I m)) = some (.lit (m - 1) (ints (l.drop 1)), h.set id ⟨FZ, 1, ints l⟩) := by
  obtain ⟨⟨T, hT, hTe⟩, E, hE, g1, g2, g3, g4⟩ := S
  have hli : (ints l).length = m := by rw [ints_length, hl]
  have hsv : sview h (.ref id 0 m m) = some (m, ints l) := by simp [sview, cellsAt, ho, hli]
  simp only [aCut, hT, hTe, hE, hsv, optInt, ho]
  rw [if_pos ⟨by omega, by omega, by first | trivial | rfl, by omega, by omega, g1⟩, if_pos ⟨hz, hli⟩]
  have e1 : ((m : Int) - 1).toNat = m - 1 := by omega
  have e2 : ((ints l).drop 1).take (m - 1) = ints (l.drop 1) := by
    rw [List.take_of_length_le (by rw [List.length_drop, ints_length]; omega)]
    simp [ints, List.map_drop]
  rw [e1]
  simp only [show (1 : Int).toNat = 1 from rfl, Nat.zero_add, e2]
theorem append_litG {P : Program} {t e : Nat} {z : Value} [S : SlT P t e 8 z] {h : List AObj} {m : Nat} {l : List Int} {x : Int} (hl : l.length = m) (hm : m ≤ 1000000) : aAppend P t h (.lit m (ints l)) (.lit 1 [.val (.int .i64 x)]) = some (.ref h.length 0 (m + 1) (m + 1), h ++ [⟨e, 1, ints (l ++ [x])⟩]) := by
  obtain ⟨⟨T, hT, hTe⟩, E, hE, g1, g2, g3, g4⟩ := S
  have hz : E.zero.length = 1 := by rw [g4]; rfl
  have hli : (ints l).length = m := by rw [ints_length, hl]
  simp only [aAppend, hT, hTe, hE, sview_lit, g1, Nat.mul_one]
  rw [if_pos ⟨by simp, by simp [AVal.one, Value.oneCell'], by omega, hz⟩, if_neg (by omega), if_pos ⟨hli, by rw [g3]; omega, by omega⟩, ← ints_append l [x]]
  rfl
def LLa (rs : List (List Int)) : List AVal := rs.map fun r => LA r.isEmpty r
theorem LLa_len (rs : List (List Int)) : (LLa rs).length = rs.length := by simp [LLa]
theorem LLa_at {rs : List (List Int)} {a : Nat} (ha : a < rs.length) : ((LLa rs).drop a)[0]? = some (LA (rs.getD a []).isEmpty (rs.getD a [])) := by
  rw [List.getElem?_drop, Nat.add_zero, LLa, List.getElem?_map, List.getElem?_eq_getElem ha, List.getD_eq_getElem?_getD, List.getElem?_eq_getElem ha]; rfl
theorem abv_adj {W n : Nat} {l : List Bool} {c : Nat} (hc : c < n) : (abv W n l).getD c [] = nI (adjT W n l c) := by rw [abv_get hc]; rfl
def qw (p : Bool) (q : List Nat) : AVal := if p then .ref 1 0 q.length q.length else .lit q.length (ints (nI q))
def qk (p : Bool) (q : List Nat) : List AObj := if p then [⟨3, 1, ints (nI q)⟩] else []
theorem ren_litE (f : Nat → Option Nat) (n k : Nat) (cs : List AVal) : ren f (n + 1) (.lit k cs) = .lit k (cs.map (ren f n)) := rfl
theorem ren_LLa (f : Nat → Option Nat) (n : Nat) (rs : List (List Int)) : (LLa rs).map (ren f (n + 2)) = LLa rs := by
  simp only [LLa, List.map_map]
  refine List.map_congr_left fun r _ => ?_
  show ren f (n + 2) (LA r.isEmpty r) = LA r.isEmpty r
  simp only [LA, ren_list, map_ren_ints]
set_option maxHeartbeats 4000000 in
theorem reached_c {W n : Nat} (hn : n ≤ 64) (l : List Bool) {a : Nat} (ha : a < n) :
    Contract Tryz.prog 51 [.list false false n (LLa (abv W n l)), I a] (LR false (srch (adjT W n l) (far0 n a) [a])) := by
  have hlb := LLa_len (abv W n l)
  have hab : (abv W n l).length = n := by simp [abv]
  have hre : ∀ (f : Nat → Option Nat) (k : Nat), (LLa (abv W n l)).map (ren f (k + 2)) = LLa (abv W n l) := fun f k => ren_LLa f k _
  have hat : ∀ c, c < n → ((LLa (abv W n l)).drop c)[0]? = some (LA (nI (adjT W n l c)).isEmpty (nI (adjT W n l c))) := by
    intro c hc
    rw [LLa_at (rs := abv W n l) (by omega), abv_adj hc]
  generalize LLa (abv W n l) = lb at *
  refine zi Tryz.func51 ?_
  refine zs ?_
  refine callK_T rfl (repeat_s _ (by omega) hn) ?_
  have hkr : (List.replicate n (-1 : Int)).length = n := by simp
  have hf0 : (List.replicate n (-1 : Int)).set a 0 = far0 n a := rfl
  obtain ⟨z1, z2⟩ := far0_sound ha
  refine zx1 @hf0 ?_
  refine loopK_I [0, 5, 6] (fun s : List Int × List Nat × Bool => Sound n s.1 s.2.1 ∧ s.2.1.length + neg s.1 ≤ n ∧ srch (adjT W n l) s.1 s.2.1 = srch (adjT W n l) (far0 n a) [a])
    (fun s => ⟨[(0, .list false false n lb), (5, .ref 0 0 n n), (6, qw s.2.2 s.2.1)], ⟨3, 1, ints s.1⟩ :: qk s.2.2 s.2.1⟩) (fun s => 2 * neg s.1 + s.2.1.length) (far0 n a, [a], false) ⟨z1, by simp only [List.length_singleton]; omega, rfl⟩ kz ?_
  rintro ⟨far, q, p⟩ ⟨h1, h2, h3⟩
  simp only at h1 h2 h3 ⊢
  have hfl := h1.len
  have hqn := nI_len q
  cases q with
  | nil =>
    rw [srch_nil] at h3
    have hfp : 0 < far.length := by omega
    have hz : ([] : List Nat).length = 0 := rfl
    rw [← h3]
    cases p
    · simp (disch := first | assumption | omega | rfl | simp only [RH]) only [↓RP, RG, FX, RQ, ↓reduceIte, Nat.reduceEqDiff, reduceCtorEq, Nat.reduceBEq, Nat.reduceAdd, Nat.reduceLeDiff, qw, qk, hz]
      exact zq1
    · simp (disch := first | assumption | omega | rfl | simp only [RH]) only [↓RP, RG, FX, RQ, ↓reduceIte, Nat.reduceEqDiff, reduceCtorEq, Nat.reduceBEq, Nat.reduceAdd, Nat.reduceLeDiff, qw, qk, hz]
      exact zq1
  | cons c r =>
    have hst := srch_step (adj := adjT W n l) (fun c hc x hx => adjT_lt hx) h1
    have hc := h1.mem _ List.mem_cons_self
    have hin := inner_ok hc (adjT W n l c) far r (fun x hx => adjT_lt hx) h1.tail
    have hatc := hat c hc
    have hg0 : (nI (c :: r)).getD (Int.toNat 0) 0 = (c : Int) := rfl
    have hpos : 0 < (c :: r).length := by simp
    have hd1 : (nI (c :: r)).drop 1 = nI r := rfl
    have hm1 : (c :: r).length - 1 = r.length := rfl
    have hlen1 : r.length + 1 = (c :: r).length := rfl
    have hql : (ints (nI (c :: r))).length = (c :: r).length := by rw [ints_length, nI_len]
    obtain ⟨A, hA⟩ : ∃ A, adjT W n l c = A := ⟨_, rfl⟩
    have hAn : ∀ x ∈ A, x < n := by rw [← hA]; exact fun x hx => adjT_lt hx
    rw [hA] at hst hin hatc
    have hAl := nI_len A
    have hAs : A.length ≤ n := by rw [← hA]; simp only [adjT]; exact Nat.le_trans (List.length_filter_le _ _) (by simp)
    generalize hqq : c :: r = qq at *
    have hcut := @aCut_ref Tryz.prog 47 _ _ _ _ [⟨3, 1, ints far⟩, ⟨3, 1, ints (nI qq)⟩] 1 qq.length 3 (nI qq) rfl (by decide) hqn hpos
    have hcul : ∀ h : List AObj, aCut Tryz.prog 47 h (.lit qq.length (ints (nI qq))) (some (I 1)) (some (I qq.length)) (some (I qq.length)) = some (.lit (qq.length - 1) (ints ((nI qq).drop 1)), h) := fun h => aCut_lit hqn hpos
    rw [hm1, hd1] at hcut
    rw [hm1, hd1] at hcul
    have h1t : Sound n far r := by rw [← hqq] at h1; exact h1.tail
    have e3 : srch (adjT W n l) (inner c A (far, r)).1 (inner c A (far, r)).2 = srch (adjT W n l) (far0 n a) [a] := by rw [← hst]; exact h3
    cases p
    · simp (disch := first | assumption | omega | rfl | simp only [RH]) only [↓RP, RZ, ↓reduceIte, Nat.reduceEqDiff, reduceCtorEq, Nat.reduceBEq, Nat.reduceAdd, Nat.reduceLeDiff, qw, qk, hql, hg0, cutB_some, hcul, hatc]
      refine loopK_W [0, 5, 6, 7, 34, 35, 36] (fun s : Nat × List Int × List Nat × Bool => s.1 ≤ A.length ∧ Sound n s.2.1 s.2.2.1 ∧ s.2.2.1.length + neg s.2.1 ≤ n ∧ inner c (A.drop s.1) (s.2.1, s.2.2.1) = inner c A (far, r))
        (fun s => ⟨[(0, .list false false n lb), (5, .ref 0 0 n n), (6, qw s.2.2.2 s.2.2.1), (7, I c), (34, LA (nI A).isEmpty (nI A)), (35, I (nI A).length), (36, I s.1)], ⟨3, 1, ints s.2.1⟩ :: qk s.2.2.2 s.2.2.1⟩) (fun s => A.length - s.1) (0, far, r, false) ⟨by simp only; omega, h1t, by simp only; omega, rfl⟩ (Wk.of_eq kz) ?_
      rintro ⟨j, far', q', p'⟩ ⟨j1, j2, j3, j4⟩
      simp only at j1 j2 j3 j4 ⊢
      have hfl' := j2.len
      have hqn' := nI_len q'
      have hql' : (ints (nI q')).length = q'.length := by rw [ints_length, nI_len]
      by_cases hlt3 : j < A.length
      · obtain ⟨y, hy⟩ : ∃ y, A.getD j 0 = y := ⟨_, rfl⟩
        have hyA : y ∈ A := by rw [← hy, List.getD_eq_getElem?_getD, List.getElem?_eq_getElem hlt3]; exact List.getElem_mem _
        have hyn := hAn y hyA
        have hgi := nI_get A j
        rw [hy] at hgi
        have hAd : A.drop j = y :: A.drop (j + 1) := by
          rw [List.drop_eq_getElem_cons hlt3, ← hy, List.getD_eq_getElem?_getD, List.getElem?_eq_getElem hlt3]; rfl
        have lj := j2.low y hyn
        have lc := j2.low c hc
        have uc := j2.high c hc
        rw [hAd, inner] at j4
        by_cases hneg : far'.getD y 0 < 0
        · rw [if_pos hneg] at j4
          obtain ⟨x1, x2⟩ := j2.push hyn hc hneg
          have hap : ints (nI q') ++ ints [(y : Int)] = ints (nI (q' ++ [y])) := by rw [nI_app, ints_append]
          have qb : q'.length ≤ 1000 := by omega
          cases p'
          · have hapl : ∀ h : List AObj, aAppend Tryz.prog 47 h (.lit q'.length (ints (nI q'))) (.lit 1 [.val (.int .i64 (y : Int))]) = some (.ref h.length 0 (q'.length + 1) (q'.length + 1), h ++ [⟨3, 1, ints (nI q' ++ [(y : Int)])⟩]) := fun h => append_litG hqn' (by omega)
            simp (disch := first | assumption | omega | rfl | simp only [RH]) only [↓RP, RG, FX, RQ, ↓reduceIte, Nat.reduceEqDiff, reduceCtorEq, Nat.reduceBEq, Nat.reduceAdd, Nat.reduceLeDiff, qw, qk, hql', hgi, hapl]
            exact ⟨(j + 1, far'.set y (far'.getD c 0 + 1), q' ++ [y], true), ⟨by simp only; omega, x1, by simp only [List.length_append, List.length_singleton]; omega, j4⟩, by simp only [qw, qk, nI_app, List.length_append, List.length_singleton]; rfl, by simp only; omega⟩
          · simp (disch := first | assumption | omega | rfl | simp only [RH]) only [↓RP, RG, FX, RQ, ↓reduceIte, Nat.reduceEqDiff, reduceCtorEq, Nat.reduceBEq, Nat.reduceAdd, Nat.reduceLeDiff, qw, qk, hql', hgi, append_ref1, apRI_ints]
            exact ⟨(j + 1, far'.set y (far'.getD c 0 + 1), q' ++ [y], true), ⟨by simp only; omega, x1, by simp only [List.length_append, List.length_singleton]; omega, j4⟩, by simp only [qw, qk, nI_app, List.length_append, List.length_singleton]; rfl, by simp only; omega⟩
        · rw [if_neg hneg] at j4
          cases p'
          · simp (disch := first | assumption | omega | rfl | simp only [RH]) only [↓RP, RG, FX, RQ, ↓reduceIte, Nat.reduceEqDiff, reduceCtorEq, Nat.reduceBEq, Nat.reduceAdd, Nat.reduceLeDiff, qw, qk, hql', hgi]
            exact ⟨(j + 1, far', q', false), ⟨by simp only; omega, j2, j3, j4⟩, rfl, by simp only; omega⟩
          · simp (disch := first | assumption | omega | rfl | simp only [RH]) only [↓RP, RG, FX, RQ, ↓reduceIte, Nat.reduceEqDiff, reduceCtorEq, Nat.reduceBEq, Nat.reduceAdd, Nat.reduceLeDiff, qw, qk, hql', hgi]
            exact ⟨(j + 1, far', q', true), ⟨by simp only; omega, j2, j3, j4⟩, rfl, by simp only; omega⟩
      · obtain rfl : j = A.length := by omega
        rw [List.drop_length, inner] at j4
        have y1 := congrArg Prod.fst j4
        have y2 := congrArg Prod.snd j4
        simp only at y1 y2
        rw [← y1, ← y2] at e3
        have hm := hin.2
        rw [← y1, ← y2] at hm
        cases p'
        · simp (disch := first | assumption | omega | rfl | simp only [RH]) only [↓RP, RG, FX, RQ, ↓reduceIte, Nat.reduceEqDiff, reduceCtorEq, Nat.reduceBEq, Nat.reduceAdd, Nat.reduceLeDiff, qw, qk, hql']
          exact ⟨(far', q', false), ⟨j2, j3, e3⟩, rfl, by simp only; omega⟩
        · simp (disch := first | assumption | omega | rfl | simp only [RH]) only [↓RP, RG, FX, RQ, ↓reduceIte, Nat.reduceEqDiff, reduceCtorEq, Nat.reduceBEq, Nat.reduceAdd, Nat.reduceLeDiff, qw, qk, hql']
          exact ⟨(far', q', true), ⟨j2, j3, e3⟩, rfl, by simp only; omega⟩
    · simp (disch := first | assumption | omega | rfl | simp only [RH]) only [↓RP, RZ, ↓reduceIte, Nat.reduceEqDiff, reduceCtorEq, Nat.reduceBEq, Nat.reduceAdd, Nat.reduceLeDiff, qw, qk, hql, hg0, cutB_some, hcut, hatc]
      refine loopK_W [0, 5, 6, 7, 34, 35, 36] (fun s : Nat × List Int × List Nat × Bool => s.1 ≤ A.length ∧ Sound n s.2.1 s.2.2.1 ∧ s.2.2.1.length + neg s.2.1 ≤ n ∧ inner c (A.drop s.1) (s.2.1, s.2.2.1) = inner c A (far, r))
        (fun s => ⟨[(0, .list false false n lb), (5, .ref 0 0 n n), (6, qw s.2.2.2 s.2.2.1), (7, I c), (34, LA (nI A).isEmpty (nI A)), (35, I (nI A).length), (36, I s.1)], ⟨3, 1, ints s.2.1⟩ :: qk s.2.2.2 s.2.2.1⟩) (fun s => A.length - s.1) (0, far, r, false) ⟨by simp only; omega, h1t, by simp only; omega, rfl⟩ (by
          refine (Wk.of_eq kz).trans ((Wk.drop (hb := []) (h1 := []) (gs := [_, _]) (env := _) 8 [0] rfl (by simp) (by simp) (by simp)).trans (Wk.of_eq (by simp only [RK, List.idxOf?_cons, List.idxOf?_nil, Nat.reduceBEq, Option.map_some, Option.map_none, List.map_cons, List.map_nil, List.getD_cons_zero, List.getD_cons_succ, Bool.false_eq_true, ↓reduceIte, Nat.add_zero, List.append_nil, hre, ren_litE]; rfl)))) ?_
      rintro ⟨j, far', q', p'⟩ ⟨j1, j2, j3, j4⟩
      simp only at j1 j2 j3 j4 ⊢
      have hfl' := j2.len
      have hqn' := nI_len q'
      have hql' : (ints (nI q')).length = q'.length := by rw [ints_length, nI_len]
      by_cases hlt3 : j < A.length
      · obtain ⟨y, hy⟩ : ∃ y, A.getD j 0 = y := ⟨_, rfl⟩
        have hyA : y ∈ A := by rw [← hy, List.getD_eq_getElem?_getD, List.getElem?_eq_getElem hlt3]; exact List.getElem_mem _
        have hyn := hAn y hyA
        have hgi := nI_get A j
        rw [hy] at hgi
        have hAd : A.drop j = y :: A.drop (j + 1) := by
          rw [List.drop_eq_getElem_cons hlt3, ← hy, List.getD_eq_getElem?_getD, List.getElem?_eq_getElem hlt3]; rfl
        have lj := j2.low y hyn
        have lc := j2.low c hc
        have uc := j2.high c hc
        rw [hAd, inner] at j4
        by_cases hneg : far'.getD y 0 < 0
        · rw [if_pos hneg] at j4
          obtain ⟨x1, x2⟩ := j2.push hyn hc hneg
          have hap : ints (nI q') ++ ints [(y : Int)] = ints (nI (q' ++ [y])) := by rw [nI_app, ints_append]
          have qb : q'.length ≤ 1000 := by omega
          cases p'
          · have hapl : ∀ h : List AObj, aAppend Tryz.prog 47 h (.lit q'.length (ints (nI q'))) (.lit 1 [.val (.int .i64 (y : Int))]) = some (.ref h.length 0 (q'.length + 1) (q'.length + 1), h ++ [⟨3, 1, ints (nI q' ++ [(y : Int)])⟩]) := fun h => append_litG hqn' (by omega)
            simp (disch := first | assumption | omega | rfl | simp only [RH]) only [↓RP, RG, FX, RQ, ↓reduceIte, Nat.reduceEqDiff, reduceCtorEq, Nat.reduceBEq, Nat.reduceAdd, Nat.reduceLeDiff, qw, qk, hql', hgi, hapl]
            exact ⟨(j + 1, far'.set y (far'.getD c 0 + 1), q' ++ [y], true), ⟨by simp only; omega, x1, by simp only [List.length_append, List.length_singleton]; omega, j4⟩, by simp only [qw, qk, nI_app, List.length_append, List.length_singleton]; rfl, by simp only; omega⟩
          · simp (disch := first | assumption | omega | rfl | simp only [RH]) only [↓RP, RG, FX, RQ, ↓reduceIte, Nat.reduceEqDiff, reduceCtorEq, Nat.reduceBEq, Nat.reduceAdd, Nat.reduceLeDiff, qw, qk, hql', hgi, append_ref1, apRI_ints]
            exact ⟨(j + 1, far'.set y (far'.getD c 0 + 1), q' ++ [y], true), ⟨by simp only; omega, x1, by simp only [List.length_append, List.length_singleton]; omega, j4⟩, by simp only [qw, qk, nI_app, List.length_append, List.length_singleton]; rfl, by simp only; omega⟩
        · rw [if_neg hneg] at j4
          cases p'
          · simp (disch := first | assumption | omega | rfl | simp only [RH]) only [↓RP, RZ, ↓reduceIte, Nat.reduceEqDiff, reduceCtorEq, Nat.reduceBEq, Nat.reduceAdd, Nat.reduceLeDiff, qw, qk, hql', hgi]
            exact ⟨(j + 1, far', q', false), ⟨by simp only; omega, j2, j3, j4⟩, rfl, by simp only; omega⟩
          · simp (disch := first | assumption | omega | rfl | simp only [RH]) only [↓RP, RZ, ↓reduceIte, Nat.reduceEqDiff, reduceCtorEq, Nat.reduceBEq, Nat.reduceAdd, Nat.reduceLeDiff, qw, qk, hql', hgi]
            exact ⟨(j + 1, far', q', true), ⟨by simp only; omega, j2, j3, j4⟩, rfl, by simp only; omega⟩
      · obtain rfl : j = A.length := by omega
        rw [List.drop_length, inner] at j4
        have y1 := congrArg Prod.fst j4
        have y2 := congrArg Prod.snd j4
        simp only at y1 y2
        rw [← y1, ← y2] at e3
        have hm := hin.2
        rw [← y1, ← y2] at hm
        cases p'
        · simp (disch := first | assumption | omega | rfl | simp only [RH]) only [↓RP, RZ, ↓reduceIte, Nat.reduceEqDiff, reduceCtorEq, Nat.reduceBEq, Nat.reduceAdd, Nat.reduceLeDiff, qw, qk, hql']
          exact ⟨(far', q', false), ⟨j2, j3, e3⟩, rfl, by simp only; omega⟩
        · simp (disch := first | assumption | omega | rfl | simp only [RH]) only [↓RP, RZ, ↓reduceIte, Nat.reduceEqDiff, reduceCtorEq, Nat.reduceBEq, Nat.reduceAdd, Nat.reduceLeDiff, qw, qk, hql']
          exact ⟨(far', q', true), ⟨j2, j3, e3⟩, rfl, by simp only; omega⟩
def upN (far : List Int) : Nat → List Int
  | 0 => []
  | k + 1 => if 0 ≤ far.getD k 0 then upN far k ++ [(k : Int)] else upN far k
theorem upN_le (far : List Int) (k : Nat) : (upN far k).length ≤ k := by
  induction k with
  | zero => exact Nat.le_refl _
  | succ k ih => simp only [upN]; split; (simp only [List.length_append, List.length_singleton]; omega); omega
theorem pos_c (x : Int) : Contract Tryz.prog 72 [I x] (B (decide (0 ≤ x))) := by
  refine zi Tryz.func72 ?_
  by_cases h : 0 ≤ x
  · refine zs ?_
    exact zq1
    first | done | simp [h]
  · refine zs ?_
    exact zq1
    first | done | simp [h]
theorem where_c (b : Bool) (far : List Int) (hl : far.length ≤ 100000) : Contract Tryz.prog 71 [LA b far, .func (.func 72) [] []] (LR (upN far far.length).isEmpty (upN far far.length)) := by
  refine zi Tryz.func71 ?_
  refine zs ?_
  refine loopK_W [1, 5, 8, 9, 10] (fun k : Nat => k ≤ far.length) (fun k : Nat => ⟨[(1, .func (.func 72) [] []), (5, gw true 0 (ints (upN far k))), (8, LA b far), (9, I far.length), (10, I k)], [go 3 (ints (upN far k))]⟩) (fun k => far.length - k) 0 (by omega) ?_ ?_
  · simp only [↓RP, RG, FX, RQ, ↓reduceIte, Nat.reduceEqDiff, reduceCtorEq, Nat.reduceBEq, Nat.reduceAdd, Nat.reduceLeDiff]
    exact Wk.weak (WE.cons _ (.refl _) (WE.cons _ (.nil _) (WE.cons _ (.refl _) (WE.cons _ (.refl _) (WE.cons _ (.refl _) WE.nil))))) (.nil _ (by simp [go, ints, upN]))
  intro k hk
  have hle := upN_le far k
  by_cases hlt : k < far.length
  · refine zs ?_
    refine callK_V 6 (pos_c (far.getD k 0)) (by simp (disch := first | assumption | omega | rfl | simp only [RH]) only [↓RP, RZ, ↓reduceIte, Nat.reduceEqDiff, reduceCtorEq, Nat.reduceBEq, Nat.reduceAdd, Nat.reduceLeDiff, RA] <;> rfl) (.inl (by simp [allFresh, ints_fresh, bools_fresh])) ?_
    by_cases h0 : 0 ≤ far.getD k 0
    · refine zx1 @append_int ?_
      exact ⟨k + 1, by omega, by rw [upN, if_pos h0]; rfl, by omega⟩
    · refine zs ?_
      exact ⟨k + 1, by omega, by rw [upN, if_neg h0]; rfl, by omega⟩
  · obtain rfl : k = far.length := by omega
    refine zs ?_
    refine zr1 ?_
    simp only [Bool.true_and, ints_isEmpty]
def upon (W n : Nat) (l : List Bool) (a : Nat) : List Int := upN (srch (adjT W n l) (far0 n a) [a]) n
theorem bfs_len {n : Nat} {adj : Nat → List Nat} (ha : ∀ c, c < n → ∀ b ∈ adj c, b < n) : ∀ (k : Nat) (far : List Int) (q : List Nat), Sound n far q → (bfs adj k far q).length = n
  | 0, far, q, h => h.len
  | k + 1, far, [], h => h.len
  | k + 1, far, c :: q, h => bfs_len ha k _ _ (inner_ok (h.mem c List.mem_cons_self) (adj c) far q (ha c (h.mem c List.mem_cons_self)) h.tail).1
theorem srch_len {W n : Nat} (l : List Bool) {a : Nat} (ha : a < n) : (srch (adjT W n l) (far0 n a) [a]).length = n :=
  bfs_len (fun c hc x hx => adjT_lt hx) _ _ _ (far0_sound ha).1
theorem inner_keep {n c a : Nat} (hc : c < n) : ∀ (adj : List Nat) (far : List Int) (q : List Nat), (∀ b ∈ adj, b < n) → Sound n far q → 0 ≤ far.getD a 0 → 0 ≤ (inner c adj (far, q)).1.getD a 0
  | [], far, q, _, _, h => h
  | b :: r, far, q, ha, hs, h => by
    have ha' : ∀ x ∈ r, x < n := fun x hx => ha x (List.mem_cons_of_mem _ hx)
    simp only [inner]
    split
    · rename_i hneg
      obtain ⟨h1, h2⟩ := hs.push (ha b List.mem_cons_self) hc hneg
      refine inner_keep hc r _ _ ha' h1 ?_
      have hb : b < far.length := by rw [hs.len]; exact ha b List.mem_cons_self
      rw [getD_set' hb]
      have hab : a ≠ b := fun e => by subst e; omega
      rw [if_neg hab]; exact h
    · exact inner_keep hc r far q ha' hs h
theorem bfs_keep {n a : Nat} {adj : Nat → List Nat} (ha : ∀ c, c < n → ∀ b ∈ adj c, b < n) : ∀ (k : Nat) (far : List Int) (q : List Nat), Sound n far q → 0 ≤ far.getD a 0 → 0 ≤ (bfs adj k far q).getD a 0
  | 0, far, q, _, h => h
  | k + 1, far, [], _, h => h
  | k + 1, far, c :: q, hs, h =>
    have hc := hs.mem c List.mem_cons_self
    bfs_keep ha k _ _ (inner_ok hc (adj c) far q (ha c hc) hs.tail).1 (inner_keep hc (adj c) far q (ha c hc) hs.tail h)
theorem srch_self {W n : Nat} (l : List Bool) {a : Nat} (ha : a < n) : 0 ≤ (srch (adjT W n l) (far0 n a) [a]).getD a 0 := by
  refine bfs_keep (fun c hc x hx => adjT_lt hx) _ _ _ (far0_sound ha).1 ?_
  unfold far0
  rw [getD_set' (by simpa using ha), if_pos rfl]; omega
theorem upN_pos {far : List Int} {a : Nat} (h : 0 ≤ far.getD a 0) : ∀ k, a < k → 0 < (upN far k).length := by
  intro k
  induction k with
  | zero => intro h; omega
  | succ k ih =>
    intro hk
    simp only [upN]
    by_cases e : a = k
    · subst e; rw [if_pos h]; simp
    · have := ih (by omega)
      split
      · simp
      · exact this
theorem upon_pos {W n : Nat} (l : List Bool) {a : Nat} (ha : a < n) : 0 < (upon W n l a).length := upN_pos (srch_self l ha) n ha
theorem upon_le (W n : Nat) (l : List Bool) (a : Nat) : (upon W n l a).length ≤ n := upN_le _ _
theorem isEmpty_pos {l : List Int} (h : 0 < l.length) : l.isEmpty = false := by cases l with | nil => simp at h | cons x r => rfl
def less (x y : List Int) : Prop := x.length < y.length ∨ x.length = y.length ∧ x.getD 0 0 < y.getD 0 0
instance (x y : List Int) : Decidable (less x y) := by unfold less; infer_instance
def best (W n : Nat) (l : List Bool) : Nat → List Int
  | 0 => upon W n l 0
  | k + 1 => if less (upon W n l (k + 1)) (best W n l k) then upon W n l (k + 1) else best W n l k
theorem best_ok {W n : Nat} (l : List Bool) : ∀ k, k < n → 0 < (best W n l k).length ∧ (best W n l k).length ≤ n := by
  intro k
  induction k with
  | zero => intro h; exact ⟨upon_pos l h, upon_le _ _ _ _⟩
  | succ k ih =>
    intro h
    simp only [best]
    split
    · exact ⟨upon_pos l h, upon_le _ _ _ _⟩
    · exact ih (by omega)
def bst (W n : Nat) (l : List Bool) : Nat → AVal
  | 0 => .cap0 true
  | k + 1 => LR false (best W n l k)
theorem argOf_LL (h : List AObj) (m : Nat) (rs : List (List Int)) : (LL rs).map (argOf h (m + 2)) = LLa rs := by
  simp only [LL, LLa, List.map_map]
  refine List.map_congr_left fun r _ => ?_
  show argOf h (m + 2) (LR r.isEmpty r) = LA r.isEmpty r
  simp only [LR, LA, RA]
theorem firstP_c {W n : Nat} (hn0 : 0 < n) (hn : n ≤ 64) (l : List Bool) (lz : List AVal) :
    Contract Tryz.prog 47 [.agg [.list false false n lz, .list false false n (LLa (abv W n l))]] (LR false (best W n l (n - 1))) := by
  have hre : ∀ (a : Nat), a < n → Contract Tryz.prog 51 [.list false false n (LLa (abv W n l)), I a] (LR false (srch (adjT W n l) (far0 n a) [a])) := fun a ha => reached_c hn l ha
  have hag : ∀ (h : List AObj) (m : Nat), (LLa (abv W n l)).map (argOf h (m + 2)) = LLa (abv W n l) := by
    intro h m
    simp only [LLa, List.map_map]
    refine List.map_congr_left fun r _ => ?_
    show argOf h (m + 2) (LA r.isEmpty r) = LA r.isEmpty r
    simp only [LA, RA]
  generalize LLa (abv W n l) = lb at *
  refine zi Tryz.func47 ?_
  refine zs ?_
  refine loopK_I [1, 3, 8, 9] (fun k : Nat => k ≤ n) (fun k : Nat => ⟨[(1, .ptr 0 0 2), (3, bst W n l k), (8, I n), (9, I k)], [⟨84, 2, [.list false false n lz, .list false false n lb]⟩]⟩) (fun k => n - k) 0 (by omega) kz ?_
  intro k hk
  by_cases hlt : k < n
  · have hfl := srch_len (W := W) l hlt
    have hR := hre k hlt
    have hup : upon W n l k = upN (srch (adjT W n l) (far0 n k) [k]) n := rfl
    have u1 := upon_pos (W := W) l hlt
    have u2 := upon_le W n l k
    have hwh := where_c false (srch (adjT W n l) (far0 n k) [k]) (by omega)
    rw [hfl, ← hup, isEmpty_pos u1] at hwh
    generalize srch (adjT W n l) (far0 n k) [k] = far at *
    cases k with
    | zero =>
      have hb : best W n l 0 = upon W n l 0 := rfl
      generalize upon W n l 0 = x at *
      refine zs ?_
      refine callK_F 6 hR (by simp (disch := first | assumption | omega | rfl | simp only [RH]) only [↓RP, RZ, ↓reduceIte, Nat.reduceEqDiff, reduceCtorEq, Nat.reduceBEq, Nat.reduceAdd, Nat.reduceLeDiff, RA, hag] <;> rfl) (.inl (by simp [allFresh, ints_fresh])) ?_
      refine zs ?_
      refine zc hwh ?_
      simp (disch := first | assumption | omega | rfl | simp only [RH]) only [↓RP, RZ, ↓reduceIte, Nat.reduceEqDiff, reduceCtorEq, Nat.reduceBEq, Nat.reduceAdd, Nat.reduceLeDiff, bst]
      exact ⟨1, by omega, by rw [← hb]; rfl, by omega⟩
    | succ k =>
      obtain ⟨b1, b2⟩ := best_ok (W := W) (n := n) l k (by omega)
      have hbs : best W n l (k + 1) = if less (upon W n l (k + 1)) (best W n l k) then upon W n l (k + 1) else best W n l k := rfl
      have hb1 : bst W n l (k + 1) = LR false (best W n l k) := rfl
      have hb2 : bst W n l (k + 1 + 1) = LR false (best W n l (k + 1)) := rfl
      generalize upon W n l (k + 1) = x at *
      generalize best W n l k = y at *
      rw [hb1]
      refine zs ?_
      refine callK_F 6 hR (by simp (disch := first | assumption | omega | rfl | simp only [RH]) only [↓RP, RZ, ↓reduceIte, Nat.reduceEqDiff, reduceCtorEq, Nat.reduceBEq, Nat.reduceAdd, Nat.reduceLeDiff, RA, hag] <;> rfl) (.inl (by simp [allFresh, ints_fresh])) ?_
      refine zs ?_
      refine zc hwh ?_
      by_cases c1 : x.length < y.length
      · have hl : less x y := .inl c1
        rw [if_pos hl] at hbs
        refine zs ?_
        exact ⟨k + 1 + 1, hlt, by rw [hb2, hbs]; rfl, by omega⟩
      · by_cases c2 : x.length = y.length
        · by_cases c3 : x.getD 0 0 < y.getD 0 0
          · have hl : less x y := .inr ⟨c2, c3⟩
            rw [if_pos hl] at hbs
            refine zx1 @Int.toNat_zero ?_
            exact ⟨k + 1 + 1, hlt, by rw [hb2, hbs]; rfl, by omega⟩
          · have hl : ¬ less x y := fun h => h.elim c1 fun h => c3 h.2
            rw [if_neg hl] at hbs
            refine zx1 @Int.toNat_zero ?_
            exact ⟨k + 1 + 1, hlt, by rw [hb2, hbs]; rfl, by omega⟩
        · have hl : ¬ less x y := fun h => h.elim c1 fun h => c2 h.1
          rw [if_neg hl] at hbs
          refine zs ?_
          exact ⟨k + 1 + 1, hlt, by rw [hb2, hbs]; rfl, by omega⟩
  · obtain rfl : k = n := by omega
    obtain ⟨m, rfl⟩ : ∃ m, k = m + 1 := ⟨k - 1, by omega⟩
    have hb1 : bst W (m + 1) l (m + 1) = LR false (best W (m + 1) l m) := rfl
    rw [hb1, show m + 1 - 1 = m from rfl]
    refine zs ?_
    exact zq1
def apt (W n : Nat) (l : List Bool) : List Int := if (best W n l (n - 1)).length = n then [] else best W n l (n - 1)
theorem apartP_c {W H n : Nat} (hN : W + H = n) (hW0 : 0 < W) (hH0 : 0 < H) (hn40 : n ≤ 64) (b : Bool) {l : List Bool} (hn : l.length = W * H) :
    Contract Tryz.prog 34 [GA W H b l] (.tuple [LR (apt W n l).isEmpty (apt W n l), I 0]) := by
  have hz : gchk W H l.length = 0 := gchk_ok ⟨by omega, by omega, by omega, by omega, by rw [hn, Int.natCast_mul]⟩
  have hNc : (W : Int) + (H : Int) = (n : Int) := by omega
  have hO := order_c hN hW0 hH0 (by omega) (by omega) b hn
  have hF := fun lz => firstP_c (W := W) (n := n) (by omega) hn40 l lz
  obtain ⟨b1, b2⟩ := best_ok (W := W) (n := n) l (n - 1) (by omega)
  have hag : ∀ (h : List AObj) (m : Nat), (LL (abv W n l)).map (argOf h (m + 2)) = LLa (abv W n l) := fun h m => argOf_LL h m _
  have hag2 : ∀ (h : List AObj) (m : Nat), (LL (bel W n l)).map (argOf h (m + 2)) = LLa (bel W n l) := fun h m => argOf_LL h m _
  have hap : apt W n l = if (best W n l (n - 1)).length = n then [] else best W n l (n - 1) := rfl
  generalize LLa (abv W n l) = lb at *
  generalize LLa (bel W n l) = lc at *
  generalize LL (abv W n l) = la at *
  generalize LL (bel W n l) = ld at *
  generalize best W n l (n - 1) = x at *
  generalize apt W n l = y at *
  refine zi Tryz.func34 ?_
  refine zs ?_
  refine zc (gcheckP_c W H b l) ?_
  refine zx1 @hz ?_
  refine callK_F 6 hO (by simp (disch := first | assumption | omega | rfl | simp only [RH]) only [↓RP, RZ, ↓reduceIte, Nat.reduceEqDiff, reduceCtorEq, Nat.reduceBEq, Nat.reduceAdd, Nat.reduceLeDiff, RA] <;> rfl) (.inr (by simp [noRef, bools_noRef])) ?_
  refine zs ?_
  refine callK_F 6 (hF lc) (by simp (disch := first | assumption | omega | rfl | simp only [RH]) only [↓RP, RZ, ↓reduceIte, Nat.reduceEqDiff, reduceCtorEq, Nat.reduceBEq, Nat.reduceAdd, Nat.reduceLeDiff, RA, hag, hag2] <;> rfl) (.inl (by simp [allFresh, ints_fresh])) ?_
  by_cases c : x.length = n
  · rw [if_pos c] at hap
    subst hap
    refine zx1 @hNc ?_
    refine zr2 ?_
    first | done | rfl
  · rw [if_neg c] at hap
    subst hap
    refine zx1 @hNc ?_
    refine zr2 ?_
    first | done | (rw [isEmpty_pos b1]; rfl) | rw [isEmpty_pos b1]
theorem hangsP_c {W H n : Nat} (hN : W + H = n) (hW0 : 0 < W) (hH0 : 0 < H) (hn40 : n ≤ 64) (b : Bool) {l : List Bool} (hn : l.length = W * H) :
    Contract Tryz.prog 14 [GA W H b l] (.tuple [B (decide ((best W n l (n - 1)).length = n)), I 0]) := by
  have hF := apartP_c hN hW0 hH0 hn40 b hn
  obtain ⟨b1, b2⟩ := best_ok (W := W) (n := n) l (n - 1) (by omega)
  have hap : apt W n l = if (best W n l (n - 1)).length = n then [] else best W n l (n - 1) := rfl
  generalize best W n l (n - 1) = x at *
  generalize apt W n l = y at *
  refine zi Tryz.func14 ?_
  refine zs ?_
  refine zc hF ?_
  by_cases c : x.length = n
  · rw [if_pos c] at hap
    have hy : y.length = 0 := by rw [hap]; rfl
    refine zs ?_
    exact zq2
    first | done | simp [c]
  · rw [if_neg c] at hap
    have hy : 0 < y.length := by rw [hap]; exact b1
    refine zs ?_
    exact zq2
    first | done | simp [c]
theorem mem_getD {l : List Int} {x : Int} : x ∈ l ↔ ∃ i, i < l.length ∧ l.getD i 0 = x := by
  rw [List.mem_iff_getElem]
  constructor
  · rintro ⟨i, hi, h⟩; exact ⟨i, hi, by rw [List.getD_eq_getElem?_getD, List.getElem?_eq_getElem hi]; exact h⟩
  · rintro ⟨i, hi, h⟩; exact ⟨i, hi, by rw [List.getD_eq_getElem?_getD, List.getElem?_eq_getElem hi] at h; exact h⟩
def okS (n : Nat) (s : List Int) (k : Nat) : Prop := ∀ i, i < k → (0 ≤ s.getD i 0 ∧ s.getD i 0 < n) ∧ (0 < i → s.getD (i - 1) 0 < s.getD i 0)
theorem okS_succ {n : Nat} {s : List Int} {k : Nat} (h : okS n s k) (h1 : 0 ≤ s.getD k 0 ∧ s.getD k 0 < n) (h2 : 0 < k → s.getD (k - 1) 0 < s.getD k 0) : okS n s (k + 1) := by
  intro i hi
  by_cases e : i = k
  · subst e; exact ⟨h1, h2⟩
  · exact h i (by omega)
def mks (n : Nat) (s : List Int) : Nat → List Bool
  | 0 => List.replicate n false
  | k + 1 => (mks n s k).set (s.getD k 0).toNat true
theorem mks_len (n : Nat) (s : List Int) (k : Nat) : (mks n s k).length = n := by
  induction k with
  | zero => simp [mks]
  | succ k ih => simp [mks, ih]
theorem mks_get {n : Nat} {s : List Int} {k : Nat} (h : okS n s k) {a : Nat} (ha : a < n) : (mks n s k).getD a false = true ↔ ∃ i, i < k ∧ s.getD i 0 = a := by
  induction k with
  | zero => simp [mks, List.getD_eq_getElem?_getD, List.getElem?_replicate, ha]
  | succ k ih =>
    have hk := (h k (by omega)).1
    have hi := ih fun i hi => h i (by omega)
    have hl := mks_len n s k
    have e : (mks n s (k + 1)).getD a false = if a = (s.getD k 0).toNat then true else (mks n s k).getD a false := by
      simp only [mks, List.getD_eq_getElem?_getD, List.getElem?_set]
      by_cases h : (s[k]?.getD 0).toNat = a
      · rw [if_pos h, if_pos h.symm, if_pos (by omega)]; rfl
      · rw [if_neg h, if_neg (Ne.symm h)]
    rw [e]
    by_cases hc : a = (s.getD k 0).toNat
    · rw [if_pos hc]
      exact ⟨fun _ => ⟨k, by omega, by omega⟩, fun _ => rfl⟩
    · rw [if_neg hc, hi]
      constructor
      · rintro ⟨i, h1, h2⟩; exact ⟨i, by omega, h2⟩
      · rintro ⟨i, h1, h2⟩
        by_cases e : i = k
        · subst e; omega
        · exact ⟨i, by omega, h2⟩
theorem notIn_c (n : Nat) (M : List Bool) (hM : M.length = n) {a : Nat} (ha : a < n) (hn : n ≤ 1000) :
    Contract Tryz.prog 50 [I a, .spot false [.list false false n (bools M)]] (B (!M.getD a false)) := by
  refine zi Tryz.func50 ?_
  refine zs ?_
  exact zq1
theorem some_c (b : Bool) (n : Nat) (M : List Bool) (hM : M.length = n) (xs : List Nat) (hx : ∀ x ∈ xs, x < n) (hn : n ≤ 1000) (hxs : xs.length ≤ 1000) (r : Bool) (hr : r = true ↔ ∃ x ∈ xs, M.getD x false = false) :
    Contract Tryz.prog 49 [LA b (nI xs), .func (.func 50) [] [.spot false [.list false false n (bools M)]]] (B r) := by
  have hxl := nI_len xs
  have hgd : ∀ (j : Nat) (hj : j < xs.length), xs.getD j 0 = xs[j]'hj := fun j hj => by rw [List.getD_eq_getElem?_getD, List.getElem?_eq_getElem hj]; rfl
  have key : Contract Tryz.prog 52 [LA b (nI xs), .func (.func 50) [] [.spot false [.list false false n (bools M)]]] (I (if r = true then (xs.findIdx fun x => !M.getD x false : Nat) else -1)) := by
    refine zi Tryz.func52 ?_
    refine zs ?_
    refine loopK_I [0, 1, 7, 8] (fun k : Nat => k ≤ xs.length ∧ ∀ j, j < k → M.getD (xs.getD j 0) false = true) (fun k : Nat => ⟨[(0, LA b (nI xs)), (1, .func (.func 50) [] [.spot false [.list false false n (bools M)]]), (7, I (nI xs).length), (8, I k)], []⟩) (fun k => xs.length - k) 0 ⟨by omega, fun j hj => by omega⟩ kz ?_
    rintro k ⟨hk, hall⟩
    by_cases hlt : k < xs.length
    · have hg := nI_get xs k
      have hmem : xs.getD k 0 ∈ xs := by rw [List.getD_eq_getElem?_getD, List.getElem?_eq_getElem hlt]; exact List.getElem_mem _
      have hNI := notIn_c n M hM (hx _ hmem) hn
      obtain ⟨y, hy⟩ : ∃ y, xs.getD k 0 = y := ⟨_, rfl⟩
      rw [hy] at hg hmem hNI
      refine zx1 @hg ?_
      refine callK_V 6 hNI (by simp (disch := omega) only [↓RP, RG, FX, RQ, ↓reduceIte, Nat.reduceEqDiff, reduceCtorEq, Nat.reduceBEq, Nat.reduceAdd, Nat.reduceLeDiff, RA] <;> rfl) (.inl rfl) ?_
      cases hc : M.getD y false with
      | false =>
        have hrt : r = true := hr.2 ⟨y, hmem, hc⟩
        have hf : (xs.findIdx fun x => !M.getD x false) = k := by
          have hp : (fun x => !M.getD x false) (xs[k]'hlt) = true := by
            have : xs[k]'hlt = y := by rw [← hy, List.getD_eq_getElem?_getD, List.getElem?_eq_getElem hlt]; rfl
            simp only [this, hc]; rfl
          refine (List.findIdx_eq hlt).2 ⟨hp, fun j hj => ?_⟩
          have := hall j hj
          rw [hgd j (by omega)] at this
          simp only [this]; rfl
        rw [if_pos hrt, hf]
        refine zs ?_
        exact zq1
      | true =>
        refine zs ?_
        refine ⟨k + 1, ⟨hlt, fun j hj => ?_⟩, rfl, by omega⟩
        by_cases e : j = k
        · subst e; rw [hy]; exact hc
        · exact hall j (by omega)
    · obtain rfl : k = xs.length := by omega
      have hrf : r = false := by
        cases r with
        | false => rfl
        | true =>
          obtain ⟨x, h1, h2⟩ := hr.1 rfl
          obtain ⟨i, hi, e⟩ := List.mem_iff_getElem.1 h1
          have := hall i hi
          rw [hgd i hi, e, h2] at this
          cases this
      subst hrf
      refine zs ?_
      exact zq1
      first | done | rfl
  refine zi Tryz.func49 ?_
  refine zs ?_
  refine callK_F 6 key (by simp (disch := omega) only [↓RP, RG, FX, RQ, ↓reduceIte, Nat.reduceEqDiff, reduceCtorEq, Nat.reduceBEq, Nat.reduceAdd, Nat.reduceLeDiff, RA] <;> rfl) (.inl rfl) ?_
  cases r with
  | false =>
    rw [if_neg (by simp)]
    refine zs ?_
    exact zq1
  | true =>
    rw [if_pos rfl]
    refine zs ?_
    exact zq1
def offD (W n : Nat) (l : List Bool) (M : List Bool) : Prop := ∀ a, a < n → ∀ c, c < n → ¬ (M.getD a false = false ∧ M.getD c false = true ∧ ov W l a c = true)
theorem adjT_len (W n : Nat) (l : List Bool) (c : Nat) : (adjT W n l c).length ≤ n := by
  unfold adjT; exact Nat.le_trans (List.length_filter_le _ _) (by simp)
theorem offP_c {W H n : Nat} (hN : W + H = n) (hW0 : 0 < W) (hH0 : 0 < H) (hn40 : n ≤ 64) (b bs : Bool) {l : List Bool} (hn : l.length = W * H) (s : List Int) (hs : s.length ≤ 1000) (r : Bool) (e : Int)
    (hno : ¬ okS n s s.length → r = false ∧ e = 2) (hyes : okS n s s.length → e = 0 ∧ (r = true ↔ 0 < s.length ∧ s.length ≠ n ∧ offD W n l (mks n s s.length))) :
    Contract Tryz.prog 35 [GA W H b l, LA bs s] (.tuple [B r, I e]) := by
  have hz : gchk W H l.length = 0 := gchk_ok ⟨by omega, by omega, by omega, by omega, by rw [hn, Int.natCast_mul]⟩
  have hNc : (W : Int) + (H : Int) = (n : Int) := by omega
  have hNi : ((W : Int) + (H : Int)).toNat = n := by omega
  have hcell : ofCell (.slice none 0 0) = .cap0 true := rfl
  refine zi Tryz.func35 ?_
  refine zs ?_
  refine zc (gcheckP_c W H b l) ?_
  refine zx5 @hz @make_bool @hNi @hNc @hcell ?_
  refine loopK_I [1, 2, 7, 24, 25, 26] (fun k : Nat => k ≤ s.length ∧ okS n s k) (fun k : Nat => ⟨[(1, LA bs s), (2, .ptr 0 0 3), (7, .ptr 2 0 1), (24, LA bs s), (25, I s.length), (26, I k)], [⟨24, 3, [I W, I H, BA b l]⟩, ⟨4, 1, bools (mks n s k)⟩, ⟨22, 1, [.ref 1 0 n n]⟩]⟩) (fun k => s.length - k) 0 ⟨by omega, fun i hi => by omega⟩ kz ?_
  rintro k ⟨hk, hok⟩
  by_cases hlt : k < s.length
  · have hI := isThread_c W H b l (s.getD k 0) (by omega) (by omega)
    rw [hNc] at hI
    have he : ((k : Int) - 1).toNat = k - 1 := by omega
    have hml := mks_len n s k
    by_cases c1 : 0 ≤ s.getD k 0 ∧ s.getD k 0 < n
    · rw [decide_eq_true c1] at hI
      obtain ⟨c11, c12⟩ := c1
      by_cases c2 : 0 < k
      · by_cases c3 : s.getD (k - 1) 0 < s.getD k 0
        · refine zs ?_
          refine zc (hI) ?_
          refine zx1 @he ?_
          exact ⟨k + 1, ⟨hlt, okS_succ hok ⟨c11, c12⟩ fun _ => c3⟩, rfl, by omega⟩
        · obtain ⟨hr1, hr2⟩ := hno fun h => c3 ((h k hlt).2 c2)
          subst hr1 hr2
          refine zs ?_
          refine zc (hI) ?_
          refine zx1 @he ?_
          exact zq2
      · refine zs ?_
        refine zc (hI) ?_
        refine zs ?_
        exact ⟨k + 1, ⟨hlt, okS_succ hok ⟨c11, c12⟩ fun h => absurd h c2⟩, rfl, by omega⟩
    · rw [decide_eq_false c1] at hI
      obtain ⟨hr1, hr2⟩ := hno fun h => c1 (h k hlt).1
      subst hr1 hr2
      refine zs ?_
      refine zc (hI) ?_
      refine zs ?_
      exact zq2
  obtain rfl : k = s.length := by omega
  obtain ⟨rfl, hr⟩ := hyes hok
  have hml := mks_len n s s.length
  by_cases c0 : s.length = 0
  · have hrf : r = false := by
      cases r with
      | false => rfl
      | true => exact absurd (hr.1 rfl).1 (by omega)
    subst hrf
    refine zs ?_
    exact zq2
  by_cases cn : s.length = n
  · have hrf : r = false := by
      cases r with
      | false => rfl
      | true => exact absurd cn (hr.1 rfl).2.1
    subst hrf
    refine zs ?_
    exact zq2
  have hO := order_c hN hW0 hH0 (by omega) (by omega) b hn
  have hab : (abv W n l).length = n := by simp [abv]
  have hat : ∀ c, c < n → ((LL (abv W n l)).drop c)[0]? = some (LR (nI (adjT W n l c)).isEmpty (nI (adjT W n l c))) := by
    intro c hc
    rw [LL_at (rs := abv W n l) (by omega), abv_adj hc]
  have hmg : ∀ a, a < n → ((mks n s s.length).getD a false = true ↔ ∃ i, i < s.length ∧ s.getD i 0 = a) := fun a ha => mks_get hok ha
  generalize LL (abv W n l) = la at *
  generalize LL (bel W n l) = ld at *
  generalize mks n s s.length = M at *
  refine zs ?_
  refine callK_F 6 hO (by simp (disch := first | assumption | omega | rfl | simp only [RH]) only [↓RP, RZ, ↓reduceIte, Nat.reduceEqDiff, reduceCtorEq, Nat.reduceBEq, Nat.reduceAdd, Nat.reduceLeDiff, RA] <;> rfl) (.inr (by simp [noRef, bools_noRef])) ?_
  refine zx1 @hcell ?_
  refine loopK_I [7, 10, 64, 65, 66] (fun k : Nat => k ≤ s.length ∧ ∀ i, i < k → ∀ x, x ∈ adjT W n l (s.getD i 0).toNat → M.getD x false = true) (fun k : Nat => ⟨[(7, .ptr 2 0 1), (10, .ptr 3 0 2), (64, LA bs s), (65, I s.length), (66, I k)], [⟨24, 3, [I W, I H, BA b l]⟩, ⟨4, 1, bools M⟩, ⟨22, 1, [.ref 1 0 n n]⟩, ⟨84, 2, [.list true false n ld, .list true false n la]⟩]⟩) (fun k => s.length - k) 0 ⟨by omega, fun i hi => by omega⟩ kz ?_
  rintro k ⟨hk, hall⟩
  by_cases hlt : k < s.length
  · obtain ⟨d1, d2⟩ := (hok k hlt).1
    obtain ⟨c, hc⟩ : ∃ c : Nat, s.getD k 0 = c := ⟨(s.getD k 0).toNat, by omega⟩
    have hcn : c < n := by omega
    have hac := hat c hcn
    have hct : (s.getD k 0).toNat = c := by omega
    have hxl := nI_len (adjT W n l c)
    have hxn := adjT_len W n l c
    by_cases hbad : ∃ x ∈ adjT W n l c, M.getD x false = false
    · have hS := some_c (nI (adjT W n l c)).isEmpty n M hml (adjT W n l c) (fun x hx => adjT_lt hx) (by omega) (by omega) true ⟨fun _ => hbad, fun _ => rfl⟩
      have hrf : r = false := by
        cases r with
        | false => rfl
        | true =>
          obtain ⟨x, h1, h2⟩ := hbad
          have hov : ov W l x c = true := by
            simp only [adjT, List.mem_filter] at h1; exact h1.2
          exact absurd ⟨h2, (hmg c hcn).2 ⟨k, hlt, hc⟩, hov⟩ ((hr.1 rfl).2.2 x (adjT_lt h1) c hcn)
      subst hrf
      generalize nI (adjT W n l c) = xs at *
      refine zx3 @hc @hct @hac ?_
      refine callK_F 6 hS (by simp (disch := omega) only [↓RP, RG, FX, RQ, ↓reduceIte, Nat.reduceEqDiff, reduceCtorEq, Nat.reduceBEq, Nat.reduceAdd, Nat.reduceLeDiff, RA, hml] <;> rfl) (.inl rfl) ?_
      refine zs ?_
      exact zq2
    · have hS := some_c (nI (adjT W n l c)).isEmpty n M hml (adjT W n l c) (fun x hx => adjT_lt hx) (by omega) (by omega) false ⟨fun h => (by cases h), fun h => absurd h hbad⟩
      have hnx : ∀ i, i < k + 1 → ∀ x, x ∈ adjT W n l (s.getD i 0).toNat → M.getD x false = true := by
        intro i hi x hx
        by_cases e : i = k
        · subst e
          rw [hct] at hx
          cases hm : M.getD x false with
          | true => rfl
          | false => exact absurd ⟨x, hx, hm⟩ hbad
        · exact hall i (by omega) x hx
      generalize nI (adjT W n l c) = xs at *
      refine zx3 @hc @hct @hac ?_
      refine callK_F 6 hS (by simp (disch := omega) only [↓RP, RG, FX, RQ, ↓reduceIte, Nat.reduceEqDiff, reduceCtorEq, Nat.reduceBEq, Nat.reduceAdd, Nat.reduceLeDiff, RA, hml] <;> rfl) (.inl rfl) ?_
      refine zs ?_
      exact ⟨k + 1, ⟨hlt, hnx⟩, rfl, by omega⟩
  · obtain rfl : k = s.length := by omega
    have hrt : r = true := hr.2 ⟨by omega, cn, fun a ha c hc ⟨h1, h2, h3⟩ => by
      obtain ⟨i, hi, e⟩ := (hmg c hc).1 h2
      have := hall i hi a (by
        rw [e]
        simp only [adjT, List.mem_filter, List.mem_range]
        exact ⟨ha, h3⟩)
      rw [h1] at this; cases this⟩
    subst hrt
    refine zs ?_
    exact zq2
structure Near (n a : Nat) (adj : Nat → List Nat) (far : List Int) (q : List Nat) : Prop where
  q0 : ∀ c ∈ q, 0 ≤ far.getD c 0
  one : ∀ x, x < n → far.getD x 0 = 0 → x = a
  zero : far.getD a 0 = 0
  next : ∀ x, x < n → 0 < far.getD x 0 → ∃ c, c < n ∧ far.getD c 0 = far.getD x 0 - 1 ∧ x ∈ adj c
theorem Near.push {n a : Nat} {adj : Nat → List Nat} {far : List Int} {q : List Nat} (h : Near n a adj far q) (hs : far.length = n) {b c : Nat} (hb : b < n) (hc : c < n) (hc0 : 0 ≤ far.getD c 0) (hn : far.getD b 0 < 0) (hadj : b ∈ adj c) : Near n a adj (far.set b (far.getD c 0 + 1)) (q ++ [b]) := by
  have hbl : b < far.length := by omega
  refine ⟨fun x hx => ?_, fun x hx h0 => ?_, ?_, fun x hx h0 => ?_⟩
  · rw [getD_set' hbl]
    split
    · omega
    · rcases List.mem_append.1 hx with g | g
      · exact h.q0 x g
      · rename_i hne
        exact absurd (by simpa using g) hne
  · rw [getD_set' hbl] at h0
    split at h0
    · omega
    · exact h.one x hx h0
  · rw [getD_set' hbl]
    have := h.zero
    rw [if_neg (fun e => by subst e; omega)]
    exact this
  · rw [getD_set' hbl] at h0 ⊢
    by_cases e : x = b
    · subst e
      rw [if_pos rfl] at h0 ⊢
      refine ⟨c, hc, ?_, hadj⟩
      rw [getD_set' hbl, if_neg (fun e => by subst e; omega)]
      omega
    · rw [if_neg e] at h0 ⊢
      obtain ⟨d, h1, h2, h3⟩ := h.next x hx h0
      refine ⟨d, h1, ?_, h3⟩
      rw [getD_set' hbl, if_neg (fun e => by subst e; omega)]
      exact h2
theorem inner_near {n a : Nat} {adj : Nat → List Nat} {c : Nat} (hc : c < n) : ∀ (ds : List Nat) (far : List Int) (q : List Nat), (∀ b ∈ ds, b < n ∧ b ∈ adj c) → Sound n far q → 0 ≤ far.getD c 0 → Near n a adj far q → Near n a adj (inner c ds (far, q)).1 (inner c ds (far, q)).2
  | [], far, q, _, _, _, h => h
  | b :: r, far, q, hd, hs, hc0, h => by
    have hd' : ∀ x ∈ r, x < n ∧ x ∈ adj c := fun x hx => hd x (List.mem_cons_of_mem _ hx)
    obtain ⟨hb, hbc⟩ := hd b List.mem_cons_self
    simp only [inner]
    split
    · rename_i hneg
      obtain ⟨h1, h2⟩ := hs.push hb hc hneg
      refine inner_near hc r _ _ hd' h1 ?_ (h.push hs.len hb hc hc0 hneg hbc)
      rw [getD_set' (by rw [hs.len]; exact hb), if_neg (fun e => by subst e; omega)]
      exact hc0
    · exact inner_near hc r far q hd' hs hc0 h
theorem bfs_near {n a : Nat} {adj : Nat → List Nat} (ha : ∀ c, c < n → ∀ b ∈ adj c, b < n) : ∀ (k : Nat) (far : List Int) (q : List Nat), Sound n far q → Near n a adj far q → ∃ q', Near n a adj (bfs adj k far q) q'
  | 0, far, q, _, h => ⟨q, h⟩
  | k + 1, far, [], _, h => ⟨[], h⟩
  | k + 1, far, c :: q, hs, h =>
    have hc := hs.mem c List.mem_cons_self
    bfs_near ha k _ _ (inner_ok hc (adj c) far q (ha c hc) hs.tail).1
      (inner_near hc (adj c) far q (fun b hb => ⟨ha c hc b hb, hb⟩) hs.tail (h.q0 c List.mem_cons_self) ⟨fun x hx => h.q0 x (List.mem_cons_of_mem _ hx), h.one, h.zero, h.next⟩)
theorem srch_near {W n : Nat} (l : List Bool) {a : Nat} (ha : a < n) : ∃ q, Near n a (adjT W n l) (srch (adjT W n l) (far0 n a) [a]) q := by
  refine bfs_near (fun c hc x hx => adjT_lt hx) _ _ _ (far0_sound ha).1 ?_
  have hl : a < (List.replicate n (-1 : Int)).length := by simpa using ha
  have hrep : ∀ x, x < n → (List.replicate n (-1 : Int)).getD x 0 = -1 := fun x hx => by simp [List.getD_eq_getElem?_getD, List.getElem?_replicate, hx]
  unfold far0
  refine ⟨fun x hx => ?_, fun x hx h0 => ?_, ?_, fun x hx h0 => ?_⟩
  · rw [getD_set' hl, if_pos (by simpa using hx)]; omega
  · rw [getD_set' hl] at h0
    by_cases e : x = a
    · exact e
    · rw [if_neg e, hrep x hx] at h0; omega
  · rw [getD_set' hl, if_pos rfl]
  · rw [getD_set' hl] at h0
    by_cases e : x = a
    · rw [if_pos e] at h0; omega
    · rw [if_neg e, hrep x hx] at h0; omega
theorem bfs_sound {n : Nat} {adj : Nat → List Nat} (ha : ∀ c, c < n → ∀ b ∈ adj c, b < n) : ∀ (k : Nat) (far : List Int) (q : List Nat), Sound n far q → ∃ q', Sound n (bfs adj k far q) q'
  | 0, far, q, h => ⟨q, h⟩
  | k + 1, far, [], h => ⟨[], h⟩
  | k + 1, far, c :: q, h => bfs_sound ha k _ _ (inner_ok (h.mem c List.mem_cons_self) (adj c) far q (ha c (h.mem c List.mem_cons_self)) h.tail).1
structure Dist (W n : Nat) (l : List Bool) (a : Nat) (far : List Int) : Prop where
  len : far.length = n
  low : ∀ i, i < n → -1 ≤ far.getD i 0
  high : ∀ i, i < n → far.getD i 0 ≤ n
  one : ∀ x, x < n → far.getD x 0 = 0 → x = a
  zero : far.getD a 0 = 0
  next : ∀ x, x < n → 0 < far.getD x 0 → ∃ c, c < n ∧ far.getD c 0 = far.getD x 0 - 1 ∧ ov W l x c = true
theorem srch_dist {W n : Nat} (l : List Bool) {a : Nat} (ha : a < n) : Dist W n l a (srch (adjT W n l) (far0 n a) [a]) := by
  obtain ⟨q, h⟩ := srch_near (W := W) l ha
  obtain ⟨q', hs⟩ := bfs_sound (adj := adjT W n l) (fun c hc x hx => adjT_lt hx) (2 * neg (far0 n a) + [a].length) _ _ (far0_sound ha).1
  have hs : Sound n (srch (adjT W n l) (far0 n a) [a]) q' := hs
  refine ⟨hs.len, hs.low, fun i hi => ?_, h.one, h.zero, fun x hx h0 => ?_⟩
  · have := hs.high i hi; omega
  · obtain ⟨c, h1, h2, h3⟩ := h.next x hx h0
    exact ⟨c, h1, h2, by simp only [adjT, List.mem_filter] at h3; exact h3.2⟩
def isN (W : Nat) (l : List Bool) (far : List Int) (x b : Nat) : Bool := decide (far.getD b 0 = far.getD x 0 - 1) && ov W l x b
def stp (W n : Nat) (l : List Bool) (far : List Int) (x : Nat) : Nat := (List.range n).findIdx (isN W l far x)
theorem stp_ok {W n : Nat} {l : List Bool} {a : Nat} {far : List Int} (h : Dist W n l a far) {x : Nat} (hx : x < n) (h0 : 0 < far.getD x 0) : stp W n l far x < n ∧ isN W l far x (stp W n l far x) = true ∧ ∀ j, j < stp W n l far x → isN W l far x j = false := by
  obtain ⟨c, h1, h2, h3⟩ := h.next x hx h0
  have hlt : stp W n l far x < (List.range n).length := by
    unfold stp
    rw [List.findIdx_lt_length]
    exact ⟨c, by simpa using h1, by unfold isN; rw [decide_eq_true h2, h3]; rfl⟩
  refine ⟨by simpa using hlt, ?_, fun j hj => ?_⟩
  · have := List.findIdx_getElem (xs := List.range n) (p := isN W l far x) (w := hlt)
    have e : (List.range n)[stp W n l far x]'hlt = stp W n l far x := List.getElem_range _
    rw [← e]; exact this
  · have := List.not_of_lt_findIdx (xs := List.range n) (p := isN W l far x) hj
    simpa using this
def wayL (W n : Nat) (l : List Bool) (far : List Int) : Nat → Nat → List Int
  | 0, _ => []
  | d + 1, x => (stp W n l far x : Int) :: wayL W n l far d (stp W n l far x)
theorem wayL_len (W n : Nat) (l : List Bool) (far : List Int) : ∀ d x, (wayL W n l far d x).length = d
  | 0, _ => rfl
  | d + 1, x => by simp [wayL, wayL_len W n l far d]
theorem upN_all {far : List Int} : ∀ {n : Nat}, (upN far n).length = n → ∀ i, i < n → 0 ≤ far.getD i 0 := by
  intro n
  induction n with
  | zero => intro _ i hi; omega
  | succ n ih =>
    intro h i hi
    have hle := upN_le far n
    simp only [upN] at h
    split at h
    · rename_i h0
      simp only [List.length_append, List.length_singleton] at h
      by_cases e : i = n
      · subst e; exact h0
      · exact ih (by omega) i (by omega)
    · omega
theorem best_least (W n : Nat) (l : List Bool) : ∀ k j, j ≤ k → (best W n l k).length ≤ (upon W n l j).length := by
  intro k
  induction k with
  | zero => intro j hj; obtain rfl : j = 0 := by omega
            exact Nat.le_refl _
  | succ k ih =>
    intro j hj
    simp only [best]
    by_cases e : j = k + 1
    · subst e
      split
      · exact Nat.le_refl _
      · rename_i h
        unfold less at h
        have := Classical.byContradiction fun hh => h (.inl (Nat.lt_of_not_le hh))
        exact this
    · have := ih j (by omega)
      split
      · rename_i h
        unfold less at h
        rcases h with h | h <;> omega
      · exact this
theorem all_near {W n : Nat} (l : List Bool) (hb : (best W n l (n - 1)).length = n) {a x : Nat} (ha : a < n) (hx : x < n) : 0 ≤ (srch (adjT W n l) (far0 n a) [a]).getD x 0 := by
  have h1 := best_least W n l (n - 1) a (by omega)
  have h2 := upon_le W n l a
  exact upN_all (show (upN (srch (adjT W n l) (far0 n a) [a]) n).length = n by show (upon W n l a).length = n; omega) x hx
def wayT (W n : Nat) (l : List Bool) (x a : Nat) : List Int := wayL W n l (srch (adjT W n l) (far0 n a) [a]) ((srch (adjT W n l) (far0 n a) [a]).getD x 0).toNat x
theorem wayT_len {W n : Nat} (l : List Bool) {x a : Nat} (ha : a < n) (hx : x < n) : (wayT W n l x a).length ≤ n := by
  unfold wayT
  rw [wayL_len]
  have := (srch_dist (W := W) l ha).high x hx
  omega
def wk (W n : Nat) (l : List Bool) : Nat → List Int
  | 0 => [0]
  | k + 1 => wk W n l k ++ wayT W n l k ((k + 1) % n)
theorem wk_len {W n : Nat} (l : List Bool) : ∀ k, k ≤ n → (wk W n l k).length ≤ 1 + k * n := by
  intro k
  induction k with
  | zero => intro _; simp [wk]
  | succ k ih =>
    intro hk
    have h1 := ih (by omega)
    have h2 := wayT_len (W := W) (n := n) l (x := k) (a := (k + 1) % n) (Nat.mod_lt _ (by omega)) (by omega)
    simp only [wk, List.length_append]
    rw [Nat.succ_mul]
    omega
theorem nI_inc {xs : List Nat} (h : xs.Pairwise (· < ·)) : (nI xs).Pairwise (· < ·) := by
  unfold nI
  rw [List.pairwise_map]
  exact h.imp fun h => by omega
def Cl (W n : Nat) (l : List Bool) (M : Nat → Prop) : Prop := ∀ c, c < n → M c → ∀ a, a < n → ov W l a c = true → M a
theorem mem_adjT {W n : Nat} {l : List Bool} {c a : Nat} : a ∈ adjT W n l c ↔ a < n ∧ ov W l a c = true := by
  simp only [adjT, List.mem_filter, List.mem_range]
theorem reach_in {W n : Nat} {l : List Bool} {a : Nat} (ha : a < n) {M : Nat → Prop} (hM : Cl W n l M) (h0 : M a) : ∀ (d x : Nat), x < n → (srch (adjT W n l) (far0 n a) [a]).getD x 0 = d → M x := by
  obtain ⟨q, hN⟩ := srch_near (W := W) l ha
  intro d
  induction d with
  | zero => intro x hx h; rw [hN.one x hx h]; exact h0
  | succ d ih =>
    intro x hx h
    obtain ⟨c, c1, c2, c3⟩ := hN.next x hx (by omega)
    exact hM c c1 (ih c c1 (by omega)) x hx (mem_adjT.1 c3).2
theorem inner_done {n c : Nat} (hc : c < n) : ∀ (ds : List Nat) (far : List Int) (q : List Nat), (∀ b ∈ ds, b < n) → Sound n far q → 0 ≤ far.getD c 0 →
    (∀ x, 0 ≤ far.getD x 0 → 0 ≤ (inner c ds (far, q)).1.getD x 0) ∧ (∀ b ∈ ds, 0 ≤ (inner c ds (far, q)).1.getD b 0) ∧ (∀ x, x < n → 0 ≤ (inner c ds (far, q)).1.getD x 0 → 0 ≤ far.getD x 0 ∨ x ∈ (inner c ds (far, q)).2) ∧ ∀ x ∈ q, x ∈ (inner c ds (far, q)).2
  | [], far, q, _, _, _ => ⟨fun x h => h, fun b hb => absurd hb (by simp), fun x hx h => Or.inl h, fun x h => h⟩
  | b :: r, far, q, hd, hs, hc0 => by
    have hd' : ∀ x ∈ r, x < n := fun x hx => hd x (List.mem_cons_of_mem _ hx)
    have hb := hd b List.mem_cons_self
    have hbl : b < far.length := by rw [hs.len]; exact hb
    simp only [inner]
    split
    · rename_i hneg
      obtain ⟨h1, h2⟩ := hs.push hb hc hneg
      have hc1 : 0 ≤ (far.set b (far.getD c 0 + 1)).getD c 0 := by
        rw [getD_set' hbl]; split <;> omega
      obtain ⟨i1, i2, i3, i4⟩ := inner_done hc r _ _ hd' h1 hc1
      refine ⟨fun x hx => i1 x ?_, fun x hx => ?_, fun x hx h => ?_, fun x hx => i4 x (List.mem_append_left _ hx)⟩
      · rw [getD_set' hbl]; split <;> omega
      · rcases List.mem_cons.1 hx with e | e
        · subst e
          refine i1 x ?_
          rw [getD_set' hbl, if_pos rfl]; omega
        · exact i2 x e
      · rcases i3 x hx h with g | g
        · rw [getD_set' hbl] at g
          by_cases e : x = b
          · exact .inr (i4 x (by simp [e]))
          · rw [if_neg e] at g; exact .inl g
        · exact .inr g
    · rename_i hneg
      obtain ⟨i1, i2, i3, i4⟩ := inner_done hc r far q hd' hs hc0
      refine ⟨i1, fun x hx => ?_, i3, i4⟩
      rcases List.mem_cons.1 hx with e | e
      · subst e; exact i1 x (by omega)
      · exact i2 x e
def Done (n : Nat) (adj : Nat → List Nat) (far : List Int) (q : List Nat) : Prop := (∀ c ∈ q, 0 ≤ far.getD c 0) ∧ ∀ c, c < n → 0 ≤ far.getD c 0 → c ∈ q ∨ ∀ b ∈ adj c, 0 ≤ far.getD b 0
theorem bfs_done {n : Nat} {adj : Nat → List Nat} (ha : ∀ c, c < n → ∀ b ∈ adj c, b < n) : ∀ (k : Nat) (far : List Int) (q : List Nat), Sound n far q → Done n adj far q → 2 * neg far + q.length ≤ k → Done n adj (bfs adj k far q) []
  | 0, far, q, _, h, hk => by
    have : q = [] := List.eq_nil_of_length_eq_zero (by omega)
    subst this; exact h
  | k + 1, far, [], _, h, _ => h
  | k + 1, far, c :: q, hs, h, hk => by
    have hc := hs.mem c List.mem_cons_self
    have hc0 := h.1 c List.mem_cons_self
    obtain ⟨h1, h2⟩ := inner_ok hc (adj c) far q (ha c hc) hs.tail
    obtain ⟨i1, i2, i3, i4⟩ := inner_done hc (adj c) far q (ha c hc) hs.tail hc0
    simp only [List.length_cons] at hk
    refine bfs_done ha k _ _ h1 ⟨fun x hx => ?_, fun x hx hx0 => ?_⟩ (by omega)
    · refine Classical.byContradiction fun hneg => ?_
      have hN : ∀ (ds : List Nat) (far : List Int) (q : List Nat), (∀ b ∈ ds, b < n) → Sound n far q → 0 ≤ far.getD c 0 → (∀ y ∈ q, 0 ≤ far.getD y 0) → ∀ y ∈ (inner c ds (far, q)).2, 0 ≤ (inner c ds (far, q)).1.getD y 0 := by
        intro ds
        induction ds with
        | nil => intro far q _ _ _ hq; exact hq
        | cons b r ih =>
          intro far q hd hs hc0 hq
          have hb := hd b List.mem_cons_self
          have hbl : b < far.length := by rw [hs.len]; exact hb
          simp only [inner]
          split
          · rename_i hneg
            refine ih _ _ (fun x hx => hd x (List.mem_cons_of_mem _ hx)) (hs.push hb hc hneg).1 ?_ (fun y hy => ?_)
            · rw [getD_set' hbl]; split <;> omega
            · rw [getD_set' hbl]
              split
              · omega
              · rename_i hne
                rcases List.mem_append.1 hy with g | g
                · exact hq y g
                · exact absurd (by simpa using g) hne
          · exact ih _ _ (fun x hx => hd x (List.mem_cons_of_mem _ hx)) hs hc0 hq
      exact hneg (hN (adj c) far q (ha c hc) hs.tail hc0 (fun y hy => h.1 y (List.mem_cons_of_mem _ hy)) x hx)
    · rcases i3 x hx hx0 with g | g
      · rcases h.2 x hx g with e | e
        · rcases List.mem_cons.1 e with e | e
          · subst e; exact .inr i2
          · exact .inl (i4 x e)
        · exact .inr fun b hb => i1 b (e b hb)
      · exact .inl g
def Rch (W n : Nat) (l : List Bool) (a x : Nat) : Prop := 0 ≤ (srch (adjT W n l) (far0 n a) [a]).getD x 0
instance (W n : Nat) (l : List Bool) (a x : Nat) : Decidable (Rch W n l a x) := by unfold Rch; infer_instance
theorem rch_cl {W n : Nat} (l : List Bool) {a : Nat} (ha : a < n) : Cl W n l (Rch W n l a) := by
  have h : Done n (adjT W n l) (srch (adjT W n l) (far0 n a) [a]) [] := by
    refine bfs_done (fun c hc x hx => adjT_lt hx) _ _ _ (far0_sound ha).1 ⟨fun c hc => ?_, fun c hc hc0 => ?_⟩ (Nat.le_refl _)
    · obtain rfl : c = a := by simpa using hc
      unfold far0
      rw [getD_set' (by simpa using ha), if_pos rfl]; omega
    · by_cases e : c = a
      · exact .inl (by simp [e])
      · unfold far0 at hc0
        rw [getD_set' (by simpa using ha), if_neg e] at hc0
        simp [List.getD_eq_getElem?_getD, List.getElem?_replicate, hc] at hc0
  intro c hc hR x hx hov
  rcases h.2 c hc hR with g | g
  · cases g
  · exact g x (mem_adjT.2 ⟨hx, hov⟩)
theorem rch_self {W n : Nat} (l : List Bool) {a : Nat} (ha : a < n) : Rch W n l a a := srch_self l ha
theorem rch_in {W n : Nat} {l : List Bool} {a x : Nat} (ha : a < n) (hx : x < n) {M : Nat → Prop} (hM : Cl W n l M) (h0 : M a) (h : Rch W n l a x) : M x :=
  reach_in ha hM h0 ((srch (adjT W n l) (far0 n a) [a]).getD x 0).toNat x hx (by unfold Rch at h; omega)
theorem upN_eq (far : List Int) (k : Nat) : upN far k = nI ((List.range k).filter fun i => decide (0 ≤ far.getD i 0)) := by
  induction k with
  | zero => rfl
  | succ k ih =>
    simp only [upN]
    rw [List.range_succ, List.filter_append, ih]
    split
    · rename_i h
      rw [List.filter_cons_of_pos (by simpa using h), List.filter_nil, nI_app]
    · rename_i h
      rw [List.filter_cons_of_neg (by simpa using h), List.filter_nil, List.append_nil]
theorem upon_eq (W n : Nat) (l : List Bool) (a : Nat) : upon W n l a = nI ((List.range n).filter fun i => decide (Rch W n l a i)) := upN_eq _ _
theorem upon_inc (W n : Nat) (l : List Bool) (a : Nat) : (upon W n l a).Pairwise (· < ·) := by rw [upon_eq]; exact nI_inc (List.Pairwise.filter _ List.pairwise_lt_range)
theorem mem_upon {W n : Nat} {l : List Bool} {a : Nat} {x : Int} : x ∈ upon W n l a ↔ ∃ y : Nat, y < n ∧ x = y ∧ Rch W n l a y := by
  rw [upon_eq]
  unfold nI
  simp only [List.mem_map, List.mem_filter, List.mem_range, decide_eq_true_eq]
  constructor
  · rintro ⟨y, ⟨h1, h2⟩, rfl⟩; exact ⟨y, h1, rfl, h2⟩
  · rintro ⟨y, h1, rfl, h2⟩; exact ⟨y, ⟨h1, h2⟩, rfl⟩
theorem best_upon (W n : Nat) (l : List Bool) : ∀ k, ∃ j, j ≤ k ∧ best W n l k = upon W n l j := by
  intro k
  induction k with
  | zero => exact ⟨0, Nat.le_refl _, rfl⟩
  | succ k ih =>
    simp only [best]
    split
    · exact ⟨k + 1, Nat.le_refl _, rfl⟩
    · obtain ⟨j, h1, h2⟩ := ih; exact ⟨j, by omega, h2⟩
def Hg (W n : Nat) (l : List Bool) : Prop := ∀ M : Nat → Prop, Cl W n l M → (∃ c, c < n ∧ M c) → ∀ x, x < n → M x
theorem hg_best {W n : Nat} {l : List Bool} (hn : 0 < n) : (best W n l (n - 1)).length = n ↔ Hg W n l := by
  constructor
  · rintro hb M hM ⟨c, hc, h0⟩ x hx
    exact rch_in hc hx hM h0 (all_near l hb hc hx)
  · intro h
    obtain ⟨j, h1, h2⟩ := best_upon W n l (n - 1)
    have hall : ∀ x, x < n → Rch W n l j x := h _ (rch_cl l (by omega)) ⟨j, by omega, rch_self l (by omega)⟩
    rw [h2, upon_eq, List.filter_eq_self.2 (fun x hx => decide_eq_true (hall x (List.mem_range.1 hx))), nI_len, List.length_range]
def belT (W n : Nat) (l : List Bool) (x : Nat) : List Nat := (List.range n).filter fun c => ov W l x c
theorem bel_adj {W n : Nat} {l : List Bool} {c : Nat} (hc : c < n) : (bel W n l).getD c [] = nI (belT W n l c) := by rw [bel_get hc]; rfl
theorem belT_lt {W n : Nat} {l : List Bool} {x c : Nat} (h : c ∈ belT W n l x) : c < n := by
  simp only [belT, List.mem_filter, List.mem_range] at h; exact h.1
theorem belT_len (W n : Nat) (l : List Bool) (x : Nat) : (belT W n l x).length ≤ n := by
  unfold belT; exact Nat.le_trans (List.length_filter_le _ _) (by simp)
theorem row_next {W n : Nat} {l : List Bool} {a : Nat} {far : List Int} (h : Dist W n l a far) {x : Nat} (hx : x < n) (h0 : 0 < far.getD x 0) :
    ∃ r : Nat, r < (belT W n l x).length ∧ (belT W n l x).getD r 0 = stp W n l far x ∧ far.getD ((belT W n l x).getD r 0) 0 = far.getD x 0 - 1 ∧ ∀ j, j < r → far.getD ((belT W n l x).getD j 0) 0 ≠ far.getD x 0 - 1 := by
  obtain ⟨s1, s2, s3⟩ := stp_ok h hx h0
  have s2' := s2
  unfold isN at s2'
  simp only [Bool.and_eq_true, decide_eq_true_eq] at s2'
  have hm : stp W n l far x ∈ belT W n l x := by
    simp only [belT, List.mem_filter, List.mem_range]; exact ⟨s1, s2'.2⟩
  obtain ⟨r, hr, e⟩ := List.getElem_of_mem hm
  have hg : ∀ (j : Nat) (hj : j < (belT W n l x).length), (belT W n l x).getD j 0 = (belT W n l x)[j]'hj := fun j hj => by rw [List.getD_eq_getElem?_getD, List.getElem?_eq_getElem hj]; rfl
  have hp : (belT W n l x).Pairwise (· < ·) := List.Pairwise.filter _ List.pairwise_lt_range
  refine ⟨r, hr, by rw [hg r hr, e], by rw [hg r hr, e]; exact s2'.1, fun j hj hc => ?_⟩
  have hjl : j < (belT W n l x).length := by omega
  have hlt := List.pairwise_iff_getElem.1 hp j r hjl hr hj
  rw [e] at hlt
  have hn := s3 _ hlt
  have hmem : (belT W n l x)[j]'hjl ∈ belT W n l x := List.getElem_mem _
  generalize hz : (belT W n l x)[j]'hjl = z at *
  rw [hg j hjl, hz] at hc
  have hov : ov W l x z = true := by
    simp only [belT, List.mem_filter] at hmem; exact hmem.2
  unfold isN at hn
  rw [decide_eq_true hc, hov] at hn
  cases hn
theorem near_c (far : List Int) {n x c : Nat} (hf : far.length = n) (hx : x < n) (hc : c < n) (hn : n ≤ 1000) (h1 : -1 ≤ far.getD x 0) (h2 : far.getD x 0 ≤ 1000) : Contract Tryz.prog 53 [I c, .spot false [LA false far], .spot false [I x]] (B (decide (far.getD c 0 = far.getD x 0 - 1))) := by
  by_cases he : far.getD c 0 = far.getD x 0 - 1
  · refine zi Tryz.func53 ?_
    refine zs ?_
    exact zq1
    first | done | simp [he]
  · refine zi Tryz.func53 ?_
    refine zs ?_
    exact zq1
    first | done | simp [he]
theorem next_c (b : Bool) (far : List Int) {n x : Nat} (hf : far.length = n) (hx : x < n) (hn : n ≤ 1000) (h1 : -1 ≤ far.getD x 0) (h2 : far.getD x 0 ≤ 1000) (xs : List Nat) (hxs : ∀ c ∈ xs, c < n) (hxl0 : xs.length ≤ 1000) {r : Nat} (hr : r < xs.length) (hr2 : far.getD (xs.getD r 0) 0 = far.getD x 0 - 1) (hr3 : ∀ j, j < r → far.getD (xs.getD j 0) 0 ≠ far.getD x 0 - 1) :
    Contract Tryz.prog 52 [LA b (nI xs), .func (.func 53) [] [.spot false [LA false far], .spot false [I x]]] (I r) := by
  have hxl := nI_len xs
  refine zi Tryz.func52 ?_
  refine zs ?_
  refine loopK_I [0, 1, 7, 8] (fun k : Nat => k ≤ r) (fun k : Nat => ⟨[(0, LA b (nI xs)), (1, .func (.func 53) [] [.spot false [LA false far], .spot false [I x]]), (7, I (nI xs).length), (8, I k)], []⟩) (fun k => r - k) 0 (by omega) kz ?_
  intro k hk
  have hkl : k < xs.length := by omega
  have hg := nI_get xs k
  have hmem : xs.getD k 0 ∈ xs := by rw [List.getD_eq_getElem?_getD, List.getElem?_eq_getElem hkl]; exact List.getElem_mem _
  have hNI := near_c far hf hx (hxs _ hmem) hn h1 h2
  by_cases hlt : k < r
  · rw [decide_eq_false (hr3 k hlt)] at hNI
    generalize xs.getD k 0 = y at *
    refine zx1 @hg ?_
    refine callK_V 6 hNI (by simp (disch := omega) only [↓RP, RG, FX, RQ, ↓reduceIte, Nat.reduceEqDiff, reduceCtorEq, Nat.reduceBEq, Nat.reduceAdd, Nat.reduceLeDiff, RA] <;> rfl) (.inl rfl) ?_
    refine zs ?_
    exact ⟨k + 1, hlt, rfl, by omega⟩
  · obtain rfl : k = r := by omega
    rw [decide_eq_true hr2] at hNI
    generalize xs.getD k 0 = y at *
    refine zx1 @hg ?_
    refine callK_V 6 hNI (by simp (disch := omega) only [↓RP, RG, FX, RQ, ↓reduceIte, Nat.reduceEqDiff, reduceCtorEq, Nat.reduceBEq, Nat.reduceAdd, Nat.reduceLeDiff, RA] <;> rfl) (.inl rfl) ?_
    refine zs ?_
    exact zq1
def acS (W n : Nat) (l : List Bool) (s : List Int) (k : Nat) : Prop := ∀ i, i < k → (0 ≤ s.getD i 0 ∧ s.getD i 0 < n) ∧ (0 < i → ov W l (s.getD (i - 1) 0).toNat (s.getD i 0).toNat = true)
theorem acS_succ {W n : Nat} {l : List Bool} {s : List Int} {k : Nat} (h : acS W n l s k) (h1 : 0 ≤ s.getD k 0 ∧ s.getD k 0 < n) (h2 : 0 < k → ov W l (s.getD (k - 1) 0).toNat (s.getD k 0).toNat = true) : acS W n l s (k + 1) := by
  intro i hi
  by_cases e : i = k
  · subst e; exact ⟨h1, h2⟩
  · exact h i (by omega)
def accD (W n : Nat) (l : List Bool) (s : List Int) : Prop := acS W n l s s.length ∧ 2 ≤ s.length ∧ s.getD 0 0 = s.getD (s.length - 1) 0 ∧ ∀ a, a < n → ∃ i, i < s.length ∧ s.getD i 0 = a
def Chn (W n : Nat) (l : List Bool) : Nat → List Int → Prop
  | _, [] => True
  | x, y :: ys => (0 ≤ y ∧ y < n) ∧ ov W l x y.toNat = true ∧ Chn W n l y.toNat ys
def lst : Nat → List Int → Nat
  | x, [] => x
  | _, y :: ys => lst y.toNat ys
theorem chn_app {W n : Nat} {l : List Bool} : ∀ (ys zs : List Int) (x : Nat), Chn W n l x ys → Chn W n l (lst x ys) zs → Chn W n l x (ys ++ zs)
  | [], _, _, _, h => h
  | y :: ys, zs, x, h, g => ⟨h.1, h.2.1, chn_app ys zs y.toNat h.2.2 g⟩
theorem lst_app : ∀ (ys zs : List Int) (x : Nat), lst x (ys ++ zs) = lst (lst x ys) zs
  | [], _, _ => rfl
  | y :: ys, zs, x => lst_app ys zs y.toNat
theorem lst_mem {W n : Nat} {l : List Bool} : ∀ (ys : List Int) (x : Nat), Chn W n l x ys → lst x ys = x ∨ (lst x ys : Int) ∈ ys
  | [], _, _ => .inl rfl
  | y :: ys, x, h => by
    have h1 := h.1
    rcases lst_mem ys y.toNat h.2.2 with g | g
    · refine .inr ?_
      show ((lst y.toNat ys : Nat) : Int) ∈ y :: ys
      rw [g]
      have : ((y.toNat : Nat) : Int) = y := by omega
      rw [this]; exact List.mem_cons_self
    · exact .inr (List.mem_cons_of_mem _ g)
theorem chn_way {W n : Nat} {l : List Bool} {a : Nat} {far : List Int} (h : Dist W n l a far) : ∀ (d x : Nat), x < n → far.getD x 0 = d → Chn W n l x (wayL W n l far d x) ∧ lst x (wayL W n l far d x) = a := by
  intro d
  induction d with
  | zero => intro x hx h0; exact ⟨trivial, h.one x hx h0⟩
  | succ d ih =>
    intro x hx h0
    obtain ⟨s1, s2, s3⟩ := stp_ok h hx (by omega)
    unfold isN at s2
    simp only [Bool.and_eq_true, decide_eq_true_eq] at s2
    obtain ⟨i1, i2⟩ := ih (stp W n l far x) s1 (by omega)
    simp only [wayL]
    exact ⟨⟨by omega, s2.2, i1⟩, i2⟩
def tlW (W n : Nat) (l : List Bool) : Nat → List Int
  | 0 => []
  | k + 1 => tlW W n l k ++ wayT W n l k ((k + 1) % n)
theorem wk_tl (W n : Nat) (l : List Bool) : ∀ k, wk W n l k = 0 :: tlW W n l k
  | 0 => rfl
  | k + 1 => by simp only [wk, tlW, wk_tl W n l k]; rfl
theorem chn_tl {W n : Nat} (l : List Bool) (hb : (best W n l (n - 1)).length = n) (hn : 0 < n) : ∀ k, k ≤ n → Chn W n l 0 (tlW W n l k) ∧ lst 0 (tlW W n l k) = k % n := by
  intro k
  induction k with
  | zero => intro _; exact ⟨trivial, (Nat.zero_mod n).symm⟩
  | succ k ih =>
    intro hk
    obtain ⟨i1, i2⟩ := ih (by omega)
    rw [Nat.mod_eq_of_lt (by omega)] at i2
    have hm : (k + 1) % n < n := Nat.mod_lt _ hn
    have hnear := all_near (W := W) l hb hm (show k < n by omega)
    obtain ⟨j1, j2⟩ := chn_way (srch_dist (W := W) l hm) ((srch (adjT W n l) (far0 n ((k + 1) % n)) [(k + 1) % n]).getD k 0).toNat k (by omega) (by omega)
    refine ⟨chn_app _ _ _ i1 (by rw [i2]; exact j1), ?_⟩
    show lst 0 (tlW W n l k ++ wayT W n l k ((k + 1) % n)) = _
    rw [lst_app, i2]; exact j2
theorem wk_mem {W n : Nat} (l : List Bool) (hb : (best W n l (n - 1)).length = n) (hn : 0 < n) : ∀ k, k ≤ n → ∀ a, a ≤ k → a < n → (a : Int) ∈ wk W n l k := by
  intro k
  induction k with
  | zero =>
    intro _ a ha _
    obtain rfl : a = 0 := by omega
    simp [wk]
  | succ k ih =>
    intro hk a ha han
    by_cases e : a = k + 1
    · subst e
      obtain ⟨h1, h2⟩ := chn_tl l hb hn (k + 1) hk
      rw [Nat.mod_eq_of_lt han] at h2
      rw [wk_tl]
      rcases lst_mem _ _ h1 with g | g
      · omega
      · rw [h2] at g; exact List.mem_cons_of_mem _ g
    · simp only [wk]
      exact List.mem_append_left _ (ih (by omega) a (by omega) han)
theorem chn_acS {W n : Nat} {l : List Bool} : ∀ (ys : List Int) (x : Nat), x < n → Chn W n l x ys → acS W n l ((x : Int) :: ys) (ys.length + 1) := by
  intro ys
  induction ys with
  | nil =>
    intro x hx _ i hi
    obtain rfl : i = 0 := by simp at hi; omega
    exact ⟨by simp only [List.getD_cons_zero]; omega, fun h => absurd h (by omega)⟩
  | cons y ys ih =>
    intro x hx h i hi
    have hy := h.1
    have ihy := ih y.toNat (by omega) h.2.2
    rw [show ((y.toNat : Nat) : Int) = y by omega] at ihy
    match i, hi with
    | 0, _ => exact ⟨by simp only [List.getD_cons_zero]; omega, fun h => absurd h (by omega)⟩
    | 1, _ => exact ⟨by simp only [List.getD_cons_succ, List.getD_cons_zero]; exact hy, fun _ => by simp only [List.getD_cons_succ, List.getD_cons_zero, Nat.sub_self, Int.toNat_natCast]; exact h.2.1⟩
    | i + 2, hi =>
      have g := ihy (i + 1) (by simp only [List.length_cons] at hi; omega)
      refine ⟨by simpa only [List.getD_cons_succ] using g.1, fun _ => ?_⟩
      have g2 := g.2 (by omega)
      rw [show i + 2 - 1 = i + 1 by omega]
      rw [show i + 1 - 1 = i by omega] at g2
      simpa only [List.getD_cons_succ] using g2
theorem lst_last {W n : Nat} {l : List Bool} : ∀ (ys : List Int) (x : Nat), Chn W n l x ys → ((x : Int) :: ys).getD ys.length 0 = lst x ys
  | [], _, _ => rfl
  | y :: ys, x, h => by
    have h1 := h.1
    have := lst_last ys y.toNat h.2.2
    rw [show ((y.toNat : Nat) : Int) = y by omega] at this
    simp only [List.length_cons, List.getD_cons_succ]
    exact this
theorem acc_wk {W n : Nat} (l : List Bool) (hb : (best W n l (n - 1)).length = n) (hn : 2 ≤ n) : accD W n l (wk W n l n) := by
  obtain ⟨h1, h2⟩ := chn_tl l hb (by omega) n (Nat.le_refl _)
  rw [Nat.mod_self] at h2
  have h3 := chn_acS _ 0 (by omega) h1
  have h4 := lst_last _ _ h1
  have hm := wk_mem l hb (by omega) n (Nat.le_refl _)
  rw [h2] at h4
  have h5 : (1 : Int) ∈ wk W n l n := hm 1 (by omega) (by omega)
  rw [wk_tl] at h5 ⊢
  have hpos : 0 < (tlW W n l n).length := by
    rcases List.mem_cons.1 h5 with e | e
    · omega
    · exact List.length_pos_of_mem e
  refine ⟨h3, by simp only [List.length_cons]; omega, ?_, fun a ha => ?_⟩
  · simp only [List.length_cons, Nat.add_sub_cancel]
    exact h4.symm
  · have := hm a (by omega) ha
    rw [wk_tl] at this
    exact mem_getD.1 this
theorem inc_okS {n : Nat} {s : List Int} (h : s.Pairwise (· < ·)) (hm : ∀ x ∈ s, 0 ≤ x ∧ x < n) : okS n s s.length := by
  have hgd : ∀ (j : Nat) (hj : j < s.length), s.getD j 0 = s[j]'hj := fun j hj => by rw [List.getD_eq_getElem?_getD, List.getElem?_eq_getElem hj]; rfl
  intro i hi
  refine ⟨hm _ (mem_getD.2 ⟨i, hi, rfl⟩), fun h0 => ?_⟩
  rw [hgd i hi, hgd (i - 1) (by omega)]
  exact List.pairwise_iff_getElem.1 h (i - 1) i (by omega) hi (by omega)
theorem okS_inc {n : Nat} {s : List Int} (h : okS n s s.length) : s.Pairwise (· < ·) := by
  have hgd : ∀ (j : Nat) (hj : j < s.length), s.getD j 0 = s[j]'hj := fun j hj => by rw [List.getD_eq_getElem?_getD, List.getElem?_eq_getElem hj]; rfl
  rw [List.pairwise_iff_getElem]
  have : ∀ (d i : Nat), i + d + 1 < s.length → s.getD i 0 < s.getD (i + d + 1) 0 := by
    intro d
    induction d with
    | zero => intro i hi; have := (h (i + 1) hi).2 (by omega); rwa [show i + 1 - 1 = i by omega] at this
    | succ d ih =>
      intro i hi
      have h1 := ih i (by omega)
      have h2 := (h (i + (d + 1) + 1) hi).2 (by omega)
      rw [show i + (d + 1) + 1 - 1 = i + d + 1 by omega] at h2
      omega
  intro i j hi hj hij
  have := this (j - i - 1) i (by omega)
  rw [show i + (j - i - 1) + 1 = j by omega, hgd i hi, hgd j hj] at this
  exact this
theorem mks_mem {n : Nat} {s : List Int} (h : okS n s s.length) {a : Nat} (ha : a < n) : (mks n s s.length).getD a false = true ↔ (a : Int) ∈ s := (mks_get h ha).trans mem_getD.symm
theorem okS_eq {n : Nat} {s : List Int} (h : okS n s s.length) : s = nI ((List.range n).filter fun a => (mks n s s.length).getD a false) := by
  refine sinc_ext _ _ (okS_inc h) (nI_inc (List.Pairwise.filter _ List.pairwise_lt_range)) fun x => ?_
  unfold nI
  simp only [List.mem_map, List.mem_filter, List.mem_range]
  constructor
  · intro hx
    obtain ⟨i, hi, e⟩ := mem_getD.1 hx
    have := (h i hi).1
    have hxn : ((x.toNat : Nat) : Int) = x := by omega
    refine ⟨x.toNat, ⟨by omega, (mks_mem h (by omega)).2 (by rw [hxn]; exact hx)⟩, hxn⟩
  · rintro ⟨y, ⟨h1, h2⟩, rfl⟩
    exact (mks_mem h h1).1 h2
theorem offD_cl {W n : Nat} {l M : List Bool} : offD W n l M ↔ Cl W n l fun a => M.getD a false = true := by
  constructor
  · intro h c hc hm a ha hov
    cases hb : M.getD a false with
    | true => rfl
    | false => exact absurd ⟨hb, hm, hov⟩ (h a ha c hc)
  · rintro h a ha c hc ⟨h1, h2, h3⟩
    have this : M.getD a false = true := h c hc h2 a ha h3
    rw [h1] at this; cases this
theorem filter_len_le {p q : Nat → Bool} (n : Nat) (h : ∀ a, a < n → p a = true → q a = true) : ((List.range n).filter p).length ≤ ((List.range n).filter q).length := by
  rw [← List.countP_eq_length_filter, ← List.countP_eq_length_filter]
  exact List.countP_mono_left fun x hx hp => h x (List.mem_range.1 hx) hp
theorem off_min {W n : Nat} {l : List Bool} {s : List Int} (h : okS n s s.length) (h0 : 0 < s.length) (hd : offD W n l (mks n s s.length)) : (best W n l (n - 1)).length ≤ s.length := by
  obtain ⟨c0, c1⟩ := (h 0 h0).1
  obtain ⟨c, hc⟩ : ∃ c : Nat, s.getD 0 0 = c := ⟨(s.getD 0 0).toNat, by omega⟩
  have hcn : c < n := by omega
  have hcm : (mks n s s.length).getD c false = true := (mks_mem h hcn).2 (mem_getD.2 ⟨0, h0, hc⟩)
  have h1 := best_least W n l (n - 1) c (by omega)
  have h2 : (upon W n l c).length ≤ s.length := by
    have e : s.length = ((List.range n).filter fun a => (mks n s s.length).getD a false).length := by
      have := congrArg List.length (okS_eq h)
      rwa [nI_len] at this
    rw [upon_eq, nI_len, e]
    exact filter_len_le n fun a ha hp => rch_in hcn ha (offD_cl.1 hd) hcm (by simpa using hp)
  omega
theorem off_hg {W n : Nat} {l : List Bool} (hg : Hg W n l) {s : List Int} (h : okS n s s.length) (h0 : 0 < s.length) (hd : offD W n l (mks n s s.length)) : s.length = n := by
  obtain ⟨c0, c1⟩ := (h 0 h0).1
  have h1 := off_min h h0 hd
  rw [(hg_best (by omega)).2 hg] at h1
  have h2 : s.length ≤ n := by
    rw [okS_eq h, nI_len]
    exact Nat.le_trans (List.length_filter_le _ _) (by simp)
  omega
theorem apt_off {W n : Nat} {l : List Bool} (hn : 0 < n) (hb : (best W n l (n - 1)).length ≠ n) : okS n (apt W n l) (apt W n l).length ∧ 0 < (apt W n l).length ∧ (apt W n l).length ≠ n ∧ offD W n l (mks n (apt W n l) (apt W n l).length) := by
  have ha : apt W n l = best W n l (n - 1) := if_neg hb
  rw [ha]
  have hp := (best_ok (W := W) (n := n) l (n - 1) (by omega)).1
  obtain ⟨j, j1, j2⟩ := best_upon W n l (n - 1)
  have hj : j < n := by omega
  have hok : okS n (best W n l (n - 1)) (best W n l (n - 1)).length := by
    rw [j2]
    refine inc_okS (upon_inc W n l j) fun x hx => ?_
    obtain ⟨y, y1, rfl, _⟩ := mem_upon.1 hx
    omega
  have hin : ∀ a, a < n → ((mks n (best W n l (n - 1)) (best W n l (n - 1)).length).getD a false = true ↔ Rch W n l j a) := by
    intro a ha
    rw [mks_mem hok ha, j2, mem_upon]
    constructor
    · rintro ⟨y, y1, y2, y3⟩
      obtain rfl : a = y := by omega
      exact y3
    · intro h; exact ⟨a, ha, rfl, h⟩
  refine ⟨hok, hp, hb, offD_cl.2 fun c hc hm a ha hov => ?_⟩
  exact (hin a ha).2 (rch_cl l hj c hc ((hin c hc).1 hm) a ha hov)
def fil (n : Nat) (p : Nat → Bool) : List Int := nI ((List.range n).filter p)
theorem fil_len (n : Nat) (p : Nat → Bool) : (fil n p).length = ((List.range n).filter p).length := nI_len _
theorem mem_fil {n : Nat} {p : Nat → Bool} {a : Nat} : (a : Int) ∈ fil n p ↔ a < n ∧ p a = true := by
  unfold fil nI
  simp only [List.mem_map, List.mem_filter, List.mem_range]
  constructor
  · rintro ⟨y, h, e⟩
    obtain rfl : y = a := by omega
    exact h
  · intro h; exact ⟨a, h, rfl⟩
theorem fil_okS (n : Nat) (p : Nat → Bool) : okS n (fil n p) (fil n p).length := by
  refine inc_okS (nI_inc (List.Pairwise.filter _ List.pairwise_lt_range)) fun x hx => ?_
  have hx : x ∈ fil n p := hx
  unfold fil nI at hx
  simp only [List.mem_map, List.mem_filter, List.mem_range] at hx
  obtain ⟨y, h, rfl⟩ := hx
  omega
theorem fil_mks {n : Nat} {p : Nat → Bool} {a : Nat} (ha : a < n) : (mks n (fil n p) (fil n p).length).getD a false = p a := by
  have h := mks_mem (fil_okS n p) ha
  rw [mem_fil] at h
  cases hp : p a with
  | true => exact h.2 ⟨ha, hp⟩
  | false =>
    cases hm : (mks n (fil n p) (fil n p).length).getD a false with
    | false => rfl
    | true => have := (h.1 hm).2; rw [hp] at this; cases this
theorem fil_pos {n : Nat} {p : Nat → Bool} : 0 < (fil n p).length ↔ ∃ a, a < n ∧ p a = true := by
  rw [fil_len, List.length_pos_iff_exists_mem]
  simp only [List.mem_filter, List.mem_range]
theorem fil_all {n : Nat} {p : Nat → Bool} : (fil n p).length = n ↔ ∀ a, a < n → p a = true := by
  rw [fil_len]
  constructor
  · intro h a ha
    have h2 := List.length_filter_eq_length_iff.1 (h.trans (List.length_range (n := n)).symm)
    exact h2 a (List.mem_range.2 ha)
  · intro h
    rw [List.filter_eq_self.2 fun a ha => h a (List.mem_range.1 ha), List.length_range]
def Offs (W n : Nat) (l : List Bool) (p : Nat → Bool) : Prop := (∃ a, a < n ∧ p a = true) ∧ (∃ a, a < n ∧ p a = false) ∧ ∀ a, a < n → ∀ c, c < n → ¬ (p a = false ∧ p c = true ∧ ov W l a c = true)
theorem offs_iff {W n : Nat} {l : List Bool} {p : Nat → Bool} : 0 < (fil n p).length ∧ (fil n p).length ≠ n ∧ offD W n l (mks n (fil n p) (fil n p).length) ↔ Offs W n l p := by
  rw [fil_pos, Ne, fil_all]
  unfold Offs offD
  refine and_congr_right fun _ => and_congr ⟨fun h => ?_, fun h h2 => ?_⟩ ⟨fun h a ha c hc => ?_, fun h a ha c hc => ?_⟩
  · refine Classical.byContradiction fun hn => h fun a ha => ?_
    cases hp : p a with
    | true => rfl
    | false => exact absurd ⟨a, ha, hp⟩ hn
  · obtain ⟨a, ha, hp⟩ := h
    rw [h2 a ha] at hp; cases hp
  · have := h a ha c hc; rwa [fil_mks ha, fil_mks hc] at this
  · rw [fil_mks ha, fil_mks hc]; exact h a ha c hc
theorem hg_over {W n : Nat} {l : List Bool} (h : Hg W n l) (hn : 2 ≤ n) {y : Nat} (hy : y < n) : ∃ c, c < n ∧ ov W l y c = true := by
  refine Classical.byContradiction fun hno => ?_
  have := h (fun x => x ≠ y) (fun c hc _ a ha hov e => hno ⟨c, hc, by rw [← e]; exact hov⟩) ?_ y hy
  · exact this rfl
  · by_cases e : y = 0
    · exact ⟨1, by omega, by omega⟩
    · exact ⟨0, by omega, by omega⟩
theorem hg_sur {W n W' n' : Nat} {l l' : List Bool} (φ : Nat → Nat) (h1 : ∀ a, a < n' → φ a < n) (h2 : ∀ y, y < n → ∃ a, a < n' ∧ φ a = y) (hov : ∀ a, a < n' → ∀ c, c < n' → ov W' l' a c = ov W l (φ a) (φ c)) (hn : 2 ≤ n) : Hg W n l ↔ Hg W' n' l' := by
  constructor
  · rintro h M hM ⟨c0, hc0, m0⟩ x hx
    have hall : ∀ y, y < n → ∃ a, a < n' ∧ φ a = y ∧ M a := by
      refine h (fun y => ∃ a, a < n' ∧ φ a = y ∧ M a) (fun c hc hm a ha ho => ?_) ⟨φ c0, h1 c0 hc0, c0, hc0, rfl, m0⟩
      obtain ⟨c', g1, g2, g3⟩ := hm
      obtain ⟨a', g4, g5⟩ := h2 a ha
      exact ⟨a', g4, g5, hM c' g1 g3 a' g4 (by rw [hov a' g4 c' g1, g5, g2]; exact ho)⟩
    obtain ⟨c, hc, ho⟩ := hg_over h hn (h1 x hx)
    obtain ⟨c', g1, g2, g3⟩ := hall c hc
    exact hM c' g1 g3 x hx (by rw [hov x hx c' g1, g2]; exact ho)
  · rintro h M hM ⟨c0, hc0, m0⟩ x hx
    obtain ⟨c', g1, g2⟩ := h2 c0 hc0
    obtain ⟨x', g3, g4⟩ := h2 x hx
    have := h (fun a => M (φ a)) (fun c hc hm a ha ho => hM _ (h1 c hc) hm _ (h1 a ha) (by rw [← hov a ha c hc]; exact ho)) ⟨c', g1, by rw [g2]; exact m0⟩ x' g3
    rw [g4] at this; exact this
theorem build_c (f : FuncId) (caps : List AVal) (W H : Nat) (u : Nat → Nat → Bool) (hw : W ≤ 10000) (hh : H ≤ 10000) (hcaps : ∀ r : List AObj, caps.map (argOf r 6) = caps) (hup : ∀ x y : Nat, x < W → y < H → Contract Tryz.prog f ([I x, I y] ++ caps) (B (u x y))) :
    Contract Tryz.prog 29 [I W, I H, .func (.func f) [] caps] (GR W H false (tabN W u (W * H))) := by
  have hm := mul_bd (W := W) (H := H) hw hh
  refine zi Tryz.func29 ?_
  refine zx2 @make_bool @Int.toNat_zero ?_
  refine loopK_I [0, 1, 2, 6, 7, 17, 18] (fun y : Nat => y ≤ H) (fun y => ⟨[(0, I W), (1, I H), (2, .func (.func f) [] caps), (6, .ptr 0 0 3), (7, .ptr 2 0 3), (17, I H), (18, I y)], [⟨24, 3, [I 0, I 0, .cap0 true]⟩, ⟨4, 1, bools (tabN W u (W * y))⟩, ⟨24, 3, [I W, I H, .ref 1 0 (W * y) (W * y)]⟩]⟩) (fun y => H - y) 0 (by omega) (by simp only [↓RP, RG, FX, RQ, ↓reduceIte, Nat.reduceEqDiff, reduceCtorEq, Nat.reduceBEq, Nat.reduceAdd, Nat.reduceLeDiff, List.replicate_zero, Nat.mul_zero]; rfl) ?_
  intro y hy
  by_cases hlt : y < H
  · refine zs ?_
    refine loopK_I [0, 1, 2, 6, 7, 8, 17, 18, 21, 22] (fun x : Nat => x ≤ W) (fun x => ⟨[(0, I W), (1, I H), (2, .func (.func f) [] caps), (6, .ptr 0 0 3), (7, .ptr 2 0 3), (8, I y), (17, I H), (18, I y), (21, I W), (22, I x)], [⟨24, 3, [I 0, I 0, .cap0 true]⟩, ⟨4, 1, bools (tabN W u (W * y + x))⟩, ⟨24, 3, [I W, I H, .ref 1 0 (W * y + x) (W * y + x)]⟩]⟩) (fun x => W - x) 0 (by omega) kz ?_
    intro x hx
    by_cases hlt2 : x < W
    · have hl := tabN_len W u (W * y + x)
      have hb : W * y + x ≤ 1000000000 := by
        have : W * y ≤ 10000 * 10000 := Nat.mul_le_mul hw (by omega)
        omega
      refine zs ?_
      refine callK_V 6 (hup x y hlt2 hlt) (by rw [List.nil_append, List.map_append, hcaps]; rfl) (.inl rfl) ?_
      refine zx2 @append_refB @apRX_bools ?_
      exact ⟨x + 1, by omega, by rw [show W * y + (x + 1) = W * y + x + 1 from rfl, tabN_succ W u hlt2]; rfl, by omega⟩
    · obtain rfl : x = W := by omega
      refine zs ?_
      exact ⟨y + 1, by omega, rfl, by omega⟩
  · obtain rfl : y = H := by omega
    have hl := tabN_len W u (W * y)
    refine zs ?_
    exact zq1
    first | done | rw [hl]
def uN (W : Nat) (l : List Bool) (x y : Nat) : Bool := !cell W l x y
theorem cellN (W : Nat) (l : List Bool) (x y : Nat) : cell W l x y = l.getD (W * y + x) false := by
  unfold cell; rw [idx_nat W y x]
theorem ov_not {W H n : Nat} (hN : W + H = n) {l : List Bool} : ∀ a, a < n → ∀ c, c < n → ov W (tabN W (uN W l) (W * H)) a c = ov W l c a := by
  intro a ha c hc
  unfold ov
  by_cases h1 : a < W <;> by_cases h2 : c < W
  · rw [if_pos h1, if_pos h2, if_pos h2, if_pos h1]
  · rw [if_pos h1, if_neg h2, if_neg h2, if_pos h1, tabN_get W _ h1 (idx_lt h1 (by omega))]
    unfold uN; rw [cellN]
  · rw [if_neg h1, if_pos h2, if_pos h2, if_neg h1, tabN_get W _ h2 (idx_lt h2 (by omega))]
    unfold uN; rw [cellN, Bool.not_not]
  · rw [if_neg h1, if_neg h2, if_neg h2, if_neg h1]
theorem hg_like {W H W' H' n n' : Nat} (hN : W + H = n) (hN' : W' + H' = n') (hn : 2 ≤ n) {l l' : List Bool} (φ ψ : Nat → Nat) (f1 : ∀ x, x < W' → φ x < W) (f2 : ∀ x, x < W → ∃ a, a < W' ∧ φ a = x) (g1 : ∀ y, y < H' → ψ y < H) (g2 : ∀ y, y < H → ∃ a, a < H' ∧ ψ a = y)
    (h : ∀ x y, x < W' → y < H' → l'.getD (W' * y + x) false = l.getD (W * ψ y + φ x) false) : Hg W n l ↔ Hg W' n' l' := by
  refine hg_sur (fun a => if a < W' then φ a else W + ψ (a - W')) (fun a ha => ?_) (fun y hy => ?_) (fun a ha c hc => ?_) hn
  · show (if a < W' then φ a else W + ψ (a - W')) < n
    split
    · rename_i h1; have := f1 a h1; omega
    · rename_i h1; have := g1 (a - W') (by omega); omega
  · by_cases h1 : y < W
    · obtain ⟨a, h2, h3⟩ := f2 y h1
      refine ⟨a, by omega, ?_⟩
      show (if a < W' then φ a else W + ψ (a - W')) = y
      rw [if_pos h2, h3]
    · obtain ⟨a, h2, h3⟩ := g2 (y - W) (by omega)
      refine ⟨W' + a, by omega, ?_⟩
      show (if W' + a < W' then φ (W' + a) else W + ψ (W' + a - W')) = y
      rw [if_neg (by omega), show W' + a - W' = a by omega, h3]
      omega
  · show ov W' l' a c = ov W l (if a < W' then φ a else W + ψ (a - W')) (if c < W' then φ c else W + ψ (c - W'))
    unfold ov
    by_cases h1 : a < W' <;> by_cases h2 : c < W'
    · have q1 := f1 a h1
      have q2 := f1 c h2
      simp only [if_pos h1, if_pos h2, if_pos q1, if_pos q2]
    · have q1 := f1 a h1
      have q2 : ¬ W + ψ (c - W') < W := by omega
      simp only [if_pos h1, if_neg h2, if_pos q1, if_neg q2]
      rw [h a (c - W') h1 (by omega), show W + ψ (c - W') - W = ψ (c - W') by omega]
    · have q2 := f1 c h2
      have q1 : ¬ W + ψ (a - W') < W := by omega
      simp only [if_neg h1, if_pos h2, if_neg q1, if_pos q2]
      rw [h c (a - W') h2 (by omega), show W + ψ (a - W') - W = ψ (a - W') by omega]
    · have q1 : ¬ W + ψ (a - W') < W := by omega
      have q2 : ¬ W + ψ (c - W') < W := by omega
      simp only [if_neg h1, if_neg h2, if_neg q1, if_neg q2]
theorem hg_rev2 {W n W' : Nat} {l l' : List Bool} (φ ψ : Nat → Nat) (h1 : ∀ a, a < n → φ a < n) (h2 : ∀ a, a < n → ψ a < n) (h3 : ∀ a, a < n → φ (ψ a) = a) (h4 : ∀ a, a < n → ψ (φ a) = a) (hov : ∀ a, a < n → ∀ c, c < n → ov W' l' a c = ov W l (φ c) (φ a)) : Hg W n l → Hg W' n l' := by
  rintro h M hM ⟨c0, hc0, m0⟩ x hx
  refine Classical.byContradiction fun hx0 => ?_
  refine h (fun y => ¬ M (ψ y)) (fun c hc hm a ha ho hma => ?_) ⟨φ x, h1 x hx, by rw [h4 x hx]; exact hx0⟩ (φ c0) (h1 c0 hc0) (by rw [h4 c0 hc0]; exact m0)
  exact hm (hM (ψ a) (h2 a ha) hma (ψ c) (h2 c hc) (by rw [hov _ (h2 c hc) _ (h2 a ha), h3 a ha, h3 c hc]; exact ho))
theorem hg_not {W H n : Nat} (hN : W + H = n) {l : List Bool} (hn : l.length = W * H) : Hg W n l ↔ Hg W n (tabN W (uN W l) (W * H)) := by
  constructor
  · exact hg_rev2 id id (fun a h => h) (fun a h => h) (fun a _ => rfl) (fun a _ => rfl) (ov_not hN)
  · intro h
    refine hg_rev2 id id (fun a h => h) (fun a h => h) (fun a _ => rfl) (fun a _ => rfl) (fun a ha c hc => ?_) h
    exact (ov_not hN c hc a ha).symm
theorem ov_turn {W H n : Nat} (hN : W + H = n) {l l' : List Bool} (h : ∀ x y, x < H → y < W → l'.getD (H * y + x) false = l.getD (W * x + y) false) : ∀ a, a < n → ∀ c, c < n → ov H l' a c = ov W l (if c < H then W + c else c - H) (if a < H then W + a else a - H) := by
  intro a ha c hc
  unfold ov
  by_cases h1 : a < H <;> by_cases h2 : c < H
  · simp only [if_pos h1, if_pos h2, if_neg (show ¬ W + a < W by omega), if_neg (show ¬ W + c < W by omega)]
  · have q1 : c - H < W := by omega
    simp only [if_pos h1, if_neg h2, if_neg (show ¬ W + a < W by omega), if_pos q1]
    rw [h a (c - H) h1 q1, show W + a - W = a by omega]
  · have q1 : a - H < W := by omega
    simp only [if_neg h1, if_pos h2, if_neg (show ¬ W + c < W by omega), if_pos q1]
    rw [h c (a - H) h2 q1, show W + c - W = c by omega]
  · have q1 : c - H < W := by omega
    have q2 : a - H < W := by omega
    simp only [if_neg h1, if_neg h2, if_pos q1, if_pos q2]
theorem hg_turn {W H n : Nat} (hN : W + H = n) {l l' : List Bool} (h : ∀ x y, x < H → y < W → l'.getD (H * y + x) false = l.getD (W * x + y) false) : Hg W n l ↔ Hg H n l' := by
  have p1 : ∀ a, a < n → (if a < H then W + a else a - H) < n := fun a ha => by split <;> omega
  have p2 : ∀ a, a < n → (if a < W then H + a else a - W) < n := fun a ha => by split <;> omega
  have p3 : ∀ a, a < n → (if (if a < W then H + a else a - W) < H then W + (if a < W then H + a else a - W) else (if a < W then H + a else a - W) - H) = a := fun a ha => by
    by_cases c : a < W
    · rw [if_pos c, if_neg (by omega)]; omega
    · rw [if_neg c, if_pos (by omega)]; omega
  have p4 : ∀ a, a < n → (if (if a < H then W + a else a - H) < W then H + (if a < H then W + a else a - H) else (if a < H then W + a else a - H) - W) = a := fun a ha => by
    by_cases c : a < H
    · rw [if_pos c, if_neg (by omega)]; omega
    · rw [if_neg c, if_pos (by omega)]; omega
  constructor
  · exact hg_rev2 (fun a => if a < H then W + a else a - H) (fun a => if a < W then H + a else a - W) p1 p2 p3 p4 (ov_turn hN h)
  · refine hg_rev2 (fun a => if a < W then H + a else a - W) (fun a => if a < H then W + a else a - H) p2 p1 p4 p3 (fun a ha c hc => ?_)
    have := ov_turn hN h _ (p2 c hc) _ (p2 a ha)
    rw [p3 c hc, p3 a ha] at this
    exact this.symm
def pln (W H : Nat) (l : List Bool) (x y : Int) : Bool := l.getD (W * (y % (H : Int)).toNat + (x % (W : Int)).toNat) false
def win (P : Int → Int → Bool) (x0 y0 : Int) (w h : Nat) : List Bool := tabN w (fun i k => P (x0 + i) (y0 + k)) (w * h)
theorem win_len (P : Int → Int → Bool) (x0 y0 : Int) (w h : Nat) : (win P x0 y0 w h).length = w * h := tabN_len _ _ _
theorem win_get {P : Int → Int → Bool} {x0 y0 : Int} {w h i k : Nat} (hi : i < w) (hk : k < h) : (win P x0 y0 w h).getD (w * k + i) false = P (x0 + i) (y0 + k) := by
  unfold win; rw [tabN_get _ _ hi (idx_lt hi hk)]
theorem win_congr {P Q : Int → Int → Bool} {x0 y0 x1 y1 : Int} {w h : Nat} (e : ∀ i k : Nat, i < w → k < h → P (x0 + i) (y0 + k) = Q (x1 + i) (y1 + k)) : win P x0 y0 w h = win Q x1 y1 w h := tabN_congr fun i k hi hk => e i k hi hk
def PerX (P : Int → Int → Bool) (w : Int) : Prop := ∀ x y, P (x + w) y = P x y
def PerY (P : Int → Int → Bool) (h : Int) : Prop := ∀ x y, P x (y + h) = P x y
theorem PerX.mul {P : Int → Int → Bool} {w : Int} (hp : PerX P w) (q x y : Int) : P (x + w * q) y = P x y := by
  have h1 : ∀ n : Nat, ∀ x, P (x + w * (n : Int)) y = P x y := by
    intro n
    induction n with
    | zero => intro x; simp
    | succ n ih =>
      intro x
      rw [show x + w * ((n + 1 : Nat) : Int) = (x + w * (n : Int)) + w by rw [Int.natCast_add, Int.mul_add]; simp; omega, hp, ih]
  rcases Int.le_total 0 q with h | h
  · obtain ⟨n, rfl⟩ : ∃ n : Nat, q = n := ⟨q.toNat, by omega⟩
    exact h1 n x
  · obtain ⟨n, rfl⟩ : ∃ n : Nat, q = -(n : Int) := ⟨(-q).toNat, by omega⟩
    rw [← h1 n (x + w * (-(n : Int))), Int.mul_neg]
    congr 1; omega
theorem PerY.mul {P : Int → Int → Bool} {h : Int} (hp : PerY P h) (q x y : Int) : P x (y + h * q) = P x y :=
  PerX.mul (P := fun a b => P b a) (w := h) (fun a b => hp b a) q y x
theorem PerX.mod {P : Int → Int → Bool} {w : Int} (hp : PerX P w) (x y : Int) : P (x % w) y = P x y := by
  rw [← hp.mul (x / w) (x % w) y, Int.emod_add_mul_ediv]
theorem PerY.mod {P : Int → Int → Bool} {h : Int} (hp : PerY P h) (x y : Int) : P x (y % h) = P x y := by
  rw [← hp.mul (y / h) x (y % h), Int.emod_add_mul_ediv]
theorem pln_perX (W H : Nat) (l : List Bool) : PerX (pln W H l) W := fun x y => by unfold pln; rw [Int.add_emod_right]
theorem pln_perY (W H : Nat) (l : List Bool) : PerY (pln W H l) H := fun x y => by unfold pln; rw [Int.add_emod_right]
theorem pln_get {W H : Nat} (l : List Bool) {x y : Nat} (hx : x < W) (hy : y < H) : pln W H l x y = l.getD (W * y + x) false := by
  unfold pln
  rw [Int.emod_eq_of_lt (by omega) (by omega), Int.emod_eq_of_lt (by omega) (by omega), Int.toNat_natCast, Int.toNat_natCast]
theorem pln_win {P : Int → Int → Bool} {w h : Nat} (hp : PerX P w) (hq : PerY P h) (hw : 0 < w) (hh : 0 < h) (x0 y0 x y : Int) : pln w h (win P x0 y0 w h) x y = P (x0 + x) (y0 + y) := by
  have a1 := Int.emod_nonneg x (show (w : Int) ≠ 0 by omega)
  have a2 := Int.emod_lt_of_pos x (show (0 : Int) < w by omega)
  have b1 := Int.emod_nonneg y (show (h : Int) ≠ 0 by omega)
  have b2 := Int.emod_lt_of_pos y (show (0 : Int) < h by omega)
  unfold pln
  rw [win_get (by omega) (by omega), Int.toNat_of_nonneg a1, Int.toNat_of_nonneg b1]
  rw [← hp.mul (x / w) (x0 + x % w), ← hq.mul (y / h) _ (y0 + y % h), Int.add_assoc, Int.emod_add_mul_ediv, Int.add_assoc, Int.emod_add_mul_ediv]
theorem win_self {W H : Nat} {l : List Bool} (hn : l.length = W * H) : win (pln W H l) 0 0 W H = l := by
  refine Eq.trans (tabN_congr (v := fun x y => l.getD (W * y + x) false) fun i k hi hk => ?_) ?_
  · rw [Int.zero_add, Int.zero_add, pln_get l hi hk]
  · apply List.ext_getElem (by rw [tabN_len, hn])
    intro j h1 h2
    rw [tabN_len] at h1
    have hW : 0 < W := by rcases Nat.eq_zero_or_pos W with e | e; (· rw [e, Nat.zero_mul] at h1; omega); exact e
    simp only [tabN, List.getElem_map, List.getElem_range]
    rw [Nat.div_add_mod, List.getD_eq_getElem?_getD, List.getElem?_eq_getElem h2]; rfl
def HgP (P : Int → Int → Bool) (w h : Nat) : Prop := Hg w (w + h) (win P 0 0 w h)
theorem hg_plane {W H : Nat} {l : List Bool} (hn : l.length = W * H) : Hg W (W + H) l ↔ HgP (pln W H l) W H := by unfold HgP; rw [win_self hn]
theorem hgP_map {P Q : Int → Int → Bool} {w h w' h' : Nat} (hw : 0 < w) (hh : 0 < h) (hp : PerX P w) (hq : PerY P h) (α β : Int → Int) (e : ∀ x y, Q x y = P (α x) (β y)) (sα : ∀ x : Nat, x < w → ∃ a : Nat, a < w' ∧ (α a) % (w : Int) = x) (sβ : ∀ y : Nat, y < h → ∃ a : Nat, a < h' ∧ (β a) % (h : Int) = y) : HgP P w h ↔ HgP Q w' h' := by
  have m1 : ∀ x : Int, (x % (w : Int)).toNat < w ∧ (((x % (w : Int)).toNat : Nat) : Int) = x % w := fun x => by
    have a1 := Int.emod_nonneg x (show (w : Int) ≠ 0 by omega)
    have a2 := Int.emod_lt_of_pos x (show (0 : Int) < w by omega)
    omega
  have m2 : ∀ x : Int, (x % (h : Int)).toNat < h ∧ (((x % (h : Int)).toNat : Nat) : Int) = x % h := fun x => by
    have a1 := Int.emod_nonneg x (show (h : Int) ≠ 0 by omega)
    have a2 := Int.emod_lt_of_pos x (show (0 : Int) < h by omega)
    omega
  refine hg_like rfl rfl (by omega) (fun a => (α a % (w : Int)).toNat) (fun a => (β a % (h : Int)).toNat) (fun x _ => (m1 _).1) (fun x hx => ?_) (fun y _ => (m2 _).1) (fun y hy => ?_) fun x y hx hy => ?_
  · obtain ⟨a, ha, ea⟩ := sα x hx
    exact ⟨a, ha, by show (α a % (w : Int)).toNat = x; rw [ea]; omega⟩
  · obtain ⟨a, ha, ea⟩ := sβ y hy
    exact ⟨a, ha, by show (β a % (h : Int)).toNat = y; rw [ea]; omega⟩
  · rw [win_get hx hy, win_get (m1 _).1 (m2 _).1, (m1 _).2, (m2 _).2]
    simp only [Int.zero_add]
    rw [e, hp.mod, hq.mod]
theorem hgP_mul {P : Int → Int → Bool} {w h : Nat} (hw : 0 < w) (hh : 0 < h) (hp : PerX P w) (hq : PerY P h) {k m : Nat} (hk : 0 < k) (hm : 0 < m) : HgP P w h ↔ HgP P (w * k) (h * m) := by
  refine hgP_map hw hh hp hq id id (fun _ _ => rfl) (fun x hx => ⟨x, ?_, ?_⟩) fun y hy => ⟨y, ?_, ?_⟩
  · exact Nat.lt_of_lt_of_le hx (Nat.le_mul_of_pos_right w hk)
  · show (x : Int) % (w : Int) = x; rw [Int.emod_eq_of_lt (by omega) (by omega)]
  · exact Nat.lt_of_lt_of_le hy (Nat.le_mul_of_pos_right h hm)
  · show (y : Int) % (h : Int) = y; rw [Int.emod_eq_of_lt (by omega) (by omega)]
theorem hgP_any {P : Int → Int → Bool} {w h w' h' : Nat} (hw : 0 < w) (hh : 0 < h) (hp : PerX P w) (hq : PerY P h) (hw' : 0 < w') (hh' : 0 < h') (hp' : PerX P w') (hq' : PerY P h') : HgP P w h ↔ HgP P w' h' := by
  rw [hgP_mul hw hh hp hq hw' hh', hgP_mul hw' hh' hp' hq' hw hh, Nat.mul_comm w w', Nat.mul_comm h h']
theorem hgP_move {P Q : Int → Int → Bool} {w h : Nat} (hw : 0 < w) (hh : 0 < h) (hp : PerX P w) (hq : PerY P h) (sx sy : Bool) (s t : Int) (e : ∀ x y, Q x y = P ((if sx then -x else x) + s) ((if sy then -y else y) + t)) : HgP P w h ↔ HgP Q w h := by
  have key : ∀ (n : Nat) (b : Bool) (s : Int) (x : Nat), x < n → ∃ a : Nat, a < n ∧ ((if b then -(a : Int) else a) + s) % (n : Int) = x := fun n b s x hx => by
    cases b with
    | true =>
      have a1 := Int.emod_nonneg (s - x) (show (n : Int) ≠ 0 by omega)
      have a2 := Int.emod_lt_of_pos (s - x) (show (0 : Int) < n by omega)
      refine ⟨((s - x) % (n : Int)).toNat, by omega, ?_⟩
      rw [Int.toNat_of_nonneg a1]
      simp only [if_true]
      rw [show -((s - (x : Int)) % (n : Int)) + s = s - (s - x) % n by omega, Int.sub_emod, Int.emod_emod, ← Int.sub_emod, show s - (s - (x : Int)) = x by omega, Int.emod_eq_of_lt (by omega) (by omega)]
    | false =>
      have a1 := Int.emod_nonneg ((x : Int) - s) (show (n : Int) ≠ 0 by omega)
      have a2 := Int.emod_lt_of_pos ((x : Int) - s) (show (0 : Int) < n by omega)
      refine ⟨(((x : Int) - s) % (n : Int)).toNat, by omega, ?_⟩
      rw [Int.toNat_of_nonneg a1]
      simp only [Bool.false_eq_true, if_false]
      rw [Int.emod_add_emod, show (x : Int) - s + s = x by omega, Int.emod_eq_of_lt (by omega) (by omega)]
  exact hgP_map hw hh hp hq (fun x => (if sx then -x else x) + s) (fun y => (if sy then -y else y) + t) e (fun x hx => key w sx s x hx) fun y hy => key h sy t y hy
theorem hgP_sides {P Q : Int → Int → Bool} {w h : Nat} (e : ∀ x y, Q x y = !P x y) : HgP P w h ↔ HgP Q w h := by
  unfold HgP
  rw [hg_not rfl (win_len P 0 0 w h)]
  have : tabN w (uN w (win P 0 0 w h)) (w * h) = win Q 0 0 w h := tabN_congr fun i k hi hk => by
    unfold uN
    rw [cellN, win_get hi hk, e]
  rw [this]
theorem hgP_turn {P Q : Int → Int → Bool} {w h : Nat} (e : ∀ x y, Q x y = P y x) : HgP P w h ↔ HgP Q h w := by
  unfold HgP
  have := hg_turn (W := w) (H := h) (n := w + h) rfl (l := win P 0 0 w h) (l' := win Q 0 0 h w) (fun x y hx hy => by rw [win_get hx hy, win_get hy hx, e])
  rw [this, Nat.add_comm w h]
def actP (cx ry ex sd : Bool) (P : Int → Int → Bool) (x y : Int) : Bool :=
  P (if cx then -(if ex then y else x) else if ex then y else x) (if ry then -(if ex then x else y) else if ex then x else y) != sd
def Sim (P Q : Int → Int → Bool) : Prop := ∃ s t, ∀ x y, Q x y = P (x + s) (y + t)
theorem Sim.refl (P : Int → Int → Bool) : Sim P P := ⟨0, 0, fun x y => by simp⟩
theorem Sim.symm {P Q : Int → Int → Bool} : Sim P Q → Sim Q P := by
  rintro ⟨s, t, h⟩
  exact ⟨-s, -t, fun x y => by rw [h, show x + -s + s = x by omega, show y + -t + t = y by omega]⟩
theorem Sim.trans {P Q R : Int → Int → Bool} : Sim P Q → Sim Q R → Sim P R := by
  rintro ⟨s, t, h⟩ ⟨u, v, g⟩
  exact ⟨u + s, v + t, fun x y => by rw [g, h, Int.add_assoc, Int.add_assoc]⟩
theorem Sim.perX {P Q : Int → Int → Bool} {w : Int} (h : Sim P Q) (hp : PerX P w) : PerX Q w := fun x y => by
  obtain ⟨s, t, e⟩ := h
  rw [e, e, show x + w + s = x + s + w by omega, hp]
theorem Sim.perY {P Q : Int → Int → Bool} {w : Int} (h : Sim P Q) (hp : PerY P w) : PerY Q w := fun x y => by
  obtain ⟨s, t, e⟩ := h
  rw [e, e, show y + w + t = y + t + w by omega, hp]
theorem PerX.neg {P : Int → Int → Bool} {w : Int} (hp : PerX P w) (x y : Int) : P (x - w) y = P x y := by rw [← hp (x - w) y]; congr 1; omega
theorem PerY.neg {P : Int → Int → Bool} {w : Int} (hp : PerY P w) (x y : Int) : P x (y - w) = P x y := by rw [← hp x (y - w)]; congr 1; omega
theorem act_perX (cx ry ex sd : Bool) {P : Int → Int → Bool} {w : Int} (h : if ex then PerY P w else PerX P w) : PerX (actP cx ry ex sd P) w := fun x y => by
  cases ex with
  | true =>
    simp only [if_true] at h
    unfold actP
    simp only [if_true]
    cases ry with
    | true => simp only [if_true]; rw [show -(x + w) = -x - w by omega, h.neg]
    | false => simp only [Bool.false_eq_true, if_false]; rw [h]
  | false =>
    simp only [Bool.false_eq_true, if_false] at h
    unfold actP
    simp only [Bool.false_eq_true, if_false]
    cases cx with
    | true => simp only [if_true]; rw [show -(x + w) = -x - w by omega, h.neg]
    | false => simp only [Bool.false_eq_true, if_false]; rw [h]
theorem act_perY (cx ry ex sd : Bool) {P : Int → Int → Bool} {w : Int} (h : if ex then PerX P w else PerY P w) : PerY (actP cx ry ex sd P) w := fun x y => by
  cases ex with
  | true =>
    simp only [if_true] at h
    unfold actP
    simp only [if_true]
    cases cx with
    | true => simp only [if_true]; rw [show -(y + w) = -y - w by omega, h.neg]
    | false => simp only [Bool.false_eq_true, if_false]; rw [h]
  | false =>
    simp only [Bool.false_eq_true, if_false] at h
    unfold actP
    simp only [Bool.false_eq_true, if_false]
    cases ry with
    | true => simp only [if_true]; rw [show -(y + w) = -y - w by omega, h.neg]
    | false => simp only [Bool.false_eq_true, if_false]; rw [h]
theorem hgP_act (cx ry ex sd : Bool) {P : Int → Int → Bool} {w h : Nat} (hw : 0 < w) (hh : 0 < h) (hp : PerX P w) (hq : PerY P h) : HgP P w h ↔ HgP (actP cx ry ex sd P) (if ex then h else w) (if ex then w else h) := by
  have m : HgP P w h ↔ HgP (actP cx ry false false P) w h := hgP_move hw hh hp hq cx ry 0 0 fun x y => by
    unfold actP
    simp only [Bool.false_eq_true, if_false, Bool.bne_false, Int.add_zero]
  have t : HgP (actP cx ry false false P) w h ↔ HgP (actP cx ry ex false P) (if ex then h else w) (if ex then w else h) := by
    cases ex with
    | true => exact hgP_turn fun x y => rfl
    | false => exact Iff.rfl
  refine m.trans (t.trans ?_)
  cases sd with
  | true => exact hgP_sides fun x y => by unfold actP; simp
  | false => exact Iff.rfl
theorem hgP_sim {P Q : Int → Int → Bool} {w h : Nat} (hw : 0 < w) (hh : 0 < h) (hp : PerX P w) (hq : PerY P h) (hs : Sim P Q) : HgP P w h ↔ HgP Q w h := by
  obtain ⟨s, t, e⟩ := hs
  exact hgP_move hw hh hp hq false false s t fun x y => by simp only [Bool.false_eq_true, if_false]; exact e x y
theorem act_act (a b c d a' b' c' d' : Bool) (P : Int → Int → Bool) : actP a b c d (actP a' b' c' d' P) = actP (xor (if c' then b else a) a') (xor (if c' then a else b) b') (xor c c') (xor d d') P := by
  funext x y
  cases a <;> cases b <;> cases c <;> cases d <;> cases a' <;> cases b' <;> cases c' <;> cases d' <;> simp [actP]
theorem act_sim (a b c d : Bool) {P Q : Int → Int → Bool} (h : Sim P Q) : Sim (actP a b c d P) (actP a b c d Q) := by
  obtain ⟨s, t, e⟩ := h
  cases c with
  | true =>
    refine ⟨if b then -t else t, if a then -s else s, fun x y => ?_⟩
    unfold actP
    simp only [if_true]
    rw [e]
    cases a <;> cases b <;> simp only [if_true, if_false, Bool.false_eq_true] <;> congr 2 <;> omega
  | false =>
    refine ⟨if a then -s else s, if b then -t else t, fun x y => ?_⟩
    unfold actP
    simp only [Bool.false_eq_true, if_false]
    rw [e]
    cases a <;> cases b <;> simp only [if_true, if_false, Bool.false_eq_true] <;> congr 2 <;> omega
theorem act_id (P : Int → Int → Bool) : actP false false false false P = P := by funext x y; simp [actP]
def Rep (P : Int → Int → Bool) (dx dy : Int) : Prop := ∀ x y, P (x + dx) (y + dy) = P x y
theorem Rep.zero (P : Int → Int → Bool) : Rep P 0 0 := fun x y => by simp
theorem Rep.add {P : Int → Int → Bool} {a b c d : Int} (h : Rep P a b) (g : Rep P c d) : Rep P (a + c) (b + d) := fun x y => by
  rw [← Int.add_assoc, ← Int.add_assoc, g, h]
theorem Rep.neg {P : Int → Int → Bool} {a b : Int} (h : Rep P a b) : Rep P (-a) (-b) := fun x y => by
  rw [← h (x + -a) (y + -b)]; congr 1 <;> omega
theorem Rep.mulN {P : Int → Int → Bool} {a b : Int} (h : Rep P a b) : ∀ n : Nat, Rep P ((n : Int) * a) ((n : Int) * b)
  | 0 => by simpa using Rep.zero P
  | n + 1 => by
    have := (h.mulN n).add h
    have e : ∀ v : Int, ((n + 1 : Nat) : Int) * v = (n : Int) * v + v := fun v => by rw [Int.natCast_add, Int.add_mul]; simp
    rwa [e, e]
theorem Rep.mul {P : Int → Int → Bool} {a b : Int} (h : Rep P a b) (q : Int) : Rep P (q * a) (q * b) := by
  rcases Int.le_total 0 q with h0 | h0
  · obtain ⟨n, rfl⟩ : ∃ n : Nat, q = n := ⟨q.toNat, by omega⟩
    exact h.mulN n
  · obtain ⟨n, rfl⟩ : ∃ n : Nat, q = -(n : Int) := ⟨(-q).toNat, by omega⟩
    have := (h.mulN n).neg
    rwa [← Int.neg_mul, ← Int.neg_mul] at this
theorem rep_perX {P : Int → Int → Bool} {w : Int} : Rep P w 0 ↔ PerX P w := by
  unfold Rep PerX; simp only [Int.add_zero]
theorem rep_perY {P : Int → Int → Bool} {h : Int} : Rep P 0 h ↔ PerY P h := by
  unfold Rep PerY; simp only [Int.add_zero]
structure MinPer (P : Int → Int → Bool) (w h : Nat) : Prop where
  w0 : 0 < w
  h0 : 0 < h
  px : PerX P w
  py : PerY P h
  mx : ∀ v : Nat, 0 < v → PerX P v → w ≤ v
  my : ∀ v : Nat, 0 < v → PerY P v → h ≤ v
theorem MinPer.eq {P : Int → Int → Bool} {w h w' h' : Nat} (a : MinPer P w h) (b : MinPer P w' h') : w = w' ∧ h = h' :=
  ⟨Nat.le_antisymm (a.mx _ b.w0 b.px) (b.mx _ a.w0 a.px), Nat.le_antisymm (a.my _ b.h0 b.py) (b.my _ a.h0 a.py)⟩
theorem MinPer.sim {P Q : Int → Int → Bool} {w h : Nat} (a : MinPer P w h) (s : Sim P Q) : MinPer Q w h :=
  ⟨a.w0, a.h0, s.perX a.px, s.perY a.py, fun v h0 hv => a.mx v h0 (s.symm.perX hv), fun v h0 hv => a.my v h0 (s.symm.perY hv)⟩
structure Lat (P : Int → Int → Bool) (A B C : Nat) : Prop where
  a0 : 0 < A
  c0 : 0 < C
  bA : B < A
  ra : Rep P A 0
  rc : Rep P B C
  ma : ∀ v : Nat, 0 < v → Rep P v 0 → A ≤ v
  mc : ∀ c : Nat, 0 < c → c < C → ∀ b : Nat, b < A → ¬ Rep P b c
theorem Lat.minper {P : Int → Int → Bool} {A B C N : Nat} (L : Lat P A B C) (hN : 0 < N) (hd : N * B % A = 0) (hm : ∀ n, 0 < n → n < N → n * B % A ≠ 0) : MinPer P A (N * C) := by
  have hx := rep_perX.1 L.ra
  have hA : (0 : Int) < A := by have := L.a0; omega
  have nf : ∀ {d e : Int}, Rep P d e → Rep P (d % (A : Int)) e := fun {d e} h => by
    have := h.add (L.ra.mul (-(d / (A : Int))))
    rw [Int.mul_zero, Int.add_zero] at this
    rwa [show d + -(d / (A : Int)) * (A : Int) = d % (A : Int) by rw [Int.emod_def, Int.neg_mul, Int.mul_comm]; omega] at this
  have dv : ∀ d : Int, Rep P d 0 → d % (A : Int) = 0 := fun d h => by
    have h1 := nf h
    have b1 := Int.emod_nonneg d (show (A : Int) ≠ 0 by omega)
    have b2 := Int.emod_lt_of_pos d hA
    rcases Int.lt_or_eq_of_le b1 with h2 | h2
    · have h3 := L.ma (d % (A : Int)).toNat (by omega) (by rwa [Int.toNat_of_nonneg b1])
      omega
    · exact h2.symm
  refine ⟨L.a0, Nat.mul_pos hN L.c0, hx, ?_, fun v h0 h => L.ma v h0 (rep_perX.2 h), fun v h0 h => ?_⟩
  · have h1 := L.rc.mul (N : Int)
    have h2 := nf h1
    have e : (N : Int) * (B : Int) % (A : Int) = 0 := by rw [← Int.natCast_mul, ← Int.natCast_emod, hd]; rfl
    rw [e] at h2
    refine rep_perY.1 ?_
    rw [Int.natCast_mul]; exact h2
  · have hv := rep_perY.2 h
    have h1 := hv.add (L.rc.mul (-((v / C : Nat) : Int)))
    have e1 : (v : Int) + -((v / C : Nat) : Int) * (C : Int) = ((v % C : Nat) : Int) := by
      have := Nat.div_add_mod v C
      have h2 : (v : Int) = ((C * (v / C) : Nat) : Int) + ((v % C : Nat) : Int) := by omega
      rw [Int.natCast_mul] at h2
      rw [Int.neg_mul, Int.mul_comm]; omega
    rw [e1] at h1
    have h2 := nf h1
    have b1 := Int.emod_nonneg (0 + -((v / C : Nat) : Int) * (B : Int)) (show (A : Int) ≠ 0 by omega)
    have b2 := Int.emod_lt_of_pos (0 + -((v / C : Nat) : Int) * (B : Int)) hA
    have hr0 : v % C = 0 := by
      rcases Nat.eq_zero_or_pos (v % C) with e | e
      · exact e
      · refine absurd ?_ (L.mc (v % C) e (Nat.mod_lt _ L.c0) ((0 + -((v / C : Nat) : Int) * (B : Int)) % (A : Int)).toNat (by omega))
        rw [Int.toNat_of_nonneg b1]; exact h2
    rw [hr0] at h1
    have h3 := dv _ h1
    have hq : v / C * B % A = 0 := by
      rw [Int.zero_add, Int.neg_mul] at h3
      have h4 : (((v / C : Nat) : Int) * (B : Int)) % (A : Int) = 0 := Int.emod_eq_zero_of_dvd (Int.dvd_neg.1 (Int.dvd_of_emod_eq_zero h3))
      rw [← Int.natCast_mul, ← Int.natCast_emod] at h4
      omega
    have hv2 : v = C * (v / C) := by have := Nat.div_add_mod v C; omega
    have hq0 : 0 < v / C := by
      rcases Nat.eq_zero_or_pos (v / C) with e | e
      · rw [e] at hv2; omega
      · exact e
    have hNq : N ≤ v / C := Nat.le_of_not_lt fun hlt => hm _ hq0 hlt hq
    rw [hv2, Nat.mul_comm]
    exact Nat.mul_le_mul_left C hNq
def Form (P : Int → Int → Bool) (u v : Nat) (f : List Bool) (a b c d : Bool) : Prop := MinPer (actP a b c d P) u v ∧ ∃ s t : Int, f = win (actP a b c d P) s t u v
def IsForm (P : Int → Int → Bool) (u v : Nat) (f : List Bool) : Prop := ∃ a b c d, Form P u v f a b c d
theorem form_sim {P Q : Int → Int → Bool} (h : Sim P Q) {u v : Nat} {f : List Bool} (hf : IsForm P u v f) : IsForm Q u v f := by
  obtain ⟨a, b, c, d, h1, s, t, rfl⟩ := hf
  obtain ⟨s', t', e⟩ := (act_sim a b c d h).symm
  exact ⟨a, b, c, d, h1.sim (act_sim a b c d h), s + s', t + t', win_congr fun i k _ _ => by rw [e]; congr 1 <;> omega⟩
theorem form_act {P : Int → Int → Bool} (a b c d : Bool) {u v : Nat} {f : List Bool} (hf : IsForm (actP a b c d P) u v f) : IsForm P u v f := by
  obtain ⟨a', b', c', d', h1, s, t, rfl⟩ := hf
  rw [act_act] at h1 ⊢
  exact ⟨_, _, _, _, h1, s, t, rfl⟩
def faC (W H : Nat) (l : List Bool) (x : Nat) : List Bool := (List.range H).map fun y => l.getD (W * y + x) false
def faR (W : Nat) (l : List Bool) (y : Nat) : List Bool := (List.range W).map fun x => !l.getD (W * y + x) false
theorem faC_len (W H : Nat) (l : List Bool) (x : Nat) : (faC W H l x).length = H := by simp [faC]
theorem faR_len (W : Nat) (l : List Bool) (y : Nat) : (faR W l y).length = W := by simp [faR]
theorem faC_take {W H : Nat} {l : List Bool} {x y : Nat} (hy : y < H) : (faC W H l x).take (y + 1) = (faC W H l x).take y ++ [l.getD (W * y + x) false] := by
  rw [List.take_add_one]; simp [faC, hy]
theorem faR_take {W : Nat} {l : List Bool} {x y : Nat} (hx : x < W) : (faR W l y).take (x + 1) = (faR W l y).take x ++ [!l.getD (W * y + x) false] := by
  rw [List.take_add_one]; simp [faR, hx]
def faK (W H : Nat) (l : List Bool) (k : Nat) : List Bool := if k < W then faC W H l k else faR W l (k - W)
def lineA (m W H : Nat) (l : List Bool) (k : Nat) : AVal := .agg [B (decide (k < W)), I (if k < W then k else k - W : Nat), .ref (m + 1) 0 (if k < W then H else W) (if k < W then H else W)]
def lineO (m W H : Nat) (l : List Bool) (k : Nat) : List AObj := [⟨122, 3, [B (decide (k < W)), I (if k < W then k else k - W : Nat), .ref (m + 1) 0 (if k < W then H else W) (if k < W then H else W)]⟩, ⟨4, 1, bools (faK W H l k)⟩]
theorem lineA_c {W x : Nat} (m H : Nat) (l : List Bool) (h : x < W) : lineA m W H l x = .agg [B true, I x, .ref (m + 1) 0 H H] := by unfold lineA; rw [if_pos h, if_pos h, decide_eq_true h]
theorem lineA_r {W x : Nat} (m H : Nat) (l : List Bool) (h : ¬ x < W) : lineA m W H l x = .agg [B false, I (x - W : Nat), .ref (m + 1) 0 W W] := by unfold lineA; rw [if_neg h, if_neg h, decide_eq_false h]
theorem lineO_c {W x : Nat} (m H : Nat) (l : List Bool) (h : x < W) : lineO m W H l x = [⟨122, 3, [B true, I x, .ref (m + 1) 0 H H]⟩, ⟨4, 1, bools (faC W H l x)⟩] := by unfold lineO faK; rw [if_pos h, if_pos h, if_pos h, decide_eq_true h]
theorem lineO_r {W x : Nat} (m H : Nat) (l : List Bool) (h : ¬ x < W) : lineO m W H l x = [⟨122, 3, [B false, I (x - W : Nat), .ref (m + 1) 0 W W]⟩, ⟨4, 1, bools (faR W l (x - W))⟩] := by unfold lineO faK; rw [if_neg h, if_neg h, if_neg h, decide_eq_false h]
theorem lines_c (W H : Nat) (b : Bool) (l : List Bool) : Contract Tryz.prog 82 [GA W H b l] (.func (.func 90) [] [.spot true [I W, I H, BA b l]]) := by
  refine Contract.intro (effS [] false [] [0]) 6 follows Tryz.func82 rfl rfl (by kernel_rfl) (Nat.le_of_ble_eq_true rfl) ?_
  refine zs ?_
  refine zr1 ?_
  first | done | simp [resOf, resOf_list, bools_res]
section
variable {W H : Nat} (hW0 : 0 < W) (hH0 : 0 < H) (hW : W ≤ 1000) (hH : H ≤ 1000) (p b : Bool) {l : List Bool} (hn : l.length = W * H) (m : Nat) (hs ex : Nat → List AObj)
include hW0 hH0 hW hH hn
theorem linesF_y (hsh : ∀ k, k ≤ W + H → Shut m (hs k)) : SpecY Tryz.prog 90 (stepsO (W + H) hs (lineO m W H l) ex (lineA m W H l)) [.spot p [I W, I H, BA b l]] (hs 0) (hs (W + H)) := by
  have hm : ∀ k, k ≤ W + H → (hs k).length = m := fun k hk => (hsh k hk).1
  refine SpecY.intro (effS [] false) follows Tryz.func90 rfl rfl (by kernel_rfl) (Nat.le_of_ble_eq_true rfl) rfl (fun yv => ?_)
  refine zs ?_
  refine loopK_WW [0, 1, 10, 11] (fun x : Nat => x ≤ W) (fun x : Nat => ⟨[(0, .val yv), (1, .spot p [I W, I H, BA b l]), (10, I W), (11, I x)], hs x⟩) (fun x => W - x) 0 (by omega) (Wk.of_eq kz) ?_
  intro x hx
  by_cases hlt : x < W
  · have hmx := hm x (by omega)
    refine zs ?_
    refine loopK_WW [0, 1, 3, 4, 10, 11, 17, 18] (fun y : Nat => y ≤ H) (fun y : Nat => ⟨[(0, .val yv), (1, .spot p [I W, I H, BA b l]), (3, I x), (4, .ptr (hs x).length 0 3), (10, I W), (11, I x), (17, I H), (18, I y)], hs x ++ [⟨122, 3, [B true, I x, gw true ((hs x).length + 1) (bools ((faC W H l x).take y))]⟩, go 4 (bools ((faC W H l x).take y))]⟩) (fun y => H - y) 0 (by omega) ?_ ?_
    · simp only [↓RP, RG, FX, RQ, ↓reduceIte, Nat.reduceEqDiff, reduceCtorEq, Nat.reduceBEq, Nat.reduceAdd, Nat.reduceLeDiff]
      exact Wk.weak (fun t => .refl _) (.app (hs x) (.cons _ _ _ _ (.cons (.refl _) (.cons (.refl _) (.cons (.nil _) .nil))) (.nil _ (by simp [go, bools]))))
    intro y hy
    by_cases hlt2 : y < H
    · have hil := idx_lt hlt hlt2
      have hWH : W * H ≤ 1000 * 1000 := Nat.mul_le_mul hW hH
      have m1 : (y : Int) * (W : Int) = ((W * y : Nat) : Int) := by rw [Int.natCast_mul, Int.mul_comm]
      have m2 : ((W * y : Nat) : Int) + (x : Int) = ((W * y + x : Nat) : Int) := by omega
      have htk : ((faC W H l x).take y).length = y := by rw [List.length_take, faC_len]; omega
      simp (disch := first | assumption | omega | rfl | simp only [RH]) only [↓RP, RZ, ↓reduceIte, Nat.reduceEqDiff, reduceCtorEq, Nat.reduceBEq, Nat.reduceAdd, Nat.reduceLeDiff, m1, m2, effY_b, effY_n, effY_f, effY_l, effY_z, effY_D, append_bool]
      refine ⟨y + 1, by omega, Wk.of_eq ?_, by omega⟩
      rw [faC_take hlt2]
      rfl
    · obtain rfl : H = y := by omega
      have htk : (faC W H l x).take H = faC W H l x := List.take_of_length_le (by rw [faC_len]; omega)
      have hcl := faC_len W H l x
      have hp : 0 < (bools (faC W H l x)).length := by rw [bools_length]; omega
      simp (disch := first | assumption | omega | rfl | simp only [RH]) only [↓RP, RG, FX, RQ, ↓reduceIte, Nat.reduceEqDiff, reduceCtorEq, Nat.reduceBEq, Nat.reduceAdd, Nat.reduceLeDiff, htk, gw_pos hp, go_pos hp, bools_length, hcl]
      refine callK_Y rfl (stepsO_at x (by omega) (by rw [lineA_c _ _ _ hlt, hmx]) (by rw [lineO_c _ _ _ hlt, hmx]) rfl) ?_
      refine zs ?_
      refine ⟨x + 1, by omega, ?_, by omega⟩
      refine (Wk.shut ((hm _ (by omega)).trans (hm 0 (by omega)).symm) ?_).trans (Wk.of_eq ?_)
      · rw [hm 0 (by omega)]; exact hsh _ (by omega)
      · simp [ren, map_ren_bools]
  · obtain rfl : W = x := by omega
    refine zs ?_
    refine loopK_WW [0, 1, 43, 44] (fun y : Nat => y ≤ H) (fun y : Nat => ⟨[(0, .val yv), (1, .spot p [I W, I H, BA b l]), (43, I H), (44, I y)], hs (W + y)⟩) (fun y => H - y) 0 (by omega) (Wk.of_eq kz) ?_
    intro y hy
    by_cases hlt2 : y < H
    · have hmx := hm (W + y) (by omega)
      have hge : ¬ W + y < W := by omega
      have hsub : W + y - W = y := by omega
      refine zs ?_
      refine loopK_WW [0, 1, 6, 7, 43, 44, 50, 51] (fun x : Nat => x ≤ W) (fun x : Nat => ⟨[(0, .val yv), (1, .spot p [I W, I H, BA b l]), (6, I y), (7, .ptr (hs (W + y)).length 0 3), (43, I H), (44, I y), (50, I W), (51, I x)], hs (W + y) ++ [⟨122, 3, [B false, I y, gw true ((hs (W + y)).length + 1) (bools ((faR W l y).take x))]⟩, go 4 (bools ((faR W l y).take x))]⟩) (fun x => W - x) 0 (by omega) ?_ ?_
      · simp only [↓RP, RG, FX, RQ, ↓reduceIte, Nat.reduceEqDiff, reduceCtorEq, Nat.reduceBEq, Nat.reduceAdd, Nat.reduceLeDiff]
        exact Wk.weak (fun t => .refl _) (.app (hs (W + y)) (.cons _ _ _ _ (.cons (.refl _) (.cons (.refl _) (.cons (.nil _) .nil))) (.nil _ (by simp [go, bools]))))
      intro x hx
      by_cases hlt3 : x < W
      · have hil := idx_lt hlt3 hlt2
        have hWH : W * H ≤ 1000 * 1000 := Nat.mul_le_mul hW hH
        have m1 : (y : Int) * (W : Int) = ((W * y : Nat) : Int) := by rw [Int.natCast_mul, Int.mul_comm]
        have m2 : ((W * y : Nat) : Int) + (x : Int) = ((W * y + x : Nat) : Int) := by omega
        have htk : ((faR W l y).take x).length = x := by rw [List.length_take, faR_len]; omega
        simp (disch := first | assumption | omega | rfl | simp only [RH]) only [↓RP, RZ, ↓reduceIte, Nat.reduceEqDiff, reduceCtorEq, Nat.reduceBEq, Nat.reduceAdd, Nat.reduceLeDiff, m1, m2, effY_b, effY_n, effY_f, effY_l, effY_z, effY_D, append_bool]
        refine ⟨x + 1, by omega, Wk.of_eq ?_, by omega⟩
        rw [faR_take hlt3]
        rfl
      · obtain rfl : W = x := by omega
        have htk : (faR W l y).take W = faR W l y := List.take_of_length_le (by rw [faR_len]; omega)
        have hcl := faR_len W l y
        have hp : 0 < (bools (faR W l y)).length := by rw [bools_length]; omega
        simp (disch := first | assumption | omega | rfl | simp only [RH]) only [↓RP, RG, FX, RQ, ↓reduceIte, Nat.reduceEqDiff, reduceCtorEq, Nat.reduceBEq, Nat.reduceAdd, Nat.reduceLeDiff, htk, gw_pos hp, go_pos hp, bools_length, hcl]
        refine callK_Y rfl (stepsO_at (W + y) (by omega) (by rw [lineA_r _ _ _ hge, hmx, hsub]) (by rw [lineO_r _ _ _ hge, hmx, hsub]) rfl) ?_
        refine zs ?_
        refine ⟨y + 1, by omega, ?_, by omega⟩
        refine (Wk.shut ((hm _ (by omega)).trans (hm 0 (by omega)).symm) ?_).trans (Wk.of_eq ?_)
        · rw [hm 0 (by omega)]; exact hsh _ (by omega)
        · simp [ren, map_ren_bools]; rfl
    · obtain rfl : H = y := by omega
      refine zs ?_
      exact Wk.refl _ _
end
section
variable {W H : Nat} (hW0 : 0 < W) (hH0 : 0 < H) (hW : W ≤ 1000) (hH : H ≤ 1000) (p b : Bool) {l : List Bool} (hn : l.length = W * H) (m : Nat) (hs ex : Nat → List AObj)
include hW0 hH0 hW hH hn
end
def pvF (f : List Bool) (i : Nat) : Bool := if i = 0 then f.getD (f.length - 1) false else f.getD (i - 1) false
section
variable {W H : Nat} (hW0 : 0 < W) (hH0 : 0 < H) (hW : W ≤ 64) (hH : H ≤ 64) (b : Bool) {l : List Bool} (hn : l.length = W * H)
include hW0 hH0 hW hH hn
end
section
variable {W H : Nat} (hW0 : 0 < W) (hH0 : 0 < H) (hW : W ≤ 64) (hH : H ≤ 64) (b : Bool) {l : List Bool} (hn : l.length = W * H)
include hW0 hH0 hW hH hn
end
section
variable {W H : Nat} (hW0 : 0 < W) (hH0 : 0 < H) (hW : W ≤ 64) (hH : H ≤ 64) (b : Bool) {l : List Bool} (hn : l.length = W * H)
include hW0 hH0 hW hH hn
end
def tw (c : Bool) : List Bool → Nat
  | [] => 0
  | x :: r => if x = c then tw c r + 1 else 0
theorem tw_le (c : Bool) : ∀ l, tw c l ≤ l.length
  | [] => Nat.le_refl _
  | x :: r => by have := tw_le c r; unfold tw; split <;> simp <;> omega
theorem tw_in (c : Bool) : ∀ (l : List Bool) (t : Nat), t < tw c l → l.getD t false = c
  | [], t, h => by simp [tw] at h
  | x :: r, t, h => by
    unfold tw at h
    split at h
    · rename_i hx
      cases t with
      | zero => exact hx
      | succ t => exact tw_in c r t (by omega)
    · omega
theorem tw_end (c : Bool) : ∀ (l : List Bool), tw c l < l.length → l.getD (tw c l) false ≠ c
  | [], h => by simp at h
  | x :: r, h => by
    unfold tw at h ⊢
    split
    · rename_i hx
      rw [if_pos hx] at h
      exact tw_end c r (by simpa using h)
    · rename_i hx; exact hx
def runF (g : List Bool) (c : Bool) (r : Nat) : Nat := tw c (g.drop r)
theorem runF_le (g : List Bool) (c : Bool) (r : Nat) : runF g c r ≤ g.length - r := by have := tw_le c (g.drop r); simpa [runF] using this
theorem getD_drop (g : List Bool) (r t : Nat) : (g.drop r).getD t false = g.getD (r + t) false := by simp [List.getD_eq_getElem?_getD]
theorem runF_in {g : List Bool} {c : Bool} {r t : Nat} (h : t < runF g c r) : g.getD (r + t) false = c := by rw [← getD_drop]; exact tw_in c _ t h
theorem runF_end {g : List Bool} {c : Bool} {r : Nat} (h : r + runF g c r < g.length) : g.getD (r + runF g c r) false ≠ c := by
  rw [← getD_drop]; exact tw_end c _ (by unfold runF at h; simp; omega)
theorem runF_lt {g : List Bool} {c : Bool} {r t : Nat} (ht : t ≤ runF g c r) : (t < runF g c r ↔ r + t < g.length ∧ g.getD (r + t) false = c) := by
  constructor
  · intro h
    have := runF_le g c r
    exact ⟨by omega, runF_in h⟩
  · rintro ⟨h1, h2⟩
    refine Classical.byContradiction fun hno => ?_
    obtain rfl : t = runF g c r := by omega
    exact runF_end h1 h2
def stF (g : List Bool) (c : Bool) (r : Nat) : Bool := decide (0 < r) && decide (r < g.length) && (g.getD r false == c) && !(g.getD (r - 1) false == c)
theorem stF_iff {g : List Bool} {c : Bool} {r : Nat} : stF g c r = true ↔ 0 < r ∧ r < g.length ∧ g.getD r false = c ∧ g.getD (r - 1) false ≠ c := by
  unfold stF
  cases h1 : g.getD r false <;> cases h2 : g.getD (r - 1) false <;> cases c <;> simp
def fnd (g : List Bool) (c : Bool) (i : Nat) : List Nat := (List.range i).filter fun r => stF g c r
theorem fnd_no {g : List Bool} {c : Bool} {i : Nat} (h : stF g c i = false) : fnd g c (i + 1) = fnd g c i := by
  unfold fnd; rw [List.range_succ, List.filter_append]; simp [h]
theorem fnd_yes {g : List Bool} {c : Bool} {i : Nat} (h : stF g c i = true) : fnd g c (i + 1) = fnd g c i ++ [i] := by
  unfold fnd; rw [List.range_succ, List.filter_append]; simp [h]
theorem fnd_len (g : List Bool) (c : Bool) (i : Nat) : (fnd g c i).length ≤ i := by
  unfold fnd; exact Nat.le_trans (List.length_filter_le _ _) (by simp)
theorem fnd_run {g : List Bool} {c : Bool} {i : Nat} (h : stF g c i = true) : fnd g c (i + runF g c i + 1) = fnd g c i ++ [i] := by
  obtain ⟨s1, s2, s3, s4⟩ := stF_iff.1 h
  have key : ∀ t, t ≤ runF g c i → fnd g c (i + t + 1) = fnd g c i ++ [i] := by
    intro t
    induction t with
    | zero => intro _; exact fnd_yes h
    | succ t ih =>
      intro ht
      rw [← ih (by omega)]
      refine fnd_no ?_
      cases hs : stF g c (i + (t + 1)) with
      | false => rfl
      | true =>
        obtain ⟨_, _, _, h4⟩ := stF_iff.1 hs
        exact absurd (runF_in (show t < runF g c i by omega)) h4
  exact key _ (Nat.le_refl _)
theorem fnd_over {g : List Bool} {c : Bool} {i : Nat} (h : g.length ≤ i) : fnd g c i = fnd g c g.length := by
  induction i with
  | zero => rw [show g.length = 0 by omega]
  | succ i ih =>
    by_cases hi : g.length = i + 1
    · rw [hi]
    · rw [← ih (by omega)]
      refine fnd_no ?_
      cases hs : stF g c i with
      | false => rfl
      | true => have := (stF_iff.1 hs).2.1; omega
def rotF (f : List Bool) (s : Nat) : List Bool := (List.range f.length).map fun i => f.getD ((s + i) % f.length) false
theorem rotF_len (f : List Bool) (s : Nat) : (rotF f s).length = f.length := by simp [rotF]
theorem rotF_get {f : List Bool} {s i : Nat} (h : i < f.length) : (rotF f s).getD i false = f.getD ((s + i) % f.length) false := by simp [rotF, List.getD_eq_getElem?_getD, h]
def hereF (n s r : Nat) : Nat := (s + r) % n
def thereF (n s i : Nat) : Nat := (i + n - s) % n
theorem here_there {n s i : Nat} (hs : s < n) (hi : i < n) : hereF n s (thereF n s i) = i := by
  unfold hereF thereF
  by_cases h : s ≤ i
  · rw [show i + n - s = (i - s) + n by omega, Nat.add_mod_right, Nat.mod_eq_of_lt (show i - s < n by omega), show s + (i - s) = i by omega, Nat.mod_eq_of_lt hi]
  · rw [Nat.mod_eq_of_lt (show i + n - s < n by omega), show s + (i + n - s) = i + n by omega, Nat.add_mod_right, Nat.mod_eq_of_lt hi]
theorem there_here {n s r : Nat} (hs : s < n) (hr : r < n) : thereF n s (hereF n s r) = r := by
  unfold hereF thereF
  by_cases h : s + r < n
  · rw [Nat.mod_eq_of_lt h, show s + r + n - s = r + n by omega, Nat.add_mod_right, Nat.mod_eq_of_lt hr]
  · have e : (s + r) % n = s + r - n := by
      rw [show s + r = (s + r - n) + n by omega, Nat.add_mod_right, Nat.mod_eq_of_lt (by omega)]
      omega
    rw [e, show s + r - n + n - s = r by omega, Nat.mod_eq_of_lt hr]
theorem here_lt {n s r : Nat} (hn : 0 < n) : hereF n s r < n := Nat.mod_lt _ hn
theorem there_lt {n s i : Nat} (hn : 0 < n) : thereF n s i < n := Nat.mod_lt _ hn
def stR (f : List Bool) (c : Bool) (i : Nat) : Bool := (f.getD i false == c) && !(pvF f i == c)
theorem st_same {f : List Bool} {c : Bool} {s r : Nat} (hs : s < f.length) (hc : f.getD s false ≠ c) (hr : r < f.length) : stF (rotF f s) c r = stR f c (hereF f.length s r) := by
  rw [Bool.eq_iff_iff, stF_iff]
  unfold stR
  rw [rotF_len]
  have e0 := rotF_get (f := f) (s := s) hr
  have hx : f.getD ((s + r) % f.length) false = f.getD (hereF f.length s r) false := rfl
  by_cases h0 : r = 0
  · subst h0
    have : hereF f.length s 0 = s := by unfold hereF; rw [Nat.add_zero, Nat.mod_eq_of_lt hs]
    rw [this]
    simp
    intro h; exact absurd h hc
  · have e1 := rotF_get (f := f) (s := s) (i := r - 1) (by omega)
    have e2 : f.getD ((s + (r - 1)) % f.length) false = pvF f (hereF f.length s r) := by
      unfold pvF hereF
      by_cases h1 : s + r < f.length
      · rw [Nat.mod_eq_of_lt h1, if_neg (by omega), Nat.mod_eq_of_lt (by omega), show s + (r - 1) = s + r - 1 by omega]
      · have e : (s + r) % f.length = s + r - f.length := by
          rw [show s + r = (s + r - f.length) + f.length by omega, Nat.add_mod_right, Nat.mod_eq_of_lt (by omega)]
          omega
        rw [e]
        by_cases h2 : s + r - f.length = 0
        · rw [if_pos h2, show s + (r - 1) = f.length - 1 by omega, Nat.mod_eq_of_lt (by omega)]
        · rw [if_neg h2, show s + (r - 1) = (s + r - f.length - 1) + f.length by omega, Nat.add_mod_right, Nat.mod_eq_of_lt (by omega)]
    rw [e0, e1, hx, e2]
    cases f.getD (hereF f.length s r) false <;> cases pvF f (hereF f.length s r) <;> cases c <;> simp <;> omega
end Go.Proofs.YtllijejobeogdaaGreat
