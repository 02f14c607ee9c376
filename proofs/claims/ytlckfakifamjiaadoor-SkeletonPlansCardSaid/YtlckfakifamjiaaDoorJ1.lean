/- Part 1 of the proof's own texts: the contracts of functions, and what they rest on. -/
import Derived.Test.YtlckfakifamjiaaDoorProg
import Derived.Test.YtlckfakifamjiaaDoorBw3
import Derived.Test.YtlckfakifamjiaaDoorBw5
import Derived.Test.YtlckfakifamjiaaDoorBw4
import Derived.Shelf.Sort.AssemblyIn
import Derived.Shelf.Slices.CompactI
/- Closed facts on the types. -/
namespace Go.Proofs.YtlckfakifamjiaaDoor
open Go Go.Proofs Go.AW
theorem follows : Tryd.prog.follows .mixedOrders = true := by kernel_rfl
-- 0: ()
theorem ag0 : agT Tryd.prog 0 = some (false, 1) := by kernel_rfl
-- 3: int
theorem ag3 : agT Tryd.prog 3 = some (false, 1) := by kernel_rfl
theorem zc3 : zT Tryd.prog 3 = some ([I 0], 1) := by kernel_rfl
-- 4: bool
theorem ag4 : agT Tryd.prog 4 = some (false, 1) := by kernel_rfl
theorem zc4 : zT Tryd.prog 4 = some ([B false], 1) := by kernel_rfl
instance bo4 : BoT Tryd.prog 4 := ⟨by kernel_rfl⟩
-- 5: uint8
theorem ag5 : agT Tryd.prog 5 = some (false, 1) := by kernel_rfl
theorem zc5 : zT Tryd.prog 5 = some ([.val (.int .u8 0)], 1) := by kernel_rfl
-- 9: string
theorem ag9 : agT Tryd.prog 9 = some (false, 1) := by kernel_rfl
theorem zc9 : zT Tryd.prog 9 = some ([.val (.string ⟨#[]⟩)], 1) := by kernel_rfl
-- 16: *runtime.PanicNilError
theorem ag16 : agT Tryd.prog 16 = some (false, 1) := by kernel_rfl
theorem zc16 : zT Tryd.prog 16 = some ([.val (.pointer none)], 1) := by kernel_rfl
-- 21: int32
theorem ag21 : agT Tryd.prog 21 = some (false, 1) := by kernel_rfl
theorem zc21 : zT Tryd.prog 21 = some ([.val (.int .i32 0)], 1) := by kernel_rfl
-- 22: []int
theorem ag22 : agT Tryd.prog 22 = some (false, 1) := by kernel_rfl
theorem zc22 : zT Tryd.prog 22 = some ([.cap0 true], 1) := by kernel_rfl
instance S22 : SlT Tryd.prog 22 3 8 (.int .i64 0) := SlT.of (by kernel_rfl) (by kernel_rfl)
-- 23: []bool
theorem ag23 : agT Tryd.prog 23 = some (false, 1) := by kernel_rfl
theorem zc23 : zT Tryd.prog 23 = some ([.cap0 true], 1) := by kernel_rfl
instance S23 : SlT Tryd.prog 23 4 1 (.bool false) := SlT.of (by kernel_rfl) (by kernel_rfl)
-- 25: api.Grid
theorem ag25 : agT Tryd.prog 25 = some (true, 3) := by kernel_rfl
theorem zc25 : zT Tryd.prog 25 = some ([I 0, I 0, .cap0 true], 3) := by kernel_rfl
theorem fo25_0 : fOff Tryd.prog 25 0 = some 0 := by kernel_rfl
theorem ft25_0 : fOT Tryd.prog 25 0 = some (0, 3) := by kernel_rfl
theorem fo25_1 : fOff Tryd.prog 25 1 = some 1 := by kernel_rfl
theorem ft25_1 : fOT Tryd.prog 25 1 = some (1, 3) := by kernel_rfl
theorem fo25_2 : fOff Tryd.prog 25 2 = some 2 := by kernel_rfl
theorem ft25_2 : fOT Tryd.prog 25 2 = some (2, 23) := by kernel_rfl
theorem fl25 : flT Tryd.prog 25 = some ([(0, 1), (1, 1), (2, 1)], [I 0, I 0, .cap0 true]) := by kernel_rfl
-- 29: api.Errno
theorem ag29 : agT Tryd.prog 29 = some (false, 1) := by kernel_rfl
theorem zc29 : zT Tryd.prog 29 = some ([I 0], 1) := by kernel_rfl
-- 37: [][]int
theorem ag37 : agT Tryd.prog 37 = some (false, 1) := by kernel_rfl
theorem zc37 : zT Tryd.prog 37 = some ([.cap0 true], 1) := by kernel_rfl
instance S37 : SlT Tryd.prog 37 22 24 (.slice none 0 0) := SlT.of (by kernel_rfl) (by kernel_rfl)
-- 57: func(int) bool
theorem ag57 : agT Tryd.prog 57 = some (false, 1) := by kernel_rfl
theorem zc57 : zT Tryd.prog 57 = some ([.val .nilFunc], 1) := by kernel_rfl
-- 64: uint16
theorem ag64 : agT Tryd.prog 64 = some (false, 1) := by kernel_rfl
theorem zc64 : zT Tryd.prog 64 = some ([.val (.int .u16 0)], 1) := by kernel_rfl
-- 65: skeleton.family
theorem ag65 : agT Tryd.prog 65 = some (false, 1) := by kernel_rfl
theorem zc65 : zT Tryd.prog 65 = some ([.val (.int .u16 0)], 1) := by kernel_rfl
-- 71: []string
theorem ag71 : agT Tryd.prog 71 = some (false, 1) := by kernel_rfl
theorem zc71 : zT Tryd.prog 71 = some ([.cap0 true], 1) := by kernel_rfl
instance S71 : SlT Tryd.prog 71 9 16 (.string ⟨#[]⟩) := SlT.of (by kernel_rfl) (by kernel_rfl)
-- 75: *strings.Builder
theorem ag75 : agT Tryd.prog 75 = some (false, 1) := by kernel_rfl
theorem zc75 : zT Tryd.prog 75 = some ([.val (.pointer none)], 1) := by kernel_rfl
-- 76: []uint8
theorem ag76 : agT Tryd.prog 76 = some (false, 1) := by kernel_rfl
theorem zc76 : zT Tryd.prog 76 = some ([.cap0 true], 1) := by kernel_rfl
instance S76 : SlT Tryd.prog 76 5 1 (.int .u8 0) := SlT.of (by kernel_rfl) (by kernel_rfl)
-- 78: strings.Builder
theorem ag78 : agT Tryd.prog 78 = some (true, 2) := by kernel_rfl
theorem zc78 : zT Tryd.prog 78 = some ([.val (.pointer none), .cap0 true], 2) := by kernel_rfl
theorem fo78_0 : fOff Tryd.prog 78 0 = some 0 := by kernel_rfl
theorem ft78_0 : fOT Tryd.prog 78 0 = some (0, 75) := by kernel_rfl
theorem fo78_1 : fOff Tryd.prog 78 1 = some 1 := by kernel_rfl
theorem ft78_1 : fOT Tryd.prog 78 1 = some (1, 76) := by kernel_rfl
theorem fl78 : flT Tryd.prog 78 = some ([(0, 1), (1, 1)], [.val (.pointer none), .cap0 true]) := by kernel_rfl
-- 80: error
theorem ag80 : agT Tryd.prog 80 = some (false, 1) := by kernel_rfl
theorem zc80 : zT Tryd.prog 80 = some ([.val .nilIface], 1) := by kernel_rfl
-- 85: uint
theorem ag85 : agT Tryd.prog 85 = some (false, 1) := by kernel_rfl
theorem zc85 : zT Tryd.prog 85 = some ([.val (.int .u64 0)], 1) := by kernel_rfl
-- 99: iter.Seq[[]bool]
theorem ag99 : agT Tryd.prog 99 = some (false, 1) := by kernel_rfl
theorem zc99 : zT Tryd.prog 99 = some ([.val .nilFunc], 1) := by kernel_rfl
-- 103: strings.asciiSet
theorem ag103 : agT Tryd.prog 103 = some (true, 256) := by kernel_rfl
theorem zc103 : zT Tryd.prog 103 = some (bools (List.replicate 256 false), 256) := by kernel_rfl
theorem fl103 : flT Tryd.prog 103 = some ([(0, 1), (1, 1), (2, 1), (3, 1), (4, 1), (5, 1), (6, 1), (7, 1), (8, 1), (9, 1), (10, 1), (11, 1), (12, 1), (13, 1), (14, 1), (15, 1), (16, 1), (17, 1), (18, 1), (19, 1), (20, 1), (21, 1), (22, 1), (23, 1), (24, 1), (25, 1), (26, 1), (27, 1), (28, 1), (29, 1), (30, 1), (31, 1), (32, 1), (33, 1), (34, 1), (35, 1), (36, 1), (37, 1), (38, 1), (39, 1), (40, 1), (41, 1), (42, 1), (43, 1), (44, 1), (45, 1), (46, 1), (47, 1), (48, 1), (49, 1), (50, 1), (51, 1), (52, 1), (53, 1), (54, 1), (55, 1), (56, 1), (57, 1), (58, 1), (59, 1), (60, 1), (61, 1), (62, 1), (63, 1), (64, 1), (65, 1), (66, 1), (67, 1), (68, 1), (69, 1), (70, 1), (71, 1), (72, 1), (73, 1), (74, 1), (75, 1), (76, 1), (77, 1), (78, 1), (79, 1), (80, 1), (81, 1), (82, 1), (83, 1), (84, 1), (85, 1), (86, 1), (87, 1), (88, 1), (89, 1), (90, 1), (91, 1), (92, 1), (93, 1), (94, 1), (95, 1), (96, 1), (97, 1), (98, 1), (99, 1), (100, 1), (101, 1), (102, 1), (103, 1), (104, 1), (105, 1), (106, 1), (107, 1), (108, 1), (109, 1), (110, 1), (111, 1), (112, 1), (113, 1), (114, 1), (115, 1), (116, 1), (117, 1), (118, 1), (119, 1), (120, 1), (121, 1), (122, 1), (123, 1), (124, 1), (125, 1), (126, 1), (127, 1), (128, 1), (129, 1), (130, 1), (131, 1), (132, 1), (133, 1), (134, 1), (135, 1), (136, 1), (137, 1), (138, 1), (139, 1), (140, 1), (141, 1), (142, 1), (143, 1), (144, 1), (145, 1), (146, 1), (147, 1), (148, 1), (149, 1), (150, 1), (151, 1), (152, 1), (153, 1), (154, 1), (155, 1), (156, 1), (157, 1), (158, 1), (159, 1), (160, 1), (161, 1), (162, 1), (163, 1), (164, 1), (165, 1), (166, 1), (167, 1), (168, 1), (169, 1), (170, 1), (171, 1), (172, 1), (173, 1), (174, 1), (175, 1), (176, 1), (177, 1), (178, 1), (179, 1), (180, 1), (181, 1), (182, 1), (183, 1), (184, 1), (185, 1), (186, 1), (187, 1), (188, 1), (189, 1), (190, 1), (191, 1), (192, 1), (193, 1), (194, 1), (195, 1), (196, 1), (197, 1), (198, 1), (199, 1), (200, 1), (201, 1), (202, 1), (203, 1), (204, 1), (205, 1), (206, 1), (207, 1), (208, 1), (209, 1), (210, 1), (211, 1), (212, 1), (213, 1), (214, 1), (215, 1), (216, 1), (217, 1), (218, 1), (219, 1), (220, 1), (221, 1), (222, 1), (223, 1), (224, 1), (225, 1), (226, 1), (227, 1), (228, 1), (229, 1), (230, 1), (231, 1), (232, 1), (233, 1), (234, 1), (235, 1), (236, 1), (237, 1), (238, 1), (239, 1), (240, 1), (241, 1), (242, 1), (243, 1), (244, 1), (245, 1), (246, 1), (247, 1), (248, 1), (249, 1), (250, 1), (251, 1), (252, 1), (253, 1), (254, 1), (255, 1)], bools (List.replicate 256 false)) := by kernel_rfl
-- 107: *strings.asciiSet
theorem ag107 : agT Tryd.prog 107 = some (false, 1) := by kernel_rfl
theorem zc107 : zT Tryd.prog 107 = some ([.val (.pointer none)], 1) := by kernel_rfl
-- 109: *uint8
theorem ag109 : agT Tryd.prog 109 = some (false, 1) := by kernel_rfl
theorem zc109 : zT Tryd.prog 109 = some ([.val (.pointer none)], 1) := by kernel_rfl
-- 115: func([]bool) bool
theorem ag115 : agT Tryd.prog 115 = some (false, 1) := by kernel_rfl
theorem zc115 : zT Tryd.prog 115 = some ([.val .nilFunc], 1) := by kernel_rfl
-- 123: unsafe.Pointer
theorem ag123 : agT Tryd.prog 123 = some (false, 1) := by kernel_rfl
theorem zc123 : zT Tryd.prog 123 = some ([.val (.pointer none)], 1) := by kernel_rfl
-- 126: slices.sortedHint
theorem ag126 : agT Tryd.prog 126 = some (false, 1) := by kernel_rfl
theorem zc126 : zT Tryd.prog 126 = some ([I 0], 1) := by kernel_rfl
-- 136: uint64
theorem ag136 : agT Tryd.prog 136 = some (false, 1) := by kernel_rfl
theorem zc136 : zT Tryd.prog 136 = some ([.val (.int .u64 0)], 1) := by kernel_rfl
-- 138: [16]bool
theorem ag138 : agT Tryd.prog 138 = some (true, 16) := by kernel_rfl
theorem zc138 : zT Tryd.prog 138 = some (bools (List.replicate 16 false), 16) := by kernel_rfl
theorem fl138 : flT Tryd.prog 138 = some ([(0, 1), (1, 1), (2, 1), (3, 1), (4, 1), (5, 1), (6, 1), (7, 1), (8, 1), (9, 1), (10, 1), (11, 1), (12, 1), (13, 1), (14, 1), (15, 1)], bools (List.replicate 16 false)) := by kernel_rfl
-- 143: slices.xorshift
theorem ag143 : agT Tryd.prog 143 = some (false, 1) := by kernel_rfl
theorem zc143 : zT Tryd.prog 143 = some ([.val (.int .u64 0)], 1) := by kernel_rfl
-- 147: *int
theorem ag147 : agT Tryd.prog 147 = some (false, 1) := by kernel_rfl
theorem zc147 : zT Tryd.prog 147 = some ([.val (.pointer none)], 1) := by kernel_rfl
-- 154: *slices.xorshift
theorem ag154 : agT Tryd.prog 154 = some (false, 1) := by kernel_rfl
theorem zc154 : zT Tryd.prog 154 = some ([.val (.pointer none)], 1) := by kernel_rfl
-- 161: [0]*runtime.PanicNilError
theorem ag161 : agT Tryd.prog 161 = some (true, 0) := by kernel_rfl
theorem fl161 : flT Tryd.prog 161 = some ([], []) := by kernel_rfl
-- 163: runtime.PanicNilError
theorem ag163 : agT Tryd.prog 163 = some (true, 0) := by kernel_rfl
theorem ft163_0 : fOT Tryd.prog 163 0 = some (0, 161) := by kernel_rfl
theorem fl163 : flT Tryd.prog 163 = some ([(0, 0)], []) := by kernel_rfl

theorem FX : type_of% @ag0 ∧ type_of% @ag3 ∧ type_of% @zc3 ∧ type_of% @ag4 ∧ type_of% @zc4 ∧ type_of% @ag5 ∧ type_of% @zc5 ∧ type_of% @ag9 ∧ type_of% @zc9 ∧ type_of% @ag16 ∧ type_of% @zc16 ∧ type_of% @ag21 ∧ type_of% @zc21 ∧ type_of% @ag22 ∧ type_of% @zc22 ∧ type_of% @ag23 ∧ type_of% @zc23 ∧ type_of% @ag25 ∧ type_of% @zc25 ∧ type_of% @fo25_0 ∧ type_of% @ft25_0 ∧ type_of% @fo25_1 ∧ type_of% @ft25_1 ∧ type_of% @fo25_2 ∧ type_of% @ft25_2 ∧ type_of% @fl25 ∧ type_of% @ag29 ∧ type_of% @zc29 ∧ type_of% @ag37 ∧ type_of% @zc37 ∧ type_of% @ag57 ∧ type_of% @zc57 ∧ type_of% @ag64 ∧ type_of% @zc64 ∧ type_of% @ag65 ∧ type_of% @zc65 ∧ type_of% @ag71 ∧ type_of% @zc71 ∧ type_of% @ag75 ∧ type_of% @zc75 ∧ type_of% @ag76 ∧ type_of% @zc76 ∧ type_of% @ag78 ∧ type_of% @zc78 ∧ type_of% @fo78_0 ∧ type_of% @ft78_0 ∧ type_of% @fo78_1 ∧ type_of% @ft78_1 ∧ type_of% @fl78 ∧ type_of% @ag80 ∧ type_of% @zc80 ∧ type_of% @ag85 ∧ type_of% @zc85 ∧ type_of% @ag99 ∧ type_of% @zc99 ∧ type_of% @ag103 ∧ type_of% @zc103 ∧ type_of% @fl103 ∧ type_of% @ag107 ∧ type_of% @zc107 ∧ type_of% @ag109 ∧ type_of% @zc109 ∧ type_of% @ag115 ∧ type_of% @zc115 ∧ type_of% @ag123 ∧ type_of% @zc123 ∧ type_of% @ag126 ∧ type_of% @zc126 ∧ type_of% @ag136 ∧ type_of% @zc136 ∧ type_of% @ag138 ∧ type_of% @zc138 ∧ type_of% @fl138 ∧ type_of% @ag143 ∧ type_of% @zc143 ∧ type_of% @ag147 ∧ type_of% @zc147 ∧ type_of% @ag154 ∧ type_of% @zc154 ∧ type_of% @ag161 ∧ type_of% @fl161 ∧ type_of% @ag163 ∧ type_of% @ft163_0 ∧ type_of% @fl163 :=
  ⟨@ag0, @ag3, @zc3, @ag4, @zc4, @ag5, @zc5, @ag9, @zc9, @ag16, @zc16, @ag21, @zc21, @ag22, @zc22, @ag23, @zc23, @ag25, @zc25, @fo25_0, @ft25_0, @fo25_1, @ft25_1, @fo25_2, @ft25_2, @fl25, @ag29, @zc29, @ag37, @zc37, @ag57, @zc57, @ag64, @zc64, @ag65, @zc65, @ag71, @zc71, @ag75, @zc75, @ag76, @zc76, @ag78, @zc78, @fo78_0, @ft78_0, @fo78_1, @ft78_1, @fl78, @ag80, @zc80, @ag85, @zc85, @ag99, @zc99, @ag103, @zc103, @fl103, @ag107, @zc107, @ag109, @zc109, @ag115, @zc115, @ag123, @zc123, @ag126, @zc126, @ag136, @zc136, @ag138, @zc138, @fl138, @ag143, @zc143, @ag147, @zc147, @ag154, @zc154, @ag161, @fl161, @ag163, @ft163_0, @fl163⟩
end Go.Proofs.YtlckfakifamjiaaDoor

/- Grids: their checks. -/
set_option linter.unusedSimpArgs false
set_option linter.unusedVariables false
set_option maxRecDepth 100000
namespace Go.Proofs.YtlckfakifamjiaaDoor
open Go Go.Proofs Go.AW

abbrev LA (b : Bool) (l : List Int) : AVal := .list false b l.length (ints l)
abbrev LR (b : Bool) (l : List Int) : AVal := .list true b l.length (ints l)
abbrev BA (b : Bool) (l : List Bool) : AVal := .list false b l.length (bools l)
abbrev BR (b : Bool) (l : List Bool) : AVal := .list true b l.length (bools l)
abbrev GA (w h : Int) (b : Bool) (l : List Bool) : AVal := .agg [I w, I h, BA b l]
abbrev GR (w h : Int) (b : Bool) (l : List Bool) : AVal := .agg [I w, I h, BR b l]

theorem great_c (w h : Int) (b : Bool) (l : List Bool) : Contract Tryd.prog 12 [GA w h b l] (B (decide (4200 < (l.length : Int)))) := by
  refine Contract.intro (effS [] false) 6 follows Tryd.func12 rfl rfl (by kernel_rfl) (Nat.le_of_ble_eq_true rfl) ?_
  simp (disch := omega) only [↓RP, RG, FX, RQ, ↓reduceIte, Nat.reduceEqDiff, reduceCtorEq, Nat.reduceBEq, Nat.reduceAdd, Nat.reduceLeDiff, args0_1]
  rw [resVal_1 rfl]; simp (disch := first | assumption | omega | rfl | simp only [RH]) only [↓RP, RG, FX, RQ, ↓reduceIte, Nat.reduceEqDiff, reduceCtorEq, Nat.reduceBEq, Nat.reduceAdd, Nat.reduceLeDiff, RS]

/-- The error of a grid. -/
def gchk (w h n : Int) : Int := if 64 < w ∨ 64 < h then 4 else if w < 1 ∨ h < 1 ∨ n ≠ w * h then 8 else 0
def gOk (w h n : Int) : Prop := 1 ≤ w ∧ w ≤ 64 ∧ 1 ≤ h ∧ h ≤ 64 ∧ n = w * h
theorem gchk_ok {w h n : Int} (hg : gOk w h n) : gchk w h n = 0 := by
  obtain ⟨h1, h2, h3, h4, h5⟩ := hg
  unfold gchk
  rw [if_neg (by omega), if_neg (by omega)]
theorem gchk_iff {w h n : Int} : gchk w h n = 0 ↔ gOk w h n := by
  refine ⟨fun hz => ?_, gchk_ok⟩
  unfold gchk at hz
  unfold gOk
  split at hz
  · omega
  · split at hz
    · omega
    · omega
theorem prod64 {w h : Int} (h1 : 0 ≤ w) (h2 : w ≤ 64) (h3 : 0 ≤ h) (h4 : h ≤ 64) : 0 ≤ w * h ∧ w * h ≤ 4096 := by
  constructor
  · exact Int.mul_nonneg h1 h3
  · have := Int.mul_le_mul h2 h4 h3 (by omega); omega

theorem gcheckP_c (w h : Int) (b : Bool) (l : List Bool) : Contract Tryd.prog 39 [GA w h b l] (I (gchk w h l.length)) := by
  unfold gchk
  refine Contract.intro (effS [] false) 6 follows Tryd.func39 rfl rfl (by kernel_rfl) (Nat.le_of_ble_eq_true rfl) ?_
  by_cases c1 : 64 < w ∨ 64 < h
  · rw [if_pos c1]
    have : 64 < max w h := by omega
    simp (disch := omega) only [↓RP, RG, FX, RQ, ↓reduceIte, Nat.reduceEqDiff, reduceCtorEq, Nat.reduceBEq, Nat.reduceAdd, Nat.reduceLeDiff, args0_1]
    rw [resVal_1 rfl]; simp (disch := first | assumption | omega | rfl | simp only [RH]) only [↓RP, RG, FX, RQ, ↓reduceIte, Nat.reduceEqDiff, reduceCtorEq, Nat.reduceBEq, Nat.reduceAdd, Nat.reduceLeDiff, RS]
  rw [if_neg c1]
  have : ¬ 64 < max w h := by omega
  by_cases c2 : w < 1 ∨ h < 1
  · rw [if_pos (by omega)]
    have : min w h < 1 := by omega
    simp (disch := omega) only [↓RP, RG, FX, RQ, ↓reduceIte, Nat.reduceEqDiff, reduceCtorEq, Nat.reduceBEq, Nat.reduceAdd, Nat.reduceLeDiff, args0_1]
    rw [resVal_1 rfl]; simp (disch := first | assumption | omega | rfl | simp only [RH]) only [↓RP, RG, FX, RQ, ↓reduceIte, Nat.reduceEqDiff, reduceCtorEq, Nat.reduceBEq, Nat.reduceAdd, Nat.reduceLeDiff, RS]
  have : ¬ min w h < 1 := by omega
  have hp := prod64 (w := w) (h := h) (by omega) (by omega) (by omega) (by omega)
  by_cases c3 : (l.length : Int) = w * h
  · rw [if_neg (by omega)]
    simp (disch := omega) only [↓RP, RG, FX, RQ, ↓reduceIte, Nat.reduceEqDiff, reduceCtorEq, Nat.reduceBEq, Nat.reduceAdd, Nat.reduceLeDiff, args0_1]
    rw [resVal_1 rfl]; simp (disch := first | assumption | omega | rfl | simp only [RH]) only [↓RP, RG, FX, RQ, ↓reduceIte, Nat.reduceEqDiff, reduceCtorEq, Nat.reduceBEq, Nat.reduceAdd, Nat.reduceLeDiff, RS]
  · rw [if_pos (by omega)]
    simp (disch := omega) only [↓RP, RG, FX, RQ, ↓reduceIte, Nat.reduceEqDiff, reduceCtorEq, Nat.reduceBEq, Nat.reduceAdd, Nat.reduceLeDiff, args0_1]
    rw [resVal_1 rfl]; simp (disch := first | assumption | omega | rfl | simp only [RH]) only [↓RP, RG, FX, RQ, ↓reduceIte, Nat.reduceEqDiff, reduceCtorEq, Nat.reduceBEq, Nat.reduceAdd, Nat.reduceLeDiff, RS]

theorem gcheckR_c (w h : Int) (b : Bool) (l : List Bool) : Contract Tryd.prog 13 [GA w h b l] (I (gchk w h l.length)) := by
  unfold gchk
  refine Contract.intro (effS [] false) 6 follows Tryd.func13 rfl rfl (by kernel_rfl) (Nat.le_of_ble_eq_true rfl) ?_
  by_cases c0 : 64 < w
  · rw [if_pos (by omega)]
    simp (disch := omega) only [↓RP, RG, FX, RQ, ↓reduceIte, Nat.reduceEqDiff, reduceCtorEq, Nat.reduceBEq, Nat.reduceAdd, Nat.reduceLeDiff, args0_1]
    rw [resVal_1 rfl]; simp (disch := first | assumption | omega | rfl | simp only [RH]) only [↓RP, RG, FX, RQ, ↓reduceIte, Nat.reduceEqDiff, reduceCtorEq, Nat.reduceBEq, Nat.reduceAdd, Nat.reduceLeDiff, RS]
  by_cases c1 : 64 < h
  · rw [if_pos (by omega)]
    simp (disch := omega) only [↓RP, RG, FX, RQ, ↓reduceIte, Nat.reduceEqDiff, reduceCtorEq, Nat.reduceBEq, Nat.reduceAdd, Nat.reduceLeDiff, args0_1]
    rw [resVal_1 rfl]; simp (disch := first | assumption | omega | rfl | simp only [RH]) only [↓RP, RG, FX, RQ, ↓reduceIte, Nat.reduceEqDiff, reduceCtorEq, Nat.reduceBEq, Nat.reduceAdd, Nat.reduceLeDiff, RS]
  rw [if_neg (by omega)]
  by_cases c2 : w < 1
  · rw [if_pos (by omega)]
    simp (disch := omega) only [↓RP, RG, FX, RQ, ↓reduceIte, Nat.reduceEqDiff, reduceCtorEq, Nat.reduceBEq, Nat.reduceAdd, Nat.reduceLeDiff, args0_1]
    rw [resVal_1 rfl]; simp (disch := first | assumption | omega | rfl | simp only [RH]) only [↓RP, RG, FX, RQ, ↓reduceIte, Nat.reduceEqDiff, reduceCtorEq, Nat.reduceBEq, Nat.reduceAdd, Nat.reduceLeDiff, RS]
  by_cases c3 : h < 1
  · rw [if_pos (by omega)]
    simp (disch := omega) only [↓RP, RG, FX, RQ, ↓reduceIte, Nat.reduceEqDiff, reduceCtorEq, Nat.reduceBEq, Nat.reduceAdd, Nat.reduceLeDiff, args0_1]
    rw [resVal_1 rfl]; simp (disch := first | assumption | omega | rfl | simp only [RH]) only [↓RP, RG, FX, RQ, ↓reduceIte, Nat.reduceEqDiff, reduceCtorEq, Nat.reduceBEq, Nat.reduceAdd, Nat.reduceLeDiff, RS]
  have hp := prod64 (w := w) (h := h) (by omega) (by omega) (by omega) (by omega)
  by_cases c4 : (l.length : Int) = w * h
  · rw [if_neg (by omega)]
    simp (disch := omega) only [↓RP, RG, FX, RQ, ↓reduceIte, Nat.reduceEqDiff, reduceCtorEq, Nat.reduceBEq, Nat.reduceAdd, Nat.reduceLeDiff, args0_1]
    rw [resVal_1 rfl]; simp (disch := first | assumption | omega | rfl | simp only [RH]) only [↓RP, RG, FX, RQ, ↓reduceIte, Nat.reduceEqDiff, reduceCtorEq, Nat.reduceBEq, Nat.reduceAdd, Nat.reduceLeDiff, RS]
  · rw [if_pos (by omega)]
    simp (disch := omega) only [↓RP, RG, FX, RQ, ↓reduceIte, Nat.reduceEqDiff, reduceCtorEq, Nat.reduceBEq, Nat.reduceAdd, Nat.reduceLeDiff, args0_1]
    rw [resVal_1 rfl]; simp (disch := first | assumption | omega | rfl | simp only [RH]) only [↓RP, RG, FX, RQ, ↓reduceIte, Nat.reduceEqDiff, reduceCtorEq, Nat.reduceBEq, Nat.reduceAdd, Nat.reduceLeDiff, RS]
end Go.Proofs.YtlckfakifamjiaaDoor

/- Lists: compared. -/
set_option linter.unusedSimpArgs false
set_option linter.unusedVariables false
set_option maxRecDepth 100000
namespace Go.Proofs.YtlckfakifamjiaaDoor
open Go Go.Proofs Go.AW

theorem bneq {a b : Bool} (h : ¬ a = b) : (a == b) = false := by simpa using h

/-- Lists compared. -/
theorem same02_c (b1 b2 : Bool) (l m : List Int) (hl : l.length ≤ 9223372036854775807) : Contract Tryd.prog 20 [LA b1 l, LA b2 m] (B (decide (l = m))) := by
  refine Contract.intro (effS [] false) 6 follows Tryd.func20 rfl rfl (by kernel_rfl) (Nat.le_of_ble_eq_true rfl) ?_
  by_cases hlen : l.length = m.length
  · simp (disch := first | assumption | omega | rfl | simp only [RH]) only [↓RP, RG, FX, RQ, ↓reduceIte, Nat.reduceEqDiff, reduceCtorEq, Nat.reduceBEq, Nat.reduceAdd, Nat.reduceLeDiff, args0_2]
    refine loopK_I [0, 1, 5] (fun k : Nat => k ≤ l.length ∧ l.take k = m.take k) (fun k : Nat => ⟨[(0, LA b1 l), (1, LA b2 m), (5, I k)], []⟩) (fun k => l.length - k) 0 (by simp) (by simp only [↓RP, RG, FX, RQ, ↓reduceIte, Nat.reduceEqDiff, reduceCtorEq, Nat.reduceBEq, Nat.reduceAdd, Nat.reduceLeDiff]; rfl) ?_
    rintro k ⟨hk, htk⟩
    by_cases hlt : k < l.length
    · by_cases he : l.getD k 0 = m.getD k 0
      · simp (disch := first | assumption | omega | rfl | simp only [RH]) only [↓RP, RG, FX, RQ, ↓reduceIte, Nat.reduceEqDiff, reduceCtorEq, Nat.reduceBEq, Nat.reduceAdd, Nat.reduceLeDiff]
        refine ⟨k + 1, ⟨by omega, ?_⟩, rfl, by omega⟩
        rw [List.take_add_one, List.take_add_one, htk]
        simp [hlt, show k < m.length by omega] at he
        rw [List.getElem?_eq_getElem hlt, List.getElem?_eq_getElem (show k < m.length by omega), he]
      · simp (disch := first | assumption | omega | rfl | simp only [RH]) only [↓RP, RG, FX, RQ, ↓reduceIte, Nat.reduceEqDiff, reduceCtorEq, Nat.reduceBEq, Nat.reduceAdd, Nat.reduceLeDiff]
        rw [resVal_1 rfl]; simp (disch := first | assumption | omega | rfl | simp only [RH]) only [↓RP, RG, FX, RQ, ↓reduceIte, Nat.reduceEqDiff, reduceCtorEq, Nat.reduceBEq, Nat.reduceAdd, Nat.reduceLeDiff, RS]
        refine okF ?_
        rintro rfl; exact he rfl
    · simp (disch := first | assumption | omega | rfl | simp only [RH]) only [↓RP, RG, FX, RQ, ↓reduceIte, Nat.reduceEqDiff, reduceCtorEq, Nat.reduceBEq, Nat.reduceAdd, Nat.reduceLeDiff]
      rw [resVal_1 rfl]; simp (disch := first | assumption | omega | rfl | simp only [RH]) only [↓RP, RG, FX, RQ, ↓reduceIte, Nat.reduceEqDiff, reduceCtorEq, Nat.reduceBEq, Nat.reduceAdd, Nat.reduceLeDiff, RS]
      refine okT ?_
      have hk' : k = l.length := by omega
      rw [hk', List.take_length] at htk
      rw [htk, hlen, List.take_length]
  · simp (disch := first | assumption | omega | rfl | simp only [RH]) only [↓RP, RG, FX, RQ, ↓reduceIte, Nat.reduceEqDiff, reduceCtorEq, Nat.reduceBEq, Nat.reduceAdd, Nat.reduceLeDiff, args0_2]
    rw [resVal_1 rfl]; simp (disch := first | assumption | omega | rfl | simp only [RH]) only [↓RP, RG, FX, RQ, ↓reduceIte, Nat.reduceEqDiff, reduceCtorEq, Nat.reduceBEq, Nat.reduceAdd, Nat.reduceLeDiff, RS]
    refine okF ?_
    rintro rfl; exact hlen rfl

end Go.Proofs.YtlckfakifamjiaaDoor

/- Lists: least and greatest element, within a range; cells of grids. -/
set_option linter.unusedSimpArgs false
set_option linter.unusedVariables false
set_option maxRecDepth 100000
namespace Go.Proofs.YtlckfakifamjiaaDoor
open Go Go.Proofs Go.AW

/-- It has elements, all of them from 0 to n - 1. -/
def wIn (l : List Int) (n : Int) : Prop := 0 < l.length ∧ ∀ j, j < l.length → 0 ≤ l.getD j 0 ∧ l.getD j 0 < n
instance (l : List Int) (n : Int) : Decidable (wIn l n) := by unfold wIn; infer_instance

/-- A grid's cell. -/
def cell (w : Int) (l : List Bool) (x y : Int) : Bool := l.getD (y * w + x).toNat false

theorem at_c (w h : Int) (b : Bool) (l : List Bool) (x y : Int) (h0 : 0 ≤ y * w + x) (h1 : y * w + x < l.length) (h2 : l.length ≤ 1000000000000) (h3 : 0 ≤ y * w) (h4 : y * w ≤ 1000000000000) : Contract Tryd.prog 15 [GA w h b l, I x, I y] (B (cell w l x y)) := by
  refine Contract.intro (effS [] false) 6 follows Tryd.func15 rfl rfl (by kernel_rfl) (Nat.le_of_ble_eq_true rfl) ?_
  simp (disch := first | assumption | omega | rfl | simp only [RH]) only [↓RP, RG, FX, RQ, ↓reduceIte, Nat.reduceEqDiff, reduceCtorEq, Nat.reduceBEq, Nat.reduceAdd, Nat.reduceLeDiff, args0_3]
  rw [resVal_1 rfl]; simp (disch := first | assumption | omega | rfl | simp only [RH]) only [↓RP, RG, FX, RQ, ↓reduceIte, Nat.reduceEqDiff, reduceCtorEq, Nat.reduceBEq, Nat.reduceAdd, Nat.reduceLeDiff, RS]
  rfl

theorem zero_c (h0 : List AObj) (w h : Int) (hw : 0 ≤ w) (hh : 0 ≤ h) (hp : 0 ≤ w * h) (hq : w * h ≤ 1000000000000) : SpecTo Tryd.prog 50 [I w, I h] h0 (.agg [I w, I h, .ref h0.length 0 (w * h).toNat (w * h).toNat]) (h0 ++ [⟨4, 1, bools (List.replicate (w * h).toNat false)⟩]) := by
  refine SpecTo.intro (effS [] false) follows Tryd.func50 rfl rfl (by kernel_rfl) (Nat.le_of_ble_eq_true rfl) ?_
  simp (disch := first | assumption | omega | rfl | simp only [RH]) only [↓RP, RG, FX, RQ, ↓reduceIte, Nat.reduceEqDiff, reduceCtorEq, Nat.reduceBEq, Nat.reduceAdd, Nat.reduceLeDiff, args0_2, make_bool]
  refine ⟨_, by rw [resVal_1 rfl]; simp (disch := first | assumption | omega | rfl | simp only [RH]) only [↓RP, RG, FX, RQ, ↓reduceIte, Nat.reduceEqDiff, reduceCtorEq, Nat.reduceBEq, Nat.reduceAdd, Nat.reduceLeDiff, raX_tmp, raX_cell, rvX_0, rvX_1, rvX_2, rvX_3, rvX_4, rvX_5]; rfl, (Wk.drop 8 [1] (by simp) (by decide) (by simp) (same_refl)).trans (Wk.of_eq (by simp (disch := omega) only [RK, List.idxOf?_cons, List.idxOf?_nil, Nat.reduceBEq, Option.map_some, Option.map_none, List.map_cons, List.map_nil, List.getD_cons_zero, List.getD_cons_succ, Bool.false_eq_true, ↓reduceIte, Nat.add_zero, List.append_nil]))⟩

theorem set_c (h0 : List AObj) (k n : Nat) (l : List Bool) (w hh x y : Int) (up : Bool) (hk : h0[k]? = some ⟨4, 1, bools l⟩) (hn : l.length = n) (p0 : 0 ≤ y * w + x) (p1 : y * w + x < n) (p2 : n ≤ 1000000000000) (p3 : 0 ≤ y * w) (p4 : y * w ≤ 1000000000000) :
    SpecTo Tryd.prog 51 [.agg [I w, I hh, .ref k 0 n n], I x, I y, B up] h0 (.tuple []) (h0.set k ⟨4, 1, bools (l.set (y * w + x).toNat up)⟩) := by
  have hlt : k < h0.length := (List.getElem?_eq_some_iff.1 hk).1
  refine SpecTo.intro (effS [] false) follows Tryd.func51 rfl rfl (by kernel_rfl) (Nat.le_of_ble_eq_true rfl) ?_
  simp (disch := first | assumption | omega | rfl | simp only [RH]) only [↓RP, RG, FX, RQ, ↓reduceIte, Nat.reduceEqDiff, reduceCtorEq, Nat.reduceBEq, Nat.reduceAdd, Nat.reduceLeDiff, args0_4, hAt_low, hk, hSet_low]
  refine ⟨_, by rw [resVal_0 rfl]; simp (disch := first | assumption | omega | rfl | simp only [RH]) only [↓RP, RG, FX, RQ, ↓reduceIte, Nat.reduceEqDiff, reduceCtorEq, Nat.reduceBEq, Nat.reduceAdd, Nat.reduceLeDiff, raX_tmp, raX_cell, rvX_0, rvX_1, rvX_2, rvX_3, rvX_4, rvX_5]; rfl, (Wk.drop 8 [] (by simp) (by decide) (by simp) (same_set same_refl (ren_bools _))).trans (Wk.of_eq (by simp (disch := omega) only [RK, List.idxOf?_cons, List.idxOf?_nil, Nat.reduceBEq, Option.map_some, Option.map_none, List.map_cons, List.map_nil, List.getD_cons_zero, List.getD_cons_succ, Bool.false_eq_true, ↓reduceIte, Nat.add_zero, List.append_nil]))⟩
end Go.Proofs.YtlckfakifamjiaaDoor

/- Grids: compared, copied. -/
set_option linter.unusedSimpArgs false
set_option linter.unusedVariables false
set_option maxRecDepth 100000
namespace Go.Proofs.YtlckfakifamjiaaDoor
open Go Go.Proofs Go.AW

theorem sameR_c (w1 h1 w2 h2 : Int) (b1 b2 : Bool) (l m : List Bool) (hl : l.length ≤ 9223372036854775807) : Contract Tryd.prog 24 [GA w1 h1 b1 l, GA w2 h2 b2 m] (B (decide (w1 = w2 ∧ h1 = h2 ∧ l = m))) := by
  refine Contract.intro (effS [] false) 6 follows Tryd.func24 rfl rfl (by kernel_rfl) (Nat.le_of_ble_eq_true rfl) ?_
  by_cases c1 : w1 = w2
  rotate_left
  · simp (disch := first | assumption | omega | rfl | simp only [RH]) only [↓RP, RG, FX, RQ, ↓reduceIte, Nat.reduceEqDiff, reduceCtorEq, Nat.reduceBEq, Nat.reduceAdd, Nat.reduceLeDiff, args0_2]
    rw [resVal_1 rfl]; simp (disch := first | assumption | omega | rfl | simp only [RH]) only [↓RP, RG, FX, RQ, ↓reduceIte, Nat.reduceEqDiff, reduceCtorEq, Nat.reduceBEq, Nat.reduceAdd, Nat.reduceLeDiff, RS]
    first | done | exact okF (fun h => c1 h.1)
  by_cases c2 : h1 = h2
  rotate_left
  · simp (disch := first | assumption | omega | rfl | simp only [RH]) only [↓RP, RG, FX, RQ, ↓reduceIte, Nat.reduceEqDiff, reduceCtorEq, Nat.reduceBEq, Nat.reduceAdd, Nat.reduceLeDiff, args0_2]
    rw [resVal_1 rfl]; simp (disch := first | assumption | omega | rfl | simp only [RH]) only [↓RP, RG, FX, RQ, ↓reduceIte, Nat.reduceEqDiff, reduceCtorEq, Nat.reduceBEq, Nat.reduceAdd, Nat.reduceLeDiff, RS]
    first | done | exact okF (fun h => c2 h.2.1)
  by_cases hlen : l.length = m.length
  rotate_left
  · simp (disch := first | assumption | omega | rfl | simp only [RH]) only [↓RP, RG, FX, RQ, ↓reduceIte, Nat.reduceEqDiff, reduceCtorEq, Nat.reduceBEq, Nat.reduceAdd, Nat.reduceLeDiff, args0_2]
    rw [resVal_1 rfl]; simp (disch := first | assumption | omega | rfl | simp only [RH]) only [↓RP, RG, FX, RQ, ↓reduceIte, Nat.reduceEqDiff, reduceCtorEq, Nat.reduceBEq, Nat.reduceAdd, Nat.reduceLeDiff, RS]
    first | done | exact okF (fun h => hlen (by rw [h.2.2]))
  simp (disch := first | assumption | omega | rfl | simp only [RH]) only [↓RP, RG, FX, RQ, ↓reduceIte, Nat.reduceEqDiff, reduceCtorEq, Nat.reduceBEq, Nat.reduceAdd, Nat.reduceLeDiff, args0_2]
  refine loopK_I [2, 3, 5] (fun k : Nat => k ≤ l.length ∧ l.take k = m.take k) (fun k : Nat => ⟨[(2, .ptr 0 0 3), (3, .ptr 1 0 3), (5, I k)], [⟨25, 3, [I w1, I h1, BA b1 l]⟩, ⟨25, 3, [I w2, I h2, BA b2 m]⟩]⟩) (fun k => l.length - k) 0 (by simp) (by simp only [↓RP, RG, FX, RQ, ↓reduceIte, Nat.reduceEqDiff, reduceCtorEq, Nat.reduceBEq, Nat.reduceAdd, Nat.reduceLeDiff]; rfl) ?_
  rintro k ⟨hk, htk⟩
  by_cases hlt : k < l.length
  · by_cases he : l.getD k false = m.getD k false
    · simp (disch := first | assumption | omega | rfl | simp only [RH]) only [↓RP, RG, FX, RQ, ↓reduceIte, Nat.reduceEqDiff, reduceCtorEq, Nat.reduceBEq, Nat.reduceAdd, Nat.reduceLeDiff, he, beq_self_eq_true, Bool.not_true]
      refine ⟨k + 1, ⟨by omega, ?_⟩, rfl, by omega⟩
      rw [List.take_add_one, List.take_add_one, htk]
      simp [hlt, show k < m.length by omega] at he
      rw [List.getElem?_eq_getElem hlt, List.getElem?_eq_getElem (show k < m.length by omega), he]
    · simp (disch := first | assumption | omega | rfl | simp only [RH]) only [↓RP, RG, FX, RQ, ↓reduceIte, Nat.reduceEqDiff, reduceCtorEq, Nat.reduceBEq, Nat.reduceAdd, Nat.reduceLeDiff, bneq he]
      rw [resVal_1 rfl]; simp (disch := first | assumption | omega | rfl | simp only [RH]) only [↓RP, RG, FX, RQ, ↓reduceIte, Nat.reduceEqDiff, reduceCtorEq, Nat.reduceBEq, Nat.reduceAdd, Nat.reduceLeDiff, RS]
      refine okF ?_
      rintro ⟨_, _, rfl⟩; exact he rfl
  · simp (disch := first | assumption | omega | rfl | simp only [RH]) only [↓RP, RG, FX, RQ, ↓reduceIte, Nat.reduceEqDiff, reduceCtorEq, Nat.reduceBEq, Nat.reduceAdd, Nat.reduceLeDiff]
    rw [resVal_1 rfl]; simp (disch := first | assumption | omega | rfl | simp only [RH]) only [↓RP, RG, FX, RQ, ↓reduceIte, Nat.reduceEqDiff, reduceCtorEq, Nat.reduceBEq, Nat.reduceAdd, Nat.reduceLeDiff, RS]
    refine okT ⟨c1, c2, ?_⟩
    have hk' : k = l.length := by omega
    rw [hk', List.take_length] at htk
    rw [htk, hlen, List.take_length]

end Go.Proofs.YtlckfakifamjiaaDoor

/- Drafts: their checks. -/
set_option linter.unusedSimpArgs false
set_option linter.unusedVariables false
set_option maxRecDepth 100000
namespace Go.Proofs.YtlckfakifamjiaaDoor
open Go Go.Proofs Go.AW

end Go.Proofs.YtlckfakifamjiaaDoor

/- Drafts: tables, drawdowns, lifts. -/
set_option linter.unusedSimpArgs false
set_option linter.unusedVariables false
set_option maxRecDepth 100000
namespace Go.Proofs.YtlckfakifamjiaaDoor
open Go Go.Proofs Go.AW

/-- The first n cells of a table of W columns. -/
def tabN (W : Nat) (u : Nat → Nat → Bool) (n : Nat) : List Bool := (List.range n).map fun i => u (i % W) (i / W)
theorem tabN_len (W : Nat) (u : Nat → Nat → Bool) (n : Nat) : (tabN W u n).length = n := by simp [tabN]
theorem tabN_succ (W : Nat) (u : Nat → Nat → Bool) {y x : Nat} (hx : x < W) : tabN W u (W * y + x + 1) = tabN W u (W * y + x) ++ [u x y] := by
  have e1 : (W * y + x) % W = x := by rw [Nat.mul_add_mod]; exact Nat.mod_eq_of_lt hx
  have e2 : (W * y + x) / W = y := by rw [Nat.mul_add_div (by omega), Nat.div_eq_of_lt hx, Nat.add_zero]
  simp only [tabN, List.range_succ, List.map_append, List.map_cons, List.map_nil, e1, e2]
theorem ints_isEmpty (l : List Int) : (ints l).isEmpty = l.isEmpty := by cases l <;> rfl

end Go.Proofs.YtlckfakifamjiaaDoor

/- Drafts: drawdowns and lifts, of the program and the reference. -/
set_option linter.unusedSimpArgs false
set_option linter.unusedVariables false
set_option maxRecDepth 100000
namespace Go.Proofs.YtlckfakifamjiaaDoor
open Go Go.Proofs Go.AW

theorem idx_nat (W y x : Nat) : ((y : Int) * (W : Int) + (x : Int)).toNat = W * y + x := by
  rw [← Int.natCast_mul, ← Int.natCast_add, Int.toNat_natCast, Nat.mul_comm]
theorem mul_nat (W H : Nat) : ((W : Int) * (H : Int)).toNat = W * H := by rw [← Int.natCast_mul, Int.toNat_natCast]
theorem mul_bd {W H : Nat} (hw : W ≤ 10000) (hh : H ≤ 10000) : 0 ≤ (W : Int) * (H : Int) ∧ (W : Int) * (H : Int) ≤ 100000000 := by
  have h1 : W * H ≤ 10000 * 10000 := Nat.mul_le_mul hw hh
  rw [← Int.natCast_mul]; omega
theorem idx_lt {W H x y : Nat} (hx : x < W) (hy : y < H) : W * y + x < W * H := by
  have : W * (y + 1) ≤ W * H := Nat.mul_le_mul_left W hy
  rw [Nat.mul_succ] at this; omega

theorem zero_n (h0 : List AObj) (W H : Nat) (hw : W ≤ 10000) (hh : H ≤ 10000) : SpecTo Tryd.prog 50 [I W, I H] h0 (.agg [I W, I H, .ref h0.length 0 (W * H) (W * H)]) (h0 ++ [⟨4, 1, bools (List.replicate (W * H) false)⟩]) := by
  have hb := mul_bd hw hh
  have := zero_c h0 W H (by omega) (by omega) hb.1 (by omega)
  rwa [mul_nat] at this

theorem set_n (h0 : List AObj) (k n W x y : Nat) (l : List Bool) (hh : Int) (up : Bool) (hk : h0[k]? = some ⟨4, 1, bools l⟩) (hn : l.length = n) (p1 : W * y + x < n) (p2 : n ≤ 100000000) :
    SpecTo Tryd.prog 51 [.agg [I W, I hh, .ref k 0 n n], I x, I y, B up] h0 (.tuple []) (h0.set k ⟨4, 1, bools (l.set (W * y + x) up)⟩) := by
  have e : (y : Int) * (W : Int) = ((W * y : Nat) : Int) := by rw [Int.natCast_mul, Int.mul_comm]
  have := set_c h0 k n l W hh x y up hk hn (by omega) (by omega) (by omega) (by omega) (by omega)
  rwa [idx_nat] at this

/-- A table whose first x columns and, in the next one, first y cells are there. -/
def colN (W : Nat) (u : Nat → Nat → Bool) (n x y : Nat) : List Bool := (List.range n).map fun i => if i % W < x ∨ (i % W = x ∧ i / W < y) then u (i % W) (i / W) else false
theorem colN_len (W : Nat) (u : Nat → Nat → Bool) (n x y : Nat) : (colN W u n x y).length = n := by simp [colN]
theorem colN_zero (W : Nat) (u : Nat → Nat → Bool) (n : Nat) : colN W u n 0 0 = List.replicate n false := by
  apply List.ext_getElem
  · simp [colN]
  · intro i h1 h2; simp [colN]
theorem colN_step (W : Nat) (u : Nat → Nat → Bool) {n x y : Nat} (hx : x < W) : (colN W u n x y).set (W * y + x) (u x y) = colN W u n x (y + 1) := by
  have e1 : (W * y + x) % W = x := by rw [Nat.mul_add_mod]; exact Nat.mod_eq_of_lt hx
  have e2 : (W * y + x) / W = y := by rw [Nat.mul_add_div (by omega), Nat.div_eq_of_lt hx, Nat.add_zero]
  apply List.ext_getElem
  · simp [colN]
  · intro i h1 h2
    rw [List.getElem_set]
    by_cases hi : W * y + x = i
    · subst hi
      rw [if_pos rfl]
      simp [colN, e1, e2]
    · rw [if_neg hi]
      simp only [colN, List.getElem_map, List.getElem_range]
      have hne : ¬ (i % W = x ∧ i / W = y) := by
        rintro ⟨h3, h4⟩
        have := Nat.div_add_mod i W
        rw [h3, h4] at this; omega
      generalize i % W = r at *
      generalize i / W = q at *
      by_cases hc : r < x ∨ (r = x ∧ q < y)
      · rw [if_pos hc, if_pos (by omega)]
      · rw [if_neg hc, if_neg (by omega)]
theorem colN_row (W : Nat) (u : Nat → Nat → Bool) (H x : Nat) : colN W u (W * H) x H = colN W u (W * H) (x + 1) 0 := by
  apply List.map_congr_left
  intro i hi
  have hi' : i < W * H := by simpa using hi
  have := Nat.div_lt_of_lt_mul hi'
  generalize i % W = r at *
  generalize i / W = q at *
  by_cases hc : r < x ∨ (r = x ∧ q < H)
  · rw [if_pos hc, if_pos (by omega)]
  · rw [if_neg hc, if_neg (by omega)]
theorem colN_end (W : Nat) (u : Nat → Nat → Bool) (H : Nat) : colN W u (W * H) W 0 = tabN W u (W * H) := by
  apply List.map_congr_left
  intro i hi
  have hi' : i < W * H := by simpa using hi
  have hW : 0 < W := by
    rcases Nat.eq_zero_or_pos W with h0 | h0
    · subst h0; simp at hi'
    · exact h0
  rw [if_pos (.inl (Nat.mod_lt _ hW))]

end Go.Proofs.YtlckfakifamjiaaDoor

/- Kinds: numbered by first occurrence. Plain. -/
set_option linter.unusedSimpArgs false
set_option linter.unusedVariables false
namespace Go.Proofs.YtlckfakifamjiaaDoor

section
variable {α : Type} [DecidableEq α] {β : Type} [DecidableEq β]

end
end Go.Proofs.YtlckfakifamjiaaDoor

/- The kinds of rows. -/
set_option linter.unusedSimpArgs false
set_option linter.unusedVariables false
set_option maxRecDepth 100000
namespace Go.Proofs.YtlckfakifamjiaaDoor
open Go Go.Proofs Go.AW

end Go.Proofs.YtlckfakifamjiaaDoor

/- The kinds of rows, by the reference. -/
set_option linter.unusedSimpArgs false
set_option linter.unusedVariables false
set_option maxRecDepth 100000
namespace Go.Proofs.YtlckfakifamjiaaDoor
open Go Go.Proofs Go.AW

def nI (l : List Nat) : List Int := l.map fun n : Nat => (n : Int)
theorem nI_len (l : List Nat) : (nI l).length = l.length := by simp [nI]
theorem nI_app (l : List Nat) (n : Nat) : nI (l ++ [n]) = nI l ++ [(n : Int)] := by simp [nI]
theorem nI_get (l : List Nat) (k : Nat) : (nI l).getD k 0 = ((l.getD k 0 : Nat) : Int) := by
  simp only [nI, List.getD_eq_getElem?_getD, List.getElem?_map]
  cases l[k]? <;> rfl
end Go.Proofs.YtlckfakifamjiaaDoor

/- Families of sets as numbers: their digits; what is reached by joining; least lists. Plain. -/
set_option linter.unusedSimpArgs false
set_option linter.unusedVariables false
set_option maxRecDepth 100000
namespace Go.Proofs.YtlckfakifamjiaaDoor
open Go Go.Proofs Go.AW

/-- The digits of a number that are 1. -/
def bitsL (f : Nat) : List Nat := (List.range 16).filter fun i => f.testBit i
theorem mem_bitsL {f i : Nat} : i ∈ bitsL f ↔ i < 16 ∧ f.testBit i = true := by
  simp only [bitsL, List.mem_filter, List.mem_range]
theorem bitsL_inc (f : Nat) : (bitsL f).Pairwise (· < ·) := List.Pairwise.filter _ List.pairwise_lt_range
theorem bitsL_zero : bitsL 0 = [] := by
  unfold bitsL
  rw [List.filter_eq_nil_iff]
  intro i _; simp
/-- The lowest digit that is 1. -/
theorem lowbit : ∀ (k f : Nat), 0 < f → f < 2 ^ k → ∃ z, z < k ∧ f.testBit z = true ∧ (∀ j, j < z → f.testBit j = false) ∧ (∀ i, (f &&& (f - 1)).testBit i = (f.testBit i && decide (i ≠ z))) ∧ f &&& (2 ^ k - f) = 2 ^ z := by
  intro k
  induction k with
  | zero => intro f h1 h2; simp at h2; omega
  | succ k ih =>
    intro f h1 h2
    rw [Nat.pow_succ] at h2
    by_cases he : f % 2 = 0
    · obtain ⟨g, rfl⟩ : ∃ g, f = 2 * g := ⟨f / 2, by omega⟩
      obtain ⟨z, z1, z2, z3, z4, z5⟩ := ih g (by omega) (by omega)
      refine ⟨z + 1, by omega, ?_, ?_, ?_, ?_⟩
      · rw [Nat.testBit_succ, show 2 * g / 2 = g by omega]; exact z2
      · intro j hj
        cases j with
        | zero => rw [Nat.testBit_zero]; simp
        | succ j => rw [Nat.testBit_succ, show 2 * g / 2 = g by omega]; exact z3 j (by omega)
      · intro i
        cases i with
        | zero =>
          rw [Nat.testBit_and, Nat.testBit_zero]
          simp
        | succ i =>
          have := z4 i
          rw [Nat.testBit_and] at this ⊢
          rw [Nat.testBit_succ, Nat.testBit_succ, show 2 * g / 2 = g by omega, show (2 * g - 1) / 2 = g - 1 by omega, this]
          congr 1
          simp only [ne_eq, decide_eq_decide]; omega
      · refine Nat.eq_of_testBit_eq fun i => ?_
        cases i with
        | zero =>
          rw [Nat.testBit_and, Nat.testBit_zero, Nat.testBit_zero, Nat.pow_succ]
          simp
        | succ i =>
          have : (g &&& (2 ^ k - g)).testBit i = (2 ^ z).testBit i := by rw [z5]
          rw [Nat.testBit_and] at this ⊢
          rw [Nat.testBit_succ, Nat.testBit_succ, Nat.testBit_succ, show 2 * g / 2 = g by omega, Nat.pow_succ, Nat.pow_succ, show (2 ^ k * 2 - 2 * g) / 2 = 2 ^ k - g by omega, show 2 ^ z * 2 / 2 = 2 ^ z by omega]
          exact this
    · obtain ⟨g, rfl⟩ : ∃ g, f = 2 * g + 1 := ⟨f / 2, by omega⟩
      refine ⟨0, by omega, ?_, fun j hj => by omega, ?_, ?_⟩
      · rw [Nat.testBit_zero]; simp
      · intro i
        cases i with
        | zero =>
          rw [Nat.testBit_and, Nat.testBit_zero, Nat.testBit_zero]
          simp
        | succ i =>
          rw [Nat.testBit_and, Nat.testBit_succ, Nat.testBit_succ, show (2 * g + 1) / 2 = g by omega, show (2 * g + 1 - 1) / 2 = g by omega]
          simp
      · refine Nat.eq_of_testBit_eq fun i => ?_
        cases i with
        | zero =>
          rw [Nat.testBit_and, Nat.testBit_zero, Nat.testBit_zero, Nat.testBit_zero, Nat.pow_succ]
          have : (2 ^ k * 2 - (2 * g + 1)) % 2 = 1 := by omega
          rw [this]; simp
        | succ i =>
          rw [Nat.testBit_and, Nat.testBit_succ, Nat.testBit_succ, Nat.testBit_succ, Nat.pow_succ, show (2 * g + 1) / 2 = g by omega, show (2 ^ k * 2 - (2 * g + 1)) / 2 = 2 ^ k - (g + 1) by omega, Nat.testBit_two_pow_sub_succ (by omega)]
          cases g.testBit i <;> simp
/-- The digits, the lowest first. -/
theorem bitsL_step {f : Nat} (h0 : 0 < f) (h1 : f < 65536) : ∃ z, z < 16 ∧ bitsL f = z :: bitsL (f &&& (f - 1)) ∧ f &&& (65536 - f) = 2 ^ z := by
  obtain ⟨z, z1, z2, z3, z4, z5⟩ := lowbit 16 f h0 h1
  refine ⟨z, z1, ?_, z5⟩
  obtain ⟨m, hm⟩ : ∃ m, 16 = z + (m + 1) := ⟨16 - z - 1, by omega⟩
  have hr : List.range 16 = List.range z ++ z :: (List.range m).map (z + 1 + ·) := by
    rw [hm, List.range_add, List.range_succ_eq_map, List.map_cons, List.map_map]
    congr 2
    refine List.map_congr_left fun j _ => ?_
    show z + (j + 1) = z + 1 + j
    omega
  have a1 : (List.range z).filter (fun i => f.testBit i) = [] := List.filter_eq_nil_iff.2 fun i hi => by rw [z3 i (List.mem_range.1 hi)]; simp
  have a2 : (List.range z).filter (fun i => (f &&& (f - 1)).testBit i) = [] := List.filter_eq_nil_iff.2 fun i hi => by rw [z4, z3 i (List.mem_range.1 hi)]; simp
  unfold bitsL
  rw [hr, List.filter_append, List.filter_append, a1, a2, List.filter_cons_of_pos z2, List.filter_cons_of_neg (by rw [z4]; simp), List.nil_append, List.nil_append]
  congr 1
  refine List.filter_congr fun i hi => ?_
  simp only [List.mem_map] at hi
  obtain ⟨j, _, rfl⟩ := hi
  rw [z4, decide_eq_true (by omega), Bool.and_true]
/-- What at most k of a list's sets join to. -/
def Rk (tie : List Nat) : Nat → Nat → Prop
  | 0, i => i = 0
  | k + 1, i => Rk tie k i ∨ ∃ x, Rk tie k x ∧ ∃ t ∈ tie, i = x ||| t
theorem Rk_zero (tie : List Nat) : ∀ k, Rk tie k 0
  | 0 => rfl
  | k + 1 => .inl (Rk_zero tie k)
theorem Rk_le {tie : List Nat} {k m : Nat} (h : k ≤ m) {i : Nat} (g : Rk tie k i) : Rk tie m i := by
  induction m with
  | zero => obtain rfl : k = 0 := by omega
            exact g
  | succ m ih =>
    by_cases e : k = m + 1
    · subst e; exact g
    · exact .inl (ih (by omega))
theorem Rk_lt {tie : List Nat} {s : Nat} (h : ∀ t ∈ tie, t < 2 ^ s) : ∀ k i, Rk tie k i → i < 2 ^ s
  | 0, i, g => by
    have : i = 0 := g
    subst this; exact Nat.two_pow_pos s
  | k + 1, i, g => by
    rcases g with g | ⟨x, g, t, ht, e⟩
    · exact Rk_lt h k i g
    · subst e; exact Nat.or_lt_two_pow (Rk_lt h k x g) (h t ht)
theorem Rk_one {tie : List Nat} {i : Nat} : Rk tie 1 i ↔ i = 0 ∨ i ∈ tie := by
  constructor
  · rintro (g | ⟨x, g, t, ht, e⟩)
    · exact .inl g
    · have : x = 0 := g
      subst this
      rw [Nat.zero_or] at e
      exact .inr (e ▸ ht)
  · rintro (g | g)
    · exact .inl g
    · exact .inr ⟨0, rfl, i, g, by rw [Nat.zero_or]⟩
/-- It covers these lifts. -/
def Cov (tie lifts : List Nat) (feet : Nat) : Prop := ∀ x ∈ lifts, Rk tie feet x
/-- Ahead of it, by their elements. -/
def lexlt : List Nat → List Nat → Prop
  | [], [] => False
  | [], _ :: _ => True
  | _ :: _, [] => False
  | a :: x, b :: y => a < b ∨ a = b ∧ lexlt x y
theorem lexlt_irr : ∀ a, ¬ lexlt a a
  | [] => id
  | a :: x => by
    rintro (h | ⟨_, h⟩)
    · omega
    · exact lexlt_irr x h
theorem lexlt_trans : ∀ {a b c : List Nat}, lexlt a b → lexlt b c → lexlt a c
  | [], [], _, h, _ => h.elim
  | [], _ :: _, [], _, h => h.elim
  | [], _ :: _, _ :: _, _, _ => trivial
  | _ :: _, [], _, h, _ => h.elim
  | _ :: _, _ :: _, [], _, h => h.elim
  | a :: x, b :: y, c :: z, h, g => by
    rcases h with h | ⟨h1, h2⟩
    · rcases g with g | ⟨g1, g2⟩
      · exact .inl (by omega)
      · exact .inl (by omega)
    · rcases g with g | ⟨g1, g2⟩
      · exact .inl (by omega)
      · exact .inr ⟨by omega, lexlt_trans h2 g2⟩
theorem lexlt_total : ∀ (a b : List Nat), lexlt a b ∨ a = b ∨ lexlt b a
  | [], [] => .inr (.inl rfl)
  | [], _ :: _ => .inl trivial
  | _ :: _, [] => .inr (.inr trivial)
  | a :: x, b :: y => by
    rcases Nat.lt_trichotomy a b with h | h | h
    · exact .inl (.inl h)
    · subst h
      rcases lexlt_total x y with g | g | g
      · exact .inl (.inr ⟨rfl, g⟩)
      · subst g; exact .inr (.inl rfl)
      · exact .inr (.inr (.inr ⟨rfl, g⟩))
    · exact .inr (.inr (.inl h))
/-- Fewer, or as many and ahead. -/
def btr (a b : List Nat) : Prop := a.length < b.length ∨ a.length = b.length ∧ lexlt a b
theorem btr_irr (a : List Nat) : ¬ btr a a := by
  rintro (h | ⟨_, h⟩)
  · omega
  · exact lexlt_irr a h
theorem btr_trans {a b c : List Nat} (h : btr a b) (g : btr b c) : btr a c := by
  rcases h with h | ⟨h1, h2⟩
  · rcases g with g | ⟨g1, g2⟩ <;> exact .inl (by omega)
  · rcases g with g | ⟨g1, g2⟩
    · exact .inl (by omega)
    · exact .inr ⟨by omega, lexlt_trans h2 g2⟩
theorem btr_total (a b : List Nat) : btr a b ∨ a = b ∨ btr b a := by
  rcases Nat.lt_trichotomy a.length b.length with h | h | h
  · exact .inl (.inl h)
  · rcases lexlt_total a b with g | g | g
    · exact .inl (.inr ⟨h, g⟩)
    · exact .inr (.inl g)
    · exact .inr (.inr (.inr ⟨h.symm, g⟩))
  · exact .inr (.inr (.inl h))
/-- A tie-up. -/
def Tie (s : Nat) (u : List Nat) : Prop := u.Pairwise (· < ·) ∧ ∀ x ∈ u, 0 < x ∧ x < 2 ^ s
theorem tie_bits {s g : Nat} (he : g % 2 = 0) (hg : g < 2 ^ (2 ^ s)) : Tie s (bitsL g) := by
  refine ⟨bitsL_inc g, fun x hx => ?_⟩
  obtain ⟨h1, h2⟩ := mem_bitsL.1 hx
  constructor
  · refine Nat.pos_of_ne_zero fun e => ?_
    subst e
    rw [Nat.testBit_zero] at h2
    simp [he] at h2
  · refine Nat.lt_of_not_le fun hle => ?_
    rw [Nat.testBit_lt_two_pow (Nat.lt_of_lt_of_le hg (Nat.pow_le_pow_right (by omega) hle))] at h2
    cases h2
/-- Each tie-up is a family. -/
def famN : List Nat → Nat
  | [] => 0
  | x :: r => 2 ^ x ||| famN r
theorem famN_bit : ∀ (u : List Nat) (i : Nat), (famN u).testBit i = true ↔ i ∈ u
  | [], i => by simp [famN]
  | x :: r, i => by
    simp only [famN]
    rw [Nat.testBit_or, Bool.or_eq_true, famN_bit r i, Nat.testBit_two_pow, List.mem_cons]
    simp only [decide_eq_true_eq]
    constructor
    · rintro (h | h)
      · exact .inl h.symm
      · exact .inr h
    · rintro (h | h)
      · exact .inl h.symm
      · exact .inr h
theorem famN_ok {s : Nat} (hs : s ≤ 4) {u : List Nat} (hu : Tie s u) : famN u % 2 = 0 ∧ famN u < 2 ^ (2 ^ s) ∧ bitsL (famN u) = u := by
  have hs16 : 2 ^ s ≤ 16 := by
    have := Nat.pow_le_pow_right (show 0 < 2 by omega) hs
    simpa using this
  refine ⟨?_, ?_, ?_⟩
  · have h0 : ¬ (famN u).testBit 0 = true := fun h => by
      have := (hu.2 0 ((famN_bit u 0).1 h)).1; omega
    rw [Nat.testBit_zero] at h0
    simp at h0; omega
  · refine Nat.lt_pow_two_of_testBit _ fun i hi => ?_
    cases h : (famN u).testBit i with
    | false => rfl
    | true => have := (hu.2 i ((famN_bit u i).1 h)).2; omega
  · have hmem : ∀ x, x ∈ bitsL (famN u) ↔ x ∈ u := fun x => by
      rw [mem_bitsL, famN_bit]
      exact ⟨fun h => h.2, fun h => ⟨by have := (hu.2 x h).2; omega, h⟩⟩
    have key : nI (bitsL (famN u)) = nI u := by
      refine sinc_ext _ _ ?_ ?_ fun x => ?_
      · unfold nI; rw [List.pairwise_map]; exact (bitsL_inc _).imp fun h => by omega
      · unfold nI; rw [List.pairwise_map]; exact hu.1.imp fun h => by omega
      · unfold nI
        simp only [List.mem_map]
        constructor
        · rintro ⟨a, ha, rfl⟩; exact ⟨a, (hmem a).1 ha, rfl⟩
        · rintro ⟨a, ha, rfl⟩; exact ⟨a, (hmem a).2 ha, rfl⟩
    have : ∀ a b : List Nat, nI a = nI b → a = b := by
      intro a
      induction a with
      | nil => intro b h; cases b with | nil => rfl | cons y b => simp [nI] at h
      | cons x a ih =>
        intro b h
        cases b with
        | nil => simp [nI] at h
        | cons y b =>
          simp only [nI, List.map_cons, List.cons.injEq] at h
          have h1 : x = y := by omega
          rw [h1, ih b h.2]
    exact this _ _ key
/-- The least tie-up. -/
structure Lst (s : Nat) (lifts : List Nat) (feet : Nat) (u : List Nat) : Prop where
  tie : Tie s u
  cov : Cov u lifts feet
  min : ∀ v, Tie s v → Cov v lifts feet → ¬ btr v u
theorem lst_unique {s : Nat} {lifts : List Nat} {feet : Nat} {u v : List Nat} (hu : Lst s lifts feet u) (hv : Lst s lifts feet v) : u = v := by
  rcases btr_total u v with h | h | h
  · exact absurd h (hv.min u hu.tie hu.cov)
  · exact h
  · exact absurd h (hu.min v hv.tie hv.cov)
end Go.Proofs.YtlckfakifamjiaaDoor

/- Least lists: more feet, fewer lifts. Plain. -/
set_option linter.unusedSimpArgs false
set_option linter.unusedVariables false
set_option maxRecDepth 100000
namespace Go.Proofs.YtlckfakifamjiaaDoor
open Go Go.Proofs Go.AW

def joinL : List Nat → Nat
  | [] => 0
  | t :: r => joinL r ||| t
/-- The lifts that are not empty. -/
def nzL (s : Nat) (lifts : List Nat) : List Nat := (List.range (2 ^ s)).filter fun x => decide (0 < x ∧ x ∈ lifts)
theorem mem_nz {s : Nat} {lifts : List Nat} {x : Nat} : x ∈ nzL s lifts ↔ x < 2 ^ s ∧ 0 < x ∧ x ∈ lifts := by
  simp only [nzL, List.mem_filter, List.mem_range, decide_eq_true_eq]
theorem nz_tie (s : Nat) (lifts : List Nat) : Tie s (nzL s lifts) :=
  ⟨List.Pairwise.filter _ List.pairwise_lt_range, fun x hx => ⟨(mem_nz.1 hx).2.1, (mem_nz.1 hx).1⟩⟩
end Go.Proofs.YtlckfakifamjiaaDoor

/- The least lists of the examples. Plain. -/
set_option linter.unusedSimpArgs false
set_option linter.unusedVariables false
set_option maxRecDepth 100000
namespace Go.Proofs.YtlckfakifamjiaaDoor
open Go Go.Proofs Go.AW

end Go.Proofs.YtlckfakifamjiaaDoor

/- Operations on small numbers, digit by digit. -/
set_option linter.unusedSimpArgs false
set_option linter.unusedVariables false
set_option maxRecDepth 100000
namespace Go.Proofs.YtlckfakifamjiaaDoor
open Go Go.Proofs Go.AW

section
variable {fb fn ff fl fz : Operand → Bool} {fD : Nat → Bool} {fy : Option (Value × (List AVal → List AObj → List AObj → Prop))} {P : Program} {dst : Option Tmp} {ty : TypeId} {pos : String} {after : Array Edge} {g : Option (Nat × Bool)} {ρ : Operand → AVal} {h : List AObj} {K : AVal → List AObj → Prop}
theorem opK_neg (t : TypeId) (x : Operand) : @opK P ⟨fb, fn, ff, fl, fD, fz, fy⟩ ⟨dst, .unOp .neg t x, ty, pos, after, g⟩ ρ h K = @bindK _ (match ρ x with | .val (.int k n) => some (.val (.int k (k.wrap (0 - n)))) | _ => none : Option AVal) ⟨fun v => K v h⟩ := by
  rw [opK_unOp]
  cases ρ x with
  | val v => cases v <;> rfl
  | _ => rfl
theorem opK_index (t : TypeId) (x i : Operand) : @opK P ⟨fb, fn, ff, fl, fD, fz, fy⟩ ⟨dst, .index t x i, ty, pos, after, g⟩ ρ h K = @bindK _ (aIndex P t (ρ x) (ρ i)) ⟨fun v => K v h⟩ := opK_pure rfl rfl rfl rfl
end
theorem aBin_shr (P : Program) (t : TypeId) (k k' : IntKind) (a b : Int) : aBin P t .shr (.val (.int k a)) (.val (.int k' b)) = aInt .shr k a b := by simp [aBin, isShift]
theorem aBin_shl (P : Program) (t : TypeId) (k k' : IntKind) (a b : Int) : aBin P t .shl (.val (.int k a)) (.val (.int k' b)) = aInt .shl k a b := by simp [aBin, isShift]
theorem wr16 {n : Nat} (h : n < 65536) : IntKind.u16.wrap (n : Int) = n := by
  have e1 : IntKind.u16.bits = 16 := rfl
  have e2 : IntKind.u16.signed = false := rfl
  simp only [IntKind.wrap, e1, e2]
  simp
  omega
theorem wr64 {n : Nat} (h : n < 1000000) : IntKind.i64.wrap (n : Int) = n := wrap_id (by omega) (by omega)
theorem wrU {n : Nat} (h : n < 1000000) : IntKind.u64.wrap (n : Int) = n := by
  have e1 : IntKind.u64.bits = 64 := rfl
  have e2 : IntKind.u64.signed = false := rfl
  simp only [IntKind.wrap, e1, e2]
  simp
  omega
theorem ofI16 {n : Nat} : BitVec.ofInt 16 (n : Int) = BitVec.ofNat 16 n := BitVec.ofInt_natCast 16 n
theorem ofI64 {n : Nat} : BitVec.ofInt 64 (n : Int) = BitVec.ofNat 64 n := BitVec.ofInt_natCast 64 n
theorem and16 {x y : Nat} (hx : x < 65536) (hy : y < 65536) : aInt .and .u16 (x : Int) (y : Int) = some (.val (.int .u16 ((x &&& y : Nat) : Int))) := by
  show some (AVal.val (.int .u16 (IntKind.u16.wrap ((BitVec.ofInt 16 (x : Int) &&& BitVec.ofInt 16 (y : Int)).toNat)))) = _
  rw [ofI16, ofI16, BitVec.toNat_and, BitVec.toNat_ofNat, BitVec.toNat_ofNat, Nat.mod_eq_of_lt (by omega), Nat.mod_eq_of_lt (by omega), wr16 (Nat.lt_of_le_of_lt Nat.and_le_left hx)]
theorem or16 {x y : Nat} (hx : x < 65536) (hy : y < 65536) : aInt .or .u16 (x : Int) (y : Int) = some (.val (.int .u16 ((x ||| y : Nat) : Int))) := by
  show some (AVal.val (.int .u16 (IntKind.u16.wrap ((BitVec.ofInt 16 (x : Int) ||| BitVec.ofInt 16 (y : Int)).toNat)))) = _
  rw [ofI16, ofI16, BitVec.toNat_or, BitVec.toNat_ofNat, BitVec.toNat_ofNat, Nat.mod_eq_of_lt (by omega), Nat.mod_eq_of_lt (by omega), wr16 (Nat.or_lt_two_pow (n := 16) hx hy)]
theorem or64 {x y : Nat} (hx : x < 16) (hy : y < 16) : aInt .or .i64 (x : Int) (y : Int) = some (.val (.int .i64 ((x ||| y : Nat) : Int))) := by
  show some (AVal.val (.int .i64 (IntKind.i64.wrap ((BitVec.ofInt 64 (x : Int) ||| BitVec.ofInt 64 (y : Int)).toNat)))) = _
  rw [ofI64, ofI64, BitVec.toNat_or, BitVec.toNat_ofNat, BitVec.toNat_ofNat, Nat.mod_eq_of_lt (by omega), Nat.mod_eq_of_lt (by omega), wr64 (Nat.lt_of_lt_of_le (Nat.or_lt_two_pow (n := 4) hx hy) (by omega))]
theorem and16_1 {x : Nat} (hx : x < 65536) : aInt .and .u16 (x : Int) 1 = some (.val (.int .u16 ((x % 2 : Nat) : Int))) := by
  have := and16 (x := x) (y := 1) hx (by omega)
  rwa [Nat.and_one_is_mod] at this
theorem and16_255 {x : Nat} (hx : x < 65536) : aInt .and .u16 (x : Int) 255 = some (.val (.int .u16 ((x % 256 : Nat) : Int))) := by
  have := and16 (x := x) (y := 255) hx (by omega)
  rwa [show x &&& 255 = x % 256 from Nat.and_two_pow_sub_one_eq_mod x 8] at this
theorem shr16 {x n : Nat} (hn : n ≤ 16) : aInt .shr .u16 (x : Int) (n : Int) = some (.val (.int .u16 ((x / 2 ^ n : Nat) : Int))) := by
  have e : (min (Int.toNat (n : Int)) IntKind.u16.bits) = n := by
    rw [Int.toNat_natCast, show IntKind.u16.bits = 16 from rfl]; omega
  show (if (n : Int) < 0 then none else some _) = _
  rw [if_neg (by omega), e, show ((2 : Int) ^ n) = ((2 ^ n : Nat) : Int) by norm_cast, Int.fdiv_eq_ediv_of_nonneg _ (Int.natCast_nonneg _)]
  rfl
theorem shr16_8 {x : Nat} : aInt .shr .u16 (x : Int) 8 = some (.val (.int .u16 ((x / 256 : Nat) : Int))) := shr16 (x := x) (n := 8) (by omega)
theorem shl16 {n : Nat} (hn : n < 16) : aInt .shl .u16 1 (n : Int) = some (.val (.int .u16 ((2 ^ n : Nat) : Int))) := by
  have e : (min (Int.toNat (n : Int)) IntKind.u16.bits) = n := by
    rw [Int.toNat_natCast, show IntKind.u16.bits = 16 from rfl]; omega
  show (if (n : Int) < 0 then none else some _) = _
  rw [if_neg (by omega), e, Int.one_mul, show ((2 : Int) ^ n) = ((2 ^ n : Nat) : Int) by norm_cast, wr16 (by
    have := Nat.pow_lt_pow_right (show 1 < 2 by omega) hn
    simpa using this)]
theorem shl64 {n : Nat} (hn : n ≤ 16) : aInt .shl .i64 1 (n : Int) = some (.val (.int .i64 ((2 ^ n : Nat) : Int))) := by
  have e : (min (Int.toNat (n : Int)) IntKind.i64.bits) = n := by
    rw [Int.toNat_natCast, show IntKind.i64.bits = 64 from rfl]; omega
  show (if (n : Int) < 0 then none else some _) = _
  have h16 : 2 ^ n ≤ 2 ^ 16 := Nat.pow_le_pow_right (by omega) hn
  rw [if_neg (by omega), e, Int.one_mul, show ((2 : Int) ^ n) = ((2 ^ n : Nat) : Int) by norm_cast, wr64 (by omega)]
theorem shlU {n : Nat} (hn : n ≤ 16) : aInt .shl .u64 1 (n : Int) = some (.val (.int .u64 ((2 ^ n : Nat) : Int))) := by
  have e : (min (Int.toNat (n : Int)) IntKind.u64.bits) = n := by
    rw [Int.toNat_natCast, show IntKind.u64.bits = 64 from rfl]; omega
  show (if (n : Int) < 0 then none else some _) = _
  have h16 : 2 ^ n ≤ 2 ^ 16 := Nat.pow_le_pow_right (by omega) hn
  rw [if_neg (by omega), e, Int.one_mul, show ((2 : Int) ^ n) = ((2 ^ n : Nat) : Int) by norm_cast, wrU (by omega)]
def andn (a b : Nat) : Nat := (BitVec.ofNat 16 a &&& ~~~ BitVec.ofNat 16 b).toNat
theorem andn16 {x y : Nat} : aInt .andNot .u16 (x : Int) (y : Int) = some (.val (.int .u16 ((andn x y : Nat) : Int))) := by
  show some (AVal.val (.int .u16 (IntKind.u16.wrap ((BitVec.ofInt 16 (x : Int) &&& ~~~ BitVec.ofInt 16 (y : Int)).toNat)))) = _
  rw [ofI16, ofI16, wr16 (BitVec.isLt _)]; rfl
theorem andn_zero {x y : Nat} (hx : x < 65536) : andn x y = 0 ↔ ∀ i, x.testBit i = true → y.testBit i = true := by
  have hb : ∀ i, (andn x y).testBit i = (decide (i < 16) && (x.testBit i && !y.testBit i)) := fun i => by
    unfold andn
    rw [BitVec.testBit_toNat, BitVec.getLsbD_and, BitVec.getLsbD_not, BitVec.getLsbD_ofNat, BitVec.getLsbD_ofNat]
    by_cases h : i < 16
    · simp [h]
    · simp [h]
  constructor
  · intro h i hi
    have := hb i
    rw [h, Nat.zero_testBit, hi] at this
    have hlt : i < 16 := Nat.lt_of_not_le fun hle => by
      rw [Nat.testBit_lt_two_pow (Nat.lt_of_lt_of_le (show x < 2 ^ 16 from hx) (Nat.pow_le_pow_right (by omega) hle))] at hi
      cases hi
    rw [decide_eq_true hlt] at this
    cases hy : y.testBit i with
    | true => rfl
    | false => rw [hy] at this; cases this
  · intro h
    refine Nat.eq_of_testBit_eq fun i => ?_
    rw [hb, Nat.zero_testBit]
    cases hx : x.testBit i with
    | false => simp
    | true => rw [h i hx]; simp
theorem kU16 : ∃ T, tyI Tryd.prog 64 = some T ∧ T.kind = some .u16 := by
  have h : (tyI Tryd.prog 64).any (fun T => T.kind == some .u16) = true := by kernel_rfl
  revert h
  cases tyI Tryd.prog 64 with
  | none => intro h; cases h
  | some T => intro h; exact ⟨T, rfl, by simpa using h⟩
theorem kU32 : ∃ T, tyI Tryd.prog 134 = some T ∧ T.kind = some .u32 := by
  have h : (tyI Tryd.prog 134).any (fun T => T.kind == some .u32) = true := by kernel_rfl
  revert h
  cases tyI Tryd.prog 134 with
  | none => intro h; cases h
  | some T => intro h; exact ⟨T, rfl, by simpa using h⟩
theorem kU8 : ∃ T, tyI Tryd.prog 5 = some T ∧ T.kind = some .u8 := by
  have h : (tyI Tryd.prog 5).any (fun T => T.kind == some .u8) = true := by kernel_rfl
  revert h
  cases tyI Tryd.prog 5 with
  | none => intro h; cases h
  | some T => intro h; exact ⟨T, rfl, by simpa using h⟩
theorem kInt : ∃ T, tyI Tryd.prog 3 = some T ∧ T.kind = some .i64 := by
  have h : (tyI Tryd.prog 3).any (fun T => T.kind == some .i64) = true := by kernel_rfl
  revert h
  cases tyI Tryd.prog 3 with
  | none => intro h; cases h
  | some T => intro h; exact ⟨T, rfl, by simpa using h⟩
theorem kFam : ∃ T, tyI Tryd.prog 65 = some T ∧ T.kind = some .u16 := by
  have h : (tyI Tryd.prog 65).any (fun T => T.kind == some .u16) = true := by kernel_rfl
  revert h
  cases tyI Tryd.prog 65 with
  | none => intro h; cases h
  | some T => intro h; exact ⟨T, rfl, by simpa using h⟩
theorem kStr : ∃ T, tyI Tryd.prog 9 = some T ∧ T.isStr = true := by
  have h : (tyI Tryd.prog 9).any (fun T => T.isStr) = true := by kernel_rfl
  revert h
  cases tyI Tryd.prog 9 with
  | none => intro h; cases h
  | some T => intro h; exact ⟨T, rfl, by simpa using h⟩
/-- Where the table of lowest digits has z. -/
def dbI (z : Nat) : Nat := 2 ^ z * 125613361 % 4294967296 / 134217728
theorem dbI_lt : ∀ z, z < 16 → dbI z < 32 := by decide
theorem db_shr (P : Program) (t : TypeId) {z : Nat} (hz : z < 16) : aBin P t .shr (.val (.int .u32 (IntKind.u32.wrap (IntKind.u32.wrap ((2 ^ z : Nat) : Int) * 125613361)))) (.val (.int .u64 27)) = some (.val (.int .u32 (dbI z : Int))) := by
  rw [aBin_shr]
  have hp : 2 ^ z < 65536 := Nat.pow_lt_pow_right (show 1 < 2 by omega) hz
  unfold dbI
  generalize 2 ^ z = x at *
  have w1 : IntKind.u32.wrap ((x : Nat) : Int) = x := by
    have e1 : IntKind.u32.bits = 32 := rfl
    have e2 : IntKind.u32.signed = false := rfl
    simp only [IntKind.wrap, e1, e2]
    simp
    omega
  have w2 : IntKind.u32.wrap ((x : Int) * 125613361) = ((x * 125613361 % 4294967296 : Nat) : Int) := by
    have e1 : IntKind.u32.bits = 32 := rfl
    have e2 : IntKind.u32.signed = false := rfl
    simp only [IntKind.wrap, e1, e2]
    simp
  rw [w1, w2]
  generalize x * 125613361 % 4294967296 = y
  show (if (27 : Int) < 0 then none else some _) = _
  rw [if_neg (by omega), show (min (Int.toNat 27) IntKind.u32.bits) = 27 from rfl, show ((2 : Int) ^ 27) = ((134217728 : Nat) : Int) by rfl, Int.fdiv_eq_ediv_of_nonneg _ (Int.natCast_nonneg _)]
  rfl
/-- The table of lowest digits. -/
def DB : List AVal := match lookT tabs 0 with | some cs => cs.map .val | none => []
theorem dbZ {z : Nat} (hz : z < 16) : (DB.drop (dbI z))[0]? = some (.val (.int .u8 (z : Int))) := by
  have : z = 0 ∨ z = 1 ∨ z = 2 ∨ z = 3 ∨ z = 4 ∨ z = 5 ∨ z = 6 ∨ z = 7 ∨ z = 8 ∨ z = 9 ∨ z = 10 ∨ z = 11 ∨ z = 12 ∨ z = 13 ∨ z = 14 ∨ z = 15 := by omega
  rcases this with rfl | rfl | rfl | rfl | rfl | rfl | rfl | rfl | rfl | rfl | rfl | rfl | rfl | rfl | rfl | rfl <;> rfl
theorem dbT : ∃ T E, tyI Tryd.prog 137 = some T ∧ T.elem = none ∧ T.arr = some (32, 5) ∧ tyI Tryd.prog 5 = some E ∧ E.size = 1 := by
  have h : (tyI Tryd.prog 137).any (fun T => T.elem.isNone && (T.arr == some (32, 5)) && (tyI Tryd.prog 5).any fun E => E.size == 1) = true := by kernel_rfl
  revert h
  cases tyI Tryd.prog 137 with
  | none => intro h; cases h
  | some T =>
    cases tyI Tryd.prog 5 with
    | none => intro h; simp at h
    | some E =>
      intro h
      simp only [Option.any_some, Bool.and_eq_true, beq_iff_eq, Option.isNone_iff_eq_none] at h
      exact ⟨T, E, rfl, h.1.1, h.1.2, rfl, h.2⟩
theorem dbAt (env : List (Nat × AVal)) (h : List AObj) {m : Nat} (hm : m < 32) (k : IntKind) : aIdx Tryd.prog 137 h (ev env (.global 0)) (.val (.int k (m : Int))) = some (.spot false (DB.drop m)) := by
  obtain ⟨T, E, h1, h2, h3, h4, h5⟩ := dbT
  show aIdx Tryd.prog 137 h (.spot false DB) (.val (.int k (m : Int))) = _
  simp only [aIdx, h1, h2, h3, h4, h5, Nat.mul_one, Int.toNat_natCast]
  rw [if_pos ⟨by omega, by omega⟩]
def chkPop (s : ByteArray) : Bool := (List.range 256).all fun n => match s[n]? with | some b => Nat.beq b.toNat (bitsL n).length | none => false
theorem idxPop {P : Program} {t : TypeId} {T : TyI} (hT : tyI P t = some T) (hs : T.isStr = true) {s : ByteArray} (hc : chkPop s = true) {k : IntKind} {n : Nat} (hn : n < 256) : aIndex P t (ofConst (.string s)) (.val (.int k (n : Int))) = some (.val (.int .u8 (((bitsL n).length : Nat) : Int))) := by
  have h := List.all_eq_true.1 hc n (List.mem_range.2 hn)
  show aIndex P t (.val (.string s)) (.val (.int k (n : Int))) = _
  simp only [aIndex, hT, Int.toNat_natCast]
  rw [if_pos ⟨hs, by omega⟩]
  cases hb : s[n]? with
  | none => rw [hb] at h; cases h
  | some b =>
    rw [hb] at h
    have e : b.toNat = (bitsL n).length := Nat.eq_of_beq_eq_true h
    rw [Option.map_some, e]
end Go.Proofs.YtlckfakifamjiaaDoor

/- The library's counting of digits. -/
set_option linter.unusedSimpArgs false
set_option linter.unusedVariables false
set_option maxRecDepth 100000
namespace Go.Proofs.YtlckfakifamjiaaDoor
open Go Go.Proofs Go.AW
theorem pop_split (f : Nat) (hf : f < 65536) : (bitsL f).length = (bitsL (f / 256)).length + (bitsL (f % 256)).length := by
  have e1 : (bitsL f).length = (List.range 16).countP fun i => f.testBit i := by unfold bitsL; rw [List.countP_eq_length_filter]
  have e2 : (bitsL (f / 256)).length = (List.range 16).countP fun i => (f / 256).testBit i := by unfold bitsL; rw [List.countP_eq_length_filter]
  have e3 : (bitsL (f % 256)).length = (List.range 16).countP fun i => (f % 256).testBit i := by unfold bitsL; rw [List.countP_eq_length_filter]
  have h1 : ∀ i, (f / 256).testBit i = f.testBit (i + 8) := fun i => by rw [show f / 256 = f / 2 ^ 8 from rfl, Nat.testBit_div_two_pow]
  have h2 : ∀ i, (f % 256).testBit i = (decide (i < 8) && f.testBit i) := fun i => Nat.testBit_mod_two_pow f 8 i
  have hz : ∀ i, 16 ≤ i → f.testBit i = false := fun i hi => Nat.testBit_lt_two_pow (Nat.lt_of_lt_of_le (show f < 2 ^ 16 from hf) (Nat.pow_le_pow_right (by omega) hi))
  rw [e1, e2, e3]
  simp only [h1, h2]
  have hr : List.range 16 = [0, 1, 2, 3, 4, 5, 6, 7, 8, 9, 10, 11, 12, 13, 14, 15] := rfl
  rw [hr]
  simp only [List.countP_cons, List.countP_nil, hz (8 + 8) (by omega), hz (9 + 8) (by omega), hz (10 + 8) (by omega), hz (11 + 8) (by omega), hz (12 + 8) (by omega), hz (13 + 8) (by omega), hz (14 + 8) (by omega), hz (15 + 8) (by omega)]
  simp
  omega
theorem ones_c (f : Nat) (hf : f < 65536) : Contract Tryd.prog 44 [.val (.int .u16 f)] (I (bitsL f).length) := by
  obtain ⟨T9, hT9, hs9⟩ := kStr
  obtain ⟨T3, hT3, hk3⟩ := kInt
  obtain ⟨T5, hT5, hk5⟩ := kU8
  have hp := pop_split f hf
  have h1 : (bitsL (f / 256)).length ≤ 16 := by unfold bitsL; exact Nat.le_trans (List.length_filter_le _ _) (by simp)
  have h2 : (bitsL (f % 256)).length ≤ 16 := by unfold bitsL; exact Nat.le_trans (List.length_filter_le _ _) (by simp)
  have e1 : IntKind.u8.wrap (((bitsL (f / 256)).length : Int) + ((bitsL (f % 256)).length : Int)) = ((bitsL f).length : Int) := by
    have e1 : IntKind.u8.bits = 8 := rfl
    have e2 : IntKind.u8.signed = false := rfl
    simp only [IntKind.wrap, e1, e2]
    simp
    omega
  have e2 : IntKind.i64.wrap ((bitsL f).length : Int) = ((bitsL f).length : Int) := wr64 (by omega)
  refine Contract.intro (effS [] false) 6 follows Tryd.func44 rfl rfl (by kernel_rfl) (Nat.le_of_ble_eq_true rfl) ?_
  simp (disch := first | assumption | omega | rfl | simp only [RH]) only [↓RP, RG, FX, RQ, ↓reduceIte, Nat.reduceEqDiff, reduceCtorEq, Nat.reduceBEq, Nat.reduceAdd, Nat.reduceLeDiff, args0_1, aBin_shr, shr16_8, and16_255, opK_index]
  rw [idxPop hT9 hs9 (by kernel_rfl) (show f / 256 < 256 by omega)]
  simp (disch := first | assumption | omega | rfl | simp only [RH]) only [↓RP, RG, FX, RQ, ↓reduceIte, Nat.reduceEqDiff, reduceCtorEq, Nat.reduceBEq, Nat.reduceAdd, Nat.reduceLeDiff, opK_index]
  rw [idxPop hT9 hs9 (by kernel_rfl) (show f % 256 < 256 by omega)]
  simp (disch := first | assumption | omega | rfl | simp only [RH]) only [↓RP, RG, FX, RQ, ↓reduceIte, Nat.reduceEqDiff, reduceCtorEq, Nat.reduceBEq, Nat.reduceAdd, Nat.reduceLeDiff, e1, e2, hT5, hT3, hk3]
  rw [resVal_1 rfl]; simp (disch := first | assumption | omega | rfl | simp only [RH]) only [↓RP, RG, FX, RQ, ↓reduceIte, Nat.reduceEqDiff, reduceCtorEq, Nat.reduceBEq, Nat.reduceAdd, Nat.reduceLeDiff, RS]
theorem tz_c (f : Nat) (h0 : 0 < f) (hf : f < 65536) {z : Nat} (hz : f &&& (65536 - f) = 2 ^ z) (hz16 : z < 16) : Contract Tryd.prog 71 [.val (.int .u16 f)] (I z) := by
  obtain ⟨T41, hT41, hk41⟩ := kU16
  obtain ⟨T56, hT56, hk56⟩ := kU32
  obtain ⟨T5, hT5, hk5⟩ := kU8
  obtain ⟨T3, hT3, hk3⟩ := kInt
  have e1 : IntKind.u16.wrap (0 - (f : Int)) = ((65536 - f : Nat) : Int) := by
    have e1 : IntKind.u16.bits = 16 := rfl
    have e2 : IntKind.u16.signed = false := rfl
    simp only [IntKind.wrap, e1, e2]
    simp
    omega
  have e2 := and16 (x := f) (y := 65536 - f) hf (by omega)
  rw [hz] at e2
  refine Contract.intro (effS [] false) 6 follows Tryd.func71 rfl rfl (by kernel_rfl) (Nat.le_of_ble_eq_true rfl) ?_
  simp (disch := first | assumption | omega | rfl | simp only [RH]) only [↓RP, RG, FX, RQ, ↓reduceIte, Nat.reduceEqDiff, reduceCtorEq, Nat.reduceBEq, Nat.reduceAdd, Nat.reduceLeDiff, args0_1, opK_neg, e1, e2, hT41, hT56, hk56]
  rw [db_shr _ _ hz16]
  have hdl := dbI_lt z hz16
  have hdz := dbZ hz16
  generalize dbI z = m at *
  have ha5 : agT Tryd.prog 5 = some (false, 1) := by kernel_rfl
  have hw : IntKind.i64.wrap (z : Int) = z := wr64 (by omega)
  simp (disch := first | assumption | omega | rfl | simp only [RH]) only [↓RP, RG, FX, RQ, ↓reduceIte, Nat.reduceEqDiff, reduceCtorEq, Nat.reduceBEq, Nat.reduceAdd, Nat.reduceLeDiff, dbAt, ha5, pX_one, hdz, hT5, hT3, hk3, hw]
  rw [resVal_1 rfl]; simp (disch := first | assumption | omega | rfl | simp only [RH]) only [↓RP, RG, FX, RQ, ↓reduceIte, Nat.reduceEqDiff, reduceCtorEq, Nat.reduceBEq, Nat.reduceAdd, Nat.reduceLeDiff, RS]
theorem cnan_c (x : Int) : Contract Tryd.prog 99 [I x] (B false) := by
  refine Contract.intro (effS [] false) 6 follows Tryd.func99 rfl rfl (by kernel_rfl) (Nat.le_of_ble_eq_true rfl) ?_
  simp (disch := first | assumption | omega | rfl | simp only [RH]) only [↓RP, RG, FX, RQ, ↓reduceIte, Nat.reduceEqDiff, reduceCtorEq, Nat.reduceBEq, Nat.reduceAdd, Nat.reduceLeDiff, args0_1]
  rw [resVal_1 rfl]; simp (disch := first | assumption | omega | rfl | simp only [RH]) only [↓RP, RG, FX, RQ, ↓reduceIte, Nat.reduceEqDiff, reduceCtorEq, Nat.reduceBEq, Nat.reduceAdd, Nat.reduceLeDiff, RS]
  first | done | simp
/-- The sign of a comparison of numbers. -/
def sg (x y : Int) : Int := if x < y then -1 else if y < x then 1 else 0
theorem ccmp_c (x y : Int) : Contract Tryd.prog 72 [I x, I y] (I (sg x y)) := by
  unfold sg
  refine Contract.intro (effS [] false) 6 follows Tryd.func72 rfl rfl (by kernel_rfl) (Nat.le_of_ble_eq_true rfl) ?_
  simp (disch := first | assumption | omega | rfl | simp only [RH]) only [↓RP, RG, FX, RQ, ↓reduceIte, Nat.reduceEqDiff, reduceCtorEq, Nat.reduceBEq, Nat.reduceAdd, Nat.reduceLeDiff, args0_2]
  refine callK_F 6 (cnan_c x) (by simp (disch := first | assumption | omega | rfl | simp only [RH]) only [↓RP, RG, FX, RQ, ↓reduceIte, Nat.reduceEqDiff, reduceCtorEq, Nat.reduceBEq, Nat.reduceAdd, Nat.reduceLeDiff, RA] <;> rfl) (.inl (by simp [allFresh, ints_fresh, bools_fresh])) ?_
  simp (disch := first | assumption | omega | rfl | simp only [RH]) only [↓RP, RG, FX, RQ, ↓reduceIte, Nat.reduceEqDiff, reduceCtorEq, Nat.reduceBEq, Nat.reduceAdd, Nat.reduceLeDiff]
  refine callK_F 6 (cnan_c y) (by simp (disch := first | assumption | omega | rfl | simp only [RH]) only [↓RP, RG, FX, RQ, ↓reduceIte, Nat.reduceEqDiff, reduceCtorEq, Nat.reduceBEq, Nat.reduceAdd, Nat.reduceLeDiff, RA] <;> rfl) (.inl (by simp [allFresh, ints_fresh, bools_fresh])) ?_
  by_cases c1 : x < y
  · simp (disch := first | assumption | omega | rfl | simp only [RH]) only [↓RP, RG, FX, RQ, ↓reduceIte, Nat.reduceEqDiff, reduceCtorEq, Nat.reduceBEq, Nat.reduceAdd, Nat.reduceLeDiff]
    rw [resVal_1 rfl]; simp (disch := first | assumption | omega | rfl | simp only [RH]) only [↓RP, RG, FX, RQ, ↓reduceIte, Nat.reduceEqDiff, reduceCtorEq, Nat.reduceBEq, Nat.reduceAdd, Nat.reduceLeDiff, RS]
    first | done | simp [c1]
  · by_cases c2 : y < x
    · simp (disch := first | assumption | omega | rfl | simp only [RH]) only [↓RP, RG, FX, RQ, ↓reduceIte, Nat.reduceEqDiff, reduceCtorEq, Nat.reduceBEq, Nat.reduceAdd, Nat.reduceLeDiff]
      rw [resVal_1 rfl]; simp (disch := first | assumption | omega | rfl | simp only [RH]) only [↓RP, RG, FX, RQ, ↓reduceIte, Nat.reduceEqDiff, reduceCtorEq, Nat.reduceBEq, Nat.reduceAdd, Nat.reduceLeDiff, RS]
      first | done | simp [c1, c2]
    · simp (disch := first | assumption | omega | rfl | simp only [RH]) only [↓RP, RG, FX, RQ, ↓reduceIte, Nat.reduceEqDiff, reduceCtorEq, Nat.reduceBEq, Nat.reduceAdd, Nat.reduceLeDiff]
      rw [resVal_1 rfl]; simp (disch := first | assumption | omega | rfl | simp only [RH]) only [↓RP, RG, FX, RQ, ↓reduceIte, Nat.reduceEqDiff, reduceCtorEq, Nat.reduceBEq, Nat.reduceAdd, Nat.reduceLeDiff, RS]
      first | done | simp [c1, c2]
/-- Lists compared by their elements. -/
def cmpL : List Nat → List Nat → Int
  | [], [] => 0
  | [], _ :: _ => -1
  | _ :: _, [] => 1
  | a :: x, b :: y => if a < b then -1 else if b < a then 1 else cmpL x y
theorem cmpL_neg : ∀ (a b : List Nat), cmpL a b < 0 ↔ lexlt a b
  | [], [] => by simp [cmpL, lexlt]
  | [], _ :: _ => by simp [cmpL, lexlt]
  | _ :: _, [] => by simp [cmpL, lexlt]
  | a :: x, b :: y => by
    simp only [cmpL, lexlt]
    by_cases c1 : a < b
    · rw [if_pos c1]; simp [c1]
    · by_cases c2 : b < a
      · rw [if_neg c1, if_pos c2]
        constructor
        · intro h; omega
        · rintro (h | ⟨h, _⟩) <;> omega
      · rw [if_neg c1, if_neg c2, cmpL_neg x y]
        have : a = b := by omega
        simp [this]
theorem cmpL_drop {a b : List Nat} {k : Nat} (ha : k < a.length) (hb : k < b.length) : cmpL (a.drop k) (b.drop k) = if a.getD k 0 < b.getD k 0 then -1 else if b.getD k 0 < a.getD k 0 then 1 else cmpL (a.drop (k + 1)) (b.drop (k + 1)) := by
  rw [List.drop_eq_getElem_cons ha, List.drop_eq_getElem_cons hb]
  simp only [cmpL, List.getD_eq_getElem?_getD, List.getElem?_eq_getElem ha, List.getElem?_eq_getElem hb, Option.getD_some]
theorem compare_c (b1 b2 : Bool) (x y : List Nat) (hx : x.length ≤ 1000) (hy : y.length ≤ 1000) : Contract Tryd.prog 46 [LA b1 (nI x), LA b2 (nI y)] (I (cmpL x y)) := by
  have lx := nI_len x
  have ly := nI_len y
  refine Contract.intro (effS [] false) 6 follows Tryd.func46 rfl rfl (by kernel_rfl) (Nat.le_of_ble_eq_true rfl) ?_
  simp (disch := first | assumption | omega | rfl | simp only [RH]) only [↓RP, RG, FX, RQ, ↓reduceIte, Nat.reduceEqDiff, reduceCtorEq, Nat.reduceBEq, Nat.reduceAdd, Nat.reduceLeDiff, args0_2]
  refine loopK_I [0, 1, 9, 10, 11] (fun k : Nat => k ≤ x.length ∧ k ≤ y.length ∧ cmpL (x.drop k) (y.drop k) = cmpL x y) (fun k => ⟨[(0, LA b1 (nI x)), (1, LA b2 (nI y)), (9, LA b1 (nI x)), (10, I (nI x).length), (11, I k)], []⟩) (fun k => x.length - k) 0 ⟨by omega, by omega, rfl⟩ (by simp only [↓RP, RG, FX, RQ, ↓reduceIte, Nat.reduceEqDiff, reduceCtorEq, Nat.reduceBEq, Nat.reduceAdd, Nat.reduceLeDiff]; rfl) ?_
  rintro k ⟨h1, h2, h3⟩
  by_cases c1 : k < x.length
  · have g1 := nI_get x k
    have g2 := nI_get y k
    by_cases c2 : k < y.length
    · rw [cmpL_drop c1 c2] at h3
      by_cases c3 : x.getD k 0 < y.getD k 0
      · rw [if_pos c3] at h3
        have hs : sg ((x.getD k 0 : Nat) : Int) ((y.getD k 0 : Nat) : Int) = -1 := by unfold sg; rw [if_pos (by omega)]
        have hC := ccmp_c ((x.getD k 0 : Nat) : Int) ((y.getD k 0 : Nat) : Int)
        rw [hs] at hC
        generalize x.getD k 0 = u at *
        generalize y.getD k 0 = v at *
        simp (disch := first | assumption | omega | rfl | simp only [RH]) only [↓RP, RG, FX, RQ, ↓reduceIte, Nat.reduceEqDiff, reduceCtorEq, Nat.reduceBEq, Nat.reduceAdd, Nat.reduceLeDiff, g1, g2]
        refine callK_F 6 (hC) (by simp (disch := first | assumption | omega | rfl | simp only [RH]) only [↓RP, RG, FX, RQ, ↓reduceIte, Nat.reduceEqDiff, reduceCtorEq, Nat.reduceBEq, Nat.reduceAdd, Nat.reduceLeDiff, RA] <;> rfl) (.inl (by simp [allFresh, ints_fresh, bools_fresh])) ?_
        simp (disch := first | assumption | omega | rfl | simp only [RH]) only [↓RP, RG, FX, RQ, ↓reduceIte, Nat.reduceEqDiff, reduceCtorEq, Nat.reduceBEq, Nat.reduceAdd, Nat.reduceLeDiff]
        rw [resVal_1 rfl]; simp (disch := first | assumption | omega | rfl | simp only [RH]) only [↓RP, RG, FX, RQ, ↓reduceIte, Nat.reduceEqDiff, reduceCtorEq, Nat.reduceBEq, Nat.reduceAdd, Nat.reduceLeDiff, RS]
        first | done | rw [← h3]
      · by_cases c4 : y.getD k 0 < x.getD k 0
        · rw [if_neg c3, if_pos c4] at h3
          have hs : sg ((x.getD k 0 : Nat) : Int) ((y.getD k 0 : Nat) : Int) = 1 := by unfold sg; rw [if_neg (by omega), if_pos (by omega)]
          have hC := ccmp_c ((x.getD k 0 : Nat) : Int) ((y.getD k 0 : Nat) : Int)
          rw [hs] at hC
          generalize x.getD k 0 = u at *
          generalize y.getD k 0 = v at *
          simp (disch := first | assumption | omega | rfl | simp only [RH]) only [↓RP, RG, FX, RQ, ↓reduceIte, Nat.reduceEqDiff, reduceCtorEq, Nat.reduceBEq, Nat.reduceAdd, Nat.reduceLeDiff, g1, g2]
          refine callK_F 6 (hC) (by simp (disch := first | assumption | omega | rfl | simp only [RH]) only [↓RP, RG, FX, RQ, ↓reduceIte, Nat.reduceEqDiff, reduceCtorEq, Nat.reduceBEq, Nat.reduceAdd, Nat.reduceLeDiff, RA] <;> rfl) (.inl (by simp [allFresh, ints_fresh, bools_fresh])) ?_
          simp (disch := first | assumption | omega | rfl | simp only [RH]) only [↓RP, RG, FX, RQ, ↓reduceIte, Nat.reduceEqDiff, reduceCtorEq, Nat.reduceBEq, Nat.reduceAdd, Nat.reduceLeDiff]
          rw [resVal_1 rfl]; simp (disch := first | assumption | omega | rfl | simp only [RH]) only [↓RP, RG, FX, RQ, ↓reduceIte, Nat.reduceEqDiff, reduceCtorEq, Nat.reduceBEq, Nat.reduceAdd, Nat.reduceLeDiff, RS]
          first | done | rw [← h3]
        · rw [if_neg c3, if_neg c4] at h3
          have hs : sg ((x.getD k 0 : Nat) : Int) ((y.getD k 0 : Nat) : Int) = 0 := by unfold sg; rw [if_neg (by omega), if_neg (by omega)]
          have hC := ccmp_c ((x.getD k 0 : Nat) : Int) ((y.getD k 0 : Nat) : Int)
          rw [hs] at hC
          generalize x.getD k 0 = u at *
          generalize y.getD k 0 = v at *
          simp (disch := first | assumption | omega | rfl | simp only [RH]) only [↓RP, RG, FX, RQ, ↓reduceIte, Nat.reduceEqDiff, reduceCtorEq, Nat.reduceBEq, Nat.reduceAdd, Nat.reduceLeDiff, g1, g2]
          refine callK_F 6 (hC) (by simp (disch := first | assumption | omega | rfl | simp only [RH]) only [↓RP, RG, FX, RQ, ↓reduceIte, Nat.reduceEqDiff, reduceCtorEq, Nat.reduceBEq, Nat.reduceAdd, Nat.reduceLeDiff, RA] <;> rfl) (.inl (by simp [allFresh, ints_fresh, bools_fresh])) ?_
          simp (disch := first | assumption | omega | rfl | simp only [RH]) only [↓RP, RG, FX, RQ, ↓reduceIte, Nat.reduceEqDiff, reduceCtorEq, Nat.reduceBEq, Nat.reduceAdd, Nat.reduceLeDiff]
          exact ⟨k + 1, ⟨c1, c2, h3⟩, rfl, by omega⟩
    · have e : y.drop k = [] := List.drop_eq_nil_of_le (by omega)
      rw [e, List.drop_eq_getElem_cons c1] at h3
      simp only [cmpL] at h3
      simp (disch := first | assumption | omega | rfl | simp only [RH]) only [↓RP, RG, FX, RQ, ↓reduceIte, Nat.reduceEqDiff, reduceCtorEq, Nat.reduceBEq, Nat.reduceAdd, Nat.reduceLeDiff, g1, g2]
      rw [resVal_1 rfl]; simp (disch := first | assumption | omega | rfl | simp only [RH]) only [↓RP, RG, FX, RQ, ↓reduceIte, Nat.reduceEqDiff, reduceCtorEq, Nat.reduceBEq, Nat.reduceAdd, Nat.reduceLeDiff, RS]
      first | done | rw [← h3]
  · obtain rfl : k = x.length := by omega
    rw [List.drop_length] at h3
    by_cases c2 : x.length < y.length
    · rw [List.drop_eq_getElem_cons c2] at h3
      simp only [cmpL] at h3
      simp (disch := first | assumption | omega | rfl | simp only [RH]) only [↓RP, RG, FX, RQ, ↓reduceIte, Nat.reduceEqDiff, reduceCtorEq, Nat.reduceBEq, Nat.reduceAdd, Nat.reduceLeDiff]
      rw [resVal_1 rfl]; simp (disch := first | assumption | omega | rfl | simp only [RH]) only [↓RP, RG, FX, RQ, ↓reduceIte, Nat.reduceEqDiff, reduceCtorEq, Nat.reduceBEq, Nat.reduceAdd, Nat.reduceLeDiff, RS]
      first | done | rw [← h3]
    · rw [List.drop_eq_nil_of_le (by omega)] at h3
      simp only [cmpL] at h3
      simp (disch := first | assumption | omega | rfl | simp only [RH]) only [↓RP, RG, FX, RQ, ↓reduceIte, Nat.reduceEqDiff, reduceCtorEq, Nat.reduceBEq, Nat.reduceAdd, Nat.reduceLeDiff]
      rw [resVal_1 rfl]; simp (disch := first | assumption | omega | rfl | simp only [RH]) only [↓RP, RG, FX, RQ, ↓reduceIte, Nat.reduceEqDiff, reduceCtorEq, Nat.reduceBEq, Nat.reduceAdd, Nat.reduceLeDiff, RS]
      first | done | rw [← h3]
end Go.Proofs.YtlckfakifamjiaaDoor

/- Families of lifts, by the program. -/
set_option linter.unusedSimpArgs false
set_option linter.unusedVariables false
set_option maxRecDepth 100000
namespace Go.Proofs.YtlckfakifamjiaaDoor
open Go Go.Proofs Go.AW

theorem feet_c (n : Int) : Contract Tryd.prog 30 [I n] (B (decide (1 ≤ n ∧ n ≤ 4))) := by
  by_cases c1 : 1 ≤ n
  · by_cases c2 : n ≤ 4
    · refine Contract.intro (effS [] false) 6 follows Tryd.func30 rfl rfl (by kernel_rfl) (Nat.le_of_ble_eq_true rfl) ?_
      simp (disch := first | assumption | omega | rfl | simp only [RH]) only [↓RP, RG, FX, RQ, ↓reduceIte, Nat.reduceEqDiff, reduceCtorEq, Nat.reduceBEq, Nat.reduceAdd, Nat.reduceLeDiff, args0_1]
      rw [resVal_1 rfl]; simp (disch := first | assumption | omega | rfl | simp only [RH]) only [↓RP, RG, FX, RQ, ↓reduceIte, Nat.reduceEqDiff, reduceCtorEq, Nat.reduceBEq, Nat.reduceAdd, Nat.reduceLeDiff, RS]
      first | done | simp [c1, c2]
    · refine Contract.intro (effS [] false) 6 follows Tryd.func30 rfl rfl (by kernel_rfl) (Nat.le_of_ble_eq_true rfl) ?_
      simp (disch := first | assumption | omega | rfl | simp only [RH]) only [↓RP, RG, FX, RQ, ↓reduceIte, Nat.reduceEqDiff, reduceCtorEq, Nat.reduceBEq, Nat.reduceAdd, Nat.reduceLeDiff, args0_1]
      rw [resVal_1 rfl]; simp (disch := first | assumption | omega | rfl | simp only [RH]) only [↓RP, RG, FX, RQ, ↓reduceIte, Nat.reduceEqDiff, reduceCtorEq, Nat.reduceBEq, Nat.reduceAdd, Nat.reduceLeDiff, RS]
      first | done | simp [c1, c2]
  · refine Contract.intro (effS [] false) 6 follows Tryd.func30 rfl rfl (by kernel_rfl) (Nat.le_of_ble_eq_true rfl) ?_
    simp (disch := first | assumption | omega | rfl | simp only [RH]) only [↓RP, RG, FX, RQ, ↓reduceIte, Nat.reduceEqDiff, reduceCtorEq, Nat.reduceBEq, Nat.reduceAdd, Nat.reduceLeDiff, args0_1]
    rw [resVal_1 rfl]; simp (disch := first | assumption | omega | rfl | simp only [RH]) only [↓RP, RG, FX, RQ, ↓reduceIte, Nat.reduceEqDiff, reduceCtorEq, Nat.reduceBEq, Nat.reduceAdd, Nat.reduceLeDiff, RS]
    first | done | simp [c1]
theorem pow4 {s : Nat} (hs : s ≤ 4) : 2 ^ s ≤ 16 ∧ 1 ≤ 2 ^ s := by
  have := Nat.pow_le_pow_right (show 0 < 2 by omega) hs
  exact ⟨by simpa using this, Nat.two_pow_pos s⟩
theorem outF_c {s : Nat} (hs : s ≤ 4) (x : Int) (r : Bool) (hr : r = true ↔ ¬ (0 ≤ x ∧ x < ((2 ^ s : Nat) : Int))) : Contract Tryd.prog 56 [I x, .spot false [I s]] (B r) := by
  obtain ⟨p1, p2⟩ := pow4 hs
  have hsh := shl64 (n := s) (by omega)
  generalize 2 ^ s = q at *
  by_cases c1 : x < 0
  · obtain rfl : r = true := hr.2 (by omega)
    refine Contract.intro (effS [] false) 6 follows Tryd.func56 rfl rfl (by kernel_rfl) (Nat.le_of_ble_eq_true rfl) ?_
    simp (disch := first | assumption | omega | rfl | simp only [RH]) only [↓RP, RG, FX, RQ, ↓reduceIte, Nat.reduceEqDiff, reduceCtorEq, Nat.reduceBEq, Nat.reduceAdd, Nat.reduceLeDiff, args0_2]
    rw [resVal_1 rfl]; simp (disch := first | assumption | omega | rfl | simp only [RH]) only [↓RP, RG, FX, RQ, ↓reduceIte, Nat.reduceEqDiff, reduceCtorEq, Nat.reduceBEq, Nat.reduceAdd, Nat.reduceLeDiff, RS]
  · by_cases c2 : x < (q : Int)
    · obtain rfl : r = false := by cases r with | false => rfl | true => exact absurd ⟨by omega, c2⟩ (hr.1 rfl)
      refine Contract.intro (effS [] false) 6 follows Tryd.func56 rfl rfl (by kernel_rfl) (Nat.le_of_ble_eq_true rfl) ?_
      simp (disch := first | assumption | omega | rfl | simp only [RH]) only [↓RP, RG, FX, RQ, ↓reduceIte, Nat.reduceEqDiff, reduceCtorEq, Nat.reduceBEq, Nat.reduceAdd, Nat.reduceLeDiff, args0_2, aBin_shl, hsh]
      rw [resVal_1 rfl]; simp (disch := first | assumption | omega | rfl | simp only [RH]) only [↓RP, RG, FX, RQ, ↓reduceIte, Nat.reduceEqDiff, reduceCtorEq, Nat.reduceBEq, Nat.reduceAdd, Nat.reduceLeDiff, RS]
    · obtain rfl : r = true := hr.2 (by omega)
      refine Contract.intro (effS [] false) 6 follows Tryd.func56 rfl rfl (by kernel_rfl) (Nat.le_of_ble_eq_true rfl) ?_
      simp (disch := first | assumption | omega | rfl | simp only [RH]) only [↓RP, RG, FX, RQ, ↓reduceIte, Nat.reduceEqDiff, reduceCtorEq, Nat.reduceBEq, Nat.reduceAdd, Nat.reduceLeDiff, args0_2, aBin_shl, hsh]
      rw [resVal_1 rfl]; simp (disch := first | assumption | omega | rfl | simp only [RH]) only [↓RP, RG, FX, RQ, ↓reduceIte, Nat.reduceEqDiff, reduceCtorEq, Nat.reduceBEq, Nat.reduceAdd, Nat.reduceLeDiff, RS]
/-- There is one of them that is out of range. -/
theorem someOut_c {s : Nat} (hs : s ≤ 4) (bs : Bool) (l : List Int) (hl : l.length ≤ 1000000) (r : Bool) (hr : r = true ↔ ∃ i, i < l.length ∧ ¬ (0 ≤ l.getD i 0 ∧ l.getD i 0 < ((2 ^ s : Nat) : Int))) :
    Contract Tryd.prog 55 [LA bs l, .func (.func 56) [] [.spot false [I s]]] (B r) := by
  generalize hq : ((2 ^ s : Nat) : Int) = q at *
  have key : Contract Tryd.prog 77 [LA bs l, .func (.func 56) [] [.spot false [I s]]] (I (if r = true then (l.findIdx fun x => !decide (0 ≤ x ∧ x < q) : Nat) else -1)) := by
    refine Contract.intro (effS [] false) 6 follows Tryd.func77 rfl rfl (by kernel_rfl) (Nat.le_of_ble_eq_true rfl) ?_
    simp (disch := first | assumption | omega | rfl | simp only [RH]) only [↓RP, RG, FX, RQ, ↓reduceIte, Nat.reduceEqDiff, reduceCtorEq, Nat.reduceBEq, Nat.reduceAdd, Nat.reduceLeDiff, args0_2]
    refine loopK_I [0, 1, 7, 8] (fun k : Nat => k ≤ l.length ∧ ∀ j, j < k → 0 ≤ l.getD j 0 ∧ l.getD j 0 < q) (fun k : Nat => ⟨[(0, LA bs l), (1, .func (.func 56) [] [.spot false [I s]]), (7, I l.length), (8, I k)], []⟩) (fun k => l.length - k) 0 ⟨by omega, fun j hj => by omega⟩ (by simp only [↓RP, RG, FX, RQ, ↓reduceIte, Nat.reduceEqDiff, reduceCtorEq, Nat.reduceBEq, Nat.reduceAdd, Nat.reduceLeDiff]; rfl) ?_
    rintro k ⟨hk, hall⟩
    by_cases hlt : k < l.length
    · have hgd : ∀ (j : Nat) (hj : j < l.length), l.getD j 0 = l[j]'hj := fun j hj => by rw [List.getD_eq_getElem?_getD, List.getElem?_eq_getElem hj]; rfl
      by_cases hc : 0 ≤ l.getD k 0 ∧ l.getD k 0 < q
      · have hNI := outF_c hs (l.getD k 0) false ⟨fun h => (by cases h), fun h => absurd hc (by rw [hq] at h; exact h)⟩
        simp (disch := first | assumption | omega | rfl | simp only [RH]) only [↓RP, RG, FX, RQ, ↓reduceIte, Nat.reduceEqDiff, reduceCtorEq, Nat.reduceBEq, Nat.reduceAdd, Nat.reduceLeDiff]
        refine callK_V 6 hNI (by simp (disch := omega) only [↓RP, RG, FX, RQ, ↓reduceIte, Nat.reduceEqDiff, reduceCtorEq, Nat.reduceBEq, Nat.reduceAdd, Nat.reduceLeDiff, RA] <;> rfl) (.inl rfl) ?_
        simp (disch := first | assumption | omega | rfl | simp only [RH]) only [↓RP, RG, FX, RQ, ↓reduceIte, Nat.reduceEqDiff, reduceCtorEq, Nat.reduceBEq, Nat.reduceAdd, Nat.reduceLeDiff]
        refine ⟨k + 1, ⟨hlt, fun j hj => ?_⟩, rfl, by omega⟩
        by_cases e : j = k
        · subst e; exact hc
        · exact hall j (by omega)
      · have hNI := outF_c hs (l.getD k 0) true ⟨fun _ => by rw [hq]; exact hc, fun _ => rfl⟩
        have hrt : r = true := hr.2 ⟨k, hlt, hc⟩
        have hf : (l.findIdx fun x => !decide (0 ≤ x ∧ x < q)) = k := by
          refine (List.findIdx_eq hlt).2 ⟨?_, fun j hj => ?_⟩
          · rw [hgd k hlt] at hc
            simp only [decide_eq_false hc, Bool.not_false]
          · have := hall j hj
            rw [hgd j (by omega)] at this
            simp only [decide_eq_true this, Bool.not_true]
        rw [if_pos hrt, hf]
        simp (disch := first | assumption | omega | rfl | simp only [RH]) only [↓RP, RG, FX, RQ, ↓reduceIte, Nat.reduceEqDiff, reduceCtorEq, Nat.reduceBEq, Nat.reduceAdd, Nat.reduceLeDiff]
        refine callK_V 6 hNI (by simp (disch := omega) only [↓RP, RG, FX, RQ, ↓reduceIte, Nat.reduceEqDiff, reduceCtorEq, Nat.reduceBEq, Nat.reduceAdd, Nat.reduceLeDiff, RA] <;> rfl) (.inl rfl) ?_
        simp (disch := first | assumption | omega | rfl | simp only [RH]) only [↓RP, RG, FX, RQ, ↓reduceIte, Nat.reduceEqDiff, reduceCtorEq, Nat.reduceBEq, Nat.reduceAdd, Nat.reduceLeDiff]
        rw [resVal_1 rfl]; simp (disch := first | assumption | omega | rfl | simp only [RH]) only [↓RP, RG, FX, RQ, ↓reduceIte, Nat.reduceEqDiff, reduceCtorEq, Nat.reduceBEq, Nat.reduceAdd, Nat.reduceLeDiff, RS]
    · obtain rfl : k = l.length := by omega
      have hrf : r = false := by
        cases r with
        | false => rfl
        | true =>
          obtain ⟨i, h1, h2⟩ := hr.1 rfl
          exact absurd (hall i h1) h2
      subst hrf
      simp (disch := first | assumption | omega | rfl | simp only [RH]) only [↓RP, RG, FX, RQ, ↓reduceIte, Nat.reduceEqDiff, reduceCtorEq, Nat.reduceBEq, Nat.reduceAdd, Nat.reduceLeDiff]
      rw [resVal_1 rfl]; simp (disch := first | assumption | omega | rfl | simp only [RH]) only [↓RP, RG, FX, RQ, ↓reduceIte, Nat.reduceEqDiff, reduceCtorEq, Nat.reduceBEq, Nat.reduceAdd, Nat.reduceLeDiff, RS]
      first | done | rfl
  refine Contract.intro (effS [] false) 6 follows Tryd.func55 rfl rfl (by kernel_rfl) (Nat.le_of_ble_eq_true rfl) ?_
  simp (disch := first | assumption | omega | rfl | simp only [RH]) only [↓RP, RG, FX, RQ, ↓reduceIte, Nat.reduceEqDiff, reduceCtorEq, Nat.reduceBEq, Nat.reduceAdd, Nat.reduceLeDiff, args0_2]
  refine callK_F 6 key (by simp (disch := omega) only [↓RP, RG, FX, RQ, ↓reduceIte, Nat.reduceEqDiff, reduceCtorEq, Nat.reduceBEq, Nat.reduceAdd, Nat.reduceLeDiff, RA] <;> rfl) (.inl rfl) ?_
  cases r with
  | false =>
    rw [if_neg (by simp)]
    simp (disch := first | assumption | omega | rfl | simp only [RH]) only [↓RP, RG, FX, RQ, ↓reduceIte, Nat.reduceEqDiff, reduceCtorEq, Nat.reduceBEq, Nat.reduceAdd, Nat.reduceLeDiff]
    rw [resVal_1 rfl]; simp (disch := first | assumption | omega | rfl | simp only [RH]) only [↓RP, RG, FX, RQ, ↓reduceIte, Nat.reduceEqDiff, reduceCtorEq, Nat.reduceBEq, Nat.reduceAdd, Nat.reduceLeDiff, RS]
  | true =>
    rw [if_pos rfl]
    simp (disch := first | assumption | omega | rfl | simp only [RH]) only [↓RP, RG, FX, RQ, ↓reduceIte, Nat.reduceEqDiff, reduceCtorEq, Nat.reduceBEq, Nat.reduceAdd, Nat.reduceLeDiff]
    rw [resVal_1 rfl]; simp (disch := first | assumption | omega | rfl | simp only [RH]) only [↓RP, RG, FX, RQ, ↓reduceIte, Nat.reduceEqDiff, reduceCtorEq, Nat.reduceBEq, Nat.reduceAdd, Nat.reduceLeDiff, RS]
/-- All of them are sets of shafts. -/
def inR (s : Nat) (l : List Int) : Prop := ∀ i, i < l.length → 0 ≤ l.getD i 0 ∧ l.getD i 0 < ((2 ^ s : Nat) : Int)
theorem sets_c {s : Nat} (hs : s ≤ 4) (b : Bool) (l : List Int) (hl : l.length ≤ 1000000) (r : Bool) (hr : r = true ↔ inR s l) : Contract Tryd.prog 29 [I s, LA b l] (B r) := by
  have hC := someOut_c hs b l hl (!r) (by
    cases r with
    | true =>
      refine ⟨fun h => (by cases h), fun ⟨i, h1, h2⟩ => absurd (hr.1 rfl i h1) h2⟩
    | false =>
      refine ⟨fun _ => Classical.byContradiction fun hn => ?_, fun _ => rfl⟩
      have : inR s l := fun i hi => Classical.byContradiction fun h => hn ⟨i, hi, h⟩
      have := hr.2 this
      cases this)
  refine Contract.intro (effS [] false) 6 follows Tryd.func29 rfl rfl (by kernel_rfl) (Nat.le_of_ble_eq_true rfl) ?_
  simp (disch := first | assumption | omega | rfl | simp only [RH]) only [↓RP, RG, FX, RQ, ↓reduceIte, Nat.reduceEqDiff, reduceCtorEq, Nat.reduceBEq, Nat.reduceAdd, Nat.reduceLeDiff, args0_2]
  refine callK_F 6 hC (by simp (disch := omega) only [↓RP, RG, FX, RQ, ↓reduceIte, Nat.reduceEqDiff, reduceCtorEq, Nat.reduceBEq, Nat.reduceAdd, Nat.reduceLeDiff, RA] <;> rfl) (.inl rfl) ?_
  simp (disch := first | assumption | omega | rfl | simp only [RH]) only [↓RP, RG, FX, RQ, ↓reduceIte, Nat.reduceEqDiff, reduceCtorEq, Nat.reduceBEq, Nat.reduceAdd, Nat.reduceLeDiff]
  rw [resVal_1 rfl]; simp (disch := first | assumption | omega | rfl | simp only [RH]) only [↓RP, RG, FX, RQ, ↓reduceIte, Nat.reduceEqDiff, reduceCtorEq, Nat.reduceBEq, Nat.reduceAdd, Nat.reduceLeDiff, RS]
  first | done | simp
/-- The family of the first k lifts. -/
def gK (l : List Nat) : Nat → Nat
  | 0 => 0
  | k + 1 => gK l k ||| 2 ^ (l.getD k 0)
theorem gK_bit (l : List Nat) : ∀ (k i : Nat), (gK l k).testBit i = true ↔ ∃ j, j < k ∧ l.getD j 0 = i
  | 0, i => by simp [gK]
  | k + 1, i => by
    simp only [gK]
    rw [Nat.testBit_or, Bool.or_eq_true, gK_bit l k i, Nat.testBit_two_pow, decide_eq_true_eq]
    constructor
    · rintro (⟨j, h1, h2⟩ | h)
      · exact ⟨j, by omega, h2⟩
      · exact ⟨k, by omega, h⟩
    · rintro ⟨j, h1, h2⟩
      by_cases e : j = k
      · subst e; exact .inr h2
      · exact .inl ⟨j, by omega, h2⟩
theorem p16 {x : Nat} (hx : x < 16) : 2 ^ x < 65536 := Nat.pow_lt_pow_right (show 1 < 2 by omega) hx
theorem gK_lt {l : List Nat} (hl : ∀ i, i < l.length → l.getD i 0 < 16) : ∀ k, k ≤ l.length → gK l k < 65536
  | 0, _ => by simp [gK]
  | k + 1, hk => Nat.or_lt_two_pow (n := 16) (gK_lt hl k (by omega)) (p16 (hl k (by omega)))
theorem gath_c (b : Bool) {l : List Nat} (hn : l.length ≤ 1000) (hl : ∀ i, i < l.length → l.getD i 0 < 16) : Contract Tryd.prog 33 [LA b (nI l)] (.val (.int .u16 ((gK l l.length : Nat) : Int))) := by
  have ll := nI_len l
  refine Contract.intro (effS [] false) 6 follows Tryd.func33 rfl rfl (by kernel_rfl) (Nat.le_of_ble_eq_true rfl) ?_
  simp (disch := first | assumption | omega | rfl | simp only [RH]) only [↓RP, RG, FX, RQ, ↓reduceIte, Nat.reduceEqDiff, reduceCtorEq, Nat.reduceBEq, Nat.reduceAdd, Nat.reduceLeDiff, args0_1]
  refine loopK_I [3, 6, 7, 8] (fun k : Nat => k ≤ l.length) (fun k => ⟨[(3, .val (.int .u16 ((gK l k : Nat) : Int))), (6, LA b (nI l)), (7, I (nI l).length), (8, I k)], []⟩) (fun k => l.length - k) 0 (by omega) (by simp only [↓RP, RG, FX, RQ, ↓reduceIte, Nat.reduceEqDiff, reduceCtorEq, Nat.reduceBEq, Nat.reduceAdd, Nat.reduceLeDiff]; rfl) ?_
  intro k hk
  have g1 := gK_lt hl k hk
  by_cases c : k < l.length
  · have hg := nI_get l k
    have g2 := hl k c
    have g3 := p16 g2
    have g4 : gK l (k + 1) = gK l k ||| 2 ^ (l.getD k 0) := rfl
    have s1 := shl16 g2
    have s2 := or16 g1 g3
    generalize l.getD k 0 = x at *
    simp (disch := first | assumption | omega | rfl | simp only [RH]) only [↓RP, RG, FX, RQ, ↓reduceIte, Nat.reduceEqDiff, reduceCtorEq, Nat.reduceBEq, Nat.reduceAdd, Nat.reduceLeDiff, hg, aBin_shl, s1, s2]
    exact ⟨k + 1, c, by rw [g4]; rfl, by omega⟩
  · obtain rfl : k = l.length := by omega
    simp (disch := first | assumption | omega | rfl | simp only [RH]) only [↓RP, RG, FX, RQ, ↓reduceIte, Nat.reduceEqDiff, reduceCtorEq, Nat.reduceBEq, Nat.reduceAdd, Nat.reduceLeDiff]
    rw [resVal_1 rfl]; simp (disch := first | assumption | omega | rfl | simp only [RH]) only [↓RP, RG, FX, RQ, ↓reduceIte, Nat.reduceEqDiff, reduceCtorEq, Nat.reduceBEq, Nat.reduceAdd, Nat.reduceLeDiff, RS]
theorem numbers_c {f : Nat} (hf : f < 65536) : Contract Tryd.prog 45 [.val (.int .u16 (f : Int))] (LR (nI (bitsL f)).isEmpty (nI (bitsL f))) := by
  refine Contract.intro (effS [] false) 6 follows Tryd.func45 rfl rfl (by kernel_rfl) (Nat.le_of_ble_eq_true rfl) ?_
  simp (disch := first | assumption | omega | rfl | simp only [RH]) only [↓RP, RG, FX, RQ, ↓reduceIte, Nat.reduceEqDiff, reduceCtorEq, Nat.reduceBEq, Nat.reduceAdd, Nat.reduceLeDiff, args0_1]
  refine loopK_W [0, 3] (fun s : Nat × List Nat => s.1 < 65536 ∧ s.2.length ≤ 16 ∧ bitsL f = s.2 ++ bitsL s.1) (fun s => ⟨[(0, .val (.int .u16 (s.1 : Int))), (3, gw true 0 (ints (nI s.2)))], [go 3 (ints (nI s.2))]⟩) (fun s => s.1) (f, []) ⟨hf, by simp, rfl⟩ (by
    simp only [↓RP, RG, FX, RQ, ↓reduceIte, Nat.reduceEqDiff, reduceCtorEq, Nat.reduceBEq, Nat.reduceAdd, Nat.reduceLeDiff]
    exact Wk.weak (WE.cons _ (.refl _) (WE.cons _ (.nil _) WE.nil)) (.nil _ (by simp [go, ints, nI]))) ?_
  rintro ⟨g, out⟩ ⟨h1, h2, h3⟩
  simp only at h1 h2 h3 ⊢
  have ho := nI_len out
  by_cases c : g = 0
  · subst c
    rw [bitsL_zero, List.append_nil] at h3
    rw [h3]
    simp (disch := first | assumption | omega | rfl | simp only [RH]) only [↓RP, RG, FX, RQ, ↓reduceIte, Nat.reduceEqDiff, reduceCtorEq, Nat.reduceBEq, Nat.reduceAdd, Nat.reduceLeDiff]
    rw [resVal_1 rfl]; simp (disch := first | assumption | omega | rfl | simp only [RH]) only [↓RP, RG, FX, RQ, ↓reduceIte, Nat.reduceEqDiff, reduceCtorEq, Nat.reduceBEq, Nat.reduceAdd, Nat.reduceLeDiff, RS]
    simp only [Bool.true_and, ints_isEmpty]
  · obtain ⟨z, z1, z2, z3⟩ := bitsL_step (show 0 < g by omega) h1
    have hT := tz_c g (by omega) h1 z3 z1
    have hlen : (bitsL f).length ≤ 16 := by unfold bitsL; exact Nat.le_trans (List.length_filter_le _ _) (by simp)
    have hl2 : out.length < 16 := by
      have := congrArg List.length h3
      rw [z2, List.length_append, List.length_cons] at this; omega
    have s0 : IntKind.u16.wrap ((g : Int) - 1) = ((g - 1 : Nat) : Int) := by
      rw [show (g : Int) - 1 = ((g - 1 : Nat) : Int) by omega]; exact wr16 (by omega)
    have s1 := and16 (x := g) (y := g - 1) h1 (by omega)
    have hlt : g &&& (g - 1) < g := Nat.lt_of_le_of_lt Nat.and_le_right (by omega)
    simp (disch := first | assumption | omega | rfl | simp only [RH]) only [↓RP, RG, FX, RQ, ↓reduceIte, Nat.reduceEqDiff, reduceCtorEq, Nat.reduceBEq, Nat.reduceAdd, Nat.reduceLeDiff]
    refine callK_F 6 (hT) (by simp (disch := first | assumption | omega | rfl | simp only [RH]) only [↓RP, RG, FX, RQ, ↓reduceIte, Nat.reduceEqDiff, reduceCtorEq, Nat.reduceBEq, Nat.reduceAdd, Nat.reduceLeDiff, RA] <;> rfl) (.inl (by simp [allFresh, ints_fresh, bools_fresh])) ?_
    simp (disch := first | assumption | omega | rfl | simp only [RH]) only [↓RP, RG, FX, RQ, ↓reduceIte, Nat.reduceEqDiff, reduceCtorEq, Nat.reduceBEq, Nat.reduceAdd, Nat.reduceLeDiff, append_int, s0, s1]
    refine ⟨(g &&& (g - 1), out ++ [z]), ⟨Nat.lt_trans hlt h1, by rw [List.length_append, List.length_singleton]; exact hl2, ?_⟩, by rw [nI_app], hlt⟩
    rw [h3, z2]; simp
end Go.Proofs.YtlckfakifamjiaaDoor

/- What a tie-up covers, by the program. -/
set_option linter.unusedSimpArgs false
set_option linter.unusedVariables false
set_option maxRecDepth 100000
namespace Go.Proofs.YtlckfakifamjiaaDoor
open Go Go.Proofs Go.AW

theorem bit_mod (n x : Nat) : n.testBit x = decide (n / 2 ^ x % 2 = 1) := Nat.testBit_eq_decide_div_mod_eq
theorem covers_c (b : Bool) {tie : List Nat} (hn : tie.length ≤ 1000) (ht : ∀ i, i < tie.length → tie.getD i 0 < 16) {want : Nat} (hw : want < 65536) {feet : Nat} (hf : feet ≤ 4) (r : Bool) (hr : r = true ↔ ∀ i, want.testBit i = true → Rk tie feet i) :
    Contract Tryd.prog 32 [LA b (nI tie), .val (.int .u16 (want : Int)), I feet] (B r) := by
  have lt := nI_len tie
  have hmem : ∀ t, t ∈ tie ↔ ∃ j, j < tie.length ∧ tie.getD j 0 = t := fun t => by
    rw [List.mem_iff_getElem]
    constructor
    · rintro ⟨i, hi, h⟩; exact ⟨i, hi, by rw [List.getD_eq_getElem?_getD, List.getElem?_eq_getElem hi]; exact h⟩
    · rintro ⟨i, hi, h⟩; exact ⟨i, hi, by rw [List.getD_eq_getElem?_getD, List.getElem?_eq_getElem hi] at h; exact h⟩
  refine Contract.intro (effS [] false) 6 follows Tryd.func32 rfl rfl (by kernel_rfl) (Nat.le_of_ble_eq_true rfl) ?_
  simp (disch := first | assumption | omega | rfl | simp only [RH]) only [↓RP, RG, FX, RQ, ↓reduceIte, Nat.reduceEqDiff, reduceCtorEq, Nat.reduceBEq, Nat.reduceAdd, Nat.reduceLeDiff, args0_3]
  refine loopK_I [0, 1, 7, 12, 13] (fun s : Nat × Nat => s.1 ≤ feet ∧ s.2 < 65536 ∧ ∀ i, s.2.testBit i = true ↔ Rk tie s.1 i) (fun s => ⟨[(0, LA b (nI tie)), (1, .val (.int .u16 (want : Int))), (7, .val (.int .u16 (s.2 : Int))), (12, I feet), (13, I s.1)], []⟩) (fun s => feet - s.1) (0, 1) ⟨by simp only; omega, by simp only; omega, fun i => by
    simp only [Rk]
    rw [show (1 : Nat) = 2 ^ 0 from rfl, Nat.testBit_two_pow, decide_eq_true_eq]
    exact eq_comm⟩ (by simp only [↓RP, RG, FX, RQ, ↓reduceIte, Nat.reduceEqDiff, reduceCtorEq, Nat.reduceBEq, Nat.reduceAdd, Nat.reduceLeDiff]; rfl) ?_
  rintro ⟨k, now⟩ ⟨h1, h2, h3⟩
  simp only at h1 h2 h3 ⊢
  by_cases hk : k < feet
  · simp (disch := first | assumption | omega | rfl | simp only [RH]) only [↓RP, RG, FX, RQ, ↓reduceIte, Nat.reduceEqDiff, reduceCtorEq, Nat.reduceBEq, Nat.reduceAdd, Nat.reduceLeDiff]
    refine loopK_I [0, 1, 7, 8, 12, 13, 16] (fun s : Nat × Nat => s.1 ≤ 16 ∧ s.2 < 65536 ∧ ∀ i, s.2.testBit i = true ↔ now.testBit i = true ∨ ∃ x, x < s.1 ∧ now.testBit x = true ∧ ∃ t ∈ tie, i = x ||| t) (fun s => ⟨[(0, LA b (nI tie)), (1, .val (.int .u16 (want : Int))), (7, .val (.int .u16 (now : Int))), (8, .val (.int .u16 (s.2 : Int))), (12, I feet), (13, I k), (16, I s.1)], []⟩) (fun s => 16 - s.1) (0, now) ⟨by simp only; omega, h2, fun i => ⟨.inl, fun h => by
      rcases h with h | ⟨x, hx, _⟩
      · exact h
      · simp only at hx; omega⟩⟩ (by simp only [↓RP, RG, FX, RQ, ↓reduceIte, Nat.reduceEqDiff, reduceCtorEq, Nat.reduceBEq, Nat.reduceAdd, Nat.reduceLeDiff]; rfl) ?_
    rintro ⟨x, nx⟩ ⟨g1, g2, g3⟩
    simp only at g1 g2 g3 ⊢
    by_cases hx : x < 16
    · have hdv : now / 2 ^ x < 65536 := Nat.lt_of_le_of_lt (Nat.div_le_self _ _) h2
      have hbm := bit_mod now x
      have s1 := shr16 (x := now) (n := x) (by omega)
      generalize hq : now / 2 ^ x = q at *
      by_cases hb : q % 2 = 0
      · have hbf : now.testBit x = false := by rw [hbm]; exact decide_eq_false (by omega)
        simp (disch := first | assumption | omega | rfl | simp only [RH]) only [↓RP, RG, FX, RQ, ↓reduceIte, Nat.reduceEqDiff, reduceCtorEq, Nat.reduceBEq, Nat.reduceAdd, Nat.reduceLeDiff, aBin_shr, s1, and16_1]
        refine ⟨(x + 1, nx), ⟨hx, g2, fun i => (g3 i).trans (or_congr_right ⟨fun ⟨y, y1, y2⟩ => ⟨y, by simp only; omega, y2⟩, fun ⟨y, y1, y2, y3⟩ => ⟨y, ?_, y2, y3⟩⟩)⟩, rfl, by simp only; omega⟩
        simp only at y1
        by_cases e : y = x
        · subst e; rw [hbf] at y2; cases y2
        · omega
      · have hbt : now.testBit x = true := by rw [hbm]; exact decide_eq_true (by omega)
        simp (disch := first | assumption | omega | rfl | simp only [RH]) only [↓RP, RG, FX, RQ, ↓reduceIte, Nat.reduceEqDiff, reduceCtorEq, Nat.reduceBEq, Nat.reduceAdd, Nat.reduceLeDiff, aBin_shr, s1, and16_1]
        refine loopK_I [0, 1, 7, 8, 9, 12, 13, 16, 24, 25, 26] (fun s : Nat × Nat => s.1 ≤ tie.length ∧ s.2 < 65536 ∧ ∀ i, s.2.testBit i = true ↔ nx.testBit i = true ∨ ∃ j, j < s.1 ∧ i = x ||| tie.getD j 0) (fun s => ⟨[(0, LA b (nI tie)), (1, .val (.int .u16 (want : Int))), (7, .val (.int .u16 (now : Int))), (8, .val (.int .u16 (s.2 : Int))), (9, I x), (12, I feet), (13, I k), (16, I x), (24, LA b (nI tie)), (25, I (nI tie).length), (26, I s.1)], []⟩) (fun s => tie.length - s.1) (0, nx) ⟨by simp only; omega, g2, fun i => ⟨.inl, fun h => by
          rcases h with h | ⟨j, hj, _⟩
          · exact h
          · simp only at hj; omega⟩⟩ (by simp only [↓RP, RG, FX, RQ, ↓reduceIte, Nat.reduceEqDiff, reduceCtorEq, Nat.reduceBEq, Nat.reduceAdd, Nat.reduceLeDiff]; rfl) ?_
        rintro ⟨j, ny⟩ ⟨f1, f2, f3⟩
        simp only at f1 f2 f3 ⊢
        by_cases hj : j < tie.length
        · have hg := nI_get tie j
          have htj := ht j hj
          have hor : x ||| tie.getD j 0 < 16 := Nat.or_lt_two_pow (n := 4) hx htj
          have hp := p16 hor
          have hny : ny ||| 2 ^ (x ||| tie.getD j 0) < 65536 := Nat.or_lt_two_pow (n := 16) f2 hp
          have s2 := or64 hx htj
          have s3 := shl16 hor
          have s4 := or16 f2 hp
          have f4 : ∀ i, (ny ||| 2 ^ (x ||| tie.getD j 0)).testBit i = true ↔ nx.testBit i = true ∨ ∃ j', j' < j + 1 ∧ i = x ||| tie.getD j' 0 := fun i => by
            rw [Nat.testBit_or, Bool.or_eq_true, f3 i, Nat.testBit_two_pow, decide_eq_true_eq]
            constructor
            · rintro ((h | ⟨j', e1, e2⟩) | h)
              · exact .inl h
              · exact .inr ⟨j', by omega, e2⟩
              · exact .inr ⟨j, by omega, h.symm⟩
            · rintro (h | ⟨j', e1, e2⟩)
              · exact .inl (.inl h)
              · by_cases e : j' = j
                · subst e; exact .inr e2.symm
                · exact .inl (.inr ⟨j', by omega, e2⟩)
          generalize ny ||| 2 ^ (x ||| tie.getD j 0) = nz at *
          generalize hP : 2 ^ (x ||| tie.getD j 0) = P at *
          generalize hO : x ||| tie.getD j 0 = O at *
          generalize tie.getD j 0 = tj at *
          simp (disch := first | assumption | omega | rfl | simp only [RH]) only [↓RP, RG, FX, RQ, ↓reduceIte, Nat.reduceEqDiff, reduceCtorEq, Nat.reduceBEq, Nat.reduceAdd, Nat.reduceLeDiff, hg, aBin_shl, s2, s3, s4]
          exact ⟨(j + 1, nz), ⟨hj, hny, f4⟩, rfl, by simp only; omega⟩
        · obtain rfl : j = tie.length := by omega
          simp (disch := first | assumption | omega | rfl | simp only [RH]) only [↓RP, RG, FX, RQ, ↓reduceIte, Nat.reduceEqDiff, reduceCtorEq, Nat.reduceBEq, Nat.reduceAdd, Nat.reduceLeDiff]
          refine ⟨(x + 1, ny), ⟨hx, f2, fun i => (f3 i).trans ?_⟩, rfl, by simp only; omega⟩
          rw [g3 i]
          simp only
          constructor
          · rintro ((h | ⟨y, y1, y2, y3⟩) | ⟨j', e1, e2⟩)
            · exact .inl h
            · exact .inr ⟨y, by omega, y2, y3⟩
            · exact .inr ⟨x, by omega, hbt, _, (hmem _).2 ⟨j', e1, rfl⟩, e2⟩
          · rintro (h | ⟨y, y1, y2, t, y3, y4⟩)
            · exact .inl (.inl h)
            · by_cases e : y = x
              · subst e
                obtain ⟨j', e1, e2⟩ := (hmem t).1 y3
                exact .inr ⟨j', e1, by rw [e2]; exact y4⟩
              · exact .inl (.inr ⟨y, by omega, y2, t, y3, y4⟩)
    · obtain rfl : x = 16 := by omega
      simp (disch := first | assumption | omega | rfl | simp only [RH]) only [↓RP, RG, FX, RQ, ↓reduceIte, Nat.reduceEqDiff, reduceCtorEq, Nat.reduceBEq, Nat.reduceAdd, Nat.reduceLeDiff]
      refine ⟨(k + 1, nx), ⟨hk, g2, fun i => (g3 i).trans ?_⟩, rfl, by simp only; omega⟩
      simp only [Rk]
      refine or_congr (h3 i) ⟨fun ⟨y, y1, y2, y3⟩ => ⟨y, (h3 y).1 y2, y3⟩, fun ⟨y, y2, y3⟩ => ⟨y, ?_, (h3 y).2 y2, y3⟩⟩
      have := (h3 y).2 y2
      exact Nat.lt_of_not_le fun hle => by
        rw [Nat.testBit_lt_two_pow (Nat.lt_of_lt_of_le (show now < 2 ^ 16 from h2) (Nat.pow_le_pow_right (by omega) hle))] at this
        cases this
  · obtain rfl : k = feet := by omega
    have hz := andn_zero (x := want) (y := now) hw
    have hr2 : r = true ↔ andn want now = 0 := hr.trans (by rw [hz]; exact forall_congr' fun i => imp_congr_right fun _ => (h3 i).symm)
    by_cases c : andn want now = 0
    · obtain rfl := hr2.2 c
      simp (disch := first | assumption | omega | rfl | simp only [RH]) only [↓RP, RG, FX, RQ, ↓reduceIte, Nat.reduceEqDiff, reduceCtorEq, Nat.reduceBEq, Nat.reduceAdd, Nat.reduceLeDiff, andn16]
      rw [resVal_1 rfl]; simp (disch := first | assumption | omega | rfl | simp only [RH]) only [↓RP, RG, FX, RQ, ↓reduceIte, Nat.reduceEqDiff, reduceCtorEq, Nat.reduceBEq, Nat.reduceAdd, Nat.reduceLeDiff, RS]
      first | done | simp [c]
    · obtain rfl : r = false := by cases r with | false => rfl | true => exact absurd (hr2.1 rfl) c
      simp (disch := first | assumption | omega | rfl | simp only [RH]) only [↓RP, RG, FX, RQ, ↓reduceIte, Nat.reduceEqDiff, reduceCtorEq, Nat.reduceBEq, Nat.reduceAdd, Nat.reduceLeDiff, andn16]
      rw [resVal_1 rfl]; simp (disch := first | assumption | omega | rfl | simp only [RH]) only [↓RP, RG, FX, RQ, ↓reduceIte, Nat.reduceEqDiff, reduceCtorEq, Nat.reduceBEq, Nat.reduceAdd, Nat.reduceLeDiff, RS]
      first | done | simp [c]
end Go.Proofs.YtlckfakifamjiaaDoor

/- The least tie-up, by the program. -/
set_option linter.unusedSimpArgs false
set_option linter.unusedVariables false
set_option maxRecDepth 100000
namespace Go.Proofs.YtlckfakifamjiaaDoor
open Go Go.Proofs Go.AW

open Classical in
/-- The best of the first k families without the empty set. -/
noncomputable def bst (L : List Nat) (feet : Nat) : Nat → Option (List Nat)
  | 0 => none
  | k + 1 => match bst L feet k with
    | none => if Cov (bitsL (2 * k)) L feet then some (bitsL (2 * k)) else none
    | some T => if btr (bitsL (2 * k)) T ∧ Cov (bitsL (2 * k)) L feet then some (bitsL (2 * k)) else some T
theorem bst_ok (L : List Nat) (feet : Nat) : ∀ k, (bst L feet k = none → ∀ j, j < k → ¬ Cov (bitsL (2 * j)) L feet) ∧ ∀ T, bst L feet k = some T → (∃ j, j < k ∧ T = bitsL (2 * j)) ∧ Cov T L feet ∧ ∀ j, j < k → Cov (bitsL (2 * j)) L feet → ¬ btr (bitsL (2 * j)) T := by
  intro k
  induction k with
  | zero => exact ⟨fun _ j hj => by omega, fun T h => absurd h (by simp [bst])⟩
  | succ k ih =>
    simp only [bst]
    cases hb : bst L feet k with
    | none =>
      have h1 := ih.1 hb
      simp only
      by_cases hc : Cov (bitsL (2 * k)) L feet
      · rw [if_pos hc]
        refine ⟨fun h => absurd h (by simp), fun T h => ?_⟩
        cases h
        refine ⟨⟨k, by omega, rfl⟩, hc, fun j hj hcj hbt => ?_⟩
        by_cases e : j = k
        · subst e; exact btr_irr _ hbt
        · exact h1 j (by omega) hcj
      · rw [if_neg hc]
        refine ⟨fun _ j hj => ?_, fun T h => absurd h (by simp)⟩
        by_cases e : j = k
        · subst e; exact hc
        · exact h1 j (by omega)
    | some T =>
      obtain ⟨⟨j0, a1, a2⟩, a3, a4⟩ := ih.2 T hb
      simp only
      by_cases hc : btr (bitsL (2 * k)) T ∧ Cov (bitsL (2 * k)) L feet
      · rw [if_pos hc]
        refine ⟨fun h => absurd h (by simp), fun T' h => ?_⟩
        cases h
        refine ⟨⟨k, by omega, rfl⟩, hc.2, fun j hj hcj hbt => ?_⟩
        by_cases e : j = k
        · subst e; exact btr_irr _ hbt
        · exact a4 j (by omega) hcj (btr_trans hbt hc.1)
      · rw [if_neg hc]
        refine ⟨fun h => absurd h (by simp), fun T' h => ?_⟩
        cases h
        refine ⟨⟨j0, by omega, a2⟩, a3, fun j hj hcj hbt => ?_⟩
        by_cases e : j = k
        · subst e; exact hc ⟨hbt, hcj⟩
        · exact a4 j (by omega) hcj hbt
theorem half_pow {s : Nat} : 2 * (2 ^ (2 ^ s) / 2) = 2 ^ (2 ^ s) := by
  have h1 : 2 ^ s = 2 ^ s - 1 + 1 := by have := Nat.two_pow_pos s; omega
  rw [h1, Nat.pow_succ]; omega
theorem nz_cov {s : Nat} {L : List Nat} (hl : ∀ x ∈ L, x < 2 ^ s) {feet : Nat} (hf : 1 ≤ feet) : Cov (nzL s L) L feet := fun x hx => Rk_le hf (Rk_one.2 (by
  by_cases h : x = 0
  · exact .inl h
  · exact .inr (mem_nz.2 ⟨hl x hx, by omega, hx⟩)))
theorem bst_lst {s : Nat} (hs : s ≤ 4) {L : List Nat} (hl : ∀ x ∈ L, x < 2 ^ s) {feet : Nat} (hf : 1 ≤ feet) : ∃ T, bst L feet (2 ^ (2 ^ s) / 2) = some T ∧ Lst s L feet T := by
  have hh := half_pow (s := s)
  have fam : ∀ v, Tie s v → ∃ j, j < 2 ^ (2 ^ s) / 2 ∧ v = bitsL (2 * j) := fun v hv => by
    obtain ⟨h1, h2, h3⟩ := famN_ok hs hv
    refine ⟨famN v / 2, by omega, ?_⟩
    rw [show 2 * (famN v / 2) = famN v by omega, h3]
  cases hb : bst L feet (2 ^ (2 ^ s) / 2) with
  | none =>
    obtain ⟨j, h1, h2⟩ := fam _ (nz_tie s L)
    have := (bst_ok L feet _).1 hb j h1
    rw [← h2] at this
    exact absurd (nz_cov hl hf) this
  | some T =>
    obtain ⟨⟨j, a1, a2⟩, a3, a4⟩ := (bst_ok L feet _).2 T hb
    refine ⟨T, rfl, ⟨by rw [a2]; exact tie_bits (by omega) (by omega), a3, fun v hv hc => ?_⟩⟩
    obtain ⟨i, h1, h2⟩ := fam v hv
    rw [h2] at hc ⊢
    exact a4 i h1 hc
/-- The list found so far. -/
noncomputable def fv : Option (List Nat) → AVal
  | none => .cap0 true
  | some T => gw false 0 (ints (nI T))
noncomputable def fh : Option (List Nat) → List AObj
  | none => []
  | some T => [go 3 (ints (nI T))]
theorem least_c {s : Nat} (hs1 : 1 ≤ s) (hs4 : s ≤ 4) (b : Bool) {L : List Nat} (hn : L.length ≤ 1000) (hl : ∀ x ∈ L, x < 2 ^ s) {feet : Nat} (hf1 : 1 ≤ feet) (hf4 : feet ≤ 4) {T : List Nat} (hT : Lst s L feet T) :
    Contract Tryd.prog 19 [I s, LA b (nI L), I feet] (.tuple [LR false (nI T), I 0]) := by
  classical
  obtain ⟨p1, p2⟩ := pow4 hs4
  have hlg : ∀ i, i < L.length → L.getD i 0 < 2 ^ s := fun i hi => hl _ (by rw [List.getD_eq_getElem?_getD, List.getElem?_eq_getElem hi]; exact List.getElem_mem hi)
  have hL := nI_len L
  have hin : inR s (nI L) := fun i hi => by
    rw [hL] at hi
    rw [nI_get]
    have := hlg i hi
    omega
  have hfe := feet_c (feet : Int)
  rw [decide_eq_true (by omega)] at hfe
  have hse := sets_c hs4 b (nI L) (by omega) true ⟨fun _ => hin, fun _ => rfl⟩
  have hga := gath_c b hn (fun i hi => by have := hlg i hi; omega)
  have hgl := gK_lt (l := L) (fun i hi => by have := hlg i hi; omega) L.length (Nat.le_refl _)
  have hgb : ∀ i, (gK L L.length).testBit i = true ↔ i ∈ L := fun i => by
    rw [gK_bit, List.mem_iff_getElem]
    constructor
    · rintro ⟨j, hj, h⟩; exact ⟨j, hj, by rw [List.getD_eq_getElem?_getD, List.getElem?_eq_getElem hj] at h; exact h⟩
    · rintro ⟨j, hj, h⟩; exact ⟨j, hj, by rw [List.getD_eq_getElem?_getD, List.getElem?_eq_getElem hj]; exact h⟩
  obtain ⟨T', hb, hT'⟩ := bst_lst hs4 hl hf1
  obtain rfl := lst_unique hT hT'
  have hm : 2 ^ (2 ^ s) ≤ 65536 := by
    have := Nat.pow_le_pow_right (show 0 < 2 by omega) p1
    simpa using this
  have hh := half_pow (s := s)
  have hsu := shlU (n := s) (by omega)
  have hsi := shl64 (n := 2 ^ s) p1
  obtain ⟨T41, hT41, hk41⟩ := kU16
  obtain ⟨T42, hT42, hk42⟩ := kFam
  obtain ⟨T3, hT3, hk3⟩ := kInt
  generalize hM : 2 ^ (2 ^ s) = M at *
  generalize hq : 2 ^ s = q at *
  generalize hw : gK L L.length = want at *
  refine Contract.intro (effS [] false) 6 follows Tryd.func19 rfl rfl (by kernel_rfl) (Nat.le_of_ble_eq_true rfl) ?_
  simp (disch := first | assumption | omega | rfl | simp only [RH]) only [↓RP, RG, FX, RQ, ↓reduceIte, Nat.reduceEqDiff, reduceCtorEq, Nat.reduceBEq, Nat.reduceAdd, Nat.reduceLeDiff, args0_3]
  refine callK_F 6 (hfe) (by simp (disch := first | assumption | omega | rfl | simp only [RH]) only [↓RP, RG, FX, RQ, ↓reduceIte, Nat.reduceEqDiff, reduceCtorEq, Nat.reduceBEq, Nat.reduceAdd, Nat.reduceLeDiff, RA] <;> rfl) (.inl (by simp [allFresh, ints_fresh, bools_fresh])) ?_
  simp (disch := first | assumption | omega | rfl | simp only [RH]) only [↓RP, RG, FX, RQ, ↓reduceIte, Nat.reduceEqDiff, reduceCtorEq, Nat.reduceBEq, Nat.reduceAdd, Nat.reduceLeDiff]
  refine callK_F 6 (hse) (by simp (disch := first | assumption | omega | rfl | simp only [RH]) only [↓RP, RG, FX, RQ, ↓reduceIte, Nat.reduceEqDiff, reduceCtorEq, Nat.reduceBEq, Nat.reduceAdd, Nat.reduceLeDiff, RA] <;> rfl) (.inl (by simp [allFresh, ints_fresh, bools_fresh])) ?_
  simp (disch := first | assumption | omega | rfl | simp only [RH]) only [↓RP, RG, FX, RQ, ↓reduceIte, Nat.reduceEqDiff, reduceCtorEq, Nat.reduceBEq, Nat.reduceAdd, Nat.reduceLeDiff]
  refine callK_F 6 (hga) (by simp (disch := first | assumption | omega | rfl | simp only [RH]) only [↓RP, RG, FX, RQ, ↓reduceIte, Nat.reduceEqDiff, reduceCtorEq, Nat.reduceBEq, Nat.reduceAdd, Nat.reduceLeDiff, RA] <;> rfl) (.inl (by simp [allFresh, ints_fresh, bools_fresh])) ?_
  simp (disch := first | assumption | omega | rfl | simp only [RH]) only [↓RP, RG, FX, RQ, ↓reduceIte, Nat.reduceEqDiff, reduceCtorEq, Nat.reduceBEq, Nat.reduceAdd, Nat.reduceLeDiff]
  refine loopK_WW [0, 2, 8, 9, 10] (fun k : Nat => k ≤ M / 2) (fun k => ⟨[(0, I s), (2, I feet), (8, .val (.int .u16 (want : Int))), (9, fv (bst L feet k)), (10, I ((2 * k : Nat) : Int))], fh (bst L feet k)⟩) (fun k => M / 2 - k) 0 (by omega) (Wk.of_eq (by simp only [↓RP, RG, FX, RQ, ↓reduceIte, Nat.reduceEqDiff, reduceCtorEq, Nat.reduceBEq, Nat.reduceAdd, Nat.reduceLeDiff]; rfl)) ?_
  intro k hk
  by_cases hlt : k < M / 2
  · have h2k : 2 * k < 65536 := by omega
    have w1 : IntKind.u16.wrap ((2 * k : Nat) : Int) = ((2 * k : Nat) : Int) := wr16 h2k
    have hon := ones_c (2 * k) h2k
    have hnu := numbers_c h2k
    have hle : (bitsL (2 * k)).length ≤ 16 := by unfold bitsL; exact Nat.le_trans (List.length_filter_le _ _) (by simp)
    have hbl : ∀ i, i < (bitsL (2 * k)).length → (bitsL (2 * k)).getD i 0 < 16 := fun i hi => by
      have : (bitsL (2 * k)).getD i 0 ∈ bitsL (2 * k) := by rw [List.getD_eq_getElem?_getD, List.getElem?_eq_getElem hi]; exact List.getElem_mem hi
      exact (mem_bitsL.1 this).1
    have hco := fun bb => covers_c bb (tie := bitsL (2 * k)) (by omega) hbl hgl hf4 (decide (Cov (bitsL (2 * k)) L feet)) (decide_eq_true_iff.trans ⟨fun h i hi => h i ((hgb i).1 hi), fun h x hx => h x ((hgb x).2 hx)⟩)
    have hstep : bst L feet (k + 1) = match bst L feet k with
      | none => if Cov (bitsL (2 * k)) L feet then some (bitsL (2 * k)) else none
      | some T => if btr (bitsL (2 * k)) T ∧ Cov (bitsL (2 * k)) L feet then some (bitsL (2 * k)) else some T := rfl
    have hU := nI_len (bitsL (2 * k))
    have hcn : ((2 * k : Nat) : Int) + 2 = ((2 * (k + 1) : Nat) : Int) := by omega
    cases hbk : bst L feet k with
    | none =>
      rw [hbk] at hstep
      simp only at hstep
      by_cases hc : Cov (bitsL (2 * k)) L feet
      · rw [if_pos hc] at hstep
        rw [decide_eq_true hc] at hco
        generalize bitsL (2 * k) = U at *
        generalize h2 : 2 * k = K at *
        simp (disch := first | assumption | omega | rfl | simp only [RH]) only [↓RP, RG, FX, RQ, ↓reduceIte, Nat.reduceEqDiff, reduceCtorEq, Nat.reduceBEq, Nat.reduceAdd, Nat.reduceLeDiff, fv, fh, aBin_shl, hsu, hsi, hT41, hk41, hT3, w1, Bool.false_and]
        refine callK_F 6 (hon) (by simp (disch := first | assumption | omega | rfl | simp only [RH]) only [↓RP, RG, FX, RQ, ↓reduceIte, Nat.reduceEqDiff, reduceCtorEq, Nat.reduceBEq, Nat.reduceAdd, Nat.reduceLeDiff, RA] <;> rfl) (.inl (by simp [allFresh, ints_fresh, bools_fresh])) ?_
        simp (disch := first | assumption | omega | rfl | simp only [RH]) only [↓RP, RG, FX, RQ, ↓reduceIte, Nat.reduceEqDiff, reduceCtorEq, Nat.reduceBEq, Nat.reduceAdd, Nat.reduceLeDiff, hT42, hk42, hT3, w1, Bool.false_and]
        refine callK_F 6 hnu (by simp (disch := first | assumption | omega | rfl | simp only [RH]) only [↓RP, RG, FX, RQ, ↓reduceIte, Nat.reduceEqDiff, reduceCtorEq, Nat.reduceBEq, Nat.reduceAdd, Nat.reduceLeDiff, RA] <;> rfl) (.inl (by simp [allFresh, ints_fresh])) ?_
        simp (disch := first | assumption | omega | rfl | simp only [RH]) only [↓RP, RG, FX, RQ, ↓reduceIte, Nat.reduceEqDiff, reduceCtorEq, Nat.reduceBEq, Nat.reduceAdd, Nat.reduceLeDiff]
        refine callK_F 6 (hco _) (by simp (disch := first | assumption | omega | rfl | simp only [RH]) only [↓RP, RG, FX, RQ, ↓reduceIte, Nat.reduceEqDiff, reduceCtorEq, Nat.reduceBEq, Nat.reduceAdd, Nat.reduceLeDiff, RA] <;> rfl) (.inl rfl) ?_
        simp (disch := first | assumption | omega | rfl | simp only [RH]) only [↓RP, RG, FX, RQ, ↓reduceIte, Nat.reduceEqDiff, reduceCtorEq, Nat.reduceBEq, Nat.reduceAdd, Nat.reduceLeDiff, copy_ints]
        exact ⟨k + 1, hlt, Wk.of_eq (by rw [hstep, ← hcn]; rfl), by omega⟩
      · rw [if_neg hc] at hstep
        rw [decide_eq_false hc] at hco
        generalize bitsL (2 * k) = U at *
        generalize h2 : 2 * k = K at *
        simp (disch := first | assumption | omega | rfl | simp only [RH]) only [↓RP, RG, FX, RQ, ↓reduceIte, Nat.reduceEqDiff, reduceCtorEq, Nat.reduceBEq, Nat.reduceAdd, Nat.reduceLeDiff, fv, fh, aBin_shl, hsu, hsi, hT41, hk41, hT3, w1, Bool.false_and]
        refine callK_F 6 (hon) (by simp (disch := first | assumption | omega | rfl | simp only [RH]) only [↓RP, RG, FX, RQ, ↓reduceIte, Nat.reduceEqDiff, reduceCtorEq, Nat.reduceBEq, Nat.reduceAdd, Nat.reduceLeDiff, RA] <;> rfl) (.inl (by simp [allFresh, ints_fresh, bools_fresh])) ?_
        simp (disch := first | assumption | omega | rfl | simp only [RH]) only [↓RP, RG, FX, RQ, ↓reduceIte, Nat.reduceEqDiff, reduceCtorEq, Nat.reduceBEq, Nat.reduceAdd, Nat.reduceLeDiff, hT42, hk42, hT3, w1, Bool.false_and]
        refine callK_F 6 hnu (by simp (disch := first | assumption | omega | rfl | simp only [RH]) only [↓RP, RG, FX, RQ, ↓reduceIte, Nat.reduceEqDiff, reduceCtorEq, Nat.reduceBEq, Nat.reduceAdd, Nat.reduceLeDiff, RA] <;> rfl) (.inl (by simp [allFresh, ints_fresh])) ?_
        simp (disch := first | assumption | omega | rfl | simp only [RH]) only [↓RP, RG, FX, RQ, ↓reduceIte, Nat.reduceEqDiff, reduceCtorEq, Nat.reduceBEq, Nat.reduceAdd, Nat.reduceLeDiff]
        refine callK_F 6 (hco _) (by simp (disch := first | assumption | omega | rfl | simp only [RH]) only [↓RP, RG, FX, RQ, ↓reduceIte, Nat.reduceEqDiff, reduceCtorEq, Nat.reduceBEq, Nat.reduceAdd, Nat.reduceLeDiff, RA] <;> rfl) (.inl rfl) ?_
        simp (disch := first | assumption | omega | rfl | simp only [RH]) only [↓RP, RG, FX, RQ, ↓reduceIte, Nat.reduceEqDiff, reduceCtorEq, Nat.reduceBEq, Nat.reduceAdd, Nat.reduceLeDiff]
        exact ⟨k + 1, hlt, Wk.of_eq (by rw [hstep, ← hcn]; rfl), by omega⟩
    | some T1 =>
      rw [hbk] at hstep
      simp only at hstep
      have hT1 : T1.length ≤ 16 := by
        obtain ⟨⟨j, _, e⟩, _⟩ := (bst_ok L feet k).2 T1 hbk
        rw [e]; unfold bitsL; exact Nat.le_trans (List.length_filter_le _ _) (by simp)
      have hl1 := nI_len T1
      have hcm := compare_c (nI (bitsL (2 * k))).isEmpty false (bitsL (2 * k)) T1 (by omega) (by omega)
      have hcn2 := cmpL_neg (bitsL (2 * k)) T1
      by_cases h0 : T1.length = 0
      · obtain rfl : T1 = [] := List.eq_nil_of_length_eq_zero h0
        have hnv : fv (some []) = .cap0 false := rfl
        have hnh : fh (some []) = [go 3 []] := rfl
        rw [if_neg (fun h => by
          rcases h.1 with g | ⟨g1, g2⟩
          · simp at g
          · rw [List.eq_nil_of_length_eq_zero g1] at g2; exact g2)] at hstep
        have hc0 : (bitsL (2 * k)).length = 0 → ¬ cmpL (bitsL (2 * k)) [] < 0 := fun h => by rw [List.eq_nil_of_length_eq_zero h]; simp [cmpL]
        by_cases c1 : 0 < (bitsL (2 * k)).length
        · skip
          generalize bitsL (2 * k) = U at *
          generalize h2 : 2 * k = K at *
          simp (disch := first | assumption | omega | rfl | simp only [RH]) only [↓RP, RG, FX, RQ, ↓reduceIte, Nat.reduceEqDiff, reduceCtorEq, Nat.reduceBEq, Nat.reduceAdd, Nat.reduceLeDiff, hnv, hnh, aBin_shl, hsu, hsi, hT41, hk41, hT3, w1, hT42, hk42]
          refine callK_F 6 (hon) (by simp (disch := first | assumption | omega | rfl | simp only [RH]) only [↓RP, RG, FX, RQ, ↓reduceIte, Nat.reduceEqDiff, reduceCtorEq, Nat.reduceBEq, Nat.reduceAdd, Nat.reduceLeDiff, RA] <;> rfl) (.inl (by simp [allFresh, ints_fresh, bools_fresh])) ?_
          simp (disch := first | assumption | omega | rfl | simp only [RH]) only [↓RP, RG, FX, RQ, ↓reduceIte, Nat.reduceEqDiff, reduceCtorEq, Nat.reduceBEq, Nat.reduceAdd, Nat.reduceLeDiff]
          exact ⟨k + 1, hlt, Wk.of_eq (by rw [hstep, ← hcn]; rfl), by omega⟩
        · have c4 := hc0 (by omega)
          generalize bitsL (2 * k) = U at *
          generalize h2 : 2 * k = K at *
          generalize cmpL U [] = cv at *
          simp (disch := first | assumption | omega | rfl | simp only [RH]) only [↓RP, RG, FX, RQ, ↓reduceIte, Nat.reduceEqDiff, reduceCtorEq, Nat.reduceBEq, Nat.reduceAdd, Nat.reduceLeDiff, hnv, hnh, aBin_shl, hsu, hsi, hT41, hk41, hT3, w1, hT42, hk42]
          refine callK_F 6 (hon) (by simp (disch := first | assumption | omega | rfl | simp only [RH]) only [↓RP, RG, FX, RQ, ↓reduceIte, Nat.reduceEqDiff, reduceCtorEq, Nat.reduceBEq, Nat.reduceAdd, Nat.reduceLeDiff, RA] <;> rfl) (.inl (by simp [allFresh, ints_fresh, bools_fresh])) ?_
          simp (disch := first | assumption | omega | rfl | simp only [RH]) only [↓RP, RG, FX, RQ, ↓reduceIte, Nat.reduceEqDiff, reduceCtorEq, Nat.reduceBEq, Nat.reduceAdd, Nat.reduceLeDiff, hT41, hk41, hT3, w1, hT42, hk42]
          refine callK_F 6 hnu (by simp (disch := first | assumption | omega | rfl | simp only [RH]) only [↓RP, RG, FX, RQ, ↓reduceIte, Nat.reduceEqDiff, reduceCtorEq, Nat.reduceBEq, Nat.reduceAdd, Nat.reduceLeDiff, RA] <;> rfl) (.inl (by simp [allFresh, ints_fresh])) ?_
          simp (disch := first | assumption | omega | rfl | simp only [RH]) only [↓RP, RG, FX, RQ, ↓reduceIte, Nat.reduceEqDiff, reduceCtorEq, Nat.reduceBEq, Nat.reduceAdd, Nat.reduceLeDiff]
          refine callK_F 6 hcm (by simp (disch := first | assumption | omega | rfl | simp only [RH]) only [↓RP, RG, FX, RQ, ↓reduceIte, Nat.reduceEqDiff, reduceCtorEq, Nat.reduceBEq, Nat.reduceAdd, Nat.reduceLeDiff, RA] <;> rfl) (.inl rfl) ?_
          simp (disch := first | assumption | omega | rfl | simp only [RH]) only [↓RP, RG, FX, RQ, ↓reduceIte, Nat.reduceEqDiff, reduceCtorEq, Nat.reduceBEq, Nat.reduceAdd, Nat.reduceLeDiff]
          exact ⟨k + 1, hlt, Wk.of_eq (by rw [hstep, ← hcn]; rfl), by omega⟩
      have hp : 0 < (ints (nI T1)).length := by rw [ints_length, hl1]; omega
      by_cases c1 : T1.length < (bitsL (2 * k)).length
      · rw [if_neg (fun h => by rcases h.1 with g | ⟨g, _⟩ <;> omega)] at hstep
        generalize bitsL (2 * k) = U at *
        generalize h2 : 2 * k = K at *
        simp (disch := first | assumption | omega | rfl | simp only [RH]) only [↓RP, RG, FX, RQ, ↓reduceIte, Nat.reduceEqDiff, reduceCtorEq, Nat.reduceBEq, Nat.reduceAdd, Nat.reduceLeDiff, fv, fh, gw_pos hp, go_pos hp, aBin_shl, hsu, hsi, hT41, hk41, hT3, w1, hT42, hk42]
        refine callK_F 6 (hon) (by simp (disch := first | assumption | omega | rfl | simp only [RH]) only [↓RP, RG, FX, RQ, ↓reduceIte, Nat.reduceEqDiff, reduceCtorEq, Nat.reduceBEq, Nat.reduceAdd, Nat.reduceLeDiff, RA] <;> rfl) (.inl (by simp [allFresh, ints_fresh, bools_fresh])) ?_
        simp (disch := first | assumption | omega | rfl | simp only [RH]) only [↓RP, RG, FX, RQ, ↓reduceIte, Nat.reduceEqDiff, reduceCtorEq, Nat.reduceBEq, Nat.reduceAdd, Nat.reduceLeDiff]
        exact ⟨k + 1, hlt, Wk.of_eq (by rw [hstep, ← hcn]; simp only [fv, fh, gw_pos hp, go_pos hp, ints_length, hl1]), by omega⟩
      · by_cases c2 : (bitsL (2 * k)).length < T1.length
        · by_cases hc : Cov (bitsL (2 * k)) L feet
          · rw [if_pos ⟨.inl c2, hc⟩] at hstep
            rw [decide_eq_true hc] at hco
            generalize bitsL (2 * k) = U at *
            generalize h2 : 2 * k = K at *
            simp (disch := first | assumption | omega | rfl | simp only [RH]) only [↓RP, RG, FX, RQ, ↓reduceIte, Nat.reduceEqDiff, reduceCtorEq, Nat.reduceBEq, Nat.reduceAdd, Nat.reduceLeDiff, fv, fh, gw_pos hp, go_pos hp, aBin_shl, hsu, hsi, hT41, hk41, hT3, w1, hT42, hk42]
            refine callK_F 6 (hon) (by simp (disch := first | assumption | omega | rfl | simp only [RH]) only [↓RP, RG, FX, RQ, ↓reduceIte, Nat.reduceEqDiff, reduceCtorEq, Nat.reduceBEq, Nat.reduceAdd, Nat.reduceLeDiff, RA] <;> rfl) (.inl (by simp [allFresh, ints_fresh, bools_fresh])) ?_
            simp (disch := first | assumption | omega | rfl | simp only [RH]) only [↓RP, RG, FX, RQ, ↓reduceIte, Nat.reduceEqDiff, reduceCtorEq, Nat.reduceBEq, Nat.reduceAdd, Nat.reduceLeDiff, hT41, hk41, hT3, w1, hT42, hk42]
            refine callK_F 6 hnu (by simp (disch := first | assumption | omega | rfl | simp only [RH]) only [↓RP, RG, FX, RQ, ↓reduceIte, Nat.reduceEqDiff, reduceCtorEq, Nat.reduceBEq, Nat.reduceAdd, Nat.reduceLeDiff, RA] <;> rfl) (.inl (by simp [allFresh, ints_fresh])) ?_
            simp (disch := first | assumption | omega | rfl | simp only [RH]) only [↓RP, RG, FX, RQ, ↓reduceIte, Nat.reduceEqDiff, reduceCtorEq, Nat.reduceBEq, Nat.reduceAdd, Nat.reduceLeDiff]
            refine callK_F 6 (hco _) (by simp (disch := first | assumption | omega | rfl | simp only [RH]) only [↓RP, RG, FX, RQ, ↓reduceIte, Nat.reduceEqDiff, reduceCtorEq, Nat.reduceBEq, Nat.reduceAdd, Nat.reduceLeDiff, RA] <;> rfl) (.inl rfl) ?_
            simp (disch := first | assumption | omega | rfl | simp only [RH]) only [↓RP, RG, FX, RQ, ↓reduceIte, Nat.reduceEqDiff, reduceCtorEq, Nat.reduceBEq, Nat.reduceAdd, Nat.reduceLeDiff, copy_ints]
            exact ⟨k + 1, hlt, (Wk.drop (hb := []) (h1 := []) (gs := [_, _]) 8 [1] rfl (by decide) (by simp) (by simp)).trans (Wk.of_eq (by rw [hstep, ← hcn]; simp only [RK, List.idxOf?_cons, List.idxOf?_nil, Nat.reduceBEq, Option.map_some, Option.map_none, List.map_cons, List.map_nil, List.getD_cons_zero, List.getD_cons_succ, Bool.false_eq_true, ↓reduceIte, Nat.add_zero, List.append_nil]; rfl)), by omega⟩
          · rw [if_neg (fun h => hc h.2)] at hstep
            rw [decide_eq_false hc] at hco
            generalize bitsL (2 * k) = U at *
            generalize h2 : 2 * k = K at *
            simp (disch := first | assumption | omega | rfl | simp only [RH]) only [↓RP, RG, FX, RQ, ↓reduceIte, Nat.reduceEqDiff, reduceCtorEq, Nat.reduceBEq, Nat.reduceAdd, Nat.reduceLeDiff, fv, fh, gw_pos hp, go_pos hp, aBin_shl, hsu, hsi, hT41, hk41, hT3, w1, hT42, hk42]
            refine callK_F 6 (hon) (by simp (disch := first | assumption | omega | rfl | simp only [RH]) only [↓RP, RG, FX, RQ, ↓reduceIte, Nat.reduceEqDiff, reduceCtorEq, Nat.reduceBEq, Nat.reduceAdd, Nat.reduceLeDiff, RA] <;> rfl) (.inl (by simp [allFresh, ints_fresh, bools_fresh])) ?_
            simp (disch := first | assumption | omega | rfl | simp only [RH]) only [↓RP, RG, FX, RQ, ↓reduceIte, Nat.reduceEqDiff, reduceCtorEq, Nat.reduceBEq, Nat.reduceAdd, Nat.reduceLeDiff, hT41, hk41, hT3, w1, hT42, hk42]
            refine callK_F 6 hnu (by simp (disch := first | assumption | omega | rfl | simp only [RH]) only [↓RP, RG, FX, RQ, ↓reduceIte, Nat.reduceEqDiff, reduceCtorEq, Nat.reduceBEq, Nat.reduceAdd, Nat.reduceLeDiff, RA] <;> rfl) (.inl (by simp [allFresh, ints_fresh])) ?_
            simp (disch := first | assumption | omega | rfl | simp only [RH]) only [↓RP, RG, FX, RQ, ↓reduceIte, Nat.reduceEqDiff, reduceCtorEq, Nat.reduceBEq, Nat.reduceAdd, Nat.reduceLeDiff]
            refine callK_F 6 (hco _) (by simp (disch := first | assumption | omega | rfl | simp only [RH]) only [↓RP, RG, FX, RQ, ↓reduceIte, Nat.reduceEqDiff, reduceCtorEq, Nat.reduceBEq, Nat.reduceAdd, Nat.reduceLeDiff, RA] <;> rfl) (.inl rfl) ?_
            simp (disch := first | assumption | omega | rfl | simp only [RH]) only [↓RP, RG, FX, RQ, ↓reduceIte, Nat.reduceEqDiff, reduceCtorEq, Nat.reduceBEq, Nat.reduceAdd, Nat.reduceLeDiff]
            exact ⟨k + 1, hlt, Wk.of_eq (by rw [hstep, ← hcn]; simp only [fv, fh, gw_pos hp, go_pos hp, ints_length, hl1]), by omega⟩
        · have c3 : (bitsL (2 * k)).length = T1.length := by omega
          by_cases c4 : cmpL (bitsL (2 * k)) T1 < 0
          · have hbt : btr (bitsL (2 * k)) T1 := .inr ⟨c3, hcn2.1 c4⟩
            by_cases hc : Cov (bitsL (2 * k)) L feet
            · rw [if_pos ⟨hbt, hc⟩] at hstep
              rw [decide_eq_true hc] at hco
              generalize bitsL (2 * k) = U at *
              generalize h2 : 2 * k = K at *
              generalize cmpL U T1 = cv at *
              simp (disch := first | assumption | omega | rfl | simp only [RH]) only [↓RP, RG, FX, RQ, ↓reduceIte, Nat.reduceEqDiff, reduceCtorEq, Nat.reduceBEq, Nat.reduceAdd, Nat.reduceLeDiff, fv, fh, gw_pos hp, go_pos hp, aBin_shl, hsu, hsi, hT41, hk41, hT3, w1, hT42, hk42]
              refine callK_F 6 (hon) (by simp (disch := first | assumption | omega | rfl | simp only [RH]) only [↓RP, RG, FX, RQ, ↓reduceIte, Nat.reduceEqDiff, reduceCtorEq, Nat.reduceBEq, Nat.reduceAdd, Nat.reduceLeDiff, RA] <;> rfl) (.inl (by simp [allFresh, ints_fresh, bools_fresh])) ?_
              simp (disch := first | assumption | omega | rfl | simp only [RH]) only [↓RP, RG, FX, RQ, ↓reduceIte, Nat.reduceEqDiff, reduceCtorEq, Nat.reduceBEq, Nat.reduceAdd, Nat.reduceLeDiff, hT41, hk41, hT3, w1, hT42, hk42]
              refine callK_F 6 hnu (by simp (disch := first | assumption | omega | rfl | simp only [RH]) only [↓RP, RG, FX, RQ, ↓reduceIte, Nat.reduceEqDiff, reduceCtorEq, Nat.reduceBEq, Nat.reduceAdd, Nat.reduceLeDiff, RA] <;> rfl) (.inl (by simp [allFresh, ints_fresh])) ?_
              simp (disch := first | assumption | omega | rfl | simp only [RH]) only [↓RP, RG, FX, RQ, ↓reduceIte, Nat.reduceEqDiff, reduceCtorEq, Nat.reduceBEq, Nat.reduceAdd, Nat.reduceLeDiff]
              refine callK_F 6 hcm (by simp (disch := first | assumption | omega | rfl | simp only [RH]) only [↓RP, RG, FX, RQ, ↓reduceIte, Nat.reduceEqDiff, reduceCtorEq, Nat.reduceBEq, Nat.reduceAdd, Nat.reduceLeDiff, RA] <;> rfl) (.inl rfl) ?_
              simp (disch := first | assumption | omega | rfl | simp only [RH]) only [↓RP, RG, FX, RQ, ↓reduceIte, Nat.reduceEqDiff, reduceCtorEq, Nat.reduceBEq, Nat.reduceAdd, Nat.reduceLeDiff]
              refine callK_F 6 (hco _) (by simp (disch := first | assumption | omega | rfl | simp only [RH]) only [↓RP, RG, FX, RQ, ↓reduceIte, Nat.reduceEqDiff, reduceCtorEq, Nat.reduceBEq, Nat.reduceAdd, Nat.reduceLeDiff, RA] <;> rfl) (.inl rfl) ?_
              simp (disch := first | assumption | omega | rfl | simp only [RH]) only [↓RP, RG, FX, RQ, ↓reduceIte, Nat.reduceEqDiff, reduceCtorEq, Nat.reduceBEq, Nat.reduceAdd, Nat.reduceLeDiff, copy_ints]
              exact ⟨k + 1, hlt, (Wk.drop (hb := []) (h1 := []) (gs := [_, _]) 8 [1] rfl (by decide) (by simp) (by simp)).trans (Wk.of_eq (by rw [hstep, ← hcn]; simp only [RK, List.idxOf?_cons, List.idxOf?_nil, Nat.reduceBEq, Option.map_some, Option.map_none, List.map_cons, List.map_nil, List.getD_cons_zero, List.getD_cons_succ, Bool.false_eq_true, ↓reduceIte, Nat.add_zero, List.append_nil]; rfl)), by omega⟩
            · rw [if_neg (fun h => hc h.2)] at hstep
              rw [decide_eq_false hc] at hco
              generalize bitsL (2 * k) = U at *
              generalize h2 : 2 * k = K at *
              generalize cmpL U T1 = cv at *
              simp (disch := first | assumption | omega | rfl | simp only [RH]) only [↓RP, RG, FX, RQ, ↓reduceIte, Nat.reduceEqDiff, reduceCtorEq, Nat.reduceBEq, Nat.reduceAdd, Nat.reduceLeDiff, fv, fh, gw_pos hp, go_pos hp, aBin_shl, hsu, hsi, hT41, hk41, hT3, w1, hT42, hk42]
              refine callK_F 6 (hon) (by simp (disch := first | assumption | omega | rfl | simp only [RH]) only [↓RP, RG, FX, RQ, ↓reduceIte, Nat.reduceEqDiff, reduceCtorEq, Nat.reduceBEq, Nat.reduceAdd, Nat.reduceLeDiff, RA] <;> rfl) (.inl (by simp [allFresh, ints_fresh, bools_fresh])) ?_
              simp (disch := first | assumption | omega | rfl | simp only [RH]) only [↓RP, RG, FX, RQ, ↓reduceIte, Nat.reduceEqDiff, reduceCtorEq, Nat.reduceBEq, Nat.reduceAdd, Nat.reduceLeDiff, hT41, hk41, hT3, w1, hT42, hk42]
              refine callK_F 6 hnu (by simp (disch := first | assumption | omega | rfl | simp only [RH]) only [↓RP, RG, FX, RQ, ↓reduceIte, Nat.reduceEqDiff, reduceCtorEq, Nat.reduceBEq, Nat.reduceAdd, Nat.reduceLeDiff, RA] <;> rfl) (.inl (by simp [allFresh, ints_fresh])) ?_
              simp (disch := first | assumption | omega | rfl | simp only [RH]) only [↓RP, RG, FX, RQ, ↓reduceIte, Nat.reduceEqDiff, reduceCtorEq, Nat.reduceBEq, Nat.reduceAdd, Nat.reduceLeDiff]
              refine callK_F 6 hcm (by simp (disch := first | assumption | omega | rfl | simp only [RH]) only [↓RP, RG, FX, RQ, ↓reduceIte, Nat.reduceEqDiff, reduceCtorEq, Nat.reduceBEq, Nat.reduceAdd, Nat.reduceLeDiff, RA] <;> rfl) (.inl rfl) ?_
              simp (disch := first | assumption | omega | rfl | simp only [RH]) only [↓RP, RG, FX, RQ, ↓reduceIte, Nat.reduceEqDiff, reduceCtorEq, Nat.reduceBEq, Nat.reduceAdd, Nat.reduceLeDiff]
              refine callK_F 6 (hco _) (by simp (disch := first | assumption | omega | rfl | simp only [RH]) only [↓RP, RG, FX, RQ, ↓reduceIte, Nat.reduceEqDiff, reduceCtorEq, Nat.reduceBEq, Nat.reduceAdd, Nat.reduceLeDiff, RA] <;> rfl) (.inl rfl) ?_
              simp (disch := first | assumption | omega | rfl | simp only [RH]) only [↓RP, RG, FX, RQ, ↓reduceIte, Nat.reduceEqDiff, reduceCtorEq, Nat.reduceBEq, Nat.reduceAdd, Nat.reduceLeDiff]
              exact ⟨k + 1, hlt, Wk.of_eq (by rw [hstep, ← hcn]; simp only [fv, fh, gw_pos hp, go_pos hp, ints_length, hl1]), by omega⟩
          · rw [if_neg (fun h => by
              rcases h.1 with g | ⟨_, g⟩
              · omega
              · exact c4 (hcn2.2 g))] at hstep
            generalize bitsL (2 * k) = U at *
            generalize h2 : 2 * k = K at *
            generalize cmpL U T1 = cv at *
            simp (disch := first | assumption | omega | rfl | simp only [RH]) only [↓RP, RG, FX, RQ, ↓reduceIte, Nat.reduceEqDiff, reduceCtorEq, Nat.reduceBEq, Nat.reduceAdd, Nat.reduceLeDiff, fv, fh, gw_pos hp, go_pos hp, aBin_shl, hsu, hsi, hT41, hk41, hT3, w1, hT42, hk42]
            refine callK_F 6 (hon) (by simp (disch := first | assumption | omega | rfl | simp only [RH]) only [↓RP, RG, FX, RQ, ↓reduceIte, Nat.reduceEqDiff, reduceCtorEq, Nat.reduceBEq, Nat.reduceAdd, Nat.reduceLeDiff, RA] <;> rfl) (.inl (by simp [allFresh, ints_fresh, bools_fresh])) ?_
            simp (disch := first | assumption | omega | rfl | simp only [RH]) only [↓RP, RG, FX, RQ, ↓reduceIte, Nat.reduceEqDiff, reduceCtorEq, Nat.reduceBEq, Nat.reduceAdd, Nat.reduceLeDiff, hT41, hk41, hT3, w1, hT42, hk42]
            refine callK_F 6 hnu (by simp (disch := first | assumption | omega | rfl | simp only [RH]) only [↓RP, RG, FX, RQ, ↓reduceIte, Nat.reduceEqDiff, reduceCtorEq, Nat.reduceBEq, Nat.reduceAdd, Nat.reduceLeDiff, RA] <;> rfl) (.inl (by simp [allFresh, ints_fresh])) ?_
            simp (disch := first | assumption | omega | rfl | simp only [RH]) only [↓RP, RG, FX, RQ, ↓reduceIte, Nat.reduceEqDiff, reduceCtorEq, Nat.reduceBEq, Nat.reduceAdd, Nat.reduceLeDiff]
            refine callK_F 6 hcm (by simp (disch := first | assumption | omega | rfl | simp only [RH]) only [↓RP, RG, FX, RQ, ↓reduceIte, Nat.reduceEqDiff, reduceCtorEq, Nat.reduceBEq, Nat.reduceAdd, Nat.reduceLeDiff, RA] <;> rfl) (.inl rfl) ?_
            simp (disch := first | assumption | omega | rfl | simp only [RH]) only [↓RP, RG, FX, RQ, ↓reduceIte, Nat.reduceEqDiff, reduceCtorEq, Nat.reduceBEq, Nat.reduceAdd, Nat.reduceLeDiff]
            exact ⟨k + 1, hlt, Wk.of_eq (by rw [hstep, ← hcn]; simp only [fv, fh, gw_pos hp, go_pos hp, ints_length, hl1]), by omega⟩
  · obtain rfl : k = M / 2 := by omega
    rw [hb]
    simp (disch := first | assumption | omega | rfl | simp only [RH]) only [↓RP, RG, FX, RQ, ↓reduceIte, Nat.reduceEqDiff, reduceCtorEq, Nat.reduceBEq, Nat.reduceAdd, Nat.reduceLeDiff, fv, fh, aBin_shl, hsu, hsi]
    rw [resVal_2 rfl]; simp (disch := first | assumption | omega | rfl | simp only [RH]) only [↓RP, RG, FX, RQ, ↓reduceIte, Nat.reduceEqDiff, reduceCtorEq, Nat.reduceBEq, Nat.reduceAdd, Nat.reduceLeDiff, RS]
    first | done | simp
end Go.Proofs.YtlckfakifamjiaaDoor

/- Tables for the run of closed code. -/
set_option maxRecDepth 100000
set_option linter.unusedSimpArgs false
namespace Go.Proofs.YtlckfakifamjiaaDoor
open Go Go.Proofs Go.AW
end Go.Proofs.YtlckfakifamjiaaDoor

/- What a tie-up covers: the whole call; the examples; the law SkeletonLeast. -/
set_option linter.unusedSimpArgs false
set_option linter.unusedVariables false
set_option maxRecDepth 100000
namespace Go.Proofs.YtlckfakifamjiaaDoor
open Go Go.Proofs Go.AW

theorem toN_eq {l : List Int} (h : ∀ i, i < l.length → 0 ≤ l.getD i 0) : nI (l.map Int.toNat) = l := by
  unfold nI
  rw [List.map_map]
  apply List.ext_getElem (by simp)
  intro i h1 h2
  simp only [List.getElem_map, Function.comp]
  have := h i h2
  rw [List.getD_eq_getElem?_getD, List.getElem?_eq_getElem h2] at this
  have h3 : 0 ≤ l[i] := this
  omega
theorem inR_lt {s : Nat} {l : List Int} (h : inR s l) : ∀ x ∈ l.map Int.toNat, x < 2 ^ s := by
  intro x hx
  obtain ⟨i, hi, e⟩ := List.mem_iff_getElem.1 hx
  rw [List.length_map] at hi
  have := h i hi
  rw [List.getElem_map] at e
  rw [List.getD_eq_getElem?_getD, List.getElem?_eq_getElem hi] at this
  have h2 : 0 ≤ l[i] ∧ l[i] < ((2 ^ s : Nat) : Int) := this
  omega
theorem feetR_c (n : Int) : Contract Tryd.prog 26 [I n] (B (decide (1 ≤ n ∧ n ≤ 4))) := by
  by_cases c1 : 1 ≤ n
  · by_cases c2 : n ≤ 4
    · refine Contract.intro (effS [] false) 6 follows Tryd.func26 rfl rfl (by kernel_rfl) (Nat.le_of_ble_eq_true rfl) ?_
      simp (disch := first | assumption | omega | rfl | simp only [RH]) only [↓RP, RG, FX, RQ, ↓reduceIte, Nat.reduceEqDiff, reduceCtorEq, Nat.reduceBEq, Nat.reduceAdd, Nat.reduceLeDiff, args0_1]
      rw [resVal_1 rfl]; simp (disch := first | assumption | omega | rfl | simp only [RH]) only [↓RP, RG, FX, RQ, ↓reduceIte, Nat.reduceEqDiff, reduceCtorEq, Nat.reduceBEq, Nat.reduceAdd, Nat.reduceLeDiff, RS]
      first | done | simp [c1, c2]
    · refine Contract.intro (effS [] false) 6 follows Tryd.func26 rfl rfl (by kernel_rfl) (Nat.le_of_ble_eq_true rfl) ?_
      simp (disch := first | assumption | omega | rfl | simp only [RH]) only [↓RP, RG, FX, RQ, ↓reduceIte, Nat.reduceEqDiff, reduceCtorEq, Nat.reduceBEq, Nat.reduceAdd, Nat.reduceLeDiff, args0_1]
      rw [resVal_1 rfl]; simp (disch := first | assumption | omega | rfl | simp only [RH]) only [↓RP, RG, FX, RQ, ↓reduceIte, Nat.reduceEqDiff, reduceCtorEq, Nat.reduceBEq, Nat.reduceAdd, Nat.reduceLeDiff, RS]
      first | done | simp [c1, c2]
  · refine Contract.intro (effS [] false) 6 follows Tryd.func26 rfl rfl (by kernel_rfl) (Nat.le_of_ble_eq_true rfl) ?_
    simp (disch := first | assumption | omega | rfl | simp only [RH]) only [↓RP, RG, FX, RQ, ↓reduceIte, Nat.reduceEqDiff, reduceCtorEq, Nat.reduceBEq, Nat.reduceAdd, Nat.reduceLeDiff, args0_1]
    rw [resVal_1 rfl]; simp (disch := first | assumption | omega | rfl | simp only [RH]) only [↓RP, RG, FX, RQ, ↓reduceIte, Nat.reduceEqDiff, reduceCtorEq, Nat.reduceBEq, Nat.reduceAdd, Nat.reduceLeDiff, RS]
    first | done | simp [c1]
theorem setR_c {s : Nat} (hs : s ≤ 4) (x : Int) : Contract Tryd.prog 27 [I x, I s] (B (decide (0 ≤ x ∧ x < ((2 ^ s : Nat) : Int)))) := by
  obtain ⟨p1, p2⟩ := pow4 hs
  have hsh := shl64 (n := s) (by omega)
  generalize 2 ^ s = q at *
  by_cases c1 : 0 ≤ x
  · by_cases c2 : x < (q : Int)
    · refine Contract.intro (effS [] false) 6 follows Tryd.func27 rfl rfl (by kernel_rfl) (Nat.le_of_ble_eq_true rfl) ?_
      simp (disch := first | assumption | omega | rfl | simp only [RH]) only [↓RP, RG, FX, RQ, ↓reduceIte, Nat.reduceEqDiff, reduceCtorEq, Nat.reduceBEq, Nat.reduceAdd, Nat.reduceLeDiff, args0_2, aBin_shl, hsh]
      rw [resVal_1 rfl]; simp (disch := first | assumption | omega | rfl | simp only [RH]) only [↓RP, RG, FX, RQ, ↓reduceIte, Nat.reduceEqDiff, reduceCtorEq, Nat.reduceBEq, Nat.reduceAdd, Nat.reduceLeDiff, RS]
      first | done | simp [c1, c2]
    · refine Contract.intro (effS [] false) 6 follows Tryd.func27 rfl rfl (by kernel_rfl) (Nat.le_of_ble_eq_true rfl) ?_
      simp (disch := first | assumption | omega | rfl | simp only [RH]) only [↓RP, RG, FX, RQ, ↓reduceIte, Nat.reduceEqDiff, reduceCtorEq, Nat.reduceBEq, Nat.reduceAdd, Nat.reduceLeDiff, args0_2, aBin_shl, hsh]
      rw [resVal_1 rfl]; simp (disch := first | assumption | omega | rfl | simp only [RH]) only [↓RP, RG, FX, RQ, ↓reduceIte, Nat.reduceEqDiff, reduceCtorEq, Nat.reduceBEq, Nat.reduceAdd, Nat.reduceLeDiff, RS]
      first | done | simp [c1, c2]
  · refine Contract.intro (effS [] false) 6 follows Tryd.func27 rfl rfl (by kernel_rfl) (Nat.le_of_ble_eq_true rfl) ?_
    simp (disch := first | assumption | omega | rfl | simp only [RH]) only [↓RP, RG, FX, RQ, ↓reduceIte, Nat.reduceEqDiff, reduceCtorEq, Nat.reduceBEq, Nat.reduceAdd, Nat.reduceLeDiff, args0_2]
    rw [resVal_1 rfl]; simp (disch := first | assumption | omega | rfl | simp only [RH]) only [↓RP, RG, FX, RQ, ↓reduceIte, Nat.reduceEqDiff, reduceCtorEq, Nat.reduceBEq, Nat.reduceAdd, Nat.reduceLeDiff, RS]
    first | done | simp [c1]
end Go.Proofs.YtlckfakifamjiaaDoor

/- Pressings: the best one. Plain. -/
set_option linter.unusedSimpArgs false
set_option linter.unusedVariables false
set_option maxRecDepth 100000
namespace Go.Proofs.YtlckfakifamjiaaDoor
open Go Go.Proofs Go.AW

/-- All of the one are in the other. -/
def Sb (x y : Nat) : Prop := ∀ b, x.testBit b = true → y.testBit b = true
/-- The treadles u, and what is lifted already, lift just the lift. -/
def Lf (tie : List Nat) (lift done : Nat) (u : List Nat) : Prop := ∀ b, lift.testBit b = true ↔ done.testBit b = true ∨ ∃ i ∈ u, (tie.getD i 0).testBit b = true
/-- n treadles from an index on that do so. -/
structure Prs (tie : List Nat) (lift n done fr : Nat) (u : List Nat) : Prop where
  len : u.length = n
  inc : u.Pairwise (· < ·)
  low : ∀ i ∈ u, fr ≤ i ∧ i < tie.length
  lif : Lf tie lift done u
theorem lf_cons {tie : List Nat} {lift done i : Nat} {u : List Nat} : Lf tie lift done (i :: u) ↔ Lf tie lift (done ||| tie.getD i 0) u := by
  unfold Lf
  refine forall_congr' fun b => iff_congr Iff.rfl ?_
  rw [Nat.testBit_or, Bool.or_eq_true]
  constructor
  · rintro (h | ⟨j, hj, h⟩)
    · exact .inl (.inl h)
    · rcases List.mem_cons.1 hj with e | e
      · subst e; exact .inl (.inr h)
      · exact .inr ⟨j, e, h⟩
  · rintro ((h | h) | ⟨j, hj, h⟩)
    · exact .inl h
    · exact .inr ⟨i, List.mem_cons_self, h⟩
    · exact .inr ⟨j, List.mem_cons_of_mem _ hj, h⟩
theorem prs_cons {tie : List Nat} {lift n done fr i : Nat} {u : List Nat} : Prs tie lift (n + 1) done fr (i :: u) ↔ (fr ≤ i ∧ i < tie.length) ∧ Prs tie lift n (done ||| tie.getD i 0) (i + 1) u := by
  constructor
  · rintro ⟨h1, h2, h3, h4⟩
    have h2' := List.pairwise_cons.1 h2
    exact ⟨h3 i List.mem_cons_self, by simpa using h1, h2'.2, fun j hj => ⟨h2'.1 j hj, (h3 j (List.mem_cons_of_mem _ hj)).2⟩, lf_cons.1 h4⟩
  · rintro ⟨h0, h1, h2, h3, h4⟩
    refine ⟨by simp [h1], List.pairwise_cons.2 ⟨fun j hj => (h3 j hj).1, h2⟩, fun j hj => ?_, lf_cons.2 h4⟩
    rcases List.mem_cons.1 hj with e | e
    · subst e; exact h0
    · have := h3 j e; omega
/-- A list found: the first of all that do; none: there is none. -/
def Fst (tie : List Nat) (lift n done fr : Nat) (r : Option (List Nat)) : Prop := match r with
  | some u => Prs tie lift n done fr u ∧ ∀ v, Prs tie lift n done fr v → ¬ lexlt v u
  | none => ∀ v, ¬ Prs tie lift n done fr v
theorem fst_zero (tie : List Nat) (lift done fr : Nat) : Fst tie lift 0 done fr (if done = lift then some [] else none) := by
  by_cases h : done = lift
  · rw [if_pos h]
    refine ⟨⟨rfl, List.Pairwise.nil, fun i hi => absurd hi (by simp), fun b => ?_⟩, fun v _ => by cases v <;> simp [lexlt]⟩
    subst h; simp
  · rw [if_neg h]
    intro v hv
    have : v = [] := List.eq_nil_of_length_eq_zero hv.len
    subst this
    refine h (Nat.eq_of_testBit_eq fun b => ?_)
    have := hv.lif b
    simp only [List.not_mem_nil, false_and, exists_false, or_false] at this
    cases h1 : done.testBit b <;> cases h2 : lift.testBit b <;> simp_all
/-- The search at an index: a treadle that lifts too much is passed by. -/
theorem fst_skip {tie : List Nat} {lift n done i : Nat} (hs : ¬ Sb (tie.getD i 0) lift) {r : Option (List Nat)} (h : Fst tie lift (n + 1) done (i + 1) r) : Fst tie lift (n + 1) done i r := by
  have key : ∀ v, Prs tie lift (n + 1) done i v ↔ Prs tie lift (n + 1) done (i + 1) v := fun v => by
    cases v with
    | nil => exact ⟨fun h => by have := h.len; simp at this, fun h => by have := h.len; simp at this⟩
    | cons j v =>
      rw [prs_cons, prs_cons]
      refine and_congr_left fun h2 => ⟨fun h1 => ⟨?_, h1.2⟩, fun h1 => ⟨by omega, h1.2⟩⟩
      refine Nat.lt_of_le_of_ne h1.1 fun e => hs fun b hb => ?_
      subst e
      exact (h2.lif b).2 (.inl (by rw [Nat.testBit_or, hb, Bool.or_true]))
  cases r with
  | none => intro v hv; exact h v ((key v).1 hv)
  | some u => exact ⟨(key u).2 h.1, fun v hv => h.2 v ((key v).1 hv)⟩
theorem fst_found {tie : List Nat} {lift n done i : Nat} (hi : i < tie.length) {u : List Nat} (h : Fst tie lift n (done ||| tie.getD i 0) (i + 1) (some u)) : Fst tie lift (n + 1) done i (some (i :: u)) := by
  refine ⟨prs_cons.2 ⟨⟨Nat.le_refl _, hi⟩, h.1⟩, fun v hv hl => ?_⟩
  cases v with
  | nil => have := hv.len; simp at this
  | cons j v =>
    obtain ⟨h1, h2⟩ := prs_cons.1 hv
    rcases hl with g | ⟨rfl, g⟩
    · omega
    · exact h.2 v h2 g
theorem fst_next {tie : List Nat} {lift n done i : Nat} (h0 : Fst tie lift n (done ||| tie.getD i 0) (i + 1) none) {r : Option (List Nat)} (h : Fst tie lift (n + 1) done (i + 1) r) : Fst tie lift (n + 1) done i r := by
  have key : ∀ v, Prs tie lift (n + 1) done i v ↔ Prs tie lift (n + 1) done (i + 1) v := fun v => by
    cases v with
    | nil => exact ⟨fun h => by have := h.len; simp at this, fun h => by have := h.len; simp at this⟩
    | cons j v =>
      rw [prs_cons, prs_cons]
      refine and_congr_left fun h2 => ⟨fun h1 => ⟨?_, h1.2⟩, fun h1 => ⟨by omega, h1.2⟩⟩
      refine Nat.lt_of_le_of_ne h1.1 fun e => ?_
      subst e
      exact h0 v h2
  cases r with
  | none => intro v hv; exact h v ((key v).1 hv)
  | some u => exact ⟨(key u).2 h.1, fun v hv => h.2 v ((key v).1 hv)⟩
theorem fst_end {tie : List Nat} {lift n done i : Nat} (hi : tie.length ≤ i) : Fst tie lift (n + 1) done i none := by
  intro v hv
  cases v with
  | nil => have := hv.len; simp at this
  | cons j v => have := (prs_cons.1 hv).1; omega
/-- There is an answer. -/
theorem fst_ex (tie : List Nat) (lift n done fr : Nat) : ∃ r, Fst tie lift n done fr r := by
  classical
  induction n generalizing done fr with
  | zero => exact ⟨_, fst_zero tie lift done fr⟩
  | succ n ih =>
    have key : ∀ d fr, tie.length - fr = d → ∃ r, Fst tie lift (n + 1) done fr r := by
      intro d
      induction d with
      | zero => intro fr h; exact ⟨none, fst_end (by omega)⟩
      | succ d ihd =>
        intro fr h
        obtain ⟨r, hr⟩ := ihd (fr + 1) (by omega)
        by_cases hs : Sb (tie.getD fr 0) lift
        · obtain ⟨r', hr'⟩ := ih (done ||| tie.getD fr 0) (fr + 1)
          cases r' with
          | none => exact ⟨r, fst_next hr' hr⟩
          | some u => exact ⟨some (fr :: u), fst_found (by omega) hr'⟩
        · exact ⟨r, fst_skip hs hr⟩
    exact key _ fr rfl
theorem fst_unique {tie : List Nat} {lift n done fr : Nat} {r r' : Option (List Nat)} (h : Fst tie lift n done fr r) (h' : Fst tie lift n done fr r') : r = r' := by
  cases r with
  | none =>
    cases r' with
    | none => rfl
    | some u => exact absurd h'.1 (h u)
  | some u =>
    cases r' with
    | none => exact absurd h.1 (h' u)
    | some v =>
      rcases lexlt_total u v with g | g | g
      · exact absurd g (h'.2 u h.1)
      · rw [g]
      · exact absurd g (h.2 v h'.1)
/-- A pressing with at most so many feet. -/
structure Pok (tie : List Nat) (lift feet : Nat) (u : List Nat) : Prop where
  len : u.length ≤ feet
  inc : u.Pairwise (· < ·)
  low : ∀ i ∈ u, i < tie.length
  lif : Lf tie lift 0 u
theorem pok_prs {tie : List Nat} {lift feet : Nat} {u : List Nat} : Pok tie lift feet u ↔ u.length ≤ feet ∧ Prs tie lift u.length 0 0 u :=
  ⟨fun h => ⟨h.len, rfl, h.inc, fun i hi => ⟨Nat.zero_le _, h.low i hi⟩, h.lif⟩, fun h => ⟨h.1, h.2.inc, fun i hi => (h.2.low i hi).2, h.2.lif⟩⟩
/-- The best pressing; or there is none. -/
def Bst (tie : List Nat) (lift feet : Nat) (r : Option (List Nat)) : Prop := match r with
  | some u => Pok tie lift feet u ∧ ∀ v, Pok tie lift feet v → ¬ btr v u
  | none => ∀ v, ¬ Pok tie lift feet v
theorem bst_unique {tie : List Nat} {lift feet : Nat} {r r' : Option (List Nat)} (h : Bst tie lift feet r) (h' : Bst tie lift feet r') : r = r' := by
  cases r with
  | none =>
    cases r' with
    | none => rfl
    | some u => exact absurd h'.1 (h u)
  | some u =>
    cases r' with
    | none => exact absurd h.1 (h' u)
    | some v =>
      rcases btr_total u v with g | g | g
      · exact absurd g (h'.2 u h.1)
      · rw [g]
      · exact absurd g (h.2 v h'.1)
/-- The first number of treadles for which there is one gives the best. -/
theorem bst_of {tie : List Nat} {lift feet n : Nat} {u : List Nat} (hn : n ≤ feet) (hno : ∀ m, m < n → Fst tie lift m 0 0 none) (h : Fst tie lift n 0 0 (some u)) : Bst tie lift feet (some u) := by
  refine ⟨pok_prs.2 ⟨by rw [h.1.len]; exact hn, by rw [h.1.len]; exact h.1⟩, fun v hv hb => ?_⟩
  obtain ⟨h1, h2⟩ := pok_prs.1 hv
  rcases hb with g | ⟨g1, g2⟩
  · rw [h.1.len] at g
    exact hno _ g v h2
  · rw [h.1.len] at g1
    rw [g1] at h2
    exact h.2 v h2 g2
theorem bst_none {tie : List Nat} {lift feet : Nat} (hno : ∀ m, m < feet + 1 → Fst tie lift m 0 0 none) : Bst tie lift feet none := fun v hv => by
  obtain ⟨h1, h2⟩ := pok_prs.1 hv
  exact hno _ (by omega) v h2
theorem bst_ex (tie : List Nat) (lift feet : Nat) : ∃ r, Bst tie lift feet r := by
  have key : ∀ k, k ≤ feet + 1 → (∀ m, m < k → Fst tie lift m 0 0 none) ∨ ∃ u, Bst tie lift feet (some u) := by
    intro k
    induction k with
    | zero => intro _; exact .inl fun m hm => by omega
    | succ k ih =>
      intro hk
      rcases ih (by omega) with h | h
      · obtain ⟨r, hr⟩ := fst_ex tie lift k 0 0
        cases r with
        | none =>
          refine .inl fun m hm => ?_
          by_cases e : m = k
          · subst e; exact hr
          · exact h m (by omega)
        | some u => exact .inr ⟨u, bst_of (by omega) h hr⟩
      · exact .inr h
  rcases key (feet + 1) (Nat.le_refl _) with h | ⟨u, h⟩
  · exact ⟨none, bst_none h⟩
  · exact ⟨some u, h⟩
end Go.Proofs.YtlckfakifamjiaaDoor

/- Pressings, by the program. -/
set_option linter.unusedSimpArgs false
set_option linter.unusedVariables false
set_option maxRecDepth 100000
namespace Go.Proofs.YtlckfakifamjiaaDoor
open Go Go.Proofs Go.AW

theorem append_litL {P : Program} {t e : Nat} {z : Value} [S : SlT P t e 8 z] {h : List AObj} {m k : Nat} {l ys : List Int} {p q : Bool} (hl : l.length = m) (hm : m ≤ 1000000) (hk : ys.length = k) (hk0 : 0 < k) (hk1 : k ≤ 1000000) : aAppend P t h (.lit m (ints l)) (.list p q k (ints ys)) = some (.ref h.length 0 (m + k) (m + k), h ++ [⟨e, 1, ints (l ++ ys)⟩]) := by
  obtain ⟨⟨T, hT, hTe⟩, E, hE, g1, g2, g3, g4⟩ := S
  have hz : E.zero.length = 1 := by rw [g4]; rfl
  have hli : (ints l).length = m := by rw [ints_length, hl]
  have hki : (ints ys).length = k := by rw [ints_length, hk]
  have htk : (ints ys).take k = ints ys := List.take_of_length_le (by omega)
  simp only [aAppend, hT, hTe, hE, sview_list, g1, Nat.mul_one, htk]
  rw [if_pos ⟨hki, ints_one ys, by omega, hz⟩, if_neg (by omega), if_pos ⟨hli, by rw [g3]; omega, by omega⟩, ← ints_append]
theorem append_lit0 {P : Program} {t e : Nat} {z : Value} [S : SlT P t e 8 z] {h : List AObj} {m : Nat} {cs : List AVal} {p q : Bool} : aAppend P t h (.lit m cs) (.list p q 0 []) = some (.lit m cs, h) := by
  obtain ⟨⟨T, hT, hTe⟩, E, hE, g1, g2, g3, g4⟩ := S
  have hz : E.zero.length = 1 := by rw [g4]; rfl
  simp only [aAppend, hT, hTe, hE, sview_list, g1]
  rw [if_pos ⟨rfl, rfl, by omega, hz⟩, if_pos trivial]
def andn4 (a b : Nat) : Nat := (BitVec.ofNat 64 a &&& ~~~ BitVec.ofNat 64 b).toNat
theorem andn4_bit {x y : Nat} (hx : x < 16) : ∀ i, (andn4 x y).testBit i = (x.testBit i && !y.testBit i) := fun i => by
  unfold andn4
  rw [BitVec.testBit_toNat, BitVec.getLsbD_and, BitVec.getLsbD_not, BitVec.getLsbD_ofNat, BitVec.getLsbD_ofNat]
  by_cases h : i < 64
  · simp [h]
  · have : x.testBit i = false := Nat.testBit_lt_two_pow (Nat.lt_of_lt_of_le (show x < 2 ^ 4 from hx) (Nat.pow_le_pow_right (by omega) (by omega)))
    simp [h, this]
theorem andn4_lt {x y : Nat} (hx : x < 16) : andn4 x y < 16 := by
  refine Nat.lt_pow_two_of_testBit (n := 4) _ fun i hi => ?_
  rw [andn4_bit hx, Nat.testBit_lt_two_pow (Nat.lt_of_lt_of_le (show x < 2 ^ 4 from hx) (Nat.pow_le_pow_right (by omega) hi)), Bool.false_and]
theorem andn4_i {x y : Nat} (hx : x < 16) : aInt .andNot .i64 (x : Int) (y : Int) = some (.val (.int .i64 ((andn4 x y : Nat) : Int))) := by
  show some (AVal.val (.int .i64 (IntKind.i64.wrap ((BitVec.ofInt 64 (x : Int) &&& ~~~ BitVec.ofInt 64 (y : Int)).toNat)))) = _
  rw [ofI64, ofI64]
  have := andn4_lt (y := y) hx
  unfold andn4 at this ⊢
  rw [wr64 (by omega)]
theorem andn4_zero {x y : Nat} (hx : x < 16) : andn4 x y = 0 ↔ Sb x y := by
  constructor
  · intro h b hb
    have := andn4_bit (y := y) hx b
    rw [h, Nat.zero_testBit, hb, Bool.true_and] at this
    cases hy : y.testBit b with
    | true => rfl
    | false => rw [hy] at this; cases this
  · intro h
    refine Nat.eq_of_testBit_eq fun i => ?_
    rw [andn4_bit hx, Nat.zero_testBit]
    cases hb : x.testBit i with
    | false => rfl
    | true => rw [h i hb]; rfl
/-- What the search gives back. -/
def pvR : Option (List Nat) → AVal
  | none => .tuple [LR true [], B false]
  | some u => .tuple [LR u.isEmpty (nI u), B true]
theorem presses_c (b : Bool) {tie : List Nat} (hn : tie.length ≤ 1000) (ht : ∀ i, i < tie.length → tie.getD i 0 < 16) {lift : Nat} (hl : lift < 16) :
    ∀ (n : Nat), n ≤ 100 → ∀ (done fr : Nat), done < 16 → fr ≤ tie.length → ∀ r, Fst tie lift n done fr r → Contract Tryd.prog 57 [LA b (nI tie), I lift, I done, I fr, I n] (pvR r) := by
  intro n
  have lt := nI_len tie
  induction n with
  | zero =>
    intro _ done fr hd hf r hr
    have hu := fst_unique hr (fst_zero tie lift done fr)
    by_cases c : done = lift
    · rw [if_pos c] at hu
      subst hu
      refine Contract.intro (effS [] false) 6 follows Tryd.func57 rfl rfl (by kernel_rfl) (Nat.le_of_ble_eq_true rfl) ?_
      simp (disch := first | assumption | omega | rfl | simp only [RH]) only [↓RP, RG, FX, RQ, ↓reduceIte, Nat.reduceEqDiff, reduceCtorEq, Nat.reduceBEq, Nat.reduceAdd, Nat.reduceLeDiff, args0_5]
      rw [resVal_2 rfl]; simp (disch := first | assumption | omega | rfl | simp only [RH]) only [↓RP, RG, FX, RQ, ↓reduceIte, Nat.reduceEqDiff, reduceCtorEq, Nat.reduceBEq, Nat.reduceAdd, Nat.reduceLeDiff, RS]
      first | done | simp [pvR, c, nI, ints]
    · rw [if_neg c] at hu
      subst hu
      refine Contract.intro (effS [] false) 6 follows Tryd.func57 rfl rfl (by kernel_rfl) (Nat.le_of_ble_eq_true rfl) ?_
      simp (disch := first | assumption | omega | rfl | simp only [RH]) only [↓RP, RG, FX, RQ, ↓reduceIte, Nat.reduceEqDiff, reduceCtorEq, Nat.reduceBEq, Nat.reduceAdd, Nat.reduceLeDiff, args0_5]
      rw [resVal_2 rfl]; simp (disch := first | assumption | omega | rfl | simp only [RH]) only [↓RP, RG, FX, RQ, ↓reduceIte, Nat.reduceEqDiff, reduceCtorEq, Nat.reduceBEq, Nat.reduceAdd, Nat.reduceLeDiff, RS]
      first | done | simp [pvR, c, nI, ints]
  | succ n ih =>
    intro hn100 done fr hd hf r hr
    refine Contract.intro (effS [] false) 6 follows Tryd.func57 rfl rfl (by kernel_rfl) (Nat.le_of_ble_eq_true rfl) ?_
    simp (disch := first | assumption | omega | rfl | simp only [RH]) only [↓RP, RG, FX, RQ, ↓reduceIte, Nat.reduceEqDiff, reduceCtorEq, Nat.reduceBEq, Nat.reduceAdd, Nat.reduceLeDiff, args0_5]
    refine loopK_I [0, 1, 2, 4, 12] (fun i : Nat => i ≤ tie.length ∧ Fst tie lift (n + 1) done i r) (fun i => ⟨[(0, LA b (nI tie)), (1, I lift), (2, I done), (4, I ((n + 1 : Nat) : Int)), (12, I i)], []⟩) (fun i => tie.length - i) fr ⟨hf, hr⟩ (by simp only [↓RP, RG, FX, RQ, ↓reduceIte, Nat.reduceEqDiff, reduceCtorEq, Nat.reduceBEq, Nat.reduceAdd, Nat.reduceLeDiff]) ?_
    rintro i ⟨hi, hF⟩
    by_cases hlt : i < tie.length
    · have hg := nI_get tie i
      have hti := ht i hlt
      have han := andn4_i (x := tie.getD i 0) (y := lift) hti
      have haz := andn4_zero (x := tie.getD i 0) (y := lift) hti
      obtain ⟨r1, hr1⟩ := fst_ex tie lift (n + 1) done (i + 1)
      by_cases hs : Sb (tie.getD i 0) lift
      · have hor := or64 hd hti
        have hd2 : done ||| tie.getD i 0 < 16 := Nat.or_lt_two_pow (n := 4) hd hti
        have hz := haz.2 hs
        obtain ⟨r', hr'⟩ := fst_ex tie lift n (done ||| tie.getD i 0) (i + 1)
        have hC := ih (by omega) (done ||| tie.getD i 0) (i + 1) hd2 (by omega) r' hr'
        have hn1 : ((n + 1 : Nat) : Int) - 1 = (n : Int) := by omega
        cases r' with
        | none =>
          have hnx : Fst tie lift (n + 1) done (i + 1) r := by
            have := fst_unique (fst_next hr' hr1) hF
            subst this; exact hr1
          rw [hz] at han
          generalize andn4 (tie.getD i 0) lift = z at *
          generalize hO : done ||| tie.getD i 0 = O at *
          generalize tie.getD i 0 = t at *
          simp (disch := first | assumption | omega | rfl | simp only [RH]) only [↓RP, RG, FX, RQ, ↓reduceIte, Nat.reduceEqDiff, reduceCtorEq, Nat.reduceBEq, Nat.reduceAdd, Nat.reduceLeDiff, hg, han, hor, hn1, pvR]
          refine callK_F 6 hC (by simp (disch := first | assumption | omega | rfl | simp only [RH]) only [↓RP, RG, FX, RQ, ↓reduceIte, Nat.reduceEqDiff, reduceCtorEq, Nat.reduceBEq, Nat.reduceAdd, Nat.reduceLeDiff, RA] <;> rfl) (.inl (by simp [allFresh, ints_fresh, pvR])) ?_
          simp (disch := first | assumption | omega | rfl | simp only [RH]) only [↓RP, RG, FX, RQ, ↓reduceIte, Nat.reduceEqDiff, reduceCtorEq, Nat.reduceBEq, Nat.reduceAdd, Nat.reduceLeDiff, pvR]
          exact ⟨i + 1, ⟨hlt, hnx⟩, rfl, by omega⟩
        | some u =>
          have hfo := fst_unique (fst_found hlt hr') hF
          subst hfo
          have hul : u.length ≤ 1000 := by
            have := hr'.1.len; omega
          have hun := nI_len u
          rw [hz] at han
          generalize andn4 (tie.getD i 0) lift = z at *
          generalize hO : done ||| tie.getD i 0 = O at *
          generalize tie.getD i 0 = t at *
          by_cases hu0 : u.length = 0
          · obtain rfl : u = [] := List.eq_nil_of_length_eq_zero hu0
            simp (disch := first | assumption | omega | rfl | simp only [RH]) only [↓RP, RG, FX, RQ, ↓reduceIte, Nat.reduceEqDiff, reduceCtorEq, Nat.reduceBEq, Nat.reduceAdd, Nat.reduceLeDiff, hg, han, hor, hn1]
            refine callK_F 6 hC (by simp (disch := first | assumption | omega | rfl | simp only [RH]) only [↓RP, RG, FX, RQ, ↓reduceIte, Nat.reduceEqDiff, reduceCtorEq, Nat.reduceBEq, Nat.reduceAdd, Nat.reduceLeDiff, RA] <;> rfl) (.inl (by simp [allFresh, ints_fresh, pvR])) ?_
            have hap0 : ∀ h : List AObj, aAppend Tryd.prog 22 h (.lit 1 [.val (.int .i64 (i : Int))]) (LR ([] : List Nat).isEmpty (nI [])) = some (.lit 1 [.val (.int .i64 (i : Int))], h) := fun h => append_lit0
            simp (disch := first | assumption | omega | rfl | simp only [RH]) only [↓RP, RG, FX, RQ, ↓reduceIte, Nat.reduceEqDiff, reduceCtorEq, Nat.reduceBEq, Nat.reduceAdd, Nat.reduceLeDiff, pvR, hap0]
            rw [resVal_2 rfl]; simp (disch := first | assumption | omega | rfl | simp only [RH]) only [↓RP, RG, FX, RQ, ↓reduceIte, Nat.reduceEqDiff, reduceCtorEq, Nat.reduceBEq, Nat.reduceAdd, Nat.reduceLeDiff, RS]
            first | done | rfl
          · have hap : ∀ h : List AObj, aAppend Tryd.prog 22 h (.lit 1 [.val (.int .i64 (i : Int))]) (LR u.isEmpty (nI u)) = some (.ref h.length 0 (1 + (nI u).length) (1 + (nI u).length), h ++ [⟨3, 1, ints ([(i : Int)] ++ nI u)⟩]) := fun h => append_litL (l := [(i : Int)]) rfl (by omega) rfl (by omega) (by omega)
            simp (disch := first | assumption | omega | rfl | simp only [RH]) only [↓RP, RG, FX, RQ, ↓reduceIte, Nat.reduceEqDiff, reduceCtorEq, Nat.reduceBEq, Nat.reduceAdd, Nat.reduceLeDiff, hg, han, hor, hn1]
            refine callK_F 6 hC (by simp (disch := first | assumption | omega | rfl | simp only [RH]) only [↓RP, RG, FX, RQ, ↓reduceIte, Nat.reduceEqDiff, reduceCtorEq, Nat.reduceBEq, Nat.reduceAdd, Nat.reduceLeDiff, RA] <;> rfl) (.inl (by simp [allFresh, ints_fresh, pvR])) ?_
            have hla : ((i : Int) :: nI u).length = 1 + (nI u).length := by rw [List.length_cons]; omega
            simp (disch := first | assumption | omega | rfl | simp only [RH]) only [↓RP, RG, FX, RQ, ↓reduceIte, Nat.reduceEqDiff, reduceCtorEq, Nat.reduceBEq, Nat.reduceAdd, Nat.reduceLeDiff, pvR, hap]
            rw [resVal_2 rfl]; simp (disch := first | assumption | omega | rfl | simp only [RH]) only [↓RP, RG, FX, RQ, ↓reduceIte, Nat.reduceEqDiff, reduceCtorEq, Nat.reduceBEq, Nat.reduceAdd, Nat.reduceLeDiff, RS]
            first | done | rfl
      · have hz : andn4 (tie.getD i 0) lift ≠ 0 := fun h => hs (haz.1 h)
        have hnx : Fst tie lift (n + 1) done (i + 1) r := by
          have := fst_unique (fst_skip hs hr1) hF
          subst this; exact hr1
        generalize andn4 (tie.getD i 0) lift = z at *
        generalize tie.getD i 0 = t at *
        simp (disch := first | assumption | omega | rfl | simp only [RH]) only [↓RP, RG, FX, RQ, ↓reduceIte, Nat.reduceEqDiff, reduceCtorEq, Nat.reduceBEq, Nat.reduceAdd, Nat.reduceLeDiff, hg, han]
        exact ⟨i + 1, ⟨hlt, hnx⟩, rfl, by omega⟩
    · obtain rfl : i = tie.length := by omega
      have := fst_unique (fst_end (Nat.le_refl _)) hF
      subst this
      simp (disch := first | assumption | omega | rfl | simp only [RH]) only [↓RP, RG, FX, RQ, ↓reduceIte, Nat.reduceEqDiff, reduceCtorEq, Nat.reduceBEq, Nat.reduceAdd, Nat.reduceLeDiff]
      rw [resVal_2 rfl]; simp (disch := first | assumption | omega | rfl | simp only [RH]) only [↓RP, RG, FX, RQ, ↓reduceIte, Nat.reduceEqDiff, reduceCtorEq, Nat.reduceBEq, Nat.reduceAdd, Nat.reduceLeDiff, RS]
      first | done | rfl
end Go.Proofs.YtlckfakifamjiaaDoor

/- The best pressing, by the program. -/
set_option linter.unusedSimpArgs false
set_option linter.unusedVariables false
set_option maxRecDepth 100000
namespace Go.Proofs.YtlckfakifamjiaaDoor
open Go Go.Proofs Go.AW

theorem best_c (b : Bool) {tie : List Nat} (hn : tie.length ≤ 1000) (ht : ∀ i, i < tie.length → tie.getD i 0 < 16) {lift : Nat} (hl : lift < 16) {feet : Nat} (hf : feet ≤ 4) (r : Option (List Nat)) (hr : Bst tie lift feet r) :
    Contract Tryd.prog 31 [LA b (nI tie), I lift, I feet] (pvR r) := by
  have lt := nI_len tie
  refine Contract.intro (effS [] false) 6 follows Tryd.func31 rfl rfl (by kernel_rfl) (Nat.le_of_ble_eq_true rfl) ?_
  simp (disch := first | assumption | omega | rfl | simp only [RH]) only [↓RP, RG, FX, RQ, ↓reduceIte, Nat.reduceEqDiff, reduceCtorEq, Nat.reduceBEq, Nat.reduceAdd, Nat.reduceLeDiff, args0_3]
  refine loopK_I [0, 1, 12, 13] (fun n : Nat => n ≤ feet + 1 ∧ ∀ m, m < n → Fst tie lift m 0 0 none) (fun n => ⟨[(0, LA b (nI tie)), (1, I lift), (12, I ((feet + 1 : Nat) : Int)), (13, I n)], []⟩) (fun n => feet + 1 - n) 0 ⟨by omega, fun m hm => by omega⟩ (by simp only [↓RP, RG, FX, RQ, ↓reduceIte, Nat.reduceEqDiff, reduceCtorEq, Nat.reduceBEq, Nat.reduceAdd, Nat.reduceLeDiff]; rfl) ?_
  rintro n ⟨hn1, hall⟩
  by_cases hlt : n < feet + 1
  · obtain ⟨r', hr'⟩ := fst_ex tie lift n 0 0
    have hC := presses_c b hn ht hl n (by omega) 0 0 (by omega) (by omega) r' hr'
    cases r' with
    | none =>
      simp (disch := first | assumption | omega | rfl | simp only [RH]) only [↓RP, RG, FX, RQ, ↓reduceIte, Nat.reduceEqDiff, reduceCtorEq, Nat.reduceBEq, Nat.reduceAdd, Nat.reduceLeDiff]
      refine callK_F 6 hC (by simp (disch := first | assumption | omega | rfl | simp only [RH]) only [↓RP, RG, FX, RQ, ↓reduceIte, Nat.reduceEqDiff, reduceCtorEq, Nat.reduceBEq, Nat.reduceAdd, Nat.reduceLeDiff, RA] <;> rfl) (.inl (by simp [allFresh, ints_fresh, pvR])) ?_
      simp (disch := first | assumption | omega | rfl | simp only [RH]) only [↓RP, RG, FX, RQ, ↓reduceIte, Nat.reduceEqDiff, reduceCtorEq, Nat.reduceBEq, Nat.reduceAdd, Nat.reduceLeDiff, pvR]
      refine ⟨n + 1, ⟨hlt, fun m hm => ?_⟩, rfl, by omega⟩
      by_cases e : m = n
      · subst e; exact hr'
      · exact hall m (by omega)
    | some u =>
      have := bst_unique (bst_of (by omega) hall hr') hr
      subst this
      simp (disch := first | assumption | omega | rfl | simp only [RH]) only [↓RP, RG, FX, RQ, ↓reduceIte, Nat.reduceEqDiff, reduceCtorEq, Nat.reduceBEq, Nat.reduceAdd, Nat.reduceLeDiff]
      refine callK_F 6 hC (by simp (disch := first | assumption | omega | rfl | simp only [RH]) only [↓RP, RG, FX, RQ, ↓reduceIte, Nat.reduceEqDiff, reduceCtorEq, Nat.reduceBEq, Nat.reduceAdd, Nat.reduceLeDiff, RA] <;> rfl) (.inl (by simp [allFresh, ints_fresh, pvR])) ?_
      simp (disch := first | assumption | omega | rfl | simp only [RH]) only [↓RP, RG, FX, RQ, ↓reduceIte, Nat.reduceEqDiff, reduceCtorEq, Nat.reduceBEq, Nat.reduceAdd, Nat.reduceLeDiff, pvR]
      rw [resVal_2 rfl]; simp (disch := first | assumption | omega | rfl | simp only [RH]) only [↓RP, RG, FX, RQ, ↓reduceIte, Nat.reduceEqDiff, reduceCtorEq, Nat.reduceBEq, Nat.reduceAdd, Nat.reduceLeDiff, RS]
      first | done | rfl
  · obtain rfl : n = feet + 1 := by omega
    have := bst_unique (bst_none hall) hr
    subst this
    simp (disch := first | assumption | omega | rfl | simp only [RH]) only [↓RP, RG, FX, RQ, ↓reduceIte, Nat.reduceEqDiff, reduceCtorEq, Nat.reduceBEq, Nat.reduceAdd, Nat.reduceLeDiff]
    rw [resVal_2 rfl]; simp (disch := first | assumption | omega | rfl | simp only [RH]) only [↓RP, RG, FX, RQ, ↓reduceIte, Nat.reduceEqDiff, reduceCtorEq, Nat.reduceBEq, Nat.reduceAdd, Nat.reduceLeDiff, RS]
    first | done | rfl
end Go.Proofs.YtlckfakifamjiaaDoor

/- The rows of a grid as numbers, by the program. -/
set_option linter.unusedSimpArgs false
set_option linter.unusedVariables false
set_option maxRecDepth 100000
namespace Go.Proofs.YtlckfakifamjiaaDoor
open Go Go.Proofs Go.AW

/-- The first k cells of row y. -/
def rowK (W : Nat) (l : List Bool) (y : Nat) : Nat → Nat
  | 0 => 0
  | s + 1 => if l.getD (W * y + s) false = true then rowK W l y s ||| 2 ^ s else rowK W l y s
theorem rowK_bit (W : Nat) (l : List Bool) (y : Nat) : ∀ k i, (rowK W l y k).testBit i = (decide (i < k) && l.getD (W * y + i) false)
  | 0, i => by simp [rowK]
  | k + 1, i => by
    simp only [rowK]
    have ih := rowK_bit W l y k i
    by_cases h : l.getD (W * y + k) false = true
    · rw [if_pos h, Nat.testBit_or, ih, Nat.testBit_two_pow]
      by_cases e : k = i
      · subst e; rw [h]; simp
      · by_cases c : i < k
        · simp [c, e, show i < k + 1 by omega]
        · simp [c, e, show ¬ i < k + 1 by omega]
    · rw [if_neg h, ih]
      by_cases e : k = i
      · subst e
        have : l.getD (W * y + k) false = false := by simpa using h
        rw [this]; simp
      · by_cases c : i < k
        · simp [c, show i < k + 1 by omega]
        · simp [c, show ¬ i < k + 1 by omega]
theorem rowK_lt (W : Nat) (l : List Bool) (y k : Nat) : rowK W l y k < 2 ^ k := by
  refine Nat.lt_pow_two_of_testBit _ fun i hi => ?_
  rw [rowK_bit, decide_eq_false (by omega), Bool.false_and]
/-- The rows. -/
def rowsL (W : Nat) (l : List Bool) (k : Nat) : List Nat := (List.range k).map fun y => rowK W l y W
theorem rowsL_len (W : Nat) (l : List Bool) (k : Nat) : (rowsL W l k).length = k := by simp [rowsL]
theorem rowsL_succ (W : Nat) (l : List Bool) (k : Nat) : rowsL W l (k + 1) = rowsL W l k ++ [rowK W l k W] := by simp [rowsL, List.range_succ]
theorem chunk_c (b : Bool) (l : List Bool) {W : Nat} (hW : 1 ≤ W) : Contract Tryd.prog 58 [BA b l, I W] (.func (.func 78) [] [.spot true [BA b l], .spot true [I W]]) := by
  refine Contract.intro (effS [] false [] [0, 1]) 6 follows Tryd.func58 rfl rfl (by kernel_rfl) (Nat.le_of_ble_eq_true rfl) ?_
  simp (disch := first | assumption | omega | rfl | simp only [RH]) only [↓RP, RG, FX, RQ, ↓reduceIte, Nat.reduceEqDiff, reduceCtorEq, Nat.reduceBEq, Nat.reduceAdd, Nat.reduceLeDiff, args0_2]
  rw [resVal_1 rfl]; simp (disch := first | assumption | omega | rfl | simp only [RH]) only [↓RP, RG, FX, RQ, ↓reduceIte, Nat.reduceEqDiff, reduceCtorEq, Nat.reduceBEq, Nat.reduceAdd, Nat.reduceLeDiff, RS]
  first | done | simp [resOf, resOf_list, bools_res]
section
variable {P : Program} {t e : Nat} {z : Value} {h : List AObj}
theorem slice_loB [S : SlT P t e 1 z] {p b : Bool} {l : List Bool} {n : Nat} {k : IntKind} {c : Int} (hn : n = l.length) (h0 : 0 ≤ c) (h1 : c ≤ n) :
    aSlice P t h (.list p b n (bools l)) (some (.val (.int k c))) none none = some (.list p b (n - c.toNat) (bools (l.drop c.toNat))) := by
  obtain ⟨⟨T, hT, hTe⟩, E, hE, g1, g2, g3, g4⟩ := S
  subst hn
  simp only [aSlice, hT, hTe, hE, sview_list, optInt]
  rw [if_pos ⟨h0, h1, by omega, by omega⟩]
  have : ((l.length : Int) - c).toNat = l.length - c.toNat := by omega
  rw [this, g1]
  simp [bools, List.map_drop]
  rw [List.take_of_length_le (by simp)]
theorem aCut_list {p b : Bool} {n : Nat} {cs : List AVal} (lo hi mx : Option AVal) : aCut P t h (.list p b n cs) lo hi mx = none := by
  unfold aCut
  repeat' (first | rfl | split)
theorem slice3B [S : SlT P t e 1 z] {p b : Bool} {l : List Bool} {n : Nat} {k k' k'' : IntKind} {lo hi : Int} (hn : n = l.length) (h0 : 0 ≤ lo) (h1 : lo ≤ hi) (h2 : hi ≤ n) (h3 : hi ≠ 0) :
    aSlice P t h (.list p b n (bools l)) (some (.val (.int k lo))) (some (.val (.int k' hi))) (some (.val (.int k'' hi))) = some (.list p b (hi - lo).toNat (bools ((l.drop lo.toNat).take (hi - lo).toNat))) := by
  obtain ⟨⟨T, hT, hTe⟩, E, hE, g1, g2, g3, g4⟩ := S
  subst hn
  simp only [aSlice, hT, hTe, hE, sview_list, optInt]
  rw [if_pos ⟨h0, h1, Int.le_refl _, h2⟩, if_neg h3, g1]
  simp [bools, List.map_drop, List.map_take]
end
/-- A row as a list of its own. -/
def chV (b : Bool) (W : Nat) (l : List Bool) (k : Nat) : AVal := .list false b W (bools ((l.drop (W * k)).take W))
theorem chunkF_y (p q b : Bool) {l : List Bool} {W H : Nat} (hW1 : 1 ≤ W) (hW : W ≤ 64) (hH : H ≤ 64) (hn : l.length = W * H) : Gives Tryd.prog 78 [.spot p [BA b l], .spot q [I W]] ((List.range H).map (chV b W l)) := by
  intro hs
  have h3 : W * H ≤ 64 * 64 := Nat.mul_le_mul hW hH
  have hxl : ((List.range H).map (chV b W l)).length = H := by simp
  have hxg : ∀ k, k < H → ((List.range H).map (chV b W l)).getD k .undef = chV b W l k := fun k hk => by
    rw [List.getD_eq_getElem?_getD, List.getElem?_map, List.getElem?_range hk]; rfl
  refine SpecY.intro (effS [] false) follows Tryd.func78 rfl rfl (by kernel_rfl) (Nat.le_of_ble_eq_true rfl) rfl (fun yv => ?_)
  generalize (List.range H).map (chV b W l) = xs at *
  simp (disch := first | assumption | omega | rfl | simp only [RH]) only [↓RP, RG, FX, RQ, ↓reduceIte, Nat.reduceEqDiff, reduceCtorEq, Nat.reduceBEq, Nat.reduceAdd, Nat.reduceLeDiff, args0_3]
  refine loopK_I [0, 1, 2, 4] (fun k : Nat => k ≤ H) (fun k : Nat => ⟨[(0, .val yv), (1, .spot p [BA b l]), (2, .spot q [I W]), (4, I ((W * k : Nat) : Int))], hs k⟩) (fun k => H - k) 0 (by omega) (by simp only [↓RP, RG, FX, RQ, ↓reduceIte, Nat.reduceEqDiff, reduceCtorEq, Nat.reduceBEq, Nat.reduceAdd, Nat.reduceLeDiff]; rfl) ?_
  intro k hk
  by_cases hlt : k < H
  · have h1 : W * k + W ≤ W * H := by
      have := Nat.mul_le_mul_left W (show k + 1 ≤ H by omega)
      rwa [Nat.mul_succ] at this
    have hx := hxg k hlt
    unfold chV at hx
    have hnx : ((W * k : Nat) : Int) + (W : Int) = ((W * (k + 1) : Nat) : Int) := by rw [Nat.mul_succ]; omega
    generalize hi : W * k = i at *
    have hw : ((i : Int) + (W : Int) - (i : Int)).toNat = W := by omega
    have hmin : min (W : Int) ((l.length - i : Nat) : Int) = W := by omega
    simp (disch := first | assumption | omega | rfl | simp only [RH]) only [↓RP, RG, FX, RQ, ↓reduceIte, Nat.reduceEqDiff, reduceCtorEq, Nat.reduceBEq, Nat.reduceAdd, Nat.reduceLeDiff, Int.toNat_natCast, slice_loB, cutB_none, aCut_list, slice3B, hmin, hw]
    refine callK_Y rfl (stepsY_at k (by omega) hx) ?_
    simp (disch := first | assumption | omega | rfl | simp only [RH]) only [↓RP, RG, FX, RQ, ↓reduceIte, Nat.reduceEqDiff, reduceCtorEq, Nat.reduceBEq, Nat.reduceAdd, Nat.reduceLeDiff, hnx]
    exact ⟨k + 1, hlt, rfl, by omega⟩
  · obtain rfl : k = H := by omega
    simp (disch := first | assumption | omega | rfl | simp only [RH]) only [↓RP, RG, FX, RQ, ↓reduceIte, Nat.reduceEqDiff, reduceCtorEq, Nat.reduceBEq, Nat.reduceAdd, Nat.reduceLeDiff]
    rw [hxl]
    exact Wk.refl _ _
theorem rows_c {W H : Nat} (hW1 : 1 ≤ W) (hW4 : W ≤ 4) (hH1 : 1 ≤ H) (hH : H ≤ 64) (b : Bool) {l : List Bool} (hn : l.length = W * H) : Contract Tryd.prog 34 [GA W H b l] (LR false (nI (rowsL W l H))) := by
  have hxl : ((List.range H).map (chV b W l)).length = H := by simp
  have hxg : ∀ k, k < H → ((List.range H).map (chV b W l)).getD k .undef = chV b W l k := fun k hk => by
    rw [List.getD_eq_getElem?_getD, List.getElem?_map, List.getElem?_range hk]; rfl
  have hg := chunkF_y true true b hW1 (show W ≤ 64 by omega) hH hn
  generalize (List.range H).map (chV b W l) = xs at *
  refine Contract.intro (effS [] false) 6 follows Tryd.func34 rfl rfl (by kernel_rfl) (Nat.le_of_ble_eq_true rfl) ?_
  simp (disch := first | assumption | omega | rfl | simp only [RH]) only [↓RP, RG, FX, RQ, ↓reduceIte, Nat.reduceEqDiff, reduceCtorEq, Nat.reduceBEq, Nat.reduceAdd, Nat.reduceLeDiff, args0_1]
  refine callK_F 6 (chunk_c b l hW1) (by simp (disch := first | assumption | omega | rfl | simp only [RH]) only [↓RP, RG, FX, RQ, ↓reduceIte, Nat.reduceEqDiff, reduceCtorEq, Nat.reduceBEq, Nat.reduceAdd, Nat.reduceLeDiff, RA] <;> rfl) (.inr (by simp [noRef, bools_noRef])) ?_
  simp (disch := first | assumption | omega | rfl | simp only [RH]) only [↓RP, RG, FX, RQ, ↓reduceIte, Nat.reduceEqDiff, reduceCtorEq, Nat.reduceBEq, Nat.reduceAdd, Nat.reduceLeDiff]
  refine rangeK_S (s := ⟨[(3, .ptr 1 0 1), (12, .func (.func 78) [] [.spot true [BA b l], .spot true [I W]])], [⟨25, 3, [I W, I H, BA b l]⟩, ⟨22, 1, [gw true 2 (ints (nI (rowsL W l 0)))]⟩, go 3 (ints (nI (rowsL W l 0)))]⟩) [3, 12] xs (fun k => [⟨25, 3, [I W, I H, BA b l]⟩, ⟨22, 1, [gw true 2 (ints (nI (rowsL W l k)))]⟩, go 3 (ints (nI (rowsL W l k)))]) ?_ rfl rfl (hg _) (fun i hi => ?_) ?_
  · simp only [↓RP, RG, FX, RQ, ↓reduceIte, Nat.reduceEqDiff, reduceCtorEq, Nat.reduceBEq, Nat.reduceAdd, Nat.reduceLeDiff]
    exact Wk.weak (fun t => .refl _) (.cons _ _ _ _ (WL.refl _) (.cons _ _ _ _ (.cons (.nil _) .nil) (.nil _ (by simp [go, ints, rowsL, nI]))))
  · rw [hxl] at hi
    rw [hxg i hi]
    have hlen := rowsL_len W l i
    have hnl := nI_len (rowsL W l i)
    have h3 : W * i + W ≤ W * H := by
      have := Nat.mul_le_mul_left W (show i + 1 ≤ H by omega)
      rwa [Nat.mul_succ] at this
    have hsucc : nI (rowsL W l (i + 1)) = nI (rowsL W l i) ++ [((rowK W l i W : Nat) : Int)] := by rw [rowsL_succ, nI_app]
    have hcl : ((l.drop (W * i)).take W).length = W := by rw [List.length_take, List.length_drop]; omega
    have hcg : ∀ s, s < W → ((l.drop (W * i)).take W).getD s false = l.getD (W * i + s) false := fun s hs => by
      rw [List.getD_eq_getElem?_getD, List.getElem?_take_of_lt hs, List.getElem?_drop, List.getD_eq_getElem?_getD]
    unfold chV
    generalize (l.drop (W * i)).take W = c at *
    generalize hR : rowsL W l i = R at *
    simp (disch := first | assumption | omega | rfl | simp only [RH]) only [↓RP, RG, FX, RQ, ↓reduceIte, Nat.reduceEqDiff, reduceCtorEq, Nat.reduceBEq, Nat.reduceAdd, Nat.reduceLeDiff]
    refine loopK_I [3, 5, 14, 15, 16] (fun k : Nat => k ≤ W) (fun k : Nat => ⟨[(3, .ptr 1 0 1), (5, I ((rowK W l i k : Nat) : Int)), (14, .list false b W (bools c)), (15, I W), (16, I k)], [⟨25, 3, [I W, I H, BA b l]⟩, ⟨22, 1, [gw true 2 (ints (nI R))]⟩, go 3 (ints (nI R))]⟩) (fun k => W - k) 0 (by omega) (by simp only [↓RP, RG, FX, RQ, ↓reduceIte, Nat.reduceEqDiff, reduceCtorEq, Nat.reduceBEq, Nat.reduceAdd, Nat.reduceLeDiff]; rfl) ?_
    intro k hk
    have hrl := rowK_lt W l i k
    have hp4 : 2 ^ k ≤ 16 := by
      have := Nat.pow_le_pow_right (show 0 < 2 by omega) (show k ≤ 4 by omega)
      simpa using this
    by_cases hlt : k < W
    · have hck := hcg k hlt
      have hrk : rowK W l i (k + 1) = if l.getD (W * i + k) false = true then rowK W l i k ||| 2 ^ k else rowK W l i k := rfl
      cases hb : l.getD (W * i + k) false with
      | true =>
        rw [hb, if_pos rfl] at hrk
        rw [hb] at hck
        have s1 := shl64 (n := k) (by omega)
        have hp16 : 2 ^ k < 16 := by
          have := Nat.pow_lt_pow_right (show 1 < 2 by omega) (show k < 4 by omega)
          simpa using this
        have s2 := or64 (x := rowK W l i k) (y := 2 ^ k) (by omega) hp16
        generalize 2 ^ k = q at *
        generalize hr : rowK W l i k = r at *
        simp (disch := first | assumption | omega | rfl | simp only [RH]) only [↓RP, RG, FX, RQ, ↓reduceIte, Nat.reduceEqDiff, reduceCtorEq, Nat.reduceBEq, Nat.reduceAdd, Nat.reduceLeDiff, hck, aBin_shl, s1, s2]
        exact ⟨k + 1, hlt, by rw [hrk]; rfl, by omega⟩
      | false =>
        rw [hb, if_neg (by simp)] at hrk
        rw [hb] at hck
        generalize hr : rowK W l i k = r at *
        simp (disch := first | assumption | omega | rfl | simp only [RH]) only [↓RP, RG, FX, RQ, ↓reduceIte, Nat.reduceEqDiff, reduceCtorEq, Nat.reduceBEq, Nat.reduceAdd, Nat.reduceLeDiff, hck]
        exact ⟨k + 1, hlt, by rw [hrk]; rfl, by omega⟩
    · obtain rfl : k = W := by omega
      generalize hr : rowK k l i k = r at *
      simp (disch := first | assumption | omega | rfl | simp only [RH]) only [↓RP, RG, FX, RQ, ↓reduceIte, Nat.reduceEqDiff, reduceCtorEq, Nat.reduceBEq, Nat.reduceAdd, Nat.reduceLeDiff, append_int]
      refine Wk.of_eq ?_
      rw [hsucc]
  · have hlen := rowsL_len W l H
    have hnl := nI_len (rowsL W l H)
    have hp : 0 < (ints (nI (rowsL W l H))).length := by rw [ints_length]; omega
    rw [hxl]
    generalize rowsL W l H = R at *
    simp (disch := first | assumption | omega | rfl | simp only [RH]) only [↓RP, RG, FX, RQ, ↓reduceIte, Nat.reduceEqDiff, reduceCtorEq, Nat.reduceBEq, Nat.reduceAdd, Nat.reduceLeDiff, gw_pos hp, go_pos hp, ints_length]
    rw [resVal_1 rfl]; simp (disch := first | assumption | omega | rfl | simp only [RH]) only [↓RP, RG, FX, RQ, ↓reduceIte, Nat.reduceEqDiff, reduceCtorEq, Nat.reduceBEq, Nat.reduceAdd, Nat.reduceLeDiff, RS]
    first | done | rfl
end Go.Proofs.YtlckfakifamjiaaDoor

/- The library's sort and compaction, as this program bears them. -/
set_option linter.unusedVariables false
namespace Go.Proofs
open Go.Shelf
def Tryd.lays189_ren : Go.Shelf.Ren := ⟨fun | 189 => 42 | 125 => 70 | 257 => 69 | 128 => 97 | 129 => 98 | 294 => 88 | 295 => 89 | 296 => 90 | 297 => 91 | 298 => 92 | 299 => 93 | 216 => 94 | 300 => 95 | 301 => 96 | 328 => 107 | 329 => 108 | 330 => 109 | 331 => 110 | 332 => 111 | 215 => 99 | 343 => 118 | n => n, fun | 28 => 22 | 3 => 3 | 46 => 85 | 0 => 0 | 51 => 134 | 53 => 136 | 4 => 4 | 183 => 127 | 182 => 126 | 131 => 131 | 5 => 5 | 9 => 9 | 218 => 143 | 222 => 147 | 228 => 154 | 229 => 155 | n => n, fun | n => n⟩
theorem Tryd.lays189 : Go.Proofs.Lays.n189 Tryd.prog Tryd.lays189_ren := {
  mixed := by kernel_rfl
  f125 := Tryd.func70.trans (congrArg some (by kernel_rfl))
  f128 := Tryd.func97.trans (congrArg some (by kernel_rfl))
  f129 := Tryd.func98.trans (congrArg some (by kernel_rfl))
  f189 := Tryd.func42.trans (congrArg some (by kernel_rfl))
  f215 := Tryd.func99.trans (congrArg some (by kernel_rfl))
  f216 := Tryd.func94.trans (congrArg some (by kernel_rfl))
  f257 := Tryd.func69.trans (congrArg some (by kernel_rfl))
  f294 := Tryd.func88.trans (congrArg some (by kernel_rfl))
  f295 := Tryd.func89.trans (congrArg some (by kernel_rfl))
  f296 := Tryd.func90.trans (congrArg some (by kernel_rfl))
  f297 := Tryd.func91.trans (congrArg some (by kernel_rfl))
  f298 := Tryd.func92.trans (congrArg some (by kernel_rfl))
  f299 := Tryd.func93.trans (congrArg some (by kernel_rfl))
  f300 := Tryd.func95.trans (congrArg some (by kernel_rfl))
  f301 := Tryd.func96.trans (congrArg some (by kernel_rfl))
  f328 := Tryd.func107.trans (congrArg some (by kernel_rfl))
  f329 := Tryd.func108.trans (congrArg some (by kernel_rfl))
  f330 := Tryd.func109.trans (congrArg some (by kernel_rfl))
  f331 := Tryd.func110.trans (congrArg some (by kernel_rfl))
  f332 := Tryd.func111.trans (congrArg some (by kernel_rfl))
  f343 := Tryd.func118.trans (congrArg some (by kernel_rfl))
  t0 := Tryd.underlying0
  a0 := Tryd.isAgg0
  z0 := Tryd.sizeOf0
  v0 := Tryd.zeroValue0
  t3 := Tryd.underlying3
  a3 := Tryd.isAgg3
  z3 := Tryd.sizeOf3
  v3 := Tryd.zeroValue3
  t4 := Tryd.underlying4
  a4 := Tryd.isAgg4
  z4 := Tryd.sizeOf4
  v4 := Tryd.zeroValue4
  t5 := Tryd.underlying5
  a5 := Tryd.isAgg5
  z5 := Tryd.sizeOf5
  v5 := Tryd.zeroValue5
  t9 := Tryd.underlying9
  a9 := Tryd.isAgg9
  z9 := Tryd.sizeOf9
  v9 := Tryd.zeroValue9
  t28 := Tryd.underlying22
  a28 := Tryd.isAgg22
  z28 := Tryd.sizeOf22
  v28 := Tryd.zeroValue22
  t46 := Tryd.underlying85
  a46 := Tryd.isAgg85
  z46 := Tryd.sizeOf85
  v46 := Tryd.zeroValue85
  t51 := Tryd.underlying134
  a51 := Tryd.isAgg134
  z51 := Tryd.sizeOf134
  v51 := Tryd.zeroValue134
  t53 := Tryd.underlying136
  a53 := Tryd.isAgg136
  z53 := Tryd.sizeOf136
  v53 := Tryd.zeroValue136
  t131 := Tryd.underlying131
  a131 := Tryd.isAgg131
  z131 := Tryd.sizeOf131
  v131 := Tryd.zeroValue131
  t182 := Tryd.underlying126
  a182 := Tryd.isAgg126
  z182 := Tryd.sizeOf126
  v182 := Tryd.zeroValue126
  t183 := Tryd.underlying127
  a183 := Tryd.isAgg127
  z183 := Tryd.sizeOf127
  v183 := Tryd.zeroValue127
  t218 := Tryd.underlying143
  a218 := Tryd.isAgg143
  z218 := Tryd.sizeOf143
  v218 := Tryd.zeroValue143
  t222 := Tryd.underlying147
  a222 := Tryd.isAgg147
  z222 := Tryd.sizeOf147
  v222 := Tryd.zeroValue147
  t228 := Tryd.underlying154
  a228 := Tryd.isAgg154
  z228 := Tryd.sizeOf154
  v228 := Tryd.zeroValue154
  t229 := Tryd.underlying155
  a229 := Tryd.isAgg155
  z229 := Tryd.sizeOf155
  v229 := Tryd.zeroValue155 }
def Tryd.lays2_20_ren : Go.Shelf.Ren := ⟨fun | 20 => 43 | n => n, fun | 22 => 22 | 3 => 3 | 4 => 4 | 0 => 0 | n => n, fun | n => n⟩
theorem Tryd.lays2_20 : Go.Proofs.Lays2.n20 Tryd.prog Tryd.lays2_20_ren := {
  mixed := by kernel_rfl
  f20 := Tryd.func43.trans (congrArg some (by kernel_rfl))
  t0 := Tryd.underlying0
  a0 := Tryd.isAgg0
  z0 := Tryd.sizeOf0
  v0 := Tryd.zeroValue0
  t3 := Tryd.underlying3
  a3 := Tryd.isAgg3
  z3 := Tryd.sizeOf3
  v3 := Tryd.zeroValue3
  t4 := Tryd.underlying4
  a4 := Tryd.isAgg4
  z4 := Tryd.sizeOf4
  v4 := Tryd.zeroValue4
  t22 := Tryd.underlying22
  a22 := Tryd.isAgg22
  z22 := Tryd.sizeOf22
  v22 := Tryd.zeroValue22
  i3 := by kernel_rfl }
end Go.Proofs

/- The lifts of a grid, by the program. -/
set_option linter.unusedSimpArgs false
set_option linter.unusedVariables false
set_option maxRecDepth 100000
namespace Go.Proofs.YtlckfakifamjiaaDoor
open Go Go.Proofs Go.AW

theorem rows_s (h0 : List AObj) {W H : Nat} (hW1 : 1 ≤ W) (hW4 : W ≤ 4) (hH1 : 1 ≤ H) (hH : H ≤ 64) (b : Bool) {l : List Bool} (hn : l.length = W * H) : SpecTo Tryd.prog 34 [GA W H b l] h0 (.ref h0.length 0 H H) (h0 ++ [⟨3, 1, ints (nI (rowsL W l H))⟩]) := by
  have hxl : ((List.range H).map (chV b W l)).length = H := by simp
  have hxg : ∀ k, k < H → ((List.range H).map (chV b W l)).getD k .undef = chV b W l k := fun k hk => by
    rw [List.getD_eq_getElem?_getD, List.getElem?_map, List.getElem?_range hk]; rfl
  have hg := chunkF_y true true b hW1 (show W ≤ 64 by omega) hH hn
  generalize (List.range H).map (chV b W l) = xs at *
  refine SpecTo.intro (effS [] false) follows Tryd.func34 rfl rfl (by kernel_rfl) (Nat.le_of_ble_eq_true rfl) ?_
  simp (disch := first | assumption | omega | rfl | simp only [RH]) only [↓RP, RG, FX, RQ, ↓reduceIte, Nat.reduceEqDiff, reduceCtorEq, Nat.reduceBEq, Nat.reduceAdd, Nat.reduceLeDiff, args0_1]
  refine callK_F 6 (chunk_c b l hW1) (by simp (disch := first | assumption | omega | rfl | simp only [RH]) only [↓RP, RG, FX, RQ, ↓reduceIte, Nat.reduceEqDiff, reduceCtorEq, Nat.reduceBEq, Nat.reduceAdd, Nat.reduceLeDiff, RA] <;> rfl) (.inr (by simp [noRef, bools_noRef])) ?_
  simp (disch := first | assumption | omega | rfl | simp only [RH]) only [↓RP, RG, FX, RQ, ↓reduceIte, Nat.reduceEqDiff, reduceCtorEq, Nat.reduceBEq, Nat.reduceAdd, Nat.reduceLeDiff]
  refine rangeK_S (s := ⟨[(3, .ptr (h0.length + 1) 0 1), (12, .func (.func 78) [] [.spot true [BA b l], .spot true [I W]])], h0 ++ [⟨25, 3, [I W, I H, BA b l]⟩, ⟨22, 1, [gw true (h0.length + 2) (ints (nI (rowsL W l 0)))]⟩, go 3 (ints (nI (rowsL W l 0)))]⟩) [3, 12] xs (fun k => h0 ++ [⟨25, 3, [I W, I H, BA b l]⟩, ⟨22, 1, [gw true (h0.length + 2) (ints (nI (rowsL W l k)))]⟩, go 3 (ints (nI (rowsL W l k)))]) ?_ rfl rfl (hg _) (fun i hi => ?_) ?_
  · simp only [↓RP, RG, FX, RQ, ↓reduceIte, Nat.reduceEqDiff, reduceCtorEq, Nat.reduceBEq, Nat.reduceAdd, Nat.reduceLeDiff]
    exact Wk.weak (fun t => .refl _) (.app h0 (.cons _ _ _ _ (WL.refl _) (.cons _ _ _ _ (.cons (.nil _) .nil) (.nil _ (by simp [go, ints, rowsL, nI])))))
  · rw [hxl] at hi
    rw [hxg i hi]
    have hlen := rowsL_len W l i
    have hnl := nI_len (rowsL W l i)
    have h3 : W * i + W ≤ W * H := by
      have := Nat.mul_le_mul_left W (show i + 1 ≤ H by omega)
      rwa [Nat.mul_succ] at this
    have hsucc : nI (rowsL W l (i + 1)) = nI (rowsL W l i) ++ [((rowK W l i W : Nat) : Int)] := by rw [rowsL_succ, nI_app]
    have hcl : ((l.drop (W * i)).take W).length = W := by rw [List.length_take, List.length_drop]; omega
    have hcg : ∀ s, s < W → ((l.drop (W * i)).take W).getD s false = l.getD (W * i + s) false := fun s hs => by
      rw [List.getD_eq_getElem?_getD, List.getElem?_take_of_lt hs, List.getElem?_drop, List.getD_eq_getElem?_getD]
    unfold chV
    generalize (l.drop (W * i)).take W = c at *
    generalize hR : rowsL W l i = R at *
    simp (disch := first | assumption | omega | rfl | simp only [RH]) only [↓RP, RG, FX, RQ, ↓reduceIte, Nat.reduceEqDiff, reduceCtorEq, Nat.reduceBEq, Nat.reduceAdd, Nat.reduceLeDiff]
    refine loopK_I [3, 5, 14, 15, 16] (fun k : Nat => k ≤ W) (fun k : Nat => ⟨[(3, .ptr (h0.length + 1) 0 1), (5, I ((rowK W l i k : Nat) : Int)), (14, .list false b W (bools c)), (15, I W), (16, I k)], h0 ++ [⟨25, 3, [I W, I H, BA b l]⟩, ⟨22, 1, [gw true (h0.length + 2) (ints (nI R))]⟩, go 3 (ints (nI R))]⟩) (fun k => W - k) 0 (by omega) (by simp only [↓RP, RG, FX, RQ, ↓reduceIte, Nat.reduceEqDiff, reduceCtorEq, Nat.reduceBEq, Nat.reduceAdd, Nat.reduceLeDiff]; rfl) ?_
    intro k hk
    have hrl := rowK_lt W l i k
    have hp4 : 2 ^ k ≤ 16 := by
      have := Nat.pow_le_pow_right (show 0 < 2 by omega) (show k ≤ 4 by omega)
      simpa using this
    by_cases hlt : k < W
    · have hck := hcg k hlt
      have hrk : rowK W l i (k + 1) = if l.getD (W * i + k) false = true then rowK W l i k ||| 2 ^ k else rowK W l i k := rfl
      cases hb : l.getD (W * i + k) false with
      | true =>
        rw [hb, if_pos rfl] at hrk
        rw [hb] at hck
        have s1 := shl64 (n := k) (by omega)
        have hp16 : 2 ^ k < 16 := by
          have := Nat.pow_lt_pow_right (show 1 < 2 by omega) (show k < 4 by omega)
          simpa using this
        have s2 := or64 (x := rowK W l i k) (y := 2 ^ k) (by omega) hp16
        generalize 2 ^ k = q at *
        generalize hr : rowK W l i k = r at *
        simp (disch := first | assumption | omega | rfl | simp only [RH]) only [↓RP, RG, FX, RQ, ↓reduceIte, Nat.reduceEqDiff, reduceCtorEq, Nat.reduceBEq, Nat.reduceAdd, Nat.reduceLeDiff, hck, aBin_shl, s1, s2]
        exact ⟨k + 1, hlt, by rw [hrk]; rfl, by omega⟩
      | false =>
        rw [hb, if_neg (by simp)] at hrk
        rw [hb] at hck
        generalize hr : rowK W l i k = r at *
        simp (disch := first | assumption | omega | rfl | simp only [RH]) only [↓RP, RG, FX, RQ, ↓reduceIte, Nat.reduceEqDiff, reduceCtorEq, Nat.reduceBEq, Nat.reduceAdd, Nat.reduceLeDiff, hck]
        exact ⟨k + 1, hlt, by rw [hrk]; rfl, by omega⟩
    · obtain rfl : k = W := by omega
      generalize hr : rowK k l i k = r at *
      simp (disch := first | assumption | omega | rfl | simp only [RH]) only [↓RP, RG, FX, RQ, ↓reduceIte, Nat.reduceEqDiff, reduceCtorEq, Nat.reduceBEq, Nat.reduceAdd, Nat.reduceLeDiff, append_int]
      refine Wk.of_eq ?_
      rw [hsucc]
  · have hlen := rowsL_len W l H
    have hnl := nI_len (rowsL W l H)
    have hp : 0 < (ints (nI (rowsL W l H))).length := by rw [ints_length]; omega
    have hpl : (ints (nI (rowsL W l H))).length = H := by rw [ints_length]; omega
    rw [hxl]
    generalize rowsL W l H = R at *
    simp (disch := first | assumption | omega | rfl | simp only [RH]) only [↓RP, RG, FX, RQ, ↓reduceIte, Nat.reduceEqDiff, reduceCtorEq, Nat.reduceBEq, Nat.reduceAdd, Nat.reduceLeDiff, gw_pos hp, go_pos hp, hpl]
    refine ⟨_, by rw [resVal_1 rfl]; simp (disch := first | assumption | omega | rfl | simp only [RH]) only [↓RP, RG, FX, RQ, ↓reduceIte, Nat.reduceEqDiff, reduceCtorEq, Nat.reduceBEq, Nat.reduceAdd, Nat.reduceLeDiff, raX_tmp, raX_cell, rvX_0, rvX_1, rvX_2, rvX_3, rvX_4, rvX_5]; rfl, (Wk.drop 8 [2] (by simp) (by decide) (by simp) (same_refl)).trans (Wk.of_eq (by simp (disch := omega) only [RK, List.idxOf?_cons, List.idxOf?_nil, Nat.reduceBEq, Option.map_some, Option.map_none, List.map_cons, List.map_nil, List.getD_cons_zero, List.getD_cons_succ, Bool.false_eq_true, ↓reduceIte, Nat.add_zero, List.append_nil]))⟩
theorem rowsL_lt (W : Nat) (l : List Bool) (k : Nat) : ∀ x ∈ rowsL W l k, x < 2 ^ W := by
  intro x hx
  simp only [rowsL, List.mem_map] at hx
  obtain ⟨y, _, rfl⟩ := hx
  exact rowK_lt W l y W
theorem uniq_rows {W : Nat} {R : List Nat} (hR : ∀ x ∈ R, x < 2 ^ W) : uniq (nI R) = nI (if 0 ∈ R then 0 :: nzL W R else nzL W R) := by
  have hm : ∀ x : Int, x ∈ nI R ↔ ∃ y ∈ R, x = (y : Int) := fun x => by
    unfold nI; simp only [List.mem_map]
    exact ⟨fun ⟨y, h, e⟩ => ⟨y, h, e.symm⟩, fun ⟨y, h, e⟩ => ⟨y, h, e.symm⟩⟩
  have hnz := (nz_tie W R).1
  refine uniq_eq ?_ fun x => ?_
  · unfold nI
    rw [List.pairwise_map]
    by_cases h0 : 0 ∈ R
    · rw [if_pos h0]
      refine List.pairwise_cons.2 ⟨fun y hy => by have := (mem_nz.1 hy).2.1; omega, hnz.imp fun h => by omega⟩
    · rw [if_neg h0]; exact hnz.imp fun h => by omega
  · rw [hm]
    unfold nI
    simp only [List.mem_map]
    by_cases h0 : 0 ∈ R
    · rw [if_pos h0]
      constructor
      · rintro ⟨y, hy, rfl⟩
        rcases List.mem_cons.1 hy with e | e
        · subst e; exact ⟨0, h0, rfl⟩
        · exact ⟨y, (mem_nz.1 e).2.2, rfl⟩
      · rintro ⟨y, hy, rfl⟩
        by_cases e : y = 0
        · subst e; exact ⟨0, List.mem_cons_self, rfl⟩
        · exact ⟨y, List.mem_cons_of_mem _ (mem_nz.2 ⟨hR y hy, by omega, hy⟩), rfl⟩
    · rw [if_neg h0]
      constructor
      · rintro ⟨y, hy, rfl⟩; exact ⟨y, (mem_nz.1 hy).2.2, rfl⟩
      · rintro ⟨y, hy, rfl⟩
        have : y ≠ 0 := fun e => h0 (e ▸ hy)
        exact ⟨y, mem_nz.2 ⟨hR y hy, by omega, hy⟩, rfl⟩
theorem rX_off {h : List AObj} {n k ext ty : Nat} {a : Int} {u z : List Int} (hk : k = u.length) (he : ext = (a :: (u ++ z)).length) : rX h (n + 1) 1 k ext (some ⟨ty, 1, ints (a :: (u ++ z))⟩) = LR false u := by
  subst hk; subst he
  have e : List.take u.length (ints (a :: (u ++ z))).tail = ints u := by simp [ints, ← List.map_take]
  simp [rX, ints_length, e, ints_res]
theorem rX_cutL {h : List AObj} {n k ext ty : Nat} {u z : List Int} (hk : k = u.length) (he : ext = (u ++ z).length) : rX h (n + 1) 0 k ext (some ⟨ty, 1, ints (u ++ z)⟩) = LR false u := by
  subst hk; subst he
  have e : (ints (u ++ z)).take u.length = ints u := by simp [ints, ← List.map_take]
  simp [rX, ints_length, e, ints_res]
theorem sl_ref_end {P : Program} {t e nb : Nat} {z : Value} [S : SlT P t e nb z] {h : List AObj} {id n ext : Nat} {k : IntKind} {c : Int} {cs : List AVal} (hc : cA h[id]? ext = some cs) (h0 : c = n) :
    aSlice P t h (.ref id 0 n ext) (some (.val (.int k c))) none none = some (.list true false 0 []) := by
  obtain ⟨⟨T, hT, hTe⟩, E, hE, g1, g2, g3, g4⟩ := S
  subst h0
  simp only [aSlice, hT, hTe, hE, sview, optInt, g1, cellsAt_eq, hc]
  simp only [Option.map_some, Nat.mul_one]
  rw [if_pos ⟨by omega, Int.le_refl _, Int.le_refl _, by rw [g1]; decide⟩, if_pos trivial]
theorem liftsP_c {W H : Nat} (hW1 : 1 ≤ W) (hW4 : W ≤ 4) (hH1 : 1 ≤ H) (hH : H ≤ 64) (b : Bool) {l : List Bool} (hn : l.length = W * H) : Contract Tryd.prog 18 [GA W H b l] (.tuple [LR false (nI (nzL W (rowsL W l H))), I 0]) := by
  have hz : gchk W H l.length = 0 := gchk_ok ⟨by omega, by omega, by omega, by omega, by rw [hn, Int.natCast_mul]⟩
  have hlen := rowsL_len W l H
  have hnl := nI_len (rowsL W l H)
  have hul : (uniq (nI (rowsL W l H))).length ≤ H := by have := uniq_len (nI (rowsL W l H)); rw [ms_len] at this; omega
  have hsl := ms_len (nI (rowsL W l H))
  have hur := uniq_rows (rowsL_lt W l H)
  have hup : 0 < (uniq (nI (rowsL W l H))).length := by
    have h1 : (nI (rowsL W l H)).getD 0 0 ∈ uniq (nI (rowsL W l H)) := ((uniq_spec _).2 _).2 (by rw [List.getD_eq_getElem?_getD, List.getElem?_eq_getElem (by omega)]; exact List.getElem_mem (by omega))
    exact List.length_pos_of_mem h1
  refine Contract.intro (effS [34, 42, 43] false) 6 follows Tryd.func18 rfl rfl (by kernel_rfl) (Nat.le_of_ble_eq_true rfl) ?_
  simp (disch := first | assumption | omega | rfl | simp only [RH]) only [↓RP, RG, FX, RQ, ↓reduceIte, Nat.reduceEqDiff, reduceCtorEq, Nat.reduceBEq, Nat.reduceAdd, Nat.reduceLeDiff, args0_1]
  refine callK_F 6 (gcheckP_c W H b l) (by simp (disch := first | assumption | omega | rfl | simp only [RH]) only [↓RP, RG, FX, RQ, ↓reduceIte, Nat.reduceEqDiff, reduceCtorEq, Nat.reduceBEq, Nat.reduceAdd, Nat.reduceLeDiff, RA] <;> rfl) (.inl (by simp [allFresh, ints_fresh, bools_fresh])) ?_
  simp (disch := first | assumption | omega | rfl | simp only [RH]) only [↓RP, RG, FX, RQ, ↓reduceIte, Nat.reduceEqDiff, reduceCtorEq, Nat.reduceBEq, Nat.reduceAdd, Nat.reduceLeDiff, hz]
  refine callK_T rfl (rows_s _ hW1 hW4 hH1 hH b hn) ?_
  simp (disch := first | assumption | omega | rfl | simp only [RH]) only [↓RP, RG, FX, RQ, ↓reduceIte, Nat.reduceEqDiff, reduceCtorEq, Nat.reduceBEq, Nat.reduceAdd, Nat.reduceLeDiff]
  refine callK_T rfl (sort_spec (ρ := Tryd.lays189_ren) Tryd.lays189 (by kernel_rfl) (id := 1) rfl (by decide) (hnl.trans hlen) (by omega)) ?_
  simp (disch := first | assumption | omega | rfl | simp only [RH]) only [↓RP, RG, FX, RQ, ↓reduceIte, Nat.reduceEqDiff, reduceCtorEq, Nat.reduceBEq, Nat.reduceAdd, Nat.reduceLeDiff]
  refine callK_T rfl (compact_spec (ρ := Tryd.lays2_20_ren) Tryd.lays2_20 (by kernel_rfl) (id := 1) rfl (by decide) (hsl.trans (hnl.trans hlen)) (by omega)) ?_
  have hu : Lib.compact (srt (nI (rowsL W l H))) = uniq (nI (rowsL W l H)) := rfl
  rw [hu, hur]
  rw [hur] at hul hup
  generalize hzz : List.replicate (H - (nI (if 0 ∈ rowsL W l H then 0 :: nzL W (rowsL W l H) else nzL W (rowsL W l H))).length) (0 : Int) = z
  have hzl : z.length = H - (nI (if 0 ∈ rowsL W l H then 0 :: nzL W (rowsL W l H) else nzL W (rowsL W l H))).length := by rw [← hzz, List.length_replicate]
  by_cases h0 : 0 ∈ rowsL W l H
  · simp only [if_pos h0] at hul hup hzl ⊢
    have hcons : nI (0 :: nzL W (rowsL W l H)) = 0 :: nI (nzL W (rowsL W l H)) := rfl
    rw [hcons] at hul hup hzl ⊢
    generalize nI (nzL W (rowsL W l H)) = N at *
    have hl1 : (0 :: (N ++ z)).length = H := by rw [List.length_cons, List.length_append]; rw [List.length_cons] at hzl hul; omega
    have hg0 : (0 :: (N ++ z)).getD 0 0 = 0 := rfl
    have hNl : (0 :: N).length = N.length + 1 := List.length_cons
    by_cases hN0 : N.length = 0
    · obtain rfl : N = [] := List.eq_nil_of_length_eq_zero hN0
      have hl2 : (0 :: z).length = H := hl1
      have hg2 : (0 :: z).getD 0 0 = 0 := rfl
      have hse : aSlice Tryd.prog 22 [⟨25, 3, [I W, I H, BA b l]⟩, ⟨3, 1, ints (0 :: z)⟩] (.ref 1 0 1 H) (some (.val (.int .i64 1))) none none = some (.list true false 0 []) := sl_ref_end (cs := ints (0 :: z)) (cA_ints hl2) rfl
      simp (disch := first | assumption | omega | rfl | simp only [RH]) only [↓RP, RG, FX, RQ, ↓reduceIte, Nat.reduceEqDiff, reduceCtorEq, Nat.reduceBEq, Nat.reduceAdd, Nat.reduceLeDiff, Int.toNat_zero, hg2, hse]
      rw [resVal_2 rfl]; simp (disch := first | assumption | omega | rfl | simp only [RH]) only [↓RP, RG, FX, RQ, ↓reduceIte, Nat.reduceEqDiff, reduceCtorEq, Nat.reduceBEq, Nat.reduceAdd, Nat.reduceLeDiff, RS]
      first | done | rfl
    · have h1t : Int.toNat 1 = 1 := rfl
      simp (disch := first | assumption | omega | rfl | simp only [RH]) only [↓RP, RG, FX, RQ, ↓reduceIte, Nat.reduceEqDiff, reduceCtorEq, Nat.reduceBEq, Nat.reduceAdd, Nat.reduceLeDiff, Int.toNat_zero, hg0, sl_ref_lo, h1t, Nat.add_sub_cancel]
      rw [resVal_2 rfl]; simp (disch := first | assumption | omega | rfl | simp only [RH]) only [↓RP, RG, FX, RQ, ↓reduceIte, Nat.reduceEqDiff, reduceCtorEq, Nat.reduceBEq, Nat.reduceAdd, Nat.reduceLeDiff, RS]
      first | done | (rw [rX_off rfl hl1.symm])
  · simp only [if_neg h0] at hul hup hzl ⊢
    have hpos : ∀ i, i < (nI (nzL W (rowsL W l H))).length → (nI (nzL W (rowsL W l H))).getD i 0 ≠ 0 := fun i hi => by
      rw [nI_len] at hi
      rw [nI_get]
      have hm : (nzL W (rowsL W l H)).getD i 0 ∈ nzL W (rowsL W l H) := by rw [List.getD_eq_getElem?_getD, List.getElem?_eq_getElem hi]; exact List.getElem_mem hi
      have := (mem_nz.1 hm).2.1
      omega
    generalize nI (nzL W (rowsL W l H)) = N at *
    have hl1 : (N ++ z).length = H := by rw [List.length_append]; omega
    have hg0 : (N ++ z).getD 0 0 = N.getD 0 0 := by
      rw [List.getD_eq_getElem?_getD, List.getElem?_append_left hup, List.getD_eq_getElem?_getD]
    have hp0 := hpos 0 hup
    simp (disch := first | assumption | omega | rfl | simp only [RH]) only [↓RP, RG, FX, RQ, ↓reduceIte, Nat.reduceEqDiff, reduceCtorEq, Nat.reduceBEq, Nat.reduceAdd, Nat.reduceLeDiff, Int.toNat_zero, hg0]
    rw [resVal_2 rfl]; simp (disch := first | assumption | omega | rfl | simp only [RH]) only [↓RP, RG, FX, RQ, ↓reduceIte, Nat.reduceEqDiff, reduceCtorEq, Nat.reduceBEq, Nat.reduceAdd, Nat.reduceLeDiff, RS]
    first | done | (rw [rX_cutL rfl hl1.symm])
end Go.Proofs.YtlckfakifamjiaaDoor

/- Plans, by the program. -/
set_option linter.unusedSimpArgs false
set_option linter.unusedVariables false
set_option maxRecDepth 100000
namespace Go.Proofs.YtlckfakifamjiaaDoor
open Go Go.Proofs Go.AW

theorem shr64 {x n : Nat} (hn : n ≤ 16) : aInt .shr .i64 (x : Int) (n : Int) = some (.val (.int .i64 ((x / 2 ^ n : Nat) : Int))) := by
  have e : (min (Int.toNat (n : Int)) IntKind.i64.bits) = n := by
    rw [Int.toNat_natCast, show IntKind.i64.bits = 64 from rfl]; omega
  show (if (n : Int) < 0 then none else some _) = _
  rw [if_neg (by omega), e, show ((2 : Int) ^ n) = ((2 ^ n : Nat) : Int) by norm_cast, Int.fdiv_eq_ediv_of_nonneg _ (Int.natCast_nonneg _)]
  rfl
theorem and64_1 {x : Nat} (hx : x < 1000000) : aInt .and .i64 (x : Int) 1 = some (.val (.int .i64 ((x % 2 : Nat) : Int))) := by
  show some (AVal.val (.int .i64 (IntKind.i64.wrap ((BitVec.ofInt 64 (x : Int) &&& BitVec.ofInt 64 ((1 : Nat) : Int)).toNat)))) = _
  rw [ofI64, ofI64, BitVec.toNat_and, BitVec.toNat_ofNat, BitVec.toNat_ofNat, Nat.mod_eq_of_lt (by omega), Nat.mod_eq_of_lt (by omega), Nat.and_one_is_mod, wr64 (by omega)]
/-- A cell of the least tie-up as a grid. -/
def uT5 (T : List Nat) (x y : Nat) : Bool := (T.getD x 0).testBit y
/-- The pressings of the first k rows. -/
def prL (f : Nat → List Nat) (k : Nat) : List AVal := (List.range k).map fun y => LR (f y).isEmpty (nI (f y))
theorem prL_len (f : Nat → List Nat) (k : Nat) : (prL f k).length = k := by simp [prL]
theorem prL_succ (f : Nat → List Nat) (k : Nat) : prL f (k + 1) = prL f k ++ [LR (f k).isEmpty (nI (f k))] := by simp [prL, List.range_succ]
theorem plan_none {W H : Nat} (hW1 : 1 ≤ W) (hW4 : W ≤ 4) (hH1 : 1 ≤ H) (hH : H ≤ 64) (b : Bool) {l : List Bool} (hn : l.length = W * H) {feet : Nat} (hf1 : 1 ≤ feet) (hf4 : feet ≤ 4) {T : List Nat} (hT : Lst W (nzL W (rowsL W l H)) feet T) (h0 : T.length = 0) :
    Contract Tryd.prog 14 [GA W H b l, I feet] (.tuple [GR 0 0 true [], .list true true 0 [], I 6]) := by
  have hli := liftsP_c hW1 hW4 hH1 hH b hn
  have hfe := feet_c (feet : Int)
  rw [decide_eq_true (by omega)] at hfe
  have hlen := rowsL_len W l H
  have hnzl : (nzL W (rowsL W l H)).length ≤ 16 := by
    obtain ⟨q1, q2, q3⟩ := famN_ok hW4 (nz_tie W (rowsL W l H))
    rw [← q3]; unfold bitsL; exact Nat.le_trans (List.length_filter_le _ _) (by simp)
  have hle := least_c (s := W) hW1 hW4 false (L := nzL W (rowsL W l H)) (by omega) (fun x hx => (mem_nz.1 hx).1) hf1 hf4 hT
  have hTl := nI_len T
  generalize nzL W (rowsL W l H) = L at *
  refine Contract.intro (effS [] false) 6 follows Tryd.func14 rfl rfl (by kernel_rfl) (Nat.le_of_ble_eq_true rfl) ?_
  simp (disch := first | assumption | omega | rfl | simp only [RH]) only [↓RP, RG, FX, RQ, ↓reduceIte, Nat.reduceEqDiff, reduceCtorEq, Nat.reduceBEq, Nat.reduceAdd, Nat.reduceLeDiff, args0_2]
  refine callK_F 6 hli (by simp (disch := first | assumption | omega | rfl | simp only [RH]) only [↓RP, RG, FX, RQ, ↓reduceIte, Nat.reduceEqDiff, reduceCtorEq, Nat.reduceBEq, Nat.reduceAdd, Nat.reduceLeDiff, RA] <;> rfl) (.inl (by simp [allFresh, ints_fresh])) ?_
  simp (disch := first | assumption | omega | rfl | simp only [RH]) only [↓RP, RG, FX, RQ, ↓reduceIte, Nat.reduceEqDiff, reduceCtorEq, Nat.reduceBEq, Nat.reduceAdd, Nat.reduceLeDiff]
  refine callK_F 6 (hfe) (by simp (disch := first | assumption | omega | rfl | simp only [RH]) only [↓RP, RG, FX, RQ, ↓reduceIte, Nat.reduceEqDiff, reduceCtorEq, Nat.reduceBEq, Nat.reduceAdd, Nat.reduceLeDiff, RA] <;> rfl) (.inl (by simp [allFresh, ints_fresh, bools_fresh])) ?_
  simp (disch := first | assumption | omega | rfl | simp only [RH]) only [↓RP, RG, FX, RQ, ↓reduceIte, Nat.reduceEqDiff, reduceCtorEq, Nat.reduceBEq, Nat.reduceAdd, Nat.reduceLeDiff]
  refine callK_F 6 hle (by simp (disch := first | assumption | omega | rfl | simp only [RH]) only [↓RP, RG, FX, RQ, ↓reduceIte, Nat.reduceEqDiff, reduceCtorEq, Nat.reduceBEq, Nat.reduceAdd, Nat.reduceLeDiff, RA] <;> rfl) (.inl (by simp [allFresh, ints_fresh])) ?_
  simp (disch := first | assumption | omega | rfl | simp only [RH]) only [↓RP, RG, FX, RQ, ↓reduceIte, Nat.reduceEqDiff, reduceCtorEq, Nat.reduceBEq, Nat.reduceAdd, Nat.reduceLeDiff]
  rw [resVal_3 rfl]; simp (disch := first | assumption | omega | rfl | simp only [RH]) only [↓RP, RG, FX, RQ, ↓reduceIte, Nat.reduceEqDiff, reduceCtorEq, Nat.reduceBEq, Nat.reduceAdd, Nat.reduceLeDiff, RS]
  first | done | rfl
theorem plan_c {W H : Nat} (hW1 : 1 ≤ W) (hW4 : W ≤ 4) (hH1 : 1 ≤ H) (hH : H ≤ 64) (b : Bool) {l : List Bool} (hn : l.length = W * H) {feet : Nat} (hf1 : 1 ≤ feet) (hf4 : feet ≤ 4) {T : List Nat} (hT : Lst W (nzL W (rowsL W l H)) feet T) (h0 : 0 < T.length)
    (f : Nat → List Nat) (hf : ∀ y, y < H → Bst T (rowK W l y W) feet (some (f y))) :
    Contract Tryd.prog 14 [GA W H b l, I feet] (.tuple [GR T.length W false (tabN T.length (uT5 T) (T.length * W)), .list true false H (prL f H), I 0]) := by
  obtain ⟨p1, p2⟩ := pow4 hW4
  have hli := liftsP_c hW1 hW4 hH1 hH b hn
  have hfe := feet_c (feet : Int)
  rw [decide_eq_true (by omega)] at hfe
  have hlen := rowsL_len W l H
  have hnzl : (nzL W (rowsL W l H)).length ≤ 16 := by
    obtain ⟨q1, q2, q3⟩ := famN_ok hW4 (nz_tie W (rowsL W l H))
    rw [← q3]; unfold bitsL; exact Nat.le_trans (List.length_filter_le _ _) (by simp)
  have hle := least_c (s := W) hW1 hW4 false (L := nzL W (rowsL W l H)) (by omega) (fun x hx => (mem_nz.1 hx).1) hf1 hf4 hT
  have hTl := nI_len T
  have hT16 : T.length ≤ 16 := by
    obtain ⟨q1, q2, q3⟩ := famN_ok hW4 hT.tie
    rw [← q3]; unfold bitsL; exact Nat.le_trans (List.length_filter_le _ _) (by simp)
  have htg : ∀ i, i < T.length → T.getD i 0 < 16 := fun i hi => by
    have := (hT.tie.2 (T.getD i 0) (by rw [List.getD_eq_getElem?_getD, List.getElem?_eq_getElem hi]; exact List.getElem_mem hi)).2
    omega
  have hro := rows_c hW1 hW4 hH1 hH b hn
  have hrg : ∀ y, y < H → (nI (rowsL W l H)).getD y 0 = ((rowK W l y W : Nat) : Int) := fun y hy => by
    rw [nI_get]
    unfold rowsL
    rw [List.getD_eq_getElem?_getD, List.getElem?_map, List.getElem?_range hy]; rfl
  have hnl := nI_len (rowsL W l H)
  have hbe : ∀ y, y < H → Contract Tryd.prog 31 [LA false (nI T), I ((rowK W l y W : Nat) : Int), I feet] (.tuple [LR (f y).isEmpty (nI (f y)), B true]) := fun y hy =>
    best_c false (by omega) htg (by have := rowK_lt W l y W; omega) hf4 _ (hf y hy)
  have hfl : ∀ y, y < H → (f y).length ≤ 4 := fun y hy => Nat.le_trans (hf y hy).1.len hf4
  generalize nzL W (rowsL W l H) = L at *
  generalize rowsL W l H = R at *
  refine Contract.intro (effS [] false) 6 follows Tryd.func14 rfl rfl (by kernel_rfl) (Nat.le_of_ble_eq_true rfl) ?_
  simp (disch := first | assumption | omega | rfl | simp only [RH]) only [↓RP, RG, FX, RQ, ↓reduceIte, Nat.reduceEqDiff, reduceCtorEq, Nat.reduceBEq, Nat.reduceAdd, Nat.reduceLeDiff, args0_2]
  refine callK_F 6 hli (by simp (disch := first | assumption | omega | rfl | simp only [RH]) only [↓RP, RG, FX, RQ, ↓reduceIte, Nat.reduceEqDiff, reduceCtorEq, Nat.reduceBEq, Nat.reduceAdd, Nat.reduceLeDiff, RA] <;> rfl) (.inl (by simp [allFresh, ints_fresh])) ?_
  simp (disch := first | assumption | omega | rfl | simp only [RH]) only [↓RP, RG, FX, RQ, ↓reduceIte, Nat.reduceEqDiff, reduceCtorEq, Nat.reduceBEq, Nat.reduceAdd, Nat.reduceLeDiff]
  refine callK_F 6 (hfe) (by simp (disch := first | assumption | omega | rfl | simp only [RH]) only [↓RP, RG, FX, RQ, ↓reduceIte, Nat.reduceEqDiff, reduceCtorEq, Nat.reduceBEq, Nat.reduceAdd, Nat.reduceLeDiff, RA] <;> rfl) (.inl (by simp [allFresh, ints_fresh, bools_fresh])) ?_
  simp (disch := first | assumption | omega | rfl | simp only [RH]) only [↓RP, RG, FX, RQ, ↓reduceIte, Nat.reduceEqDiff, reduceCtorEq, Nat.reduceBEq, Nat.reduceAdd, Nat.reduceLeDiff]
  refine callK_F 6 hle (by simp (disch := first | assumption | omega | rfl | simp only [RH]) only [↓RP, RG, FX, RQ, ↓reduceIte, Nat.reduceEqDiff, reduceCtorEq, Nat.reduceBEq, Nat.reduceAdd, Nat.reduceLeDiff, RA] <;> rfl) (.inl (by simp [allFresh, ints_fresh])) ?_
  simp (disch := first | assumption | omega | rfl | simp only [RH]) only [↓RP, RG, FX, RQ, ↓reduceIte, Nat.reduceEqDiff, reduceCtorEq, Nat.reduceBEq, Nat.reduceAdd, Nat.reduceLeDiff]
  refine loopK_W [1, 2, 4, 5, 6, 8, 48, 49] (fun s : Nat => s ≤ W) (fun s : Nat => ⟨[(1, I feet), (2, .ptr 0 0 3), (4, .ptr 1 0 3), (5, .cap0 true), (6, I 0), (8, LR false (nI T)), (48, I W), (49, I s)], [⟨25, 3, [I W, I H, BA b l]⟩, ⟨25, 3, [I T.length, I W, gw true 2 (bools (tabN T.length (uT5 T) (T.length * s)))]⟩, go 4 (bools (tabN T.length (uT5 T) (T.length * s)))]⟩) (fun s => W - s) 0 (by omega) ?_ ?_
  · rw [hTl]
    simp only [↓RP, RG, FX, RQ, ↓reduceIte, Nat.reduceEqDiff, reduceCtorEq, Nat.reduceBEq, Nat.reduceAdd, Nat.reduceLeDiff]
    exact Wk.weak (fun t => .refl _) (.cons _ _ _ _ (WL.refl _) (.cons _ _ _ _ (.cons (.refl _) (.cons (.refl _) (.cons (.nil _) .nil))) (.nil _ (by simp [go, bools, tabN]))))
  intro s hs
  by_cases hlt : s < W
  · simp (disch := first | assumption | omega | rfl | simp only [RH]) only [↓RP, RG, FX, RQ, ↓reduceIte, Nat.reduceEqDiff, reduceCtorEq, Nat.reduceBEq, Nat.reduceAdd, Nat.reduceLeDiff]
    refine loopK_I [1, 2, 4, 5, 6, 8, 10, 48, 49, 52, 53, 54] (fun i : Nat => i ≤ T.length) (fun i : Nat => ⟨[(1, I feet), (2, .ptr 0 0 3), (4, .ptr 1 0 3), (5, .cap0 true), (6, I 0), (8, LR false (nI T)), (10, I s), (48, I W), (49, I s), (52, LR false (nI T)), (53, I (nI T).length), (54, I i)], [⟨25, 3, [I W, I H, BA b l]⟩, ⟨25, 3, [I T.length, I W, gw true 2 (bools (tabN T.length (uT5 T) (T.length * s + i)))]⟩, go 4 (bools (tabN T.length (uT5 T) (T.length * s + i)))]⟩) (fun i => T.length - i) 0 (by omega) (by simp only [↓RP, RG, FX, RQ, ↓reduceIte, Nat.reduceEqDiff, reduceCtorEq, Nat.reduceBEq, Nat.reduceAdd, Nat.reduceLeDiff, Nat.add_zero]; rfl) ?_
    intro i hi
    by_cases hlt2 : i < T.length
    · have hb : (tabN T.length (uT5 T) (T.length * s + i)).length ≤ 1000000000 := by
        rw [tabN_len]
        have : T.length * s ≤ 16 * 4 := Nat.mul_le_mul hT16 (by omega)
        omega
      have hg := nI_get T i
      have ht16 := htg i hlt2
      have hdv : T.getD i 0 / 2 ^ s < 16 := Nat.lt_of_le_of_lt (Nat.div_le_self _ _) ht16
      have s1 := shr64 (x := T.getD i 0) (n := s) (by omega)
      have hsc := tabN_succ (y := s) T.length (uT5 T) hlt2
      have hu : uT5 T i s = decide (T.getD i 0 / 2 ^ s % 2 = 1) := by unfold uT5; rw [bit_mod]
      generalize T.getD i 0 / 2 ^ s = q at *
      have s2 := and64_1 (x := q) (by omega)
      cases hc : uT5 T i s with
      | true =>
        rw [hc] at hu hsc
        have hq : q % 2 = 1 := of_decide_eq_true hu.symm
        simp (disch := first | assumption | omega | rfl | simp only [RH]) only [↓RP, RG, FX, RQ, ↓reduceIte, Nat.reduceEqDiff, reduceCtorEq, Nat.reduceBEq, Nat.reduceAdd, Nat.reduceLeDiff, hg, aBin_shr, s1, s2, append_bool]
        exact ⟨i + 1, hlt2, by rw [show T.length * s + (i + 1) = T.length * s + i + 1 from rfl, hsc]; rfl, by omega⟩
      | false =>
        rw [hc] at hu hsc
        have hq : ¬ q % 2 = 1 := of_decide_eq_false hu.symm
        simp (disch := first | assumption | omega | rfl | simp only [RH]) only [↓RP, RG, FX, RQ, ↓reduceIte, Nat.reduceEqDiff, reduceCtorEq, Nat.reduceBEq, Nat.reduceAdd, Nat.reduceLeDiff, hg, aBin_shr, s1, s2, append_bool]
        exact ⟨i + 1, hlt2, by rw [show T.length * s + (i + 1) = T.length * s + i + 1 from rfl, hsc]; rfl, by omega⟩
    · obtain rfl : i = T.length := by omega
      simp (disch := first | assumption | omega | rfl | simp only [RH]) only [↓RP, RG, FX, RQ, ↓reduceIte, Nat.reduceEqDiff, reduceCtorEq, Nat.reduceBEq, Nat.reduceAdd, Nat.reduceLeDiff]
      exact ⟨s + 1, hlt, by rw [Nat.mul_succ]; rfl, by omega⟩
  · obtain rfl : s = W := by omega
    generalize hbt : tabN T.length (uT5 T) (T.length * s) = bt at *
    simp (disch := first | assumption | omega | rfl | simp only [RH]) only [↓RP, RG, FX, RQ, ↓reduceIte, Nat.reduceEqDiff, reduceCtorEq, Nat.reduceBEq, Nat.reduceAdd, Nat.reduceLeDiff]
    refine callK_F 6 (hro) (by simp (disch := first | assumption | omega | rfl | simp only [RH]) only [↓RP, RG, FX, RQ, ↓reduceIte, Nat.reduceEqDiff, reduceCtorEq, Nat.reduceBEq, Nat.reduceAdd, Nat.reduceLeDiff, RA] <;> rfl) (.inl (by simp [allFresh, ints_fresh, bools_fresh])) ?_
    simp (disch := first | assumption | omega | rfl | simp only [RH]) only [↓RP, RG, FX, RQ, ↓reduceIte, Nat.reduceEqDiff, reduceCtorEq, Nat.reduceBEq, Nat.reduceAdd, Nat.reduceLeDiff]
    refine loopK_W [1, 4, 5, 6, 8, 71, 72, 73] (fun y : Nat => y ≤ H) (fun y : Nat => ⟨[(1, I feet), (4, .ptr 1 0 3), (5, gw true 3 (prL f y)), (6, I 0), (8, LR false (nI T)), (71, LR false (nI R)), (72, I (nI R).length), (73, I y)], [⟨25, 3, [I s, I H, BA b l]⟩, ⟨25, 3, [I T.length, I s, gw true 2 (bools bt)]⟩, go 4 (bools bt), go 22 (prL f y)]⟩) (fun y => H - y) 0 (by omega) ?_ ?_
    · simp only [↓RP, RG, FX, RQ, ↓reduceIte, Nat.reduceEqDiff, reduceCtorEq, Nat.reduceBEq, Nat.reduceAdd, Nat.reduceLeDiff]
      exact Wk.weak (WE.cons _ (.refl _) (WE.cons _ (.refl _) (WE.cons _ (.nil _) (WE.cons _ (.refl _) (WE.cons _ (.refl _) (WE.cons _ (.refl _) (WE.cons _ (.refl _) (WE.cons _ (.refl _) WE.nil)))))))) (.cons _ _ _ _ (WL.refl _) (.cons _ _ _ _ (WL.refl _) (.cons _ _ _ _ (WL.refl _) (.nil _ (by simp [go, prL])))))
    intro y hy
    have hpl := prL_len f y
    by_cases hlt2 : y < H
    · have hg := hrg y hlt2
      have hB := hbe y hlt2
      have hps := prL_succ f y
      have hfy := hfl y hlt2
      simp (disch := first | assumption | omega | rfl | simp only [RH]) only [↓RP, RG, FX, RQ, ↓reduceIte, Nat.reduceEqDiff, reduceCtorEq, Nat.reduceBEq, Nat.reduceAdd, Nat.reduceLeDiff, hg]
      refine callK_F 6 hB (by simp (disch := first | assumption | omega | rfl | simp only [RH]) only [↓RP, RG, FX, RQ, ↓reduceIte, Nat.reduceEqDiff, reduceCtorEq, Nat.reduceBEq, Nat.reduceAdd, Nat.reduceLeDiff, RA] <;> rfl) (.inl (by simp [allFresh, ints_fresh])) ?_
      simp (disch := first | assumption | omega | rfl | simp only [RH]) only [↓RP, RG, FX, RQ, ↓reduceIte, Nat.reduceEqDiff, reduceCtorEq, Nat.reduceBEq, Nat.reduceAdd, Nat.reduceLeDiff, append_list]
      exact ⟨y + 1, hlt2, by rw [hps]; rfl, by omega⟩
    · obtain rfl : y = H := by omega
      have hbl : bt.length = T.length * s := by rw [← hbt]; exact tabN_len _ _ _
      have hbe1 : (bools bt).isEmpty = false := by
        have : 0 < T.length * s := Nat.mul_pos h0 (by omega)
        cases bt with
        | nil => simp at hbl; omega
        | cons x r => rfl
      have hpe : (prL f y).isEmpty = false := by
        cases hp : prL f y with
        | nil => rw [hp] at hpl; simp at hpl; omega
        | cons x r => rfl
      have hres : ∀ (h : List AObj) (m : Nat), (prL f y).map (resOf h (m + 2)) = prL f y := fun h m => by
        unfold prL
        rw [List.map_map]
        refine List.map_congr_left fun k _ => ?_
        show resOf h (m + 2) (LR (f k).isEmpty (nI (f k))) = LR (f k).isEmpty (nI (f k))
        simp only [LR, resOf_list, ints_res]
      generalize prL f y = PL at *
      simp (disch := first | assumption | omega | rfl | simp only [RH]) only [↓RP, RG, FX, RQ, ↓reduceIte, Nat.reduceEqDiff, reduceCtorEq, Nat.reduceBEq, Nat.reduceAdd, Nat.reduceLeDiff]
      rw [resVal_3 rfl]; simp (disch := first | assumption | omega | rfl | simp only [RH]) only [↓RP, RG, FX, RQ, ↓reduceIte, Nat.reduceEqDiff, reduceCtorEq, Nat.reduceBEq, Nat.reduceAdd, Nat.reduceLeDiff, RS]
      rw [hbe1, hpe, hres _ 2, hpl]
      rfl
end Go.Proofs.YtlckfakifamjiaaDoor
