/- Part 1 of the proof's own texts: the contracts of functions, and what they rest on. -/
import Derived.Test.YtgjjdcoeleddaaaDoorProg
import Derived.Test.YtgjjdcoeleddaaaDoorBw3
import Derived.Test.YtgjjdcoeleddaaaDoorBw5
import Derived.Shelf.SlSortCmp.WholeK
import Derived.Test.YtgjjdcoeleddaaaDoorBw4
/- Closed facts on the types. -/
namespace Go.Proofs.YtgjjdcoeleddaaaDoor
open Go Go.Proofs Go.AW
theorem follows : Tryd.prog.follows .mixedOrders = true := by kernel_rfl
-- 2: int64
theorem ag2 : agT Tryd.prog 2 = some (false, 1) := by kernel_rfl
theorem zc2 : zT Tryd.prog 2 = some ([I 0], 1) := by kernel_rfl
-- 3: int
theorem ag3 : agT Tryd.prog 3 = some (false, 1) := by kernel_rfl
theorem zc3 : zT Tryd.prog 3 = some ([I 0], 1) := by kernel_rfl
-- 4: bool
theorem ag4 : agT Tryd.prog 4 = some (false, 1) := by kernel_rfl
theorem zc4 : zT Tryd.prog 4 = some ([B false], 1) := by kernel_rfl
instance bo4 : BoT Tryd.prog 4 := ⟨by kernel_rfl⟩
-- 5: uint8
theorem ag5 : agT Tryd.prog 5 = some (false, 1) := by kernel_rfl
theorem zc5 : zT Tryd.prog 5 = some ([.val (.int .u8 0)], 1) := by kernel_rfl
-- 9: string
theorem ag9 : agT Tryd.prog 9 = some (false, 1) := by kernel_rfl
theorem zc9 : zT Tryd.prog 9 = some ([.val (.string ⟨#[]⟩)], 1) := by kernel_rfl
-- 21: int32
theorem ag21 : agT Tryd.prog 21 = some (false, 1) := by kernel_rfl
theorem zc21 : zT Tryd.prog 21 = some ([.val (.int .i32 0)], 1) := by kernel_rfl
-- 22: []bool
theorem ag22 : agT Tryd.prog 22 = some (false, 1) := by kernel_rfl
theorem zc22 : zT Tryd.prog 22 = some ([.cap0 true], 1) := by kernel_rfl
instance S22 : SlT Tryd.prog 22 4 1 (.bool false) := SlT.of (by kernel_rfl) (by kernel_rfl)
-- 24: api.Grid
theorem ag24 : agT Tryd.prog 24 = some (true, 3) := by kernel_rfl
theorem zc24 : zT Tryd.prog 24 = some ([I 0, I 0, .cap0 true], 3) := by kernel_rfl
theorem fo24_0 : fOff Tryd.prog 24 0 = some 0 := by kernel_rfl
theorem ft24_0 : fOT Tryd.prog 24 0 = some (0, 3) := by kernel_rfl
theorem fo24_1 : fOff Tryd.prog 24 1 = some 1 := by kernel_rfl
theorem ft24_1 : fOT Tryd.prog 24 1 = some (1, 3) := by kernel_rfl
theorem fo24_2 : fOff Tryd.prog 24 2 = some 2 := by kernel_rfl
theorem ft24_2 : fOT Tryd.prog 24 2 = some (2, 22) := by kernel_rfl
theorem fl24 : flT Tryd.prog 24 = some ([(0, 1), (1, 1), (2, 1)], [I 0, I 0, .cap0 true]) := by kernel_rfl
-- 27: []int
theorem ag27 : agT Tryd.prog 27 = some (false, 1) := by kernel_rfl
theorem zc27 : zT Tryd.prog 27 = some ([.cap0 true], 1) := by kernel_rfl
instance S27 : SlT Tryd.prog 27 3 8 (.int .i64 0) := SlT.of (by kernel_rfl) (by kernel_rfl)
-- 28: [2]int
theorem ag28 : agT Tryd.prog 28 = some (true, 2) := by kernel_rfl
theorem zc28 : zT Tryd.prog 28 = some ([I 0, I 0], 2) := by kernel_rfl
instance nc28 : NumT Tryd.prog 28 2 := ⟨by kernel_rfl⟩
instance AR28 : ArT Tryd.prog 28 2 := ⟨by kernel_rfl⟩
instance AE28 : ArE Tryd.prog 28 2 := ⟨by kernel_rfl⟩
theorem fl28 : flT Tryd.prog 28 = some ([(0, 1), (1, 1)], [I 0, I 0]) := by kernel_rfl
-- 29: []api.Float
theorem ag29 : agT Tryd.prog 29 = some (false, 1) := by kernel_rfl
theorem zc29 : zT Tryd.prog 29 = some ([.cap0 true], 1) := by kernel_rfl
instance SM29 : SlM Tryd.prog 29 5 := ⟨by kernel_rfl⟩
instance SW29 : SlW Tryd.prog 29 34 5 40 := ⟨by kernel_rfl⟩
instance LT29_8 : LitT Tryd.prog 29 8 [(0, 5), (5, 5), (10, 5), (15, 5), (20, 5), (25, 5), (30, 5), (35, 5)] ([B false] ++ [I 0, I 0, I 0] ++ [B false, B false] ++ [I 0, I 0, I 0] ++ [B false, B false] ++ [I 0, I 0, I 0] ++ [B false, B false] ++ [I 0, I 0, I 0] ++ [B false, B false] ++ [I 0, I 0, I 0] ++ [B false, B false] ++ [I 0, I 0, I 0] ++ [B false, B false] ++ [I 0, I 0, I 0] ++ [B false, B false] ++ [I 0, I 0, I 0] ++ [B false]) := ⟨by kernel_rfl⟩
instance LT29_2 : LitT Tryd.prog 29 2 [(0, 5), (5, 5)] ([B false] ++ [I 0, I 0, I 0] ++ [B false, B false] ++ [I 0, I 0, I 0] ++ [B false]) := ⟨by kernel_rfl⟩
instance LT29_1 : LitT Tryd.prog 29 1 [(0, 5)] ([B false, I 0, I 0, I 0, B false]) := ⟨by kernel_rfl⟩
-- 30: api.Errno
theorem ag30 : agT Tryd.prog 30 = some (false, 1) := by kernel_rfl
theorem zc30 : zT Tryd.prog 30 = some ([I 0], 1) := by kernel_rfl
-- 34: api.Float
theorem ag34 : agT Tryd.prog 34 = some (true, 5) := by kernel_rfl
theorem zc34 : zT Tryd.prog 34 = some ([B false, I 0, I 0, I 0, B false], 5) := by kernel_rfl
instance kt34 : KT Tryd.prog 34 ([true, false, false, false, true]) := ⟨by kernel_rfl, by kernel_rfl, by kernel_rfl, by kernel_rfl⟩
theorem fo34_0 : fOff Tryd.prog 34 0 = some 0 := by kernel_rfl
theorem ft34_0 : fOT Tryd.prog 34 0 = some (0, 4) := by kernel_rfl
theorem fo34_1 : fOff Tryd.prog 34 1 = some 1 := by kernel_rfl
theorem ft34_1 : fOT Tryd.prog 34 1 = some (1, 3) := by kernel_rfl
theorem fo34_2 : fOff Tryd.prog 34 2 = some 2 := by kernel_rfl
theorem ft34_2 : fOT Tryd.prog 34 2 = some (2, 3) := by kernel_rfl
theorem fo34_3 : fOff Tryd.prog 34 3 = some 3 := by kernel_rfl
theorem ft34_3 : fOT Tryd.prog 34 3 = some (3, 3) := by kernel_rfl
theorem fo34_4 : fOff Tryd.prog 34 4 = some 4 := by kernel_rfl
theorem ft34_4 : fOT Tryd.prog 34 4 = some (4, 4) := by kernel_rfl
theorem fl34 : flT Tryd.prog 34 = some ([(0, 1), (1, 1), (2, 1), (3, 1), (4, 1)], [B false, I 0, I 0, I 0, B false]) := by kernel_rfl
-- 51: func(api.Float) bool
theorem ag51 : agT Tryd.prog 51 = some (false, 1) := by kernel_rfl
theorem zc51 : zT Tryd.prog 51 = some ([.val .nilFunc], 1) := by kernel_rfl
-- 54: iter.Seq[raddle/float.line]
theorem ag54 : agT Tryd.prog 54 = some (false, 1) := by kernel_rfl
theorem zc54 : zT Tryd.prog 54 = some ([.val .nilFunc], 1) := by kernel_rfl
-- 57: float.line
theorem ag57 : agT Tryd.prog 57 = some (true, 3) := by kernel_rfl
theorem zc57 : zT Tryd.prog 57 = some ([B false, I 0, .cap0 true], 3) := by kernel_rfl
theorem fo57_0 : fOff Tryd.prog 57 0 = some 0 := by kernel_rfl
theorem ft57_0 : fOT Tryd.prog 57 0 = some (0, 4) := by kernel_rfl
theorem fo57_1 : fOff Tryd.prog 57 1 = some 1 := by kernel_rfl
theorem ft57_1 : fOT Tryd.prog 57 1 = some (1, 3) := by kernel_rfl
theorem fo57_2 : fOff Tryd.prog 57 2 = some 2 := by kernel_rfl
theorem ft57_2 : fOT Tryd.prog 57 2 = some (2, 22) := by kernel_rfl
theorem fl57 : flT Tryd.prog 57 = some ([(0, 1), (1, 1), (2, 1)], [B false, I 0, .cap0 true]) := by kernel_rfl
-- 60: func(int, int) bool
theorem ag60 : agT Tryd.prog 60 = some (false, 1) := by kernel_rfl
theorem zc60 : zT Tryd.prog 60 = some ([.val .nilFunc], 1) := by kernel_rfl
-- 63: iter.Seq[raddle/api.Float]
theorem ag63 : agT Tryd.prog 63 = some (false, 1) := by kernel_rfl
theorem zc63 : zT Tryd.prog 63 = some ([.val .nilFunc], 1) := by kernel_rfl
-- 65: func(float.line) bool
theorem ag65 : agT Tryd.prog 65 = some (false, 1) := by kernel_rfl
theorem zc65 : zT Tryd.prog 65 = some ([.val .nilFunc], 1) := by kernel_rfl
-- 69: []string
theorem ag69 : agT Tryd.prog 69 = some (false, 1) := by kernel_rfl
theorem zc69 : zT Tryd.prog 69 = some ([.cap0 true], 1) := by kernel_rfl
instance S69 : SlT Tryd.prog 69 9 16 (.string ⟨#[]⟩) := SlT.of (by kernel_rfl) (by kernel_rfl)
-- 74: func(api.Float, api.Float) int
theorem ag74 : agT Tryd.prog 74 = some (false, 1) := by kernel_rfl
theorem zc74 : zT Tryd.prog 74 = some ([.val .nilFunc], 1) := by kernel_rfl
-- 77: strings.asciiSet
theorem ag77 : agT Tryd.prog 77 = some (true, 256) := by kernel_rfl
theorem zc77 : zT Tryd.prog 77 = some (bools (List.replicate 256 false), 256) := by kernel_rfl
instance kt77 : KT Tryd.prog 77 (List.replicate 256 true) := ⟨by kernel_rfl, by kernel_rfl, by kernel_rfl, by kernel_rfl⟩
instance AR77 : ArT Tryd.prog 77 256 := ⟨by kernel_rfl⟩
instance AE77 : ArE Tryd.prog 77 256 := ⟨by kernel_rfl⟩
theorem fl77 : flT Tryd.prog 77 = some ([(0, 1), (1, 1), (2, 1), (3, 1), (4, 1), (5, 1), (6, 1), (7, 1), (8, 1), (9, 1), (10, 1), (11, 1), (12, 1), (13, 1), (14, 1), (15, 1), (16, 1), (17, 1), (18, 1), (19, 1), (20, 1), (21, 1), (22, 1), (23, 1), (24, 1), (25, 1), (26, 1), (27, 1), (28, 1), (29, 1), (30, 1), (31, 1), (32, 1), (33, 1), (34, 1), (35, 1), (36, 1), (37, 1), (38, 1), (39, 1), (40, 1), (41, 1), (42, 1), (43, 1), (44, 1), (45, 1), (46, 1), (47, 1), (48, 1), (49, 1), (50, 1), (51, 1), (52, 1), (53, 1), (54, 1), (55, 1), (56, 1), (57, 1), (58, 1), (59, 1), (60, 1), (61, 1), (62, 1), (63, 1), (64, 1), (65, 1), (66, 1), (67, 1), (68, 1), (69, 1), (70, 1), (71, 1), (72, 1), (73, 1), (74, 1), (75, 1), (76, 1), (77, 1), (78, 1), (79, 1), (80, 1), (81, 1), (82, 1), (83, 1), (84, 1), (85, 1), (86, 1), (87, 1), (88, 1), (89, 1), (90, 1), (91, 1), (92, 1), (93, 1), (94, 1), (95, 1), (96, 1), (97, 1), (98, 1), (99, 1), (100, 1), (101, 1), (102, 1), (103, 1), (104, 1), (105, 1), (106, 1), (107, 1), (108, 1), (109, 1), (110, 1), (111, 1), (112, 1), (113, 1), (114, 1), (115, 1), (116, 1), (117, 1), (118, 1), (119, 1), (120, 1), (121, 1), (122, 1), (123, 1), (124, 1), (125, 1), (126, 1), (127, 1), (128, 1), (129, 1), (130, 1), (131, 1), (132, 1), (133, 1), (134, 1), (135, 1), (136, 1), (137, 1), (138, 1), (139, 1), (140, 1), (141, 1), (142, 1), (143, 1), (144, 1), (145, 1), (146, 1), (147, 1), (148, 1), (149, 1), (150, 1), (151, 1), (152, 1), (153, 1), (154, 1), (155, 1), (156, 1), (157, 1), (158, 1), (159, 1), (160, 1), (161, 1), (162, 1), (163, 1), (164, 1), (165, 1), (166, 1), (167, 1), (168, 1), (169, 1), (170, 1), (171, 1), (172, 1), (173, 1), (174, 1), (175, 1), (176, 1), (177, 1), (178, 1), (179, 1), (180, 1), (181, 1), (182, 1), (183, 1), (184, 1), (185, 1), (186, 1), (187, 1), (188, 1), (189, 1), (190, 1), (191, 1), (192, 1), (193, 1), (194, 1), (195, 1), (196, 1), (197, 1), (198, 1), (199, 1), (200, 1), (201, 1), (202, 1), (203, 1), (204, 1), (205, 1), (206, 1), (207, 1), (208, 1), (209, 1), (210, 1), (211, 1), (212, 1), (213, 1), (214, 1), (215, 1), (216, 1), (217, 1), (218, 1), (219, 1), (220, 1), (221, 1), (222, 1), (223, 1), (224, 1), (225, 1), (226, 1), (227, 1), (228, 1), (229, 1), (230, 1), (231, 1), (232, 1), (233, 1), (234, 1), (235, 1), (236, 1), (237, 1), (238, 1), (239, 1), (240, 1), (241, 1), (242, 1), (243, 1), (244, 1), (245, 1), (246, 1), (247, 1), (248, 1), (249, 1), (250, 1), (251, 1), (252, 1), (253, 1), (254, 1), (255, 1)], bools (List.replicate 256 false)) := by kernel_rfl
-- 81: *strings.asciiSet
theorem ag81 : agT Tryd.prog 81 = some (false, 1) := by kernel_rfl
theorem zc81 : zT Tryd.prog 81 = some ([.val (.pointer none)], 1) := by kernel_rfl
-- 85: uint
theorem ag85 : agT Tryd.prog 85 = some (false, 1) := by kernel_rfl
theorem zc85 : zT Tryd.prog 85 = some ([.val (.int .u64 0)], 1) := by kernel_rfl
-- 94: slices.sortedHint
theorem ag94 : agT Tryd.prog 94 = some (false, 1) := by kernel_rfl
theorem zc94 : zT Tryd.prog 94 = some ([I 0], 1) := by kernel_rfl
-- 104: uint64
theorem ag104 : agT Tryd.prog 104 = some (false, 1) := by kernel_rfl
theorem zc104 : zT Tryd.prog 104 = some ([.val (.int .u64 0)], 1) := by kernel_rfl
-- 108: slices.xorshift
theorem ag108 : agT Tryd.prog 108 = some (false, 1) := by kernel_rfl
theorem zc108 : zT Tryd.prog 108 = some ([.val (.int .u64 0)], 1) := by kernel_rfl
-- 112: *int
theorem ag112 : agT Tryd.prog 112 = some (false, 1) := by kernel_rfl
theorem zc112 : zT Tryd.prog 112 = some ([.val (.pointer none)], 1) := by kernel_rfl
-- 120: *slices.xorshift
theorem ag120 : agT Tryd.prog 120 = some (false, 1) := by kernel_rfl
theorem zc120 : zT Tryd.prog 120 = some ([.val (.pointer none)], 1) := by kernel_rfl

theorem FX : type_of% @ag2 ∧ type_of% @zc2 ∧ type_of% @ag3 ∧ type_of% @zc3 ∧ type_of% @ag4 ∧ type_of% @zc4 ∧ type_of% @ag5 ∧ type_of% @zc5 ∧ type_of% @ag9 ∧ type_of% @zc9 ∧ type_of% @ag21 ∧ type_of% @zc21 ∧ type_of% @ag22 ∧ type_of% @zc22 ∧ type_of% @ag24 ∧ type_of% @zc24 ∧ type_of% @fo24_0 ∧ type_of% @ft24_0 ∧ type_of% @fo24_1 ∧ type_of% @ft24_1 ∧ type_of% @fo24_2 ∧ type_of% @ft24_2 ∧ type_of% @fl24 ∧ type_of% @ag27 ∧ type_of% @zc27 ∧ type_of% @ag28 ∧ type_of% @zc28 ∧ type_of% @fl28 ∧ type_of% @ag29 ∧ type_of% @zc29 ∧ type_of% @ag30 ∧ type_of% @zc30 ∧ type_of% @ag34 ∧ type_of% @zc34 ∧ type_of% @fo34_0 ∧ type_of% @ft34_0 ∧ type_of% @fo34_1 ∧ type_of% @ft34_1 ∧ type_of% @fo34_2 ∧ type_of% @ft34_2 ∧ type_of% @fo34_3 ∧ type_of% @ft34_3 ∧ type_of% @fo34_4 ∧ type_of% @ft34_4 ∧ type_of% @fl34 ∧ type_of% @ag51 ∧ type_of% @zc51 ∧ type_of% @ag54 ∧ type_of% @zc54 ∧ type_of% @ag57 ∧ type_of% @zc57 ∧ type_of% @fo57_0 ∧ type_of% @ft57_0 ∧ type_of% @fo57_1 ∧ type_of% @ft57_1 ∧ type_of% @fo57_2 ∧ type_of% @ft57_2 ∧ type_of% @fl57 ∧ type_of% @ag60 ∧ type_of% @zc60 ∧ type_of% @ag63 ∧ type_of% @zc63 ∧ type_of% @ag65 ∧ type_of% @zc65 ∧ type_of% @ag69 ∧ type_of% @zc69 ∧ type_of% @ag74 ∧ type_of% @zc74 ∧ type_of% @ag77 ∧ type_of% @zc77 ∧ type_of% @fl77 ∧ type_of% @ag81 ∧ type_of% @zc81 ∧ type_of% @ag85 ∧ type_of% @zc85 ∧ type_of% @ag94 ∧ type_of% @zc94 ∧ type_of% @ag104 ∧ type_of% @zc104 ∧ type_of% @ag108 ∧ type_of% @zc108 ∧ type_of% @ag112 ∧ type_of% @zc112 ∧ type_of% @ag120 ∧ type_of% @zc120 :=
  ⟨@ag2, @zc2, @ag3, @zc3, @ag4, @zc4, @ag5, @zc5, @ag9, @zc9, @ag21, @zc21, @ag22, @zc22, @ag24, @zc24, @fo24_0, @ft24_0, @fo24_1, @ft24_1, @fo24_2, @ft24_2, @fl24, @ag27, @zc27, @ag28, @zc28, @fl28, @ag29, @zc29, @ag30, @zc30, @ag34, @zc34, @fo34_0, @ft34_0, @fo34_1, @ft34_1, @fo34_2, @ft34_2, @fo34_3, @ft34_3, @fo34_4, @ft34_4, @fl34, @ag51, @zc51, @ag54, @zc54, @ag57, @zc57, @fo57_0, @ft57_0, @fo57_1, @ft57_1, @fo57_2, @ft57_2, @fl57, @ag60, @zc60, @ag63, @zc63, @ag65, @zc65, @ag69, @zc69, @ag74, @zc74, @ag77, @zc77, @fl77, @ag81, @zc81, @ag85, @zc85, @ag94, @zc94, @ag104, @zc104, @ag108, @zc108, @ag112, @zc112, @ag120, @zc120⟩
end Go.Proofs.YtgjjdcoeleddaaaDoor

/- Grids: their checks. -/
set_option linter.unusedSimpArgs false
set_option linter.unusedVariables false
set_option maxRecDepth 100000
namespace Go.Proofs.YtgjjdcoeleddaaaDoor
open Go Go.Proofs Go.AW

abbrev BA (b : Bool) (l : List Bool) : AVal := .list false b l.length (bools l)
abbrev GA (w h : Int) (b : Bool) (l : List Bool) : AVal := .agg [I w, I h, BA b l]
/-- The error of a grid. -/
def gchk (w h n : Int) : Int := if 64 < w ∨ 64 < h then 4 else if w < 1 ∨ h < 1 ∨ n ≠ w * h then 8 else 0
def gOk (w h n : Int) : Prop := 1 ≤ w ∧ w ≤ 64 ∧ 1 ≤ h ∧ h ≤ 64 ∧ n = w * h
theorem gchk_ok {w h n : Int} (hg : gOk w h n) : gchk w h n = 0 := by
  obtain ⟨h1, h2, h3, h4, h5⟩ := hg
  unfold gchk
  rw [if_neg (by omega), if_neg (by omega)]
theorem prod64 {w h : Int} (h1 : 0 ≤ w) (h2 : w ≤ 64) (h3 : 0 ≤ h) (h4 : h ≤ 64) : 0 ≤ w * h ∧ w * h ≤ 4096 := by
  constructor
  · exact Int.mul_nonneg h1 h3
  · have := Int.mul_le_mul h2 h4 h3 (by omega); omega

theorem gcheckP_c (w h : Int) (b : Bool) (l : List Bool) : Contract Tryd.prog 22 [GA w h b l] (I (gchk w h l.length)) := by
  unfold gchk
  refine Contract.intro (effS [] false) 6 follows Tryd.func22 rfl rfl (by kernel_rfl) (Nat.le_of_ble_eq_true rfl) ?_
  by_cases c1 : 64 < w ∨ 64 < h
  · rw [if_pos c1]
    have : 64 < max w h := by omega
    simp (disch := omega) only [↓RP, RG, FX, RQ, ↓reduceIte, Nat.reduceEqDiff, reduceCtorEq, Nat.reduceBEq, Nat.reduceAdd, Nat.reduceLeDiff, args0_1]
    rw [resVal_1 rfl]; simp (disch := first | assumption | omega | rfl | simp only [RH]) only [↓RP, RG, FX, RQ, ↓reduceIte, Nat.reduceEqDiff, reduceCtorEq, Nat.reduceBEq, Nat.reduceAdd, Nat.reduceLeDiff, RS]
  rw [if_neg c1]
  have : ¬ 64 < max w h := by omega
  by_cases c2 : w < 1 ∨ h < 1
  · rw [if_pos (by omega)]
    have : min w h < 1 := by omega
    simp (disch := omega) only [↓RP, RG, FX, RQ, ↓reduceIte, Nat.reduceEqDiff, reduceCtorEq, Nat.reduceBEq, Nat.reduceAdd, Nat.reduceLeDiff, args0_1]
    rw [resVal_1 rfl]; simp (disch := first | assumption | omega | rfl | simp only [RH]) only [↓RP, RG, FX, RQ, ↓reduceIte, Nat.reduceEqDiff, reduceCtorEq, Nat.reduceBEq, Nat.reduceAdd, Nat.reduceLeDiff, RS]
  have : ¬ min w h < 1 := by omega
  have hp := prod64 (w := w) (h := h) (by omega) (by omega) (by omega) (by omega)
  by_cases c3 : (l.length : Int) = w * h
  · rw [if_neg (by omega)]
    simp (disch := omega) only [↓RP, RG, FX, RQ, ↓reduceIte, Nat.reduceEqDiff, reduceCtorEq, Nat.reduceBEq, Nat.reduceAdd, Nat.reduceLeDiff, args0_1]
    rw [resVal_1 rfl]; simp (disch := first | assumption | omega | rfl | simp only [RH]) only [↓RP, RG, FX, RQ, ↓reduceIte, Nat.reduceEqDiff, reduceCtorEq, Nat.reduceBEq, Nat.reduceAdd, Nat.reduceLeDiff, RS]
  · rw [if_pos (by omega)]
    simp (disch := omega) only [↓RP, RG, FX, RQ, ↓reduceIte, Nat.reduceEqDiff, reduceCtorEq, Nat.reduceBEq, Nat.reduceAdd, Nat.reduceLeDiff, args0_1]
    rw [resVal_1 rfl]; simp (disch := first | assumption | omega | rfl | simp only [RH]) only [↓RP, RG, FX, RQ, ↓reduceIte, Nat.reduceEqDiff, reduceCtorEq, Nat.reduceBEq, Nat.reduceAdd, Nat.reduceLeDiff, RS]

end Go.Proofs.YtgjjdcoeleddaaaDoor

/- Lists: compared. -/
set_option linter.unusedSimpArgs false
set_option linter.unusedVariables false
set_option maxRecDepth 100000
namespace Go.Proofs.YtgjjdcoeleddaaaDoor
open Go Go.Proofs Go.AW

end Go.Proofs.YtgjjdcoeleddaaaDoor

/- Lists: least and greatest element, within a range; cells of grids. -/
set_option linter.unusedSimpArgs false
set_option linter.unusedVariables false
set_option maxRecDepth 100000
namespace Go.Proofs.YtgjjdcoeleddaaaDoor
open Go Go.Proofs Go.AW

/-- It has elements, all of them from 0 to n - 1. -/
def wIn (l : List Int) (n : Int) : Prop := 0 < l.length ∧ ∀ j, j < l.length → 0 ≤ l.getD j 0 ∧ l.getD j 0 < n
instance (l : List Int) (n : Int) : Decidable (wIn l n) := by unfold wIn; infer_instance

/-- A grid's cell. -/
def cell (w : Int) (l : List Bool) (x y : Int) : Bool := l.getD (y * w + x).toNat false

end Go.Proofs.YtgjjdcoeleddaaaDoor

/- Grids: compared, copied. -/
set_option linter.unusedSimpArgs false
set_option linter.unusedVariables false
set_option maxRecDepth 100000
namespace Go.Proofs.YtgjjdcoeleddaaaDoor
open Go Go.Proofs Go.AW

end Go.Proofs.YtgjjdcoeleddaaaDoor

/- Drafts: their checks. -/
set_option linter.unusedSimpArgs false
set_option linter.unusedVariables false
set_option maxRecDepth 100000
namespace Go.Proofs.YtgjjdcoeleddaaaDoor
open Go Go.Proofs Go.AW

end Go.Proofs.YtgjjdcoeleddaaaDoor

/- Drafts: tables, drawdowns, lifts. -/
set_option linter.unusedSimpArgs false
set_option linter.unusedVariables false
set_option maxRecDepth 100000
namespace Go.Proofs.YtgjjdcoeleddaaaDoor
open Go Go.Proofs Go.AW

end Go.Proofs.YtgjjdcoeleddaaaDoor

/- Drafts: drawdowns and lifts, of the program and the reference. -/
set_option linter.unusedSimpArgs false
set_option linter.unusedVariables false
set_option maxRecDepth 100000
namespace Go.Proofs.YtgjjdcoeleddaaaDoor
open Go Go.Proofs Go.AW

theorem idx_lt {W H x y : Nat} (hx : x < W) (hy : y < H) : W * y + x < W * H := by
  have : W * (y + 1) ≤ W * H := Nat.mul_le_mul_left W hy
  rw [Nat.mul_succ] at this; omega

end Go.Proofs.YtgjjdcoeleddaaaDoor

/- Chapter 8: the threads of a grid, one after another. -/
set_option linter.unusedSimpArgs false
set_option linter.unusedVariables false
set_option maxRecDepth 100000
namespace Go.Proofs.YtgjjdcoeleddaaaDoor
open Go Go.Proofs Go.AW

/-- The cells of a column, of a row turned over. -/
def faC (W H : Nat) (l : List Bool) (x : Nat) : List Bool := (List.range H).map fun y => l.getD (W * y + x) false
def faR (W : Nat) (l : List Bool) (y : Nat) : List Bool := (List.range W).map fun x => !l.getD (W * y + x) false
theorem faC_len (W H : Nat) (l : List Bool) (x : Nat) : (faC W H l x).length = H := by simp [faC]
theorem faR_len (W : Nat) (l : List Bool) (y : Nat) : (faR W l y).length = W := by simp [faR]
theorem faC_take {W H : Nat} {l : List Bool} {x y : Nat} (hy : y < H) : (faC W H l x).take (y + 1) = (faC W H l x).take y ++ [l.getD (W * y + x) false] := by
  rw [List.take_add_one]; simp [faC, hy]
theorem faR_take {W : Nat} {l : List Bool} {x y : Nat} (hx : x < W) : (faR W l y).take (x + 1) = (faR W l y).take x ++ [!l.getD (W * y + x) false] := by
  rw [List.take_add_one]; simp [faR, hx]
/-- Thread number k: ends first. -/
def faK (W H : Nat) (l : List Bool) (k : Nat) : List Bool := if k < W then faC W H l k else faR W l (k - W)
def lineA (m W H : Nat) (l : List Bool) (k : Nat) : AVal := .agg [B (decide (k < W)), I (if k < W then k else k - W : Nat), .ref (m + 1) 0 (if k < W then H else W) (if k < W then H else W)]
def lineO (m W H : Nat) (l : List Bool) (k : Nat) : List AObj := [⟨57, 3, [B (decide (k < W)), I (if k < W then k else k - W : Nat), .ref (m + 1) 0 (if k < W then H else W) (if k < W then H else W)]⟩, ⟨4, 1, bools (faK W H l k)⟩]

theorem lineA_c {W x : Nat} (m H : Nat) (l : List Bool) (h : x < W) : lineA m W H l x = .agg [B true, I x, .ref (m + 1) 0 H H] := by unfold lineA; rw [if_pos h, if_pos h, decide_eq_true h]
theorem lineA_r {W x : Nat} (m H : Nat) (l : List Bool) (h : ¬ x < W) : lineA m W H l x = .agg [B false, I (x - W : Nat), .ref (m + 1) 0 W W] := by unfold lineA; rw [if_neg h, if_neg h, decide_eq_false h]
theorem lineO_c {W x : Nat} (m H : Nat) (l : List Bool) (h : x < W) : lineO m W H l x = [⟨57, 3, [B true, I x, .ref (m + 1) 0 H H]⟩, ⟨4, 1, bools (faC W H l x)⟩] := by unfold lineO faK; rw [if_pos h, if_pos h, if_pos h, decide_eq_true h]
theorem lineO_r {W x : Nat} (m H : Nat) (l : List Bool) (h : ¬ x < W) : lineO m W H l x = [⟨57, 3, [B false, I (x - W : Nat), .ref (m + 1) 0 W W]⟩, ⟨4, 1, bools (faR W l (x - W))⟩] := by unfold lineO faK; rw [if_neg h, if_neg h, if_neg h, decide_eq_false h]

theorem lines_c (W H : Nat) (b : Bool) (l : List Bool) : Contract Tryd.prog 26 [GA W H b l] (.func (.func 35) [] [.spot true [I W, I H, BA b l]]) := by
  refine Contract.intro (effS [] false [] [0]) 6 follows Tryd.func26 rfl rfl (by kernel_rfl) (Nat.le_of_ble_eq_true rfl) ?_
  simp (disch := first | assumption | omega | rfl | simp only [RH]) only [↓RP, RG, FX, RQ, ↓reduceIte, Nat.reduceEqDiff, reduceCtorEq, Nat.reduceBEq, Nat.reduceAdd, Nat.reduceLeDiff, args0_1]
  rw [resVal_1 rfl]; simp (disch := first | assumption | omega | rfl | simp only [RH]) only [↓RP, RG, FX, RQ, ↓reduceIte, Nat.reduceEqDiff, reduceCtorEq, Nat.reduceBEq, Nat.reduceAdd, Nat.reduceLeDiff, RS]
  first | done | simp [resOf, resOf_list, bools_res]
end Go.Proofs.YtgjjdcoeleddaaaDoor

/- Chapter 8: the threads, yielded. -/
set_option linter.unusedSimpArgs false
set_option linter.unusedVariables false
set_option maxRecDepth 100000
namespace Go.Proofs.YtgjjdcoeleddaaaDoor
open Go Go.Proofs Go.AW

section
variable {W H : Nat} (hW0 : 0 < W) (hH0 : 0 < H) (hW : W ≤ 1000) (hH : H ≤ 1000) (p b : Bool) {l : List Bool} (hn : l.length = W * H) (m : Nat) (hs ex : Nat → List AObj)
include hW0 hH0 hW hH hn
theorem linesF_y (hsh : ∀ k, k ≤ W + H → Shut m (hs k)) : SpecY Tryd.prog 35 (stepsO (W + H) hs (lineO m W H l) ex (lineA m W H l)) [.spot p [I W, I H, BA b l]] (hs 0) (hs (W + H)) := by
  have hm : ∀ k, k ≤ W + H → (hs k).length = m := fun k hk => (hsh k hk).1
  refine SpecY.intro (effS [] false) follows Tryd.func35 rfl rfl (by kernel_rfl) (Nat.le_of_ble_eq_true rfl) rfl (fun yv => ?_)
  simp (disch := first | assumption | omega | rfl | simp only [RH]) only [↓RP, RG, FX, RQ, ↓reduceIte, Nat.reduceEqDiff, reduceCtorEq, Nat.reduceBEq, Nat.reduceAdd, Nat.reduceLeDiff, args0_2]
  refine loopK_WW [0, 1, 10, 11] (fun x : Nat => x ≤ W) (fun x : Nat => ⟨[(0, .val yv), (1, .spot p [I W, I H, BA b l]), (10, I W), (11, I x)], hs x⟩) (fun x => W - x) 0 (by omega) (Wk.of_eq (by simp only [↓RP, RG, FX, RQ, ↓reduceIte, Nat.reduceEqDiff, reduceCtorEq, Nat.reduceBEq, Nat.reduceAdd, Nat.reduceLeDiff]; rfl)) ?_
  intro x hx
  by_cases hlt : x < W
  · have hmx := hm x (by omega)
    simp (disch := first | assumption | omega | rfl | simp only [RH]) only [↓RP, RG, FX, RQ, ↓reduceIte, Nat.reduceEqDiff, reduceCtorEq, Nat.reduceBEq, Nat.reduceAdd, Nat.reduceLeDiff]
    refine loopK_WW [0, 1, 3, 4, 10, 11, 17, 18] (fun y : Nat => y ≤ H) (fun y : Nat => ⟨[(0, .val yv), (1, .spot p [I W, I H, BA b l]), (3, I x), (4, .ptr (hs x).length 0 3), (10, I W), (11, I x), (17, I H), (18, I y)], hs x ++ [⟨57, 3, [B true, I x, gw true ((hs x).length + 1) (bools ((faC W H l x).take y))]⟩, go 4 (bools ((faC W H l x).take y))]⟩) (fun y => H - y) 0 (by omega) ?_ ?_
    · simp only [↓RP, RG, FX, RQ, ↓reduceIte, Nat.reduceEqDiff, reduceCtorEq, Nat.reduceBEq, Nat.reduceAdd, Nat.reduceLeDiff]
      exact Wk.weak (fun t => .refl _) (.app (hs x) (.cons _ _ _ _ (.cons (.refl _) (.cons (.refl _) (.cons (.nil _) .nil))) (.nil _ (by simp [go, bools]))))
    intro y hy
    by_cases hlt2 : y < H
    · have hil := idx_lt hlt hlt2
      have hWH : W * H ≤ 1000 * 1000 := Nat.mul_le_mul hW hH
      have m1 : (y : Int) * (W : Int) = ((W * y : Nat) : Int) := by rw [Int.natCast_mul, Int.mul_comm]
      have m2 : ((W * y : Nat) : Int) + (x : Int) = ((W * y + x : Nat) : Int) := by omega
      have htk : ((faC W H l x).take y).length = y := by rw [List.length_take, faC_len]; omega
      simp (disch := first | assumption | omega | rfl | simp only [RH]) only [↓RP, RG, FX, RQ, ↓reduceIte, Nat.reduceEqDiff, reduceCtorEq, Nat.reduceBEq, Nat.reduceAdd, Nat.reduceLeDiff, m1, m2, Int.toNat_natCast, effY_b, effY_n, effY_f, effY_l, effY_z, effY_D, append_bool]
      refine ⟨y + 1, by omega, Wk.of_eq ?_, by omega⟩
      rw [faC_take hlt2]
      rfl
    · obtain rfl : H = y := by omega
      have htk : (faC W H l x).take H = faC W H l x := List.take_of_length_le (by rw [faC_len]; omega)
      have hcl := faC_len W H l x
      have hp : 0 < (bools (faC W H l x)).length := by rw [bools_length]; omega
      simp (disch := first | assumption | omega | rfl | simp only [RH]) only [↓RP, RG, FX, RQ, ↓reduceIte, Nat.reduceEqDiff, reduceCtorEq, Nat.reduceBEq, Nat.reduceAdd, Nat.reduceLeDiff, htk, gw_pos hp, go_pos hp, bools_length, hcl]
      refine callK_Y rfl (stepsO_at x (by omega) (by rw [lineA_c _ _ _ hlt, hmx]) (by rw [lineO_c _ _ _ hlt, hmx]) rfl) ?_
      simp (disch := first | assumption | omega | rfl | simp only [RH]) only [↓RP, RG, FX, RQ, ↓reduceIte, Nat.reduceEqDiff, reduceCtorEq, Nat.reduceBEq, Nat.reduceAdd, Nat.reduceLeDiff]
      refine ⟨x + 1, by omega, ?_, by omega⟩
      refine (Wk.shut ((hm _ (by omega)).trans (hm 0 (by omega)).symm) ?_).trans (Wk.of_eq ?_)
      · rw [hm 0 (by omega)]; exact hsh _ (by omega)
      · simp [ren, map_ren_bools]
  · obtain rfl : W = x := by omega
    simp (disch := first | assumption | omega | rfl | simp only [RH]) only [↓RP, RG, FX, RQ, ↓reduceIte, Nat.reduceEqDiff, reduceCtorEq, Nat.reduceBEq, Nat.reduceAdd, Nat.reduceLeDiff]
    refine loopK_WW [0, 1, 43, 44] (fun y : Nat => y ≤ H) (fun y : Nat => ⟨[(0, .val yv), (1, .spot p [I W, I H, BA b l]), (43, I H), (44, I y)], hs (W + y)⟩) (fun y => H - y) 0 (by omega) (Wk.of_eq (by simp only [↓RP, RG, FX, RQ, ↓reduceIte, Nat.reduceEqDiff, reduceCtorEq, Nat.reduceBEq, Nat.reduceAdd, Nat.reduceLeDiff]; rfl)) ?_
    intro y hy
    by_cases hlt2 : y < H
    · have hmx := hm (W + y) (by omega)
      have hge : ¬ W + y < W := by omega
      have hsub : W + y - W = y := by omega
      simp (disch := first | assumption | omega | rfl | simp only [RH]) only [↓RP, RG, FX, RQ, ↓reduceIte, Nat.reduceEqDiff, reduceCtorEq, Nat.reduceBEq, Nat.reduceAdd, Nat.reduceLeDiff]
      refine loopK_WW [0, 1, 6, 7, 43, 44, 50, 51] (fun x : Nat => x ≤ W) (fun x : Nat => ⟨[(0, .val yv), (1, .spot p [I W, I H, BA b l]), (6, I y), (7, .ptr (hs (W + y)).length 0 3), (43, I H), (44, I y), (50, I W), (51, I x)], hs (W + y) ++ [⟨57, 3, [B false, I y, gw true ((hs (W + y)).length + 1) (bools ((faR W l y).take x))]⟩, go 4 (bools ((faR W l y).take x))]⟩) (fun x => W - x) 0 (by omega) ?_ ?_
      · simp only [↓RP, RG, FX, RQ, ↓reduceIte, Nat.reduceEqDiff, reduceCtorEq, Nat.reduceBEq, Nat.reduceAdd, Nat.reduceLeDiff]
        exact Wk.weak (fun t => .refl _) (.app (hs (W + y)) (.cons _ _ _ _ (.cons (.refl _) (.cons (.refl _) (.cons (.nil _) .nil))) (.nil _ (by simp [go, bools]))))
      intro x hx
      by_cases hlt3 : x < W
      · have hil := idx_lt hlt3 hlt2
        have hWH : W * H ≤ 1000 * 1000 := Nat.mul_le_mul hW hH
        have m1 : (y : Int) * (W : Int) = ((W * y : Nat) : Int) := by rw [Int.natCast_mul, Int.mul_comm]
        have m2 : ((W * y : Nat) : Int) + (x : Int) = ((W * y + x : Nat) : Int) := by omega
        have htk : ((faR W l y).take x).length = x := by rw [List.length_take, faR_len]; omega
        simp (disch := first | assumption | omega | rfl | simp only [RH]) only [↓RP, RG, FX, RQ, ↓reduceIte, Nat.reduceEqDiff, reduceCtorEq, Nat.reduceBEq, Nat.reduceAdd, Nat.reduceLeDiff, m1, m2, Int.toNat_natCast, effY_b, effY_n, effY_f, effY_l, effY_z, effY_D, append_bool]
        refine ⟨x + 1, by omega, Wk.of_eq ?_, by omega⟩
        rw [faR_take hlt3]
        rfl
      · obtain rfl : W = x := by omega
        have htk : (faR W l y).take W = faR W l y := List.take_of_length_le (by rw [faR_len]; omega)
        have hcl := faR_len W l y
        have hp : 0 < (bools (faR W l y)).length := by rw [bools_length]; omega
        simp (disch := first | assumption | omega | rfl | simp only [RH]) only [↓RP, RG, FX, RQ, ↓reduceIte, Nat.reduceEqDiff, reduceCtorEq, Nat.reduceBEq, Nat.reduceAdd, Nat.reduceLeDiff, htk, gw_pos hp, go_pos hp, bools_length, hcl]
        refine callK_Y rfl (stepsO_at (W + y) (by omega) (by rw [lineA_r _ _ _ hge, hmx, hsub]) (by rw [lineO_r _ _ _ hge, hmx, hsub]) rfl) ?_
        simp (disch := first | assumption | omega | rfl | simp only [RH]) only [↓RP, RG, FX, RQ, ↓reduceIte, Nat.reduceEqDiff, reduceCtorEq, Nat.reduceBEq, Nat.reduceAdd, Nat.reduceLeDiff]
        refine ⟨y + 1, by omega, ?_, by omega⟩
        refine (Wk.shut ((hm _ (by omega)).trans (hm 0 (by omega)).symm) ?_).trans (Wk.of_eq ?_)
        · rw [hm 0 (by omega)]; exact hsh _ (by omega)
        · simp [ren, map_ren_bools]; rfl
    · obtain rfl : H = y := by omega
      simp (disch := first | assumption | omega | rfl | simp only [RH]) only [↓RP, RG, FX, RQ, ↓reduceIte, Nat.reduceEqDiff, reduceCtorEq, Nat.reduceBEq, Nat.reduceAdd, Nat.reduceLeDiff]
      exact Wk.refl _ _
end
end Go.Proofs.YtgjjdcoeleddaaaDoor

/- Chapter 8: the threads, yielded until the loop is left. -/
set_option linter.unusedSimpArgs false
set_option linter.unusedVariables false
set_option maxRecDepth 100000
namespace Go.Proofs.YtgjjdcoeleddaaaDoor
open Go Go.Proofs Go.AW

section
variable {W H : Nat} (hW0 : 0 < W) (hH0 : 0 < H) (hW : W ≤ 1000) (hH : H ≤ 1000) (p b : Bool) {l : List Bool} (hn : l.length = W * H) (m : Nat) (hs ex : Nat → List AObj)
include hW0 hH0 hW hH hn
theorem linesF_x2 {N : Nat} (hN : W ≤ N ∧ N < W + H) (hsh : ∀ k, k ≤ N → Shut m (hs k)) (hS : List AObj) : SpecX Tryd.prog 35 (stepsO N hs (lineO m W H l) ex (lineA m W H l)) (lastO N hs (lineO m W H l) (lineA m W H l)) [.spot p [I W, I H, BA b l]] (hs 0) hS := by
  have hm : ∀ k, k ≤ N → (hs k).length = m := fun k hk => (hsh k hk).1
  refine SpecX.intro (effS [] false) follows Tryd.func35 rfl rfl (by kernel_rfl) (Nat.le_of_ble_eq_true rfl) rfl (fun yv => ?_)
  refine awpX_seq ?_
  simp (disch := first | assumption | omega | rfl | simp only [RH]) only [↓RP, RG, FX, RQ, ↓reduceIte, Nat.reduceEqDiff, reduceCtorEq, Nat.reduceBEq, Nat.reduceAdd, Nat.reduceLeDiff, args0_2]
  refine loopK_WW [0, 1, 10, 11] (fun x : Nat => x ≤ W) (fun x : Nat => ⟨[(0, .val yv), (1, .spot p [I W, I H, BA b l]), (10, I W), (11, I x)], hs x⟩) (fun x => W - x) 0 (by omega) (Wk.of_eq (by simp only [↓RP, RG, FX, RQ, ↓reduceIte, Nat.reduceEqDiff, reduceCtorEq, Nat.reduceBEq, Nat.reduceAdd, Nat.reduceLeDiff]; rfl)) ?_
  intro x hx
  by_cases hlt : x < W
  · have hmx := hm x (by omega)
    simp (disch := first | assumption | omega | rfl | simp only [RH]) only [↓RP, RG, FX, RQ, ↓reduceIte, Nat.reduceEqDiff, reduceCtorEq, Nat.reduceBEq, Nat.reduceAdd, Nat.reduceLeDiff]
    refine loopK_WW [0, 1, 3, 4, 10, 11, 17, 18] (fun y : Nat => y ≤ H) (fun y : Nat => ⟨[(0, .val yv), (1, .spot p [I W, I H, BA b l]), (3, I x), (4, .ptr (hs x).length 0 3), (10, I W), (11, I x), (17, I H), (18, I y)], hs x ++ [⟨57, 3, [B true, I x, gw true ((hs x).length + 1) (bools ((faC W H l x).take y))]⟩, go 4 (bools ((faC W H l x).take y))]⟩) (fun y => H - y) 0 (by omega) ?_ ?_
    · simp only [↓RP, RG, FX, RQ, ↓reduceIte, Nat.reduceEqDiff, reduceCtorEq, Nat.reduceBEq, Nat.reduceAdd, Nat.reduceLeDiff]
      exact Wk.weak (fun t => .refl _) (.app (hs x) (.cons _ _ _ _ (.cons (.refl _) (.cons (.refl _) (.cons (.nil _) .nil))) (.nil _ (by simp [go, bools]))))
    intro y hy
    by_cases hlt2 : y < H
    · have hil := idx_lt hlt hlt2
      have hWH : W * H ≤ 1000 * 1000 := Nat.mul_le_mul hW hH
      have m1 : (y : Int) * (W : Int) = ((W * y : Nat) : Int) := by rw [Int.natCast_mul, Int.mul_comm]
      have m2 : ((W * y : Nat) : Int) + (x : Int) = ((W * y + x : Nat) : Int) := by omega
      have htk : ((faC W H l x).take y).length = y := by rw [List.length_take, faC_len]; omega
      simp (disch := first | assumption | omega | rfl | simp only [RH]) only [↓RP, RG, FX, RQ, ↓reduceIte, Nat.reduceEqDiff, reduceCtorEq, Nat.reduceBEq, Nat.reduceAdd, Nat.reduceLeDiff, m1, m2, Int.toNat_natCast, effY_b, effY_n, effY_f, effY_l, effY_z, effY_D, append_bool]
      refine ⟨y + 1, by omega, Wk.of_eq ?_, by omega⟩
      rw [faC_take hlt2]
      rfl
    · obtain rfl : H = y := by omega
      have htk : (faC W H l x).take H = faC W H l x := List.take_of_length_le (by rw [faC_len]; omega)
      have hcl := faC_len W H l x
      have hp : 0 < (bools (faC W H l x)).length := by rw [bools_length]; omega
      simp (disch := first | assumption | omega | rfl | simp only [RH]) only [↓RP, RG, FX, RQ, ↓reduceIte, Nat.reduceEqDiff, reduceCtorEq, Nat.reduceBEq, Nat.reduceAdd, Nat.reduceLeDiff, htk, gw_pos hp, go_pos hp, bools_length, hcl]
      refine callK_Y rfl (stepsO_at x (by omega) (by rw [lineA_c _ _ _ hlt, hmx]) (by rw [lineO_c _ _ _ hlt, hmx]) rfl) ?_
      simp (disch := first | assumption | omega | rfl | simp only [RH]) only [↓RP, RG, FX, RQ, ↓reduceIte, Nat.reduceEqDiff, reduceCtorEq, Nat.reduceBEq, Nat.reduceAdd, Nat.reduceLeDiff]
      refine ⟨x + 1, by omega, ?_, by omega⟩
      refine (Wk.shut ((hm _ (by omega)).trans (hm 0 (by omega)).symm) ?_).trans (Wk.of_eq ?_)
      · rw [hm 0 (by omega)]; exact hsh _ (by omega)
      · simp [ren, map_ren_bools]
  · obtain rfl : W = x := by omega
    simp (disch := first | assumption | omega | rfl | simp only [RH]) only [↓RP, RG, FX, RQ, ↓reduceIte, Nat.reduceEqDiff, reduceCtorEq, Nat.reduceBEq, Nat.reduceAdd, Nat.reduceLeDiff]
    refine awpX_seq ?_
    simp (disch := first | assumption | omega | rfl | simp only [RH]) only [↓RP, RG, FX, RQ, ↓reduceIte, Nat.reduceEqDiff, reduceCtorEq, Nat.reduceBEq, Nat.reduceAdd, Nat.reduceLeDiff]
    refine awpX_block ?_
    refine loopX_WW [0, 1, 43, 44] (fun y : Nat => y ≤ N - W) (fun y : Nat => ⟨[(0, .val yv), (1, .spot p [I W, I H, BA b l]), (43, I H), (44, I y)], hs (W + y)⟩) (fun y => N - W - y) 0 (by omega) (Wk.of_eq (by simp only [↓RP, RG, FX, RQ, ↓reduceIte, Nat.reduceEqDiff, reduceCtorEq, Nat.reduceBEq, Nat.reduceAdd, Nat.reduceLeDiff]; rfl)) ?_
    intro y hy
    have hlt2 : y < H := by omega
    have hmx := hm (W + y) (by omega)
    by_cases hyN : y < N - W
    · refine awpX_of_awp _ _ _ ?_
      have hge : ¬ W + y < W := by omega
      have hsub : W + y - W = y := by omega
      simp (disch := first | assumption | omega | rfl | simp only [RH]) only [↓RP, RG, FX, RQ, ↓reduceIte, Nat.reduceEqDiff, reduceCtorEq, Nat.reduceBEq, Nat.reduceAdd, Nat.reduceLeDiff]
      refine loopK_WW [0, 1, 6, 7, 43, 44, 50, 51] (fun x : Nat => x ≤ W) (fun x : Nat => ⟨[(0, .val yv), (1, .spot p [I W, I H, BA b l]), (6, I y), (7, .ptr (hs (W + y)).length 0 3), (43, I H), (44, I y), (50, I W), (51, I x)], hs (W + y) ++ [⟨57, 3, [B false, I y, gw true ((hs (W + y)).length + 1) (bools ((faR W l y).take x))]⟩, go 4 (bools ((faR W l y).take x))]⟩) (fun x => W - x) 0 (by omega) ?_ ?_
      · simp only [↓RP, RG, FX, RQ, ↓reduceIte, Nat.reduceEqDiff, reduceCtorEq, Nat.reduceBEq, Nat.reduceAdd, Nat.reduceLeDiff]
        exact Wk.weak (fun t => .refl _) (.app (hs (W + y)) (.cons _ _ _ _ (.cons (.refl _) (.cons (.refl _) (.cons (.nil _) .nil))) (.nil _ (by simp [go, bools]))))
      intro x hx
      by_cases hlt3 : x < W
      · have hil := idx_lt hlt3 hlt2
        have hWH : W * H ≤ 1000 * 1000 := Nat.mul_le_mul hW hH
        have m1 : (y : Int) * (W : Int) = ((W * y : Nat) : Int) := by rw [Int.natCast_mul, Int.mul_comm]
        have m2 : ((W * y : Nat) : Int) + (x : Int) = ((W * y + x : Nat) : Int) := by omega
        have htk : ((faR W l y).take x).length = x := by rw [List.length_take, faR_len]; omega
        simp (disch := first | assumption | omega | rfl | simp only [RH]) only [↓RP, RG, FX, RQ, ↓reduceIte, Nat.reduceEqDiff, reduceCtorEq, Nat.reduceBEq, Nat.reduceAdd, Nat.reduceLeDiff, m1, m2, Int.toNat_natCast, effY_b, effY_n, effY_f, effY_l, effY_z, effY_D, append_bool]
        refine ⟨x + 1, by omega, Wk.of_eq ?_, by omega⟩
        rw [faR_take hlt3]
        rfl
      · obtain rfl : W = x := by omega
        have htk : (faR W l y).take W = faR W l y := List.take_of_length_le (by rw [faR_len]; omega)
        have hcl := faR_len W l y
        have hp : 0 < (bools (faR W l y)).length := by rw [bools_length]; omega
        simp (disch := first | assumption | omega | rfl | simp only [RH]) only [↓RP, RG, FX, RQ, ↓reduceIte, Nat.reduceEqDiff, reduceCtorEq, Nat.reduceBEq, Nat.reduceAdd, Nat.reduceLeDiff, htk, gw_pos hp, go_pos hp, bools_length, hcl]
        refine callK_Y rfl (stepsO_at (W + y) (by omega) (by rw [lineA_r _ _ _ hge, hmx, hsub]) (by rw [lineO_r _ _ _ hge, hmx, hsub]) rfl) ?_
        simp (disch := first | assumption | omega | rfl | simp only [RH]) only [↓RP, RG, FX, RQ, ↓reduceIte, Nat.reduceEqDiff, reduceCtorEq, Nat.reduceBEq, Nat.reduceAdd, Nat.reduceLeDiff]
        refine ⟨y + 1, by omega, ?_, by omega⟩
        refine (Wk.shut ((hm _ (by omega)).trans (hm 0 (by omega)).symm) ?_).trans (Wk.of_eq ?_)
        · rw [hm 0 (by omega)]; exact hsh _ (by omega)
        · simp [ren, map_ren_bools]; rfl
    · have hNx : N = W + y := by omega
      clear hyN
      refine awpX_seq ?_
      simp (disch := first | assumption | omega | rfl | simp only [RH]) only [↓RP, RG, FX, RQ, ↓reduceIte, Nat.reduceEqDiff, reduceCtorEq, Nat.reduceBEq, Nat.reduceAdd, Nat.reduceLeDiff]
      refine awpX_seq ?_
      simp (disch := first | assumption | omega | rfl | simp only [RH]) only [↓RP, RG, FX, RQ, ↓reduceIte, Nat.reduceEqDiff, reduceCtorEq, Nat.reduceBEq, Nat.reduceAdd, Nat.reduceLeDiff]
      refine awpX_left (awpX_block (awpX_seq ?_))
      simp (disch := first | assumption | omega | rfl | simp only [RH]) only [↓RP, RG, FX, RQ, ↓reduceIte, Nat.reduceEqDiff, reduceCtorEq, Nat.reduceBEq, Nat.reduceAdd, Nat.reduceLeDiff]
      refine awpX_seq ?_
      simp (disch := first | assumption | omega | rfl | simp only [RH]) only [↓RP, RG, FX, RQ, ↓reduceIte, Nat.reduceEqDiff, reduceCtorEq, Nat.reduceBEq, Nat.reduceAdd, Nat.reduceLeDiff]
      refine awpX_seq ?_
      have hge : ¬ W + y < W := by omega
      have hsub : W + y - W = y := by omega
      simp (disch := first | assumption | omega | rfl | simp only [RH]) only [↓RP, RG, FX, RQ, ↓reduceIte, Nat.reduceEqDiff, reduceCtorEq, Nat.reduceBEq, Nat.reduceAdd, Nat.reduceLeDiff]
      refine loopK_WW [0, 1, 6, 7, 43, 44, 50, 51] (fun x : Nat => x ≤ W) (fun x : Nat => ⟨[(0, .val yv), (1, .spot p [I W, I H, BA b l]), (6, I y), (7, .ptr (hs (W + y)).length 0 3), (43, I H), (44, I y), (50, I W), (51, I x)], hs (W + y) ++ [⟨57, 3, [B false, I y, gw true ((hs (W + y)).length + 1) (bools ((faR W l y).take x))]⟩, go 4 (bools ((faR W l y).take x))]⟩) (fun x => W - x) 0 (by omega) ?_ ?_
      · simp only [↓RP, RG, FX, RQ, ↓reduceIte, Nat.reduceEqDiff, reduceCtorEq, Nat.reduceBEq, Nat.reduceAdd, Nat.reduceLeDiff]
        exact Wk.weak (fun t => .refl _) (.app (hs (W + y)) (.cons _ _ _ _ (.cons (.refl _) (.cons (.refl _) (.cons (.nil _) .nil))) (.nil _ (by simp [go, bools]))))
      intro x hx
      by_cases hlt3 : x < W
      · have hil := idx_lt hlt3 hlt2
        have hWH : W * H ≤ 1000 * 1000 := Nat.mul_le_mul hW hH
        have m1 : (y : Int) * (W : Int) = ((W * y : Nat) : Int) := by rw [Int.natCast_mul, Int.mul_comm]
        have m2 : ((W * y : Nat) : Int) + (x : Int) = ((W * y + x : Nat) : Int) := by omega
        have htk : ((faR W l y).take x).length = x := by rw [List.length_take, faR_len]; omega
        simp (disch := first | assumption | omega | rfl | simp only [RH]) only [↓RP, RG, FX, RQ, ↓reduceIte, Nat.reduceEqDiff, reduceCtorEq, Nat.reduceBEq, Nat.reduceAdd, Nat.reduceLeDiff, m1, m2, Int.toNat_natCast, effY_b, effY_n, effY_f, effY_l, effY_z, effY_D, append_bool]
        refine ⟨x + 1, by omega, Wk.of_eq ?_, by omega⟩
        rw [faR_take hlt3]
        rfl
      · obtain rfl : W = x := by omega
        have htk : (faR W l y).take W = faR W l y := List.take_of_length_le (by rw [faR_len]; omega)
        have hcl := faR_len W l y
        have hp : 0 < (bools (faR W l y)).length := by rw [bools_length]; omega
        simp (disch := first | assumption | omega | rfl | simp only [RH]) only [↓RP, RG, FX, RQ, ↓reduceIte, Nat.reduceEqDiff, reduceCtorEq, Nat.reduceBEq, Nat.reduceAdd, Nat.reduceLeDiff, htk, gw_pos hp, go_pos hp, bools_length, hcl]
        refine awpX_stop ⟨[_, _], _, _, 73, 74, _, _, _, _, rfl, rfl, rfl, rfl, rfl, rfl, rfl, rfl, ?_⟩
        simp (disch := first | assumption | omega | rfl | simp only [RH]) only [↓RP, RG, FX, RQ, ↓reduceIte, Nat.reduceEqDiff, reduceCtorEq, Nat.reduceBEq, Nat.reduceAdd, Nat.reduceLeDiff]
        exact ⟨by rw [hNx, lineA_r _ _ _ hge, hmx, hsub], by rw [hNx, lineO_r _ _ _ hge, hmx, hsub]⟩
end
end Go.Proofs.YtgjjdcoeleddaaaDoor

/- Chapter 8: the crossings of a thread, of both. -/
set_option linter.unusedSimpArgs false
set_option linter.unusedVariables false
set_option maxRecDepth 100000
namespace Go.Proofs.YtgjjdcoeleddaaaDoor
open Go Go.Proofs Go.AW

/-- The cell ahead of a thread's cell, around. -/
def pvF (f : List Bool) (i : Nat) : Bool := if i = 0 then f.getD (f.length - 1) false else f.getD (i - 1) false
/-- How often a thread changes sides. -/
def crs (f : List Bool) : Nat → Nat
  | 0 => 0
  | i + 1 => crs f i + if f.getD i false = pvF f i then 0 else 1
theorem crs_le (f : List Bool) : ∀ i, crs f i ≤ i
  | 0 => Nat.le_refl _
  | i + 1 => by have := crs_le f i; unfold crs; split <;> omega
section
variable {W H : Nat} (hW0 : 0 < W) (hH0 : 0 < H) (hW : W ≤ 64) (hH : H ≤ 64) (b : Bool) {l : List Bool} (hn : l.length = W * H)
include hW0 hH0 hW hH hn
end
end Go.Proofs.YtgjjdcoeleddaaaDoor

/- Chapter 8: crossings and counts of both. -/
set_option linter.unusedSimpArgs false
set_option linter.unusedVariables false
set_option maxRecDepth 100000
namespace Go.Proofs.YtgjjdcoeleddaaaDoor
open Go Go.Proofs Go.AW

section
variable {W H : Nat} (hW0 : 0 < W) (hH0 : 0 < H) (hW : W ≤ 64) (hH : H ≤ 64) (b : Bool) {l : List Bool} (hn : l.length = W * H)
include hW0 hH0 hW hH hn
end
def ctC (W H : Nat) (l : List Bool) : Nat → Nat
  | 0 => 0
  | x + 1 => ctC W H l x + crs (faC W H l x) H
def ctR (W : Nat) (l : List Bool) : Nat → Nat
  | 0 => 0
  | y + 1 => ctR W l y + crs (faR W l y) W
theorem ctC_le (W H : Nat) (l : List Bool) : ∀ x, ctC W H l x ≤ x * H
  | 0 => by simp [ctC]
  | x + 1 => by have := ctC_le W H l x; have := crs_le (faC W H l x) H; unfold ctC; rw [Nat.succ_mul]; omega
theorem ctR_le (W : Nat) (l : List Bool) : ∀ y, ctR W l y ≤ y * W
  | 0 => by simp [ctR]
  | y + 1 => by have := ctR_le W l y; have := crs_le (faR W l y) W; unfold ctR; rw [Nat.succ_mul]; omega
section
variable {W H : Nat} (hW0 : 0 < W) (hH0 : 0 < H) (hW : W ≤ 64) (hH : H ≤ 64) (b : Bool) {l : List Bool} (hn : l.length = W * H)
include hW0 hH0 hW hH hn
end
end Go.Proofs.YtgjjdcoeleddaaaDoor

/- Chapter 8: float.Count, float.Crossings. -/
set_option linter.unusedSimpArgs false
set_option linter.unusedVariables false
set_option maxRecDepth 100000
namespace Go.Proofs.YtgjjdcoeleddaaaDoor
open Go Go.Proofs Go.AW

theorem crossP_c (w : Bool) (at' : Int) (b : Bool) {f : List Bool} {n : Nat} (hn : f.length = n) (h0 : 0 < n) (hl : n ≤ 1000000) : Contract Tryd.prog 27 [.agg [B w, I at', BA b f]] (I (crs f n)) := by
  have hp : ∀ i, pvF f (i + 1) = f.getD i false := fun i => by unfold pvF; rw [if_neg (by omega)]; rfl
  have hp0 : pvF f 0 = f.getD (n - 1) false := by unfold pvF; rw [if_pos rfl, hn]
  refine Contract.intro (effS [] false) 6 follows Tryd.func27 rfl rfl (by kernel_rfl) (Nat.le_of_ble_eq_true rfl) ?_
  have hs1 : ((n : Int) - 1).toNat = n - 1 := by omega
  simp (disch := first | assumption | omega | rfl | simp only [RH]) only [↓RP, RG, FX, RQ, ↓reduceIte, Nat.reduceEqDiff, reduceCtorEq, Nat.reduceBEq, Nat.reduceAdd, Nat.reduceLeDiff, args0_1, hn, hs1]
  rw [← hp0]
  refine loopK_I [3, 4, 16, 17, 18] (fun i : Nat => i ≤ n) (fun i => ⟨[(3, I (crs f i)), (4, B (pvF f i)), (16, BA b f), (17, I n), (18, I i)], [⟨57, 3, [B w, I at', BA b f]⟩]⟩) (fun i => n - i) 0 (by omega) (by simp only [↓RP, RG, FX, RQ, ↓reduceIte, Nat.reduceEqDiff, reduceCtorEq, Nat.reduceBEq, Nat.reduceAdd, Nat.reduceLeDiff]; rfl) ?_
  intro i hi
  by_cases hlt : i < n
  · have hpi := hp i
    have hcl := crs_le f i
    by_cases hq : f.getD i false = pvF f i
    · have hq2 : (!(f.getD i false == pvF f i)) = false := by simpa using hq
      simp (disch := first | assumption | omega | rfl | simp only [RH]) only [↓RP, RG, FX, RQ, ↓reduceIte, Nat.reduceEqDiff, reduceCtorEq, Nat.reduceBEq, Nat.reduceAdd, Nat.reduceLeDiff, hn, hq2, Int.toNat_natCast]
      exact ⟨i + 1, by omega, by simp only [crs, if_pos hq, hpi, Nat.add_zero]; rfl, by omega⟩
    · have hq2 : (!(f.getD i false == pvF f i)) = true := by simpa using hq
      simp (disch := first | assumption | omega | rfl | simp only [RH]) only [↓RP, RG, FX, RQ, ↓reduceIte, Nat.reduceEqDiff, reduceCtorEq, Nat.reduceBEq, Nat.reduceAdd, Nat.reduceLeDiff, hn, hq2, Int.toNat_natCast]
      exact ⟨i + 1, by omega, by simp only [crs, if_neg hq, hpi]; rfl, by omega⟩
  · obtain rfl : n = i := by omega
    simp (disch := first | assumption | omega | rfl | simp only [RH]) only [↓RP, RG, FX, RQ, ↓reduceIte, Nat.reduceEqDiff, reduceCtorEq, Nat.reduceBEq, Nat.reduceAdd, Nat.reduceLeDiff, hn]
    rw [resVal_1 rfl]; simp (disch := first | assumption | omega | rfl | simp only [RH]) only [↓RP, RG, FX, RQ, ↓reduceIte, Nat.reduceEqDiff, reduceCtorEq, Nat.reduceBEq, Nat.reduceAdd, Nat.reduceLeDiff, RS]
    first | done | rfl
theorem countP_bad (w h : Int) (b : Bool) (l : List Bool) (hz : gchk w h l.length ≠ 0) : Contract Tryd.prog 11 [GA w h b l] (.tuple [I 0, I 0, I (gchk w h l.length)]) := by
  refine Contract.intro (effS [] false [] [] [] (fun _ => true) [25, 26]) 6 follows Tryd.func11 rfl rfl (by kernel_rfl) (Nat.le_of_ble_eq_true rfl) ?_
  simp (disch := first | assumption | omega | rfl | simp only [RH]) only [↓RP, RG, FX, RQ, ↓reduceIte, Nat.reduceEqDiff, reduceCtorEq, Nat.reduceBEq, Nat.reduceAdd, Nat.reduceLeDiff, args0_1]
  refine callK_F 6 (gcheckP_c w h b l) (by simp (disch := first | assumption | omega | rfl | simp only [RH]) only [↓RP, RG, FX, RQ, ↓reduceIte, Nat.reduceEqDiff, reduceCtorEq, Nat.reduceBEq, Nat.reduceAdd, Nat.reduceLeDiff, RA] <;> rfl) (.inl (by simp [allFresh, ints_fresh, bools_fresh])) ?_
  simp (disch := first | assumption | omega | rfl | simp only [RH]) only [↓RP, RG, FX, RQ, ↓reduceIte, Nat.reduceEqDiff, reduceCtorEq, Nat.reduceBEq, Nat.reduceAdd, Nat.reduceLeDiff]
  rw [resVal_3 rfl]; simp (disch := first | assumption | omega | rfl | simp only [RH]) only [↓RP, RG, FX, RQ, ↓reduceIte, Nat.reduceEqDiff, reduceCtorEq, Nat.reduceBEq, Nat.reduceAdd, Nat.reduceLeDiff, RS]
section
variable {W H : Nat} (hW0 : 0 < W) (hH0 : 0 < H) (hW : W ≤ 64) (hH : H ≤ 64) (b : Bool) {l : List Bool} (hn : l.length = W * H)
include hW0 hH0 hW hH hn
theorem countP_c : Contract Tryd.prog 11 [GA W H b l] (.tuple [I (ctC W H l W), I (ctR W l H), I 0]) := by
  have hz : gchk W H l.length = 0 := gchk_ok ⟨by omega, by omega, by omega, by omega, by rw [hn, Int.natCast_mul]⟩
  have hck := gcheckP_c W H b l
  rw [hz] at hck
  have hWH : W * H ≤ 64 * 64 := Nat.mul_le_mul hW hH
  refine Contract.intro (effS [] false [] [] [] (fun _ => true) [25, 26]) 6 follows Tryd.func11 rfl rfl (by kernel_rfl) (Nat.le_of_ble_eq_true rfl) ?_
  simp (disch := first | assumption | omega | rfl | simp only [RH]) only [↓RP, RG, FX, RQ, ↓reduceIte, Nat.reduceEqDiff, reduceCtorEq, Nat.reduceBEq, Nat.reduceAdd, Nat.reduceLeDiff, args0_1]
  refine callK_F 6 (hck) (by simp (disch := first | assumption | omega | rfl | simp only [RH]) only [↓RP, RG, FX, RQ, ↓reduceIte, Nat.reduceEqDiff, reduceCtorEq, Nat.reduceBEq, Nat.reduceAdd, Nat.reduceLeDiff, RA] <;> rfl) (.inl (by simp [allFresh, ints_fresh, bools_fresh])) ?_
  simp (disch := first | assumption | omega | rfl | simp only [RH]) only [↓RP, RG, FX, RQ, ↓reduceIte, Nat.reduceEqDiff, reduceCtorEq, Nat.reduceBEq, Nat.reduceAdd, Nat.reduceLeDiff]
  refine callK_F 6 (lines_c W H b l) (by simp (disch := first | assumption | omega | rfl | simp only [RH]) only [↓RP, RG, FX, RQ, ↓reduceIte, Nat.reduceEqDiff, reduceCtorEq, Nat.reduceBEq, Nat.reduceAdd, Nat.reduceLeDiff, RA] <;> rfl) (.inr (by simp [noRef, bools_noRef])) ?_
  simp (disch := first | assumption | omega | rfl | simp only [RH]) only [↓RP, RG, FX, RQ, ↓reduceIte, Nat.reduceEqDiff, reduceCtorEq, Nat.reduceBEq, Nat.reduceAdd, Nat.reduceLeDiff]
  refine rangeK_O (s := ⟨[(1, .ptr 0 0 3), (2, .ptr 1 0 1), (3, .ptr 2 0 1), (13, .func (.func 35) [] [.spot true [I W, I H, BA b l]])], [⟨24, 3, [I W, I H, BA b l]⟩, ⟨3, 1, [I 0]⟩, ⟨3, 1, [I 0]⟩]⟩) [1, 2, 3, 13] (W + H) (fun k => [⟨24, 3, [I W, I H, BA b l]⟩, ⟨3, 1, [I (ctC W H l (min k W))]⟩, ⟨3, 1, [I (ctR W l (k - W))]⟩]) (lineO 3 W H l) (fun k => [⟨57, 3, [B (decide (k < W)), I (if k < W then k else k - W : Nat), .ref 4 0 (if k < W then H else W) (if k < W then H else W)]⟩]) (lineA 3 W H l) (Wk.of_eq (by simp only [↓RP, RG, FX, RQ, ↓reduceIte, Nat.reduceEqDiff, reduceCtorEq, Nat.reduceBEq, Nat.reduceAdd, Nat.reduceLeDiff])) ?_ rfl (linesF_y hW0 hH0 (by omega) (by omega) true b hn 3 _ _ (fun k _ => ⟨rfl, by simp [ren, map_ren_bools]⟩)) ?_ ?_
  · simp [ctC, ctR]
  · intro i hi
    by_cases hlt : i < W
    · rw [lineA_c _ _ _ hlt, lineO_c _ _ _ hlt]
      simp (disch := first | assumption | omega | rfl | simp only [RH]) only [↓RP, RG, FX, RQ, ↓reduceIte, Nat.reduceEqDiff, reduceCtorEq, Nat.reduceBEq, Nat.reduceAdd, Nat.reduceLeDiff]
      have hcl := crossP_c true i false (faC_len W H l i) hH0 (by omega)
      have q0 := faC_len W H l i
      have q1 := ctC_le W H l i
      have q2 := crs_le (faC W H l i) H
      have q3 : i * H ≤ 64 * 64 := Nat.mul_le_mul (by omega) hH
      rw [show min i W = i by omega, show i - W = 0 by omega]
      refine callK_F 6 hcl (by simp (disch := first | assumption | omega | rfl | simp only [RH]) only [↓RP, RG, FX, RQ, ↓reduceIte, Nat.reduceEqDiff, reduceCtorEq, Nat.reduceBEq, Nat.reduceAdd, Nat.reduceLeDiff, RA] <;> rfl) (.inl rfl) ?_
      simp (disch := first | assumption | omega | rfl | simp only [RH]) only [↓RP, RG, FX, RQ, ↓reduceIte, Nat.reduceEqDiff, reduceCtorEq, Nat.reduceBEq, Nat.reduceAdd, Nat.reduceLeDiff]
      refine Wk.of_eq ?_
      simp only [show min (i + 1) W = i + 1 by omega, show i + 1 - W = 0 by omega, decide_eq_true hlt, if_pos hlt, ctC]
      rfl
    · rw [lineA_r _ _ _ hlt, lineO_r _ _ _ hlt]
      simp (disch := first | assumption | omega | rfl | simp only [RH]) only [↓RP, RG, FX, RQ, ↓reduceIte, Nat.reduceEqDiff, reduceCtorEq, Nat.reduceBEq, Nat.reduceAdd, Nat.reduceLeDiff]
      have hcl := crossP_c false (i - W : Nat) false (faR_len W l (i - W)) hW0 (by omega)
      have q0 := faR_len W l (i - W)
      have q1 := ctR_le W l (i - W)
      have q2 := crs_le (faR W l (i - W)) W
      have q3 : (i - W) * W ≤ 64 * 64 := Nat.mul_le_mul (by omega) hW
      rw [show min i W = W by omega]
      refine callK_F 6 hcl (by simp (disch := first | assumption | omega | rfl | simp only [RH]) only [↓RP, RG, FX, RQ, ↓reduceIte, Nat.reduceEqDiff, reduceCtorEq, Nat.reduceBEq, Nat.reduceAdd, Nat.reduceLeDiff, RA] <;> rfl) (.inl rfl) ?_
      simp (disch := first | assumption | omega | rfl | simp only [RH]) only [↓RP, RG, FX, RQ, ↓reduceIte, Nat.reduceEqDiff, reduceCtorEq, Nat.reduceBEq, Nat.reduceAdd, Nat.reduceLeDiff]
      refine Wk.of_eq ?_
      simp only [show min (i + 1) W = W by omega, show i + 1 - W = (i - W) + 1 by omega, decide_eq_false hlt, if_neg hlt, ctR]
      rfl
  · simp only [show min (W + H) W = W by omega, show W + H - W = H by omega]
    simp (disch := first | assumption | omega | rfl | simp only [RH]) only [↓RP, RG, FX, RQ, ↓reduceIte, Nat.reduceEqDiff, reduceCtorEq, Nat.reduceBEq, Nat.reduceAdd, Nat.reduceLeDiff]
    rw [resVal_3 rfl]; simp (disch := first | assumption | omega | rfl | simp only [RH]) only [↓RP, RG, FX, RQ, ↓reduceIte, Nat.reduceEqDiff, reduceCtorEq, Nat.reduceBEq, Nat.reduceAdd, Nat.reduceLeDiff, RS]
end
end Go.Proofs.YtgjjdcoeleddaaaDoor

/- Chapter 8: float.Crossings. -/
set_option linter.unusedSimpArgs false
set_option linter.unusedVariables false
set_option maxRecDepth 100000
namespace Go.Proofs.YtgjjdcoeleddaaaDoor
open Go Go.Proofs Go.AW

section
variable {W H : Nat} (hW0 : 0 < W) (hH0 : 0 < H) (hW : W ≤ 64) (hH : H ≤ 64) (b : Bool) {l : List Bool} (hn : l.length = W * H)
include hW0 hH0 hW hH hn
theorem crossgP_noC {a : Int} (hno : ∀ i : Nat, i < W + H → i < W → (i : Int) ≠ a) : Contract Tryd.prog 19 [GA W H b l, B true, I a] (.tuple [I 0, I 2]) := by
  have hz : gchk W H l.length = 0 := gchk_ok ⟨by omega, by omega, by omega, by omega, by rw [hn, Int.natCast_mul]⟩
  have hck := gcheckP_c W H b l
  rw [hz] at hck
  refine Contract.intro (effS [] false) 6 follows Tryd.func19 rfl rfl (by kernel_rfl) (Nat.le_of_ble_eq_true rfl) ?_
  simp (disch := first | assumption | omega | rfl | simp only [RH]) only [↓RP, RG, FX, RQ, ↓reduceIte, Nat.reduceEqDiff, reduceCtorEq, Nat.reduceBEq, Nat.reduceAdd, Nat.reduceLeDiff, args0_3]
  refine callK_F 6 (hck) (by simp (disch := first | assumption | omega | rfl | simp only [RH]) only [↓RP, RG, FX, RQ, ↓reduceIte, Nat.reduceEqDiff, reduceCtorEq, Nat.reduceBEq, Nat.reduceAdd, Nat.reduceLeDiff, RA] <;> rfl) (.inl (by simp [allFresh, ints_fresh, bools_fresh])) ?_
  simp (disch := first | assumption | omega | rfl | simp only [RH]) only [↓RP, RG, FX, RQ, ↓reduceIte, Nat.reduceEqDiff, reduceCtorEq, Nat.reduceBEq, Nat.reduceAdd, Nat.reduceLeDiff]
  refine callK_F 6 (lines_c W H b l) (by simp (disch := first | assumption | omega | rfl | simp only [RH]) only [↓RP, RG, FX, RQ, ↓reduceIte, Nat.reduceEqDiff, reduceCtorEq, Nat.reduceBEq, Nat.reduceAdd, Nat.reduceLeDiff, RA] <;> rfl) (.inr (by simp [noRef, bools_noRef])) ?_
  simp (disch := first | assumption | omega | rfl | simp only [RH]) only [↓RP, RG, FX, RQ, ↓reduceIte, Nat.reduceEqDiff, reduceCtorEq, Nat.reduceBEq, Nat.reduceAdd, Nat.reduceLeDiff]
  refine rangeK_O (s := ⟨[(3, .ptr 0 0 3), (4, .ptr 1 0 1), (5, .ptr 2 0 1), (6, .ptr 3 0 1), (7, .ptr 4 0 1), (16, .func (.func 35) [] [.spot true [I W, I H, BA b l]])], [⟨24, 3, [I W, I H, BA b l]⟩, ⟨4, 1, [B true]⟩, ⟨3, 1, [I a]⟩, ⟨3, 1, [I 0]⟩, ⟨30, 1, [I 0]⟩]⟩) [3, 4, 5, 6, 7, 16] (W + H) (fun k => [⟨24, 3, [I W, I H, BA b l]⟩, ⟨4, 1, [B true]⟩, ⟨3, 1, [I a]⟩, ⟨3, 1, [I 0]⟩, ⟨30, 1, [I 0]⟩]) (lineO 5 W H l) (fun k => [⟨57, 3, [B (decide (k < W)), I (if k < W then k else k - W : Nat), .ref 6 0 (if k < W then H else W) (if k < W then H else W)]⟩]) (lineA 5 W H l) (Wk.of_eq (by simp only [↓RP, RG, FX, RQ, ↓reduceIte, Nat.reduceEqDiff, reduceCtorEq, Nat.reduceBEq, Nat.reduceAdd, Nat.reduceLeDiff])) rfl rfl (linesF_y hW0 hH0 (by omega) (by omega) true b hn 5 _ _ (fun k _ => ⟨rfl, by simp [ren, map_ren_bools]⟩)) ?_ ?_
  · intro i hi
    by_cases hlt : i < W
    · rw [lineA_c _ _ _ hlt, lineO_c _ _ _ hlt]
      have hne := hno i hi hlt
      simp (disch := first | assumption | omega | rfl | simp only [RH]) only [↓RP, RG, FX, RQ, ↓reduceIte, Nat.reduceEqDiff, reduceCtorEq, Nat.reduceBEq, Nat.reduceAdd, Nat.reduceLeDiff, beq_self_eq_true]
      refine Wk.of_eq ?_
      simp only [decide_eq_true hlt, if_pos hlt]
      first | done | rfl
    · rw [lineA_r _ _ _ hlt, lineO_r _ _ _ hlt]
      simp (disch := first | assumption | omega | rfl | simp only [RH]) only [↓RP, RG, FX, RQ, ↓reduceIte, Nat.reduceEqDiff, reduceCtorEq, Nat.reduceBEq, Nat.reduceAdd, Nat.reduceLeDiff, Bool.true_beq, Bool.false_beq, Bool.not_true, Bool.not_false, beq_self_eq_true]
      refine Wk.of_eq ?_
      first | (exfalso; omega) | (simp only [decide_eq_false hlt, if_neg hlt]; done) | (simp only [decide_eq_false hlt, if_neg hlt]; rfl)
  · simp (disch := first | assumption | omega | rfl | simp only [RH]) only [↓RP, RG, FX, RQ, ↓reduceIte, Nat.reduceEqDiff, reduceCtorEq, Nat.reduceBEq, Nat.reduceAdd, Nat.reduceLeDiff]
    rw [resVal_2 rfl]; simp (disch := first | assumption | omega | rfl | simp only [RH]) only [↓RP, RG, FX, RQ, ↓reduceIte, Nat.reduceEqDiff, reduceCtorEq, Nat.reduceBEq, Nat.reduceAdd, Nat.reduceLeDiff, RS]
theorem crossgP_noR {a : Int} (hno : ∀ i : Nat, i < W + H → ¬ i < W → ((i - W : Nat) : Int) ≠ a) : Contract Tryd.prog 19 [GA W H b l, B false, I a] (.tuple [I 0, I 2]) := by
  have hz : gchk W H l.length = 0 := gchk_ok ⟨by omega, by omega, by omega, by omega, by rw [hn, Int.natCast_mul]⟩
  have hck := gcheckP_c W H b l
  rw [hz] at hck
  refine Contract.intro (effS [] false) 6 follows Tryd.func19 rfl rfl (by kernel_rfl) (Nat.le_of_ble_eq_true rfl) ?_
  simp (disch := first | assumption | omega | rfl | simp only [RH]) only [↓RP, RG, FX, RQ, ↓reduceIte, Nat.reduceEqDiff, reduceCtorEq, Nat.reduceBEq, Nat.reduceAdd, Nat.reduceLeDiff, args0_3]
  refine callK_F 6 (hck) (by simp (disch := first | assumption | omega | rfl | simp only [RH]) only [↓RP, RG, FX, RQ, ↓reduceIte, Nat.reduceEqDiff, reduceCtorEq, Nat.reduceBEq, Nat.reduceAdd, Nat.reduceLeDiff, RA] <;> rfl) (.inl (by simp [allFresh, ints_fresh, bools_fresh])) ?_
  simp (disch := first | assumption | omega | rfl | simp only [RH]) only [↓RP, RG, FX, RQ, ↓reduceIte, Nat.reduceEqDiff, reduceCtorEq, Nat.reduceBEq, Nat.reduceAdd, Nat.reduceLeDiff]
  refine callK_F 6 (lines_c W H b l) (by simp (disch := first | assumption | omega | rfl | simp only [RH]) only [↓RP, RG, FX, RQ, ↓reduceIte, Nat.reduceEqDiff, reduceCtorEq, Nat.reduceBEq, Nat.reduceAdd, Nat.reduceLeDiff, RA] <;> rfl) (.inr (by simp [noRef, bools_noRef])) ?_
  simp (disch := first | assumption | omega | rfl | simp only [RH]) only [↓RP, RG, FX, RQ, ↓reduceIte, Nat.reduceEqDiff, reduceCtorEq, Nat.reduceBEq, Nat.reduceAdd, Nat.reduceLeDiff]
  refine rangeK_O (s := ⟨[(3, .ptr 0 0 3), (4, .ptr 1 0 1), (5, .ptr 2 0 1), (6, .ptr 3 0 1), (7, .ptr 4 0 1), (16, .func (.func 35) [] [.spot true [I W, I H, BA b l]])], [⟨24, 3, [I W, I H, BA b l]⟩, ⟨4, 1, [B false]⟩, ⟨3, 1, [I a]⟩, ⟨3, 1, [I 0]⟩, ⟨30, 1, [I 0]⟩]⟩) [3, 4, 5, 6, 7, 16] (W + H) (fun k => [⟨24, 3, [I W, I H, BA b l]⟩, ⟨4, 1, [B false]⟩, ⟨3, 1, [I a]⟩, ⟨3, 1, [I 0]⟩, ⟨30, 1, [I 0]⟩]) (lineO 5 W H l) (fun k => [⟨57, 3, [B (decide (k < W)), I (if k < W then k else k - W : Nat), .ref 6 0 (if k < W then H else W) (if k < W then H else W)]⟩]) (lineA 5 W H l) (Wk.of_eq (by simp only [↓RP, RG, FX, RQ, ↓reduceIte, Nat.reduceEqDiff, reduceCtorEq, Nat.reduceBEq, Nat.reduceAdd, Nat.reduceLeDiff])) rfl rfl (linesF_y hW0 hH0 (by omega) (by omega) true b hn 5 _ _ (fun k _ => ⟨rfl, by simp [ren, map_ren_bools]⟩)) ?_ ?_
  · intro i hi
    by_cases hlt : i < W
    · rw [lineA_c _ _ _ hlt, lineO_c _ _ _ hlt]
      simp (disch := first | assumption | omega | rfl | simp only [RH]) only [↓RP, RG, FX, RQ, ↓reduceIte, Nat.reduceEqDiff, reduceCtorEq, Nat.reduceBEq, Nat.reduceAdd, Nat.reduceLeDiff, Bool.true_beq, Bool.false_beq, Bool.not_true, Bool.not_false, beq_self_eq_true]
      refine Wk.of_eq ?_
      simp only [decide_eq_true hlt, if_pos hlt]
      first | done | rfl
    · rw [lineA_r _ _ _ hlt, lineO_r _ _ _ hlt]
      have hne := hno i hi hlt
      simp (disch := first | assumption | omega | rfl | simp only [RH]) only [↓RP, RG, FX, RQ, ↓reduceIte, Nat.reduceEqDiff, reduceCtorEq, Nat.reduceBEq, Nat.reduceAdd, Nat.reduceLeDiff, beq_self_eq_true]
      refine Wk.of_eq ?_
      first | (exfalso; omega) | (simp only [decide_eq_false hlt, if_neg hlt]; done) | (simp only [decide_eq_false hlt, if_neg hlt]; rfl)
  · simp (disch := first | assumption | omega | rfl | simp only [RH]) only [↓RP, RG, FX, RQ, ↓reduceIte, Nat.reduceEqDiff, reduceCtorEq, Nat.reduceBEq, Nat.reduceAdd, Nat.reduceLeDiff]
    rw [resVal_2 rfl]; simp (disch := first | assumption | omega | rfl | simp only [RH]) only [↓RP, RG, FX, RQ, ↓reduceIte, Nat.reduceEqDiff, reduceCtorEq, Nat.reduceBEq, Nat.reduceAdd, Nat.reduceLeDiff, RS]
theorem crossgP_r {y : Nat} (hy : y < H) : Contract Tryd.prog 19 [GA W H b l, B false, I y] (.tuple [I (crs (faR W l y) W), I 0]) := by
  have hno : ∀ i : Nat, i < W + y → ¬ i < W → ((i - W : Nat) : Int) ≠ (y : Int) := fun i h1 h2 => by omega
  have hge : ¬ W + y < W := by omega
  have hsub : W + y - W = y := by omega
  have hz : gchk W H l.length = 0 := gchk_ok ⟨by omega, by omega, by omega, by omega, by rw [hn, Int.natCast_mul]⟩
  have hck := gcheckP_c W H b l
  rw [hz] at hck
  refine Contract.intro (effS [] false) 6 follows Tryd.func19 rfl rfl (by kernel_rfl) (Nat.le_of_ble_eq_true rfl) ?_
  simp (disch := first | assumption | omega | rfl | simp only [RH]) only [↓RP, RG, FX, RQ, ↓reduceIte, Nat.reduceEqDiff, reduceCtorEq, Nat.reduceBEq, Nat.reduceAdd, Nat.reduceLeDiff, args0_3]
  refine callK_F 6 (hck) (by simp (disch := first | assumption | omega | rfl | simp only [RH]) only [↓RP, RG, FX, RQ, ↓reduceIte, Nat.reduceEqDiff, reduceCtorEq, Nat.reduceBEq, Nat.reduceAdd, Nat.reduceLeDiff, RA] <;> rfl) (.inl (by simp [allFresh, ints_fresh, bools_fresh])) ?_
  simp (disch := first | assumption | omega | rfl | simp only [RH]) only [↓RP, RG, FX, RQ, ↓reduceIte, Nat.reduceEqDiff, reduceCtorEq, Nat.reduceBEq, Nat.reduceAdd, Nat.reduceLeDiff]
  refine callK_F 6 (lines_c W H b l) (by simp (disch := first | assumption | omega | rfl | simp only [RH]) only [↓RP, RG, FX, RQ, ↓reduceIte, Nat.reduceEqDiff, reduceCtorEq, Nat.reduceBEq, Nat.reduceAdd, Nat.reduceLeDiff, RA] <;> rfl) (.inr (by simp [noRef, bools_noRef])) ?_
  simp (disch := first | assumption | omega | rfl | simp only [RH]) only [↓RP, RG, FX, RQ, ↓reduceIte, Nat.reduceEqDiff, reduceCtorEq, Nat.reduceBEq, Nat.reduceAdd, Nat.reduceLeDiff]
  refine rangeK_OX (s := ⟨[(3, .ptr 0 0 3), (4, .ptr 1 0 1), (5, .ptr 2 0 1), (6, .ptr 3 0 1), (7, .ptr 4 0 1), (16, .func (.func 35) [] [.spot true [I W, I H, BA b l]])], [⟨24, 3, [I W, I H, BA b l]⟩, ⟨4, 1, [B false]⟩, ⟨3, 1, [I y]⟩, ⟨3, 1, [I 0]⟩, ⟨30, 1, [I 0]⟩]⟩) [3, 4, 5, 6, 7, 16] (W + y) (fun k => [⟨24, 3, [I W, I H, BA b l]⟩, ⟨4, 1, [B false]⟩, ⟨3, 1, [I y]⟩, ⟨3, 1, [I 0]⟩, ⟨30, 1, [I 0]⟩]) (lineO 5 W H l) (fun k => [⟨57, 3, [B (decide (k < W)), I (if k < W then k else k - W : Nat), .ref 6 0 (if k < W then H else W) (if k < W then H else W)]⟩]) (lineA 5 W H l) ([⟨24, 3, [I W, I H, BA b l]⟩, ⟨4, 1, [B false]⟩, ⟨3, 1, [I y]⟩, ⟨3, 1, [I (crs (faR W l y) W)]⟩, ⟨30, 1, [I 0]⟩] ++ [⟨57, 3, [B false, I y, .ref 6 0 W W]⟩, ⟨4, 1, bools (faR W l y)⟩, ⟨57, 3, [B false, I y, .ref 6 0 W W]⟩]) .ret (.inl rfl) (Wk.of_eq (by simp only [↓RP, RG, FX, RQ, ↓reduceIte, Nat.reduceEqDiff, reduceCtorEq, Nat.reduceBEq, Nat.reduceAdd, Nat.reduceLeDiff])) rfl rfl (linesF_x2 hW0 hH0 (by omega) (by omega) true b hn 5 _ _ ⟨by omega, by omega⟩ (fun k _ => ⟨rfl, by simp [ren, map_ren_bools]⟩) _) ?_ ?_ ?_
  · intro i hi
    by_cases hlt : i < W
    · rw [lineA_c _ _ _ hlt, lineO_c _ _ _ hlt]
      simp (disch := first | assumption | omega | rfl | simp only [RH]) only [↓RP, RG, FX, RQ, ↓reduceIte, Nat.reduceEqDiff, reduceCtorEq, Nat.reduceBEq, Nat.reduceAdd, Nat.reduceLeDiff, Bool.true_beq, Bool.false_beq, Bool.not_true, Bool.not_false, beq_self_eq_true]
      refine Wk.of_eq ?_
      simp only [decide_eq_true hlt, if_pos hlt]
      first | done | rfl
    · rw [lineA_r _ _ _ hlt, lineO_r _ _ _ hlt]
      have hne := hno i hi hlt
      simp (disch := first | assumption | omega | rfl | simp only [RH]) only [↓RP, RG, FX, RQ, ↓reduceIte, Nat.reduceEqDiff, reduceCtorEq, Nat.reduceBEq, Nat.reduceAdd, Nat.reduceLeDiff, beq_self_eq_true]
      refine Wk.of_eq ?_
      first | (exfalso; omega) | (simp only [decide_eq_false hlt, if_neg hlt]; done) | (simp only [decide_eq_false hlt, if_neg hlt]; rfl)
  · simp only []
    rw [lineA_r _ _ _ hge, lineO_r _ _ _ hge, hsub]
    have hcl := crossP_c false y false (faR_len W l y) hW0 (by omega)
    have q0 := faR_len W l y
    simp (disch := first | assumption | omega | rfl | simp only [RH]) only [↓RP, RG, FX, RQ, ↓reduceIte, Nat.reduceEqDiff, reduceCtorEq, Nat.reduceBEq, Nat.reduceAdd, Nat.reduceLeDiff, beq_self_eq_true]
    refine callK_F 6 hcl (by simp (disch := first | assumption | omega | rfl | simp only [RH]) only [↓RP, RG, FX, RQ, ↓reduceIte, Nat.reduceEqDiff, reduceCtorEq, Nat.reduceBEq, Nat.reduceAdd, Nat.reduceLeDiff, RA] <;> rfl) (.inl rfl) ?_
    simp (disch := first | assumption | omega | rfl | simp only [RH]) only [↓RP, RG, FX, RQ, ↓reduceIte, Nat.reduceEqDiff, reduceCtorEq, Nat.reduceBEq, Nat.reduceAdd, Nat.reduceLeDiff]
    exact Wk.of_eq (by rfl)
  · simp (disch := first | assumption | omega | rfl | simp only [RH]) only [↓RP, RG, FX, RQ, ↓reduceIte, Nat.reduceEqDiff, reduceCtorEq, Nat.reduceBEq, Nat.reduceAdd, Nat.reduceLeDiff]
    rw [resVal_2 rfl]; simp (disch := first | assumption | omega | rfl | simp only [RH]) only [↓RP, RG, FX, RQ, ↓reduceIte, Nat.reduceEqDiff, reduceCtorEq, Nat.reduceBEq, Nat.reduceAdd, Nat.reduceLeDiff, RS]
end
end Go.Proofs.YtgjjdcoeleddaaaDoor

/- Chapter 8: runs of a thread. Plain. -/
set_option linter.unusedSimpArgs false
set_option linter.unusedVariables false
set_option maxRecDepth 100000
namespace Go.Proofs.YtgjjdcoeleddaaaDoor
open Go Go.Proofs Go.AW

/-- How many cells from there on are alike. -/
def tw (c : Bool) : List Bool → Nat
  | [] => 0
  | x :: r => if x = c then tw c r + 1 else 0
theorem tw_le (c : Bool) : ∀ l, tw c l ≤ l.length
  | [] => Nat.le_refl _
  | x :: r => by have := tw_le c r; unfold tw; split <;> simp <;> omega
theorem tw_in (c : Bool) : ∀ (l : List Bool) (t : Nat), t < tw c l → l.getD t false = c
  | [], t, h => by simp [tw] at h
  | x :: r, t, h => by
    unfold tw at h
    split at h
    · rename_i hx
      cases t with
      | zero => exact hx
      | succ t => exact tw_in c r t (by omega)
    · omega
theorem tw_end (c : Bool) : ∀ (l : List Bool), tw c l < l.length → l.getD (tw c l) false ≠ c
  | [], h => by simp at h
  | x :: r, h => by
    unfold tw at h ⊢
    split
    · rename_i hx
      rw [if_pos hx] at h
      exact tw_end c r (by simpa using h)
    · rename_i hx; exact hx
/-- The run that begins at r. -/
def runF (g : List Bool) (c : Bool) (r : Nat) : Nat := tw c (g.drop r)
theorem runF_le (g : List Bool) (c : Bool) (r : Nat) : runF g c r ≤ g.length - r := by have := tw_le c (g.drop r); simpa [runF] using this
theorem getD_drop (g : List Bool) (r t : Nat) : (g.drop r).getD t false = g.getD (r + t) false := by simp [List.getD_eq_getElem?_getD]
theorem runF_in {g : List Bool} {c : Bool} {r t : Nat} (h : t < runF g c r) : g.getD (r + t) false = c := by rw [← getD_drop]; exact tw_in c _ t h
theorem runF_end {g : List Bool} {c : Bool} {r : Nat} (h : r + runF g c r < g.length) : g.getD (r + runF g c r) false ≠ c := by
  rw [← getD_drop]; exact tw_end c _ (by unfold runF at h; simp; omega)
theorem runF_lt {g : List Bool} {c : Bool} {r t : Nat} (ht : t ≤ runF g c r) : (t < runF g c r ↔ r + t < g.length ∧ g.getD (r + t) false = c) := by
  constructor
  · intro h
    have := runF_le g c r
    exact ⟨by omega, runF_in h⟩
  · rintro ⟨h1, h2⟩
    refine Classical.byContradiction fun hno => ?_
    obtain rfl : t = runF g c r := by omega
    exact runF_end h1 h2
/-- A run begins there. -/
def stF (g : List Bool) (c : Bool) (r : Nat) : Bool := decide (0 < r) && decide (r < g.length) && (g.getD r false == c) && !(g.getD (r - 1) false == c)
theorem stF_iff {g : List Bool} {c : Bool} {r : Nat} : stF g c r = true ↔ 0 < r ∧ r < g.length ∧ g.getD r false = c ∧ g.getD (r - 1) false ≠ c := by
  unfold stF
  cases h1 : g.getD r false <;> cases h2 : g.getD (r - 1) false <;> cases c <;> simp
/-- The runs that begin ahead of i. -/
def fnd (g : List Bool) (c : Bool) (i : Nat) : List Nat := (List.range i).filter fun r => stF g c r
theorem fnd_no {g : List Bool} {c : Bool} {i : Nat} (h : stF g c i = false) : fnd g c (i + 1) = fnd g c i := by
  unfold fnd; rw [List.range_succ, List.filter_append]; simp [h]
theorem fnd_yes {g : List Bool} {c : Bool} {i : Nat} (h : stF g c i = true) : fnd g c (i + 1) = fnd g c i ++ [i] := by
  unfold fnd; rw [List.range_succ, List.filter_append]; simp [h]
theorem fnd_len (g : List Bool) (c : Bool) (i : Nat) : (fnd g c i).length ≤ i := by
  unfold fnd; exact Nat.le_trans (List.length_filter_le _ _) (by simp)
/-- Past a run. -/
theorem fnd_run {g : List Bool} {c : Bool} {i : Nat} (h : stF g c i = true) : fnd g c (i + runF g c i + 1) = fnd g c i ++ [i] := by
  obtain ⟨s1, s2, s3, s4⟩ := stF_iff.1 h
  have key : ∀ t, t ≤ runF g c i → fnd g c (i + t + 1) = fnd g c i ++ [i] := by
    intro t
    induction t with
    | zero => intro _; exact fnd_yes h
    | succ t ih =>
      intro ht
      rw [← ih (by omega)]
      refine fnd_no ?_
      cases hs : stF g c (i + (t + 1)) with
      | false => rfl
      | true =>
        obtain ⟨_, _, _, h4⟩ := stF_iff.1 hs
        exact absurd (runF_in (show t < runF g c i by omega)) h4
  exact key _ (Nat.le_refl _)
theorem fnd_over {g : List Bool} {c : Bool} {i : Nat} (h : g.length ≤ i) : fnd g c i = fnd g c g.length := by
  induction i with
  | zero => rw [show g.length = 0 by omega]
  | succ i ih =>
    by_cases hi : g.length = i + 1
    · rw [hi]
    · rw [← ih (by omega)]
      refine fnd_no ?_
      cases hs : stF g c i with
      | false => rfl
      | true => have := (stF_iff.1 hs).2.1; omega
/-- A thread, begun elsewhere. -/
def rotF (f : List Bool) (s : Nat) : List Bool := (List.range f.length).map fun i => f.getD ((s + i) % f.length) false
theorem rotF_len (f : List Bool) (s : Nat) : (rotF f s).length = f.length := by simp [rotF]
theorem rotF_get {f : List Bool} {s i : Nat} (h : i < f.length) : (rotF f s).getD i false = f.getD ((s + i) % f.length) false := by simp [rotF, List.getD_eq_getElem?_getD, h]
/-- Where a run that begins at r there begins here, and back. -/
def hereF (n s r : Nat) : Nat := (s + r) % n
def thereF (n s i : Nat) : Nat := (i + n - s) % n
theorem here_there {n s i : Nat} (hs : s < n) (hi : i < n) : hereF n s (thereF n s i) = i := by
  unfold hereF thereF
  by_cases h : s ≤ i
  · rw [show i + n - s = (i - s) + n by omega, Nat.add_mod_right, Nat.mod_eq_of_lt (show i - s < n by omega), show s + (i - s) = i by omega, Nat.mod_eq_of_lt hi]
  · rw [Nat.mod_eq_of_lt (show i + n - s < n by omega), show s + (i + n - s) = i + n by omega, Nat.add_mod_right, Nat.mod_eq_of_lt hi]
theorem there_here {n s r : Nat} (hs : s < n) (hr : r < n) : thereF n s (hereF n s r) = r := by
  unfold hereF thereF
  by_cases h : s + r < n
  · rw [Nat.mod_eq_of_lt h, show s + r + n - s = r + n by omega, Nat.add_mod_right, Nat.mod_eq_of_lt hr]
  · have e : (s + r) % n = s + r - n := by
      rw [show s + r = (s + r - n) + n by omega, Nat.add_mod_right, Nat.mod_eq_of_lt (by omega)]
      omega
    rw [e, show s + r - n + n - s = r by omega, Nat.mod_eq_of_lt hr]
theorem here_lt {n s r : Nat} (hn : 0 < n) : hereF n s r < n := Nat.mod_lt _ hn
theorem there_lt {n s i : Nat} (hn : 0 < n) : thereF n s i < n := Nat.mod_lt _ hn
/-- A run begins at cell i of a thread. -/
def stR (f : List Bool) (c : Bool) (i : Nat) : Bool := (f.getD i false == c) && !(pvF f i == c)
theorem st_same {f : List Bool} {c : Bool} {s r : Nat} (hs : s < f.length) (hc : f.getD s false ≠ c) (hr : r < f.length) : stF (rotF f s) c r = stR f c (hereF f.length s r) := by
  rw [Bool.eq_iff_iff, stF_iff]
  unfold stR
  rw [rotF_len]
  have e0 := rotF_get (f := f) (s := s) hr
  have hx : f.getD ((s + r) % f.length) false = f.getD (hereF f.length s r) false := rfl
  by_cases h0 : r = 0
  · subst h0
    have : hereF f.length s 0 = s := by unfold hereF; rw [Nat.add_zero, Nat.mod_eq_of_lt hs]
    rw [this]
    simp
    intro h; exact absurd h hc
  · have e1 := rotF_get (f := f) (s := s) (i := r - 1) (by omega)
    have e2 : f.getD ((s + (r - 1)) % f.length) false = pvF f (hereF f.length s r) := by
      unfold pvF hereF
      by_cases h1 : s + r < f.length
      · rw [Nat.mod_eq_of_lt h1, if_neg (by omega), Nat.mod_eq_of_lt (by omega), show s + (r - 1) = s + r - 1 by omega]
      · have e : (s + r) % f.length = s + r - f.length := by
          rw [show s + r = (s + r - f.length) + f.length by omega, Nat.add_mod_right, Nat.mod_eq_of_lt (by omega)]
          omega
        rw [e]
        by_cases h2 : s + r - f.length = 0
        · rw [if_pos h2, show s + (r - 1) = f.length - 1 by omega, Nat.mod_eq_of_lt (by omega)]
        · rw [if_neg h2, show s + (r - 1) = (s + r - f.length - 1) + f.length by omega, Nat.add_mod_right, Nat.mod_eq_of_lt (by omega)]
    rw [e0, e1, hx, e2]
    cases f.getD (hereF f.length s r) false <;> cases pvF f (hereF f.length s r) <;> cases c <;> simp <;> omega
end Go.Proofs.YtgjjdcoeleddaaaDoor

/- Chapter 8: the floats of a thread, in order. Plain. -/
set_option linter.unusedSimpArgs false
set_option linter.unusedVariables false
set_option maxRecDepth 100000
namespace Go.Proofs.YtgjjdcoeleddaaaDoor
open Go Go.Proofs Go.AW

/-- How long the run is that begins at cell i, around. -/
def lenR (f : List Bool) (c : Bool) (i : Nat) : Nat := tw c (rotF f i)
theorem lenR_le (f : List Bool) (c : Bool) (i : Nat) : lenR f c i ≤ f.length := by
  have := tw_le c (rotF f i); rwa [rotF_len] at this
theorem lenR_in {f : List Bool} {c : Bool} {i t : Nat} (h : t < lenR f c i) : f.getD ((i + t) % f.length) false = c := by
  rw [← rotF_get (Nat.lt_of_lt_of_le h (lenR_le f c i))]; exact tw_in c _ t h
theorem lenR_end {f : List Bool} {c : Bool} {i : Nat} (h : lenR f c i < f.length) : f.getD ((i + lenR f c i) % f.length) false ≠ c := by
  rw [← rotF_get h]; exact tw_end c _ (by rw [rotF_len]; exact h)
theorem mod_mid (s r t n : Nat) : ((s + r) % n + t) % n = (s + (r + t)) % n := by rw [Nat.mod_add_mod, Nat.add_assoc]
theorem run_len {f : List Bool} {c : Bool} {s r : Nat} (hs : s < f.length) (hc : f.getD s false ≠ c) (hr : r < f.length) : runF (rotF f s) c r = lenR f c (hereF f.length s r) := by
  have hl := runF_le (rotF f s) c r
  rw [rotF_len] at hl
  have hin : ∀ t, t < runF (rotF f s) c r → f.getD ((hereF f.length s r + t) % f.length) false = c := fun t ht => by
    have h1 := runF_in ht
    rw [rotF_get (by omega)] at h1
    unfold hereF; rw [mod_mid]; exact h1
  have hend : f.getD ((hereF f.length s r + runF (rotF f s) c r) % f.length) false ≠ c := by
    unfold hereF; rw [mod_mid]
    by_cases h : r + runF (rotF f s) c r < f.length
    · have h1 := runF_end (g := rotF f s) (c := c) (r := r) (by rw [rotF_len]; exact h)
      rwa [rotF_get h] at h1
    · rw [show s + (r + runF (rotF f s) c r) = s + f.length by omega, Nat.add_mod_right, Nat.mod_eq_of_lt hs]; exact hc
  have h1 : lenR f c (hereF f.length s r) ≤ runF (rotF f s) c r := Nat.le_of_not_lt fun h => hend (lenR_in h)
  have h2 : runF (rotF f s) c r ≤ lenR f c (hereF f.length s r) := Nat.le_of_not_lt fun h => lenR_end (f := f) (c := c) (i := hereF f.length s r) (by omega) (hin _ h)
  omega
theorem lenR_pos {f : List Bool} {c : Bool} {i : Nat} (hi : i < f.length) (h : f.getD i false = c) : 0 < lenR f c i := by
  have h0 : 0 < f.length := by omega
  have hlt := rotF_get (f := f) (s := i) h0
  rw [Nat.add_zero, Nat.mod_eq_of_lt hi, h] at hlt
  unfold lenR
  have hl := rotF_len f i
  cases hg : rotF f i with
  | nil => rw [hg] at hl; simp at hl; omega
  | cons x r =>
    rw [hg] at hlt
    simp only [List.getD_cons_zero] at hlt
    simp [tw, hlt]
/-- Where the floats of a side begin. -/
def sts (f : List Bool) (c : Bool) : List Nat := (List.range f.length).filter (stR f c)
theorem sts_mem {f : List Bool} {c : Bool} {i : Nat} : i ∈ sts f c ↔ i < f.length ∧ stR f c i = true := by
  unfold sts; rw [List.mem_filter, List.mem_range]
theorem sts_sorted (f : List Bool) (c : Bool) : (sts f c).Pairwise (· < ·) := List.Pairwise.filter _ List.pairwise_lt_range
theorem sts_len (f : List Bool) (c : Bool) : (sts f c).length ≤ f.length := by
  have := List.length_filter_le (stR f c) (List.range f.length); simpa [sts] using this
/-- .. as they are met, from a cell of the other side on. -/
def mets (f : List Bool) (c : Bool) (s i : Nat) : List Nat := (fnd (rotF f s) c i).map (hereF f.length s)
theorem mets_len (f : List Bool) (c : Bool) (s i : Nat) : (mets f c s i).length ≤ i := by
  unfold mets; rw [List.length_map]; exact fnd_len _ _ _
theorem mets_mem {f : List Bool} {c : Bool} {s : Nat} (hs : s < f.length) (hc : f.getD s false ≠ c) (i : Nat) : i ∈ mets f c s f.length ↔ i ∈ sts f c := by
  unfold mets fnd
  rw [List.mem_map, sts_mem]
  constructor
  · rintro ⟨r, hr, rfl⟩
    rw [List.mem_filter, List.mem_range] at hr
    exact ⟨here_lt (by omega), by rw [← st_same hs hc hr.1]; exact hr.2⟩
  · rintro ⟨h1, h2⟩
    refine ⟨thereF f.length s i, ?_, here_there hs h1⟩
    rw [List.mem_filter, List.mem_range]
    have h3 := there_lt (n := f.length) (s := s) (i := i) (by omega)
    exact ⟨h3, by rw [st_same hs hc h3, here_there hs h1]; exact h2⟩
theorem mets_nodup {f : List Bool} {c : Bool} {s : Nat} (hs : s < f.length) : (mets f c s f.length).Nodup := by
  unfold mets fnd
  refine List.pairwise_map.2 ?_
  have h0 : ((List.range f.length).filter fun r => stF (rotF f s) c r).Pairwise (fun a b => a ≠ b) := List.Pairwise.filter _ List.nodup_range
  refine List.Pairwise.imp_of_mem (fun {a b} ha hb hne he => hne ?_) h0
  rw [List.mem_filter, List.mem_range] at ha hb
  have h1 := there_here hs ha.1
  rw [he, there_here hs hb.1] at h1
  exact h1.symm
theorem nsinc_ext (a b : List Nat) (ha : a.Pairwise (· < ·)) (hb : b.Pairwise (· < ·)) (h : ∀ x, x ∈ a ↔ x ∈ b) : a = b := by
  have hm : a.map (fun n : Nat => (n : Int)) = b.map (fun n : Nat => (n : Int)) := by
    refine sinc_ext _ _ (List.pairwise_map.2 (ha.imp (fun h => by omega))) (List.pairwise_map.2 (hb.imp (fun h => by omega))) fun x => ?_
    rw [List.mem_map, List.mem_map]
    exact ⟨fun ⟨y, h1, h2⟩ => ⟨y, (h y).1 h1, h2⟩, fun ⟨y, h1, h2⟩ => ⟨y, (h y).2 h1, h2⟩⟩
  have := congrArg (List.map Int.toNat) hm
  simpa [List.map_map, Function.comp_def] using this
end Go.Proofs.YtgjjdcoeleddaaaDoor

/- Chapter 8: lists of floats as cells; one thread's floats, as an own object. -/
set_option linter.unusedSimpArgs false
set_option linter.unusedVariables false
set_option maxRecDepth 100000
namespace Go.Proofs.YtgjjdcoeleddaaaDoor
open Go Go.Proofs Go.AW

/-- A float. -/
structure Fl where
  w : Bool
  a : Nat
  f : Nat
  n : Nat
  z : Bool
/-- Its cells. -/
def flc (x : Fl) : List AVal := [B x.w, I x.a, I x.f, I x.n, B x.z]
def fls (l : List Fl) : List AVal := l.flatMap flc
theorem fls_nil : fls [] = [] := rfl
theorem fls_cons (x : Fl) (l : List Fl) : fls (x :: l) = flc x ++ fls l := rfl
theorem fls_app (a b : List Fl) : fls (a ++ b) = fls a ++ fls b := by simp [fls]
theorem fls_one1 (x : Fl) : fls [x] = flc x := by simp [fls]
theorem flc_length (x : Fl) : (flc x).length = 5 := rfl
theorem fls_length (l : List Fl) : (fls l).length = l.length * 5 := by
  induction l with
  | nil => rfl
  | cons x l ih => rw [fls_cons, List.length_append, ih, flc_length, List.length_cons]; omega
theorem fls_all (p : AVal → Prop) (hb : ∀ b : Bool, p (B b)) (hi : ∀ i : Int, p (I i)) (l : List Fl) : ∀ x ∈ fls l, p x := by
  intro x hx
  rw [fls, List.mem_flatMap] at hx
  obtain ⟨y, _, hy⟩ := hx
  simp only [flc, List.mem_cons, List.not_mem_nil, or_false] at hy
  rcases hy with rfl | rfl | rfl | rfl | rfl
  · exact hb _
  · exact hi _
  · exact hi _
  · exact hi _
  · exact hb _
theorem map_same {g : AVal → AVal} {l : List AVal} (h : ∀ x ∈ l, g x = x) : l.map g = l := by
  rw [List.map_congr_left (g := fun x => x) h, List.map_id']
theorem map_ren_fls (f : Nat → Option Nat) (n : Nat) (l : List Fl) : (fls l).map (ren f (n + 1)) = fls l := by
  exact map_same (fls_all _ (fun _ => rfl) (fun _ => rfl) l)
theorem fls_res (h : List AObj) (n : Nat) (l : List Fl) : (fls l).map (resOf h (n + 1)) = fls l := by
  exact map_same (fls_all _ (fun _ => rfl) (fun _ => rfl) l)
theorem fls_one (l : List Fl) : (fls l).all AVal.one = true := by
  rw [List.all_eq_true]; exact fls_all _ (fun _ => rfl) (fun _ => rfl) l
theorem fls_fresh (n : Nat) (l : List Fl) : (fls l).all (allFresh (n + 1)) = true := by
  rw [List.all_eq_true]; exact fls_all _ (fun _ => rfl) (fun _ => rfl) l
theorem fls_drop : ∀ {l : List Fl} {i : Nat} (h : i < l.length), (fls l).drop (i * 5) = flc l[i] ++ (fls l).drop ((i + 1) * 5)
  | x :: l, 0, _ => by
    rw [fls_cons]; simp [flc]
  | x :: l, i + 1, h => by
    have h' : i < l.length := by simpa using h
    have := fls_drop h'
    rw [fls_cons, show (i + 1) * 5 = i * 5 + 5 by omega, show (i + 1 + 1) * 5 = (i + 1) * 5 + 5 by omega]
    simpa [flc] using this
theorem cA_fls {t s n : Nat} {l : List Fl} (hn : l.length * 5 = n) : cA (some ⟨t, s, fls l⟩) n = some (fls l) := by simp [cA, fls_length, hn]
theorem ren_gwF (f : Nat → Option Nat) (n s k m : Nat) (hk : f k = some k) : ren f (n + 1) (gwW s k m) = gwW s k m := by
  unfold gwW
  split
  · simp [ren, hk]
  · simp [ren, hk]
theorem renO_goF (f : Nat → Option Nat) (n e s : Nat) (l : List Fl) : renO f (n + 1) (goW e s (fls l)) = goW e s (fls l) := by
  cases l with
  | nil => rfl
  | cons x r =>
    have := map_ren_fls f n (x :: r)
    simp only [fls_cons, flc, List.cons_append, goW, renO] at this ⊢
    rw [this]
theorem goF_pos {e s : Nat} {l : List Fl} (h : 0 < l.length) : goW e s (fls l) = ⟨e, s, fls l⟩ := by
  cases l with
  | nil => simp at h
  | cons x r => rfl
theorem gwW_pos {s k n : Nat} (h : 0 < n) : gwW s k n = .ref k 0 n (n * s) := by unfold gwW; rw [if_neg (by omega)]
section
variable {P : Program} {t e s nb : Nat} {h : List AObj}
/-- Several wide elements more. -/
theorem append_WW [S : SlW P t e s nb] {k n m : Nat} {x : AVal} {xs ys : List AVal} (ho : h[k]? = some (goW e s xs)) (hx : xs.length = n * s) (hv : sview h x = some (m, ys)) (hy : ys.length = m * s) (c5 : ys.all AVal.one = true) (c6 : (n + m) * nb ≤ 140737488355328) (c7 : n + m ≤ 140737488355328) :
    aAppend P t h (gwW s k n) x = some (gwW s k (n + m), h.set k (goW e s (xs ++ ys))) := by
  obtain ⟨T, E, hT, he, hE, hs, hb, hz, h0⟩ := S.ex
  have ht : ys.take (m * s) = ys := List.take_of_length_le (by omega)
  simp only [aAppend, hT, he, hE, hv, hs, hb, ht]
  rw [if_pos ⟨hy, c5, by omega, hz⟩]
  unfold gwW
  have hk : k < h.length := (List.getElem?_eq_some_iff.1 ho).1
  have hset : ∀ {o : AObj}, h[k]? = some o → h.set k o = h := fun {o} ho => by
    have := (List.getElem?_eq_some_iff.1 ho).2
    rw [← this]; exact List.set_getElem_self hk
  by_cases hn : n = 0
  · subst hn
    have hx0 : xs = [] := List.eq_nil_of_length_eq_zero (by simpa using hx)
    subst hx0
    rw [if_pos rfl, Nat.zero_add, List.nil_append]
    by_cases hm : m = 0
    · subst hm
      have hy0 : ys = [] := List.eq_nil_of_length_eq_zero (by simpa using hy)
      subst hy0
      simp only [if_pos]
      rw [hset ho]
    · simp only [if_neg hm, ho, goW]
      rw [if_pos ⟨trivial, by simpa using c6, by omega⟩]
      cases ys with
      | nil =>
        exfalso
        have : 0 < m * s := Nat.mul_pos (by omega) (by omega)
        simp at hy; omega
      | cons y yr => simp
  · rw [if_neg hn, if_neg (show ¬ n + m = 0 by omega)]
    cases xs with
    | nil =>
      exfalso
      have : 0 < n * s := Nat.mul_pos (by omega) (by omega)
      simp at hx; omega
    | cons x xr =>
      simp only [ho, goW, List.cons_append]
      rw [if_pos ⟨hx, trivial, trivial, trivial, c6, c7⟩]
end

theorem indexB_no {f : List Bool} {c : Bool} (hl : f.length ≤ 1000000) (h : ∀ i, i < f.length → f.getD i false = c) : Contract Tryd.prog 41 [BA false f, B (!c)] (I (-1)) := by
  refine Contract.intro (effS [] false) 6 follows Tryd.func41 rfl rfl (by kernel_rfl) (Nat.le_of_ble_eq_true rfl) ?_
  simp (disch := first | assumption | omega | rfl | simp only [RH]) only [↓RP, RG, FX, RQ, ↓reduceIte, Nat.reduceEqDiff, reduceCtorEq, Nat.reduceBEq, Nat.reduceAdd, Nat.reduceLeDiff, args0_2]
  refine loopK_I [0, 1, 7, 8] (fun i : Nat => i ≤ f.length) (fun i => ⟨[(0, BA false f), (1, B (!c)), (7, I f.length), (8, I i)], []⟩) (fun i => f.length - i) 0 (by omega) (by simp only [↓RP, RG, FX, RQ, ↓reduceIte, Nat.reduceEqDiff, reduceCtorEq, Nat.reduceBEq, Nat.reduceAdd, Nat.reduceLeDiff]; rfl) ?_
  intro i hi
  by_cases hlt : i < f.length
  · have hq := h i hlt
    have hq2 : ((!c) == f.getD i false) = false := by rw [hq]; cases c <;> rfl
    simp (disch := first | assumption | omega | rfl | simp only [RH]) only [↓RP, RG, FX, RQ, ↓reduceIte, Nat.reduceEqDiff, reduceCtorEq, Nat.reduceBEq, Nat.reduceAdd, Nat.reduceLeDiff, hq2, Int.toNat_natCast]
    exact ⟨i + 1, by omega, rfl, by omega⟩
  · obtain rfl : f.length = i := by omega
    simp (disch := first | assumption | omega | rfl | simp only [RH]) only [↓RP, RG, FX, RQ, ↓reduceIte, Nat.reduceEqDiff, reduceCtorEq, Nat.reduceBEq, Nat.reduceAdd, Nat.reduceLeDiff]
    rw [resVal_1 rfl]; simp (disch := first | assumption | omega | rfl | simp only [RH]) only [↓RP, RG, FX, RQ, ↓reduceIte, Nat.reduceEqDiff, reduceCtorEq, Nat.reduceBEq, Nat.reduceAdd, Nat.reduceLeDiff, RS]
theorem indexB_yes {f : List Bool} {c : Bool} {s : Nat} (hl : f.length ≤ 1000000) (hs : s < f.length) (hc : f.getD s false ≠ c) (h : ∀ i, i < s → f.getD i false = c) : Contract Tryd.prog 41 [BA false f, B (!c)] (I s) := by
  refine Contract.intro (effS [] false) 6 follows Tryd.func41 rfl rfl (by kernel_rfl) (Nat.le_of_ble_eq_true rfl) ?_
  simp (disch := first | assumption | omega | rfl | simp only [RH]) only [↓RP, RG, FX, RQ, ↓reduceIte, Nat.reduceEqDiff, reduceCtorEq, Nat.reduceBEq, Nat.reduceAdd, Nat.reduceLeDiff, args0_2]
  refine loopK_I [0, 1, 7, 8] (fun i : Nat => i ≤ s) (fun i => ⟨[(0, BA false f), (1, B (!c)), (7, I f.length), (8, I i)], []⟩) (fun i => f.length - i) 0 (by omega) (by simp only [↓RP, RG, FX, RQ, ↓reduceIte, Nat.reduceEqDiff, reduceCtorEq, Nat.reduceBEq, Nat.reduceAdd, Nat.reduceLeDiff]; rfl) ?_
  intro i hi
  by_cases hlt : i < s
  · have hq := h i hlt
    have hq2 : ((!c) == f.getD i false) = false := by rw [hq]; cases c <;> rfl
    simp (disch := first | assumption | omega | rfl | simp only [RH]) only [↓RP, RG, FX, RQ, ↓reduceIte, Nat.reduceEqDiff, reduceCtorEq, Nat.reduceBEq, Nat.reduceAdd, Nat.reduceLeDiff, hq2, Int.toNat_natCast]
    exact ⟨i + 1, by omega, rfl, by omega⟩
  · obtain rfl : s = i := by omega
    have hq2 : ((!c) == f.getD s false) = true := by
      cases h1 : f.getD s false <;> cases c <;> simp_all
    simp (disch := first | assumption | omega | rfl | simp only [RH]) only [↓RP, RG, FX, RQ, ↓reduceIte, Nat.reduceEqDiff, reduceCtorEq, Nat.reduceBEq, Nat.reduceAdd, Nat.reduceLeDiff, hq2, Int.toNat_natCast]
    rw [resVal_1 rfl]; simp (disch := first | assumption | omega | rfl | simp only [RH]) only [↓RP, RG, FX, RQ, ↓reduceIte, Nat.reduceEqDiff, reduceCtorEq, Nat.reduceBEq, Nat.reduceAdd, Nat.reduceLeDiff, RS]
/-- A thread and a side, in two variables of their own. -/
theorem floats_s (w c : Bool) (a k n : Nat) (h : List AObj) : SpecTo Tryd.prog 34 [.agg [B w, I a, .ref k 0 n n], B c] h (.func (.func 40) [] [.ptr h.length 0 3, .ptr (h.length + 1) 0 1]) (h ++ [⟨57, 3, [B w, I a, .ref k 0 n n]⟩, ⟨4, 1, [B c]⟩]) := by
  refine SpecTo.intro (effS [] false) follows Tryd.func34 rfl rfl (by kernel_rfl) (Nat.le_of_ble_eq_true rfl) ?_
  simp (disch := first | assumption | omega | rfl | simp only [RH]) only [↓RP, RG, FX, RQ, ↓reduceIte, Nat.reduceEqDiff, reduceCtorEq, Nat.reduceBEq, Nat.reduceAdd, Nat.reduceLeDiff, args0_2, parts_agg]
  refine ⟨_, by rw [resVal_1 rfl]; simp (disch := first | assumption | omega | rfl | simp only [RH]) only [↓RP, RG, FX, RQ, ↓reduceIte, Nat.reduceEqDiff, reduceCtorEq, Nat.reduceBEq, Nat.reduceAdd, Nat.reduceLeDiff, raX_tmp, raX_cell, rvX_0, rvX_1, rvX_2, rvX_3, rvX_4, rvX_5]; rfl, Wk.of_eq ?_⟩
  first | rfl | simp
end Go.Proofs.YtgjjdcoeleddaaaDoor

/- Chapter 8: floats of a thread, as a list. -/
set_option linter.unusedSimpArgs false
set_option linter.unusedVariables false
set_option maxRecDepth 100000
namespace Go.Proofs.YtgjjdcoeleddaaaDoor
open Go Go.Proofs Go.AW

def flI (w : Bool) (a : Nat) (f : List Bool) (c : Bool) (i : Nat) : Fl := ⟨w, a, i, lenR f c i, false⟩
def flW (w : Bool) (a : Nat) (f : List Bool) : Fl := ⟨w, a, 0, f.length, true⟩
def flA (x : Fl) : AVal := .agg (flc x)
def flD (l : List Fl) (j : Nat) : Fl := l.getD j ⟨false, 0, 0, 0, false⟩
/-- As they are found, as they are listed. -/
def mtF (w : Bool) (a : Nat) (f : List Bool) (c : Bool) (s i : Nat) : List Fl := (mets f c s i).map (flI w a f c)
def stL (w : Bool) (a : Nat) (f : List Bool) (c : Bool) : List Fl := (sts f c).map (flI w a f c)
theorem mtF_len (w : Bool) (a : Nat) (f : List Bool) (c : Bool) (s i : Nat) : (mtF w a f c s i).length = (mets f c s i).length := by simp [mtF]
theorem stL_len (w : Bool) (a : Nat) (f : List Bool) (c : Bool) : (stL w a f c).length = (sts f c).length := by simp [stL]
theorem flD_get {l : List Fl} {j : Nat} (h : j < l.length) : flD l j = l[j] := by simp [flD, h]
theorem pX_fls {l : List Fl} {j : Nat} (h : j < l.length) : pX (some (true, 5)) ((fls l).drop (j * 5)) = some (.agg (flc (flD l j))) := by
  rw [fls_drop h, flD_get h, pX_agg, if_pos (by simp [flc])]
  rfl
theorem mets_1 (f : List Bool) (c : Bool) (s : Nat) : mets f c s 1 = [] := by
  have : stF (rotF f s) c 0 = false := by simp [stF]
  simp [mets, fnd, List.range_succ, this]
theorem mets_no {f : List Bool} {c : Bool} {s i : Nat} (h : (rotF f s).getD i false ≠ c) : mets f c s (i + 1) = mets f c s i := by
  unfold mets
  rw [fnd_no]
  cases hs : stF (rotF f s) c i with
  | false => rfl
  | true => exact absurd (stF_iff.1 hs).2.2.1 h
theorem mets_run {f : List Bool} {c : Bool} {s i : Nat} (h : stF (rotF f s) c i = true) : mets f c s (i + runF (rotF f s) c i + 1) = mets f c s i ++ [hereF f.length s i] := by
  unfold mets; rw [fnd_run h]; simp
theorem mets_over {f : List Bool} {c : Bool} {s i : Nat} (h : f.length ≤ i) : mets f c s i = mets f c s f.length := by
  unfold mets; rw [fnd_over (by rw [rotF_len]; exact h), rotF_len]
end Go.Proofs.YtgjjdcoeleddaaaDoor

/- The library's sort by a function, as this program bears it. -/
set_option linter.unusedVariables false
namespace Go.Proofs
open Go.Shelf
def Tryd.sortF_ren : Go.Shelf.Ren := ⟨fun | 6 => 42 | 15 => 54 | 14 => 53 | 28 => 71 | 29 => 72 | 20 => 63 | 21 => 64 | 22 => 65 | 23 => 66 | 24 => 67 | 25 => 68 | 26 => 69 | 27 => 70 | 46 => 79 | 47 => 80 | 48 => 81 | 49 => 82 | 50 => 83 | 57 => 90 | n => n, fun | 22 => 29 | 24 => 34 | 25 => 74 | 3 => 3 | 39 => 85 | 0 => 0 | 53 => 102 | 55 => 104 | 4 => 4 | 46 => 95 | 45 => 94 | 50 => 99 | 5 => 5 | 9 => 9 | 66 => 108 | 70 => 112 | 76 => 120 | 77 => 121 | n => n, fun | n => n⟩
theorem Tryd.sortF : Go.Proofs.SlLaysF0.n6 Tryd.prog Tryd.sortF_ren := {
  mixed := by kernel_rfl
  f6 := ⟨Tryd.f42.name, by decide, Tryd.func42.trans (congrArg some (by kernel_rfl))⟩
  f14 := ⟨Tryd.f53.name, by decide, Tryd.func53.trans (congrArg some (by kernel_rfl))⟩
  f15 := Tryd.func54.trans (congrArg some (by kernel_rfl))
  f20 := ⟨Tryd.f63.name, by decide, Tryd.func63.trans (congrArg some (by kernel_rfl))⟩
  f21 := ⟨Tryd.f64.name, by decide, Tryd.func64.trans (congrArg some (by kernel_rfl))⟩
  f22 := ⟨Tryd.f65.name, by decide, Tryd.func65.trans (congrArg some (by kernel_rfl))⟩
  f23 := ⟨Tryd.f66.name, by decide, Tryd.func66.trans (congrArg some (by kernel_rfl))⟩
  f24 := ⟨Tryd.f67.name, by decide, Tryd.func67.trans (congrArg some (by kernel_rfl))⟩
  f25 := ⟨Tryd.f68.name, by decide, Tryd.func68.trans (congrArg some (by kernel_rfl))⟩
  f26 := ⟨Tryd.f69.name, by decide, Tryd.func69.trans (congrArg some (by kernel_rfl))⟩
  f27 := ⟨Tryd.f70.name, by decide, Tryd.func70.trans (congrArg some (by kernel_rfl))⟩
  f28 := Tryd.func71.trans (congrArg some (by kernel_rfl))
  f29 := Tryd.func72.trans (congrArg some (by kernel_rfl))
  f46 := ⟨Tryd.f79.name, by decide, Tryd.func79.trans (congrArg some (by kernel_rfl))⟩
  f47 := Tryd.func80.trans (congrArg some (by kernel_rfl))
  f48 := Tryd.func81.trans (congrArg some (by kernel_rfl))
  f49 := ⟨Tryd.f82.name, by decide, Tryd.func82.trans (congrArg some (by kernel_rfl))⟩
  f50 := ⟨Tryd.f83.name, by decide, Tryd.func83.trans (congrArg some (by kernel_rfl))⟩
  f57 := ⟨Tryd.f90.name, by decide, Tryd.func90.trans (congrArg some (by kernel_rfl))⟩
  t0 := Tryd.underlying0
  a0 := Tryd.isAgg0
  z0 := Tryd.sizeOf0
  v0 := Tryd.zeroValue0
  t3 := Tryd.underlying3
  a3 := Tryd.isAgg3
  z3 := Tryd.sizeOf3
  v3 := Tryd.zeroValue3
  t4 := Tryd.underlying4
  a4 := Tryd.isAgg4
  z4 := Tryd.sizeOf4
  v4 := Tryd.zeroValue4
  t5 := Tryd.underlying5
  a5 := Tryd.isAgg5
  z5 := Tryd.sizeOf5
  v5 := Tryd.zeroValue5
  t9 := Tryd.underlying9
  a9 := Tryd.isAgg9
  z9 := Tryd.sizeOf9
  v9 := Tryd.zeroValue9
  t22 := Tryd.underlying29
  a22 := Tryd.isAgg29
  z22 := Tryd.sizeOf29
  v22 := Tryd.zeroValue29
  t25 := Tryd.underlying74
  a25 := Tryd.isAgg74
  z25 := Tryd.sizeOf74
  v25 := Tryd.zeroValue74
  t39 := Tryd.underlying85
  a39 := Tryd.isAgg85
  z39 := Tryd.sizeOf85
  v39 := Tryd.zeroValue85
  t45 := Tryd.underlying94
  a45 := Tryd.isAgg94
  z45 := Tryd.sizeOf94
  v45 := Tryd.zeroValue94
  t46 := Tryd.underlying95
  a46 := Tryd.isAgg95
  z46 := Tryd.sizeOf95
  v46 := Tryd.zeroValue95
  t50 := Tryd.underlying99
  a50 := Tryd.isAgg99
  z50 := Tryd.sizeOf99
  v50 := Tryd.zeroValue99
  t53 := Tryd.underlying102
  a53 := Tryd.isAgg102
  z53 := Tryd.sizeOf102
  v53 := Tryd.zeroValue102
  t55 := Tryd.underlying104
  a55 := Tryd.isAgg104
  z55 := Tryd.sizeOf104
  v55 := Tryd.zeroValue104
  t66 := Tryd.underlying108
  a66 := Tryd.isAgg108
  z66 := Tryd.sizeOf108
  v66 := Tryd.zeroValue108
  t70 := Tryd.underlying112
  a70 := Tryd.isAgg112
  z70 := Tryd.sizeOf112
  v70 := Tryd.zeroValue112
  t76 := Tryd.underlying120
  a76 := Tryd.isAgg120
  z76 := Tryd.sizeOf120
  v76 := Tryd.zeroValue120
  t77 := Tryd.underlying121
  a77 := Tryd.isAgg121
  z77 := Tryd.sizeOf121
  v77 := Tryd.zeroValue121 }
end Go.Proofs

/- Chapter 8: the library's sort of floats. -/
set_option linter.unusedSimpArgs false
set_option linter.unusedVariables false
set_option maxRecDepth 100000
namespace Go.Proofs.YtgjjdcoeleddaaaDoor
open Go Go.Proofs Go.AW

section
open Go.Sort Go.Shelf
/-- The cells of the float that begins at x. -/
def encF (w : Bool) (a : Nat) (f : List Bool) (c : Bool) (x : Fin 1000) : List Value := [.bool w, .int .i64 a, .int .i64 (x.val : Nat), .int .i64 (lenR f c x.val : Nat), .bool false]
def cfF (x y : Fin 1000) : Int := (x.val : Int) - (y.val : Int)
theorem ltF (x y : Fin 1000) : ltOf cfF x y = decide (x.val < y.val) := by
  unfold ltOf cfF
  rw [Bool.eq_iff_iff]; simp; omega
theorem swoF : SWO (ltOf cfF) where
  irrefl x := by rw [ltF]; simp
  trans x y z h1 h2 := by rw [ltF] at *; simp at *; omega
  ntrans x y z h1 h2 := by rw [ltF] at *; simp at *; omega
theorem closF (w c : Bool) (a : Nat) (f : List Bool) (x y : Fin 1000) (W : World) : Calls Tryd.prog 43 #[.agg (encF w a f c x).toArray, .agg (encF w a f c y).toArray] W fun e w' => e = .returned (.int .i64 (cfF x y)) ∧ ∃ q os', w' = grow (W.drewN q) os' := by
  have hx := x.isLt
  have hy := y.isLt
  have hwr : IntKind.i64.wrap ((x.val : Int) - (y.val : Int)) = (x.val : Int) - (y.val : Int) := by simp [IntKind.wrap, IntKind.bits, IntKind.signed]; omega
  unfold encF cfF
  generalize (x.val : Int) = x0 at *
  generalize (y.val : Int) = y0 at *
  generalize ((lenR f c x.val : Nat) : Int) = n1
  generalize ((lenR f c y.val : Nat) : Int) = n2
  go_enter Tryd.func43, Tryd.ntmps43
  go_wp2
  go_ret
  exact ⟨rfl, 0, _, by rw [alloc_eq_grow, alloc_eq_grow, grow_grow]; rfl⟩
/-- The row's cells, one by one. -/
theorem fls_get : ∀ (l : List Fl) (t : Nat), t < l.length * 5 → (fls l)[t]? = (flc (flD l (t / 5)))[t % 5]?
  | [], t, h => by simp at h
  | x :: l, t, h => by
    by_cases ht : t < 5
    · have e1 : t / 5 = 0 := by omega
      have e2 : t % 5 = t := by omega
      rw [e1, e2, fls_cons, List.getElem?_append_left (by rw [flc_length]; exact ht)]
      rfl
    · have e1 : t / 5 = (t - 5) / 5 + 1 := by omega
      have e2 : t % 5 = (t - 5) % 5 := by omega
      have ih := fls_get l (t - 5) (by rw [List.length_cons] at h; omega)
      rw [e1, e2, fls_cons, List.getElem?_append_right (by rw [flc_length]; omega), flc_length, ih]
      rfl
theorem flat_fls (w c : Bool) (a : Nat) (f : List Bool) (d : Array (Fin 1000)) : vcells (flatK (encF w a f c) 5 d).toList = fls (d.toList.map fun x => flI w a f c x.val) := by
  refine List.ext_getElem? fun t => ?_
  by_cases ht : t < d.size * 5
  · rw [fls_get _ t (by simpa using ht)]
    have hd : t / 5 < d.size := by omega
    have hm : t % 5 < 5 := Nat.mod_lt _ (by omega)
    have h1 : (flatK (encF w a f c) 5 d)[t]? = some ((encF w a f c d[t / 5]!)[t % 5]!) := by
      rw [← get_flatK _ _ _ t ht, Array.getElem?_eq_getElem (by rw [size_flatK]; exact ht), getElem!_pos _ t (by rw [size_flatK]; exact ht)]
    simp only [vcells, List.getElem?_map, Array.getElem?_toList, h1, Option.map_some]
    have h2 : flD (d.toList.map fun x => flI w a f c x.val) (t / 5) = flI w a f c (d[t / 5]!).val := by
      rw [flD_get (by simpa using hd)]
      simp [hd]
    rw [h2]
    generalize d[t / 5]! = x
    match t % 5, hm with
    | 0, _ => rfl
    | 1, _ => rfl
    | 2, _ => rfl
    | 3, _ => rfl
    | 4, _ => rfl
  · rw [List.getElem?_eq_none (by simp; omega), List.getElem?_eq_none (by rw [fls_length]; simp; omega)]
theorem sortedF_is {d d' : Array (Fin 1000)} {l : List Nat} (hn : (d.toList.map Fin.val).Nodup) (hm : ∀ x, x ∈ d.toList.map Fin.val ↔ x ∈ l) (hl : l.Pairwise (· < ·)) (hp : PermIn 0 d.size d d') (hs : SortedIn (ltOf cfF) 0 d.size d') : d'.toList.map Fin.val = l := by
  obtain ⟨h1, _, h2⟩ := hp
  have h3 : d'.toList.Perm d.toList := by
    have e1 : d'.extract 0 d.size = d' := by rw [← h1]; simp
    have e2 : d.extract 0 d.size = d := by simp
    rwa [e1, e2] at h2
  have h4 := h3.map Fin.val
  refine nsinc_ext _ _ ?_ hl fun x => (h4.mem_iff).trans (hm x)
  have hn' := h4.nodup_iff.2 hn
  rw [List.pairwise_iff_getElem]
  intro i j hi hj hij
  have hi0 : i < d'.size := by simpa using hi
  have hj0 : j < d'.size := by simpa using hj
  have := hs i j (Nat.zero_le _) hij (by omega)
  rw [ltF, getElem!_pos d' j hj0, getElem!_pos d' i hi0] at this
  have hge : ¬ (d'[j]).val < (d'[i]).val := by simpa using this
  have hne := (List.pairwise_iff_getElem.1 hn') i j hi hj hij
  simp only [List.getElem_map, Array.getElem_toList] at hne ⊢
  omega
end
theorem sortF_s (w c : Bool) (a : Nat) {f : List Bool} {s : Nat} (hs : s < f.length) (hl : f.length ≤ 1000) (hc : f.getD s false ≠ c) {h : List AObj} {id : Nat} (ho : h[id]? = some ⟨34, 5, fls (mtF w a f c s f.length)⟩) (h0 : 0 < (sts f c).length) :
    SpecTo Tryd.prog 42 [.ref id 0 (sts f c).length ((sts f c).length * 5), .func (.func 43) [] []] h (.tuple []) (h.set id ⟨34, 5, fls (stL w a f c)⟩) := by
  have hnd := mets_nodup (f := f) (c := c) (s := s) hs
  have hnd2 : (sts f c).Nodup := (sts_sorted f c).imp (fun h => by omega)
  have hmem := mets_mem (f := f) (c := c) hs hc
  have hlen : (mets f c s f.length).length = (sts f c).length := ((List.perm_ext_iff_of_nodup hnd hnd2).2 hmem).length_eq
  have hlt : ∀ x ∈ mets f c s f.length, x < 1000 := fun x hx => by have := (sts_mem.1 ((hmem x).1 hx)).1; omega
  obtain ⟨d, hd⟩ : ∃ d : Array (Fin 1000), d.toList.map Fin.val = mets f c s f.length := by
    refine ⟨((mets f c s f.length).pmap (fun x h => ⟨x, h⟩) hlt).toArray, ?_⟩
    simp [List.map_pmap]
  have hsz : d.size = (sts f c).length := by rw [← hlen, ← hd]; simp
  have hv1 : vcells (Go.Sort.flatK (encF w a f c) 5 d).toList = fls (mtF w a f c s f.length) := by
    rw [flat_fls, mtF, ← hd, List.map_map]; rfl
  obtain ⟨d2, hd2⟩ : ∃ d : Array (Fin 1000), d.toList.map Fin.val = sts f c := by
    refine ⟨((sts f c).pmap (fun x h => ⟨x, h⟩) (fun x hx => (by have := (sts_mem.1 hx).1; omega : x < 1000))).toArray, ?_⟩
    simp [List.map_pmap]
  have hv2 : vcells (Go.Sort.flatK (encF w a f c) 5 d2).toList = fls (stL w a f c) := by
    rw [flat_fls, stL, ← hd2, List.map_map]; rfl
  have hsz2 : d2.size = (sts f c).length := by rw [← hd2]; simp
  rw [← hv1] at ho
  rw [← hv2]
  refine SpecTo.rowV (by kernel_rfl) ho (by decide) (by decide) (by simp [hsz, hsz2]) (by simp [hsz]) fun blk cap wd hb hH hcap => ?_
  have eg : ∀ args w, (callFunc 43 args).run Tryd.prog w = .ok (.enter 43 args) w := enters_of Tryd.func43 (by kernel_rfl) rfl
  have hcon := AnyQ.slices_SortFunc Tryd.sortF 5 Tryd.isAgg34 Tryd.sizeOf34 (encF w a f c) (fun _ => rfl) (fun x v hv => by simp [encF] at hv; rcases hv with rfl | rfl | rfl | rfl | rfl <;> rfl) cfF swoF 43 #[] blk 0 cap d wd eg (fun m os dk hs x y => by simpa using closF w c a f x y _) (by simpa [Go.Sort.HoldsK] using hH) hb (by rw [hsz]; have := sts_len f c; omega)
  rw [hsz] at hcon
  refine hcon.mono ?_
  rintro e w' ⟨h1, d', n, os, hp, hso, rfl⟩
  have hd' : d'.toList.map Fin.val = sts f c := sortedF_is (by rw [hd]; exact hnd) (fun x => by rw [hd]; exact hmem x) (sts_sorted f c) (by rw [hsz]; exact hp) (by rw [hsz]; exact hso)
  have : d' = d2 := by
    have h2 : d'.toList = d2.toList := (List.map_inj_right (f := Fin.val) (fun x y h => Fin.ext h)).1 (hd'.trans hd2.symm)
    exact Array.toList_inj.1 h2
  subst this
  exact ⟨h1, n, os, by simp [sortWorldK, Go.Sort.putRowK]⟩
theorem bindK_by {α : Type} {o : Option α} {K : α → Prop} (v : α) (h : o = some v) (hK : K v) : @bindK _ o ⟨K⟩ := by subst h; exact hK
theorem insF_nil (g : Nat) : Contract Tryd.prog 63 [.list false true 0 [], I 0, I 0, .func (.func g) [] []] (.tuple []) := by
  refine Contract.intro (effS [] false) 6 follows Tryd.func63 rfl rfl (by kernel_rfl) (Nat.le_of_ble_eq_true rfl) ?_
  simp (disch := first | assumption | omega | rfl | simp only [RH]) only [↓RP, RG, FX, RQ, ↓reduceIte, Nat.reduceEqDiff, reduceCtorEq, Nat.reduceBEq, Nat.reduceAdd, Nat.reduceLeDiff, args0_4]
  refine loopK_now ?_
  simp (disch := first | assumption | omega | rfl | simp only [RH]) only [↓RP, RG, FX, RQ, ↓reduceIte, Nat.reduceEqDiff, reduceCtorEq, Nat.reduceBEq, Nat.reduceAdd, Nat.reduceLeDiff]
  rw [resVal_0 rfl]; simp (disch := first | assumption | omega | rfl | simp only [RH]) only [↓RP, RG, FX, RQ, ↓reduceIte, Nat.reduceEqDiff, reduceCtorEq, Nat.reduceBEq, Nat.reduceAdd, Nat.reduceLeDiff, RS]
theorem pdqF_nil (g : Nat) : Contract Tryd.prog 53 [.list false true 0 [], I 0, I 0, I 0, .func (.func g) [] []] (.tuple []) := by
  refine Contract.intro (effS [] false) 6 follows Tryd.func53 rfl rfl (by kernel_rfl) (Nat.le_of_ble_eq_true rfl) ?_
  simp (disch := first | assumption | omega | rfl | simp only [RH]) only [↓RP, RG, FX, RQ, ↓reduceIte, Nat.reduceEqDiff, reduceCtorEq, Nat.reduceBEq, Nat.reduceAdd, Nat.reduceLeDiff, args0_5]
  refine loopK_now ?_
  simp (disch := first | assumption | omega | rfl | simp only [RH]) only [↓RP, RG, FX, RQ, ↓reduceIte, Nat.reduceEqDiff, reduceCtorEq, Nat.reduceBEq, Nat.reduceAdd, Nat.reduceLeDiff]
  refine callK_F 6 (insF_nil g) (by simp (disch := first | assumption | omega | rfl | simp only [RH]) only [↓RP, RG, FX, RQ, ↓reduceIte, Nat.reduceEqDiff, reduceCtorEq, Nat.reduceBEq, Nat.reduceAdd, Nat.reduceLeDiff, RA] <;> rfl) (.inl (by simp [allFresh, ints_fresh, bools_fresh])) ?_
  simp (disch := first | assumption | omega | rfl | simp only [RH]) only [↓RP, RG, FX, RQ, ↓reduceIte, Nat.reduceEqDiff, reduceCtorEq, Nat.reduceBEq, Nat.reduceAdd, Nat.reduceLeDiff]
  rw [resVal_0 rfl]; simp (disch := first | assumption | omega | rfl | simp only [RH]) only [↓RP, RG, FX, RQ, ↓reduceIte, Nat.reduceEqDiff, reduceCtorEq, Nat.reduceBEq, Nat.reduceAdd, Nat.reduceLeDiff, RS]
theorem lenB_0 : Contract Tryd.prog 54 [.val (.int .u64 0)] (I 0) := by
  refine ⟨by kernel_rfl, fun w ok vs hok ht hs hrel => ?_⟩
  have h0 := hrel 0 (by simp)
  have hvs : vs = #[.int .u64 0] := by
    apply Array.ext
    · simpa using hs
    · intro j h1 h2
      obtain rfl : j = 0 := by simp at h2; omega
      have h3 := rel_val (show VRel ok (fun _ => False) w (fun _ => (0, 0)) (fun _ => none) (.val (.int .u64 0)) (vs.getD 0 undef) from h0)
      simp only [Array.getD_eq_getD_getElem?, Array.getElem?_eq_getElem h1, Option.getD_some] at h3
      rw [h3]; rfl
  rw [hvs]
  have h := Go.Proofs.Any.bits_Len (Go.Proofs.SlLaysF0.n15.bits (P := Tryd.prog) (ρ := Tryd.sortF_ren) { Tryd.sortF with }) 0 w (by omega) (by omega)
  refine h.mono ?_
  rintro e w' ⟨rfl, rfl⟩
  exact ⟨_, rfl, .val _, .refl _ _⟩
theorem sortF_nil (g : Nat) : Contract Tryd.prog 42 [.list false true 0 [], .func (.func g) [] []] (.tuple []) := by
  refine Contract.intro (effS [] false) 6 follows Tryd.func42 rfl rfl (by kernel_rfl) (Nat.le_of_ble_eq_true rfl) ?_
  simp (disch := first | assumption | omega | rfl | simp only [RH]) only [↓RP, RG, FX, RQ, ↓reduceIte, Nat.reduceEqDiff, reduceCtorEq, Nat.reduceBEq, Nat.reduceAdd, Nat.reduceLeDiff, args0_2]
  refine bindK_by (.val (.int .u64 0)) (by kernel_rfl) ?_
  simp (disch := first | assumption | omega | rfl | simp only [RH]) only [↓RP, RG, FX, RQ, ↓reduceIte, Nat.reduceEqDiff, reduceCtorEq, Nat.reduceBEq, Nat.reduceAdd, Nat.reduceLeDiff]
  refine callK_F 6 (lenB_0) (by simp (disch := first | assumption | omega | rfl | simp only [RH]) only [↓RP, RG, FX, RQ, ↓reduceIte, Nat.reduceEqDiff, reduceCtorEq, Nat.reduceBEq, Nat.reduceAdd, Nat.reduceLeDiff, RA] <;> rfl) (.inl (by simp [allFresh, ints_fresh, bools_fresh])) ?_
  simp (disch := first | assumption | omega | rfl | simp only [RH]) only [↓RP, RG, FX, RQ, ↓reduceIte, Nat.reduceEqDiff, reduceCtorEq, Nat.reduceBEq, Nat.reduceAdd, Nat.reduceLeDiff]
  refine callK_F 6 (pdqF_nil g) (by simp (disch := first | assumption | omega | rfl | simp only [RH]) only [↓RP, RG, FX, RQ, ↓reduceIte, Nat.reduceEqDiff, reduceCtorEq, Nat.reduceBEq, Nat.reduceAdd, Nat.reduceLeDiff, RA] <;> rfl) (.inl (by simp [allFresh, ints_fresh, bools_fresh])) ?_
  simp (disch := first | assumption | omega | rfl | simp only [RH]) only [↓RP, RG, FX, RQ, ↓reduceIte, Nat.reduceEqDiff, reduceCtorEq, Nat.reduceBEq, Nat.reduceAdd, Nat.reduceLeDiff]
  rw [resVal_0 rfl]; simp (disch := first | assumption | omega | rfl | simp only [RH]) only [↓RP, RG, FX, RQ, ↓reduceIte, Nat.reduceEqDiff, reduceCtorEq, Nat.reduceBEq, Nat.reduceAdd, Nat.reduceLeDiff, RS]
end Go.Proofs.YtgjjdcoeleddaaaDoor

/- Chapter 8: the floats of one side of a thread, yielded. -/
set_option linter.unusedSimpArgs false
set_option linter.unusedVariables false
set_option maxRecDepth 100000
namespace Go.Proofs.YtgjjdcoeleddaaaDoor
open Go Go.Proofs Go.AW

/-- The objects name no others than these, whatever is kept of others. -/
def ShutA (m : Nat) (h : List AObj) : Prop := h.length = m ∧ ∀ o ∈ h, ∀ x ∈ o.cells, ∀ ks, ren (keepF m ks) 8 x = x
theorem ShutA.shut {m : Nat} {h : List AObj} (hs : ShutA m h) : Shut m h := ⟨hs.1, fun o ho x hx => hs.2 o ho x hx []⟩
theorem rem_nat {x n : Nat} (hn : 0 < n) (hn2 : n ≤ 1000000000) : aInt .rem .i64 (x : Int) (n : Int) = some (I (x % n : Nat)) := by
  have : (n : Int) ≠ 0 := by omega
  have hx : (x : Int).tmod n = ((x % n : Nat) : Int) := by rw [Int.tmod_eq_emod_of_nonneg (by omega)]; exact (Int.natCast_emod x n).symm
  simp only [aInt]; rw [if_neg (by omega), hx]
section
variable {f : List Bool} {n : Nat} (hn : f.length = n) (h0 : 0 < n) (hn2 : n ≤ 1000) (w c : Bool) (a m k p1 p2 : Nat) (hs ex : Nat → List AObj)
include hn h0 hn2
theorem floatsY_w (hsh : ∀ j, j ≤ 1 → ShutA m (hs j)) (hc : ∀ i, i < n → f.getD i false = c) (q1 : (hs 0)[p1]? = some ⟨57, 3, [B w, I a, .ref k 0 n n]⟩) (q2 : (hs 0)[p2]? = some ⟨4, 1, [B c]⟩) (q3 : (hs 0)[k]? = some ⟨4, 1, bools f⟩) :
    SpecY Tryd.prog 40 (stepsO 1 hs (fun _ => []) ex (fun j => flA (flD [flW w a f] j))) [.ptr p1 0 3, .ptr p2 0 1] (hs 0) (hs 1) := by
  have hm0 : (hs 0).length = m := (hsh 0 (by omega)).1
  have hm1 : (hs 1).length = m := (hsh 1 (by omega)).1
  have hix := indexB_no (c := c) (show f.length ≤ 1000000 by omega) (by rw [hn]; exact hc)
  refine SpecY.intro (effS [] false) follows Tryd.func40 rfl rfl (by kernel_rfl) (Nat.le_of_ble_eq_true rfl) rfl (fun yv => ?_)
  have q4 : cA (hs 0)[k]? n = some (bools f) := by rw [q3, cA_bools hn]
  simp (disch := first | assumption | omega | rfl | simp only [RH]) only [↓RP, RG, FX, RQ, ↓reduceIte, Nat.reduceEqDiff, reduceCtorEq, Nat.reduceBEq, Nat.reduceAdd, Nat.reduceLeDiff, args0_3, q1, q2, q4]
  refine callK_F 6 hix (by simp (disch := first | assumption | omega | rfl | simp only [RH]) only [↓RP, RG, FX, RQ, ↓reduceIte, Nat.reduceEqDiff, reduceCtorEq, Nat.reduceBEq, Nat.reduceAdd, Nat.reduceLeDiff, RA, q1, q2, q3, aX_bools hn.symm hn.symm] <;> rfl) (.inl rfl) ?_
  simp (disch := first | assumption | omega | rfl | simp only [RH]) only [↓RP, RG, FX, RQ, ↓reduceIte, Nat.reduceEqDiff, reduceCtorEq, Nat.reduceBEq, Nat.reduceAdd, Nat.reduceLeDiff, q1, q2]
  refine callK_Y rfl (stepsO_at 0 (by omega) (by show _ = flA (flW w a f); unfold flA flW flc; rw [hn]; rfl) (by simp) rfl) ?_
  simp (disch := first | assumption | omega | rfl | simp only [RH]) only [↓RP, RG, FX, RQ, ↓reduceIte, Nat.reduceEqDiff, reduceCtorEq, Nat.reduceBEq, Nat.reduceAdd, Nat.reduceLeDiff]
  have := Wk.shut (hb := hs 0) (h1 := hs 1) (gs := [] ++ ex 0) (env := []) (by omega) (by rw [hm0]; exact (hsh 1 (by omega)).shut)
  simpa using this
/-- The floats that are found, and one's own variable. -/
def owF (w : Bool) (a : Nat) (f : List Bool) (c : Bool) (j : Nat) : List AObj := [goW 34 5 (fls (stL w a f c)), ⟨34, 5, flc (flD (stL w a f c) j)⟩]
theorem floatsY_s {s : Nat} (hk : k < m) (hp1 : p1 < m) (hp2 : p2 < m) (hsn : s < n) (hcs : f.getD s false ≠ c) (hcf : ∀ i, i < s → f.getD i false = c) (hsh : ∀ j, j ≤ (sts f c).length → ShutA m (hs j)) (q1 : (hs 0)[p1]? = some ⟨57, 3, [B w, I a, .ref k 0 n n]⟩) (q2 : (hs 0)[p2]? = some ⟨4, 1, [B c]⟩) (q3 : (hs 0)[k]? = some ⟨4, 1, bools f⟩) :
    SpecY Tryd.prog 40 (stepsO (sts f c).length hs (owF w a f c) ex (fun j => flA (flD (stL w a f c) j))) [.ptr p1 0 3, .ptr p2 0 1] (hs 0) (hs (sts f c).length) := by
  have hm : ∀ j, j ≤ (sts f c).length → (hs j).length = m := fun j hj => (hsh j hj).1
  have hm0 : (hs 0).length = m := hm 0 (by omega)
  have hix := indexB_yes (show f.length ≤ 1000000 by omega) (by rw [hn]; exact hsn) hcs hcf
  have hmi : ∀ i, (mets f c s i).length ≤ i := fun i => mets_len f c s i
  have hrl : (rotF f s).length = n := by rw [rotF_len, hn]
  refine SpecY.intro (effS [] false) follows Tryd.func40 rfl rfl (by kernel_rfl) (Nat.le_of_ble_eq_true rfl) rfl (fun yv => ?_)
  have q4 : cA (hs 0)[k]? n = some (bools f) := by rw [q3, cA_bools hn]
  simp (disch := first | assumption | omega | rfl | simp only [RH]) only [↓RP, RG, FX, RQ, ↓reduceIte, Nat.reduceEqDiff, reduceCtorEq, Nat.reduceBEq, Nat.reduceAdd, Nat.reduceLeDiff, args0_3, q1, q2, q4]
  refine callK_F 6 hix (by simp (disch := first | assumption | omega | rfl | simp only [RH]) only [↓RP, RG, FX, RQ, ↓reduceIte, Nat.reduceEqDiff, reduceCtorEq, Nat.reduceBEq, Nat.reduceAdd, Nat.reduceLeDiff, RA, q1, q2, q3, aX_bools hn.symm hn.symm] <;> rfl) (.inl rfl) ?_
  simp (disch := first | assumption | omega | rfl | simp only [RH]) only [↓RP, RG, FX, RQ, ↓reduceIte, Nat.reduceEqDiff, reduceCtorEq, Nat.reduceBEq, Nat.reduceAdd, Nat.reduceLeDiff, q1, q2]
  have g1 : ∀ r, (hs 0 ++ r)[p1]? = some ⟨57, 3, [B w, I a, .ref k 0 n n]⟩ := fun r => by rw [hAt_low _ (by omega)]; exact q1
  have g2 : ∀ r, (hs 0 ++ r)[p2]? = some ⟨4, 1, [B c]⟩ := fun r => by rw [hAt_low _ (by omega)]; exact q2
  have g4 : ∀ r, cA (hs 0 ++ r)[k]? n = some (bools f) := fun r => by rw [hAt_low _ (by omega)]; exact q4
  refine loopK_WW [0, 1, 2, 4, 5, 6, 7] (fun i : Nat => 1 ≤ i ∧ i ≤ n + 1 ∧ (i ≤ n → (rotF f s).getD (i - 1) false ≠ c)) (fun i => ⟨[(0, .val yv), (1, .ptr p1 0 3), (2, .ptr p2 0 1), (4, I n), (5, I s), (6, gwW 5 (hs 0).length (mets f c s i).length), (7, I i)], hs 0 ++ [goW 34 5 (fls (mtF w a f c s i))]⟩) (fun i => n + 1 - i) 1 ⟨by omega, by omega, fun _ => by rw [rotF_get (by omega), hn, Nat.add_zero, Nat.mod_eq_of_lt hsn]; exact hcs⟩ ?_ ?_
  · simp only [↓RP, RG, FX, RQ, ↓reduceIte, Nat.reduceEqDiff, reduceCtorEq, Nat.reduceBEq, Nat.reduceAdd, Nat.reduceLeDiff]
    have e1 : mets f c s 1 = [] := mets_1 f c s
    rw [e1, show mtF w a f c s 1 = [] by simp [mtF, e1]]
    refine Wk.weak (WE.cons _ (.refl _) (WE.cons _ (.refl _) (WE.cons _ (.refl _) (WE.cons _ (.refl _) (WE.cons _ (.refl _) (WE.cons _ (.nil _) (WE.cons _ (.refl _) WE.nil))))))) ?_
    have h9 : WO (hs 0 ++ []) (hs 0 ++ [goW 34 5 (fls [])]) := .app (hs 0) (.nil _ (by simp [goW, fls_nil]))
    rwa [List.append_nil] at h9
  intro i ⟨hi1, hi2, hi3⟩
  by_cases hlt : i < n
  · obtain ⟨at', hat⟩ : ∃ at' : Nat, at' = (s + i) % n := ⟨_, rfl⟩
    have hatn : at' < n := by rw [hat]; exact Nat.mod_lt _ h0
    have hrem : aInt .rem .i64 ((s : Int) + (i : Int)) (n : Int) = some (I at') := by
      rw [show (s : Int) + (i : Int) = ((s + i : Nat) : Int) by omega, hat]; exact rem_nat h0 (by omega)
    have hrg : (rotF f s).getD i false = f.getD at' false := by rw [rotF_get (by omega), hn, ← hat]
    by_cases hq : f.getD at' false = c
    · have hq2 : (!(f.getD at' false == c)) = false := by rw [hq]; simp
      have hst : stF (rotF f s) c i = true := stF_iff.2 ⟨by omega, by omega, by rw [hrg]; exact hq, hi3 (by omega)⟩
      have hrun := runF_le (rotF f s) c i
      simp (disch := first | assumption | omega | rfl | simp only [RH]) only [↓RP, RG, FX, RQ, ↓reduceIte, Nat.reduceEqDiff, reduceCtorEq, Nat.reduceBEq, Nat.reduceAdd, Nat.reduceLeDiff, g1, g2, g4, hrem, hq2, Int.toNat_natCast, effY_b, effY_n, effY_f, effY_l, effY_z, effY_D]
      refine loopK_WW [0, 1, 2, 4, 5, 6, 7, 9] (fun t : Nat => t ≤ runF (rotF f s) c i) (fun t => ⟨[(0, .val yv), (1, .ptr p1 0 3), (2, .ptr p2 0 1), (4, I n), (5, I s), (6, gwW 5 (hs 0).length (mets f c s i).length), (7, I (i + t : Nat)), (9, .ptr ((hs 0).length + 1) 0 5)], hs 0 ++ [goW 34 5 (fls (mtF w a f c s i)), ⟨34, 5, [B w, I a, I at', I t, B false]⟩]⟩) (fun t => n - t) 0 (by omega) (Wk.of_eq (by simp only [↓RP, RG, FX, RQ, ↓reduceIte, Nat.reduceEqDiff, reduceCtorEq, Nat.reduceBEq, Nat.reduceAdd, Nat.reduceLeDiff]; rfl)) ?_
      intro t ht
      obtain ⟨at2, hat2⟩ : ∃ at2 : Nat, at2 = (s + (i + t)) % n := ⟨_, rfl⟩
      have hatn2 : at2 < n := by rw [hat2]; exact Nat.mod_lt _ h0
      have hrem2 : aInt .rem .i64 ((s : Int) + ((i + t : Nat) : Int)) (n : Int) = some (I at2) := by
        rw [show (s : Int) + ((i + t : Nat) : Int) = ((s + (i + t) : Nat) : Int) by omega, hat2]; exact rem_nat h0 (by omega)
      have hrl2 := runF_lt ht
      rw [hrl] at hrl2
      by_cases hx : t < runF (rotF f s) c i
      · obtain ⟨hy1, hy2⟩ := hrl2.1 hx
        have hg2 : f.getD at2 false = c := by rw [← hy2, rotF_get (by omega), hn, ← hat2]
        have hq3 : (f.getD at2 false == c) = true := by rw [hg2]; simp
        simp (disch := first | assumption | omega | rfl | simp only [RH]) only [↓RP, RG, FX, RQ, ↓reduceIte, Nat.reduceEqDiff, reduceCtorEq, Nat.reduceBEq, Nat.reduceAdd, Nat.reduceLeDiff, g1, g2, g4, hrem2, hq3, Int.toNat_natCast, effY_b, effY_n, effY_f, effY_l, effY_z, effY_D]
        exact ⟨t + 1, by omega, Wk.of_eq rfl, by omega⟩
      · have hap : ∀ ys, aAppend Tryd.prog 29 (hs 0 ++ [goW 34 5 (fls (mtF w a f c s i)), ys]) (gwW 5 (hs 0).length (mets f c s i).length) (.lit 1 [B w, I a, I at', I t, B false]) = some (gwW 5 (hs 0).length ((mets f c s i).length + 1), (hs 0 ++ [goW 34 5 (fls (mtF w a f c s i)), ys]).set (hs 0).length (goW 34 5 (fls (mtF w a f c s i) ++ [B w, I a, I at', I t, B false]))) := fun ys => append_W (by rw [hAt_app0]; rfl) (by rw [fls_length, mtF_len]) rfl rfl (by have := hmi i; omega) (by have := hmi i; omega)
        have hm1 : mets f c s (i + t + 1) = mets f c s i ++ [at'] := by
          have : t = runF (rotF f s) c i := by omega
          rw [this, mets_run hst, hn]; simp only [hereF, ← hat]
        have hm2 : mtF w a f c s (i + t + 1) = mtF w a f c s i ++ [⟨w, a, at', t, false⟩] := by
          have h1 : lenR f c at' = t := by
            have := run_len (f := f) (c := c) (s := s) (r := i) (by omega) hcs (by omega)
            rw [hn] at this
            have h2 : hereF n s i = at' := hat.symm
            rw [h2] at this; omega
          simp only [mtF, hm1, List.map_append, List.map_cons, List.map_nil, flI, h1]
        have hlast : i + t + 1 ≤ n → (rotF f s).getD (i + t + 1 - 1) false ≠ c := fun hle => by
          have : t = runF (rotF f s) c i := by omega
          rw [Nat.add_sub_cancel, this]; exact runF_end (by omega)
        have fin : ∃ y : Nat, (1 ≤ y ∧ y ≤ n + 1 ∧ (y ≤ n → (rotF f s).getD (y - 1) false ≠ c)) ∧ Wk (hs 0) ⟨[(0, .val yv), (1, .ptr p1 0 3), (2, .ptr p2 0 1), (4, I n), (5, I s), (6, gwW 5 (hs 0).length ((mets f c s i).length + 1)), (7, I ((i + t : Nat) + 1))], hs 0 ++ [goW 34 5 (fls (mtF w a f c s i) ++ [B w, I a, I at', I t, B false]), ⟨34, 5, [B w, I a, I at', I t, B false]⟩]⟩ ⟨[(0, .val yv), (1, .ptr p1 0 3), (2, .ptr p2 0 1), (4, I n), (5, I s), (6, gwW 5 (hs 0).length (mets f c s y).length), (7, I y)], hs 0 ++ [goW 34 5 (fls (mtF w a f c s y))]⟩ ∧ n + 1 - y < n + 1 - i := by
          refine ⟨i + t + 1, ⟨by omega, by omega, hlast⟩, (Wk.drop (hb := hs 0) (h1 := hs 0) (gs := [_, _]) 8 [0] rfl (by simp) (by simp) (fun i o ho => .inl ho)).trans (Wk.of_eq ?_), by omega⟩
          rw [hm1, hm2, fls_app, fls_one1]
          have e1 : goW 34 5 (fls (mtF w a f c s i) ++ [B w, I a, I at', I t, B false]) = goW 34 5 (fls (mtF w a f c s i ++ [⟨w, a, at', t, false⟩])) := by rw [fls_app, fls_one1]; rfl
          have e2 : goW 34 5 (fls (mtF w a f c s i) ++ flc ⟨w, a, at', t, false⟩) = goW 34 5 (fls (mtF w a f c s i ++ [⟨w, a, at', t, false⟩])) := by rw [fls_app, fls_one1]
          rw [e1, e2]
          simp only [List.map_cons, List.map_nil, List.getD_cons_zero, renO_goF, List.length_append, List.length_singleton, ren_gwF _ _ _ _ _ (show keepF (hs 0).length [0] (hs 0).length = some (hs 0).length by simp [keepF])]
          simp only [ren, keepF, hm0, if_pos hp1, if_pos hp2]
          rfl
        by_cases hx2 : i + t < n
        · have hg2 : f.getD at2 false ≠ c := fun h => hx (hrl2.2 ⟨hx2, by rw [rotF_get (by omega), hn, ← hat2]; exact h⟩)
          have hq3 : (f.getD at2 false == c) = false := by simpa using hg2
          simp (disch := first | assumption | omega | rfl | simp only [RH]) only [↓RP, RG, FX, RQ, ↓reduceIte, Nat.reduceEqDiff, reduceCtorEq, Nat.reduceBEq, Nat.reduceAdd, Nat.reduceLeDiff, g1, g2, g4, hrem2, hq3, Int.toNat_natCast, effY_b, effY_n, effY_f, effY_l, effY_z, effY_D, hap]
          exact fin
        · simp (disch := first | assumption | omega | rfl | simp only [RH]) only [↓RP, RG, FX, RQ, ↓reduceIte, Nat.reduceEqDiff, reduceCtorEq, Nat.reduceBEq, Nat.reduceAdd, Nat.reduceLeDiff, g1, g2, g4, hrem2, Int.toNat_natCast, effY_b, effY_n, effY_f, effY_l, effY_z, effY_D, hap]
          exact fin
    · have hq2 : (!(f.getD at' false == c)) = true := by simpa using hq
      simp (disch := first | assumption | omega | rfl | simp only [RH]) only [↓RP, RG, FX, RQ, ↓reduceIte, Nat.reduceEqDiff, reduceCtorEq, Nat.reduceBEq, Nat.reduceAdd, Nat.reduceLeDiff, g1, g2, g4, hrem, hq2, Int.toNat_natCast, effY_b, effY_n, effY_f, effY_l, effY_z, effY_D]
      have e1 : mets f c s (i + 1) = mets f c s i := mets_no (by rw [hrg]; exact hq)
      exact ⟨i + 1, ⟨by omega, by omega, fun _ => by rw [Nat.add_sub_cancel, hrg]; exact hq⟩, Wk.of_eq (by rw [show mtF w a f c s (i + 1) = mtF w a f c s i by simp only [mtF, e1], e1]; rfl), by omega⟩
  · have hN : (mets f c s n).length = (sts f c).length := by
      have hnd := mets_nodup (f := f) (c := c) (s := s) (by omega)
      have hnd2 : (sts f c).Nodup := (sts_sorted f c).imp (fun h => by omega)
      rw [← hn]
      exact ((List.perm_ext_iff_of_nodup hnd hnd2).2 fun x => mets_mem (by omega) hcs x).length_eq
    have hov : mets f c s i = mets f c s n := by rw [mets_over (by omega), hn]
    have hov2 : mtF w a f c s i = mtF w a f c s n := by simp only [mtF, hov]
    rw [hov, hov2, hN]
    by_cases hN0 : (sts f c).length = 0
    · have e1 : stL w a f c = [] := List.eq_nil_of_length_eq_zero (by rw [stL_len]; exact hN0)
      rw [hN0, show gwW 5 (hs 0).length 0 = .res (hs 0).length from rfl]
      simp (disch := first | assumption | omega | rfl | simp only [RH]) only [↓RP, RG, FX, RQ, ↓reduceIte, Nat.reduceEqDiff, reduceCtorEq, Nat.reduceBEq, Nat.reduceAdd, Nat.reduceLeDiff]
      refine callK_F 6 (sortF_nil _) (by simp (disch := first | assumption | omega | rfl | simp only [RH]) only [↓RP, RG, FX, RQ, ↓reduceIte, Nat.reduceEqDiff, reduceCtorEq, Nat.reduceBEq, Nat.reduceAdd, Nat.reduceLeDiff, RA] <;> rfl) (.inl rfl) ?_
      simp (disch := first | assumption | omega | rfl | simp only [RH]) only [↓RP, RG, FX, RQ, ↓reduceIte, Nat.reduceEqDiff, reduceCtorEq, Nat.reduceBEq, Nat.reduceAdd, Nat.reduceLeDiff]
      refine loopK_WW [82, 83] (fun _ : Nat => True) (fun _ => ⟨[(82, I 0), (83, I 0)], hs 0⟩) (fun x => x) 0 trivial ?_ (fun x _ => ?_)
      · simp only [↓RP, RG, FX, RQ, ↓reduceIte, Nat.reduceEqDiff, reduceCtorEq, Nat.reduceBEq, Nat.reduceAdd, Nat.reduceLeDiff]
        exact (Wk.shut (hb := hs 0) (h1 := hs 0) rfl (by rw [hm0]; exact (hsh 0 (by omega)).shut)).trans (Wk.of_eq rfl)
      · simp (disch := first | assumption | omega | rfl | simp only [RH]) only [↓RP, RG, FX, RQ, ↓reduceIte, Nat.reduceEqDiff, reduceCtorEq, Nat.reduceBEq, Nat.reduceAdd, Nat.reduceLeDiff]
        exact Wk.refl _ _
    · have hpos : 0 < (sts f c).length := by omega
      have hmp : 0 < (mtF w a f c s n).length := by rw [mtF_len, hN]; exact hpos
      have hsp : 0 < (stL w a f c).length := by rw [stL_len]; exact hpos
      rw [gwW_pos hpos, goF_pos hmp]
      have hso := sortF_s w c a (f := f) (s := s) (h := hs 0 ++ [⟨34, 5, fls (mtF w a f c s n)⟩]) (id := (hs 0).length) (by omega) (by omega) hcs (by rw [hAt_app0, hn]; rfl) hpos
      rw [hSet_app0] at hso
      simp (disch := first | assumption | omega | rfl | simp only [RH]) only [↓RP, RG, FX, RQ, ↓reduceIte, Nat.reduceEqDiff, reduceCtorEq, Nat.reduceBEq, Nat.reduceAdd, Nat.reduceLeDiff]
      refine callK_T rfl hso ?_
      have hcA : cA (some ⟨34, 5, fls (stL w a f c)⟩) ((sts f c).length * 5) = some (fls (stL w a f c)) := cA_fls (by rw [stL_len])
      have hNl : (sts f c).length ≤ 1000 := by have := sts_len f c; omega
      simp (disch := first | assumption | omega | rfl | simp only [RH]) only [↓RP, RG, FX, RQ, ↓reduceIte, Nat.reduceEqDiff, reduceCtorEq, Nat.reduceBEq, Nat.reduceAdd, Nat.reduceLeDiff, hcA]
      refine loopK_WW [0, 81, 82, 83] (fun j : Nat => j ≤ (sts f c).length) (fun j => ⟨[(0, .val yv), (81, .ref (hs 0).length 0 (sts f c).length ((sts f c).length * 5)), (82, I (sts f c).length), (83, I j)], hs j ++ [⟨34, 5, fls (stL w a f c)⟩]⟩) (fun j => (sts f c).length - j) 0 (by omega) (Wk.of_eq (by simp only [↓RP, RG, FX, RQ, ↓reduceIte, Nat.reduceEqDiff, reduceCtorEq, Nat.reduceBEq, Nat.reduceAdd, Nat.reduceLeDiff]; rfl)) ?_
      intro j hj
      by_cases hlt : j < (sts f c).length
      · have hmj : (hs j).length = (hs 0).length := by rw [hm j hj, hm0]
        have hmj1 : (hs (j + 1)).length = (hs 0).length := by rw [hm (j + 1) hlt, hm0]
        have hpx : pX (some (true, 5)) ((fls (stL w a f c)).drop (j * 5)) = some (.agg [B (flD (stL w a f c) j).w, I (flD (stL w a f c) j).a, I (flD (stL w a f c) j).f, I (flD (stL w a f c) j).n, B (flD (stL w a f c) j).z]) := pX_fls (by rw [stL_len]; exact hlt)
        have hgj : (hs j ++ [(⟨34, 5, fls (stL w a f c)⟩ : AObj)])[(hs 0).length]? = some ⟨34, 5, fls (stL w a f c)⟩ := by rw [← hmj, hAt_app0]; rfl
        have hix2 : aIdx Tryd.prog 29 (hs j ++ [(⟨34, 5, fls (stL w a f c)⟩ : AObj)]) (.ref (hs 0).length 0 (sts f c).length ((sts f c).length * 5)) (I j) = some (.ptr (hs 0).length (j * 5) ((sts f c).length * 5)) := by
          rw [idxW_ref (by omega) (by omega), hgj, hcA]; simp
        simp (disch := first | assumption | omega | rfl | simp only [RH]) only [↓RP, RG, FX, RQ, ↓reduceIte, Nat.reduceEqDiff, reduceCtorEq, Nat.reduceBEq, Nat.reduceAdd, Nat.reduceLeDiff, hgj, hcA, hpx, hix2, Int.toNat_natCast]
        refine callK_Y rfl (stepsO_at j hlt rfl (by unfold owF; rw [goF_pos hsp]; rfl) rfl) ?_
        simp (disch := first | assumption | omega | rfl | simp only [RH]) only [↓RP, RG, FX, RQ, ↓reduceIte, Nat.reduceEqDiff, reduceCtorEq, Nat.reduceBEq, Nat.reduceAdd, Nat.reduceLeDiff]
        refine ⟨j + 1, hlt, (Wk.drop (hb := hs 0) (h1 := hs (j + 1)) (gs := owF w a f c j ++ ex j) 8 [0] hmj1 (by simp) (by simp [owF]) (fun i o ho => .inr ?_)).trans (Wk.of_eq ?_), by omega⟩
        · exact fun x hx => by rw [hm0]; exact (hsh (j + 1) hlt).2 o (List.mem_of_getElem? ho) x hx [0]
        · have e1 := renO_goF (keepF (hs 0).length [0]) 7 34 5 (stL w a f c)
          simp only [owF, List.map_cons, List.map_nil, List.cons_append, List.getD_cons_zero, e1]
          rw [goF_pos hsp]
          simp [ren, keepF]
      · obtain rfl : (sts f c).length = j := by omega
        simp (disch := first | assumption | omega | rfl | simp only [RH]) only [↓RP, RG, FX, RQ, ↓reduceIte, Nat.reduceEqDiff, reduceCtorEq, Nat.reduceBEq, Nat.reduceAdd, Nat.reduceLeDiff]
        exact (Wk.shut (hb := hs 0) (h1 := hs (sts f c).length) (by rw [hm _ (by omega), hm0]) (by rw [hm0]; exact (hsh _ (by omega)).shut)).trans (Wk.of_eq rfl)
end
end Go.Proofs.YtgjjdcoeleddaaaDoor

/- Chapter 8: the floats of one side of a cloth. -/
set_option linter.unusedSimpArgs false
set_option linter.unusedVariables false
set_option maxRecDepth 100000
namespace Go.Proofs.YtgjjdcoeleddaaaDoor
open Go Go.Proofs Go.AW

/-- The floats of one side of a thread. -/
def thF (w : Bool) (a : Nat) (f : List Bool) (c : Bool) : List Fl := if tw c f = f.length then [flW w a f] else stL w a f c
theorem tw_all {c : Bool} {f : List Bool} (h : tw c f = f.length) : ∀ i, i < f.length → f.getD i false = c := fun i hi => tw_in c f i (by omega)
theorem thF_len (w : Bool) (a : Nat) {f : List Bool} (c : Bool) (h0 : 0 < f.length) : (thF w a f c).length ≤ f.length := by
  unfold thF
  split
  · simp; omega
  · rw [stL_len]; exact sts_len f c
/-- .. of thread number k. -/
def thK (W H : Nat) (l : List Bool) (c : Bool) (k : Nat) : List Fl := thF (decide (k < W)) (if k < W then k else k - W) (faK W H l k) c
theorem faK_len (W H : Nat) (l : List Bool) (k : Nat) : (faK W H l k).length = if k < W then H else W := by
  unfold faK; split
  · exact faC_len W H l k
  · exact faR_len W l (k - W)
def sdK (W H : Nat) (l : List Bool) (c : Bool) (wt : Fl → Bool) (k : Nat) : List Fl := (List.range k).flatMap fun i => (thK W H l c i).filter wt
theorem sdK_0 (W H : Nat) (l : List Bool) (c : Bool) (wt : Fl → Bool) : sdK W H l c wt 0 = [] := rfl
theorem sdK_succ (W H : Nat) (l : List Bool) (c : Bool) (wt : Fl → Bool) (k : Nat) : sdK W H l c wt (k + 1) = sdK W H l c wt k ++ (thK W H l c k).filter wt := by
  simp [sdK, List.range_succ]
theorem filter_take {xs : List Fl} (wt : Fl → Bool) {j : Nat} (hj : j < xs.length) : (xs.take (j + 1)).filter wt = (xs.take j).filter wt ++ if wt (flD xs j) then [flD xs j] else [] := by
  rw [List.take_add_one, List.getElem?_eq_getElem hj, List.filter_append, flD_get hj]
  simp [List.filter_cons]
theorem sdK_len {W H : Nat} (hW0 : 0 < W) (hH0 : 0 < H) (hW : W ≤ 64) (hH : H ≤ 64) (l : List Bool) (c : Bool) (wt : Fl → Bool) : ∀ k, (sdK W H l c wt k).length ≤ k * 64
  | 0 => by simp [sdK_0]
  | k + 1 => by
    have h1 := sdK_len hW0 hH0 hW hH l c wt k
    have h2 := List.length_filter_le wt (thK W H l c k)
    have hl := faK_len W H l k
    have h3 : (thK W H l c k).length ≤ (faK W H l k).length := thF_len _ _ _ (by rw [hl]; split <;> omega)
    have h4 : (faK W H l k).length ≤ 64 := by rw [hl]; split <;> omega
    rw [sdK_succ, List.length_append]; omega
/-- The objects name no others than these, wherever they stand. -/
def ShutB (h : List AObj) : Prop := ∀ o ∈ h, ∀ x ∈ o.cells, ∀ m ks, h.length ≤ m → ren (keepF m ks) 8 x = x
theorem keepF_low {m id : Nat} (ks : List Nat) (h : id < m) : keepF m ks id = some id := by simp [keepF, h]
/-- .. as a loop's rounds meet them. -/
theorem floatsY_k (c : Bool) {k : Nat} (a m i0 p1 p2 n : Nat) (w : Bool) {f : List Bool} (hf : f.length = n) (hn0 : 0 < n) (hn2 : n ≤ 64) (hi0 : i0 < m) (hp1 : p1 < m) (hp2 : p2 < m) (hs ex : Nat → List AObj) (hsh : ∀ j, j ≤ (thF w a f c).length → ShutA m (hs j))
    (q1 : (hs 0)[p1]? = some ⟨57, 3, [B w, I a, .ref i0 0 n n]⟩) (q2 : (hs 0)[p2]? = some ⟨4, 1, [B c]⟩) (q3 : (hs 0)[i0]? = some ⟨4, 1, bools f⟩) :
    ∃ own, SpecY Tryd.prog 40 (stepsO (thF w a f c).length hs own ex (fun j => flA (flD (thF w a f c) j))) [.ptr p1 0 3, .ptr p2 0 1] (hs 0) (hs (thF w a f c).length) := by
  by_cases hw : tw c f = f.length
  · have e : thF w a f c = [flW w a f] := if_pos hw
    rw [e] at hsh ⊢
    exact ⟨_, floatsY_w hf hn0 (by omega) w c a m i0 p1 p2 hs ex hsh (by rw [← hf]; exact tw_all hw) q1 q2 q3⟩
  · have e : thF w a f c = stL w a f c := if_neg hw
    have hle := tw_le c f
    rw [e] at hsh ⊢
    rw [stL_len] at hsh ⊢
    exact ⟨_, floatsY_s hf hn0 (by omega) w c a m i0 p1 p2 hs ex (s := tw c f) hi0 hp1 hp2 (by omega) (tw_end c f (by omega)) (fun i hi => tw_in c f i hi) hsh q1 q2 q3⟩
/-- The heap of side: its own five objects behind the caller's. -/
def sdH (W H : Nat) (b : Bool) (l : List Bool) (c : Bool) (fw : Nat) (cs : List AVal) (h : List AObj) (ys : List Fl) (r : List AObj) : List AObj :=
  h ++ (⟨24, 3, [I W, I H, BA b l]⟩ :: ⟨4, 1, [B c]⟩ :: ⟨51, 1, [.func (.func fw) [] cs]⟩ :: ⟨29, 1, [gwW 5 (h.length + 4) ys.length]⟩ :: goW 34 5 (fls ys) :: r)
theorem sdH_len (W H : Nat) (b : Bool) (l : List Bool) (c : Bool) (fw : Nat) (cs : List AVal) (h : List AObj) (ys : List Fl) (r : List AObj) : (sdH W H b l c fw cs h ys r).length = h.length + 5 + r.length := by simp [sdH]; omega
theorem sdH_shut (W H : Nat) (b : Bool) (l : List Bool) (c : Bool) (fw : Nat) {cs : List AVal} (hcs : ∀ f, cs.map (ren f 7) = cs) {h : List AObj} (hsh : ShutB h) (ys : List Fl) {r : List AObj} {m : Nat} (hm : m = h.length + 5 + r.length) (hr : ∀ o ∈ r, ∀ x ∈ o.cells, ∀ ks, ren (keepF m ks) 8 x = x) : ShutA m (sdH W H b l c fw cs h ys r) := by
  refine ⟨by rw [sdH_len, hm], fun o ho x hx ks => ?_⟩
  simp only [sdH, List.mem_append, List.mem_cons] at ho
  rcases ho with ho | rfl | rfl | rfl | rfl | rfl | ho
  · exact hsh o ho x hx m ks (by omega)
  · simp only [List.mem_cons, List.not_mem_nil, or_false] at hx
    rcases hx with rfl | rfl | rfl
    · rfl
    · rfl
    · simp only [ren, map_ren_bools]
  · simp only [List.mem_cons, List.not_mem_nil, or_false] at hx
    subst hx; rfl
  · simp only [List.mem_cons, List.not_mem_nil, or_false] at hx
    subst hx
    simp only [ren, hcs, List.map_nil]
  · simp only [List.mem_cons, List.not_mem_nil, or_false] at hx
    subst hx
    exact ren_gwF _ _ _ _ _ (keepF_low ks (by omega))
  · rw [goW_cells] at hx
    exact fls_all (fun x => ren (keepF m ks) 8 x = x) (fun _ => rfl) (fun _ => rfl) _ x hx
  · exact hr o ho x hx ks
section
variable {W H : Nat} (hW0 : 0 < W) (hH0 : 0 < H) (hW : W ≤ 64) (hH : H ≤ 64) (b : Bool) {l : List Bool} (hn : l.length = W * H)
include hW0 hH0 hW hH hn
theorem side_s (c : Bool) (fw : Nat) (cs cs' : List AVal) (wt : Fl → Bool) (hcs : ∀ f, cs.map (ren f 7) = cs) (hca : ∀ h, cs.map (argOf h 6) = cs') (hwt : ∀ x : Fl, Contract Tryd.prog fw (.agg [B x.w, I x.a, I x.f, I x.n, B x.z] :: cs') (B (wt x))) (h : List AObj) (hsh : ShutB h) :
    SpecTo Tryd.prog 23 [GA W H b l, B c, .func (.func fw) [] cs] h (gwW 5 h.length (sdK W H l c wt (W + H)).length) (h ++ [goW 34 5 (fls (sdK W H l c wt (W + H)))]) := by
  refine SpecTo.intro (effS [] false) follows Tryd.func23 rfl rfl (by kernel_rfl) (Nat.le_of_ble_eq_true rfl) ?_
  simp (disch := first | assumption | omega | rfl | simp only [RH]) only [↓RP, RG, FX, RQ, ↓reduceIte, Nat.reduceEqDiff, reduceCtorEq, Nat.reduceBEq, Nat.reduceAdd, Nat.reduceLeDiff, args0_3, parts_func, one_func]
  refine callK_F 6 (lines_c W H b l) (by simp (disch := first | assumption | omega | rfl | simp only [RH]) only [↓RP, RG, FX, RQ, ↓reduceIte, Nat.reduceEqDiff, reduceCtorEq, Nat.reduceBEq, Nat.reduceAdd, Nat.reduceLeDiff, RA] <;> rfl) (.inr (by simp [noRef, bools_noRef])) ?_
  simp (disch := first | assumption | omega | rfl | simp only [RH]) only [↓RP, RG, FX, RQ, ↓reduceIte, Nat.reduceEqDiff, reduceCtorEq, Nat.reduceBEq, Nat.reduceAdd, Nat.reduceLeDiff]
  refine rangeK_O (s := ⟨[(3, .ptr h.length 0 3), (4, .ptr (h.length + 1) 0 1), (5, .ptr (h.length + 2) 0 1), (7, .ptr (h.length + 3) 0 1), (11, .func (.func 35) [] [.spot true [I W, I H, BA b l]])], sdH W H b l c fw cs h (sdK W H l c wt 0) []⟩) [3, 4, 5, 7, 11] (W + H) (fun k => sdH W H b l c fw cs h (sdK W H l c wt k) []) (lineO (h.length + 5) W H l) (fun k => [⟨57, 3, [B (decide (k < W)), I (if k < W then k else k - W : Nat), .ref (h.length + 6) 0 (if k < W then H else W) (if k < W then H else W)]⟩, ⟨57, 3, [B (decide (k < W)), I (if k < W then k else k - W : Nat), .ref (h.length + 6) 0 (if k < W then H else W) (if k < W then H else W)]⟩, ⟨4, 1, [B c]⟩]) (lineA (h.length + 5) W H l) ?_ rfl rfl (linesF_y hW0 hH0 (by omega) (by omega) true b hn (h.length + 5) _ _ (fun k hk => (sdH_shut W H b l c fw hcs hsh _ rfl (fun o ho => by cases ho)).shut)) ?_ ?_
  · simp only [↓RP, RG, FX, RQ, ↓reduceIte, Nat.reduceEqDiff, reduceCtorEq, Nat.reduceBEq, Nat.reduceAdd, Nat.reduceLeDiff]
    exact Wk.weak (fun t => .refl _) (.app h (.cons _ _ _ _ (WL.refl _) (.cons _ _ _ _ (WL.refl _) (.cons _ _ _ _ (WL.refl _) (.cons _ _ _ _ (.cons (.nil _) .nil) (.nil _ (by simp [sdK_0, fls_nil, goW])))))))
  · intro i hi
    obtain ⟨wk, hwk⟩ : ∃ wk, decide (i < W) = wk := ⟨_, rfl⟩
    obtain ⟨ak, hak⟩ : ∃ ak, (if i < W then i else i - W) = ak := ⟨_, rfl⟩
    obtain ⟨nk, hnk⟩ : ∃ nk, (if i < W then H else W) = nk := ⟨_, rfl⟩
    have hl1 : (faK W H l i).length = nk := by rw [faK_len, hnk]
    have hn0 : 0 < nk := by rw [← hnk]; split <;> omega
    have hn6 : nk ≤ 64 := by rw [← hnk]; split <;> omega
    have hA : lineA (h.length + 5) W H l i = .agg [B wk, I ak, .ref (h.length + 6) 0 nk nk] := by unfold lineA; rw [hwk, hak, hnk]
    have hO : lineO (h.length + 5) W H l i = [⟨57, 3, [B wk, I ak, .ref (h.length + 6) 0 nk nk]⟩, ⟨4, 1, bools (faK W H l i)⟩] := by unfold lineO; rw [hwk, hak, hnk]
    have hT : thK W H l c i = thF wk ak (faK W H l i) c := by unfold thK; rw [hwk, hak]
    simp only [hwk, hak, hnk, hA, hO]
    obtain ⟨rest, hrest⟩ : ∃ rest : List AObj, rest = [⟨57, 3, [B wk, I ak, .ref (h.length + 6) 0 nk nk]⟩, ⟨4, 1, bools (faK W H l i)⟩, ⟨57, 3, [B wk, I ak, .ref (h.length + 6) 0 nk nk]⟩, ⟨57, 3, [B wk, I ak, .ref (h.length + 6) 0 nk nk]⟩, ⟨4, 1, [B c]⟩] := ⟨_, rfl⟩
    obtain ⟨own, hY⟩ := floatsY_k c (k := i) ak (h.length + 10) (h.length + 6) (h.length + 8) (h.length + 9) nk wk hl1 hn0 hn6 (by omega) (by omega) (by omega) (fun j => sdH W H b l c fw cs h (sdK W H l c wt i ++ ((thF wk ak (faK W H l i) c).take j).filter wt) rest) (fun j => [⟨34, 5, flc (flD (thF wk ak (faK W H l i) c) j)⟩]) (fun j hj => sdH_shut W H b l c fw hcs hsh _ (by rw [hrest]; rfl) (fun o ho x hx ks => by
      rw [hrest] at ho
      have hk1 := keepF_low (m := h.length + 10) (id := h.length + 6) ks (by omega)
      simp only [List.mem_cons, List.not_mem_nil, or_false] at ho
      rcases ho with rfl | rfl | rfl | rfl | rfl
      · simp only [List.mem_cons, List.not_mem_nil, or_false] at hx
        rcases hx with rfl | rfl | rfl <;> simp [ren, hk1]
      · simp only [bools, List.mem_map] at hx
        obtain ⟨u, _, rfl⟩ := hx; rfl
      · simp only [List.mem_cons, List.not_mem_nil, or_false] at hx
        rcases hx with rfl | rfl | rfl <;> simp [ren, hk1]
      · simp only [List.mem_cons, List.not_mem_nil, or_false] at hx
        rcases hx with rfl | rfl | rfl <;> simp [ren, hk1]
      · simp only [List.mem_cons, List.not_mem_nil, or_false] at hx
        subst hx; rfl)) (by simp [sdH, hrest]) (by simp [sdH, hrest]) (by simp [sdH, hrest]; try rfl)
    simp (disch := first | assumption | omega | rfl | simp only [RH]) only [↓RP, RG, FX, RQ, ↓reduceIte, Nat.reduceEqDiff, reduceCtorEq, Nat.reduceBEq, Nat.reduceAdd, Nat.reduceLeDiff, sdH]
    refine callK_T rfl (floats_s wk c ak (h.length + 6) nk _) ?_
    simp (disch := first | assumption | omega | rfl | simp only [RH]) only [↓RP, RG, FX, RQ, ↓reduceIte, Nat.reduceEqDiff, reduceCtorEq, Nat.reduceBEq, Nat.reduceAdd, Nat.reduceLeDiff]
    refine rangeK_O (s := ⟨[(3, .ptr h.length 0 3), (4, .ptr (h.length + 1) 0 1), (5, .ptr (h.length + 2) 0 1), (7, .ptr (h.length + 3) 0 1), (15, .func (.func 40) [] [.ptr (h.length + 8) 0 3, .ptr (h.length + 9) 0 1])], sdH W H b l c fw cs h (sdK W H l c wt i ++ ((thF wk ak (faK W H l i) c).take 0).filter wt) rest⟩) [3, 4, 5, 7, 15] _ (fun j => sdH W H b l c fw cs h (sdK W H l c wt i ++ ((thF wk ak (faK W H l i) c).take j).filter wt) rest) own _ (fun j => flA (flD (thF wk ak (faK W H l i) c) j)) (Wk.of_eq ?_) rfl rfl hY ?_ ?_
    · simp only [↓RP, RG, FX, RQ, ↓reduceIte, Nat.reduceEqDiff, reduceCtorEq, Nat.reduceBEq, Nat.reduceAdd, Nat.reduceLeDiff]
      simp [sdH, hrest, keepEnv, look]
    · intro j hj
      simp only []
      obtain ⟨ys, hys⟩ : ∃ ys, ys = sdK W H l c wt i ++ ((thF wk ak (faK W H l i) c).take j).filter wt := ⟨_, rfl⟩
      obtain ⟨fx, hfx⟩ : ∃ fx, fx = flD (thF wk ak (faK W H l i) c) j := ⟨_, rfl⟩
      obtain ⟨hh, hhe⟩ : ∃ hh, hh = sdH W H b l c fw cs h ys rest ++ own j := ⟨_, rfl⟩
      rw [← hys, ← hfx, ← hhe]
      have hM : h.length + 10 ≤ hh.length := by rw [hhe, List.length_append, sdH_len, hrest]; simp
      have hyl : ys.length ≤ 100000 := by
        have h1 := sdK_len hW0 hH0 hW hH l c wt i
        have h2 := List.length_filter_le wt ((thF wk ak (faK W H l i) c).take j)
        have h3 := thF_len wk ak (f := faK W H l i) c (by omega)
        rw [List.length_take] at h2
        rw [hys, List.length_append]; omega
      have g5 : ∀ r, (hh ++ r)[h.length + 2]? = some ⟨51, 1, [.func (.func fw) [] cs]⟩ := fun r => by rw [hhe]; simp [sdH]
      have g7 : ∀ r, (hh ++ r)[h.length + 3]? = some ⟨29, 1, [gwW 5 (h.length + 4) ys.length]⟩ := fun r => by rw [hhe]; simp [sdH]
      have g8 : ∀ r, (hh ++ r)[h.length + 4]? = some (goW 34 5 (fls ys)) := fun r => by rw [hhe]; simp [sdH]
      simp (disch := first | assumption | omega | rfl | simp only [RH]) only [↓RP, RG, FX, RQ, ↓reduceIte, Nat.reduceEqDiff, reduceCtorEq, Nat.reduceBEq, Nat.reduceAdd, Nat.reduceLeDiff, flA, flc, g5]
      refine callK_V 6 (hwt fx) (by simp only [List.nil_append, List.map_append, hca]; rfl) (.inl rfl) ?_
      by_cases hw : wt fx = true
      · have hap : aAppend Tryd.prog 29 (hh ++ [(⟨34, 5, [B fx.w, I fx.a, I fx.f, I fx.n, B fx.z]⟩ : AObj)]) (gwW 5 (h.length + 4) ys.length) (.lit 1 [B fx.w, I fx.a, I fx.f, I fx.n, B fx.z]) = some (gwW 5 (h.length + 4) (ys.length + 1), (hh ++ [(⟨34, 5, [B fx.w, I fx.a, I fx.f, I fx.n, B fx.z]⟩ : AObj)]).set (h.length + 4) (goW 34 5 (fls ys ++ [B fx.w, I fx.a, I fx.f, I fx.n, B fx.z]))) := append_W (g8 _) (by rw [fls_length]) rfl rfl (by omega) (by omega)
        have hst7 : ∀ o r, (hh ++ r).set (h.length + 4) o = hh.set (h.length + 4) o ++ r := fun o r => hSet_low _ _ (by omega)
        have hst7b : ∀ o r, (hh.set (h.length + 4) (goW 34 5 (fls ys ++ [B fx.w, I fx.a, I fx.f, I fx.n, B fx.z])) ++ r).set (h.length + 3) o = (hh.set (h.length + 4) (goW 34 5 (fls ys ++ [B fx.w, I fx.a, I fx.f, I fx.n, B fx.z]))).set (h.length + 3) o ++ r := fun o r => hSet_low _ _ (by simp; omega)
        have g7b : ∀ o r, (hh.set (h.length + 4) o ++ r)[h.length + 3]? = some ⟨29, 1, [gwW 5 (h.length + 4) ys.length]⟩ := fun o r => by
          rw [hhe]; simp [sdH]
        simp (disch := first | assumption | omega | rfl | simp only [RH]) only [↓RP, RG, FX, RQ, ↓reduceIte, Nat.reduceEqDiff, reduceCtorEq, Nat.reduceBEq, Nat.reduceAdd, Nat.reduceLeDiff, hw, g7, hap, hst7, g7b, hst7b, parts_gwW, one_gwW]
        refine Wk.of_eq ?_
        rw [filter_take wt hj, ← hfx, hw, hhe]
        have e : fls (ys ++ [fx]) = fls ys ++ [B fx.w, I fx.a, I fx.f, I fx.n, B fx.z] := by rw [fls_app, fls_one1]; rfl
        have e2 : sdK W H l c wt i ++ (((thF wk ak (faK W H l i) c).take j).filter wt ++ [fx]) = ys ++ [fx] := by rw [hys, List.append_assoc]
        rw [if_pos rfl, e2]
        simp [sdH, e, flc, List.set_append, show ¬ h.length + 4 < h.length by omega, show ¬ h.length + 3 < h.length by omega]
      · have hw2 : wt fx = false := by simpa using hw
        simp (disch := first | assumption | omega | rfl | simp only [RH]) only [↓RP, RG, FX, RQ, ↓reduceIte, Nat.reduceEqDiff, reduceCtorEq, Nat.reduceBEq, Nat.reduceAdd, Nat.reduceLeDiff, hw2]
        refine Wk.of_eq ?_
        rw [filter_take wt hj, ← hfx, hw2, hhe, hys]
        simp [flc]
    · simp (disch := first | assumption | omega | rfl | simp only [RH]) only [↓RP, RG, FX, RQ, ↓reduceIte, Nat.reduceEqDiff, reduceCtorEq, Nat.reduceBEq, Nat.reduceAdd, Nat.reduceLeDiff]
      refine Wk.of_eq ?_
      rw [List.take_length, sdK_succ, hT, hrest]
      simp [sdH]
  · simp (disch := first | assumption | omega | rfl | simp only [RH]) only [↓RP, RG, FX, RQ, ↓reduceIte, Nat.reduceEqDiff, reduceCtorEq, Nat.reduceBEq, Nat.reduceAdd, Nat.reduceLeDiff, sdH]
    refine ⟨_, by rw [resVal_1 rfl]; simp (disch := first | assumption | omega | rfl | simp only [RH]) only [↓RP, RG, FX, RQ, ↓reduceIte, Nat.reduceEqDiff, reduceCtorEq, Nat.reduceBEq, Nat.reduceAdd, Nat.reduceLeDiff, raX_tmp, raX_cell, rvX_0, rvX_1, rvX_2, rvX_3, rvX_4, rvX_5]; rfl, (Wk.drop (hb := h) (h1 := h) (gs := [_, _, _, _, _]) 8 [4] rfl (by simp) (by simp) (fun i o ho => .inl ho)).trans (Wk.of_eq ?_)⟩
    simp only [List.map_cons, List.map_nil, List.getD_cons_zero, List.getD_cons_succ, renO_goF]
    have e1 : ren (keepF h.length [4]) 8 (gwW 5 (h.length + 4) (sdK W H l c wt (W + H)).length) = gwW 5 h.length (sdK W H l c wt (W + H)).length := by
      have e0 : keepF h.length [4] (h.length + 4) = some h.length := by simp [keepF, show ¬ h.length + 4 < h.length by omega]
      unfold gwW; split <;> simp [ren, e0]
    rw [e1]
end
end Go.Proofs.YtgjjdcoeleddaaaDoor

/- Chapter 8: float.List, float.Longest, float.Over. -/
set_option linter.unusedSimpArgs false
set_option linter.unusedVariables false
set_option maxRecDepth 100000
namespace Go.Proofs.YtgjjdcoeleddaaaDoor
open Go Go.Proofs Go.AW

/-- A list of floats. -/
def flV (p : Bool) (xs : List Fl) : AVal := .list p xs.isEmpty xs.length (fls xs)
theorem resOf_gwF {h : List AObj} {n k : Nat} {xs : List Fl} (ho : h[k]? = some (goW 34 5 (fls xs))) : resOf h (n + 2) (gwW 5 k xs.length) = flV true xs := by
  cases xs with
  | nil => rfl
  | cons x r =>
    have e1 := fls_res h n (x :: r)
    have e2 := fls_length (x :: r)
    rw [gwW_pos (by simp)]
    simp only [resOf, ho]
    rw [goF_pos (by simp), if_pos e2]
    simp only [List.drop_zero, flV]
    rw [List.take_of_length_le (by omega), e1]
    rfl
/-- Is it a float at all? -/
def wl (x : Fl) : Bool := !(x.w == false && ((x.a : Int) == 0 && ((x.f : Int) == 0 && ((x.n : Int) == 0 && x.z == false))))
theorem wl_c (x : Fl) : Contract Tryd.prog 24 [.agg [B x.w, I x.a, I x.f, I x.n, B x.z]] (B (wl x)) := by
  refine Contract.intro (effS [] false) 6 follows Tryd.func24 rfl rfl (by kernel_rfl) (Nat.le_of_ble_eq_true rfl) ?_
  simp (disch := first | assumption | omega | rfl | simp only [RH]) only [↓RP, RG, FX, RQ, ↓reduceIte, Nat.reduceEqDiff, reduceCtorEq, Nat.reduceBEq, Nat.reduceAdd, Nat.reduceLeDiff, args0_1, eqK_bool, eqK_int, eqK_nil, neqKT, Option.map_some]
  rw [resVal_1 rfl]; simp (disch := first | assumption | omega | rfl | simp only [RH]) only [↓RP, RG, FX, RQ, ↓reduceIte, Nat.reduceEqDiff, reduceCtorEq, Nat.reduceBEq, Nat.reduceAdd, Nat.reduceLeDiff, RS]
  first | done | rfl
/-- Is it over a length? -/
def wo (m : Int) (x : Fl) : Bool := x.z || decide (m < (x.n : Int))
theorem wo_c (p : Bool) (m : Int) (x : Fl) : Contract Tryd.prog 33 [.agg [B x.w, I x.a, I x.f, I x.n, B x.z], .spot p [I m]] (B (wo m x)) := by
  unfold wo
  refine Contract.intro (effS [] false) 6 follows Tryd.func33 rfl rfl (by kernel_rfl) (Nat.le_of_ble_eq_true rfl) ?_
  cases hz : x.z with
  | true =>
    simp (disch := first | assumption | omega | rfl | simp only [RH]) only [↓RP, RG, FX, RQ, ↓reduceIte, Nat.reduceEqDiff, reduceCtorEq, Nat.reduceBEq, Nat.reduceAdd, Nat.reduceLeDiff, args0_2]
    rw [resVal_1 rfl]; simp (disch := first | assumption | omega | rfl | simp only [RH]) only [↓RP, RG, FX, RQ, ↓reduceIte, Nat.reduceEqDiff, reduceCtorEq, Nat.reduceBEq, Nat.reduceAdd, Nat.reduceLeDiff, RS]
    first | done | rfl
  | false =>
    simp (disch := first | assumption | omega | rfl | simp only [RH]) only [↓RP, RG, FX, RQ, ↓reduceIte, Nat.reduceEqDiff, reduceCtorEq, Nat.reduceBEq, Nat.reduceAdd, Nat.reduceLeDiff, args0_2]
    rw [resVal_1 rfl]; simp (disch := first | assumption | omega | rfl | simp only [RH]) only [↓RP, RG, FX, RQ, ↓reduceIte, Nat.reduceEqDiff, reduceCtorEq, Nat.reduceBEq, Nat.reduceAdd, Nat.reduceLeDiff, RS]
    first | done | (simp; done) | rfl
theorem shutB_1 (W H : Nat) (b : Bool) (l : List Bool) : ShutB [⟨24, 3, [I W, I H, BA b l]⟩] := by
  intro o ho x hx m ks hm
  simp only [List.mem_cons, List.not_mem_nil, or_false] at ho
  subst ho
  simp only [List.mem_cons, List.not_mem_nil, or_false] at hx
  rcases hx with rfl | rfl | rfl
  · rfl
  · rfl
  · simp only [ren, map_ren_bools]
theorem shutB_2 (xs : List Fl) : ShutB [goW 34 5 (fls xs)] := by
  intro o ho x hx m ks hm
  simp only [List.mem_cons, List.not_mem_nil, or_false] at ho
  subst ho
  rw [goW_cells] at hx
  exact fls_all (fun x => ren (keepF m ks) 8 x = x) (fun _ => rfl) (fun _ => rfl) _ x hx
theorem listP_bad (w h : Int) (b : Bool) (l : List Bool) (s : Int) (hz : gchk w h l.length ≠ 0) : Contract Tryd.prog 8 [GA w h b l, I s] (.tuple [flV true [], I (gchk w h l.length)]) := by
  refine Contract.intro (effS [] false) 6 follows Tryd.func8 rfl rfl (by kernel_rfl) (Nat.le_of_ble_eq_true rfl) ?_
  simp (disch := first | assumption | omega | rfl | simp only [RH]) only [↓RP, RG, FX, RQ, ↓reduceIte, Nat.reduceEqDiff, reduceCtorEq, Nat.reduceBEq, Nat.reduceAdd, Nat.reduceLeDiff, args0_2]
  refine callK_F 6 (gcheckP_c w h b l) (by simp (disch := first | assumption | omega | rfl | simp only [RH]) only [↓RP, RG, FX, RQ, ↓reduceIte, Nat.reduceEqDiff, reduceCtorEq, Nat.reduceBEq, Nat.reduceAdd, Nat.reduceLeDiff, RA] <;> rfl) (.inl (by simp [allFresh, ints_fresh, bools_fresh])) ?_
  simp (disch := first | assumption | omega | rfl | simp only [RH]) only [↓RP, RG, FX, RQ, ↓reduceIte, Nat.reduceEqDiff, reduceCtorEq, Nat.reduceBEq, Nat.reduceAdd, Nat.reduceLeDiff]
  rw [resVal_2 rfl]; simp (disch := first | assumption | omega | rfl | simp only [RH]) only [↓RP, RG, FX, RQ, ↓reduceIte, Nat.reduceEqDiff, reduceCtorEq, Nat.reduceBEq, Nat.reduceAdd, Nat.reduceLeDiff, RS]
  first | done | rfl
section
variable {W H : Nat} (hW0 : 0 < W) (hH0 : 0 < H) (hW : W ≤ 64) (hH : H ≤ 64) (b : Bool) {l : List Bool} (hn : l.length = W * H)
include hW0 hH0 hW hH hn
theorem listP_arg {s : Int} (h0 : s ≠ 0) (h1 : s ≠ 1) : Contract Tryd.prog 8 [GA W H b l, I s] (.tuple [flV true [], I 2]) := by
  have hz : gchk W H l.length = 0 := gchk_ok ⟨by omega, by omega, by omega, by omega, by rw [hn, Int.natCast_mul]⟩
  have hck := gcheckP_c W H b l
  rw [hz] at hck
  refine Contract.intro (effS [] false) 6 follows Tryd.func8 rfl rfl (by kernel_rfl) (Nat.le_of_ble_eq_true rfl) ?_
  simp (disch := first | assumption | omega | rfl | simp only [RH]) only [↓RP, RG, FX, RQ, ↓reduceIte, Nat.reduceEqDiff, reduceCtorEq, Nat.reduceBEq, Nat.reduceAdd, Nat.reduceLeDiff, args0_2]
  refine callK_F 6 (hck) (by simp (disch := first | assumption | omega | rfl | simp only [RH]) only [↓RP, RG, FX, RQ, ↓reduceIte, Nat.reduceEqDiff, reduceCtorEq, Nat.reduceBEq, Nat.reduceAdd, Nat.reduceLeDiff, RA] <;> rfl) (.inl (by simp [allFresh, ints_fresh, bools_fresh])) ?_
  simp (disch := first | assumption | omega | rfl | simp only [RH]) only [↓RP, RG, FX, RQ, ↓reduceIte, Nat.reduceEqDiff, reduceCtorEq, Nat.reduceBEq, Nat.reduceAdd, Nat.reduceLeDiff]
  rw [resVal_2 rfl]; simp (disch := first | assumption | omega | rfl | simp only [RH]) only [↓RP, RG, FX, RQ, ↓reduceIte, Nat.reduceEqDiff, reduceCtorEq, Nat.reduceBEq, Nat.reduceAdd, Nat.reduceLeDiff, RS]
  first | done | rfl
theorem listP_c (c : Bool) : Contract Tryd.prog 8 [GA W H b l, I (if c then 0 else 1)] (.tuple [flV true (sdK W H l c wl (W + H)), I 0]) := by
  have hz : gchk W H l.length = 0 := gchk_ok ⟨by omega, by omega, by omega, by omega, by rw [hn, Int.natCast_mul]⟩
  have hck := gcheckP_c W H b l
  rw [hz] at hck
  have hsd := side_s hW0 hH0 hW hH b hn c 24 [] [] wl (fun _ => rfl) (fun _ => rfl) wl_c [⟨24, 3, [I W, I H, BA b l]⟩] (shutB_1 W H b l)
  cases c with
  | true =>
    refine Contract.intro (effS [] false) 6 follows Tryd.func8 rfl rfl (by kernel_rfl) (Nat.le_of_ble_eq_true rfl) ?_
    simp (disch := first | assumption | omega | rfl | simp only [RH]) only [↓RP, RG, FX, RQ, ↓reduceIte, Nat.reduceEqDiff, reduceCtorEq, Nat.reduceBEq, Nat.reduceAdd, Nat.reduceLeDiff, args0_2, Bool.false_eq_true]
    refine callK_F 6 (hck) (by simp (disch := first | assumption | omega | rfl | simp only [RH]) only [↓RP, RG, FX, RQ, ↓reduceIte, Nat.reduceEqDiff, reduceCtorEq, Nat.reduceBEq, Nat.reduceAdd, Nat.reduceLeDiff, RA] <;> rfl) (.inl (by simp [allFresh, ints_fresh, bools_fresh])) ?_
    simp (disch := first | assumption | omega | rfl | simp only [RH]) only [↓RP, RG, FX, RQ, ↓reduceIte, Nat.reduceEqDiff, reduceCtorEq, Nat.reduceBEq, Nat.reduceAdd, Nat.reduceLeDiff]
    refine callK_T rfl hsd ?_
    simp (disch := first | assumption | omega | rfl | simp only [RH]) only [↓RP, RG, FX, RQ, ↓reduceIte, Nat.reduceEqDiff, reduceCtorEq, Nat.reduceBEq, Nat.reduceAdd, Nat.reduceLeDiff]
    rw [resVal_2 rfl]; simp (disch := first | assumption | omega | rfl | simp only [RH]) only [↓RP, RG, FX, RQ, ↓reduceIte, Nat.reduceEqDiff, reduceCtorEq, Nat.reduceBEq, Nat.reduceAdd, Nat.reduceLeDiff, RS]
    rw [resOf_gwF (by rfl)]
  | false =>
    refine Contract.intro (effS [] false) 6 follows Tryd.func8 rfl rfl (by kernel_rfl) (Nat.le_of_ble_eq_true rfl) ?_
    simp (disch := first | assumption | omega | rfl | simp only [RH]) only [↓RP, RG, FX, RQ, ↓reduceIte, Nat.reduceEqDiff, reduceCtorEq, Nat.reduceBEq, Nat.reduceAdd, Nat.reduceLeDiff, args0_2, Bool.false_eq_true]
    refine callK_F 6 (hck) (by simp (disch := first | assumption | omega | rfl | simp only [RH]) only [↓RP, RG, FX, RQ, ↓reduceIte, Nat.reduceEqDiff, reduceCtorEq, Nat.reduceBEq, Nat.reduceAdd, Nat.reduceLeDiff, RA] <;> rfl) (.inl (by simp [allFresh, ints_fresh, bools_fresh])) ?_
    simp (disch := first | assumption | omega | rfl | simp only [RH]) only [↓RP, RG, FX, RQ, ↓reduceIte, Nat.reduceEqDiff, reduceCtorEq, Nat.reduceBEq, Nat.reduceAdd, Nat.reduceLeDiff]
    refine callK_T rfl hsd ?_
    simp (disch := first | assumption | omega | rfl | simp only [RH]) only [↓RP, RG, FX, RQ, ↓reduceIte, Nat.reduceEqDiff, reduceCtorEq, Nat.reduceBEq, Nat.reduceAdd, Nat.reduceLeDiff]
    rw [resVal_2 rfl]; simp (disch := first | assumption | omega | rfl | simp only [RH]) only [↓RP, RG, FX, RQ, ↓reduceIte, Nat.reduceEqDiff, reduceCtorEq, Nat.reduceBEq, Nat.reduceAdd, Nat.reduceLeDiff, RS]
    rw [resOf_gwF (by rfl)]
end
/-- The length of the longest of the first. -/
def lgF (xs : List Fl) : Nat → Nat
  | 0 => 0
  | i + 1 => max (lgF xs i) (flD xs i).n
theorem longestP_c (w h : Int) (b : Bool) (l : List Bool) (s e : Int) {xs : List Fl} (hx : xs.length ≤ 100000) (hl : Contract Tryd.prog 8 [GA w h b l, I s] (.tuple [flV true xs, I e])) : Contract Tryd.prog 18 [GA w h b l, I s] (.tuple [I (lgF xs xs.length), I e]) := by
  refine Contract.intro (effS [] false) 6 follows Tryd.func18 rfl rfl (by kernel_rfl) (Nat.le_of_ble_eq_true rfl) ?_
  simp (disch := first | assumption | omega | rfl | simp only [RH]) only [↓RP, RG, FX, RQ, ↓reduceIte, Nat.reduceEqDiff, reduceCtorEq, Nat.reduceBEq, Nat.reduceAdd, Nat.reduceLeDiff, args0_2]
  refine callK_F 6 hl (by simp (disch := first | assumption | omega | rfl | simp only [RH]) only [↓RP, RG, FX, RQ, ↓reduceIte, Nat.reduceEqDiff, reduceCtorEq, Nat.reduceBEq, Nat.reduceAdd, Nat.reduceLeDiff, RA] <;> rfl) (.inl (by simp [flV, allFresh, fls_fresh])) ?_
  simp (disch := first | assumption | omega | rfl | simp only [RH]) only [↓RP, RG, FX, RQ, ↓reduceIte, Nat.reduceEqDiff, reduceCtorEq, Nat.reduceBEq, Nat.reduceAdd, Nat.reduceLeDiff, flV]
  refine loopK_WW [7, 8, 17, 18, 19] (fun i : Nat => i ≤ xs.length) (fun i => ⟨[(7, I e), (8, I (lgF xs i)), (17, .list true xs.isEmpty xs.length (fls xs)), (18, I xs.length), (19, I i)], [⟨24, 3, [I w, I h, BA b l]⟩]⟩) (fun i => xs.length - i) 0 (by omega) (Wk.of_eq (by simp only [↓RP, RG, FX, RQ, ↓reduceIte, Nat.reduceEqDiff, reduceCtorEq, Nat.reduceBEq, Nat.reduceAdd, Nat.reduceLeDiff]; rfl)) ?_
  intro i hi
  by_cases hlt : i < xs.length
  · have hpx : pX (some (true, 5)) ((fls xs).drop (i * 5)) = some (.agg [B (flD xs i).w, I (flD xs i).a, I (flD xs i).f, I (flD xs i).n, B (flD xs i).z]) := pX_fls hlt
    simp (disch := first | assumption | omega | rfl | simp only [RH]) only [↓RP, RG, FX, RQ, ↓reduceIte, Nat.reduceEqDiff, reduceCtorEq, Nat.reduceBEq, Nat.reduceAdd, Nat.reduceLeDiff, hpx, Int.toNat_natCast]
    have hm : max ((lgF xs i : Nat) : Int) ((flD xs i).n : Int) = ((lgF xs (i + 1) : Nat) : Int) := by
      show _ = ((max (lgF xs i) (flD xs i).n : Nat) : Int); omega
    rw [hm]
    exact ⟨i + 1, by omega, (Wk.drop (hb := []) (h1 := []) (gs := [_, _]) 8 [0] rfl (by simp) (by simp) (by simp)).trans (Wk.of_eq (by simp only [RK, List.idxOf?_cons, List.idxOf?_nil, Nat.reduceBEq, Option.map_some, Option.map_none, List.map_cons, List.map_nil, List.getD_cons_zero, List.getD_cons_succ, Bool.false_eq_true, ↓reduceIte, Nat.add_zero, List.append_nil, map_ren_bools, map_ren_fls]; rfl)), by omega⟩
  · obtain rfl : xs.length = i := by omega
    simp (disch := first | assumption | omega | rfl | simp only [RH]) only [↓RP, RG, FX, RQ, ↓reduceIte, Nat.reduceEqDiff, reduceCtorEq, Nat.reduceBEq, Nat.reduceAdd, Nat.reduceLeDiff]
    rw [resVal_2 rfl]; simp (disch := first | assumption | omega | rfl | simp only [RH]) only [↓RP, RG, FX, RQ, ↓reduceIte, Nat.reduceEqDiff, reduceCtorEq, Nat.reduceBEq, Nat.reduceAdd, Nat.reduceLeDiff, RS]
    first | done | rfl
section
variable {W H : Nat} (hW0 : 0 < W) (hH0 : 0 < H) (hW : W ≤ 64) (hH : H ≤ 64) (b : Bool) {l : List Bool} (hn : l.length = W * H)
include hW0 hH0 hW hH hn
theorem overP_arg {m : Int} (h0 : m < 0) : Contract Tryd.prog 16 [GA W H b l, I m] (.tuple [flV true [], I 2]) := by
  have hz : gchk W H l.length = 0 := gchk_ok ⟨by omega, by omega, by omega, by omega, by rw [hn, Int.natCast_mul]⟩
  have hck := gcheckP_c W H b l
  rw [hz] at hck
  refine Contract.intro (effS [23] false [2] [0, 1]) 6 follows Tryd.func16 rfl rfl (by kernel_rfl) (Nat.le_of_ble_eq_true rfl) ?_
  simp (disch := first | assumption | omega | rfl | simp only [RH]) only [↓RP, RG, FX, RQ, ↓reduceIte, Nat.reduceEqDiff, reduceCtorEq, Nat.reduceBEq, Nat.reduceAdd, Nat.reduceLeDiff, args0_2]
  refine callK_F 6 (hck) (by simp (disch := first | assumption | omega | rfl | simp only [RH]) only [↓RP, RG, FX, RQ, ↓reduceIte, Nat.reduceEqDiff, reduceCtorEq, Nat.reduceBEq, Nat.reduceAdd, Nat.reduceLeDiff, RA] <;> rfl) (.inl (by simp [allFresh, ints_fresh, bools_fresh])) ?_
  simp (disch := first | assumption | omega | rfl | simp only [RH]) only [↓RP, RG, FX, RQ, ↓reduceIte, Nat.reduceEqDiff, reduceCtorEq, Nat.reduceBEq, Nat.reduceAdd, Nat.reduceLeDiff]
  rw [resVal_2 rfl]; simp (disch := first | assumption | omega | rfl | simp only [RH]) only [↓RP, RG, FX, RQ, ↓reduceIte, Nat.reduceEqDiff, reduceCtorEq, Nat.reduceBEq, Nat.reduceAdd, Nat.reduceLeDiff, RS]
  first | done | rfl
theorem overFP_c {m : Int} (h0 : 0 ≤ m) : Contract Tryd.prog 16 [GA W H b l, I m] (.tuple [flV true (sdK W H l true (wo m) (W + H) ++ sdK W H l false (wo m) (W + H)), I 0]) := by
  have hz : gchk W H l.length = 0 := gchk_ok ⟨by omega, by omega, by omega, by omega, by rw [hn, Int.natCast_mul]⟩
  have hck := gcheckP_c W H b l
  rw [hz] at hck
  have hs1 := side_s hW0 hH0 hW hH b hn true 33 [.spot true [I m]] [.spot false [I m]] (wo m) (fun _ => rfl) (fun _ => rfl) (wo_c false m) [] (fun o ho => by cases ho)
  have hs2 := side_s hW0 hH0 hW hH b hn false 33 [.spot true [I m]] [.spot false [I m]] (wo m) (fun _ => rfl) (fun _ => rfl) (wo_c false m) [goW 34 5 (fls (sdK W H l true (wo m) (W + H)))] (shutB_2 _)
  have hl1 := sdK_len hW0 hH0 hW hH l true (wo m) (W + H)
  have hl2 := sdK_len hW0 hH0 hW hH l false (wo m) (W + H)
  have hc : (sdK W H l true (wo m) (W + H) ++ sdK W H l false (wo m) (W + H)).length = (sdK W H l true (wo m) (W + H)).length + (sdK W H l false (wo m) (W + H)).length := List.length_append
  generalize sdK W H l true (wo m) (W + H) = xs at *
  generalize sdK W H l false (wo m) (W + H) = ys at *
  refine Contract.intro (effS [23] false [2] [0, 1]) 6 follows Tryd.func16 rfl rfl (by kernel_rfl) (Nat.le_of_ble_eq_true rfl) ?_
  simp (disch := first | assumption | omega | rfl | simp only [RH]) only [↓RP, RG, FX, RQ, ↓reduceIte, Nat.reduceEqDiff, reduceCtorEq, Nat.reduceBEq, Nat.reduceAdd, Nat.reduceLeDiff, args0_2]
  refine callK_F 6 (hck) (by simp (disch := first | assumption | omega | rfl | simp only [RH]) only [↓RP, RG, FX, RQ, ↓reduceIte, Nat.reduceEqDiff, reduceCtorEq, Nat.reduceBEq, Nat.reduceAdd, Nat.reduceLeDiff, RA] <;> rfl) (.inl (by simp [allFresh, ints_fresh, bools_fresh])) ?_
  simp (disch := first | assumption | omega | rfl | simp only [RH]) only [↓RP, RG, FX, RQ, ↓reduceIte, Nat.reduceEqDiff, reduceCtorEq, Nat.reduceBEq, Nat.reduceAdd, Nat.reduceLeDiff]
  refine callK_T rfl hs1 ?_
  simp (disch := first | assumption | omega | rfl | simp only [RH]) only [↓RP, RG, FX, RQ, ↓reduceIte, Nat.reduceEqDiff, reduceCtorEq, Nat.reduceBEq, Nat.reduceAdd, Nat.reduceLeDiff]
  refine callK_T rfl hs2 ?_
  have hap : aAppend Tryd.prog 29 [goW 34 5 (fls xs), goW 34 5 (fls ys)] (gwW 5 0 xs.length) (gwW 5 1 ys.length) = some (gwW 5 0 (xs.length + ys.length), [goW 34 5 (fls xs ++ fls ys), goW 34 5 (fls ys)]) :=
    append_WW (xs := fls xs) (ys := fls ys) rfl (fls_length xs) (by rw [sview_gwW]; exact gSW_go (fls_length ys)) (fls_length ys) (fls_one ys) (by omega) (by omega)
  simp (disch := first | assumption | omega | rfl | simp only [RH]) only [↓RP, RG, FX, RQ, ↓reduceIte, Nat.reduceEqDiff, reduceCtorEq, Nat.reduceBEq, Nat.reduceAdd, Nat.reduceLeDiff, hap]
  rw [← fls_app]
  rw [resVal_2 rfl]; simp (disch := first | assumption | omega | rfl | simp only [RH]) only [↓RP, RG, FX, RQ, ↓reduceIte, Nat.reduceEqDiff, reduceCtorEq, Nat.reduceBEq, Nat.reduceAdd, Nat.reduceLeDiff, RS]
  rw [← hc, resOf_gwF (by rfl)]
end
end Go.Proofs.YtgjjdcoeleddaaaDoor

/- Chapter 8: the floats of a thread in the reference. -/
set_option linter.unusedSimpArgs false
set_option linter.unusedVariables false
set_option maxRecDepth 100000
namespace Go.Proofs.YtgjjdcoeleddaaaDoor
open Go Go.Proofs Go.AW

end Go.Proofs.YtgjjdcoeleddaaaDoor

/- Chapter 8: List, Longest, Over of the reference. -/
set_option linter.unusedSimpArgs false
set_option linter.unusedVariables false
set_option maxRecDepth 100000
namespace Go.Proofs.YtgjjdcoeleddaaaDoor
open Go Go.Proofs Go.AW

/-- All floats of one side. -/
def alK (W H : Nat) (l : List Bool) (c : Bool) (k : Nat) : List Fl := (List.range k).flatMap (thK W H l c)
theorem alK_succ (W H : Nat) (l : List Bool) (c : Bool) (k : Nat) : alK W H l c (k + 1) = alK W H l c k ++ thK W H l c k := by simp [alK, List.range_succ]
theorem sdK_filter (W H : Nat) (l : List Bool) (c : Bool) (wt : Fl → Bool) (k : Nat) : sdK W H l c wt k = (alK W H l c k).filter wt := by
  induction k with
  | zero => rfl
  | succ k ih => rw [sdK_succ, alK_succ, List.filter_append, ih]
theorem thF_pos {w : Bool} {a : Nat} {f : List Bool} {c : Bool} (h0 : 0 < f.length) : ∀ x ∈ thF w a f c, 0 < x.n := by
  intro x hx
  unfold thF at hx
  split at hx
  · simp only [List.mem_singleton] at hx; subst hx; exact h0
  · simp only [stL, List.mem_map] at hx
    obtain ⟨i, hi, rfl⟩ := hx
    obtain ⟨h1, h2⟩ := sts_mem.1 hi
    unfold stR at h2
    simp only [Bool.and_eq_true, beq_iff_eq] at h2
    exact lenR_pos h1 h2.1
theorem wl_pos {x : Fl} (h : 0 < x.n) : wl x = true := by
  have : ((x.n : Int) == 0) = false := by simpa using (by omega : ¬ x.n = 0)
  unfold wl; rw [this]; simp
theorem alK_pos {W H : Nat} (hW0 : 0 < W) (hH0 : 0 < H) (l : List Bool) (c : Bool) (k : Nat) : ∀ x ∈ alK W H l c k, 0 < x.n := by
  intro x hx
  rw [alK, List.mem_flatMap] at hx
  obtain ⟨i, _, hi⟩ := hx
  exact thF_pos (by rw [faK_len]; split <;> omega) x hi
theorem sdK_all {W H : Nat} (hW0 : 0 < W) (hH0 : 0 < H) (l : List Bool) (c : Bool) (k : Nat) : sdK W H l c wl k = alK W H l c k := by
  rw [sdK_filter, List.filter_eq_self]
  exact fun x hx => wl_pos (alK_pos hW0 hH0 l c k x hx)
theorem alK_len {W H : Nat} (hW0 : 0 < W) (hH0 : 0 < H) (hW : W ≤ 64) (hH : H ≤ 64) (l : List Bool) (c : Bool) (k : Nat) : (alK W H l c k).length ≤ k * 64 := by
  rw [← sdK_all hW0 hH0]; exact sdK_len hW0 hH0 hW hH l c wl k
section
variable {W H : Nat} (hW0 : 0 < W) (hH0 : 0 < H) (hW : W ≤ 64) (hH : H ≤ 64) (b : Bool) {l : List Bool} (hn : l.length = W * H)
include hW0 hH0 hW hH hn
end
section
variable {W H : Nat} (hW0 : 0 < W) (hH0 : 0 < H) (hW : W ≤ 64) (hH : H ≤ 64) (b : Bool) {l : List Bool} (hn : l.length = W * H)
include hW0 hH0 hW hH hn
end
end Go.Proofs.YtgjjdcoeleddaaaDoor

/- The law FloatLists. -/
set_option linter.unusedSimpArgs false
set_option linter.unusedVariables false
set_option maxRecDepth 100000
namespace Go.Proofs.YtgjjdcoeleddaaaDoor
open Go Go.Proofs Go.AW

end Go.Proofs.YtgjjdcoeleddaaaDoor

/- Tables for the run of closed code. -/
set_option maxRecDepth 100000
set_option linter.unusedSimpArgs false
namespace Go.Proofs.YtgjjdcoeleddaaaDoor
open Go Go.Proofs Go.AW
noncomputable def tabE : List (Nat × EffF) := [] ++ [5, 7, 8, 15, 16, 17, 18, 19, 22, 23, 24, 26, 27, 32, 33, 34, 35, 36, 37, 38, 39, 40, 41, 42, 43, 44, 45, 46, 47, 48, 49, 50, 51, 52, 53, 54, 55, 56, 57, 58, 59, 60, 61, 62, 63, 64, 65, 66, 67, 68, 69, 70, 71, 72, 73, 74, 75, 76, 78, 79, 80, 81, 82, 83, 84, 85, 86, 88, 89, 90, 92].map fun f => (f, effS [] false)
theorem tabE_ok : tabE.all (chkE Tryd.prog) = true := by kernel_rfl
noncomputable def tabS : List (Nat × (Array Value → Sem Value)) := [(77, Extern.BytealgCount.count), (91, Extern.BytealgIndexByte.indexByte)]
noncomputable def xT : XT := ⟨lookE tabE, hasN [38, 39, 42, 52, 53, 63, 64, 65, 66, 69, 70, 79], extE Tryd.prog [] tabS, noOrc⟩
theorem xExt : ∀ f avs v, extE Tryd.prog [] tabS f avs = some v → ExtOk Tryd.prog f avs v := extE_ok (fun f hf => by
  simp only [List.mem_cons, List.not_mem_nil, or_false] at hf
  ) (fun p hp => by
  simp only [tabS, List.mem_cons, List.not_mem_nil, or_false] at hp
  rcases hp with rfl | rfl
  · exact ⟨_, Tryd.func77, by kernel_rfl, by kernel_rfl, by kernel_rfl, by kernel_rfl⟩
  · exact ⟨_, Tryd.func91, by kernel_rfl, by kernel_rfl, by kernel_rfl, by kernel_rfl⟩
  )
theorem xGood : xT.Good Tryd.prog := XT.good follows tabE_ok xExt noOrc_ok
end Go.Proofs.YtgjjdcoeleddaaaDoor

/- Chapter 8: the examples. -/
set_option linter.unusedSimpArgs false
set_option linter.unusedVariables false
set_option maxRecDepth 100000
namespace Go.Proofs.YtgjjdcoeleddaaaDoor
open Go Go.Proofs Go.AW

def exA : List Bool := [true, true, false, false, false, true, true, false, false, false, true, true, true, false, false, true]
def exB : List Bool := [true, false, false, true]
def exC : List Bool := [true, false]
theorem exA_c : Contract Tryd.prog 8 [GA 4 4 false exA, I 0] (.tuple [flV true (alK 4 4 exA true 8), I 0]) := by
  have h := listP_c (W := 4) (H := 4) (by omega) (by omega) (by omega) (by omega) false (l := exA) rfl true
  rwa [sdK_all (by omega) (by omega)] at h
theorem exC_c : Contract Tryd.prog 8 [GA 2 1 false exC, I 0] (.tuple [flV true (alK 2 1 exC true 3), I 0]) := by
  have h := listP_c (W := 2) (H := 1) (by omega) (by omega) (by omega) (by omega) false (l := exC) rfl true
  rwa [sdK_all (by omega) (by omega)] at h
theorem exB_c : Contract Tryd.prog 18 [GA 2 2 false exB, I 0] (.tuple [I 1, I 0]) := by
  have h := listP_c (W := 2) (H := 2) (by omega) (by omega) (by omega) (by omega) false (l := exB) rfl true
  rw [sdK_all (by omega) (by omega)] at h
  have h2 := longestP_c 2 2 false exB 0 0 (by have := alK_len (W := 2) (H := 2) (by omega) (by omega) (by omega) (by omega) exB true (2 + 2); omega) h
  exact h2
theorem exD_c : Contract Tryd.prog 19 [GA 2 2 false exB, B false, I 1] (.tuple [I 2, I 0]) :=
  crossgP_r (W := 2) (H := 2) (by omega) (by omega) (by omega) (by omega) false (l := exB) rfl (y := 1) (by omega)
noncomputable def orc8 : List (Nat × List AVal × AVal) := [(8, [GA 4 4 false exA, I 0], .tuple [flV true (alK 4 4 exA true 8), I 0]), (8, [GA 2 1 false exC, I 0], .tuple [flV true (alK 2 1 exC true 3), I 0]), (18, [GA 2 2 false exB, I 0], .tuple [I 1, I 0]), (19, [GA 2 2 false exB, B false, I 1], .tuple [I 2, I 0])]
theorem xGood8 : XT.Good Tryd.prog { xT with orc := lookO orc8 } := XT.withO xGood (by
  intro p hp
  simp only [orc8, List.mem_cons, List.not_mem_nil, or_false] at hp
  rcases hp with rfl | rfl | rfl | rfl
  · exact exA_c
  · exact exC_c
  · exact exB_c
  · exact exD_c)
theorem alive8_c : Contract Tryd.prog 7 [] (B true) := Contract.run xGood8 5000 (by kernel_rfl)
end Go.Proofs.YtgjjdcoeleddaaaDoor

/- The law FloatNames: a closed run; the chapter's functions by their contracts. -/
set_option linter.unusedSimpArgs false
set_option linter.unusedVariables false
set_option maxRecDepth 100000
namespace Go.Proofs.YtgjjdcoeleddaaaDoor
open Go Go.Proofs Go.AW

def exG : List Bool := [true, true, false, false, false, false, true, false, false, true, true, true, true, false, false]
def exS : List Bool := [true]
theorem nm_1 : Contract Tryd.prog 8 [GA 5 3 false exG, I 1] (.tuple [flV true (alK 5 3 exG false 8), I 0]) := by
  have h := listP_c (W := 5) (H := 3) (by omega) (by omega) (by omega) (by omega) false (l := exG) rfl false
  rwa [sdK_all (by omega) (by omega)] at h
theorem nm_2 : Contract Tryd.prog 16 [GA 5 3 false exG, I 1] (.tuple [flV true (sdK 5 3 exG true (wo 1) 8 ++ sdK 5 3 exG false (wo 1) 8), I 0]) :=
  overFP_c (W := 5) (H := 3) (by omega) (by omega) (by omega) (by omega) false (l := exG) rfl (m := 1) (by omega)
theorem nm_3 : Contract Tryd.prog 16 [GA 5 3 false exG, I 9] (.tuple [flV true (sdK 5 3 exG true (wo 9) 8 ++ sdK 5 3 exG false (wo 9) 8), I 0]) :=
  overFP_c (W := 5) (H := 3) (by omega) (by omega) (by omega) (by omega) false (l := exG) rfl (m := 9) (by omega)
theorem nm_4 : Contract Tryd.prog 11 [GA 5 3 false exG] (.tuple [I (ctC 5 3 exG 5), I (ctR 5 exG 3), I 0]) :=
  countP_c (W := 5) (H := 3) (by omega) (by omega) (by omega) (by omega) false (l := exG) rfl
theorem nm_5 : Contract Tryd.prog 8 [GA 5 3 false exG, I 2] (.tuple [flV true [], I 2]) :=
  listP_arg (W := 5) (H := 3) (by omega) (by omega) (by omega) (by omega) false (l := exG) rfl (s := 2) (by omega) (by omega)
theorem nm_6 : Contract Tryd.prog 18 [GA 5 3 false exG, I (-1)] (.tuple [I 0, I 2]) :=
  longestP_c 5 3 false exG (-1) 2 (xs := []) (by simp) (listP_arg (W := 5) (H := 3) (by omega) (by omega) (by omega) (by omega) false (l := exG) rfl (s := -1) (by omega) (by omega))
theorem nm_7 : Contract Tryd.prog 16 [GA 5 3 false exG, I (-1)] (.tuple [flV true [], I 2]) :=
  overP_arg (W := 5) (H := 3) (by omega) (by omega) (by omega) (by omega) false (l := exG) rfl (m := -1) (by omega)
theorem nm_8 : Contract Tryd.prog 19 [GA 5 3 false exG, B true, I 5] (.tuple [I 0, I 2]) :=
  crossgP_noC (W := 5) (H := 3) (by omega) (by omega) (by omega) (by omega) false (l := exG) rfl (a := 5) (fun i _ h => by omega)
theorem nm_9 : Contract Tryd.prog 19 [GA 5 3 false exG, B false, I 3] (.tuple [I 0, I 2]) :=
  crossgP_noR (W := 5) (H := 3) (by omega) (by omega) (by omega) (by omega) false (l := exG) rfl (a := 3) (fun i h _ => by omega)
theorem nm_10 : Contract Tryd.prog 19 [GA 5 3 false exG, B false, I (-1)] (.tuple [I 0, I 2]) :=
  crossgP_noR (W := 5) (H := 3) (by omega) (by omega) (by omega) (by omega) false (l := exG) rfl (a := -1) (fun i _ _ => by omega)
theorem nm_11 : Contract Tryd.prog 8 [GA 0 0 true [], I 5] (.tuple [flV true [], I 8]) := listP_bad 0 0 true [] 5 (by decide)
theorem nm_12 : Contract Tryd.prog 11 [GA 65 0 true []] (.tuple [I 0, I 0, I 4]) := countP_bad 65 0 true [] (by decide)
theorem nm_13 : Contract Tryd.prog 18 [GA 1 1 false exS, I 1] (.tuple [I 1, I 0]) := by
  have h := listP_c (W := 1) (H := 1) (by omega) (by omega) (by omega) (by omega) false (l := exS) rfl false
  rw [sdK_all (by omega) (by omega)] at h
  exact longestP_c 1 1 false exS 1 0 (by have := alK_len (W := 1) (H := 1) (by omega) (by omega) (by omega) (by omega) exS false (1 + 1); omega) h
noncomputable def orcN : List (Nat × List AVal × AVal) := [(8, [GA 5 3 false exG, I 1], .tuple [flV true (alK 5 3 exG false 8), I 0]),
  (16, [GA 5 3 false exG, I 1], .tuple [flV true (sdK 5 3 exG true (wo 1) 8 ++ sdK 5 3 exG false (wo 1) 8), I 0]),
  (16, [GA 5 3 false exG, I 9], .tuple [flV true (sdK 5 3 exG true (wo 9) 8 ++ sdK 5 3 exG false (wo 9) 8), I 0]),
  (11, [GA 5 3 false exG], .tuple [I (ctC 5 3 exG 5), I (ctR 5 exG 3), I 0]),
  (8, [GA 5 3 false exG, I 2], .tuple [flV true [], I 2]),
  (18, [GA 5 3 false exG, I (-1)], .tuple [I 0, I 2]),
  (16, [GA 5 3 false exG, I (-1)], .tuple [flV true [], I 2]),
  (19, [GA 5 3 false exG, B true, I 5], .tuple [I 0, I 2]),
  (19, [GA 5 3 false exG, B false, I 3], .tuple [I 0, I 2]),
  (19, [GA 5 3 false exG, B false, I (-1)], .tuple [I 0, I 2]),
  (8, [GA 0 0 true [], I 5], .tuple [flV true [], I 8]),
  (11, [GA 65 0 true []], .tuple [I 0, I 0, I 4]),
  (18, [GA 1 1 false exS, I 1], .tuple [I 1, I 0]),
  (7, [], B true)]
theorem xGoodN : XT.Good Tryd.prog { xT with orc := lookO orcN } := XT.withO xGood (by
  intro p hp
  simp only [orcN, List.mem_cons, List.not_mem_nil, or_false] at hp
  rcases hp with rfl | rfl | rfl | rfl | rfl | rfl | rfl | rfl | rfl | rfl | rfl | rfl | rfl | rfl
  · exact nm_1
  · exact nm_2
  · exact nm_3
  · exact nm_4
  · exact nm_5
  · exact nm_6
  · exact nm_7
  · exact nm_8
  · exact nm_9
  · exact nm_10
  · exact nm_11
  · exact nm_12
  · exact nm_13
  · exact alive8_c)
theorem floatNames_c : Contract Tryd.prog 5 [] (B true) := Contract.run xGoodN 5000 (by kernel_rfl)
end Go.Proofs.YtgjjdcoeleddaaaDoor
