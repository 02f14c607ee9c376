/- Part 1 of the proof's own texts: the contracts of functions, and what they rest on. -/
import Derived.Test.YtllijejobeogdaaGreatDoorProg
import Derived.Test.YtllijejobeogdaaGreatDoorBw3
import Derived.Shelf.Sort.AssemblyIn
import Derived.Shelf.Slices.CompactI
import Derived.Test.YtllijejobeogdaaGreatDoorBw4
import Derived.Test.YtllijejobeogdaaGreatDoorBw5
import Derived.Shelf.SlSortCmp.WholeK
/- Closed facts on the types. -/
namespace Go.Proofs.YtllijejobeogdaaGreatDoor
open Go Go.Proofs Go.AW
theorem follows : Tryz.prog.follows .mixedOrders = true := by kernel_rfl
-- 3: int
theorem ag3 : agT Tryz.prog 3 = some (false, 1) := by kernel_rfl
theorem zc3 : zT Tryz.prog 3 = some ([I 0], 1) := by kernel_rfl
-- 4: bool
theorem ag4 : agT Tryz.prog 4 = some (false, 1) := by kernel_rfl
theorem zc4 : zT Tryz.prog 4 = some ([B false], 1) := by kernel_rfl
instance bo4 : BoT Tryz.prog 4 := ⟨by kernel_rfl⟩
-- 5: uint8
theorem ag5 : agT Tryz.prog 5 = some (false, 1) := by kernel_rfl
theorem zc5 : zT Tryz.prog 5 = some ([.val (.int .u8 0)], 1) := by kernel_rfl
-- 9: string
theorem ag9 : agT Tryz.prog 9 = some (false, 1) := by kernel_rfl
theorem zc9 : zT Tryz.prog 9 = some ([.val (.string ⟨#[]⟩)], 1) := by kernel_rfl
-- 21: int32
theorem ag21 : agT Tryz.prog 21 = some (false, 1) := by kernel_rfl
theorem zc21 : zT Tryz.prog 21 = some ([.val (.int .i32 0)], 1) := by kernel_rfl
-- 22: []bool
theorem ag22 : agT Tryz.prog 22 = some (false, 1) := by kernel_rfl
theorem zc22 : zT Tryz.prog 22 = some ([.cap0 true], 1) := by kernel_rfl
instance S22 : SlT Tryz.prog 22 4 1 (.bool false) := SlT.of (by kernel_rfl) (by kernel_rfl)
-- 24: api.Grid
theorem ag24 : agT Tryz.prog 24 = some (true, 3) := by kernel_rfl
theorem zc24 : zT Tryz.prog 24 = some ([I 0, I 0, .cap0 true], 3) := by kernel_rfl
theorem fo24_0 : fOff Tryz.prog 24 0 = some 0 := by kernel_rfl
theorem ft24_0 : fOT Tryz.prog 24 0 = some (0, 3) := by kernel_rfl
theorem fo24_1 : fOff Tryz.prog 24 1 = some 1 := by kernel_rfl
theorem ft24_1 : fOT Tryz.prog 24 1 = some (1, 3) := by kernel_rfl
theorem fo24_2 : fOff Tryz.prog 24 2 = some 2 := by kernel_rfl
theorem ft24_2 : fOT Tryz.prog 24 2 = some (2, 22) := by kernel_rfl
theorem fl24 : flT Tryz.prog 24 = some ([(0, 1), (1, 1), (2, 1)], [I 0, I 0, .cap0 true]) := by kernel_rfl
-- 27: api.Errno
theorem ag27 : agT Tryz.prog 27 = some (false, 1) := by kernel_rfl
theorem zc27 : zT Tryz.prog 27 = some ([I 0], 1) := by kernel_rfl
-- 30: []api.Float
theorem ag30 : agT Tryz.prog 30 = some (false, 1) := by kernel_rfl
theorem zc30 : zT Tryz.prog 30 = some ([.cap0 true], 1) := by kernel_rfl
instance SM30 : SlM Tryz.prog 30 5 := ⟨by kernel_rfl⟩
instance SW30 : SlW Tryz.prog 30 37 5 40 := ⟨by kernel_rfl⟩
instance LT30_1 : LitT Tryz.prog 30 1 [(0, 5)] ([B false, I 0, I 0, I 0, B false]) := ⟨by kernel_rfl⟩
-- 34: []int
theorem ag34 : agT Tryz.prog 34 = some (false, 1) := by kernel_rfl
theorem zc34 : zT Tryz.prog 34 = some ([.cap0 true], 1) := by kernel_rfl
instance S34 : SlT Tryz.prog 34 3 8 (.int .i64 0) := SlT.of (by kernel_rfl) (by kernel_rfl)
-- 37: api.Float
theorem ag37 : agT Tryz.prog 37 = some (true, 5) := by kernel_rfl
theorem zc37 : zT Tryz.prog 37 = some ([B false, I 0, I 0, I 0, B false], 5) := by kernel_rfl
instance kt37 : KT Tryz.prog 37 ([true, false, false, false, true]) := ⟨by kernel_rfl, by kernel_rfl, by kernel_rfl, by kernel_rfl⟩
theorem fo37_0 : fOff Tryz.prog 37 0 = some 0 := by kernel_rfl
theorem ft37_0 : fOT Tryz.prog 37 0 = some (0, 4) := by kernel_rfl
theorem fo37_1 : fOff Tryz.prog 37 1 = some 1 := by kernel_rfl
theorem ft37_1 : fOT Tryz.prog 37 1 = some (1, 3) := by kernel_rfl
theorem fo37_2 : fOff Tryz.prog 37 2 = some 2 := by kernel_rfl
theorem ft37_2 : fOT Tryz.prog 37 2 = some (2, 3) := by kernel_rfl
theorem fo37_3 : fOff Tryz.prog 37 3 = some 3 := by kernel_rfl
theorem ft37_3 : fOT Tryz.prog 37 3 = some (3, 3) := by kernel_rfl
theorem fo37_4 : fOff Tryz.prog 37 4 = some 4 := by kernel_rfl
theorem ft37_4 : fOT Tryz.prog 37 4 = some (4, 4) := by kernel_rfl
theorem fl37 : flT Tryz.prog 37 = some ([(0, 1), (1, 1), (2, 1), (3, 1), (4, 1)], [B false, I 0, I 0, I 0, B false]) := by kernel_rfl
-- 44: func(api.Float) bool
theorem ag44 : agT Tryz.prog 44 = some (false, 1) := by kernel_rfl
theorem zc44 : zT Tryz.prog 44 = some ([.val .nilFunc], 1) := by kernel_rfl
-- 46: [][]int
theorem ag46 : agT Tryz.prog 46 = some (false, 1) := by kernel_rfl
theorem zc46 : zT Tryz.prog 46 = some ([.cap0 true], 1) := by kernel_rfl
instance S46 : SlT Tryz.prog 46 34 24 (.slice none 0 0) := SlT.of (by kernel_rfl) (by kernel_rfl)
-- 48: hang.order
theorem ag48 : agT Tryz.prog 48 = some (true, 2) := by kernel_rfl
theorem zc48 : zT Tryz.prog 48 = some ([.cap0 true, .cap0 true], 2) := by kernel_rfl
theorem fo48_0 : fOff Tryz.prog 48 0 = some 0 := by kernel_rfl
theorem ft48_0 : fOT Tryz.prog 48 0 = some (0, 46) := by kernel_rfl
theorem fo48_1 : fOff Tryz.prog 48 1 = some 1 := by kernel_rfl
theorem ft48_1 : fOT Tryz.prog 48 1 = some (1, 46) := by kernel_rfl
theorem fl48 : flT Tryz.prog 48 = some ([(0, 1), (1, 1)], [.cap0 true, .cap0 true]) := by kernel_rfl
-- 51: func(int) bool
theorem ag51 : agT Tryz.prog 51 = some (false, 1) := by kernel_rfl
theorem zc51 : zT Tryz.prog 51 = some ([.val .nilFunc], 1) := by kernel_rfl
-- 58: iter.Seq[raddle/float.line]
theorem ag58 : agT Tryz.prog 58 = some (false, 1) := by kernel_rfl
theorem zc58 : zT Tryz.prog 58 = some ([.val .nilFunc], 1) := by kernel_rfl
-- 61: float.line
theorem ag61 : agT Tryz.prog 61 = some (true, 3) := by kernel_rfl
theorem zc61 : zT Tryz.prog 61 = some ([B false, I 0, .cap0 true], 3) := by kernel_rfl
theorem fo61_0 : fOff Tryz.prog 61 0 = some 0 := by kernel_rfl
theorem ft61_0 : fOT Tryz.prog 61 0 = some (0, 4) := by kernel_rfl
theorem fo61_1 : fOff Tryz.prog 61 1 = some 1 := by kernel_rfl
theorem ft61_1 : fOT Tryz.prog 61 1 = some (1, 3) := by kernel_rfl
theorem fo61_2 : fOff Tryz.prog 61 2 = some 2 := by kernel_rfl
theorem ft61_2 : fOT Tryz.prog 61 2 = some (2, 22) := by kernel_rfl
theorem fl61 : flT Tryz.prog 61 = some ([(0, 1), (1, 1), (2, 1)], [B false, I 0, .cap0 true]) := by kernel_rfl
-- 63: iter.Seq[raddle/api.Float]
theorem ag63 : agT Tryz.prog 63 = some (false, 1) := by kernel_rfl
theorem zc63 : zT Tryz.prog 63 = some ([.val .nilFunc], 1) := by kernel_rfl
-- 70: []string
theorem ag70 : agT Tryz.prog 70 = some (false, 1) := by kernel_rfl
theorem zc70 : zT Tryz.prog 70 = some ([.cap0 true], 1) := by kernel_rfl
instance S70 : SlT Tryz.prog 70 9 16 (.string ⟨#[]⟩) := SlT.of (by kernel_rfl) (by kernel_rfl)
-- 74: func(float.line) bool
theorem ag74 : agT Tryz.prog 74 = some (false, 1) := by kernel_rfl
theorem zc74 : zT Tryz.prog 74 = some ([.val .nilFunc], 1) := by kernel_rfl
-- 77: func(api.Float, api.Float) int
theorem ag77 : agT Tryz.prog 77 = some (false, 1) := by kernel_rfl
theorem zc77 : zT Tryz.prog 77 = some ([.val .nilFunc], 1) := by kernel_rfl
-- 80: uint
theorem ag80 : agT Tryz.prog 80 = some (false, 1) := by kernel_rfl
theorem zc80 : zT Tryz.prog 80 = some ([.val (.int .u64 0)], 1) := by kernel_rfl
-- 85: strings.asciiSet
theorem ag85 : agT Tryz.prog 85 = some (true, 256) := by kernel_rfl
theorem zc85 : zT Tryz.prog 85 = some (bools (List.replicate 256 false), 256) := by kernel_rfl
instance kt85 : KT Tryz.prog 85 (List.replicate 256 true) := ⟨by kernel_rfl, by kernel_rfl, by kernel_rfl, by kernel_rfl⟩
instance AR85 : ArT Tryz.prog 85 256 := ⟨by kernel_rfl⟩
instance AE85 : ArE Tryz.prog 85 256 := ⟨by kernel_rfl⟩
theorem fl85 : flT Tryz.prog 85 = some ([(0, 1), (1, 1), (2, 1), (3, 1), (4, 1), (5, 1), (6, 1), (7, 1), (8, 1), (9, 1), (10, 1), (11, 1), (12, 1), (13, 1), (14, 1), (15, 1), (16, 1), (17, 1), (18, 1), (19, 1), (20, 1), (21, 1), (22, 1), (23, 1), (24, 1), (25, 1), (26, 1), (27, 1), (28, 1), (29, 1), (30, 1), (31, 1), (32, 1), (33, 1), (34, 1), (35, 1), (36, 1), (37, 1), (38, 1), (39, 1), (40, 1), (41, 1), (42, 1), (43, 1), (44, 1), (45, 1), (46, 1), (47, 1), (48, 1), (49, 1), (50, 1), (51, 1), (52, 1), (53, 1), (54, 1), (55, 1), (56, 1), (57, 1), (58, 1), (59, 1), (60, 1), (61, 1), (62, 1), (63, 1), (64, 1), (65, 1), (66, 1), (67, 1), (68, 1), (69, 1), (70, 1), (71, 1), (72, 1), (73, 1), (74, 1), (75, 1), (76, 1), (77, 1), (78, 1), (79, 1), (80, 1), (81, 1), (82, 1), (83, 1), (84, 1), (85, 1), (86, 1), (87, 1), (88, 1), (89, 1), (90, 1), (91, 1), (92, 1), (93, 1), (94, 1), (95, 1), (96, 1), (97, 1), (98, 1), (99, 1), (100, 1), (101, 1), (102, 1), (103, 1), (104, 1), (105, 1), (106, 1), (107, 1), (108, 1), (109, 1), (110, 1), (111, 1), (112, 1), (113, 1), (114, 1), (115, 1), (116, 1), (117, 1), (118, 1), (119, 1), (120, 1), (121, 1), (122, 1), (123, 1), (124, 1), (125, 1), (126, 1), (127, 1), (128, 1), (129, 1), (130, 1), (131, 1), (132, 1), (133, 1), (134, 1), (135, 1), (136, 1), (137, 1), (138, 1), (139, 1), (140, 1), (141, 1), (142, 1), (143, 1), (144, 1), (145, 1), (146, 1), (147, 1), (148, 1), (149, 1), (150, 1), (151, 1), (152, 1), (153, 1), (154, 1), (155, 1), (156, 1), (157, 1), (158, 1), (159, 1), (160, 1), (161, 1), (162, 1), (163, 1), (164, 1), (165, 1), (166, 1), (167, 1), (168, 1), (169, 1), (170, 1), (171, 1), (172, 1), (173, 1), (174, 1), (175, 1), (176, 1), (177, 1), (178, 1), (179, 1), (180, 1), (181, 1), (182, 1), (183, 1), (184, 1), (185, 1), (186, 1), (187, 1), (188, 1), (189, 1), (190, 1), (191, 1), (192, 1), (193, 1), (194, 1), (195, 1), (196, 1), (197, 1), (198, 1), (199, 1), (200, 1), (201, 1), (202, 1), (203, 1), (204, 1), (205, 1), (206, 1), (207, 1), (208, 1), (209, 1), (210, 1), (211, 1), (212, 1), (213, 1), (214, 1), (215, 1), (216, 1), (217, 1), (218, 1), (219, 1), (220, 1), (221, 1), (222, 1), (223, 1), (224, 1), (225, 1), (226, 1), (227, 1), (228, 1), (229, 1), (230, 1), (231, 1), (232, 1), (233, 1), (234, 1), (235, 1), (236, 1), (237, 1), (238, 1), (239, 1), (240, 1), (241, 1), (242, 1), (243, 1), (244, 1), (245, 1), (246, 1), (247, 1), (248, 1), (249, 1), (250, 1), (251, 1), (252, 1), (253, 1), (254, 1), (255, 1)], bools (List.replicate 256 false)) := by kernel_rfl
-- 89: *strings.asciiSet
theorem ag89 : agT Tryz.prog 89 = some (false, 1) := by kernel_rfl
theorem zc89 : zT Tryz.prog 89 = some ([.val (.pointer none)], 1) := by kernel_rfl
-- 93: slices.sortedHint
theorem ag93 : agT Tryz.prog 93 = some (false, 1) := by kernel_rfl
theorem zc93 : zT Tryz.prog 93 = some ([I 0], 1) := by kernel_rfl
-- 104: uint64
theorem ag104 : agT Tryz.prog 104 = some (false, 1) := by kernel_rfl
theorem zc104 : zT Tryz.prog 104 = some ([.val (.int .u64 0)], 1) := by kernel_rfl
-- 121: slices.xorshift
theorem ag121 : agT Tryz.prog 121 = some (false, 1) := by kernel_rfl
theorem zc121 : zT Tryz.prog 121 = some ([.val (.int .u64 0)], 1) := by kernel_rfl
-- 125: *int
theorem ag125 : agT Tryz.prog 125 = some (false, 1) := by kernel_rfl
theorem zc125 : zT Tryz.prog 125 = some ([.val (.pointer none)], 1) := by kernel_rfl
-- 132: *slices.xorshift
theorem ag132 : agT Tryz.prog 132 = some (false, 1) := by kernel_rfl
theorem zc132 : zT Tryz.prog 132 = some ([.val (.pointer none)], 1) := by kernel_rfl

theorem FX : type_of% @ag3 ∧ type_of% @zc3 ∧ type_of% @ag4 ∧ type_of% @zc4 ∧ type_of% @ag5 ∧ type_of% @zc5 ∧ type_of% @ag9 ∧ type_of% @zc9 ∧ type_of% @ag21 ∧ type_of% @zc21 ∧ type_of% @ag22 ∧ type_of% @zc22 ∧ type_of% @ag24 ∧ type_of% @zc24 ∧ type_of% @fo24_0 ∧ type_of% @ft24_0 ∧ type_of% @fo24_1 ∧ type_of% @ft24_1 ∧ type_of% @fo24_2 ∧ type_of% @ft24_2 ∧ type_of% @fl24 ∧ type_of% @ag27 ∧ type_of% @zc27 ∧ type_of% @ag30 ∧ type_of% @zc30 ∧ type_of% @ag34 ∧ type_of% @zc34 ∧ type_of% @ag37 ∧ type_of% @zc37 ∧ type_of% @fo37_0 ∧ type_of% @ft37_0 ∧ type_of% @fo37_1 ∧ type_of% @ft37_1 ∧ type_of% @fo37_2 ∧ type_of% @ft37_2 ∧ type_of% @fo37_3 ∧ type_of% @ft37_3 ∧ type_of% @fo37_4 ∧ type_of% @ft37_4 ∧ type_of% @fl37 ∧ type_of% @ag44 ∧ type_of% @zc44 ∧ type_of% @ag46 ∧ type_of% @zc46 ∧ type_of% @ag48 ∧ type_of% @zc48 ∧ type_of% @fo48_0 ∧ type_of% @ft48_0 ∧ type_of% @fo48_1 ∧ type_of% @ft48_1 ∧ type_of% @fl48 ∧ type_of% @ag51 ∧ type_of% @zc51 ∧ type_of% @ag58 ∧ type_of% @zc58 ∧ type_of% @ag61 ∧ type_of% @zc61 ∧ type_of% @fo61_0 ∧ type_of% @ft61_0 ∧ type_of% @fo61_1 ∧ type_of% @ft61_1 ∧ type_of% @fo61_2 ∧ type_of% @ft61_2 ∧ type_of% @fl61 ∧ type_of% @ag63 ∧ type_of% @zc63 ∧ type_of% @ag70 ∧ type_of% @zc70 ∧ type_of% @ag74 ∧ type_of% @zc74 ∧ type_of% @ag77 ∧ type_of% @zc77 ∧ type_of% @ag80 ∧ type_of% @zc80 ∧ type_of% @ag85 ∧ type_of% @zc85 ∧ type_of% @fl85 ∧ type_of% @ag89 ∧ type_of% @zc89 ∧ type_of% @ag93 ∧ type_of% @zc93 ∧ type_of% @ag104 ∧ type_of% @zc104 ∧ type_of% @ag121 ∧ type_of% @zc121 ∧ type_of% @ag125 ∧ type_of% @zc125 ∧ type_of% @ag132 ∧ type_of% @zc132 :=
  ⟨@ag3, @zc3, @ag4, @zc4, @ag5, @zc5, @ag9, @zc9, @ag21, @zc21, @ag22, @zc22, @ag24, @zc24, @fo24_0, @ft24_0, @fo24_1, @ft24_1, @fo24_2, @ft24_2, @fl24, @ag27, @zc27, @ag30, @zc30, @ag34, @zc34, @ag37, @zc37, @fo37_0, @ft37_0, @fo37_1, @ft37_1, @fo37_2, @ft37_2, @fo37_3, @ft37_3, @fo37_4, @ft37_4, @fl37, @ag44, @zc44, @ag46, @zc46, @ag48, @zc48, @fo48_0, @ft48_0, @fo48_1, @ft48_1, @fl48, @ag51, @zc51, @ag58, @zc58, @ag61, @zc61, @fo61_0, @ft61_0, @fo61_1, @ft61_1, @fo61_2, @ft61_2, @fl61, @ag63, @zc63, @ag70, @zc70, @ag74, @zc74, @ag77, @zc77, @ag80, @zc80, @ag85, @zc85, @fl85, @ag89, @zc89, @ag93, @zc93, @ag104, @zc104, @ag121, @zc121, @ag125, @zc125, @ag132, @zc132⟩
end Go.Proofs.YtllijejobeogdaaGreatDoor

/- Grids: their checks. -/
set_option linter.unusedSimpArgs false
set_option linter.unusedVariables false
set_option maxRecDepth 100000
namespace Go.Proofs.YtllijejobeogdaaGreatDoor
open Go Go.Proofs Go.AW

abbrev LA (b : Bool) (l : List Int) : AVal := .list false b l.length (ints l)
abbrev LR (b : Bool) (l : List Int) : AVal := .list true b l.length (ints l)
abbrev BA (b : Bool) (l : List Bool) : AVal := .list false b l.length (bools l)
abbrev GA (w h : Int) (b : Bool) (l : List Bool) : AVal := .agg [I w, I h, BA b l]
/-- The error of a grid. -/
def gchk (w h n : Int) : Int := if 64 < w ∨ 64 < h then 4 else if w < 1 ∨ h < 1 ∨ n ≠ w * h then 8 else 0
def gOk (w h n : Int) : Prop := 1 ≤ w ∧ w ≤ 64 ∧ 1 ≤ h ∧ h ≤ 64 ∧ n = w * h
theorem gchk_ok {w h n : Int} (hg : gOk w h n) : gchk w h n = 0 := by
  obtain ⟨h1, h2, h3, h4, h5⟩ := hg
  unfold gchk
  rw [if_neg (by omega), if_neg (by omega)]
theorem gchk_iff {w h n : Int} : gchk w h n = 0 ↔ gOk w h n := by
  refine ⟨fun hz => ?_, gchk_ok⟩
  unfold gchk at hz
  unfold gOk
  split at hz
  · omega
  · split at hz
    · omega
    · omega
theorem prod64 {w h : Int} (h1 : 0 ≤ w) (h2 : w ≤ 64) (h3 : 0 ≤ h) (h4 : h ≤ 64) : 0 ≤ w * h ∧ w * h ≤ 4096 := by
  constructor
  · exact Int.mul_nonneg h1 h3
  · have := Int.mul_le_mul h2 h4 h3 (by omega); omega

theorem gcheckP_c (w h : Int) (b : Bool) (l : List Bool) : Contract Tryz.prog 17 [GA w h b l] (I (gchk w h l.length)) := by
  unfold gchk
  refine Contract.intro (effS [] false) 6 follows Tryz.func17 rfl rfl (by kernel_rfl) (Nat.le_of_ble_eq_true rfl) ?_
  by_cases c1 : 64 < w ∨ 64 < h
  · rw [if_pos c1]
    have : 64 < max w h := by omega
    simp (disch := omega) only [↓RP, RG, FX, RQ, ↓reduceIte, Nat.reduceEqDiff, reduceCtorEq, Nat.reduceBEq, Nat.reduceAdd, Nat.reduceLeDiff, args0_1]
    rw [resVal_1 rfl]; simp (disch := first | assumption | omega | rfl | simp only [RH]) only [↓RP, RG, FX, RQ, ↓reduceIte, Nat.reduceEqDiff, reduceCtorEq, Nat.reduceBEq, Nat.reduceAdd, Nat.reduceLeDiff, RS]
  rw [if_neg c1]
  have : ¬ 64 < max w h := by omega
  by_cases c2 : w < 1 ∨ h < 1
  · rw [if_pos (by omega)]
    have : min w h < 1 := by omega
    simp (disch := omega) only [↓RP, RG, FX, RQ, ↓reduceIte, Nat.reduceEqDiff, reduceCtorEq, Nat.reduceBEq, Nat.reduceAdd, Nat.reduceLeDiff, args0_1]
    rw [resVal_1 rfl]; simp (disch := first | assumption | omega | rfl | simp only [RH]) only [↓RP, RG, FX, RQ, ↓reduceIte, Nat.reduceEqDiff, reduceCtorEq, Nat.reduceBEq, Nat.reduceAdd, Nat.reduceLeDiff, RS]
  have : ¬ min w h < 1 := by omega
  have hp := prod64 (w := w) (h := h) (by omega) (by omega) (by omega) (by omega)
  by_cases c3 : (l.length : Int) = w * h
  · rw [if_neg (by omega)]
    simp (disch := omega) only [↓RP, RG, FX, RQ, ↓reduceIte, Nat.reduceEqDiff, reduceCtorEq, Nat.reduceBEq, Nat.reduceAdd, Nat.reduceLeDiff, args0_1]
    rw [resVal_1 rfl]; simp (disch := first | assumption | omega | rfl | simp only [RH]) only [↓RP, RG, FX, RQ, ↓reduceIte, Nat.reduceEqDiff, reduceCtorEq, Nat.reduceBEq, Nat.reduceAdd, Nat.reduceLeDiff, RS]
  · rw [if_pos (by omega)]
    simp (disch := omega) only [↓RP, RG, FX, RQ, ↓reduceIte, Nat.reduceEqDiff, reduceCtorEq, Nat.reduceBEq, Nat.reduceAdd, Nat.reduceLeDiff, args0_1]
    rw [resVal_1 rfl]; simp (disch := first | assumption | omega | rfl | simp only [RH]) only [↓RP, RG, FX, RQ, ↓reduceIte, Nat.reduceEqDiff, reduceCtorEq, Nat.reduceBEq, Nat.reduceAdd, Nat.reduceLeDiff, RS]

theorem gcheckR_c (w h : Int) (b : Bool) (l : List Bool) : Contract Tryz.prog 12 [GA w h b l] (I (gchk w h l.length)) := by
  unfold gchk
  refine Contract.intro (effS [] false) 6 follows Tryz.func12 rfl rfl (by kernel_rfl) (Nat.le_of_ble_eq_true rfl) ?_
  by_cases c0 : 64 < w
  · rw [if_pos (by omega)]
    simp (disch := omega) only [↓RP, RG, FX, RQ, ↓reduceIte, Nat.reduceEqDiff, reduceCtorEq, Nat.reduceBEq, Nat.reduceAdd, Nat.reduceLeDiff, args0_1]
    rw [resVal_1 rfl]; simp (disch := first | assumption | omega | rfl | simp only [RH]) only [↓RP, RG, FX, RQ, ↓reduceIte, Nat.reduceEqDiff, reduceCtorEq, Nat.reduceBEq, Nat.reduceAdd, Nat.reduceLeDiff, RS]
  by_cases c1 : 64 < h
  · rw [if_pos (by omega)]
    simp (disch := omega) only [↓RP, RG, FX, RQ, ↓reduceIte, Nat.reduceEqDiff, reduceCtorEq, Nat.reduceBEq, Nat.reduceAdd, Nat.reduceLeDiff, args0_1]
    rw [resVal_1 rfl]; simp (disch := first | assumption | omega | rfl | simp only [RH]) only [↓RP, RG, FX, RQ, ↓reduceIte, Nat.reduceEqDiff, reduceCtorEq, Nat.reduceBEq, Nat.reduceAdd, Nat.reduceLeDiff, RS]
  rw [if_neg (by omega)]
  by_cases c2 : w < 1
  · rw [if_pos (by omega)]
    simp (disch := omega) only [↓RP, RG, FX, RQ, ↓reduceIte, Nat.reduceEqDiff, reduceCtorEq, Nat.reduceBEq, Nat.reduceAdd, Nat.reduceLeDiff, args0_1]
    rw [resVal_1 rfl]; simp (disch := first | assumption | omega | rfl | simp only [RH]) only [↓RP, RG, FX, RQ, ↓reduceIte, Nat.reduceEqDiff, reduceCtorEq, Nat.reduceBEq, Nat.reduceAdd, Nat.reduceLeDiff, RS]
  by_cases c3 : h < 1
  · rw [if_pos (by omega)]
    simp (disch := omega) only [↓RP, RG, FX, RQ, ↓reduceIte, Nat.reduceEqDiff, reduceCtorEq, Nat.reduceBEq, Nat.reduceAdd, Nat.reduceLeDiff, args0_1]
    rw [resVal_1 rfl]; simp (disch := first | assumption | omega | rfl | simp only [RH]) only [↓RP, RG, FX, RQ, ↓reduceIte, Nat.reduceEqDiff, reduceCtorEq, Nat.reduceBEq, Nat.reduceAdd, Nat.reduceLeDiff, RS]
  have hp := prod64 (w := w) (h := h) (by omega) (by omega) (by omega) (by omega)
  by_cases c4 : (l.length : Int) = w * h
  · rw [if_neg (by omega)]
    simp (disch := omega) only [↓RP, RG, FX, RQ, ↓reduceIte, Nat.reduceEqDiff, reduceCtorEq, Nat.reduceBEq, Nat.reduceAdd, Nat.reduceLeDiff, args0_1]
    rw [resVal_1 rfl]; simp (disch := first | assumption | omega | rfl | simp only [RH]) only [↓RP, RG, FX, RQ, ↓reduceIte, Nat.reduceEqDiff, reduceCtorEq, Nat.reduceBEq, Nat.reduceAdd, Nat.reduceLeDiff, RS]
  · rw [if_pos (by omega)]
    simp (disch := omega) only [↓RP, RG, FX, RQ, ↓reduceIte, Nat.reduceEqDiff, reduceCtorEq, Nat.reduceBEq, Nat.reduceAdd, Nat.reduceLeDiff, args0_1]
    rw [resVal_1 rfl]; simp (disch := first | assumption | omega | rfl | simp only [RH]) only [↓RP, RG, FX, RQ, ↓reduceIte, Nat.reduceEqDiff, reduceCtorEq, Nat.reduceBEq, Nat.reduceAdd, Nat.reduceLeDiff, RS]
end Go.Proofs.YtllijejobeogdaaGreatDoor

/- Lists: compared. -/
set_option linter.unusedSimpArgs false
set_option linter.unusedVariables false
set_option maxRecDepth 100000
namespace Go.Proofs.YtllijejobeogdaaGreatDoor
open Go Go.Proofs Go.AW

end Go.Proofs.YtllijejobeogdaaGreatDoor

/- Lists: least and greatest element, within a range; cells of grids. -/
set_option linter.unusedSimpArgs false
set_option linter.unusedVariables false
set_option maxRecDepth 100000
namespace Go.Proofs.YtllijejobeogdaaGreatDoor
open Go Go.Proofs Go.AW

/-- It has elements, all of them from 0 to n - 1. -/
def wIn (l : List Int) (n : Int) : Prop := 0 < l.length ∧ ∀ j, j < l.length → 0 ≤ l.getD j 0 ∧ l.getD j 0 < n
instance (l : List Int) (n : Int) : Decidable (wIn l n) := by unfold wIn; infer_instance

/-- A grid's cell. -/
def cell (w : Int) (l : List Bool) (x y : Int) : Bool := l.getD (y * w + x).toNat false

end Go.Proofs.YtllijejobeogdaaGreatDoor

/- Grids: compared, copied. -/
set_option linter.unusedSimpArgs false
set_option linter.unusedVariables false
set_option maxRecDepth 100000
namespace Go.Proofs.YtllijejobeogdaaGreatDoor
open Go Go.Proofs Go.AW

end Go.Proofs.YtllijejobeogdaaGreatDoor

/- Drafts: their checks. -/
set_option linter.unusedSimpArgs false
set_option linter.unusedVariables false
set_option maxRecDepth 100000
namespace Go.Proofs.YtllijejobeogdaaGreatDoor
open Go Go.Proofs Go.AW

end Go.Proofs.YtllijejobeogdaaGreatDoor

/- Drafts: tables, drawdowns, lifts. -/
set_option linter.unusedSimpArgs false
set_option linter.unusedVariables false
set_option maxRecDepth 100000
namespace Go.Proofs.YtllijejobeogdaaGreatDoor
open Go Go.Proofs Go.AW

theorem ints_isEmpty (l : List Int) : (ints l).isEmpty = l.isEmpty := by cases l <;> rfl

end Go.Proofs.YtllijejobeogdaaGreatDoor

/- Drafts: drawdowns and lifts, of the program and the reference. -/
set_option linter.unusedSimpArgs false
set_option linter.unusedVariables false
set_option maxRecDepth 100000
namespace Go.Proofs.YtllijejobeogdaaGreatDoor
open Go Go.Proofs Go.AW

theorem idx_nat (W y x : Nat) : ((y : Int) * (W : Int) + (x : Int)).toNat = W * y + x := by
  rw [← Int.natCast_mul, ← Int.natCast_add, Int.toNat_natCast, Nat.mul_comm]
theorem idx_lt {W H x y : Nat} (hx : x < W) (hy : y < H) : W * y + x < W * H := by
  have : W * (y + 1) ≤ W * H := Nat.mul_le_mul_left W hy
  rw [Nat.mul_succ] at this; omega

end Go.Proofs.YtllijejobeogdaaGreatDoor

/- Which threads lie over which: lists of rows that grow. -/
set_option linter.unusedSimpArgs false
set_option linter.unusedVariables false
set_option maxRecDepth 100000
namespace Go.Proofs.YtllijejobeogdaaGreatDoor
open Go Go.Proofs Go.AW

/-- Growing rows in slots; their objects from the k-th on. -/
def gws (k : Nat) (rs : List (List Int)) : List AVal := rs.mapIdx fun a r => gw true (k + a) (ints r)
def gos (rs : List (List Int)) : List AObj := rs.map fun r => go 3 (ints r)
theorem gws_len (k : Nat) (rs : List (List Int)) : (gws k rs).length = rs.length := by simp [gws]
theorem gos_len (rs : List (List Int)) : (gos rs).length = rs.length := by simp [gos]
theorem gws_at {k : Nat} {rs : List (List Int)} {a : Nat} (ha : a < rs.length) : ((gws k rs).drop a)[0]? = some (gw true (k + a) (ints (rs.getD a []))) := by
  rw [List.getElem?_drop, Nat.add_zero, gws, List.getElem?_mapIdx, List.getElem?_eq_getElem ha, List.getD_eq_getElem?_getD, List.getElem?_eq_getElem ha]; rfl
theorem gws_set (k : Nat) (rs : List (List Int)) (a : Nat) (r : List Int) : (gws k rs).set a (gw true (k + a) (ints r)) = gws k (rs.set a r) := by
  apply List.ext_getElem
  · simp [gws]
  intro i h1 h2
  rw [List.getElem_set]
  simp only [gws, List.getElem_mapIdx, List.getElem_set]
  by_cases h : a = i
  · subst h; simp
  · simp [h]
theorem gos_at {rs : List (List Int)} {a : Nat} (ha : a < rs.length) : (gos rs)[a]? = some (go 3 (ints (rs.getD a []))) := by
  rw [gos, List.getElem?_map, List.getElem?_eq_getElem ha, List.getD_eq_getElem?_getD, List.getElem?_eq_getElem ha]; rfl
theorem gos_set (rs : List (List Int)) (a : Nat) (r : List Int) : (gos rs).set a (go 3 (ints r)) = gos (rs.set a r) := by simp [gos, List.map_set]

section
variable {o0 o1 o2 o3 o4 : AObj} {rB rA : List (List Int)} {n a : Nat}
theorem h5_atB (ha : a < rB.length) : (o0 :: o1 :: o2 :: o3 :: o4 :: (gos rB ++ gos rA))[5 + a]? = some (go 3 (ints (rB.getD a []))) := by
  rw [show 5 + a = a + 5 by omega]
  simp only [List.getElem?_cons_succ]
  rw [List.getElem?_append_left (by rw [gos_len]; exact ha), gos_at ha]
theorem h5_atA (hn : rB.length = n) (ha : a < rA.length) : (o0 :: o1 :: o2 :: o3 :: o4 :: (gos rB ++ gos rA))[5 + n + a]? = some (go 3 (ints (rA.getD a []))) := by
  rw [show 5 + n + a = n + a + 5 by omega]
  simp only [List.getElem?_cons_succ]
  rw [List.getElem?_append_right (by rw [gos_len]; omega), gos_len, hn, show n + a - n = a by omega, gos_at ha]
theorem h5_setB (ha : a < rB.length) (r : List Int) : (o0 :: o1 :: o2 :: o3 :: o4 :: (gos rB ++ gos rA)).set (5 + a) (go 3 (ints r)) = o0 :: o1 :: o2 :: o3 :: o4 :: (gos (rB.set a r) ++ gos rA) := by
  rw [show 5 + a = a + 5 by omega]
  simp only [List.set_cons_succ]
  rw [List.set_append_left _ _ (by rw [gos_len]; exact ha), gos_set]
theorem h5_setA (hn : rB.length = n) (r : List Int) : (o0 :: o1 :: o2 :: o3 :: o4 :: (gos rB ++ gos rA)).set (5 + n + a) (go 3 (ints r)) = o0 :: o1 :: o2 :: o3 :: o4 :: (gos rB ++ gos (rA.set a r)) := by
  rw [show 5 + n + a = n + a + 5 by omega]
  simp only [List.set_cons_succ]
  rw [List.set_append_right _ _ (by rw [gos_len]; omega), gos_len, hn, show n + a - n = a by omega, gos_set]
end

theorem WL_nil : ∀ (m k : Nat) (f : Nat → Nat), WL (List.replicate m (.cap0 true)) ((List.range m).map fun a => .res (f (k + a)))
  | 0, k, f => .nil
  | m + 1, k, f => by
    rw [List.replicate_succ, List.range_succ_eq_map, List.map_cons, List.map_map]
    refine .cons (.nil _) ?_
    have := WL_nil m (k + 1) f
    have e : ((fun a => AVal.res (f (k + a))) ∘ Nat.succ) = fun a => .res (f (k + 1 + a)) := by funext a; simp only [Function.comp]; congr 2; omega
    rw [e]; exact this
theorem gws_nil (k m : Nat) : gws k (List.replicate m []) = (List.range m).map fun a => .res (k + a) := by
  apply List.ext_getElem
  · simp [gws]
  intro i h1 h2
  simp [gws, gw, ints]
theorem WL_gws (k m : Nat) : WL (List.replicate m (.cap0 true)) (gws k (List.replicate m [])) := by
  rw [gws_nil]
  have := WL_nil m 0 (fun a => k + a)
  simpa using this
theorem gos_nil (m : Nat) : ∀ o ∈ gos (List.replicate m []), o.es = 0 := by
  intro o ho
  simp only [gos, List.mem_map] at ho
  obtain ⟨r, hr, rfl⟩ := ho
  rw [(List.mem_replicate.1 hr).2]; rfl

/-- What lies under a thread (v), or over it (not v), of what has been looked at: x columns, and y cells of the next one. -/
def rowG (v : Bool) (W H : Nat) (l : List Bool) (x y a : Nat) : List Int :=
  if a < W then ((List.range (if a < x then H else if a = x then y else 0)).filter fun j => l.getD (W * j + a) false == v).map fun j => ((W + j : Nat) : Int)
  else ((List.range (if a - W < y then x + 1 else x)).filter fun i => l.getD (W * (a - W) + i) false == !v).map fun i : Nat => (i : Int)
def rowsG (v : Bool) (W H : Nat) (l : List Bool) (x y : Nat) : List (List Int) := (List.range (W + H)).map (rowG v W H l x y)
theorem rowsG_len (v : Bool) (W H : Nat) (l : List Bool) (x y : Nat) : (rowsG v W H l x y).length = W + H := by simp [rowsG]
theorem rowsG_get {v : Bool} {W H : Nat} {l : List Bool} {x y a : Nat} (ha : a < W + H) : (rowsG v W H l x y).getD a [] = rowG v W H l x y a := by
  simp [rowsG, List.getD_eq_getElem?_getD, List.getElem?_range ha]
theorem rowG_le {v : Bool} {W H : Nat} {l : List Bool} {x y a : Nat} (hx : x < W) (hy : y < H) : (rowG v W H l x y a).length ≤ W + H := by
  unfold rowG
  split
  · rw [List.length_map]
    refine Nat.le_trans (List.length_filter_le _ _) ?_
    rw [List.length_range]
    split
    · omega
    · split <;> omega
  · rw [List.length_map]
    refine Nat.le_trans (List.length_filter_le _ _) ?_
    rw [List.length_range]
    split <;> omega
theorem rowG_inc (v : Bool) (W H : Nat) (l : List Bool) (x y a : Nat) : (rowG v W H l x y a).Pairwise (· < ·) := by
  unfold rowG
  split
  · rw [List.pairwise_map]
    refine (List.Pairwise.filter _ List.pairwise_lt_range).imp fun h => by omega
  · rw [List.pairwise_map]
    refine (List.Pairwise.filter _ List.pairwise_lt_range).imp fun h => by omega
theorem rowG_end {v : Bool} {W H : Nat} {l : List Bool} {a : Nat} (hW : W ≤ 64) (hH : H ≤ 64) : (rowG v W H l W 0 a).length ≤ 200 := by
  unfold rowG
  split
  · rw [List.length_map]
    refine Nat.le_trans (List.length_filter_le _ _) ?_
    rw [List.length_range]
    repeat' split
    all_goals omega
  · rw [List.length_map]
    refine Nat.le_trans (List.length_filter_le _ _) ?_
    rw [List.length_range]
    repeat' split
    all_goals omega
theorem rowsG_zero (v : Bool) (W H : Nat) (l : List Bool) : rowsG v W H l 0 0 = List.replicate (W + H) [] := by
  apply List.ext_getElem
  · simp [rowsG]
  intro a h1 h2
  simp [rowsG, rowG]
theorem rowsG_row (v : Bool) (W H : Nat) (l : List Bool) (x : Nat) : rowsG v W H l x H = rowsG v W H l (x + 1) 0 := by
  unfold rowsG
  apply List.map_congr_left
  intro a ha
  have ha : a < W + H := by simpa using ha
  unfold rowG
  by_cases h : a < W
  · rw [if_pos h, if_pos h]
    congr 2
    by_cases h1 : a < x
    · rw [if_pos h1, if_pos (by omega)]
    · rw [if_neg h1]
      by_cases h2 : a = x
      · rw [if_pos h2, if_pos (by omega)]
      · rw [if_neg h2, if_neg (by omega)]; split <;> rfl
  · rw [if_neg h, if_neg h, if_pos (by omega), if_neg (by omega)]
theorem rowsG_step (v : Bool) {W H : Nat} (l : List Bool) {x y : Nat} (hx : x < W) (hy : y < H) (b : Bool) (hb : l.getD (W * y + x) false = b) :
    rowsG v W H l x (y + 1) = (rowsG v W H l x y).set (if b = v then x else W + y) (rowG v W H l x y (if b = v then x else W + y) ++ [if b = v then ((W + y : Nat) : Int) else (x : Int)]) := by
  apply List.ext_getElem
  · simp [rowsG]
  intro a h1 h2
  have ha : a < W + H := by rw [rowsG_len] at h1; exact h1
  rw [List.getElem_set]
  simp only [rowsG, List.getElem_map, List.getElem_range]
  have e1 : a = x → rowG v W H l x (y + 1) a = if b = v then rowG v W H l x y a ++ [((W + y : Nat) : Int)] else rowG v W H l x y a := by
    rintro rfl
    have g2 : ¬ a < a := by omega
    simp only [rowG, if_pos hx, if_neg g2, if_true, List.range_succ, List.filter_append, List.map_append, List.filter_cons, List.filter_nil, hb]
    by_cases hv : b = v
    · subst hv; simp
    · have : (b == v) = false := by simpa using hv
      simp [this, hv]
  have e2 : a = W + y → rowG v W H l x (y + 1) a = if b = v then rowG v W H l x y a else rowG v W H l x y a ++ [(x : Int)] := by
    rintro rfl
    have g1 : ¬ W + y < W := by omega
    have e3 : W + y - W = y := by omega
    have g2 : y < y + 1 := by omega
    have g3 : ¬ y < y := by omega
    simp only [rowG, if_neg g1, e3, if_pos g2, if_neg g3, List.range_succ, List.filter_append, List.map_append, List.filter_cons, List.filter_nil, hb]
    by_cases hv : b = v
    · subst hv; cases b <;> simp
    · have : b = !v := by cases b <;> cases v <;> simp_all
      subst this
      simp
  have e3 : a ≠ x → a ≠ W + y → rowG v W H l x (y + 1) a = rowG v W H l x y a := by
    intro g1 g2
    unfold rowG
    by_cases h : a < W
    · rw [if_pos h, if_pos h, if_neg g1, if_neg g1]
    · rw [if_neg h, if_neg h]
      congr 3
      by_cases h3 : a - W < y
      · rw [if_pos h3, if_pos (by omega)]
      · rw [if_neg h3, if_neg (by omega)]
  by_cases hv : b = v
  · simp only [if_pos hv] at *
    by_cases g : x = a
    · rw [if_pos g, e1 g.symm, g]
    · rw [if_neg g]
      by_cases g2 : a = W + y
      · exact e2 g2
      · exact e3 (fun h => g h.symm) g2
  · simp only [if_neg hv] at *
    by_cases g : W + y = a
    · rw [if_pos g, e2 g.symm, g]
    · rw [if_neg g]
      by_cases g2 : a = x
      · exact e1 g2
      · exact e3 g2 (fun h => g h.symm)
end Go.Proofs.YtllijejobeogdaaGreatDoor

/- The library's sort and compaction, as this program bears them. -/
set_option linter.unusedVariables false
namespace Go.Proofs
open Go.Shelf
def Tryz.lays189_ren : Go.Shelf.Ren := ⟨fun | 189 => 33 | 125 => 47 | 257 => 46 | 128 => 68 | 129 => 69 | 294 => 59 | 295 => 60 | 296 => 61 | 297 => 62 | 298 => 63 | 299 => 64 | 216 => 65 | 300 => 66 | 301 => 67 | 328 => 88 | 329 => 89 | 330 => 90 | 331 => 91 | 332 => 92 | 215 => 93 | 343 => 103 | n => n, fun | 28 => 34 | 3 => 3 | 46 => 80 | 0 => 0 | 51 => 102 | 53 => 104 | 4 => 4 | 183 => 94 | 182 => 93 | 131 => 99 | 5 => 5 | 9 => 9 | 218 => 121 | 222 => 125 | 228 => 132 | 229 => 133 | n => n, fun | n => n⟩
theorem Tryz.lays189 : Go.Proofs.Lays.n189 Tryz.prog Tryz.lays189_ren := {
  mixed := by kernel_rfl
  f125 := Tryz.func47.trans (congrArg some (by kernel_rfl))
  f128 := Tryz.func68.trans (congrArg some (by kernel_rfl))
  f129 := Tryz.func69.trans (congrArg some (by kernel_rfl))
  f189 := Tryz.func33.trans (congrArg some (by kernel_rfl))
  f215 := Tryz.func93.trans (congrArg some (by kernel_rfl))
  f216 := Tryz.func65.trans (congrArg some (by kernel_rfl))
  f257 := Tryz.func46.trans (congrArg some (by kernel_rfl))
  f294 := Tryz.func59.trans (congrArg some (by kernel_rfl))
  f295 := Tryz.func60.trans (congrArg some (by kernel_rfl))
  f296 := Tryz.func61.trans (congrArg some (by kernel_rfl))
  f297 := Tryz.func62.trans (congrArg some (by kernel_rfl))
  f298 := Tryz.func63.trans (congrArg some (by kernel_rfl))
  f299 := Tryz.func64.trans (congrArg some (by kernel_rfl))
  f300 := Tryz.func66.trans (congrArg some (by kernel_rfl))
  f301 := Tryz.func67.trans (congrArg some (by kernel_rfl))
  f328 := Tryz.func88.trans (congrArg some (by kernel_rfl))
  f329 := Tryz.func89.trans (congrArg some (by kernel_rfl))
  f330 := Tryz.func90.trans (congrArg some (by kernel_rfl))
  f331 := Tryz.func91.trans (congrArg some (by kernel_rfl))
  f332 := Tryz.func92.trans (congrArg some (by kernel_rfl))
  f343 := Tryz.func103.trans (congrArg some (by kernel_rfl))
  t0 := Tryz.underlying0
  a0 := Tryz.isAgg0
  z0 := Tryz.sizeOf0
  v0 := Tryz.zeroValue0
  t3 := Tryz.underlying3
  a3 := Tryz.isAgg3
  z3 := Tryz.sizeOf3
  v3 := Tryz.zeroValue3
  t4 := Tryz.underlying4
  a4 := Tryz.isAgg4
  z4 := Tryz.sizeOf4
  v4 := Tryz.zeroValue4
  t5 := Tryz.underlying5
  a5 := Tryz.isAgg5
  z5 := Tryz.sizeOf5
  v5 := Tryz.zeroValue5
  t9 := Tryz.underlying9
  a9 := Tryz.isAgg9
  z9 := Tryz.sizeOf9
  v9 := Tryz.zeroValue9
  t28 := Tryz.underlying34
  a28 := Tryz.isAgg34
  z28 := Tryz.sizeOf34
  v28 := Tryz.zeroValue34
  t46 := Tryz.underlying80
  a46 := Tryz.isAgg80
  z46 := Tryz.sizeOf80
  v46 := Tryz.zeroValue80
  t51 := Tryz.underlying102
  a51 := Tryz.isAgg102
  z51 := Tryz.sizeOf102
  v51 := Tryz.zeroValue102
  t53 := Tryz.underlying104
  a53 := Tryz.isAgg104
  z53 := Tryz.sizeOf104
  v53 := Tryz.zeroValue104
  t131 := Tryz.underlying99
  a131 := Tryz.isAgg99
  z131 := Tryz.sizeOf99
  v131 := Tryz.zeroValue99
  t182 := Tryz.underlying93
  a182 := Tryz.isAgg93
  z182 := Tryz.sizeOf93
  v182 := Tryz.zeroValue93
  t183 := Tryz.underlying94
  a183 := Tryz.isAgg94
  z183 := Tryz.sizeOf94
  v183 := Tryz.zeroValue94
  t218 := Tryz.underlying121
  a218 := Tryz.isAgg121
  z218 := Tryz.sizeOf121
  v218 := Tryz.zeroValue121
  t222 := Tryz.underlying125
  a222 := Tryz.isAgg125
  z222 := Tryz.sizeOf125
  v222 := Tryz.zeroValue125
  t228 := Tryz.underlying132
  a228 := Tryz.isAgg132
  z228 := Tryz.sizeOf132
  v228 := Tryz.zeroValue132
  t229 := Tryz.underlying133
  a229 := Tryz.isAgg133
  z229 := Tryz.sizeOf133
  v229 := Tryz.zeroValue133 }
end Go.Proofs

/- Tables for the run of closed code. -/
set_option maxRecDepth 100000
set_option linter.unusedSimpArgs false
namespace Go.Proofs.YtllijejobeogdaaGreatDoor
open Go Go.Proofs Go.AW
noncomputable def tabE : List (Nat × EffF) := [(22, effS [] false [] [] [4, 48, 51, 60, 63] (fun i => !(i == 4)) [55, 67])] ++ [5, 6, 13, 14, 15, 16, 17, 26, 27, 28, 29, 30, 33, 34, 35, 36, 37, 38, 39, 40, 46, 47, 48, 49, 50, 51, 52, 53, 54, 55, 56, 57, 59, 60, 61, 62, 63, 64, 65, 66, 67, 68, 69, 70, 71, 72, 73, 74, 75, 76, 77, 78, 79, 88, 89, 90, 91, 92, 93, 94, 95, 96, 97, 99, 103, 104, 105, 106, 108, 109, 112].map fun f => (f, effS [] false)
theorem tabE_ok : tabE.all (chkE Tryz.prog) = true := by kernel_rfl
noncomputable def tabS : List (Nat × (Array Value → Sem Value)) := [(98, Extern.BytealgCount.count), (111, Extern.BytealgIndexByte.indexByte)]
noncomputable def xT : XT := ⟨lookE tabE, hasN [33, 34, 37, 38, 46, 57, 59, 60, 61, 62, 66, 67, 88], extE Tryz.prog [] tabS, noOrc⟩
theorem xExt : ∀ f avs v, extE Tryz.prog [] tabS f avs = some v → ExtOk Tryz.prog f avs v := extE_ok (fun f hf => by
  simp only [List.mem_cons, List.not_mem_nil, or_false] at hf
  ) (fun p hp => by
  simp only [tabS, List.mem_cons, List.not_mem_nil, or_false] at hp
  rcases hp with rfl | rfl
  · exact ⟨_, Tryz.func98, by kernel_rfl, by kernel_rfl, by kernel_rfl, by kernel_rfl⟩
  · exact ⟨_, Tryz.func111, by kernel_rfl, by kernel_rfl, by kernel_rfl, by kernel_rfl⟩
  )
theorem xGood : xT.Good Tryz.prog := XT.good follows tabE_ok xExt noOrc_ok
end Go.Proofs.YtllijejobeogdaaGreatDoor

/- Which threads lie over which, by the program. -/
set_option linter.unusedSimpArgs false
set_option linter.unusedVariables false
set_option maxRecDepth 100000
namespace Go.Proofs.YtllijejobeogdaaGreatDoor
open Go Go.Proofs Go.AW

theorem apZ_gw (D : Nat → Bool) (k : Nat) (xs : List AVal) (r : Option (AVal × List AObj)) : apZ true D (gw true k xs) r = if D k = true then r else none := by
  cases xs with
  | nil => exact apZ_res D k r
  | cons a t => exact apZ_ref D k 0 _ _ r

theorem cA_any {ty es ext : Nat} {cs : List AVal} (hl : cs.length = ext) : cA (some ⟨ty, es, cs⟩) ext = some cs := by simp [cA, hl]

theorem sX_gw {g : Bool} {h : List AObj} {id a ext ty es : Nat} {cs : List AVal} {bb : Bool} {k : Nat} {xs : List AVal} (hty : ty ≠ 1000003) (hl : cs.length = ext) (hk : a < ext) : sX (some (g, 1)) h id a ext (some ⟨ty, es, cs⟩) (some [gw bb k xs]) = some (h.set id ⟨ty, es, cs.set a (gw bb k xs)⟩) := by
  rw [sX_mk hty, if_pos ⟨hl, rfl, by simp; omega, by simp [one_gw]⟩]; rfl

theorem sort_nil : Contract Tryz.prog 33 [.list false true 0 []] (.tuple []) := Contract.run xGood 200 (by kernel_rfl)

/-- Rows, handed back. -/
def LL (rs : List (List Int)) : List AVal := rs.map fun r => LR r.isEmpty r
theorem gws_res {h : List AObj} {k : Nat} {rs : List (List Int)} (m : Nat) (hh : ∀ a, a < rs.length → h[k + a]? = some (go 3 (ints (rs.getD a [])))) : (gws k rs).map (resOf h (m + 2)) = LL rs := by
  apply List.ext_getElem
  · simp [gws, LL]
  intro a h1 h2
  have ha : a < rs.length := by simpa [LL] using h2
  have hg := hh a ha
  have e : rs.getD a [] = rs[a] := by rw [List.getD_eq_getElem?_getD, List.getElem?_eq_getElem ha]; rfl
  rw [e] at hg
  simp only [gws, LL, List.getElem_map, List.getElem_mapIdx]
  generalize rs[a] = r at *
  cases r with
  | nil => rfl
  | cons x t =>
    have hp : 0 < (ints (x :: t)).length := by simp [ints]
    rw [gw_pos hp]
    rw [go_pos hp] at hg
    simp only [resOf, hg, if_true, List.drop_zero, Nat.mul_one, List.take_length]
    have := ints_res (x :: t) h m
    simp only [this, ints_length]
    rfl

theorem set_self {h : List AObj} {i : Nat} {o : AObj} (ho : h[i]? = some o) : h.set i o = h := by
  obtain ⟨hi, rfl⟩ := List.getElem?_eq_some_iff.1 ho
  exact List.set_getElem_self hi
theorem srt_inc {r : List Int} (h : r.Pairwise (· < ·)) : srt r = r := by
  apply List.mergeSort_of_pairwise
  exact h.imp fun hab => by simp; omega

theorem rX_any {h : List AObj} {m n ty : Nat} {cs : List AVal} (hl : cs.length = n) : rX h m 0 n n (some ⟨ty, 1, cs⟩) = .list true false n (cs.map (resOf h m)) := by
  subst hl
  simp [rX]

theorem newOrder_c {W H n : Nat} (hN : W + H = n) (hW0 : 0 < W) (hH0 : 0 < H) (hW : W ≤ 64) (hH : H ≤ 64) (b : Bool) {l : List Bool} (hn : l.length = W * H) :
    Contract Tryz.prog 22 [GA W H b l] (.agg [.list true false n (LL (rowsG true W H l W 0)), .list true false n (LL (rowsG false W H l W 0))]) := by
  have hWH : W * H ≤ 64 * 64 := Nat.mul_le_mul hW hH
  have hNi : ((W : Int) + (H : Int)).toNat = n := by omega
  have hcell : ofCell (.slice none 0 0) = .cap0 true := rfl
  refine Contract.intro (effS [] false [] [] [4, 48, 51, 60, 63] (fun i => !(i == 4)) [55, 67]) 6 follows Tryz.func22 rfl rfl (by kernel_rfl) (Nat.le_of_ble_eq_true rfl) ?_
  simp (disch := first | assumption | omega | rfl | simp only [RH]) only [↓RP, RG, FX, RQ, ↓reduceIte, Nat.reduceEqDiff, reduceCtorEq, Nat.reduceBEq, Nat.reduceAdd, Nat.reduceLeDiff, args0_1, make_one, hNi, hcell]
  refine loopK_W [1, 2, 3, 4, 21, 22] (fun x : Nat => x ≤ W) (fun x : Nat => ⟨[(1, .ptr 0 0 3), (2, .ptr 1 0 2), (3, I ((W : Int) + (H : Int))), (4, .ptr 4 0 2), (21, I W), (22, I x)], ⟨24, 3, [I W, I H, BA b l]⟩ :: ⟨48, 2, [.cap0 true, .cap0 true]⟩ :: ⟨34, 1, gws 5 (rowsG true W H l x 0)⟩ :: ⟨34, 1, gws (5 + n) (rowsG false W H l x 0)⟩ :: ⟨48, 2, [.ref 2 0 n n, .ref 3 0 n n]⟩ :: (gos (rowsG true W H l x 0) ++ gos (rowsG false W H l x 0))⟩) (fun x => W - x) 0 (by omega) ?_ ?_
  · simp only [↓RP, RG, FX, RQ, ↓reduceIte, Nat.reduceEqDiff, reduceCtorEq, Nat.reduceBEq, Nat.reduceAdd, Nat.reduceLeDiff]
    rw [rowsG_zero, rowsG_zero, hN]
    refine Wk.weak (fun t => .refl _) (.cons _ _ _ _ (WL.refl _) (.cons _ _ _ _ (WL.refl _) (.cons _ _ _ _ (WL_gws 5 n) (.cons _ _ _ _ (WL_gws (5 + n) n) (.cons _ _ _ _ (WL.refl _) (.nil _ ?_))))))
    intro o ho
    rcases List.mem_append.1 ho with h | h <;> exact gos_nil n o h
  intro x hx
  by_cases hlt : x < W
  · simp (disch := first | assumption | omega | rfl | simp only [RH]) only [↓RP, RG, FX, RQ, ↓reduceIte, Nat.reduceEqDiff, reduceCtorEq, Nat.reduceBEq, Nat.reduceAdd, Nat.reduceLeDiff]
    refine loopK_I [1, 2, 3, 4, 5, 21, 22, 26, 27] (fun y : Nat => y ≤ H) (fun y : Nat => ⟨[(1, .ptr 0 0 3), (2, .ptr 1 0 2), (3, I ((W : Int) + (H : Int))), (4, .ptr 4 0 2), (5, I x), (21, I W), (22, I x), (26, I H), (27, I y)], ⟨24, 3, [I W, I H, BA b l]⟩ :: ⟨48, 2, [.cap0 true, .cap0 true]⟩ :: ⟨34, 1, gws 5 (rowsG true W H l x y)⟩ :: ⟨34, 1, gws (5 + n) (rowsG false W H l x y)⟩ :: ⟨48, 2, [.ref 2 0 n n, .ref 3 0 n n]⟩ :: (gos (rowsG true W H l x y) ++ gos (rowsG false W H l x y))⟩) (fun y => H - y) 0 (by omega) (by simp only [↓RP, RG, FX, RQ, ↓reduceIte, Nat.reduceEqDiff, reduceCtorEq, Nat.reduceBEq, Nat.reduceAdd, Nat.reduceLeDiff]; rfl) ?_
    intro y hy
    by_cases hlt2 : y < H
    · have lB := rowsG_len true W H l x y
      have lA := rowsG_len false W H l x y
      have hil := idx_lt hlt hlt2
      have hid := idx_nat W y x
      have hxw : (y : Int) * (W : Int) = ((W * y : Nat) : Int) := by rw [Int.natCast_mul, Int.mul_comm]
      have hwy : W * y ≤ 64 * 64 := Nat.mul_le_mul (by omega) (by omega)
      have hcst : (W : Int) + (y : Int) = ((W + y : Nat) : Int) := by omega
      have hix : (((W * y : Nat) : Int) + (x : Int)).toNat = W * y + x := by omega
      cases hb : l.getD (W * y + x) false with
      | true =>
        have sB := rowsG_step true l hlt hlt2 true hb
        have sA := rowsG_step false l hlt hlt2 true hb
        rw [if_pos rfl, if_pos rfl, ← rowsG_get (by omega)] at sB
        rw [if_neg (by simp), if_neg (by simp), ← rowsG_get (by omega)] at sA
        have zB : ((rowsG true W H l x y).getD x []).length ≤ 200 := by rw [rowsG_get (by omega)]; have := rowG_le (v := true) (l := l) (a := x) hlt hlt2; omega
        have zA : ((rowsG false W H l x y).getD (W + y) []).length ≤ 200 := by rw [rowsG_get (by omega)]; have := rowG_le (v := false) (l := l) (a := W + y) hlt hlt2; omega
        generalize rowsG true W H l x y = rB at *
        generalize rowsG false W H l x y = rA at *
        generalize hB' : rowsG true W H l x (y + 1) = rB' at *
        generalize hA' : rowsG false W H l x (y + 1) = rA' at *
        have lB' : rB'.length = n := by rw [sB, List.length_set]; omega
        have gB : (gws 5 rB).length = n := by rw [gws_len]; omega
        have gA : (gws (5 + n) rA).length = n := by rw [gws_len]; omega
        have gB' : (gws 5 rB').length = n := by rw [gws_len]; omega
        have a1 := gws_at (k := 5) (show x < rB.length by omega)
        have a2 := gws_at (k := 5 + n) (show W + y < rA.length by omega)
        have d1 : (5 + x == 4) = false := beq_eq_false_iff_ne.2 (by omega)
        have d2 : (5 + n + (W + y) == 4) = false := beq_eq_false_iff_ne.2 (by omega)
        have o1 : (⟨24, 3, [I W, I H, BA b l]⟩ :: ⟨48, 2, [.cap0 true, .cap0 true]⟩ :: ⟨34, 1, gws 5 rB⟩ :: ⟨34, 1, gws (5 + n) rA⟩ :: ⟨48, 2, [.ref 2 0 n n, .ref 3 0 n n]⟩ :: (gos rB ++ gos rA))[5 + x]? = some (go 3 (ints (rB.getD x []))) := h5_atB (by omega)
        have t1 : (⟨24, 3, [I W, I H, BA b l]⟩ :: ⟨48, 2, [.cap0 true, .cap0 true]⟩ :: ⟨34, 1, gws 5 rB⟩ :: ⟨34, 1, gws (5 + n) rA⟩ :: ⟨48, 2, [.ref 2 0 n n, .ref 3 0 n n]⟩ :: (gos rB ++ gos rA)).set (5 + x) (go 3 (ints (rB.getD x [] ++ [((W + y : Nat) : Int)]))) = ⟨24, 3, [I W, I H, BA b l]⟩ :: ⟨48, 2, [.cap0 true, .cap0 true]⟩ :: ⟨34, 1, gws 5 rB⟩ :: ⟨34, 1, gws (5 + n) rA⟩ :: ⟨48, 2, [.ref 2 0 n n, .ref 3 0 n n]⟩ :: (gos rB' ++ gos rA) := by rw [h5_setB (by omega), ← sB]
        have p1 : (gws 5 rB).set x (gw true (5 + x) (ints (rB.getD x [] ++ [((W + y : Nat) : Int)]))) = gws 5 rB' := by rw [gws_set, ← sB]
        have o2 : (⟨24, 3, [I W, I H, BA b l]⟩ :: ⟨48, 2, [.cap0 true, .cap0 true]⟩ :: ⟨34, 1, gws 5 rB'⟩ :: ⟨34, 1, gws (5 + n) rA⟩ :: ⟨48, 2, [.ref 2 0 n n, .ref 3 0 n n]⟩ :: (gos rB' ++ gos rA))[5 + n + (W + y)]? = some (go 3 (ints (rA.getD (W + y) []))) := h5_atA lB' (by omega)
        have t2 : (⟨24, 3, [I W, I H, BA b l]⟩ :: ⟨48, 2, [.cap0 true, .cap0 true]⟩ :: ⟨34, 1, gws 5 rB'⟩ :: ⟨34, 1, gws (5 + n) rA⟩ :: ⟨48, 2, [.ref 2 0 n n, .ref 3 0 n n]⟩ :: (gos rB' ++ gos rA)).set (5 + n + (W + y)) (go 3 (ints (rA.getD (W + y) [] ++ [(x : Int)]))) = ⟨24, 3, [I W, I H, BA b l]⟩ :: ⟨48, 2, [.cap0 true, .cap0 true]⟩ :: ⟨34, 1, gws 5 rB'⟩ :: ⟨34, 1, gws (5 + n) rA⟩ :: ⟨48, 2, [.ref 2 0 n n, .ref 3 0 n n]⟩ :: (gos rB' ++ gos rA') := by rw [h5_setA lB', ← sA]
        have p2 : (gws (5 + n) rA).set (W + y) (gw true (5 + n + (W + y)) (ints (rA.getD (W + y) [] ++ [(x : Int)]))) = gws (5 + n) rA' := by rw [gws_set, ← sA]
        simp (disch := first | assumption | omega | rfl | simp only [RH]) only [↓RP, RG, FX, RQ, ↓reduceIte, Nat.reduceEqDiff, reduceCtorEq, Nat.reduceBEq, Nat.reduceAdd, Nat.reduceLeDiff, hxw, hcst, hix, hb, cA_any, a1, a2, apZ_gw, sX_gw, d1, d2, append_int, t1, p1, t2, p2]
        exact ⟨y + 1, by omega, by rw [hB', hA']; rfl, by omega⟩
      | false =>
        have sB := rowsG_step true l hlt hlt2 false hb
        have sA := rowsG_step false l hlt hlt2 false hb
        rw [if_neg (by simp), if_neg (by simp), ← rowsG_get (by omega)] at sB
        rw [if_pos rfl, if_pos rfl, ← rowsG_get (by omega)] at sA
        have zB : ((rowsG true W H l x y).getD (W + y) []).length ≤ 200 := by rw [rowsG_get (by omega)]; have := rowG_le (v := true) (l := l) (a := W + y) hlt hlt2; omega
        have zA : ((rowsG false W H l x y).getD x []).length ≤ 200 := by rw [rowsG_get (by omega)]; have := rowG_le (v := false) (l := l) (a := x) hlt hlt2; omega
        generalize rowsG true W H l x y = rB at *
        generalize rowsG false W H l x y = rA at *
        generalize hB' : rowsG true W H l x (y + 1) = rB' at *
        generalize hA' : rowsG false W H l x (y + 1) = rA' at *
        have lB' : rB'.length = n := by rw [sB, List.length_set]; omega
        have gB : (gws 5 rB).length = n := by rw [gws_len]; omega
        have gA : (gws (5 + n) rA).length = n := by rw [gws_len]; omega
        have gB' : (gws 5 rB').length = n := by rw [gws_len]; omega
        have a1 := gws_at (k := 5) (show W + y < rB.length by omega)
        have a2 := gws_at (k := 5 + n) (show x < rA.length by omega)
        have d1 : (5 + (W + y) == 4) = false := beq_eq_false_iff_ne.2 (by omega)
        have d2 : (5 + n + x == 4) = false := beq_eq_false_iff_ne.2 (by omega)
        have o1 : (⟨24, 3, [I W, I H, BA b l]⟩ :: ⟨48, 2, [.cap0 true, .cap0 true]⟩ :: ⟨34, 1, gws 5 rB⟩ :: ⟨34, 1, gws (5 + n) rA⟩ :: ⟨48, 2, [.ref 2 0 n n, .ref 3 0 n n]⟩ :: (gos rB ++ gos rA))[5 + (W + y)]? = some (go 3 (ints (rB.getD (W + y) []))) := h5_atB (by omega)
        have t1 : (⟨24, 3, [I W, I H, BA b l]⟩ :: ⟨48, 2, [.cap0 true, .cap0 true]⟩ :: ⟨34, 1, gws 5 rB⟩ :: ⟨34, 1, gws (5 + n) rA⟩ :: ⟨48, 2, [.ref 2 0 n n, .ref 3 0 n n]⟩ :: (gos rB ++ gos rA)).set (5 + (W + y)) (go 3 (ints (rB.getD (W + y) [] ++ [(x : Int)]))) = ⟨24, 3, [I W, I H, BA b l]⟩ :: ⟨48, 2, [.cap0 true, .cap0 true]⟩ :: ⟨34, 1, gws 5 rB⟩ :: ⟨34, 1, gws (5 + n) rA⟩ :: ⟨48, 2, [.ref 2 0 n n, .ref 3 0 n n]⟩ :: (gos rB' ++ gos rA) := by rw [h5_setB (by omega), ← sB]
        have p1 : (gws 5 rB).set (W + y) (gw true (5 + (W + y)) (ints (rB.getD (W + y) [] ++ [(x : Int)]))) = gws 5 rB' := by rw [gws_set, ← sB]
        have o2 : (⟨24, 3, [I W, I H, BA b l]⟩ :: ⟨48, 2, [.cap0 true, .cap0 true]⟩ :: ⟨34, 1, gws 5 rB'⟩ :: ⟨34, 1, gws (5 + n) rA⟩ :: ⟨48, 2, [.ref 2 0 n n, .ref 3 0 n n]⟩ :: (gos rB' ++ gos rA))[5 + n + x]? = some (go 3 (ints (rA.getD x []))) := h5_atA lB' (by omega)
        have t2 : (⟨24, 3, [I W, I H, BA b l]⟩ :: ⟨48, 2, [.cap0 true, .cap0 true]⟩ :: ⟨34, 1, gws 5 rB'⟩ :: ⟨34, 1, gws (5 + n) rA⟩ :: ⟨48, 2, [.ref 2 0 n n, .ref 3 0 n n]⟩ :: (gos rB' ++ gos rA)).set (5 + n + x) (go 3 (ints (rA.getD x [] ++ [((W + y : Nat) : Int)]))) = ⟨24, 3, [I W, I H, BA b l]⟩ :: ⟨48, 2, [.cap0 true, .cap0 true]⟩ :: ⟨34, 1, gws 5 rB'⟩ :: ⟨34, 1, gws (5 + n) rA⟩ :: ⟨48, 2, [.ref 2 0 n n, .ref 3 0 n n]⟩ :: (gos rB' ++ gos rA') := by rw [h5_setA lB', ← sA]
        have p2 : (gws (5 + n) rA).set x (gw true (5 + n + x) (ints (rA.getD x [] ++ [((W + y : Nat) : Int)]))) = gws (5 + n) rA' := by rw [gws_set, ← sA]
        simp (disch := first | assumption | omega | rfl | simp only [RH]) only [↓RP, RG, FX, RQ, ↓reduceIte, Nat.reduceEqDiff, reduceCtorEq, Nat.reduceBEq, Nat.reduceAdd, Nat.reduceLeDiff, hxw, hcst, hix, hb, cA_any, a1, a2, apZ_gw, sX_gw, d1, d2, append_int, t1, p1, t2, p2]
        exact ⟨y + 1, by omega, by rw [hB', hA']; rfl, by omega⟩
    · obtain rfl : y = H := by omega
      simp (disch := first | assumption | omega | rfl | simp only [RH]) only [↓RP, RG, FX, RQ, ↓reduceIte, Nat.reduceEqDiff, reduceCtorEq, Nat.reduceBEq, Nat.reduceAdd, Nat.reduceLeDiff]
      exact ⟨x + 1, by omega, by rw [rowsG_row, rowsG_row]; rfl, by omega⟩
  · obtain rfl : x = W := by omega
    simp (disch := first | assumption | omega | rfl | simp only [RH]) only [↓RP, RG, FX, RQ, ↓reduceIte, Nat.reduceEqDiff, reduceCtorEq, Nat.reduceBEq, Nat.reduceAdd, Nat.reduceLeDiff]
    have lB := rowsG_len true x H l x 0
    have lA := rowsG_len false x H l x 0
    have sS : ∀ a, a < n → ((rowsG true x H l x 0).getD a []).Pairwise (· < ·) ∧ ((rowsG true x H l x 0).getD a []).length ≤ 200 := fun a ha => by
      rw [rowsG_get (by omega)]; exact ⟨rowG_inc _ _ _ _ _ _ _, rowG_end (by omega) (by omega)⟩
    generalize rowsG true x H l x 0 = rB at *
    generalize rowsG false x H l x 0 = rA at *
    have gB : (gws 5 rB).length = n := by rw [gws_len]; omega
    have gA : (gws (5 + n) rA).length = n := by rw [gws_len]; omega
    refine loopK_I [1, 2, 4, 74, 75] (fun a : Nat => a ≤ n) (fun a : Nat => ⟨[(1, .ptr 0 0 3), (2, .ptr 1 0 2), (4, .ptr 4 0 2), (74, I ((x : Int) + (H : Int))), (75, I a)], ⟨24, 3, [I x, I H, BA b l]⟩ :: ⟨48, 2, [.cap0 true, .cap0 true]⟩ :: ⟨34, 1, gws 5 rB⟩ :: ⟨34, 1, gws (5 + n) rA⟩ :: ⟨48, 2, [.ref 2 0 n n, .ref 3 0 n n]⟩ :: (gos rB ++ gos rA)⟩) (fun a => n - a) 0 (by omega) (by simp only [↓RP, RG, FX, RQ, ↓reduceIte, Nat.reduceEqDiff, reduceCtorEq, Nat.reduceBEq, Nat.reduceAdd, Nat.reduceLeDiff]; rfl) ?_
    intro a ha
    by_cases hlt3 : a < n
    · have a1 := gws_at (k := 5) (show a < rB.length by omega)
      obtain ⟨s1, s2⟩ := sS a hlt3
      have o1 : (⟨24, 3, [I x, I H, BA b l]⟩ :: ⟨48, 2, [.cap0 true, .cap0 true]⟩ :: ⟨34, 1, gws 5 rB⟩ :: ⟨34, 1, gws (5 + n) rA⟩ :: ⟨48, 2, [.ref 2 0 n n, .ref 3 0 n n]⟩ :: (gos rB ++ gos rA))[5 + a]? = some (go 3 (ints (rB.getD a []))) := h5_atB (by omega)
      simp (disch := first | assumption | omega | rfl | simp only [RH]) only [↓RP, RG, FX, RQ, ↓reduceIte, Nat.reduceEqDiff, reduceCtorEq, Nat.reduceBEq, Nat.reduceAdd, Nat.reduceLeDiff, cA_any, a1]
      generalize rB.getD a [] = ra at *
      cases ra with
      | nil =>
        refine callK_F 6 sort_nil (by rfl) (.inl (by simp [allFresh])) ?_
        simp (disch := first | assumption | omega | rfl | simp only [RH]) only [↓RP, RG, FX, RQ, ↓reduceIte, Nat.reduceEqDiff, reduceCtorEq, Nat.reduceBEq, Nat.reduceAdd, Nat.reduceLeDiff]
        exact ⟨a + 1, by omega, rfl, by omega⟩
      | cons v t =>
        have hp : 0 < (ints (v :: t)).length := by simp [ints]
        rw [gw_pos hp, ints_length]
        rw [go_pos hp] at o1
        refine callK_T rfl (sort_spec (ρ := Tryz.lays189_ren) Tryz.lays189 (by kernel_rfl) (id := 5 + a) o1 (by decide) (n := (v :: t).length) rfl (by omega)) ?_
        rw [srt_inc s1, set_self o1]
        simp (disch := first | assumption | omega | rfl | simp only [RH]) only [↓RP, RG, FX, RQ, ↓reduceIte, Nat.reduceEqDiff, reduceCtorEq, Nat.reduceBEq, Nat.reduceAdd, Nat.reduceLeDiff]
        exact ⟨a + 1, by omega, rfl, by omega⟩
    · obtain rfl : a = n := by omega
      simp (disch := first | assumption | omega | rfl | simp only [RH]) only [↓RP, RG, FX, RQ, ↓reduceIte, Nat.reduceEqDiff, reduceCtorEq, Nat.reduceBEq, Nat.reduceAdd, Nat.reduceLeDiff, cA_any]
      have f1 := gws_res (h := (⟨24, 3, [I x, I H, BA b l]⟩ :: ⟨48, 2, [.ref 2 0 a a, .ref 3 0 a a]⟩ :: ⟨34, 1, gws 5 rB⟩ :: ⟨34, 1, gws (5 + a) rA⟩ :: ⟨48, 2, [.ref 2 0 a a, .ref 3 0 a a]⟩ :: (gos rB ++ gos rA))) (k := 5) (rs := rB) 2 (fun i hi => h5_atB hi)
      have f2 := gws_res (h := (⟨24, 3, [I x, I H, BA b l]⟩ :: ⟨48, 2, [.ref 2 0 a a, .ref 3 0 a a]⟩ :: ⟨34, 1, gws 5 rB⟩ :: ⟨34, 1, gws (5 + a) rA⟩ :: ⟨48, 2, [.ref 2 0 a a, .ref 3 0 a a]⟩ :: (gos rB ++ gos rA))) (k := 5 + a) (rs := rA) 2 (fun i hi => h5_atA (by omega) hi)
      rw [resVal_1 rfl]; simp (disch := first | assumption | omega | rfl | simp only [RH]) only [↓RP, RG, FX, RQ, ↓reduceIte, Nat.reduceEqDiff, reduceCtorEq, Nat.reduceBEq, Nat.reduceAdd, Nat.reduceLeDiff, RS]
      rw [rX_any gB, rX_any gA, f1, f2]
end Go.Proofs.YtllijejobeogdaaGreatDoor

/- Which threads lie over which: by one relation. -/
set_option linter.unusedSimpArgs false
set_option linter.unusedVariables false
set_option maxRecDepth 100000
namespace Go.Proofs.YtllijejobeogdaaGreatDoor
open Go Go.Proofs Go.AW

/-- Thread a lies over thread b. -/
def ov (W : Nat) (l : List Bool) (a b : Nat) : Bool :=
  if a < W then (if b < W then false else l.getD (W * (b - W) + a) false) else (if b < W then !l.getD (W * (a - W) + b) false else false)
/-- The numbers below n that are wanted. -/
def sel (n : Nat) (p : Nat → Bool) : List Int := ((List.range n).filter p).map fun i : Nat => (i : Int)
theorem sel_split (W H : Nat) (p : Nat → Bool) : sel (W + H) p = sel W p ++ ((List.range H).filter fun j => p (W + j)).map fun j => ((W + j : Nat) : Int) := by
  unfold sel
  rw [List.range_add, List.filter_append, List.map_append, List.filter_map, List.map_map]
  rfl
theorem sel_none {n : Nat} {p : Nat → Bool} (h : ∀ i, i < n → p i = false) : sel n p = [] := by
  unfold sel
  rw [List.filter_eq_nil_iff.2 (fun i hi => by rw [h i (by simpa using hi)]; simp)]
  rfl
theorem rowG_sel {v : Bool} {W H : Nat} {l : List Bool} {a : Nat} (ha : a < W + H) : rowG v W H l W 0 a = sel (W + H) fun b => if v then ov W l a b else ov W l b a := by
  rw [sel_split]
  unfold rowG
  by_cases h : a < W
  · rw [if_pos h, if_pos h, sel_none, List.nil_append]
    · congr 1
      apply List.filter_congr
      intro j hj
      have h1 : ¬ W + j < W := by omega
      have h2 : W + j - W = j := by omega
      cases v
      · simp [ov, h, h1, h2]
      · simp [ov, h, h1, h2]
    · intro i hi
      cases v <;> simp [ov, h, hi]
  · rw [if_neg h, if_neg (by omega)]
    have e2 : ((List.range H).filter fun j => if v = true then ov W l a (W + j) else ov W l (W + j) a) = [] := by
      rw [List.filter_eq_nil_iff]
      intro j hj
      have h1 : ¬ W + j < W := by omega
      cases v <;> simp [ov, h, h1]
    rw [e2, List.map_nil, List.append_nil]
    unfold sel
    congr 1
    apply List.filter_congr
    intro i hi
    have hi : i < W := by simpa using hi
    cases v
    · simp [ov, h, hi]
    · simp [ov, h, hi]
/-- Those that a thread lies over, for each thread; those that lie over it. -/
def bel (W n : Nat) (l : List Bool) : List (List Int) := (List.range n).map fun a => sel n fun b => ov W l a b
def abv (W n : Nat) (l : List Bool) : List (List Int) := (List.range n).map fun a => sel n fun b => ov W l b a
theorem rowsG_bel {W H n : Nat} (hN : W + H = n) (l : List Bool) : rowsG true W H l W 0 = bel W n l ∧ rowsG false W H l W 0 = abv W n l := by
  subst hN
  constructor
  · unfold rowsG bel
    apply List.map_congr_left
    intro a ha
    rw [rowG_sel (by simpa using ha)]; rfl
  · unfold rowsG abv
    apply List.map_congr_left
    intro a ha
    rw [rowG_sel (by simpa using ha)]; rfl
theorem order_c {W H n : Nat} (hN : W + H = n) (hW0 : 0 < W) (hH0 : 0 < H) (hW : W ≤ 64) (hH : H ≤ 64) (b : Bool) {l : List Bool} (hn : l.length = W * H) :
    Contract Tryz.prog 22 [GA W H b l] (.agg [.list true false n (LL (bel W n l)), .list true false n (LL (abv W n l))]) := by
  obtain ⟨h1, h2⟩ := rowsG_bel hN l
  have := newOrder_c hN hW0 hH0 hW hH b hn
  rwa [h1, h2] at this
theorem LL_at {rs : List (List Int)} {a : Nat} (ha : a < rs.length) : ((LL rs).drop a)[0]? = some (LR (rs.getD a []).isEmpty (rs.getD a [])) := by
  rw [List.getElem?_drop, Nat.add_zero, LL, List.getElem?_map, List.getElem?_eq_getElem ha, List.getD_eq_getElem?_getD, List.getElem?_eq_getElem ha]; rfl
theorem abv_get {W n : Nat} {l : List Bool} {a : Nat} (ha : a < n) : (abv W n l).getD a [] = sel n fun b => ov W l b a := by
  simp [abv, List.getD_eq_getElem?_getD, List.getElem?_range ha]
end Go.Proofs.YtllijejobeogdaaGreatDoor

/- Does a thread lie over another one? -/
set_option linter.unusedSimpArgs false
set_option linter.unusedVariables false
set_option maxRecDepth 100000
namespace Go.Proofs.YtllijejobeogdaaGreatDoor
open Go Go.Proofs Go.AW

theorem isThread_c (W H : Nat) (b : Bool) (l : List Bool) (a : Int) (hW : W ≤ 64) (hH : H ≤ 64) : Contract Tryz.prog 21 [GA W H b l, I a] (B (decide (0 ≤ a ∧ a < (W : Int) + H))) := by
  refine Contract.intro (effS [] false) 6 follows Tryz.func21 rfl rfl (by kernel_rfl) (Nat.le_of_ble_eq_true rfl) ?_
  by_cases h1 : 0 ≤ a
  · by_cases h2 : a < (W : Int) + H
    · simp (disch := first | assumption | omega | rfl | simp only [RH]) only [↓RP, RG, FX, RQ, ↓reduceIte, Nat.reduceEqDiff, reduceCtorEq, Nat.reduceBEq, Nat.reduceAdd, Nat.reduceLeDiff, args0_2]
      rw [resVal_1 rfl]; simp (disch := first | assumption | omega | rfl | simp only [RH]) only [↓RP, RG, FX, RQ, ↓reduceIte, Nat.reduceEqDiff, reduceCtorEq, Nat.reduceBEq, Nat.reduceAdd, Nat.reduceLeDiff, RS]
      first | done | simp [h1, h2]
    · simp (disch := first | assumption | omega | rfl | simp only [RH]) only [↓RP, RG, FX, RQ, ↓reduceIte, Nat.reduceEqDiff, reduceCtorEq, Nat.reduceBEq, Nat.reduceAdd, Nat.reduceLeDiff, args0_2]
      rw [resVal_1 rfl]; simp (disch := first | assumption | omega | rfl | simp only [RH]) only [↓RP, RG, FX, RQ, ↓reduceIte, Nat.reduceEqDiff, reduceCtorEq, Nat.reduceBEq, Nat.reduceAdd, Nat.reduceLeDiff, RS]
      first | done | simp [h1, h2]
  · simp (disch := first | assumption | omega | rfl | simp only [RH]) only [↓RP, RG, FX, RQ, ↓reduceIte, Nat.reduceEqDiff, reduceCtorEq, Nat.reduceBEq, Nat.reduceAdd, Nat.reduceLeDiff, args0_2]
    rw [resVal_1 rfl]; simp (disch := first | assumption | omega | rfl | simp only [RH]) only [↓RP, RG, FX, RQ, ↓reduceIte, Nat.reduceEqDiff, reduceCtorEq, Nat.reduceBEq, Nat.reduceAdd, Nat.reduceLeDiff, RS]
    first | done | simp [h1]
theorem threads_c (W H : Nat) (b : Bool) (l : List Bool) (hW : W ≤ 64) (hH : H ≤ 64) : Contract Tryz.prog 25 [GA W H b l] (I ((W : Int) + H)) := by
  refine Contract.intro (effS [] false) 6 follows Tryz.func25 rfl rfl (by kernel_rfl) (Nat.le_of_ble_eq_true rfl) ?_
  simp (disch := first | assumption | omega | rfl | simp only [RH]) only [↓RP, RG, FX, RQ, ↓reduceIte, Nat.reduceEqDiff, reduceCtorEq, Nat.reduceBEq, Nat.reduceAdd, Nat.reduceLeDiff, args0_1]
  rw [resVal_1 rfl]; simp (disch := first | assumption | omega | rfl | simp only [RH]) only [↓RP, RG, FX, RQ, ↓reduceIte, Nat.reduceEqDiff, reduceCtorEq, Nat.reduceBEq, Nat.reduceAdd, Nat.reduceLeDiff, RS]
theorem is_c (W H : Nat) (b : Bool) (l : List Bool) (a : Int) (hW : W ≤ 64) (hH : H ≤ 64) : Contract Tryz.prog 10 [GA W H b l, I a] (B (decide (0 ≤ a ∧ a < (W : Int) + H))) := by
  refine Contract.intro (effS [] false) 6 follows Tryz.func10 rfl rfl (by kernel_rfl) (Nat.le_of_ble_eq_true rfl) ?_
  by_cases h1 : 0 ≤ a
  · by_cases h2 : a < (W : Int) + H
    · simp (disch := first | assumption | omega | rfl | simp only [RH]) only [↓RP, RG, FX, RQ, ↓reduceIte, Nat.reduceEqDiff, reduceCtorEq, Nat.reduceBEq, Nat.reduceAdd, Nat.reduceLeDiff, args0_2]
      refine callK_F 6 (threads_c W H b l hW hH) (by simp (disch := first | assumption | omega | rfl | simp only [RH]) only [↓RP, RG, FX, RQ, ↓reduceIte, Nat.reduceEqDiff, reduceCtorEq, Nat.reduceBEq, Nat.reduceAdd, Nat.reduceLeDiff, RA] <;> rfl) (.inl (by simp [allFresh, ints_fresh, bools_fresh])) ?_
      simp (disch := first | assumption | omega | rfl | simp only [RH]) only [↓RP, RG, FX, RQ, ↓reduceIte, Nat.reduceEqDiff, reduceCtorEq, Nat.reduceBEq, Nat.reduceAdd, Nat.reduceLeDiff]
      rw [resVal_1 rfl]; simp (disch := first | assumption | omega | rfl | simp only [RH]) only [↓RP, RG, FX, RQ, ↓reduceIte, Nat.reduceEqDiff, reduceCtorEq, Nat.reduceBEq, Nat.reduceAdd, Nat.reduceLeDiff, RS]
      first | done | simp [h1, h2]
    · simp (disch := first | assumption | omega | rfl | simp only [RH]) only [↓RP, RG, FX, RQ, ↓reduceIte, Nat.reduceEqDiff, reduceCtorEq, Nat.reduceBEq, Nat.reduceAdd, Nat.reduceLeDiff, args0_2]
      refine callK_F 6 (threads_c W H b l hW hH) (by simp (disch := first | assumption | omega | rfl | simp only [RH]) only [↓RP, RG, FX, RQ, ↓reduceIte, Nat.reduceEqDiff, reduceCtorEq, Nat.reduceBEq, Nat.reduceAdd, Nat.reduceLeDiff, RA] <;> rfl) (.inl (by simp [allFresh, ints_fresh, bools_fresh])) ?_
      simp (disch := first | assumption | omega | rfl | simp only [RH]) only [↓RP, RG, FX, RQ, ↓reduceIte, Nat.reduceEqDiff, reduceCtorEq, Nat.reduceBEq, Nat.reduceAdd, Nat.reduceLeDiff]
      rw [resVal_1 rfl]; simp (disch := first | assumption | omega | rfl | simp only [RH]) only [↓RP, RG, FX, RQ, ↓reduceIte, Nat.reduceEqDiff, reduceCtorEq, Nat.reduceBEq, Nat.reduceAdd, Nat.reduceLeDiff, RS]
      first | done | simp [h1, h2]
  · simp (disch := first | assumption | omega | rfl | simp only [RH]) only [↓RP, RG, FX, RQ, ↓reduceIte, Nat.reduceEqDiff, reduceCtorEq, Nat.reduceBEq, Nat.reduceAdd, Nat.reduceLeDiff, args0_2]
    rw [resVal_1 rfl]; simp (disch := first | assumption | omega | rfl | simp only [RH]) only [↓RP, RG, FX, RQ, ↓reduceIte, Nat.reduceEqDiff, reduceCtorEq, Nat.reduceBEq, Nat.reduceAdd, Nat.reduceLeDiff, RS]
    first | done | simp [h1]
end Go.Proofs.YtllijejobeogdaaGreatDoor

/- Lists: the place of an element. -/
set_option linter.unusedSimpArgs false
set_option linter.unusedVariables false
set_option maxRecDepth 100000
namespace Go.Proofs.YtllijejobeogdaaGreatDoor
open Go Go.Proofs Go.AW

end Go.Proofs.YtllijejobeogdaaGreatDoor

/- Lists: do they have each number just once? -/
set_option linter.unusedSimpArgs false
set_option linter.unusedVariables false
set_option maxRecDepth 100000
namespace Go.Proofs.YtllijejobeogdaaGreatDoor
open Go Go.Proofs Go.AW

/-- It is among the elements. -/
def has (l : List Int) (x : Int) : Prop := ∃ i, i < l.length ∧ l.getD i 0 = x
instance (l : List Int) (x : Int) : Decidable (has l x) := by unfold has; infer_instance
end Go.Proofs.YtllijejobeogdaaGreatDoor

/- Does a thread lie over another one: both programs. -/
set_option linter.unusedSimpArgs false
set_option linter.unusedVariables false
set_option maxRecDepth 100000
namespace Go.Proofs.YtllijejobeogdaaGreatDoor
open Go Go.Proofs Go.AW

end Go.Proofs.YtllijejobeogdaaGreatDoor

/- A search, step by step. -/
set_option linter.unusedSimpArgs false
set_option linter.unusedVariables false
set_option maxRecDepth 100000
namespace Go.Proofs.YtllijejobeogdaaGreatDoor
open Go Go.Proofs Go.AW

/-- The threads next to c, one after the other, are reached from it, if they are not yet. -/
def inner (c : Nat) : List Nat → List Int × List Nat → List Int × List Nat
  | [], s => s
  | b :: r, s => if s.1.getD b 0 < 0 then inner c r (s.1.set b (s.1.getD c 0 + 1), s.2 ++ [b]) else inner c r s
/-- The queue is emptied. -/
def bfs (adj : Nat → List Nat) : Nat → List Int → List Nat → List Int
  | 0, far, _ => far
  | _ + 1, far, [] => far
  | k + 1, far, c :: q => bfs adj k (inner c (adj c) (far, q)).1 (inner c (adj c) (far, q)).2
def neg (far : List Int) : Nat := far.countP fun x => decide (x < 0)
/-- What holds all along. -/
structure Sound (n : Nat) (far : List Int) (q : List Nat) : Prop where
  len : far.length = n
  mem : ∀ c ∈ q, c < n
  low : ∀ i, i < n → -1 ≤ far.getD i 0
  high : ∀ i, i < n → far.getD i 0 + neg far ≤ n
theorem neg_set {far : List Int} {b : Nat} {v : Int} (hb : b < far.length) (h : far.getD b 0 < 0) (hv : 0 ≤ v) : neg (far.set b v) + 1 = neg far := by
  induction far generalizing b with
  | nil => simp at hb
  | cons x r ih =>
    cases b with
    | zero =>
      simp only [List.getD_cons_zero] at h
      simp only [neg, List.set_cons_zero, List.countP_cons]
      simp [h, Int.not_lt.2 hv]
    | succ b =>
      have := ih (b := b) (by simpa using hb) (by simpa using h)
      simp only [neg, List.set_cons_succ, List.countP_cons] at this ⊢
      omega
theorem getD_set' {far : List Int} {b i : Nat} {v : Int} (hb : b < far.length) : (far.set b v).getD i 0 = if i = b then v else far.getD i 0 := by
  simp only [List.getD_eq_getElem?_getD, List.getElem?_set]
  by_cases h : b = i
  · subst h; simp [hb]
  · simp [h, Ne.symm h]
theorem Sound.push {n : Nat} {far : List Int} {q : List Nat} (h : Sound n far q) {b c : Nat} (hb : b < n) (hc : c < n) (hn : far.getD b 0 < 0) : Sound n (far.set b (far.getD c 0 + 1)) (q ++ [b]) ∧ neg (far.set b (far.getD c 0 + 1)) + 1 = neg far := by
  have hbl : b < far.length := by rw [h.len]; exact hb
  have h1 := h.low c hc
  have h2 := h.high c hc
  have h3 := neg_set hbl hn (show 0 ≤ far.getD c 0 + 1 by omega)
  refine ⟨⟨by rw [List.length_set]; exact h.len, fun x hx => ?_, fun i hi => ?_, fun i hi => ?_⟩, h3⟩
  · rcases List.mem_append.1 hx with g | g
    · exact h.mem x g
    · simp at g; omega
  · rw [getD_set' hbl]
    have := h.low i hi
    split <;> omega
  · rw [getD_set' hbl]
    have := h.high i hi
    split <;> omega
theorem Sound.tail {n : Nat} {far : List Int} {c : Nat} {q : List Nat} (h : Sound n far (c :: q)) : Sound n far q := ⟨h.len, fun x hx => h.mem x (List.mem_cons_of_mem _ hx), h.low, h.high⟩
theorem inner_ok {n : Nat} {c : Nat} (hc : c < n) : ∀ (adj : List Nat) (far : List Int) (q : List Nat), (∀ b ∈ adj, b < n) → Sound n far q → Sound n (inner c adj (far, q)).1 (inner c adj (far, q)).2 ∧ 2 * neg (inner c adj (far, q)).1 + (inner c adj (far, q)).2.length ≤ 2 * neg far + q.length
  | [], far, q, _, h => ⟨h, Nat.le_refl _⟩
  | b :: r, far, q, ha, h => by
    have ha' : ∀ x ∈ r, x < n := fun x hx => ha x (List.mem_cons_of_mem _ hx)
    simp only [inner]
    split
    · rename_i hneg
      obtain ⟨h1, h2⟩ := h.push (ha b List.mem_cons_self) hc hneg
      obtain ⟨h3, h4⟩ := inner_ok hc r _ _ ha' h1
      refine ⟨h3, ?_⟩
      simp only [List.length_append, List.length_singleton] at h4
      omega
    · exact inner_ok hc r far q ha' h
theorem bfs_nil (adj : Nat → List Nat) (k : Nat) (far : List Int) : bfs adj k far [] = far := by cases k <;> rfl
/-- More fuel than wanted changes nothing. -/
theorem bfs_more {n : Nat} {adj : Nat → List Nat} (ha : ∀ c, c < n → ∀ b ∈ adj c, b < n) : ∀ (k m : Nat) (far : List Int) (q : List Nat), Sound n far q → 2 * neg far + q.length ≤ k → k ≤ m → bfs adj m far q = bfs adj k far q := by
  intro k
  induction k with
  | zero =>
    intro m far q h hk hm
    have : q = [] := List.eq_nil_of_length_eq_zero (by omega)
    subst this
    rw [bfs_nil, bfs_nil]
  | succ k ih =>
    intro m far q h hk hm
    cases q with
    | nil => rw [bfs_nil, bfs_nil]
    | cons c q =>
      obtain ⟨m, rfl⟩ : ∃ m', m = m' + 1 := ⟨m - 1, by omega⟩
      have hc := h.mem c List.mem_cons_self
      obtain ⟨h1, h2⟩ := inner_ok hc (adj c) far q (ha c hc) h.tail
      simp only [List.length_cons] at hk
      simp only [bfs]
      exact ih m _ _ h1 (by omega) (by omega)
/-- All are far, but one. -/
def far0 (n a : Nat) : List Int := (List.replicate n (-1)).set a 0
theorem far0_sound {n a : Nat} (ha : a < n) : Sound n (far0 n a) [a] ∧ neg (far0 n a) + 1 = n := by
  have h0 : neg (List.replicate n (-1)) = n := by simp [neg, List.countP_replicate]
  have h1 : (List.replicate n (-1 : Int)).getD a 0 = -1 := by simp [List.getD_eq_getElem?_getD, List.getElem?_replicate, ha]
  have h2 := neg_set (far := List.replicate n (-1)) (b := a) (v := 0) (by simpa using ha) (by rw [h1]; omega) (by omega)
  rw [h0] at h2
  refine ⟨⟨by simp [far0], fun c hc => by simp at hc; omega, fun i hi => ?_, fun i hi => ?_⟩, h2⟩
  · unfold far0
    rw [getD_set' (by simpa using ha)]
    split
    · omega
    · simp [List.getD_eq_getElem?_getD, List.getElem?_replicate, hi]
  · have h2' : neg (far0 n a) + 1 = n := h2
    unfold far0 at h2' ⊢
    rw [getD_set' (by simpa using ha)]
    split
    · omega
    · have : (List.replicate n (-1 : Int)).getD i 0 = -1 := by simp [List.getD_eq_getElem?_getD, List.getElem?_replicate, hi]
      omega
end Go.Proofs.YtllijejobeogdaaGreatDoor

/- Kinds: numbered by first occurrence. Plain. -/
set_option linter.unusedSimpArgs false
set_option linter.unusedVariables false
namespace Go.Proofs.YtllijejobeogdaaGreatDoor

section
variable {α : Type} [DecidableEq α] {β : Type} [DecidableEq β]

end
end Go.Proofs.YtllijejobeogdaaGreatDoor

/- The kinds of rows. -/
set_option linter.unusedSimpArgs false
set_option linter.unusedVariables false
set_option maxRecDepth 100000
namespace Go.Proofs.YtllijejobeogdaaGreatDoor
open Go Go.Proofs Go.AW

end Go.Proofs.YtllijejobeogdaaGreatDoor

/- The kinds of rows, by the reference. -/
set_option linter.unusedSimpArgs false
set_option linter.unusedVariables false
set_option maxRecDepth 100000
namespace Go.Proofs.YtllijejobeogdaaGreatDoor
open Go Go.Proofs Go.AW

def nI (l : List Nat) : List Int := l.map fun n : Nat => (n : Int)
theorem nI_len (l : List Nat) : (nI l).length = l.length := by simp [nI]
theorem nI_app (l : List Nat) (n : Nat) : nI (l ++ [n]) = nI l ++ [(n : Int)] := by simp [nI]
theorem nI_get (l : List Nat) (k : Nat) : (nI l).getD k 0 = ((l.getD k 0 : Nat) : Int) := by
  simp only [nI, List.getD_eq_getElem?_getD, List.getElem?_map]
  cases l[k]? <;> rfl
end Go.Proofs.YtllijejobeogdaaGreatDoor

/- The search, by the reference. -/
set_option linter.unusedSimpArgs false
set_option linter.unusedVariables false
set_option maxRecDepth 100000
namespace Go.Proofs.YtllijejobeogdaaGreatDoor
open Go Go.Proofs Go.AW

def srch (adj : Nat → List Nat) (far : List Int) (q : List Nat) : List Int := bfs adj (2 * neg far + q.length) far q
theorem srch_nil (adj : Nat → List Nat) (far : List Int) : srch adj far [] = far := bfs_nil _ _ _
theorem srch_step {n : Nat} {adj : Nat → List Nat} (ha : ∀ c, c < n → ∀ b ∈ adj c, b < n) {far : List Int} {c : Nat} {q : List Nat} (h : Sound n far (c :: q)) : srch adj far (c :: q) = srch adj (inner c (adj c) (far, q)).1 (inner c (adj c) (far, q)).2 := by
  have hc := h.mem c List.mem_cons_self
  obtain ⟨h1, h2⟩ := inner_ok hc (adj c) far q (ha c hc) h.tail
  unfold srch
  rw [show 2 * neg far + (c :: q).length = (2 * neg far + q.length) + 1 by simp only [List.length_cons]; omega]
  show bfs adj _ _ _ = _
  exact bfs_more ha _ _ _ _ h1 (Nat.le_refl _) h2
def adjT (W n : Nat) (l : List Bool) (c : Nat) : List Nat := (List.range n).filter fun b => ov W l b c
theorem adjT_lt {W n : Nat} {l : List Bool} {c b : Nat} (h : b ∈ adjT W n l c) : b < n := by
  simp only [adjT, List.mem_filter, List.mem_range] at h; exact h.1

end Go.Proofs.YtllijejobeogdaaGreatDoor

/- A product of small numbers, by the run of closed code. -/
set_option linter.unusedSimpArgs false
set_option linter.unusedVariables false
set_option maxRecDepth 100000
namespace Go.Proofs.YtllijejobeogdaaGreatDoor
open Go Go.Proofs Go.AW

noncomputable def mulOk (n : Nat) : Bool := match xCall Tryz.prog xT 100 48 [.val (.int .u64 1), .val (.int .u64 n)] with
  | some (.tuple [.val (.int .u64 a), .val (.int .u64 b)]) => a == 0 && b == (n : Int)
  | _ => false
theorem mul_all : (List.range 65).all mulOk = true := by kernel_rfl
theorem mul_c {n : Nat} (hn : n ≤ 64) : Contract Tryz.prog 48 [.val (.int .u64 1), .val (.int .u64 n)] (.tuple [.val (.int .u64 0), .val (.int .u64 n)]) := by
  have h := List.all_eq_true.1 mul_all n (by simp; omega)
  unfold mulOk at h
  split at h
  · rename_i a b hx
    simp only [Bool.and_eq_true, beq_iff_eq] at h
    obtain ⟨rfl, rfl⟩ := h
    exact Contract.run xGood 100 hx
  · cases h
end Go.Proofs.YtllijejobeogdaaGreatDoor

/- A number, repeated; the inverse of a numbering. -/
set_option linter.unusedSimpArgs false
set_option linter.unusedVariables false
set_option maxRecDepth 100000
namespace Go.Proofs.YtllijejobeogdaaGreatDoor
open Go Go.Proofs Go.AW

/-- k times -1, and 0 behind. -/
def rep (n k : Nat) : List Int := List.replicate k (-1) ++ List.replicate (n - k) 0
theorem rep_len {n k : Nat} (hk : k ≤ n) : (rep n k).length = n := by simp [rep]; omega
theorem rep_more {n k : Nat} (hk : 0 < k) (hn : k < n) : over (rep n k) k ((rep n k).take (Nat.min k (n - k))) = rep n (k + Nat.min k (n - k)) := by
  have hm : Nat.min k (n - k) ≤ k := Nat.min_le_left _ _
  have hm2 : Nat.min k (n - k) ≤ n - k := Nat.min_le_right _ _
  generalize Nat.min k (n - k) = m at *
  have e1 : (rep n k).take m = List.replicate m (-1) := by
    rw [rep, List.take_append_of_le_length (by simp; omega), List.take_replicate, Nat.min_eq_left hm]
  have e2 : (rep n k).take k = List.replicate k (-1) := by rw [rep, List.take_left' (by simp)]
  have e3 : (rep n k).drop (k + m) = List.replicate (n - (k + m)) 0 := by
    rw [rep, List.drop_append, List.drop_eq_nil_of_le (by simp), List.nil_append, List.drop_replicate]
    congr 1
    simp; omega
  rw [over, e1, e2, List.length_replicate, e3, rep, List.replicate_append_replicate]

theorem ki3 : ∃ T, tyI Tryz.prog 3 = some T ∧ T.kind = some .i64 := by
  have h : (tyI Tryz.prog 3).any (fun T => T.kind == some .i64) = true := by kernel_rfl
  revert h
  cases tyI Tryz.prog 3 with
  | none => intro h; cases h
  | some T => intro h; exact ⟨T, rfl, by simpa using h⟩
theorem ki99 : ∃ T, tyI Tryz.prog 80 = some T ∧ T.kind = some .u64 := by
  have h : (tyI Tryz.prog 80).any (fun T => T.kind == some .u64) = true := by kernel_rfl
  revert h
  cases tyI Tryz.prog 80 with
  | none => intro h; cases h
  | some T => intro h; exact ⟨T, rfl, by simpa using h⟩
theorem wrap_u64 {n : Int} (h1 : 0 ≤ n) (h2 : n ≤ 9223372036854775807) : IntKind.u64.wrap n = n := by
  have e1 : IntKind.u64.bits = 64 := rfl
  have e2 : IntKind.u64.signed = false := rfl
  simp only [IntKind.wrap, e1, e2]
  simp
  omega

theorem repeat_s (h0 : List AObj) {n : Nat} (hn0 : 0 < n) (hn : n ≤ 64) : SpecTo Tryz.prog 34 [.lit 1 [I (-1)], I n] h0 (.ref h0.length 0 n n) (h0 ++ [⟨3, 1, ints (List.replicate n (-1))⟩]) := by
  obtain ⟨T3, hT3, hk3⟩ := ki3
  obtain ⟨T9, hT9, hk9⟩ := ki99
  refine SpecTo.intro (effS [] false) follows Tryz.func34 rfl rfl (by kernel_rfl) (Nat.le_of_ble_eq_true rfl) ?_
  simp (disch := first | assumption | omega | rfl | simp only [RH]) only [↓RP, RG, FX, RQ, ↓reduceIte, Nat.reduceEqDiff, reduceCtorEq, Nat.reduceBEq, Nat.reduceAdd, Nat.reduceLeDiff, args0_2, hT3, hT9, hk3, hk9, wrap_u64, wrap_id]
  refine callK_F 6 (mul_c (n := n) (by omega)) (by simp (disch := first | assumption | omega | rfl | simp only [RH]) only [↓RP, RG, FX, RQ, ↓reduceIte, Nat.reduceEqDiff, reduceCtorEq, Nat.reduceBEq, Nat.reduceAdd, Nat.reduceLeDiff, RA] <;> rfl) (.inl (by simp [allFresh, ints_fresh, bools_fresh])) ?_
  simp (disch := first | assumption | omega | rfl | simp only [RH]) only [↓RP, RG, FX, RQ, ↓reduceIte, Nat.reduceEqDiff, reduceCtorEq, Nat.reduceBEq, Nat.reduceAdd, Nat.reduceLeDiff, hT3, hT9, hk3, hk9, wrap_u64, wrap_id]
  simp (disch := first | assumption | omega | rfl | simp only [RH]) only [↓RP, RG, FX, RQ, ↓reduceIte, Nat.reduceEqDiff, reduceCtorEq, Nat.reduceBEq, Nat.reduceAdd, Nat.reduceLeDiff, make_int, Int.toNat_natCast]
  have hc : ∀ h : List AObj, h[h0.length]? = some ⟨3, 1, ints (List.replicate n 0)⟩ → aCopy Tryz.prog 34 h (.ref h0.length 0 n n) (.lit 1 [I (-1)]) = some (I 1, h.set h0.length ⟨3, 1, ints (rep n 1)⟩) := by
    intro h hh
    have e1 : Nat.min 1 n = 1 := by have := Nat.min_eq_left (show 1 ≤ n by omega); exact this
    have := copy_ints_at (P := Tryz.prog) (t := 34) (h := h) (off := 0) (n := n) (ext := n) (m := 1) (x := .lit 1 [I (-1)]) (l := [-1]) hh (by decide) (by simp) rfl (by simp) (by rw [e1]; decide) (by rw [e1]; omega)
    rw [this, e1]
    simp [over, rep, List.drop_replicate]
  simp (disch := simp) only [↓RP, RG, FX, RQ, ↓reduceIte, Nat.reduceEqDiff, reduceCtorEq, Nat.reduceBEq, Nat.reduceAdd, Nat.reduceLeDiff, opK_copy, hc, List.set_append_right, Nat.sub_self, List.set_cons_zero, Nat.le_refl]
  have hq : ∀ (h : List AObj) (k : Nat), h[h0.length]? = some ⟨3, 1, ints (rep n k)⟩ → 0 < k → k < n → aCopy Tryz.prog 34 h (.ref h0.length k (n - k) n) (.ref h0.length 0 k n) = some (I (Nat.min k (n - k) : Nat), h.set h0.length ⟨3, 1, ints (rep n (k + Nat.min k (n - k)))⟩) := by
    intro h k hh h1 h2
    have e1 : Nat.min k (n - k) ≤ n - k := Nat.min_le_right _ _
    have e2 : 0 < Nat.min k (n - k) := by have : Nat.min k (n - k) = min k (n - k) := rfl; omega
    have hl := rep_len (n := n) (k := k) (by omega)
    have := copy_ints_at (P := Tryz.prog) (t := 34) (h := h) (id := h0.length) (off := k) (n := n - k) (ext := n) (m := k) (x := .ref h0.length 0 k n) (l := rep n k) hh (by decide) hl (by simp [sview, cellsAt, hh, hl, ints_length]) (by omega) (by omega) (by omega)
    rw [this, rep_more h1 h2]
  refine loopK_I [7, 8] (fun k : Nat => 0 < k ∧ k ≤ n) (fun k => ⟨[(7, .ref h0.length 0 n n), (8, I k)], h0 ++ [⟨3, 1, ints (rep n k)⟩]⟩) (fun k => n - k) 1 (by omega) (by simp only [↓RP, RG, FX, RQ, ↓reduceIte, Nat.reduceEqDiff, reduceCtorEq, Nat.reduceBEq, Nat.reduceAdd, Nat.reduceLeDiff]; rfl) ?_
  intro k ⟨hk0, hk⟩
  have hl := rep_len (n := n) (k := k) (by omega)
  by_cases hlt : k < n
  · have e1 : Nat.min k (n - k) ≤ n - k := Nat.min_le_right _ _
    have e2 : 0 < Nat.min k (n - k) := by have : Nat.min k (n - k) = min k (n - k) := rfl; omega
    simp (disch := first | omega | simp) only [↓RP, RG, FX, RQ, ↓reduceIte, Nat.reduceEqDiff, reduceCtorEq, Nat.reduceBEq, Nat.reduceAdd, Nat.reduceLeDiff, opK_copy, hq, sl_ref_lo, sl_ref_hi, List.set_append_right, Nat.sub_self, List.set_cons_zero, Nat.le_refl]
    exact ⟨k + Nat.min k (n - k), ⟨by omega, by omega⟩, by simp, by omega⟩
  · obtain rfl : k = n := by omega
    simp (disch := first | assumption | omega | rfl | simp only [RH]) only [↓RP, RG, FX, RQ, ↓reduceIte, Nat.reduceEqDiff, reduceCtorEq, Nat.reduceBEq, Nat.reduceAdd, Nat.reduceLeDiff]
    refine ⟨_, rfl, ?_⟩
    rw [show rep k k = List.replicate k (-1) by simp [rep]]
    exact Wk.of_eq rfl
end Go.Proofs.YtllijejobeogdaaGreatDoor

/- The search, by the program: what it does with its queue. -/
set_option linter.unusedSimpArgs false
set_option linter.unusedVariables false
set_option maxRecDepth 100000
namespace Go.Proofs.YtllijejobeogdaaGreatDoor
open Go Go.Proofs Go.AW

theorem cutB_some (r : AVal × List AObj) (s : Option AVal) (h : List AObj) (K : AVal → List AObj → Prop) : @cutB (some r) s h ⟨K⟩ = K r.1 r.2 := _root_.id rfl
theorem aCut_lit {P : Program} {t e nb : Nat} {z : Value} [S : SlT P t e nb z] {h : List AObj} {m : Nat} {l : List Int} (hl : l.length = m) (hm : 0 < m) : aCut P t h (.lit m (ints l)) (some (I 1)) (some (I m)) (some (I m)) = some (.lit (m - 1) (ints (l.drop 1)), h) := by
  obtain ⟨⟨T, hT, hTe⟩, E, hE, g1, g2, g3, g4⟩ := S
  simp only [aCut, hT, hTe, hE, sview_lit, optInt]
  rw [if_pos ⟨by omega, by omega, by first | trivial | rfl, by omega, by omega, g1⟩]
  have e1 : ((m : Int) - 1).toNat = m - 1 := by omega
  have e2 : ((ints l).drop 1).take (m - 1) = ints (l.drop 1) := by
    rw [List.take_of_length_le (by rw [List.length_drop, ints_length]; omega)]
    simp [ints, List.map_drop]
  rw [e1]
  simp only [show (1 : Int).toNat = 1 from rfl, e2]
theorem aCut_ref {P : Program} {t e nb : Nat} {z : Value} [S : SlT P t e nb z] {h : List AObj} {id m ty : Nat} {l : List Int} (ho : h[id]? = some ⟨ty, 1, ints l⟩) (hz : ty ≠ FZ) (hl : l.length = m) (hm : 0 < m) : aCut P t h (.ref id 0 m m) (some (I 1)) (some (I m)) (some (I m)) = some (.lit (m - 1) (ints (l.drop 1)), h.set id ⟨FZ, 1, ints l⟩) := by
  obtain ⟨⟨T, hT, hTe⟩, E, hE, g1, g2, g3, g4⟩ := S
  have hli : (ints l).length = m := by rw [ints_length, hl]
  have hsv : sview h (.ref id 0 m m) = some (m, ints l) := by simp [sview, cellsAt, ho, hli]
  simp only [aCut, hT, hTe, hE, hsv, optInt, ho]
  rw [if_pos ⟨by omega, by omega, by first | trivial | rfl, by omega, by omega, g1⟩, if_pos ⟨hz, hli⟩]
  have e1 : ((m : Int) - 1).toNat = m - 1 := by omega
  have e2 : ((ints l).drop 1).take (m - 1) = ints (l.drop 1) := by
    rw [List.take_of_length_le (by rw [List.length_drop, ints_length]; omega)]
    simp [ints, List.map_drop]
  rw [e1]
  simp only [show (1 : Int).toNat = 1 from rfl, Nat.zero_add, e2]
theorem append_litG {P : Program} {t e : Nat} {z : Value} [S : SlT P t e 8 z] {h : List AObj} {m : Nat} {l : List Int} {x : Int} (hl : l.length = m) (hm : m ≤ 1000000) : aAppend P t h (.lit m (ints l)) (.lit 1 [.val (.int .i64 x)]) = some (.ref h.length 0 (m + 1) (m + 1), h ++ [⟨e, 1, ints (l ++ [x])⟩]) := by
  obtain ⟨⟨T, hT, hTe⟩, E, hE, g1, g2, g3, g4⟩ := S
  have hz : E.zero.length = 1 := by rw [g4]; rfl
  have hli : (ints l).length = m := by rw [ints_length, hl]
  simp only [aAppend, hT, hTe, hE, sview_lit, g1, Nat.mul_one]
  rw [if_pos ⟨by simp, by simp [AVal.one, Value.oneCell'], by omega, hz⟩, if_neg (by omega), if_pos ⟨hli, by rw [g3]; omega, by omega⟩, ← ints_append l [x]]
  rfl

/-- Rows that are handed over. -/
def LLa (rs : List (List Int)) : List AVal := rs.map fun r => LA r.isEmpty r
theorem LLa_len (rs : List (List Int)) : (LLa rs).length = rs.length := by simp [LLa]
theorem LLa_at {rs : List (List Int)} {a : Nat} (ha : a < rs.length) : ((LLa rs).drop a)[0]? = some (LA (rs.getD a []).isEmpty (rs.getD a [])) := by
  rw [List.getElem?_drop, Nat.add_zero, LLa, List.getElem?_map, List.getElem?_eq_getElem ha, List.getD_eq_getElem?_getD, List.getElem?_eq_getElem ha]; rfl
theorem abv_adj {W n : Nat} {l : List Bool} {c : Nat} (hc : c < n) : (abv W n l).getD c [] = nI (adjT W n l c) := by rw [abv_get hc]; rfl
end Go.Proofs.YtllijejobeogdaaGreatDoor

/- The search, by the program. -/
set_option linter.unusedSimpArgs false
set_option linter.unusedVariables false
set_option maxRecDepth 100000
namespace Go.Proofs.YtllijejobeogdaaGreatDoor
open Go Go.Proofs Go.AW

/-- The queue: a literal, or a row of its own behind the distances. -/
def qw (p : Bool) (q : List Nat) : AVal := if p then .ref 1 0 q.length q.length else .lit q.length (ints (nI q))
def qk (p : Bool) (q : List Nat) : List AObj := if p then [⟨3, 1, ints (nI q)⟩] else []
theorem ren_litE (f : Nat → Option Nat) (n k : Nat) (cs : List AVal) : ren f (n + 1) (.lit k cs) = .lit k (cs.map (ren f n)) := rfl
theorem ren_LLa (f : Nat → Option Nat) (n : Nat) (rs : List (List Int)) : (LLa rs).map (ren f (n + 2)) = LLa rs := by
  simp only [LLa, List.map_map]
  refine List.map_congr_left fun r _ => ?_
  show ren f (n + 2) (LA r.isEmpty r) = LA r.isEmpty r
  simp only [LA, ren_list, map_ren_ints]

set_option maxHeartbeats 4000000 in
theorem reached_c {W n : Nat} (hn : n ≤ 64) (l : List Bool) {a : Nat} (ha : a < n) :
    Contract Tryz.prog 26 [.list false false n (LLa (abv W n l)), I a] (LR false (srch (adjT W n l) (far0 n a) [a])) := by
  have hlb := LLa_len (abv W n l)
  have hab : (abv W n l).length = n := by simp [abv]
  have hre : ∀ (f : Nat → Option Nat) (k : Nat), (LLa (abv W n l)).map (ren f (k + 2)) = LLa (abv W n l) := fun f k => ren_LLa f k _
  have hat : ∀ c, c < n → ((LLa (abv W n l)).drop c)[0]? = some (LA (nI (adjT W n l c)).isEmpty (nI (adjT W n l c))) := by
    intro c hc
    rw [LLa_at (rs := abv W n l) (by omega), abv_adj hc]
  generalize LLa (abv W n l) = lb at *
  refine Contract.intro (effS [] false) 6 follows Tryz.func26 rfl rfl (by kernel_rfl) (Nat.le_of_ble_eq_true rfl) ?_
  simp (disch := first | assumption | omega | rfl | simp only [RH]) only [↓RP, RG, FX, RQ, ↓reduceIte, Nat.reduceEqDiff, reduceCtorEq, Nat.reduceBEq, Nat.reduceAdd, Nat.reduceLeDiff, args0_2]
  refine callK_T rfl (repeat_s _ (by omega) hn) ?_
  have hkr : (List.replicate n (-1 : Int)).length = n := by simp
  have hf0 : (List.replicate n (-1 : Int)).set a 0 = far0 n a := rfl
  obtain ⟨z1, z2⟩ := far0_sound ha
  simp (disch := first | assumption | omega | rfl | simp only [RH]) only [↓RP, RG, FX, RQ, ↓reduceIte, Nat.reduceEqDiff, reduceCtorEq, Nat.reduceBEq, Nat.reduceAdd, Nat.reduceLeDiff, hf0]
  refine loopK_I [0, 5, 6] (fun s : List Int × List Nat × Bool => Sound n s.1 s.2.1 ∧ s.2.1.length + neg s.1 ≤ n ∧ srch (adjT W n l) s.1 s.2.1 = srch (adjT W n l) (far0 n a) [a])
    (fun s => ⟨[(0, .list false false n lb), (5, .ref 0 0 n n), (6, qw s.2.2 s.2.1)], ⟨3, 1, ints s.1⟩ :: qk s.2.2 s.2.1⟩) (fun s => 2 * neg s.1 + s.2.1.length) (far0 n a, [a], false) ⟨z1, by simp only [List.length_singleton]; omega, rfl⟩ (by simp only [↓RP, RG, FX, RQ, ↓reduceIte, Nat.reduceEqDiff, reduceCtorEq, Nat.reduceBEq, Nat.reduceAdd, Nat.reduceLeDiff]; rfl) ?_
  rintro ⟨far, q, p⟩ ⟨h1, h2, h3⟩
  simp only at h1 h2 h3 ⊢
  have hfl := h1.len
  have hqn := nI_len q
  cases q with
  | nil =>
    rw [srch_nil] at h3
    have hfp : 0 < far.length := by omega
    have hz : ([] : List Nat).length = 0 := rfl
    rw [← h3]
    cases p
    · simp (disch := first | assumption | omega | rfl | simp only [RH]) only [↓RP, RG, FX, RQ, ↓reduceIte, Nat.reduceEqDiff, reduceCtorEq, Nat.reduceBEq, Nat.reduceAdd, Nat.reduceLeDiff, qw, qk, hz]
      rw [resVal_1 rfl]; simp (disch := first | assumption | omega | rfl | simp only [RH]) only [↓RP, RG, FX, RQ, ↓reduceIte, Nat.reduceEqDiff, reduceCtorEq, Nat.reduceBEq, Nat.reduceAdd, Nat.reduceLeDiff, RS]
    · simp (disch := first | assumption | omega | rfl | simp only [RH]) only [↓RP, RG, FX, RQ, ↓reduceIte, Nat.reduceEqDiff, reduceCtorEq, Nat.reduceBEq, Nat.reduceAdd, Nat.reduceLeDiff, qw, qk, hz]
      rw [resVal_1 rfl]; simp (disch := first | assumption | omega | rfl | simp only [RH]) only [↓RP, RG, FX, RQ, ↓reduceIte, Nat.reduceEqDiff, reduceCtorEq, Nat.reduceBEq, Nat.reduceAdd, Nat.reduceLeDiff, RS]
  | cons c r =>
    have hst := srch_step (adj := adjT W n l) (fun c hc x hx => adjT_lt hx) h1
    have hc := h1.mem _ List.mem_cons_self
    have hin := inner_ok hc (adjT W n l c) far r (fun x hx => adjT_lt hx) h1.tail
    have hatc := hat c hc
    have hg0 : (nI (c :: r)).getD (Int.toNat 0) 0 = (c : Int) := rfl
    have hpos : 0 < (c :: r).length := by simp
    have hd1 : (nI (c :: r)).drop 1 = nI r := rfl
    have hm1 : (c :: r).length - 1 = r.length := rfl
    have hlen1 : r.length + 1 = (c :: r).length := rfl
    have hql : (ints (nI (c :: r))).length = (c :: r).length := by rw [ints_length, nI_len]
    obtain ⟨A, hA⟩ : ∃ A, adjT W n l c = A := ⟨_, rfl⟩
    have hAn : ∀ x ∈ A, x < n := by rw [← hA]; exact fun x hx => adjT_lt hx
    rw [hA] at hst hin hatc
    have hAl := nI_len A
    have hAs : A.length ≤ n := by rw [← hA]; simp only [adjT]; exact Nat.le_trans (List.length_filter_le _ _) (by simp)
    generalize hqq : c :: r = qq at *
    have hcut := @aCut_ref Tryz.prog 34 _ _ _ _ [⟨3, 1, ints far⟩, ⟨3, 1, ints (nI qq)⟩] 1 qq.length 3 (nI qq) rfl (by decide) hqn hpos
    have hcul : ∀ h : List AObj, aCut Tryz.prog 34 h (.lit qq.length (ints (nI qq))) (some (I 1)) (some (I qq.length)) (some (I qq.length)) = some (.lit (qq.length - 1) (ints ((nI qq).drop 1)), h) := fun h => aCut_lit hqn hpos
    rw [hm1, hd1] at hcut
    rw [hm1, hd1] at hcul
    have h1t : Sound n far r := by rw [← hqq] at h1; exact h1.tail
    have e3 : srch (adjT W n l) (inner c A (far, r)).1 (inner c A (far, r)).2 = srch (adjT W n l) (far0 n a) [a] := by rw [← hst]; exact h3
    cases p
    · simp (disch := first | assumption | omega | rfl | simp only [RH]) only [↓RP, RG, FX, RQ, ↓reduceIte, Nat.reduceEqDiff, reduceCtorEq, Nat.reduceBEq, Nat.reduceAdd, Nat.reduceLeDiff, qw, qk, hql, hg0, cutB_some, hcul, hatc]
      refine loopK_W [0, 5, 6, 7, 34, 35, 36] (fun s : Nat × List Int × List Nat × Bool => s.1 ≤ A.length ∧ Sound n s.2.1 s.2.2.1 ∧ s.2.2.1.length + neg s.2.1 ≤ n ∧ inner c (A.drop s.1) (s.2.1, s.2.2.1) = inner c A (far, r))
        (fun s => ⟨[(0, .list false false n lb), (5, .ref 0 0 n n), (6, qw s.2.2.2 s.2.2.1), (7, I c), (34, LA (nI A).isEmpty (nI A)), (35, I (nI A).length), (36, I s.1)], ⟨3, 1, ints s.2.1⟩ :: qk s.2.2.2 s.2.2.1⟩) (fun s => A.length - s.1) (0, far, r, false) ⟨by simp only; omega, h1t, by simp only; omega, rfl⟩ (Wk.of_eq (by simp only [↓RP, RG, FX, RQ, ↓reduceIte, Nat.reduceEqDiff, reduceCtorEq, Nat.reduceBEq, Nat.reduceAdd, Nat.reduceLeDiff]; rfl)) ?_
      rintro ⟨j, far', q', p'⟩ ⟨j1, j2, j3, j4⟩
      simp only at j1 j2 j3 j4 ⊢
      have hfl' := j2.len
      have hqn' := nI_len q'
      have hql' : (ints (nI q')).length = q'.length := by rw [ints_length, nI_len]
      by_cases hlt3 : j < A.length
      · obtain ⟨y, hy⟩ : ∃ y, A.getD j 0 = y := ⟨_, rfl⟩
        have hyA : y ∈ A := by rw [← hy, List.getD_eq_getElem?_getD, List.getElem?_eq_getElem hlt3]; exact List.getElem_mem _
        have hyn := hAn y hyA
        have hgi := nI_get A j
        rw [hy] at hgi
        have hAd : A.drop j = y :: A.drop (j + 1) := by
          rw [List.drop_eq_getElem_cons hlt3, ← hy, List.getD_eq_getElem?_getD, List.getElem?_eq_getElem hlt3]; rfl
        have lj := j2.low y hyn
        have lc := j2.low c hc
        have uc := j2.high c hc
        rw [hAd, inner] at j4
        by_cases hneg : far'.getD y 0 < 0
        · rw [if_pos hneg] at j4
          obtain ⟨x1, x2⟩ := j2.push hyn hc hneg
          have hap : ints (nI q') ++ ints [(y : Int)] = ints (nI (q' ++ [y])) := by rw [nI_app, ints_append]
          have qb : q'.length ≤ 1000 := by omega
          cases p'
          · have hapl : ∀ h : List AObj, aAppend Tryz.prog 34 h (.lit q'.length (ints (nI q'))) (.lit 1 [.val (.int .i64 (y : Int))]) = some (.ref h.length 0 (q'.length + 1) (q'.length + 1), h ++ [⟨3, 1, ints (nI q' ++ [(y : Int)])⟩]) := fun h => append_litG hqn' (by omega)
            simp (disch := first | assumption | omega | rfl | simp only [RH]) only [↓RP, RG, FX, RQ, ↓reduceIte, Nat.reduceEqDiff, reduceCtorEq, Nat.reduceBEq, Nat.reduceAdd, Nat.reduceLeDiff, qw, qk, hql', hgi, hapl]
            exact ⟨(j + 1, far'.set y (far'.getD c 0 + 1), q' ++ [y], true), ⟨by simp only; omega, x1, by simp only [List.length_append, List.length_singleton]; omega, j4⟩, by simp only [qw, qk, nI_app, List.length_append, List.length_singleton]; rfl, by simp only; omega⟩
          · simp (disch := first | assumption | omega | rfl | simp only [RH]) only [↓RP, RG, FX, RQ, ↓reduceIte, Nat.reduceEqDiff, reduceCtorEq, Nat.reduceBEq, Nat.reduceAdd, Nat.reduceLeDiff, qw, qk, hql', hgi, append_ref1, apRI_ints]
            exact ⟨(j + 1, far'.set y (far'.getD c 0 + 1), q' ++ [y], true), ⟨by simp only; omega, x1, by simp only [List.length_append, List.length_singleton]; omega, j4⟩, by simp only [qw, qk, nI_app, List.length_append, List.length_singleton]; rfl, by simp only; omega⟩
        · rw [if_neg hneg] at j4
          cases p'
          · simp (disch := first | assumption | omega | rfl | simp only [RH]) only [↓RP, RG, FX, RQ, ↓reduceIte, Nat.reduceEqDiff, reduceCtorEq, Nat.reduceBEq, Nat.reduceAdd, Nat.reduceLeDiff, qw, qk, hql', hgi]
            exact ⟨(j + 1, far', q', false), ⟨by simp only; omega, j2, j3, j4⟩, rfl, by simp only; omega⟩
          · simp (disch := first | assumption | omega | rfl | simp only [RH]) only [↓RP, RG, FX, RQ, ↓reduceIte, Nat.reduceEqDiff, reduceCtorEq, Nat.reduceBEq, Nat.reduceAdd, Nat.reduceLeDiff, qw, qk, hql', hgi]
            exact ⟨(j + 1, far', q', true), ⟨by simp only; omega, j2, j3, j4⟩, rfl, by simp only; omega⟩
      · obtain rfl : j = A.length := by omega
        rw [List.drop_length, inner] at j4
        have y1 := congrArg Prod.fst j4
        have y2 := congrArg Prod.snd j4
        simp only at y1 y2
        rw [← y1, ← y2] at e3
        have hm := hin.2
        rw [← y1, ← y2] at hm
        cases p'
        · simp (disch := first | assumption | omega | rfl | simp only [RH]) only [↓RP, RG, FX, RQ, ↓reduceIte, Nat.reduceEqDiff, reduceCtorEq, Nat.reduceBEq, Nat.reduceAdd, Nat.reduceLeDiff, qw, qk, hql']
          exact ⟨(far', q', false), ⟨j2, j3, e3⟩, rfl, by simp only; omega⟩
        · simp (disch := first | assumption | omega | rfl | simp only [RH]) only [↓RP, RG, FX, RQ, ↓reduceIte, Nat.reduceEqDiff, reduceCtorEq, Nat.reduceBEq, Nat.reduceAdd, Nat.reduceLeDiff, qw, qk, hql']
          exact ⟨(far', q', true), ⟨j2, j3, e3⟩, rfl, by simp only; omega⟩
    · simp (disch := first | assumption | omega | rfl | simp only [RH]) only [↓RP, RG, FX, RQ, ↓reduceIte, Nat.reduceEqDiff, reduceCtorEq, Nat.reduceBEq, Nat.reduceAdd, Nat.reduceLeDiff, qw, qk, hql, hg0, cutB_some, hcut, hatc]
      refine loopK_W [0, 5, 6, 7, 34, 35, 36] (fun s : Nat × List Int × List Nat × Bool => s.1 ≤ A.length ∧ Sound n s.2.1 s.2.2.1 ∧ s.2.2.1.length + neg s.2.1 ≤ n ∧ inner c (A.drop s.1) (s.2.1, s.2.2.1) = inner c A (far, r))
        (fun s => ⟨[(0, .list false false n lb), (5, .ref 0 0 n n), (6, qw s.2.2.2 s.2.2.1), (7, I c), (34, LA (nI A).isEmpty (nI A)), (35, I (nI A).length), (36, I s.1)], ⟨3, 1, ints s.2.1⟩ :: qk s.2.2.2 s.2.2.1⟩) (fun s => A.length - s.1) (0, far, r, false) ⟨by simp only; omega, h1t, by simp only; omega, rfl⟩ (by
          refine (Wk.of_eq (by simp only [↓RP, RG, FX, RQ, ↓reduceIte, Nat.reduceEqDiff, reduceCtorEq, Nat.reduceBEq, Nat.reduceAdd, Nat.reduceLeDiff]; rfl)).trans ((Wk.drop (hb := []) (h1 := []) (gs := [_, _]) (env := _) 8 [0] rfl (by simp) (by simp) (by simp)).trans (Wk.of_eq (by simp only [RK, List.idxOf?_cons, List.idxOf?_nil, Nat.reduceBEq, Option.map_some, Option.map_none, List.map_cons, List.map_nil, List.getD_cons_zero, List.getD_cons_succ, Bool.false_eq_true, ↓reduceIte, Nat.add_zero, List.append_nil, hre, ren_litE]; rfl)))) ?_
      rintro ⟨j, far', q', p'⟩ ⟨j1, j2, j3, j4⟩
      simp only at j1 j2 j3 j4 ⊢
      have hfl' := j2.len
      have hqn' := nI_len q'
      have hql' : (ints (nI q')).length = q'.length := by rw [ints_length, nI_len]
      by_cases hlt3 : j < A.length
      · obtain ⟨y, hy⟩ : ∃ y, A.getD j 0 = y := ⟨_, rfl⟩
        have hyA : y ∈ A := by rw [← hy, List.getD_eq_getElem?_getD, List.getElem?_eq_getElem hlt3]; exact List.getElem_mem _
        have hyn := hAn y hyA
        have hgi := nI_get A j
        rw [hy] at hgi
        have hAd : A.drop j = y :: A.drop (j + 1) := by
          rw [List.drop_eq_getElem_cons hlt3, ← hy, List.getD_eq_getElem?_getD, List.getElem?_eq_getElem hlt3]; rfl
        have lj := j2.low y hyn
        have lc := j2.low c hc
        have uc := j2.high c hc
        rw [hAd, inner] at j4
        by_cases hneg : far'.getD y 0 < 0
        · rw [if_pos hneg] at j4
          obtain ⟨x1, x2⟩ := j2.push hyn hc hneg
          have hap : ints (nI q') ++ ints [(y : Int)] = ints (nI (q' ++ [y])) := by rw [nI_app, ints_append]
          have qb : q'.length ≤ 1000 := by omega
          cases p'
          · have hapl : ∀ h : List AObj, aAppend Tryz.prog 34 h (.lit q'.length (ints (nI q'))) (.lit 1 [.val (.int .i64 (y : Int))]) = some (.ref h.length 0 (q'.length + 1) (q'.length + 1), h ++ [⟨3, 1, ints (nI q' ++ [(y : Int)])⟩]) := fun h => append_litG hqn' (by omega)
            simp (disch := first | assumption | omega | rfl | simp only [RH]) only [↓RP, RG, FX, RQ, ↓reduceIte, Nat.reduceEqDiff, reduceCtorEq, Nat.reduceBEq, Nat.reduceAdd, Nat.reduceLeDiff, qw, qk, hql', hgi, hapl]
            exact ⟨(j + 1, far'.set y (far'.getD c 0 + 1), q' ++ [y], true), ⟨by simp only; omega, x1, by simp only [List.length_append, List.length_singleton]; omega, j4⟩, by simp only [qw, qk, nI_app, List.length_append, List.length_singleton]; rfl, by simp only; omega⟩
          · simp (disch := first | assumption | omega | rfl | simp only [RH]) only [↓RP, RG, FX, RQ, ↓reduceIte, Nat.reduceEqDiff, reduceCtorEq, Nat.reduceBEq, Nat.reduceAdd, Nat.reduceLeDiff, qw, qk, hql', hgi, append_ref1, apRI_ints]
            exact ⟨(j + 1, far'.set y (far'.getD c 0 + 1), q' ++ [y], true), ⟨by simp only; omega, x1, by simp only [List.length_append, List.length_singleton]; omega, j4⟩, by simp only [qw, qk, nI_app, List.length_append, List.length_singleton]; rfl, by simp only; omega⟩
        · rw [if_neg hneg] at j4
          cases p'
          · simp (disch := first | assumption | omega | rfl | simp only [RH]) only [↓RP, RG, FX, RQ, ↓reduceIte, Nat.reduceEqDiff, reduceCtorEq, Nat.reduceBEq, Nat.reduceAdd, Nat.reduceLeDiff, qw, qk, hql', hgi]
            exact ⟨(j + 1, far', q', false), ⟨by simp only; omega, j2, j3, j4⟩, rfl, by simp only; omega⟩
          · simp (disch := first | assumption | omega | rfl | simp only [RH]) only [↓RP, RG, FX, RQ, ↓reduceIte, Nat.reduceEqDiff, reduceCtorEq, Nat.reduceBEq, Nat.reduceAdd, Nat.reduceLeDiff, qw, qk, hql', hgi]
            exact ⟨(j + 1, far', q', true), ⟨by simp only; omega, j2, j3, j4⟩, rfl, by simp only; omega⟩
      · obtain rfl : j = A.length := by omega
        rw [List.drop_length, inner] at j4
        have y1 := congrArg Prod.fst j4
        have y2 := congrArg Prod.snd j4
        simp only at y1 y2
        rw [← y1, ← y2] at e3
        have hm := hin.2
        rw [← y1, ← y2] at hm
        cases p'
        · simp (disch := first | assumption | omega | rfl | simp only [RH]) only [↓RP, RG, FX, RQ, ↓reduceIte, Nat.reduceEqDiff, reduceCtorEq, Nat.reduceBEq, Nat.reduceAdd, Nat.reduceLeDiff, qw, qk, hql']
          exact ⟨(far', q', false), ⟨j2, j3, e3⟩, rfl, by simp only; omega⟩
        · simp (disch := first | assumption | omega | rfl | simp only [RH]) only [↓RP, RG, FX, RQ, ↓reduceIte, Nat.reduceEqDiff, reduceCtorEq, Nat.reduceBEq, Nat.reduceAdd, Nat.reduceLeDiff, qw, qk, hql']
          exact ⟨(far', q', true), ⟨j2, j3, e3⟩, rfl, by simp only; omega⟩
end Go.Proofs.YtllijejobeogdaaGreatDoor

/- What is reached, of both. -/
set_option linter.unusedSimpArgs false
set_option linter.unusedVariables false
set_option maxRecDepth 100000
namespace Go.Proofs.YtllijejobeogdaaGreatDoor
open Go Go.Proofs Go.AW

/-- The first k numbers, those with a distance. -/
def upN (far : List Int) : Nat → List Int
  | 0 => []
  | k + 1 => if 0 ≤ far.getD k 0 then upN far k ++ [(k : Int)] else upN far k
theorem upN_le (far : List Int) (k : Nat) : (upN far k).length ≤ k := by
  induction k with
  | zero => exact Nat.le_refl _
  | succ k ih => simp only [upN]; split; (simp only [List.length_append, List.length_singleton]; omega); omega
theorem pos_c (x : Int) : Contract Tryz.prog 40 [I x] (B (decide (0 ≤ x))) := by
  refine Contract.intro (effS [] false) 6 follows Tryz.func40 rfl rfl (by kernel_rfl) (Nat.le_of_ble_eq_true rfl) ?_
  by_cases h : 0 ≤ x
  · simp (disch := first | assumption | omega | rfl | simp only [RH]) only [↓RP, RG, FX, RQ, ↓reduceIte, Nat.reduceEqDiff, reduceCtorEq, Nat.reduceBEq, Nat.reduceAdd, Nat.reduceLeDiff, args0_1]
    rw [resVal_1 rfl]; simp (disch := first | assumption | omega | rfl | simp only [RH]) only [↓RP, RG, FX, RQ, ↓reduceIte, Nat.reduceEqDiff, reduceCtorEq, Nat.reduceBEq, Nat.reduceAdd, Nat.reduceLeDiff, RS]
    first | done | simp [h]
  · simp (disch := first | assumption | omega | rfl | simp only [RH]) only [↓RP, RG, FX, RQ, ↓reduceIte, Nat.reduceEqDiff, reduceCtorEq, Nat.reduceBEq, Nat.reduceAdd, Nat.reduceLeDiff, args0_1]
    rw [resVal_1 rfl]; simp (disch := first | assumption | omega | rfl | simp only [RH]) only [↓RP, RG, FX, RQ, ↓reduceIte, Nat.reduceEqDiff, reduceCtorEq, Nat.reduceBEq, Nat.reduceAdd, Nat.reduceLeDiff, RS]
    first | done | simp [h]
theorem where_c (b : Bool) (far : List Int) (hl : far.length ≤ 100000) : Contract Tryz.prog 39 [LA b far, .func (.func 40) [] []] (LR (upN far far.length).isEmpty (upN far far.length)) := by
  refine Contract.intro (effS [] false) 6 follows Tryz.func39 rfl rfl (by kernel_rfl) (Nat.le_of_ble_eq_true rfl) ?_
  simp (disch := first | assumption | omega | rfl | simp only [RH]) only [↓RP, RG, FX, RQ, ↓reduceIte, Nat.reduceEqDiff, reduceCtorEq, Nat.reduceBEq, Nat.reduceAdd, Nat.reduceLeDiff, args0_2]
  refine loopK_W [1, 5, 8, 9, 10] (fun k : Nat => k ≤ far.length) (fun k : Nat => ⟨[(1, .func (.func 40) [] []), (5, gw true 0 (ints (upN far k))), (8, LA b far), (9, I far.length), (10, I k)], [go 3 (ints (upN far k))]⟩) (fun k => far.length - k) 0 (by omega) ?_ ?_
  · simp only [↓RP, RG, FX, RQ, ↓reduceIte, Nat.reduceEqDiff, reduceCtorEq, Nat.reduceBEq, Nat.reduceAdd, Nat.reduceLeDiff]
    exact Wk.weak (WE.cons _ (.refl _) (WE.cons _ (.nil _) (WE.cons _ (.refl _) (WE.cons _ (.refl _) (WE.cons _ (.refl _) WE.nil))))) (.nil _ (by simp [go, ints, upN]))
  intro k hk
  have hle := upN_le far k
  by_cases hlt : k < far.length
  · simp (disch := first | assumption | omega | rfl | simp only [RH]) only [↓RP, RG, FX, RQ, ↓reduceIte, Nat.reduceEqDiff, reduceCtorEq, Nat.reduceBEq, Nat.reduceAdd, Nat.reduceLeDiff]
    refine callK_V 6 (pos_c (far.getD k 0)) (by simp (disch := first | assumption | omega | rfl | simp only [RH]) only [↓RP, RG, FX, RQ, ↓reduceIte, Nat.reduceEqDiff, reduceCtorEq, Nat.reduceBEq, Nat.reduceAdd, Nat.reduceLeDiff, RA] <;> rfl) (.inl (by simp [allFresh, ints_fresh, bools_fresh])) ?_
    by_cases h0 : 0 ≤ far.getD k 0
    · simp (disch := first | assumption | omega | rfl | simp only [RH]) only [↓RP, RG, FX, RQ, ↓reduceIte, Nat.reduceEqDiff, reduceCtorEq, Nat.reduceBEq, Nat.reduceAdd, Nat.reduceLeDiff, append_int]
      exact ⟨k + 1, by omega, by rw [upN, if_pos h0]; rfl, by omega⟩
    · simp (disch := first | assumption | omega | rfl | simp only [RH]) only [↓RP, RG, FX, RQ, ↓reduceIte, Nat.reduceEqDiff, reduceCtorEq, Nat.reduceBEq, Nat.reduceAdd, Nat.reduceLeDiff]
      exact ⟨k + 1, by omega, by rw [upN, if_neg h0]; rfl, by omega⟩
  · obtain rfl : k = far.length := by omega
    simp (disch := first | assumption | omega | rfl | simp only [RH]) only [↓RP, RG, FX, RQ, ↓reduceIte, Nat.reduceEqDiff, reduceCtorEq, Nat.reduceBEq, Nat.reduceAdd, Nat.reduceLeDiff]
    rw [resVal_1 rfl]; simp (disch := first | assumption | omega | rfl | simp only [RH]) only [↓RP, RG, FX, RQ, ↓reduceIte, Nat.reduceEqDiff, reduceCtorEq, Nat.reduceBEq, Nat.reduceAdd, Nat.reduceLeDiff, RS]
    simp only [Bool.true_and, ints_isEmpty]
/-- Those that hang on a. -/
def upon (W n : Nat) (l : List Bool) (a : Nat) : List Int := upN (srch (adjT W n l) (far0 n a) [a]) n
theorem bfs_len {n : Nat} {adj : Nat → List Nat} (ha : ∀ c, c < n → ∀ b ∈ adj c, b < n) : ∀ (k : Nat) (far : List Int) (q : List Nat), Sound n far q → (bfs adj k far q).length = n
  | 0, far, q, h => h.len
  | k + 1, far, [], h => h.len
  | k + 1, far, c :: q, h => bfs_len ha k _ _ (inner_ok (h.mem c List.mem_cons_self) (adj c) far q (ha c (h.mem c List.mem_cons_self)) h.tail).1
theorem srch_len {W n : Nat} (l : List Bool) {a : Nat} (ha : a < n) : (srch (adjT W n l) (far0 n a) [a]).length = n :=
  bfs_len (fun c hc x hx => adjT_lt hx) _ _ _ (far0_sound ha).1
end Go.Proofs.YtllijejobeogdaaGreatDoor

/- The least set, of both. -/
set_option linter.unusedSimpArgs false
set_option linter.unusedVariables false
set_option maxRecDepth 100000
namespace Go.Proofs.YtllijejobeogdaaGreatDoor
open Go Go.Proofs Go.AW

theorem inner_keep {n c a : Nat} (hc : c < n) : ∀ (adj : List Nat) (far : List Int) (q : List Nat), (∀ b ∈ adj, b < n) → Sound n far q → 0 ≤ far.getD a 0 → 0 ≤ (inner c adj (far, q)).1.getD a 0
  | [], far, q, _, _, h => h
  | b :: r, far, q, ha, hs, h => by
    have ha' : ∀ x ∈ r, x < n := fun x hx => ha x (List.mem_cons_of_mem _ hx)
    simp only [inner]
    split
    · rename_i hneg
      obtain ⟨h1, h2⟩ := hs.push (ha b List.mem_cons_self) hc hneg
      refine inner_keep hc r _ _ ha' h1 ?_
      have hb : b < far.length := by rw [hs.len]; exact ha b List.mem_cons_self
      rw [getD_set' hb]
      have hab : a ≠ b := fun e => by subst e; omega
      rw [if_neg hab]; exact h
    · exact inner_keep hc r far q ha' hs h
theorem bfs_keep {n a : Nat} {adj : Nat → List Nat} (ha : ∀ c, c < n → ∀ b ∈ adj c, b < n) : ∀ (k : Nat) (far : List Int) (q : List Nat), Sound n far q → 0 ≤ far.getD a 0 → 0 ≤ (bfs adj k far q).getD a 0
  | 0, far, q, _, h => h
  | k + 1, far, [], _, h => h
  | k + 1, far, c :: q, hs, h =>
    have hc := hs.mem c List.mem_cons_self
    bfs_keep ha k _ _ (inner_ok hc (adj c) far q (ha c hc) hs.tail).1 (inner_keep hc (adj c) far q (ha c hc) hs.tail h)
theorem srch_self {W n : Nat} (l : List Bool) {a : Nat} (ha : a < n) : 0 ≤ (srch (adjT W n l) (far0 n a) [a]).getD a 0 := by
  refine bfs_keep (fun c hc x hx => adjT_lt hx) _ _ _ (far0_sound ha).1 ?_
  unfold far0
  rw [getD_set' (by simpa using ha), if_pos rfl]; omega
theorem upN_pos {far : List Int} {a : Nat} (h : 0 ≤ far.getD a 0) : ∀ k, a < k → 0 < (upN far k).length := by
  intro k
  induction k with
  | zero => intro h; omega
  | succ k ih =>
    intro hk
    simp only [upN]
    by_cases e : a = k
    · subst e; rw [if_pos h]; simp
    · have := ih (by omega)
      split
      · simp
      · exact this
theorem upon_pos {W n : Nat} (l : List Bool) {a : Nat} (ha : a < n) : 0 < (upon W n l a).length := upN_pos (srch_self l ha) n ha
theorem upon_le (W n : Nat) (l : List Bool) (a : Nat) : (upon W n l a).length ≤ n := upN_le _ _
theorem isEmpty_pos {l : List Int} (h : 0 < l.length) : l.isEmpty = false := by cases l with | nil => simp at h | cons x r => rfl

/-- The one is the less. -/
def less (x y : List Int) : Prop := x.length < y.length ∨ x.length = y.length ∧ x.getD 0 0 < y.getD 0 0
instance (x y : List Int) : Decidable (less x y) := by unfold less; infer_instance
/-- The least of the first k + 1. -/
def best (W n : Nat) (l : List Bool) : Nat → List Int
  | 0 => upon W n l 0
  | k + 1 => if less (upon W n l (k + 1)) (best W n l k) then upon W n l (k + 1) else best W n l k
theorem best_ok {W n : Nat} (l : List Bool) : ∀ k, k < n → 0 < (best W n l k).length ∧ (best W n l k).length ≤ n := by
  intro k
  induction k with
  | zero => intro h; exact ⟨upon_pos l h, upon_le _ _ _ _⟩
  | succ k ih =>
    intro h
    simp only [best]
    split
    · exact ⟨upon_pos l h, upon_le _ _ _ _⟩
    · exact ih (by omega)

end Go.Proofs.YtllijejobeogdaaGreatDoor

/- The least set, by the program; Apart and Hangs of both. -/
set_option linter.unusedSimpArgs false
set_option linter.unusedVariables false
set_option maxRecDepth 100000
namespace Go.Proofs.YtllijejobeogdaaGreatDoor
open Go Go.Proofs Go.AW

def bst (W n : Nat) (l : List Bool) : Nat → AVal
  | 0 => .cap0 true
  | k + 1 => LR false (best W n l k)
theorem argOf_LL (h : List AObj) (m : Nat) (rs : List (List Int)) : (LL rs).map (argOf h (m + 2)) = LLa rs := by
  simp only [LL, LLa, List.map_map]
  refine List.map_congr_left fun r _ => ?_
  show argOf h (m + 2) (LR r.isEmpty r) = LA r.isEmpty r
  simp only [LR, LA, RA]
theorem firstP_c {W n : Nat} (hn0 : 0 < n) (hn : n ≤ 64) (l : List Bool) (lz : List AVal) :
    Contract Tryz.prog 30 [.agg [.list false false n lz, .list false false n (LLa (abv W n l))]] (LR false (best W n l (n - 1))) := by
  have hre : ∀ (a : Nat), a < n → Contract Tryz.prog 26 [.list false false n (LLa (abv W n l)), I a] (LR false (srch (adjT W n l) (far0 n a) [a])) := fun a ha => reached_c hn l ha
  have hag : ∀ (h : List AObj) (m : Nat), (LLa (abv W n l)).map (argOf h (m + 2)) = LLa (abv W n l) := by
    intro h m
    simp only [LLa, List.map_map]
    refine List.map_congr_left fun r _ => ?_
    show argOf h (m + 2) (LA r.isEmpty r) = LA r.isEmpty r
    simp only [LA, RA]
  generalize LLa (abv W n l) = lb at *
  refine Contract.intro (effS [] false) 6 follows Tryz.func30 rfl rfl (by kernel_rfl) (Nat.le_of_ble_eq_true rfl) ?_
  simp (disch := first | assumption | omega | rfl | simp only [RH]) only [↓RP, RG, FX, RQ, ↓reduceIte, Nat.reduceEqDiff, reduceCtorEq, Nat.reduceBEq, Nat.reduceAdd, Nat.reduceLeDiff, args0_1]
  refine loopK_I [1, 3, 8, 9] (fun k : Nat => k ≤ n) (fun k : Nat => ⟨[(1, .ptr 0 0 2), (3, bst W n l k), (8, I n), (9, I k)], [⟨48, 2, [.list false false n lz, .list false false n lb]⟩]⟩) (fun k => n - k) 0 (by omega) (by simp only [↓RP, RG, FX, RQ, ↓reduceIte, Nat.reduceEqDiff, reduceCtorEq, Nat.reduceBEq, Nat.reduceAdd, Nat.reduceLeDiff]; rfl) ?_
  intro k hk
  by_cases hlt : k < n
  · have hfl := srch_len (W := W) l hlt
    have hR := hre k hlt
    have hup : upon W n l k = upN (srch (adjT W n l) (far0 n k) [k]) n := rfl
    have u1 := upon_pos (W := W) l hlt
    have u2 := upon_le W n l k
    have hwh := where_c false (srch (adjT W n l) (far0 n k) [k]) (by omega)
    rw [hfl, ← hup, isEmpty_pos u1] at hwh
    generalize srch (adjT W n l) (far0 n k) [k] = far at *
    cases k with
    | zero =>
      have hb : best W n l 0 = upon W n l 0 := rfl
      generalize upon W n l 0 = x at *
      simp (disch := first | assumption | omega | rfl | simp only [RH]) only [↓RP, RG, FX, RQ, ↓reduceIte, Nat.reduceEqDiff, reduceCtorEq, Nat.reduceBEq, Nat.reduceAdd, Nat.reduceLeDiff]
      refine callK_F 6 hR (by simp (disch := first | assumption | omega | rfl | simp only [RH]) only [↓RP, RG, FX, RQ, ↓reduceIte, Nat.reduceEqDiff, reduceCtorEq, Nat.reduceBEq, Nat.reduceAdd, Nat.reduceLeDiff, RA, hag] <;> rfl) (.inl (by simp [allFresh, ints_fresh])) ?_
      simp (disch := first | assumption | omega | rfl | simp only [RH]) only [↓RP, RG, FX, RQ, ↓reduceIte, Nat.reduceEqDiff, reduceCtorEq, Nat.reduceBEq, Nat.reduceAdd, Nat.reduceLeDiff]
      refine callK_F 6 hwh (by simp (disch := first | assumption | omega | rfl | simp only [RH]) only [↓RP, RG, FX, RQ, ↓reduceIte, Nat.reduceEqDiff, reduceCtorEq, Nat.reduceBEq, Nat.reduceAdd, Nat.reduceLeDiff, RA] <;> rfl) (.inl (by simp [allFresh, ints_fresh])) ?_
      simp (disch := first | assumption | omega | rfl | simp only [RH]) only [↓RP, RG, FX, RQ, ↓reduceIte, Nat.reduceEqDiff, reduceCtorEq, Nat.reduceBEq, Nat.reduceAdd, Nat.reduceLeDiff, bst]
      exact ⟨1, by omega, by rw [← hb]; rfl, by omega⟩
    | succ k =>
      obtain ⟨b1, b2⟩ := best_ok (W := W) (n := n) l k (by omega)
      have hbs : best W n l (k + 1) = if less (upon W n l (k + 1)) (best W n l k) then upon W n l (k + 1) else best W n l k := rfl
      have hb1 : bst W n l (k + 1) = LR false (best W n l k) := rfl
      have hb2 : bst W n l (k + 1 + 1) = LR false (best W n l (k + 1)) := rfl
      generalize upon W n l (k + 1) = x at *
      generalize best W n l k = y at *
      rw [hb1]
      simp (disch := first | assumption | omega | rfl | simp only [RH]) only [↓RP, RG, FX, RQ, ↓reduceIte, Nat.reduceEqDiff, reduceCtorEq, Nat.reduceBEq, Nat.reduceAdd, Nat.reduceLeDiff]
      refine callK_F 6 hR (by simp (disch := first | assumption | omega | rfl | simp only [RH]) only [↓RP, RG, FX, RQ, ↓reduceIte, Nat.reduceEqDiff, reduceCtorEq, Nat.reduceBEq, Nat.reduceAdd, Nat.reduceLeDiff, RA, hag] <;> rfl) (.inl (by simp [allFresh, ints_fresh])) ?_
      simp (disch := first | assumption | omega | rfl | simp only [RH]) only [↓RP, RG, FX, RQ, ↓reduceIte, Nat.reduceEqDiff, reduceCtorEq, Nat.reduceBEq, Nat.reduceAdd, Nat.reduceLeDiff]
      refine callK_F 6 hwh (by simp (disch := first | assumption | omega | rfl | simp only [RH]) only [↓RP, RG, FX, RQ, ↓reduceIte, Nat.reduceEqDiff, reduceCtorEq, Nat.reduceBEq, Nat.reduceAdd, Nat.reduceLeDiff, RA] <;> rfl) (.inl (by simp [allFresh, ints_fresh])) ?_
      by_cases c1 : x.length < y.length
      · have hl : less x y := .inl c1
        rw [if_pos hl] at hbs
        simp (disch := first | assumption | omega | rfl | simp only [RH]) only [↓RP, RG, FX, RQ, ↓reduceIte, Nat.reduceEqDiff, reduceCtorEq, Nat.reduceBEq, Nat.reduceAdd, Nat.reduceLeDiff]
        exact ⟨k + 1 + 1, hlt, by rw [hb2, hbs]; rfl, by omega⟩
      · by_cases c2 : x.length = y.length
        · by_cases c3 : x.getD 0 0 < y.getD 0 0
          · have hl : less x y := .inr ⟨c2, c3⟩
            rw [if_pos hl] at hbs
            simp (disch := first | assumption | omega | rfl | simp only [RH]) only [↓RP, RG, FX, RQ, ↓reduceIte, Nat.reduceEqDiff, reduceCtorEq, Nat.reduceBEq, Nat.reduceAdd, Nat.reduceLeDiff, Int.toNat_zero]
            exact ⟨k + 1 + 1, hlt, by rw [hb2, hbs]; rfl, by omega⟩
          · have hl : ¬ less x y := fun h => h.elim c1 fun h => c3 h.2
            rw [if_neg hl] at hbs
            simp (disch := first | assumption | omega | rfl | simp only [RH]) only [↓RP, RG, FX, RQ, ↓reduceIte, Nat.reduceEqDiff, reduceCtorEq, Nat.reduceBEq, Nat.reduceAdd, Nat.reduceLeDiff, Int.toNat_zero]
            exact ⟨k + 1 + 1, hlt, by rw [hb2, hbs]; rfl, by omega⟩
        · have hl : ¬ less x y := fun h => h.elim c1 fun h => c2 h.1
          rw [if_neg hl] at hbs
          simp (disch := first | assumption | omega | rfl | simp only [RH]) only [↓RP, RG, FX, RQ, ↓reduceIte, Nat.reduceEqDiff, reduceCtorEq, Nat.reduceBEq, Nat.reduceAdd, Nat.reduceLeDiff]
          exact ⟨k + 1 + 1, hlt, by rw [hb2, hbs]; rfl, by omega⟩
  · obtain rfl : k = n := by omega
    obtain ⟨m, rfl⟩ : ∃ m, k = m + 1 := ⟨k - 1, by omega⟩
    have hb1 : bst W (m + 1) l (m + 1) = LR false (best W (m + 1) l m) := rfl
    rw [hb1, show m + 1 - 1 = m from rfl]
    simp (disch := first | assumption | omega | rfl | simp only [RH]) only [↓RP, RG, FX, RQ, ↓reduceIte, Nat.reduceEqDiff, reduceCtorEq, Nat.reduceBEq, Nat.reduceAdd, Nat.reduceLeDiff]
    rw [resVal_1 rfl]; simp (disch := first | assumption | omega | rfl | simp only [RH]) only [↓RP, RG, FX, RQ, ↓reduceIte, Nat.reduceEqDiff, reduceCtorEq, Nat.reduceBEq, Nat.reduceAdd, Nat.reduceLeDiff, RS]
end Go.Proofs.YtllijejobeogdaaGreatDoor

/- Apart and Hangs, of both. -/
set_option linter.unusedSimpArgs false
set_option linter.unusedVariables false
set_option maxRecDepth 100000
namespace Go.Proofs.YtllijejobeogdaaGreatDoor
open Go Go.Proofs Go.AW

/-- The part that comes apart; none: it hangs together. -/
def apt (W n : Nat) (l : List Bool) : List Int := if (best W n l (n - 1)).length = n then [] else best W n l (n - 1)
theorem apartP_c {W H n : Nat} (hN : W + H = n) (hW0 : 0 < W) (hH0 : 0 < H) (hn40 : n ≤ 64) (b : Bool) {l : List Bool} (hn : l.length = W * H) :
    Contract Tryz.prog 15 [GA W H b l] (.tuple [LR (apt W n l).isEmpty (apt W n l), I 0]) := by
  have hz : gchk W H l.length = 0 := gchk_ok ⟨by omega, by omega, by omega, by omega, by rw [hn, Int.natCast_mul]⟩
  have hNc : (W : Int) + (H : Int) = (n : Int) := by omega
  have hO := order_c hN hW0 hH0 (by omega) (by omega) b hn
  have hF := fun lz => firstP_c (W := W) (n := n) (by omega) hn40 l lz
  obtain ⟨b1, b2⟩ := best_ok (W := W) (n := n) l (n - 1) (by omega)
  have hag : ∀ (h : List AObj) (m : Nat), (LL (abv W n l)).map (argOf h (m + 2)) = LLa (abv W n l) := fun h m => argOf_LL h m _
  have hag2 : ∀ (h : List AObj) (m : Nat), (LL (bel W n l)).map (argOf h (m + 2)) = LLa (bel W n l) := fun h m => argOf_LL h m _
  have hap : apt W n l = if (best W n l (n - 1)).length = n then [] else best W n l (n - 1) := rfl
  generalize LLa (abv W n l) = lb at *
  generalize LLa (bel W n l) = lc at *
  generalize LL (abv W n l) = la at *
  generalize LL (bel W n l) = ld at *
  generalize best W n l (n - 1) = x at *
  generalize apt W n l = y at *
  refine Contract.intro (effS [] false) 6 follows Tryz.func15 rfl rfl (by kernel_rfl) (Nat.le_of_ble_eq_true rfl) ?_
  simp (disch := first | assumption | omega | rfl | simp only [RH]) only [↓RP, RG, FX, RQ, ↓reduceIte, Nat.reduceEqDiff, reduceCtorEq, Nat.reduceBEq, Nat.reduceAdd, Nat.reduceLeDiff, args0_1]
  refine callK_F 6 (gcheckP_c W H b l) (by simp (disch := first | assumption | omega | rfl | simp only [RH]) only [↓RP, RG, FX, RQ, ↓reduceIte, Nat.reduceEqDiff, reduceCtorEq, Nat.reduceBEq, Nat.reduceAdd, Nat.reduceLeDiff, RA] <;> rfl) (.inl (by simp [allFresh, ints_fresh, bools_fresh])) ?_
  simp (disch := first | assumption | omega | rfl | simp only [RH]) only [↓RP, RG, FX, RQ, ↓reduceIte, Nat.reduceEqDiff, reduceCtorEq, Nat.reduceBEq, Nat.reduceAdd, Nat.reduceLeDiff, hz]
  refine callK_F 6 hO (by simp (disch := first | assumption | omega | rfl | simp only [RH]) only [↓RP, RG, FX, RQ, ↓reduceIte, Nat.reduceEqDiff, reduceCtorEq, Nat.reduceBEq, Nat.reduceAdd, Nat.reduceLeDiff, RA] <;> rfl) (.inr (by simp [noRef, bools_noRef])) ?_
  simp (disch := first | assumption | omega | rfl | simp only [RH]) only [↓RP, RG, FX, RQ, ↓reduceIte, Nat.reduceEqDiff, reduceCtorEq, Nat.reduceBEq, Nat.reduceAdd, Nat.reduceLeDiff]
  refine callK_F 6 (hF lc) (by simp (disch := first | assumption | omega | rfl | simp only [RH]) only [↓RP, RG, FX, RQ, ↓reduceIte, Nat.reduceEqDiff, reduceCtorEq, Nat.reduceBEq, Nat.reduceAdd, Nat.reduceLeDiff, RA, hag, hag2] <;> rfl) (.inl (by simp [allFresh, ints_fresh])) ?_
  by_cases c : x.length = n
  · rw [if_pos c] at hap
    subst hap
    simp (disch := first | assumption | omega | rfl | simp only [RH]) only [↓RP, RG, FX, RQ, ↓reduceIte, Nat.reduceEqDiff, reduceCtorEq, Nat.reduceBEq, Nat.reduceAdd, Nat.reduceLeDiff, hNc]
    rw [resVal_2 rfl]; simp (disch := first | assumption | omega | rfl | simp only [RH]) only [↓RP, RG, FX, RQ, ↓reduceIte, Nat.reduceEqDiff, reduceCtorEq, Nat.reduceBEq, Nat.reduceAdd, Nat.reduceLeDiff, RS]
    first | done | rfl
  · rw [if_neg c] at hap
    subst hap
    simp (disch := first | assumption | omega | rfl | simp only [RH]) only [↓RP, RG, FX, RQ, ↓reduceIte, Nat.reduceEqDiff, reduceCtorEq, Nat.reduceBEq, Nat.reduceAdd, Nat.reduceLeDiff, hNc]
    rw [resVal_2 rfl]; simp (disch := first | assumption | omega | rfl | simp only [RH]) only [↓RP, RG, FX, RQ, ↓reduceIte, Nat.reduceEqDiff, reduceCtorEq, Nat.reduceBEq, Nat.reduceAdd, Nat.reduceLeDiff, RS]
    first | done | (rw [isEmpty_pos b1]; rfl) | rw [isEmpty_pos b1]
theorem hangsP_c {W H n : Nat} (hN : W + H = n) (hW0 : 0 < W) (hH0 : 0 < H) (hn40 : n ≤ 64) (b : Bool) {l : List Bool} (hn : l.length = W * H) :
    Contract Tryz.prog 6 [GA W H b l] (.tuple [B (decide ((best W n l (n - 1)).length = n)), I 0]) := by
  have hF := apartP_c hN hW0 hH0 hn40 b hn
  obtain ⟨b1, b2⟩ := best_ok (W := W) (n := n) l (n - 1) (by omega)
  have hap : apt W n l = if (best W n l (n - 1)).length = n then [] else best W n l (n - 1) := rfl
  generalize best W n l (n - 1) = x at *
  generalize apt W n l = y at *
  refine Contract.intro (effS [] false) 6 follows Tryz.func6 rfl rfl (by kernel_rfl) (Nat.le_of_ble_eq_true rfl) ?_
  simp (disch := first | assumption | omega | rfl | simp only [RH]) only [↓RP, RG, FX, RQ, ↓reduceIte, Nat.reduceEqDiff, reduceCtorEq, Nat.reduceBEq, Nat.reduceAdd, Nat.reduceLeDiff, args0_1]
  refine callK_F 6 hF (by simp (disch := first | assumption | omega | rfl | simp only [RH]) only [↓RP, RG, FX, RQ, ↓reduceIte, Nat.reduceEqDiff, reduceCtorEq, Nat.reduceBEq, Nat.reduceAdd, Nat.reduceLeDiff, RA] <;> rfl) (.inl (by simp [allFresh, ints_fresh])) ?_
  by_cases c : x.length = n
  · rw [if_pos c] at hap
    have hy : y.length = 0 := by rw [hap]; rfl
    simp (disch := first | assumption | omega | rfl | simp only [RH]) only [↓RP, RG, FX, RQ, ↓reduceIte, Nat.reduceEqDiff, reduceCtorEq, Nat.reduceBEq, Nat.reduceAdd, Nat.reduceLeDiff]
    rw [resVal_2 rfl]; simp (disch := first | assumption | omega | rfl | simp only [RH]) only [↓RP, RG, FX, RQ, ↓reduceIte, Nat.reduceEqDiff, reduceCtorEq, Nat.reduceBEq, Nat.reduceAdd, Nat.reduceLeDiff, RS]
    first | done | simp [c]
  · rw [if_neg c] at hap
    have hy : 0 < y.length := by rw [hap]; exact b1
    simp (disch := first | assumption | omega | rfl | simp only [RH]) only [↓RP, RG, FX, RQ, ↓reduceIte, Nat.reduceEqDiff, reduceCtorEq, Nat.reduceBEq, Nat.reduceAdd, Nat.reduceLeDiff]
    rw [resVal_2 rfl]; simp (disch := first | assumption | omega | rfl | simp only [RH]) only [↓RP, RG, FX, RQ, ↓reduceIte, Nat.reduceEqDiff, reduceCtorEq, Nat.reduceBEq, Nat.reduceAdd, Nat.reduceLeDiff, RS]
    first | done | simp [c]
end Go.Proofs.YtllijejobeogdaaGreatDoor

/- A set of threads: is it one, and which are in it. -/
set_option linter.unusedSimpArgs false
set_option linter.unusedVariables false
set_option maxRecDepth 100000
namespace Go.Proofs.YtllijejobeogdaaGreatDoor
open Go Go.Proofs Go.AW

theorem mem_getD {l : List Int} {x : Int} : x ∈ l ↔ ∃ i, i < l.length ∧ l.getD i 0 = x := by
  rw [List.mem_iff_getElem]
  constructor
  · rintro ⟨i, hi, h⟩; exact ⟨i, hi, by rw [List.getD_eq_getElem?_getD, List.getElem?_eq_getElem hi]; exact h⟩
  · rintro ⟨i, hi, h⟩; exact ⟨i, hi, by rw [List.getD_eq_getElem?_getD, List.getElem?_eq_getElem hi] at h; exact h⟩
/-- The first k are threads, and each is more than the one ahead of it. -/
def okS (n : Nat) (s : List Int) (k : Nat) : Prop := ∀ i, i < k → (0 ≤ s.getD i 0 ∧ s.getD i 0 < n) ∧ (0 < i → s.getD (i - 1) 0 < s.getD i 0)
theorem okS_succ {n : Nat} {s : List Int} {k : Nat} (h : okS n s k) (h1 : 0 ≤ s.getD k 0 ∧ s.getD k 0 < n) (h2 : 0 < k → s.getD (k - 1) 0 < s.getD k 0) : okS n s (k + 1) := by
  intro i hi
  by_cases e : i = k
  · subst e; exact ⟨h1, h2⟩
  · exact h i (by omega)
/-- Which are among the first k. -/
def mks (n : Nat) (s : List Int) : Nat → List Bool
  | 0 => List.replicate n false
  | k + 1 => (mks n s k).set (s.getD k 0).toNat true
theorem mks_len (n : Nat) (s : List Int) (k : Nat) : (mks n s k).length = n := by
  induction k with
  | zero => simp [mks]
  | succ k ih => simp [mks, ih]
theorem mks_get {n : Nat} {s : List Int} {k : Nat} (h : okS n s k) {a : Nat} (ha : a < n) : (mks n s k).getD a false = true ↔ ∃ i, i < k ∧ s.getD i 0 = a := by
  induction k with
  | zero => simp [mks, List.getD_eq_getElem?_getD, List.getElem?_replicate, ha]
  | succ k ih =>
    have hk := (h k (by omega)).1
    have hi := ih fun i hi => h i (by omega)
    have hl := mks_len n s k
    have e : (mks n s (k + 1)).getD a false = if a = (s.getD k 0).toNat then true else (mks n s k).getD a false := by
      simp only [mks, List.getD_eq_getElem?_getD, List.getElem?_set]
      by_cases h : (s[k]?.getD 0).toNat = a
      · rw [if_pos h, if_pos h.symm, if_pos (by omega)]; rfl
      · rw [if_neg h, if_neg (Ne.symm h)]
    rw [e]
    by_cases hc : a = (s.getD k 0).toNat
    · rw [if_pos hc]
      exact ⟨fun _ => ⟨k, by omega, by omega⟩, fun _ => rfl⟩
    · rw [if_neg hc, hi]
      constructor
      · rintro ⟨i, h1, h2⟩; exact ⟨i, by omega, h2⟩
      · rintro ⟨i, h1, h2⟩
        by_cases e : i = k
        · subst e; omega
        · exact ⟨i, by omega, h2⟩

theorem notIn_c (n : Nat) (M : List Bool) (hM : M.length = n) {a : Nat} (ha : a < n) (hn : n ≤ 1000) :
    Contract Tryz.prog 24 [I a, .spot false [.list false false n (bools M)]] (B (!M.getD a false)) := by
  refine Contract.intro (effS [] false) 6 follows Tryz.func24 rfl rfl (by kernel_rfl) (Nat.le_of_ble_eq_true rfl) ?_
  simp (disch := first | assumption | omega | rfl | simp only [RH]) only [↓RP, RG, FX, RQ, ↓reduceIte, Nat.reduceEqDiff, reduceCtorEq, Nat.reduceBEq, Nat.reduceAdd, Nat.reduceLeDiff, args0_2]
  rw [resVal_1 rfl]; simp (disch := first | assumption | omega | rfl | simp only [RH]) only [↓RP, RG, FX, RQ, ↓reduceIte, Nat.reduceEqDiff, reduceCtorEq, Nat.reduceBEq, Nat.reduceAdd, Nat.reduceLeDiff, RS]
/-- There is one of them that is not in it. -/
theorem some_c (b : Bool) (n : Nat) (M : List Bool) (hM : M.length = n) (xs : List Nat) (hx : ∀ x ∈ xs, x < n) (hn : n ≤ 1000) (hxs : xs.length ≤ 1000) (r : Bool) (hr : r = true ↔ ∃ x ∈ xs, M.getD x false = false) :
    Contract Tryz.prog 23 [LA b (nI xs), .func (.func 24) [] [.spot false [.list false false n (bools M)]]] (B r) := by
  have hxl := nI_len xs
  have hgd : ∀ (j : Nat) (hj : j < xs.length), xs.getD j 0 = xs[j]'hj := fun j hj => by rw [List.getD_eq_getElem?_getD, List.getElem?_eq_getElem hj]; rfl
  have key : Contract Tryz.prog 27 [LA b (nI xs), .func (.func 24) [] [.spot false [.list false false n (bools M)]]] (I (if r = true then (xs.findIdx fun x => !M.getD x false : Nat) else -1)) := by
    refine Contract.intro (effS [] false) 6 follows Tryz.func27 rfl rfl (by kernel_rfl) (Nat.le_of_ble_eq_true rfl) ?_
    simp (disch := first | assumption | omega | rfl | simp only [RH]) only [↓RP, RG, FX, RQ, ↓reduceIte, Nat.reduceEqDiff, reduceCtorEq, Nat.reduceBEq, Nat.reduceAdd, Nat.reduceLeDiff, args0_2]
    refine loopK_I [0, 1, 7, 8] (fun k : Nat => k ≤ xs.length ∧ ∀ j, j < k → M.getD (xs.getD j 0) false = true) (fun k : Nat => ⟨[(0, LA b (nI xs)), (1, .func (.func 24) [] [.spot false [.list false false n (bools M)]]), (7, I (nI xs).length), (8, I k)], []⟩) (fun k => xs.length - k) 0 ⟨by omega, fun j hj => by omega⟩ (by simp only [↓RP, RG, FX, RQ, ↓reduceIte, Nat.reduceEqDiff, reduceCtorEq, Nat.reduceBEq, Nat.reduceAdd, Nat.reduceLeDiff]; rfl) ?_
    rintro k ⟨hk, hall⟩
    by_cases hlt : k < xs.length
    · have hg := nI_get xs k
      have hmem : xs.getD k 0 ∈ xs := by rw [List.getD_eq_getElem?_getD, List.getElem?_eq_getElem hlt]; exact List.getElem_mem _
      have hNI := notIn_c n M hM (hx _ hmem) hn
      obtain ⟨y, hy⟩ : ∃ y, xs.getD k 0 = y := ⟨_, rfl⟩
      rw [hy] at hg hmem hNI
      simp (disch := first | assumption | omega | rfl | simp only [RH]) only [↓RP, RG, FX, RQ, ↓reduceIte, Nat.reduceEqDiff, reduceCtorEq, Nat.reduceBEq, Nat.reduceAdd, Nat.reduceLeDiff, hg]
      refine callK_V 6 hNI (by simp (disch := omega) only [↓RP, RG, FX, RQ, ↓reduceIte, Nat.reduceEqDiff, reduceCtorEq, Nat.reduceBEq, Nat.reduceAdd, Nat.reduceLeDiff, RA] <;> rfl) (.inl rfl) ?_
      cases hc : M.getD y false with
      | false =>
        have hrt : r = true := hr.2 ⟨y, hmem, hc⟩
        have hf : (xs.findIdx fun x => !M.getD x false) = k := by
          have hp : (fun x => !M.getD x false) (xs[k]'hlt) = true := by
            have : xs[k]'hlt = y := by rw [← hy, List.getD_eq_getElem?_getD, List.getElem?_eq_getElem hlt]; rfl
            simp only [this, hc]; rfl
          refine (List.findIdx_eq hlt).2 ⟨hp, fun j hj => ?_⟩
          have := hall j hj
          rw [hgd j (by omega)] at this
          simp only [this]; rfl
        rw [if_pos hrt, hf]
        simp (disch := first | assumption | omega | rfl | simp only [RH]) only [↓RP, RG, FX, RQ, ↓reduceIte, Nat.reduceEqDiff, reduceCtorEq, Nat.reduceBEq, Nat.reduceAdd, Nat.reduceLeDiff]
        rw [resVal_1 rfl]; simp (disch := first | assumption | omega | rfl | simp only [RH]) only [↓RP, RG, FX, RQ, ↓reduceIte, Nat.reduceEqDiff, reduceCtorEq, Nat.reduceBEq, Nat.reduceAdd, Nat.reduceLeDiff, RS]
      | true =>
        simp (disch := first | assumption | omega | rfl | simp only [RH]) only [↓RP, RG, FX, RQ, ↓reduceIte, Nat.reduceEqDiff, reduceCtorEq, Nat.reduceBEq, Nat.reduceAdd, Nat.reduceLeDiff]
        refine ⟨k + 1, ⟨hlt, fun j hj => ?_⟩, rfl, by omega⟩
        by_cases e : j = k
        · subst e; rw [hy]; exact hc
        · exact hall j (by omega)
    · obtain rfl : k = xs.length := by omega
      have hrf : r = false := by
        cases r with
        | false => rfl
        | true =>
          obtain ⟨x, h1, h2⟩ := hr.1 rfl
          obtain ⟨i, hi, e⟩ := List.mem_iff_getElem.1 h1
          have := hall i hi
          rw [hgd i hi, e, h2] at this
          cases this
      subst hrf
      simp (disch := first | assumption | omega | rfl | simp only [RH]) only [↓RP, RG, FX, RQ, ↓reduceIte, Nat.reduceEqDiff, reduceCtorEq, Nat.reduceBEq, Nat.reduceAdd, Nat.reduceLeDiff]
      rw [resVal_1 rfl]; simp (disch := first | assumption | omega | rfl | simp only [RH]) only [↓RP, RG, FX, RQ, ↓reduceIte, Nat.reduceEqDiff, reduceCtorEq, Nat.reduceBEq, Nat.reduceAdd, Nat.reduceLeDiff, RS]
      first | done | rfl
  refine Contract.intro (effS [] false) 6 follows Tryz.func23 rfl rfl (by kernel_rfl) (Nat.le_of_ble_eq_true rfl) ?_
  simp (disch := first | assumption | omega | rfl | simp only [RH]) only [↓RP, RG, FX, RQ, ↓reduceIte, Nat.reduceEqDiff, reduceCtorEq, Nat.reduceBEq, Nat.reduceAdd, Nat.reduceLeDiff, args0_2]
  refine callK_F 6 key (by simp (disch := omega) only [↓RP, RG, FX, RQ, ↓reduceIte, Nat.reduceEqDiff, reduceCtorEq, Nat.reduceBEq, Nat.reduceAdd, Nat.reduceLeDiff, RA] <;> rfl) (.inl rfl) ?_
  cases r with
  | false =>
    rw [if_neg (by simp)]
    simp (disch := first | assumption | omega | rfl | simp only [RH]) only [↓RP, RG, FX, RQ, ↓reduceIte, Nat.reduceEqDiff, reduceCtorEq, Nat.reduceBEq, Nat.reduceAdd, Nat.reduceLeDiff]
    rw [resVal_1 rfl]; simp (disch := first | assumption | omega | rfl | simp only [RH]) only [↓RP, RG, FX, RQ, ↓reduceIte, Nat.reduceEqDiff, reduceCtorEq, Nat.reduceBEq, Nat.reduceAdd, Nat.reduceLeDiff, RS]
  | true =>
    rw [if_pos rfl]
    simp (disch := first | assumption | omega | rfl | simp only [RH]) only [↓RP, RG, FX, RQ, ↓reduceIte, Nat.reduceEqDiff, reduceCtorEq, Nat.reduceBEq, Nat.reduceAdd, Nat.reduceLeDiff]
    rw [resVal_1 rfl]; simp (disch := first | assumption | omega | rfl | simp only [RH]) only [↓RP, RG, FX, RQ, ↓reduceIte, Nat.reduceEqDiff, reduceCtorEq, Nat.reduceBEq, Nat.reduceAdd, Nat.reduceLeDiff, RS]
end Go.Proofs.YtllijejobeogdaaGreatDoor

/- Off, of both. -/
set_option linter.unusedSimpArgs false
set_option linter.unusedVariables false
set_option maxRecDepth 100000
namespace Go.Proofs.YtllijejobeogdaaGreatDoor
open Go Go.Proofs Go.AW

/-- No thread outside lies over one of them. -/
def offD (W n : Nat) (l : List Bool) (M : List Bool) : Prop := ∀ a, a < n → ∀ c, c < n → ¬ (M.getD a false = false ∧ M.getD c false = true ∧ ov W l a c = true)
end Go.Proofs.YtllijejobeogdaaGreatDoor

/- Off, by the program. -/
set_option linter.unusedSimpArgs false
set_option linter.unusedVariables false
set_option maxRecDepth 100000
namespace Go.Proofs.YtllijejobeogdaaGreatDoor
open Go Go.Proofs Go.AW

theorem adjT_len (W n : Nat) (l : List Bool) (c : Nat) : (adjT W n l c).length ≤ n := by
  unfold adjT; exact Nat.le_trans (List.length_filter_le _ _) (by simp)
theorem offP_c {W H n : Nat} (hN : W + H = n) (hW0 : 0 < W) (hH0 : 0 < H) (hn40 : n ≤ 64) (b bs : Bool) {l : List Bool} (hn : l.length = W * H) (s : List Int) (hs : s.length ≤ 1000) (r : Bool) (e : Int)
    (hno : ¬ okS n s s.length → r = false ∧ e = 2) (hyes : okS n s s.length → e = 0 ∧ (r = true ↔ 0 < s.length ∧ s.length ≠ n ∧ offD W n l (mks n s s.length))) :
    Contract Tryz.prog 9 [GA W H b l, LA bs s] (.tuple [B r, I e]) := by
  have hz : gchk W H l.length = 0 := gchk_ok ⟨by omega, by omega, by omega, by omega, by rw [hn, Int.natCast_mul]⟩
  have hNc : (W : Int) + (H : Int) = (n : Int) := by omega
  have hNi : ((W : Int) + (H : Int)).toNat = n := by omega
  have hcell : ofCell (.slice none 0 0) = .cap0 true := rfl
  refine Contract.intro (effS [] false) 6 follows Tryz.func9 rfl rfl (by kernel_rfl) (Nat.le_of_ble_eq_true rfl) ?_
  simp (disch := first | assumption | omega | rfl | simp only [RH]) only [↓RP, RG, FX, RQ, ↓reduceIte, Nat.reduceEqDiff, reduceCtorEq, Nat.reduceBEq, Nat.reduceAdd, Nat.reduceLeDiff, args0_2]
  refine callK_F 6 (gcheckP_c W H b l) (by simp (disch := first | assumption | omega | rfl | simp only [RH]) only [↓RP, RG, FX, RQ, ↓reduceIte, Nat.reduceEqDiff, reduceCtorEq, Nat.reduceBEq, Nat.reduceAdd, Nat.reduceLeDiff, RA] <;> rfl) (.inl (by simp [allFresh, ints_fresh, bools_fresh])) ?_
  simp (disch := first | assumption | omega | rfl | simp only [RH]) only [↓RP, RG, FX, RQ, ↓reduceIte, Nat.reduceEqDiff, reduceCtorEq, Nat.reduceBEq, Nat.reduceAdd, Nat.reduceLeDiff, hz, make_bool, hNi, hNc, hcell]
  refine loopK_I [1, 2, 7, 24, 25, 26] (fun k : Nat => k ≤ s.length ∧ okS n s k) (fun k : Nat => ⟨[(1, LA bs s), (2, .ptr 0 0 3), (7, .ptr 2 0 1), (24, LA bs s), (25, I s.length), (26, I k)], [⟨24, 3, [I W, I H, BA b l]⟩, ⟨4, 1, bools (mks n s k)⟩, ⟨22, 1, [.ref 1 0 n n]⟩]⟩) (fun k => s.length - k) 0 ⟨by omega, fun i hi => by omega⟩ (by simp only [↓RP, RG, FX, RQ, ↓reduceIte, Nat.reduceEqDiff, reduceCtorEq, Nat.reduceBEq, Nat.reduceAdd, Nat.reduceLeDiff]; rfl) ?_
  rintro k ⟨hk, hok⟩
  by_cases hlt : k < s.length
  · have hI := isThread_c W H b l (s.getD k 0) (by omega) (by omega)
    rw [hNc] at hI
    have he : ((k : Int) - 1).toNat = k - 1 := by omega
    have hml := mks_len n s k
    by_cases c1 : 0 ≤ s.getD k 0 ∧ s.getD k 0 < n
    · rw [decide_eq_true c1] at hI
      obtain ⟨c11, c12⟩ := c1
      by_cases c2 : 0 < k
      · by_cases c3 : s.getD (k - 1) 0 < s.getD k 0
        · simp (disch := first | assumption | omega | rfl | simp only [RH]) only [↓RP, RG, FX, RQ, ↓reduceIte, Nat.reduceEqDiff, reduceCtorEq, Nat.reduceBEq, Nat.reduceAdd, Nat.reduceLeDiff]
          refine callK_F 6 (hI) (by simp (disch := first | assumption | omega | rfl | simp only [RH]) only [↓RP, RG, FX, RQ, ↓reduceIte, Nat.reduceEqDiff, reduceCtorEq, Nat.reduceBEq, Nat.reduceAdd, Nat.reduceLeDiff, RA] <;> rfl) (.inl (by simp [allFresh, ints_fresh, bools_fresh])) ?_
          simp (disch := first | assumption | omega | rfl | simp only [RH]) only [↓RP, RG, FX, RQ, ↓reduceIte, Nat.reduceEqDiff, reduceCtorEq, Nat.reduceBEq, Nat.reduceAdd, Nat.reduceLeDiff, he]
          exact ⟨k + 1, ⟨hlt, okS_succ hok ⟨c11, c12⟩ fun _ => c3⟩, rfl, by omega⟩
        · obtain ⟨hr1, hr2⟩ := hno fun h => c3 ((h k hlt).2 c2)
          subst hr1 hr2
          simp (disch := first | assumption | omega | rfl | simp only [RH]) only [↓RP, RG, FX, RQ, ↓reduceIte, Nat.reduceEqDiff, reduceCtorEq, Nat.reduceBEq, Nat.reduceAdd, Nat.reduceLeDiff]
          refine callK_F 6 (hI) (by simp (disch := first | assumption | omega | rfl | simp only [RH]) only [↓RP, RG, FX, RQ, ↓reduceIte, Nat.reduceEqDiff, reduceCtorEq, Nat.reduceBEq, Nat.reduceAdd, Nat.reduceLeDiff, RA] <;> rfl) (.inl (by simp [allFresh, ints_fresh, bools_fresh])) ?_
          simp (disch := first | assumption | omega | rfl | simp only [RH]) only [↓RP, RG, FX, RQ, ↓reduceIte, Nat.reduceEqDiff, reduceCtorEq, Nat.reduceBEq, Nat.reduceAdd, Nat.reduceLeDiff, he]
          rw [resVal_2 rfl]; simp (disch := first | assumption | omega | rfl | simp only [RH]) only [↓RP, RG, FX, RQ, ↓reduceIte, Nat.reduceEqDiff, reduceCtorEq, Nat.reduceBEq, Nat.reduceAdd, Nat.reduceLeDiff, RS]
      · simp (disch := first | assumption | omega | rfl | simp only [RH]) only [↓RP, RG, FX, RQ, ↓reduceIte, Nat.reduceEqDiff, reduceCtorEq, Nat.reduceBEq, Nat.reduceAdd, Nat.reduceLeDiff]
        refine callK_F 6 (hI) (by simp (disch := first | assumption | omega | rfl | simp only [RH]) only [↓RP, RG, FX, RQ, ↓reduceIte, Nat.reduceEqDiff, reduceCtorEq, Nat.reduceBEq, Nat.reduceAdd, Nat.reduceLeDiff, RA] <;> rfl) (.inl (by simp [allFresh, ints_fresh, bools_fresh])) ?_
        simp (disch := first | assumption | omega | rfl | simp only [RH]) only [↓RP, RG, FX, RQ, ↓reduceIte, Nat.reduceEqDiff, reduceCtorEq, Nat.reduceBEq, Nat.reduceAdd, Nat.reduceLeDiff]
        exact ⟨k + 1, ⟨hlt, okS_succ hok ⟨c11, c12⟩ fun h => absurd h c2⟩, rfl, by omega⟩
    · rw [decide_eq_false c1] at hI
      obtain ⟨hr1, hr2⟩ := hno fun h => c1 (h k hlt).1
      subst hr1 hr2
      simp (disch := first | assumption | omega | rfl | simp only [RH]) only [↓RP, RG, FX, RQ, ↓reduceIte, Nat.reduceEqDiff, reduceCtorEq, Nat.reduceBEq, Nat.reduceAdd, Nat.reduceLeDiff]
      refine callK_F 6 (hI) (by simp (disch := first | assumption | omega | rfl | simp only [RH]) only [↓RP, RG, FX, RQ, ↓reduceIte, Nat.reduceEqDiff, reduceCtorEq, Nat.reduceBEq, Nat.reduceAdd, Nat.reduceLeDiff, RA] <;> rfl) (.inl (by simp [allFresh, ints_fresh, bools_fresh])) ?_
      simp (disch := first | assumption | omega | rfl | simp only [RH]) only [↓RP, RG, FX, RQ, ↓reduceIte, Nat.reduceEqDiff, reduceCtorEq, Nat.reduceBEq, Nat.reduceAdd, Nat.reduceLeDiff]
      rw [resVal_2 rfl]; simp (disch := first | assumption | omega | rfl | simp only [RH]) only [↓RP, RG, FX, RQ, ↓reduceIte, Nat.reduceEqDiff, reduceCtorEq, Nat.reduceBEq, Nat.reduceAdd, Nat.reduceLeDiff, RS]
  obtain rfl : k = s.length := by omega
  obtain ⟨rfl, hr⟩ := hyes hok
  have hml := mks_len n s s.length
  by_cases c0 : s.length = 0
  · have hrf : r = false := by
      cases r with
      | false => rfl
      | true => exact absurd (hr.1 rfl).1 (by omega)
    subst hrf
    simp (disch := first | assumption | omega | rfl | simp only [RH]) only [↓RP, RG, FX, RQ, ↓reduceIte, Nat.reduceEqDiff, reduceCtorEq, Nat.reduceBEq, Nat.reduceAdd, Nat.reduceLeDiff]
    rw [resVal_2 rfl]; simp (disch := first | assumption | omega | rfl | simp only [RH]) only [↓RP, RG, FX, RQ, ↓reduceIte, Nat.reduceEqDiff, reduceCtorEq, Nat.reduceBEq, Nat.reduceAdd, Nat.reduceLeDiff, RS]
  by_cases cn : s.length = n
  · have hrf : r = false := by
      cases r with
      | false => rfl
      | true => exact absurd cn (hr.1 rfl).2.1
    subst hrf
    simp (disch := first | assumption | omega | rfl | simp only [RH]) only [↓RP, RG, FX, RQ, ↓reduceIte, Nat.reduceEqDiff, reduceCtorEq, Nat.reduceBEq, Nat.reduceAdd, Nat.reduceLeDiff]
    rw [resVal_2 rfl]; simp (disch := first | assumption | omega | rfl | simp only [RH]) only [↓RP, RG, FX, RQ, ↓reduceIte, Nat.reduceEqDiff, reduceCtorEq, Nat.reduceBEq, Nat.reduceAdd, Nat.reduceLeDiff, RS]
  have hO := order_c hN hW0 hH0 (by omega) (by omega) b hn
  have hab : (abv W n l).length = n := by simp [abv]
  have hat : ∀ c, c < n → ((LL (abv W n l)).drop c)[0]? = some (LR (nI (adjT W n l c)).isEmpty (nI (adjT W n l c))) := by
    intro c hc
    rw [LL_at (rs := abv W n l) (by omega), abv_adj hc]
  have hmg : ∀ a, a < n → ((mks n s s.length).getD a false = true ↔ ∃ i, i < s.length ∧ s.getD i 0 = a) := fun a ha => mks_get hok ha
  generalize LL (abv W n l) = la at *
  generalize LL (bel W n l) = ld at *
  generalize mks n s s.length = M at *
  simp (disch := first | assumption | omega | rfl | simp only [RH]) only [↓RP, RG, FX, RQ, ↓reduceIte, Nat.reduceEqDiff, reduceCtorEq, Nat.reduceBEq, Nat.reduceAdd, Nat.reduceLeDiff]
  refine callK_F 6 hO (by simp (disch := first | assumption | omega | rfl | simp only [RH]) only [↓RP, RG, FX, RQ, ↓reduceIte, Nat.reduceEqDiff, reduceCtorEq, Nat.reduceBEq, Nat.reduceAdd, Nat.reduceLeDiff, RA] <;> rfl) (.inr (by simp [noRef, bools_noRef])) ?_
  simp (disch := first | assumption | omega | rfl | simp only [RH]) only [↓RP, RG, FX, RQ, ↓reduceIte, Nat.reduceEqDiff, reduceCtorEq, Nat.reduceBEq, Nat.reduceAdd, Nat.reduceLeDiff, hcell]
  refine loopK_I [7, 10, 64, 65, 66] (fun k : Nat => k ≤ s.length ∧ ∀ i, i < k → ∀ x, x ∈ adjT W n l (s.getD i 0).toNat → M.getD x false = true) (fun k : Nat => ⟨[(7, .ptr 2 0 1), (10, .ptr 3 0 2), (64, LA bs s), (65, I s.length), (66, I k)], [⟨24, 3, [I W, I H, BA b l]⟩, ⟨4, 1, bools M⟩, ⟨22, 1, [.ref 1 0 n n]⟩, ⟨48, 2, [.list true false n ld, .list true false n la]⟩]⟩) (fun k => s.length - k) 0 ⟨by omega, fun i hi => by omega⟩ (by simp only [↓RP, RG, FX, RQ, ↓reduceIte, Nat.reduceEqDiff, reduceCtorEq, Nat.reduceBEq, Nat.reduceAdd, Nat.reduceLeDiff]; rfl) ?_
  rintro k ⟨hk, hall⟩
  by_cases hlt : k < s.length
  · obtain ⟨d1, d2⟩ := (hok k hlt).1
    obtain ⟨c, hc⟩ : ∃ c : Nat, s.getD k 0 = c := ⟨(s.getD k 0).toNat, by omega⟩
    have hcn : c < n := by omega
    have hac := hat c hcn
    have hct : (s.getD k 0).toNat = c := by omega
    have hxl := nI_len (adjT W n l c)
    have hxn := adjT_len W n l c
    by_cases hbad : ∃ x ∈ adjT W n l c, M.getD x false = false
    · have hS := some_c (nI (adjT W n l c)).isEmpty n M hml (adjT W n l c) (fun x hx => adjT_lt hx) (by omega) (by omega) true ⟨fun _ => hbad, fun _ => rfl⟩
      have hrf : r = false := by
        cases r with
        | false => rfl
        | true =>
          obtain ⟨x, h1, h2⟩ := hbad
          have hov : ov W l x c = true := by
            simp only [adjT, List.mem_filter] at h1; exact h1.2
          exact absurd ⟨h2, (hmg c hcn).2 ⟨k, hlt, hc⟩, hov⟩ ((hr.1 rfl).2.2 x (adjT_lt h1) c hcn)
      subst hrf
      generalize nI (adjT W n l c) = xs at *
      simp (disch := first | assumption | omega | rfl | simp only [RH]) only [↓RP, RG, FX, RQ, ↓reduceIte, Nat.reduceEqDiff, reduceCtorEq, Nat.reduceBEq, Nat.reduceAdd, Nat.reduceLeDiff, hc, hct, hac]
      refine callK_F 6 hS (by simp (disch := omega) only [↓RP, RG, FX, RQ, ↓reduceIte, Nat.reduceEqDiff, reduceCtorEq, Nat.reduceBEq, Nat.reduceAdd, Nat.reduceLeDiff, RA, hml] <;> rfl) (.inl rfl) ?_
      simp (disch := first | assumption | omega | rfl | simp only [RH]) only [↓RP, RG, FX, RQ, ↓reduceIte, Nat.reduceEqDiff, reduceCtorEq, Nat.reduceBEq, Nat.reduceAdd, Nat.reduceLeDiff]
      rw [resVal_2 rfl]; simp (disch := first | assumption | omega | rfl | simp only [RH]) only [↓RP, RG, FX, RQ, ↓reduceIte, Nat.reduceEqDiff, reduceCtorEq, Nat.reduceBEq, Nat.reduceAdd, Nat.reduceLeDiff, RS]
    · have hS := some_c (nI (adjT W n l c)).isEmpty n M hml (adjT W n l c) (fun x hx => adjT_lt hx) (by omega) (by omega) false ⟨fun h => (by cases h), fun h => absurd h hbad⟩
      have hnx : ∀ i, i < k + 1 → ∀ x, x ∈ adjT W n l (s.getD i 0).toNat → M.getD x false = true := by
        intro i hi x hx
        by_cases e : i = k
        · subst e
          rw [hct] at hx
          cases hm : M.getD x false with
          | true => rfl
          | false => exact absurd ⟨x, hx, hm⟩ hbad
        · exact hall i (by omega) x hx
      generalize nI (adjT W n l c) = xs at *
      simp (disch := first | assumption | omega | rfl | simp only [RH]) only [↓RP, RG, FX, RQ, ↓reduceIte, Nat.reduceEqDiff, reduceCtorEq, Nat.reduceBEq, Nat.reduceAdd, Nat.reduceLeDiff, hc, hct, hac]
      refine callK_F 6 hS (by simp (disch := omega) only [↓RP, RG, FX, RQ, ↓reduceIte, Nat.reduceEqDiff, reduceCtorEq, Nat.reduceBEq, Nat.reduceAdd, Nat.reduceLeDiff, RA, hml] <;> rfl) (.inl rfl) ?_
      simp (disch := first | assumption | omega | rfl | simp only [RH]) only [↓RP, RG, FX, RQ, ↓reduceIte, Nat.reduceEqDiff, reduceCtorEq, Nat.reduceBEq, Nat.reduceAdd, Nat.reduceLeDiff]
      exact ⟨k + 1, ⟨hlt, hnx⟩, rfl, by omega⟩
  · obtain rfl : k = s.length := by omega
    have hrt : r = true := hr.2 ⟨by omega, cn, fun a ha c hc ⟨h1, h2, h3⟩ => by
      obtain ⟨i, hi, e⟩ := (hmg c hc).1 h2
      have := hall i hi a (by
        rw [e]
        simp only [adjT, List.mem_filter, List.mem_range]
        exact ⟨ha, h3⟩)
      rw [h1] at this; cases this⟩
    subst hrt
    simp (disch := first | assumption | omega | rfl | simp only [RH]) only [↓RP, RG, FX, RQ, ↓reduceIte, Nat.reduceEqDiff, reduceCtorEq, Nat.reduceBEq, Nat.reduceAdd, Nat.reduceLeDiff]
    rw [resVal_2 rfl]; simp (disch := first | assumption | omega | rfl | simp only [RH]) only [↓RP, RG, FX, RQ, ↓reduceIte, Nat.reduceEqDiff, reduceCtorEq, Nat.reduceBEq, Nat.reduceAdd, Nat.reduceLeDiff, RS]
end Go.Proofs.YtllijejobeogdaaGreatDoor

/- The law HangAsks. -/
set_option linter.unusedSimpArgs false
set_option linter.unusedVariables false
set_option maxRecDepth 100000
namespace Go.Proofs.YtllijejobeogdaaGreatDoor
open Go Go.Proofs Go.AW

theorem great10_a (w h : Int) (b : Bool) (l : List Bool) (hl : 200 < (l.length : Int)) : Contract Tryz.prog 11 [GA w h b l] (B true) := by
  refine Contract.intro (effS [] false) 6 follows Tryz.func11 rfl rfl (by kernel_rfl) (Nat.le_of_ble_eq_true rfl) ?_
  simp (disch := first | assumption | omega | rfl | simp only [RH]) only [↓RP, RG, FX, RQ, ↓reduceIte, Nat.reduceEqDiff, reduceCtorEq, Nat.reduceBEq, Nat.reduceAdd, Nat.reduceLeDiff, args0_1]
  rw [resVal_1 rfl]; simp (disch := first | assumption | omega | rfl | simp only [RH]) only [↓RP, RG, FX, RQ, ↓reduceIte, Nat.reduceEqDiff, reduceCtorEq, Nat.reduceBEq, Nat.reduceAdd, Nat.reduceLeDiff, RS]
theorem great10_b (w h : Int) (b : Bool) (l : List Bool) (hl : ¬ 200 < (l.length : Int)) (hz : gchk w h l.length ≠ 0) : Contract Tryz.prog 11 [GA w h b l] (B false) := by
  refine Contract.intro (effS [] false) 6 follows Tryz.func11 rfl rfl (by kernel_rfl) (Nat.le_of_ble_eq_true rfl) ?_
  simp (disch := first | assumption | omega | rfl | simp only [RH]) only [↓RP, RG, FX, RQ, ↓reduceIte, Nat.reduceEqDiff, reduceCtorEq, Nat.reduceBEq, Nat.reduceAdd, Nat.reduceLeDiff, args0_1]
  refine callK_F 6 (gcheckR_c w h b l) (by simp (disch := first | assumption | omega | rfl | simp only [RH]) only [↓RP, RG, FX, RQ, ↓reduceIte, Nat.reduceEqDiff, reduceCtorEq, Nat.reduceBEq, Nat.reduceAdd, Nat.reduceLeDiff, RA] <;> rfl) (.inl (by simp [allFresh, ints_fresh, bools_fresh])) ?_
  simp (disch := first | assumption | omega | rfl | simp only [RH]) only [↓RP, RG, FX, RQ, ↓reduceIte, Nat.reduceEqDiff, reduceCtorEq, Nat.reduceBEq, Nat.reduceAdd, Nat.reduceLeDiff]
  rw [resVal_1 rfl]; simp (disch := first | assumption | omega | rfl | simp only [RH]) only [↓RP, RG, FX, RQ, ↓reduceIte, Nat.reduceEqDiff, reduceCtorEq, Nat.reduceBEq, Nat.reduceAdd, Nat.reduceLeDiff, RS]
theorem great10_c (W H : Nat) (b : Bool) (l : List Bool) (hl : ¬ 200 < (l.length : Int)) (hz : gchk W H l.length = 0) (hW : W ≤ 64) (hH : H ≤ 64) : Contract Tryz.prog 11 [GA W H b l] (B (decide (24 < (W : Int) + H))) := by
  refine Contract.intro (effS [] false) 6 follows Tryz.func11 rfl rfl (by kernel_rfl) (Nat.le_of_ble_eq_true rfl) ?_
  simp (disch := first | assumption | omega | rfl | simp only [RH]) only [↓RP, RG, FX, RQ, ↓reduceIte, Nat.reduceEqDiff, reduceCtorEq, Nat.reduceBEq, Nat.reduceAdd, Nat.reduceLeDiff, args0_1]
  refine callK_F 6 (gcheckR_c W H b l) (by simp (disch := first | assumption | omega | rfl | simp only [RH]) only [↓RP, RG, FX, RQ, ↓reduceIte, Nat.reduceEqDiff, reduceCtorEq, Nat.reduceBEq, Nat.reduceAdd, Nat.reduceLeDiff, RA] <;> rfl) (.inl (by simp [allFresh, ints_fresh, bools_fresh])) ?_
  simp (disch := first | assumption | omega | rfl | simp only [RH]) only [↓RP, RG, FX, RQ, ↓reduceIte, Nat.reduceEqDiff, reduceCtorEq, Nat.reduceBEq, Nat.reduceAdd, Nat.reduceLeDiff, hz]
  refine callK_F 6 (threads_c W H b l hW hH) (by simp (disch := first | assumption | omega | rfl | simp only [RH]) only [↓RP, RG, FX, RQ, ↓reduceIte, Nat.reduceEqDiff, reduceCtorEq, Nat.reduceBEq, Nat.reduceAdd, Nat.reduceLeDiff, RA] <;> rfl) (.inl (by simp [allFresh, ints_fresh, bools_fresh])) ?_
  by_cases c : 24 < (W : Int) + H
  · simp (disch := first | assumption | omega | rfl | simp only [RH]) only [↓RP, RG, FX, RQ, ↓reduceIte, Nat.reduceEqDiff, reduceCtorEq, Nat.reduceBEq, Nat.reduceAdd, Nat.reduceLeDiff]
    rw [resVal_1 rfl]; simp (disch := first | assumption | omega | rfl | simp only [RH]) only [↓RP, RG, FX, RQ, ↓reduceIte, Nat.reduceEqDiff, reduceCtorEq, Nat.reduceBEq, Nat.reduceAdd, Nat.reduceLeDiff, RS]
    first | done | simp [c]
  · simp (disch := first | assumption | omega | rfl | simp only [RH]) only [↓RP, RG, FX, RQ, ↓reduceIte, Nat.reduceEqDiff, reduceCtorEq, Nat.reduceBEq, Nat.reduceAdd, Nat.reduceLeDiff]
    rw [resVal_1 rfl]; simp (disch := first | assumption | omega | rfl | simp only [RH]) only [↓RP, RG, FX, RQ, ↓reduceIte, Nat.reduceEqDiff, reduceCtorEq, Nat.reduceBEq, Nat.reduceAdd, Nat.reduceLeDiff, RS]
    first | done | simp [c]

end Go.Proofs.YtllijejobeogdaaGreatDoor

/- What the search says: each thread that is reached has a next one that is nearer. -/
set_option linter.unusedSimpArgs false
set_option linter.unusedVariables false
set_option maxRecDepth 100000
namespace Go.Proofs.YtllijejobeogdaaGreatDoor
open Go Go.Proofs Go.AW

/-- What holds all along, of the ways. -/
structure Near (n a : Nat) (adj : Nat → List Nat) (far : List Int) (q : List Nat) : Prop where
  q0 : ∀ c ∈ q, 0 ≤ far.getD c 0
  one : ∀ x, x < n → far.getD x 0 = 0 → x = a
  zero : far.getD a 0 = 0
  next : ∀ x, x < n → 0 < far.getD x 0 → ∃ c, c < n ∧ far.getD c 0 = far.getD x 0 - 1 ∧ x ∈ adj c
theorem Near.push {n a : Nat} {adj : Nat → List Nat} {far : List Int} {q : List Nat} (h : Near n a adj far q) (hs : far.length = n) {b c : Nat} (hb : b < n) (hc : c < n) (hc0 : 0 ≤ far.getD c 0) (hn : far.getD b 0 < 0) (hadj : b ∈ adj c) : Near n a adj (far.set b (far.getD c 0 + 1)) (q ++ [b]) := by
  have hbl : b < far.length := by omega
  refine ⟨fun x hx => ?_, fun x hx h0 => ?_, ?_, fun x hx h0 => ?_⟩
  · rw [getD_set' hbl]
    split
    · omega
    · rcases List.mem_append.1 hx with g | g
      · exact h.q0 x g
      · rename_i hne
        exact absurd (by simpa using g) hne
  · rw [getD_set' hbl] at h0
    split at h0
    · omega
    · exact h.one x hx h0
  · rw [getD_set' hbl]
    have := h.zero
    rw [if_neg (fun e => by subst e; omega)]
    exact this
  · rw [getD_set' hbl] at h0 ⊢
    by_cases e : x = b
    · subst e
      rw [if_pos rfl] at h0 ⊢
      refine ⟨c, hc, ?_, hadj⟩
      rw [getD_set' hbl, if_neg (fun e => by subst e; omega)]
      omega
    · rw [if_neg e] at h0 ⊢
      obtain ⟨d, h1, h2, h3⟩ := h.next x hx h0
      refine ⟨d, h1, ?_, h3⟩
      rw [getD_set' hbl, if_neg (fun e => by subst e; omega)]
      exact h2
theorem inner_near {n a : Nat} {adj : Nat → List Nat} {c : Nat} (hc : c < n) : ∀ (ds : List Nat) (far : List Int) (q : List Nat), (∀ b ∈ ds, b < n ∧ b ∈ adj c) → Sound n far q → 0 ≤ far.getD c 0 → Near n a adj far q → Near n a adj (inner c ds (far, q)).1 (inner c ds (far, q)).2
  | [], far, q, _, _, _, h => h
  | b :: r, far, q, hd, hs, hc0, h => by
    have hd' : ∀ x ∈ r, x < n ∧ x ∈ adj c := fun x hx => hd x (List.mem_cons_of_mem _ hx)
    obtain ⟨hb, hbc⟩ := hd b List.mem_cons_self
    simp only [inner]
    split
    · rename_i hneg
      obtain ⟨h1, h2⟩ := hs.push hb hc hneg
      refine inner_near hc r _ _ hd' h1 ?_ (h.push hs.len hb hc hc0 hneg hbc)
      rw [getD_set' (by rw [hs.len]; exact hb), if_neg (fun e => by subst e; omega)]
      exact hc0
    · exact inner_near hc r far q hd' hs hc0 h
theorem bfs_near {n a : Nat} {adj : Nat → List Nat} (ha : ∀ c, c < n → ∀ b ∈ adj c, b < n) : ∀ (k : Nat) (far : List Int) (q : List Nat), Sound n far q → Near n a adj far q → ∃ q', Near n a adj (bfs adj k far q) q'
  | 0, far, q, _, h => ⟨q, h⟩
  | k + 1, far, [], _, h => ⟨[], h⟩
  | k + 1, far, c :: q, hs, h =>
    have hc := hs.mem c List.mem_cons_self
    bfs_near ha k _ _ (inner_ok hc (adj c) far q (ha c hc) hs.tail).1
      (inner_near hc (adj c) far q (fun b hb => ⟨ha c hc b hb, hb⟩) hs.tail (h.q0 c List.mem_cons_self) ⟨fun x hx => h.q0 x (List.mem_cons_of_mem _ hx), h.one, h.zero, h.next⟩)
theorem srch_near {W n : Nat} (l : List Bool) {a : Nat} (ha : a < n) : ∃ q, Near n a (adjT W n l) (srch (adjT W n l) (far0 n a) [a]) q := by
  refine bfs_near (fun c hc x hx => adjT_lt hx) _ _ _ (far0_sound ha).1 ?_
  have hl : a < (List.replicate n (-1 : Int)).length := by simpa using ha
  have hrep : ∀ x, x < n → (List.replicate n (-1 : Int)).getD x 0 = -1 := fun x hx => by simp [List.getD_eq_getElem?_getD, List.getElem?_replicate, hx]
  unfold far0
  refine ⟨fun x hx => ?_, fun x hx h0 => ?_, ?_, fun x hx h0 => ?_⟩
  · rw [getD_set' hl, if_pos (by simpa using hx)]; omega
  · rw [getD_set' hl] at h0
    by_cases e : x = a
    · exact e
    · rw [if_neg e, hrep x hx] at h0; omega
  · rw [getD_set' hl, if_pos rfl]
  · rw [getD_set' hl] at h0
    by_cases e : x = a
    · rw [if_pos e] at h0; omega
    · rw [if_neg e, hrep x hx] at h0; omega
end Go.Proofs.YtllijejobeogdaaGreatDoor

/- The way, by the reference. -/
set_option linter.unusedSimpArgs false
set_option linter.unusedVariables false
set_option maxRecDepth 100000
namespace Go.Proofs.YtllijejobeogdaaGreatDoor
open Go Go.Proofs Go.AW

/-- What the distances to a are. -/
structure Dist (W n : Nat) (l : List Bool) (a : Nat) (far : List Int) : Prop where
  len : far.length = n
  low : ∀ i, i < n → -1 ≤ far.getD i 0
  high : ∀ i, i < n → far.getD i 0 ≤ n
  one : ∀ x, x < n → far.getD x 0 = 0 → x = a
  zero : far.getD a 0 = 0
  next : ∀ x, x < n → 0 < far.getD x 0 → ∃ c, c < n ∧ far.getD c 0 = far.getD x 0 - 1 ∧ ov W l x c = true
/-- The next thread of the way. -/
def isN (W : Nat) (l : List Bool) (far : List Int) (x b : Nat) : Bool := decide (far.getD b 0 = far.getD x 0 - 1) && ov W l x b
def stp (W n : Nat) (l : List Bool) (far : List Int) (x : Nat) : Nat := (List.range n).findIdx (isN W l far x)
def wayL (W n : Nat) (l : List Bool) (far : List Int) : Nat → Nat → List Int
  | 0, _ => []
  | d + 1, x => (stp W n l far x : Int) :: wayL W n l far d (stp W n l far x)
end Go.Proofs.YtllijejobeogdaaGreatDoor

/- A cloth that hangs together: every way is there. The walk, plain. -/
set_option linter.unusedSimpArgs false
set_option linter.unusedVariables false
set_option maxRecDepth 100000
namespace Go.Proofs.YtllijejobeogdaaGreatDoor
open Go Go.Proofs Go.AW

theorem upN_all {far : List Int} : ∀ {n : Nat}, (upN far n).length = n → ∀ i, i < n → 0 ≤ far.getD i 0 := by
  intro n
  induction n with
  | zero => intro _ i hi; omega
  | succ n ih =>
    intro h i hi
    have hle := upN_le far n
    simp only [upN] at h
    split at h
    · rename_i h0
      simp only [List.length_append, List.length_singleton] at h
      by_cases e : i = n
      · subst e; exact h0
      · exact ih (by omega) i (by omega)
    · omega
theorem best_least (W n : Nat) (l : List Bool) : ∀ k j, j ≤ k → (best W n l k).length ≤ (upon W n l j).length := by
  intro k
  induction k with
  | zero => intro j hj; obtain rfl : j = 0 := by omega
            exact Nat.le_refl _
  | succ k ih =>
    intro j hj
    simp only [best]
    by_cases e : j = k + 1
    · subst e
      split
      · exact Nat.le_refl _
      · rename_i h
        unfold less at h
        have := Classical.byContradiction fun hh => h (.inl (Nat.lt_of_not_le hh))
        exact this
    · have := ih j (by omega)
      split
      · rename_i h
        unfold less at h
        rcases h with h | h <;> omega
      · exact this
/-- Where the cloth hangs together, each thread is reached from each. -/
theorem all_near {W n : Nat} (l : List Bool) (hb : (best W n l (n - 1)).length = n) {a x : Nat} (ha : a < n) (hx : x < n) : 0 ≤ (srch (adjT W n l) (far0 n a) [a]).getD x 0 := by
  have h1 := best_least W n l (n - 1) a (by omega)
  have h2 := upon_le W n l a
  exact upN_all (show (upN (srch (adjT W n l) (far0 n a) [a]) n).length = n by show (upon W n l a).length = n; omega) x hx
/-- The way from x to a; the walk over the first k ways. -/
def wayT (W n : Nat) (l : List Bool) (x a : Nat) : List Int := wayL W n l (srch (adjT W n l) (far0 n a) [a]) ((srch (adjT W n l) (far0 n a) [a]).getD x 0).toNat x
def wk (W n : Nat) (l : List Bool) : Nat → List Int
  | 0 => [0]
  | k + 1 => wk W n l k ++ wayT W n l k ((k + 1) % n)
theorem nI_inc {xs : List Nat} (h : xs.Pairwise (· < ·)) : (nI xs).Pairwise (· < ·) := by
  unfold nI
  rw [List.pairwise_map]
  exact h.imp fun h => by omega
end Go.Proofs.YtllijejobeogdaaGreatDoor

/- What hanging together is: no closed set but all. Plain. -/
set_option linter.unusedSimpArgs false
set_option linter.unusedVariables false
set_option maxRecDepth 100000
namespace Go.Proofs.YtllijejobeogdaaGreatDoor
open Go Go.Proofs Go.AW

/-- With a thread, all that lie over it. -/
def Cl (W n : Nat) (l : List Bool) (M : Nat → Prop) : Prop := ∀ c, c < n → M c → ∀ a, a < n → ov W l a c = true → M a
theorem mem_adjT {W n : Nat} {l : List Bool} {c a : Nat} : a ∈ adjT W n l c ↔ a < n ∧ ov W l a c = true := by
  simp only [adjT, List.mem_filter, List.mem_range]
/-- What is reached from a is in each closed set that a is in. -/
theorem reach_in {W n : Nat} {l : List Bool} {a : Nat} (ha : a < n) {M : Nat → Prop} (hM : Cl W n l M) (h0 : M a) : ∀ (d x : Nat), x < n → (srch (adjT W n l) (far0 n a) [a]).getD x 0 = d → M x := by
  obtain ⟨q, hN⟩ := srch_near (W := W) l ha
  intro d
  induction d with
  | zero => intro x hx h; rw [hN.one x hx h]; exact h0
  | succ d ih =>
    intro x hx h
    obtain ⟨c, c1, c2, c3⟩ := hN.next x hx (by omega)
    exact hM c c1 (ih c c1 (by omega)) x hx (mem_adjT.1 c3).2
theorem inner_done {n c : Nat} (hc : c < n) : ∀ (ds : List Nat) (far : List Int) (q : List Nat), (∀ b ∈ ds, b < n) → Sound n far q → 0 ≤ far.getD c 0 →
    (∀ x, 0 ≤ far.getD x 0 → 0 ≤ (inner c ds (far, q)).1.getD x 0) ∧ (∀ b ∈ ds, 0 ≤ (inner c ds (far, q)).1.getD b 0) ∧ (∀ x, x < n → 0 ≤ (inner c ds (far, q)).1.getD x 0 → 0 ≤ far.getD x 0 ∨ x ∈ (inner c ds (far, q)).2) ∧ ∀ x ∈ q, x ∈ (inner c ds (far, q)).2
  | [], far, q, _, _, _ => ⟨fun x h => h, fun b hb => absurd hb (by simp), fun x hx h => Or.inl h, fun x h => h⟩
  | b :: r, far, q, hd, hs, hc0 => by
    have hd' : ∀ x ∈ r, x < n := fun x hx => hd x (List.mem_cons_of_mem _ hx)
    have hb := hd b List.mem_cons_self
    have hbl : b < far.length := by rw [hs.len]; exact hb
    simp only [inner]
    split
    · rename_i hneg
      obtain ⟨h1, h2⟩ := hs.push hb hc hneg
      have hc1 : 0 ≤ (far.set b (far.getD c 0 + 1)).getD c 0 := by
        rw [getD_set' hbl]; split <;> omega
      obtain ⟨i1, i2, i3, i4⟩ := inner_done hc r _ _ hd' h1 hc1
      refine ⟨fun x hx => i1 x ?_, fun x hx => ?_, fun x hx h => ?_, fun x hx => i4 x (List.mem_append_left _ hx)⟩
      · rw [getD_set' hbl]; split <;> omega
      · rcases List.mem_cons.1 hx with e | e
        · subst e
          refine i1 x ?_
          rw [getD_set' hbl, if_pos rfl]; omega
        · exact i2 x e
      · rcases i3 x hx h with g | g
        · rw [getD_set' hbl] at g
          by_cases e : x = b
          · exact .inr (i4 x (by simp [e]))
          · rw [if_neg e] at g; exact .inl g
        · exact .inr g
    · rename_i hneg
      obtain ⟨i1, i2, i3, i4⟩ := inner_done hc r far q hd' hs hc0
      refine ⟨i1, fun x hx => ?_, i3, i4⟩
      rcases List.mem_cons.1 hx with e | e
      · subst e; exact i1 x (by omega)
      · exact i2 x e
/-- Each one that is reached is in the queue, or all next to it are reached. -/
def Done (n : Nat) (adj : Nat → List Nat) (far : List Int) (q : List Nat) : Prop := (∀ c ∈ q, 0 ≤ far.getD c 0) ∧ ∀ c, c < n → 0 ≤ far.getD c 0 → c ∈ q ∨ ∀ b ∈ adj c, 0 ≤ far.getD b 0
theorem bfs_done {n : Nat} {adj : Nat → List Nat} (ha : ∀ c, c < n → ∀ b ∈ adj c, b < n) : ∀ (k : Nat) (far : List Int) (q : List Nat), Sound n far q → Done n adj far q → 2 * neg far + q.length ≤ k → Done n adj (bfs adj k far q) []
  | 0, far, q, _, h, hk => by
    have : q = [] := List.eq_nil_of_length_eq_zero (by omega)
    subst this; exact h
  | k + 1, far, [], _, h, _ => h
  | k + 1, far, c :: q, hs, h, hk => by
    have hc := hs.mem c List.mem_cons_self
    have hc0 := h.1 c List.mem_cons_self
    obtain ⟨h1, h2⟩ := inner_ok hc (adj c) far q (ha c hc) hs.tail
    obtain ⟨i1, i2, i3, i4⟩ := inner_done hc (adj c) far q (ha c hc) hs.tail hc0
    simp only [List.length_cons] at hk
    refine bfs_done ha k _ _ h1 ⟨fun x hx => ?_, fun x hx hx0 => ?_⟩ (by omega)
    · refine Classical.byContradiction fun hneg => ?_
      have hN : ∀ (ds : List Nat) (far : List Int) (q : List Nat), (∀ b ∈ ds, b < n) → Sound n far q → 0 ≤ far.getD c 0 → (∀ y ∈ q, 0 ≤ far.getD y 0) → ∀ y ∈ (inner c ds (far, q)).2, 0 ≤ (inner c ds (far, q)).1.getD y 0 := by
        intro ds
        induction ds with
        | nil => intro far q _ _ _ hq; exact hq
        | cons b r ih =>
          intro far q hd hs hc0 hq
          have hb := hd b List.mem_cons_self
          have hbl : b < far.length := by rw [hs.len]; exact hb
          simp only [inner]
          split
          · rename_i hneg
            refine ih _ _ (fun x hx => hd x (List.mem_cons_of_mem _ hx)) (hs.push hb hc hneg).1 ?_ (fun y hy => ?_)
            · rw [getD_set' hbl]; split <;> omega
            · rw [getD_set' hbl]
              split
              · omega
              · rename_i hne
                rcases List.mem_append.1 hy with g | g
                · exact hq y g
                · exact absurd (by simpa using g) hne
          · exact ih _ _ (fun x hx => hd x (List.mem_cons_of_mem _ hx)) hs hc0 hq
      exact hneg (hN (adj c) far q (ha c hc) hs.tail hc0 (fun y hy => h.1 y (List.mem_cons_of_mem _ hy)) x hx)
    · rcases i3 x hx hx0 with g | g
      · rcases h.2 x hx g with e | e
        · rcases List.mem_cons.1 e with e | e
          · subst e; exact .inr i2
          · exact .inl (i4 x e)
        · exact .inr fun b hb => i1 b (e b hb)
      · exact .inl g
/-- What is reached from a. -/
def Rch (W n : Nat) (l : List Bool) (a x : Nat) : Prop := 0 ≤ (srch (adjT W n l) (far0 n a) [a]).getD x 0
instance (W n : Nat) (l : List Bool) (a x : Nat) : Decidable (Rch W n l a x) := by unfold Rch; infer_instance
theorem rch_cl {W n : Nat} (l : List Bool) {a : Nat} (ha : a < n) : Cl W n l (Rch W n l a) := by
  have h : Done n (adjT W n l) (srch (adjT W n l) (far0 n a) [a]) [] := by
    refine bfs_done (fun c hc x hx => adjT_lt hx) _ _ _ (far0_sound ha).1 ⟨fun c hc => ?_, fun c hc hc0 => ?_⟩ (Nat.le_refl _)
    · obtain rfl : c = a := by simpa using hc
      unfold far0
      rw [getD_set' (by simpa using ha), if_pos rfl]; omega
    · by_cases e : c = a
      · exact .inl (by simp [e])
      · unfold far0 at hc0
        rw [getD_set' (by simpa using ha), if_neg e] at hc0
        simp [List.getD_eq_getElem?_getD, List.getElem?_replicate, hc] at hc0
  intro c hc hR x hx hov
  rcases h.2 c hc hR with g | g
  · cases g
  · exact g x (mem_adjT.2 ⟨hx, hov⟩)
theorem rch_self {W n : Nat} (l : List Bool) {a : Nat} (ha : a < n) : Rch W n l a a := srch_self l ha
theorem rch_in {W n : Nat} {l : List Bool} {a x : Nat} (ha : a < n) (hx : x < n) {M : Nat → Prop} (hM : Cl W n l M) (h0 : M a) (h : Rch W n l a x) : M x :=
  reach_in ha hM h0 ((srch (adjT W n l) (far0 n a) [a]).getD x 0).toNat x hx (by unfold Rch at h; omega)
/-- The numbers below k that are wanted: upN, upon. -/
theorem upN_eq (far : List Int) (k : Nat) : upN far k = nI ((List.range k).filter fun i => decide (0 ≤ far.getD i 0)) := by
  induction k with
  | zero => rfl
  | succ k ih =>
    simp only [upN]
    rw [List.range_succ, List.filter_append, ih]
    split
    · rename_i h
      rw [List.filter_cons_of_pos (by simpa using h), List.filter_nil, nI_app]
    · rename_i h
      rw [List.filter_cons_of_neg (by simpa using h), List.filter_nil, List.append_nil]
theorem upon_eq (W n : Nat) (l : List Bool) (a : Nat) : upon W n l a = nI ((List.range n).filter fun i => decide (Rch W n l a i)) := upN_eq _ _
theorem best_upon (W n : Nat) (l : List Bool) : ∀ k, ∃ j, j ≤ k ∧ best W n l k = upon W n l j := by
  intro k
  induction k with
  | zero => exact ⟨0, Nat.le_refl _, rfl⟩
  | succ k ih =>
    simp only [best]
    split
    · exact ⟨k + 1, Nat.le_refl _, rfl⟩
    · obtain ⟨j, h1, h2⟩ := ih; exact ⟨j, by omega, h2⟩
/-- The cloth hangs together. -/
def Hg (W n : Nat) (l : List Bool) : Prop := ∀ M : Nat → Prop, Cl W n l M → (∃ c, c < n ∧ M c) → ∀ x, x < n → M x
theorem hg_best {W n : Nat} {l : List Bool} (hn : 0 < n) : (best W n l (n - 1)).length = n ↔ Hg W n l := by
  constructor
  · rintro hb M hM ⟨c, hc, h0⟩ x hx
    exact rch_in hc hx hM h0 (all_near l hb hc hx)
  · intro h
    obtain ⟨j, h1, h2⟩ := best_upon W n l (n - 1)
    have hall : ∀ x, x < n → Rch W n l j x := h _ (rch_cl l (by omega)) ⟨j, by omega, rch_self l (by omega)⟩
    rw [h2, upon_eq, List.filter_eq_self.2 (fun x hx => decide_eq_true (hall x (List.mem_range.1 hx))), nI_len, List.length_range]
end Go.Proofs.YtllijejobeogdaaGreatDoor

/- The next thread of the way, by the program. -/
set_option linter.unusedSimpArgs false
set_option linter.unusedVariables false
set_option maxRecDepth 100000
namespace Go.Proofs.YtllijejobeogdaaGreatDoor
open Go Go.Proofs Go.AW

end Go.Proofs.YtllijejobeogdaaGreatDoor

/- Accept, by the reference. -/
set_option linter.unusedSimpArgs false
set_option linter.unusedVariables false
set_option maxRecDepth 100000
namespace Go.Proofs.YtllijejobeogdaaGreatDoor
open Go Go.Proofs Go.AW

end Go.Proofs.YtllijejobeogdaaGreatDoor

/- Whole walks, and sets that come off. Plain. -/
set_option linter.unusedSimpArgs false
set_option linter.unusedVariables false
set_option maxRecDepth 100000
namespace Go.Proofs.YtllijejobeogdaaGreatDoor
open Go Go.Proofs Go.AW

theorem inc_okS {n : Nat} {s : List Int} (h : s.Pairwise (· < ·)) (hm : ∀ x ∈ s, 0 ≤ x ∧ x < n) : okS n s s.length := by
  have hgd : ∀ (j : Nat) (hj : j < s.length), s.getD j 0 = s[j]'hj := fun j hj => by rw [List.getD_eq_getElem?_getD, List.getElem?_eq_getElem hj]; rfl
  intro i hi
  refine ⟨hm _ (mem_getD.2 ⟨i, hi, rfl⟩), fun h0 => ?_⟩
  rw [hgd i hi, hgd (i - 1) (by omega)]
  exact List.pairwise_iff_getElem.1 h (i - 1) i (by omega) hi (by omega)
theorem okS_inc {n : Nat} {s : List Int} (h : okS n s s.length) : s.Pairwise (· < ·) := by
  have hgd : ∀ (j : Nat) (hj : j < s.length), s.getD j 0 = s[j]'hj := fun j hj => by rw [List.getD_eq_getElem?_getD, List.getElem?_eq_getElem hj]; rfl
  rw [List.pairwise_iff_getElem]
  have : ∀ (d i : Nat), i + d + 1 < s.length → s.getD i 0 < s.getD (i + d + 1) 0 := by
    intro d
    induction d with
    | zero => intro i hi; have := (h (i + 1) hi).2 (by omega); rwa [show i + 1 - 1 = i by omega] at this
    | succ d ih =>
      intro i hi
      have h1 := ih i (by omega)
      have h2 := (h (i + (d + 1) + 1) hi).2 (by omega)
      rw [show i + (d + 1) + 1 - 1 = i + d + 1 by omega] at h2
      omega
  intro i j hi hj hij
  have := this (j - i - 1) i (by omega)
  rw [show i + (j - i - 1) + 1 = j by omega, hgd i hi, hgd j hj] at this
  exact this
theorem mks_mem {n : Nat} {s : List Int} (h : okS n s s.length) {a : Nat} (ha : a < n) : (mks n s s.length).getD a false = true ↔ (a : Int) ∈ s := (mks_get h ha).trans mem_getD.symm
theorem okS_eq {n : Nat} {s : List Int} (h : okS n s s.length) : s = nI ((List.range n).filter fun a => (mks n s s.length).getD a false) := by
  refine sinc_ext _ _ (okS_inc h) (nI_inc (List.Pairwise.filter _ List.pairwise_lt_range)) fun x => ?_
  unfold nI
  simp only [List.mem_map, List.mem_filter, List.mem_range]
  constructor
  · intro hx
    obtain ⟨i, hi, e⟩ := mem_getD.1 hx
    have := (h i hi).1
    have hxn : ((x.toNat : Nat) : Int) = x := by omega
    refine ⟨x.toNat, ⟨by omega, (mks_mem h (by omega)).2 (by rw [hxn]; exact hx)⟩, hxn⟩
  · rintro ⟨y, ⟨h1, h2⟩, rfl⟩
    exact (mks_mem h h1).1 h2
theorem offD_cl {W n : Nat} {l M : List Bool} : offD W n l M ↔ Cl W n l fun a => M.getD a false = true := by
  constructor
  · intro h c hc hm a ha hov
    cases hb : M.getD a false with
    | true => rfl
    | false => exact absurd ⟨hb, hm, hov⟩ (h a ha c hc)
  · rintro h a ha c hc ⟨h1, h2, h3⟩
    have this : M.getD a false = true := h c hc h2 a ha h3
    rw [h1] at this; cases this
theorem filter_len_le {p q : Nat → Bool} (n : Nat) (h : ∀ a, a < n → p a = true → q a = true) : ((List.range n).filter p).length ≤ ((List.range n).filter q).length := by
  rw [← List.countP_eq_length_filter, ← List.countP_eq_length_filter]
  exact List.countP_mono_left fun x hx hp => h x (List.mem_range.1 hx) hp
/-- What comes off has all that one of its threads needs; so it is no less than the least. -/
theorem off_min {W n : Nat} {l : List Bool} {s : List Int} (h : okS n s s.length) (h0 : 0 < s.length) (hd : offD W n l (mks n s s.length)) : (best W n l (n - 1)).length ≤ s.length := by
  obtain ⟨c0, c1⟩ := (h 0 h0).1
  obtain ⟨c, hc⟩ : ∃ c : Nat, s.getD 0 0 = c := ⟨(s.getD 0 0).toNat, by omega⟩
  have hcn : c < n := by omega
  have hcm : (mks n s s.length).getD c false = true := (mks_mem h hcn).2 (mem_getD.2 ⟨0, h0, hc⟩)
  have h1 := best_least W n l (n - 1) c (by omega)
  have h2 : (upon W n l c).length ≤ s.length := by
    have e : s.length = ((List.range n).filter fun a => (mks n s s.length).getD a false).length := by
      have := congrArg List.length (okS_eq h)
      rwa [nI_len] at this
    rw [upon_eq, nI_len, e]
    exact filter_len_le n fun a ha hp => rch_in hcn ha (offD_cl.1 hd) hcm (by simpa using hp)
  omega
theorem off_hg {W n : Nat} {l : List Bool} (hg : Hg W n l) {s : List Int} (h : okS n s s.length) (h0 : 0 < s.length) (hd : offD W n l (mks n s s.length)) : s.length = n := by
  obtain ⟨c0, c1⟩ := (h 0 h0).1
  have h1 := off_min h h0 hd
  rw [(hg_best (by omega)).2 hg] at h1
  have h2 : s.length ≤ n := by
    rw [okS_eq h, nI_len]
    exact Nat.le_trans (List.length_filter_le _ _) (by simp)
  omega
end Go.Proofs.YtllijejobeogdaaGreatDoor

/- Sets told by their threads; the back. Plain. -/
set_option linter.unusedSimpArgs false
set_option linter.unusedVariables false
set_option maxRecDepth 100000
namespace Go.Proofs.YtllijejobeogdaaGreatDoor
open Go Go.Proofs Go.AW

/-- The threads that p wants. -/
def fil (n : Nat) (p : Nat → Bool) : List Int := nI ((List.range n).filter p)
theorem fil_len (n : Nat) (p : Nat → Bool) : (fil n p).length = ((List.range n).filter p).length := nI_len _
theorem fil_le (n : Nat) (p : Nat → Bool) : (fil n p).length ≤ n := by rw [fil_len]; exact Nat.le_trans (List.length_filter_le _ _) (by simp)
theorem mem_fil {n : Nat} {p : Nat → Bool} {a : Nat} : (a : Int) ∈ fil n p ↔ a < n ∧ p a = true := by
  unfold fil nI
  simp only [List.mem_map, List.mem_filter, List.mem_range]
  constructor
  · rintro ⟨y, h, e⟩
    obtain rfl : y = a := by omega
    exact h
  · intro h; exact ⟨a, h, rfl⟩
theorem fil_okS (n : Nat) (p : Nat → Bool) : okS n (fil n p) (fil n p).length := by
  refine inc_okS (nI_inc (List.Pairwise.filter _ List.pairwise_lt_range)) fun x hx => ?_
  have hx : x ∈ fil n p := hx
  unfold fil nI at hx
  simp only [List.mem_map, List.mem_filter, List.mem_range] at hx
  obtain ⟨y, h, rfl⟩ := hx
  omega
theorem fil_mks {n : Nat} {p : Nat → Bool} {a : Nat} (ha : a < n) : (mks n (fil n p) (fil n p).length).getD a false = p a := by
  have h := mks_mem (fil_okS n p) ha
  rw [mem_fil] at h
  cases hp : p a with
  | true => exact h.2 ⟨ha, hp⟩
  | false =>
    cases hm : (mks n (fil n p) (fil n p).length).getD a false with
    | false => rfl
    | true => have := (h.1 hm).2; rw [hp] at this; cases this
theorem fil_pos {n : Nat} {p : Nat → Bool} : 0 < (fil n p).length ↔ ∃ a, a < n ∧ p a = true := by
  rw [fil_len, List.length_pos_iff_exists_mem]
  simp only [List.mem_filter, List.mem_range]
theorem fil_all {n : Nat} {p : Nat → Bool} : (fil n p).length = n ↔ ∀ a, a < n → p a = true := by
  rw [fil_len]
  constructor
  · intro h a ha
    have h2 := List.length_filter_eq_length_iff.1 (h.trans (List.length_range (n := n)).symm)
    exact h2 a (List.mem_range.2 ha)
  · intro h
    rw [List.filter_eq_self.2 fun a ha => h a (List.mem_range.1 ha), List.length_range]
/-- It comes off: by its threads. -/
def Offs (W n : Nat) (l : List Bool) (p : Nat → Bool) : Prop := (∃ a, a < n ∧ p a = true) ∧ (∃ a, a < n ∧ p a = false) ∧ ∀ a, a < n → ∀ c, c < n → ¬ (p a = false ∧ p c = true ∧ ov W l a c = true)
theorem offs_iff {W n : Nat} {l : List Bool} {p : Nat → Bool} : 0 < (fil n p).length ∧ (fil n p).length ≠ n ∧ offD W n l (mks n (fil n p) (fil n p).length) ↔ Offs W n l p := by
  rw [fil_pos, Ne, fil_all]
  unfold Offs offD
  refine and_congr_right fun _ => and_congr ⟨fun h => ?_, fun h h2 => ?_⟩ ⟨fun h a ha c hc => ?_, fun h a ha c hc => ?_⟩
  · refine Classical.byContradiction fun hn => h fun a ha => ?_
    cases hp : p a with
    | true => rfl
    | false => exact absurd ⟨a, ha, hp⟩ hn
  · obtain ⟨a, ha, hp⟩ := h
    rw [h2 a ha] at hp; cases hp
  · have := h a ha c hc; rwa [fil_mks ha, fil_mks hc] at this
  · rw [fil_mks ha, fil_mks hc]; exact h a ha c hc
/-- Off of the threads that p wants. -/
theorem offP_fil {W H n : Nat} (hN : W + H = n) (hW0 : 0 < W) (hH0 : 0 < H) (hn40 : n ≤ 64) (b bs : Bool) {l : List Bool} (hn : l.length = W * H) (p : Nat → Bool) (r : Bool) (hr : r = true ↔ Offs W n l p) :
    Contract Tryz.prog 9 [GA W H b l, LA bs (fil n p)] (.tuple [B r, I 0]) :=
  offP_c hN hW0 hH0 hn40 b bs hn (fil n p) (by have := fil_le n p; omega) r 0 (fun h => absurd (fil_okS n p) h) (fun _ => ⟨rfl, hr.trans offs_iff.symm⟩)
end Go.Proofs.YtllijejobeogdaaGreatDoor

/- Chapter 8: the threads of a grid, one after another. -/
set_option linter.unusedSimpArgs false
set_option linter.unusedVariables false
set_option maxRecDepth 100000
namespace Go.Proofs.YtllijejobeogdaaGreatDoor
open Go Go.Proofs Go.AW

/-- The cells of a column, of a row turned over. -/
def faC (W H : Nat) (l : List Bool) (x : Nat) : List Bool := (List.range H).map fun y => l.getD (W * y + x) false
def faR (W : Nat) (l : List Bool) (y : Nat) : List Bool := (List.range W).map fun x => !l.getD (W * y + x) false
theorem faC_len (W H : Nat) (l : List Bool) (x : Nat) : (faC W H l x).length = H := by simp [faC]
theorem faR_len (W : Nat) (l : List Bool) (y : Nat) : (faR W l y).length = W := by simp [faR]
theorem faC_take {W H : Nat} {l : List Bool} {x y : Nat} (hy : y < H) : (faC W H l x).take (y + 1) = (faC W H l x).take y ++ [l.getD (W * y + x) false] := by
  rw [List.take_add_one]; simp [faC, hy]
theorem faR_take {W : Nat} {l : List Bool} {x y : Nat} (hx : x < W) : (faR W l y).take (x + 1) = (faR W l y).take x ++ [!l.getD (W * y + x) false] := by
  rw [List.take_add_one]; simp [faR, hx]
/-- Thread number k: ends first. -/
def faK (W H : Nat) (l : List Bool) (k : Nat) : List Bool := if k < W then faC W H l k else faR W l (k - W)
def lineA (m W H : Nat) (l : List Bool) (k : Nat) : AVal := .agg [B (decide (k < W)), I (if k < W then k else k - W : Nat), .ref (m + 1) 0 (if k < W then H else W) (if k < W then H else W)]
def lineO (m W H : Nat) (l : List Bool) (k : Nat) : List AObj := [⟨61, 3, [B (decide (k < W)), I (if k < W then k else k - W : Nat), .ref (m + 1) 0 (if k < W then H else W) (if k < W then H else W)]⟩, ⟨4, 1, bools (faK W H l k)⟩]

theorem lineA_c {W x : Nat} (m H : Nat) (l : List Bool) (h : x < W) : lineA m W H l x = .agg [B true, I x, .ref (m + 1) 0 H H] := by unfold lineA; rw [if_pos h, if_pos h, decide_eq_true h]
theorem lineA_r {W x : Nat} (m H : Nat) (l : List Bool) (h : ¬ x < W) : lineA m W H l x = .agg [B false, I (x - W : Nat), .ref (m + 1) 0 W W] := by unfold lineA; rw [if_neg h, if_neg h, decide_eq_false h]
theorem lineO_c {W x : Nat} (m H : Nat) (l : List Bool) (h : x < W) : lineO m W H l x = [⟨61, 3, [B true, I x, .ref (m + 1) 0 H H]⟩, ⟨4, 1, bools (faC W H l x)⟩] := by unfold lineO faK; rw [if_pos h, if_pos h, if_pos h, decide_eq_true h]
theorem lineO_r {W x : Nat} (m H : Nat) (l : List Bool) (h : ¬ x < W) : lineO m W H l x = [⟨61, 3, [B false, I (x - W : Nat), .ref (m + 1) 0 W W]⟩, ⟨4, 1, bools (faR W l (x - W))⟩] := by unfold lineO faK; rw [if_neg h, if_neg h, if_neg h, decide_eq_false h]

theorem lines_c (W H : Nat) (b : Bool) (l : List Bool) : Contract Tryz.prog 31 [GA W H b l] (.func (.func 41) [] [.spot true [I W, I H, BA b l]]) := by
  refine Contract.intro (effS [] false [] [0]) 6 follows Tryz.func31 rfl rfl (by kernel_rfl) (Nat.le_of_ble_eq_true rfl) ?_
  simp (disch := first | assumption | omega | rfl | simp only [RH]) only [↓RP, RG, FX, RQ, ↓reduceIte, Nat.reduceEqDiff, reduceCtorEq, Nat.reduceBEq, Nat.reduceAdd, Nat.reduceLeDiff, args0_1]
  rw [resVal_1 rfl]; simp (disch := first | assumption | omega | rfl | simp only [RH]) only [↓RP, RG, FX, RQ, ↓reduceIte, Nat.reduceEqDiff, reduceCtorEq, Nat.reduceBEq, Nat.reduceAdd, Nat.reduceLeDiff, RS]
  first | done | simp [resOf, resOf_list, bools_res]
end Go.Proofs.YtllijejobeogdaaGreatDoor

/- Chapter 8: the threads, yielded. -/
set_option linter.unusedSimpArgs false
set_option linter.unusedVariables false
set_option maxRecDepth 100000
namespace Go.Proofs.YtllijejobeogdaaGreatDoor
open Go Go.Proofs Go.AW

section
variable {W H : Nat} (hW0 : 0 < W) (hH0 : 0 < H) (hW : W ≤ 1000) (hH : H ≤ 1000) (p b : Bool) {l : List Bool} (hn : l.length = W * H) (m : Nat) (hs ex : Nat → List AObj)
include hW0 hH0 hW hH hn
theorem linesF_y (hsh : ∀ k, k ≤ W + H → Shut m (hs k)) : SpecY Tryz.prog 41 (stepsO (W + H) hs (lineO m W H l) ex (lineA m W H l)) [.spot p [I W, I H, BA b l]] (hs 0) (hs (W + H)) := by
  have hm : ∀ k, k ≤ W + H → (hs k).length = m := fun k hk => (hsh k hk).1
  refine SpecY.intro (effS [] false) follows Tryz.func41 rfl rfl (by kernel_rfl) (Nat.le_of_ble_eq_true rfl) rfl (fun yv => ?_)
  simp (disch := first | assumption | omega | rfl | simp only [RH]) only [↓RP, RG, FX, RQ, ↓reduceIte, Nat.reduceEqDiff, reduceCtorEq, Nat.reduceBEq, Nat.reduceAdd, Nat.reduceLeDiff, args0_2]
  refine loopK_WW [0, 1, 10, 11] (fun x : Nat => x ≤ W) (fun x : Nat => ⟨[(0, .val yv), (1, .spot p [I W, I H, BA b l]), (10, I W), (11, I x)], hs x⟩) (fun x => W - x) 0 (by omega) (Wk.of_eq (by simp only [↓RP, RG, FX, RQ, ↓reduceIte, Nat.reduceEqDiff, reduceCtorEq, Nat.reduceBEq, Nat.reduceAdd, Nat.reduceLeDiff]; rfl)) ?_
  intro x hx
  by_cases hlt : x < W
  · have hmx := hm x (by omega)
    simp (disch := first | assumption | omega | rfl | simp only [RH]) only [↓RP, RG, FX, RQ, ↓reduceIte, Nat.reduceEqDiff, reduceCtorEq, Nat.reduceBEq, Nat.reduceAdd, Nat.reduceLeDiff]
    refine loopK_WW [0, 1, 3, 4, 10, 11, 17, 18] (fun y : Nat => y ≤ H) (fun y : Nat => ⟨[(0, .val yv), (1, .spot p [I W, I H, BA b l]), (3, I x), (4, .ptr (hs x).length 0 3), (10, I W), (11, I x), (17, I H), (18, I y)], hs x ++ [⟨61, 3, [B true, I x, gw true ((hs x).length + 1) (bools ((faC W H l x).take y))]⟩, go 4 (bools ((faC W H l x).take y))]⟩) (fun y => H - y) 0 (by omega) ?_ ?_
    · simp only [↓RP, RG, FX, RQ, ↓reduceIte, Nat.reduceEqDiff, reduceCtorEq, Nat.reduceBEq, Nat.reduceAdd, Nat.reduceLeDiff]
      exact Wk.weak (fun t => .refl _) (.app (hs x) (.cons _ _ _ _ (.cons (.refl _) (.cons (.refl _) (.cons (.nil _) .nil))) (.nil _ (by simp [go, bools]))))
    intro y hy
    by_cases hlt2 : y < H
    · have hil := idx_lt hlt hlt2
      have hWH : W * H ≤ 1000 * 1000 := Nat.mul_le_mul hW hH
      have m1 : (y : Int) * (W : Int) = ((W * y : Nat) : Int) := by rw [Int.natCast_mul, Int.mul_comm]
      have m2 : ((W * y : Nat) : Int) + (x : Int) = ((W * y + x : Nat) : Int) := by omega
      have htk : ((faC W H l x).take y).length = y := by rw [List.length_take, faC_len]; omega
      simp (disch := first | assumption | omega | rfl | simp only [RH]) only [↓RP, RG, FX, RQ, ↓reduceIte, Nat.reduceEqDiff, reduceCtorEq, Nat.reduceBEq, Nat.reduceAdd, Nat.reduceLeDiff, m1, m2, Int.toNat_natCast, effY_b, effY_n, effY_f, effY_l, effY_z, effY_D, append_bool]
      refine ⟨y + 1, by omega, Wk.of_eq ?_, by omega⟩
      rw [faC_take hlt2]
      rfl
    · obtain rfl : H = y := by omega
      have htk : (faC W H l x).take H = faC W H l x := List.take_of_length_le (by rw [faC_len]; omega)
      have hcl := faC_len W H l x
      have hp : 0 < (bools (faC W H l x)).length := by rw [bools_length]; omega
      simp (disch := first | assumption | omega | rfl | simp only [RH]) only [↓RP, RG, FX, RQ, ↓reduceIte, Nat.reduceEqDiff, reduceCtorEq, Nat.reduceBEq, Nat.reduceAdd, Nat.reduceLeDiff, htk, gw_pos hp, go_pos hp, bools_length, hcl]
      refine callK_Y rfl (stepsO_at x (by omega) (by rw [lineA_c _ _ _ hlt, hmx]) (by rw [lineO_c _ _ _ hlt, hmx]) rfl) ?_
      simp (disch := first | assumption | omega | rfl | simp only [RH]) only [↓RP, RG, FX, RQ, ↓reduceIte, Nat.reduceEqDiff, reduceCtorEq, Nat.reduceBEq, Nat.reduceAdd, Nat.reduceLeDiff]
      refine ⟨x + 1, by omega, ?_, by omega⟩
      refine (Wk.shut ((hm _ (by omega)).trans (hm 0 (by omega)).symm) ?_).trans (Wk.of_eq ?_)
      · rw [hm 0 (by omega)]; exact hsh _ (by omega)
      · simp [ren, map_ren_bools]
  · obtain rfl : W = x := by omega
    simp (disch := first | assumption | omega | rfl | simp only [RH]) only [↓RP, RG, FX, RQ, ↓reduceIte, Nat.reduceEqDiff, reduceCtorEq, Nat.reduceBEq, Nat.reduceAdd, Nat.reduceLeDiff]
    refine loopK_WW [0, 1, 43, 44] (fun y : Nat => y ≤ H) (fun y : Nat => ⟨[(0, .val yv), (1, .spot p [I W, I H, BA b l]), (43, I H), (44, I y)], hs (W + y)⟩) (fun y => H - y) 0 (by omega) (Wk.of_eq (by simp only [↓RP, RG, FX, RQ, ↓reduceIte, Nat.reduceEqDiff, reduceCtorEq, Nat.reduceBEq, Nat.reduceAdd, Nat.reduceLeDiff]; rfl)) ?_
    intro y hy
    by_cases hlt2 : y < H
    · have hmx := hm (W + y) (by omega)
      have hge : ¬ W + y < W := by omega
      have hsub : W + y - W = y := by omega
      simp (disch := first | assumption | omega | rfl | simp only [RH]) only [↓RP, RG, FX, RQ, ↓reduceIte, Nat.reduceEqDiff, reduceCtorEq, Nat.reduceBEq, Nat.reduceAdd, Nat.reduceLeDiff]
      refine loopK_WW [0, 1, 6, 7, 43, 44, 50, 51] (fun x : Nat => x ≤ W) (fun x : Nat => ⟨[(0, .val yv), (1, .spot p [I W, I H, BA b l]), (6, I y), (7, .ptr (hs (W + y)).length 0 3), (43, I H), (44, I y), (50, I W), (51, I x)], hs (W + y) ++ [⟨61, 3, [B false, I y, gw true ((hs (W + y)).length + 1) (bools ((faR W l y).take x))]⟩, go 4 (bools ((faR W l y).take x))]⟩) (fun x => W - x) 0 (by omega) ?_ ?_
      · simp only [↓RP, RG, FX, RQ, ↓reduceIte, Nat.reduceEqDiff, reduceCtorEq, Nat.reduceBEq, Nat.reduceAdd, Nat.reduceLeDiff]
        exact Wk.weak (fun t => .refl _) (.app (hs (W + y)) (.cons _ _ _ _ (.cons (.refl _) (.cons (.refl _) (.cons (.nil _) .nil))) (.nil _ (by simp [go, bools]))))
      intro x hx
      by_cases hlt3 : x < W
      · have hil := idx_lt hlt3 hlt2
        have hWH : W * H ≤ 1000 * 1000 := Nat.mul_le_mul hW hH
        have m1 : (y : Int) * (W : Int) = ((W * y : Nat) : Int) := by rw [Int.natCast_mul, Int.mul_comm]
        have m2 : ((W * y : Nat) : Int) + (x : Int) = ((W * y + x : Nat) : Int) := by omega
        have htk : ((faR W l y).take x).length = x := by rw [List.length_take, faR_len]; omega
        simp (disch := first | assumption | omega | rfl | simp only [RH]) only [↓RP, RG, FX, RQ, ↓reduceIte, Nat.reduceEqDiff, reduceCtorEq, Nat.reduceBEq, Nat.reduceAdd, Nat.reduceLeDiff, m1, m2, Int.toNat_natCast, effY_b, effY_n, effY_f, effY_l, effY_z, effY_D, append_bool]
        refine ⟨x + 1, by omega, Wk.of_eq ?_, by omega⟩
        rw [faR_take hlt3]
        rfl
      · obtain rfl : W = x := by omega
        have htk : (faR W l y).take W = faR W l y := List.take_of_length_le (by rw [faR_len]; omega)
        have hcl := faR_len W l y
        have hp : 0 < (bools (faR W l y)).length := by rw [bools_length]; omega
        simp (disch := first | assumption | omega | rfl | simp only [RH]) only [↓RP, RG, FX, RQ, ↓reduceIte, Nat.reduceEqDiff, reduceCtorEq, Nat.reduceBEq, Nat.reduceAdd, Nat.reduceLeDiff, htk, gw_pos hp, go_pos hp, bools_length, hcl]
        refine callK_Y rfl (stepsO_at (W + y) (by omega) (by rw [lineA_r _ _ _ hge, hmx, hsub]) (by rw [lineO_r _ _ _ hge, hmx, hsub]) rfl) ?_
        simp (disch := first | assumption | omega | rfl | simp only [RH]) only [↓RP, RG, FX, RQ, ↓reduceIte, Nat.reduceEqDiff, reduceCtorEq, Nat.reduceBEq, Nat.reduceAdd, Nat.reduceLeDiff]
        refine ⟨y + 1, by omega, ?_, by omega⟩
        refine (Wk.shut ((hm _ (by omega)).trans (hm 0 (by omega)).symm) ?_).trans (Wk.of_eq ?_)
        · rw [hm 0 (by omega)]; exact hsh _ (by omega)
        · simp [ren, map_ren_bools]; rfl
    · obtain rfl : H = y := by omega
      simp (disch := first | assumption | omega | rfl | simp only [RH]) only [↓RP, RG, FX, RQ, ↓reduceIte, Nat.reduceEqDiff, reduceCtorEq, Nat.reduceBEq, Nat.reduceAdd, Nat.reduceLeDiff]
      exact Wk.refl _ _
end
end Go.Proofs.YtllijejobeogdaaGreatDoor

/- Chapter 8: the threads, yielded until the loop is left. -/
set_option linter.unusedSimpArgs false
set_option linter.unusedVariables false
set_option maxRecDepth 100000
namespace Go.Proofs.YtllijejobeogdaaGreatDoor
open Go Go.Proofs Go.AW

section
variable {W H : Nat} (hW0 : 0 < W) (hH0 : 0 < H) (hW : W ≤ 1000) (hH : H ≤ 1000) (p b : Bool) {l : List Bool} (hn : l.length = W * H) (m : Nat) (hs ex : Nat → List AObj)
include hW0 hH0 hW hH hn
end
end Go.Proofs.YtllijejobeogdaaGreatDoor

/- Chapter 8: the crossings of a thread, of both. -/
set_option linter.unusedSimpArgs false
set_option linter.unusedVariables false
set_option maxRecDepth 100000
namespace Go.Proofs.YtllijejobeogdaaGreatDoor
open Go Go.Proofs Go.AW

/-- The cell ahead of a thread's cell, around. -/
def pvF (f : List Bool) (i : Nat) : Bool := if i = 0 then f.getD (f.length - 1) false else f.getD (i - 1) false
section
variable {W H : Nat} (hW0 : 0 < W) (hH0 : 0 < H) (hW : W ≤ 64) (hH : H ≤ 64) (b : Bool) {l : List Bool} (hn : l.length = W * H)
include hW0 hH0 hW hH hn
end
end Go.Proofs.YtllijejobeogdaaGreatDoor

/- Chapter 8: crossings and counts of both. -/
set_option linter.unusedSimpArgs false
set_option linter.unusedVariables false
set_option maxRecDepth 100000
namespace Go.Proofs.YtllijejobeogdaaGreatDoor
open Go Go.Proofs Go.AW

section
variable {W H : Nat} (hW0 : 0 < W) (hH0 : 0 < H) (hW : W ≤ 64) (hH : H ≤ 64) (b : Bool) {l : List Bool} (hn : l.length = W * H)
include hW0 hH0 hW hH hn
end
section
variable {W H : Nat} (hW0 : 0 < W) (hH0 : 0 < H) (hW : W ≤ 64) (hH : H ≤ 64) (b : Bool) {l : List Bool} (hn : l.length = W * H)
include hW0 hH0 hW hH hn
end
end Go.Proofs.YtllijejobeogdaaGreatDoor

/- Chapter 8: runs of a thread. Plain. -/
set_option linter.unusedSimpArgs false
set_option linter.unusedVariables false
set_option maxRecDepth 100000
namespace Go.Proofs.YtllijejobeogdaaGreatDoor
open Go Go.Proofs Go.AW

/-- How many cells from there on are alike. -/
def tw (c : Bool) : List Bool → Nat
  | [] => 0
  | x :: r => if x = c then tw c r + 1 else 0
theorem tw_le (c : Bool) : ∀ l, tw c l ≤ l.length
  | [] => Nat.le_refl _
  | x :: r => by have := tw_le c r; unfold tw; split <;> simp <;> omega
theorem tw_in (c : Bool) : ∀ (l : List Bool) (t : Nat), t < tw c l → l.getD t false = c
  | [], t, h => by simp [tw] at h
  | x :: r, t, h => by
    unfold tw at h
    split at h
    · rename_i hx
      cases t with
      | zero => exact hx
      | succ t => exact tw_in c r t (by omega)
    · omega
theorem tw_end (c : Bool) : ∀ (l : List Bool), tw c l < l.length → l.getD (tw c l) false ≠ c
  | [], h => by simp at h
  | x :: r, h => by
    unfold tw at h ⊢
    split
    · rename_i hx
      rw [if_pos hx] at h
      exact tw_end c r (by simpa using h)
    · rename_i hx; exact hx
/-- The run that begins at r. -/
def runF (g : List Bool) (c : Bool) (r : Nat) : Nat := tw c (g.drop r)
theorem runF_le (g : List Bool) (c : Bool) (r : Nat) : runF g c r ≤ g.length - r := by have := tw_le c (g.drop r); simpa [runF] using this
theorem getD_drop (g : List Bool) (r t : Nat) : (g.drop r).getD t false = g.getD (r + t) false := by simp [List.getD_eq_getElem?_getD]
theorem runF_in {g : List Bool} {c : Bool} {r t : Nat} (h : t < runF g c r) : g.getD (r + t) false = c := by rw [← getD_drop]; exact tw_in c _ t h
theorem runF_end {g : List Bool} {c : Bool} {r : Nat} (h : r + runF g c r < g.length) : g.getD (r + runF g c r) false ≠ c := by
  rw [← getD_drop]; exact tw_end c _ (by unfold runF at h; simp; omega)
theorem runF_lt {g : List Bool} {c : Bool} {r t : Nat} (ht : t ≤ runF g c r) : (t < runF g c r ↔ r + t < g.length ∧ g.getD (r + t) false = c) := by
  constructor
  · intro h
    have := runF_le g c r
    exact ⟨by omega, runF_in h⟩
  · rintro ⟨h1, h2⟩
    refine Classical.byContradiction fun hno => ?_
    obtain rfl : t = runF g c r := by omega
    exact runF_end h1 h2
/-- A run begins there. -/
def stF (g : List Bool) (c : Bool) (r : Nat) : Bool := decide (0 < r) && decide (r < g.length) && (g.getD r false == c) && !(g.getD (r - 1) false == c)
theorem stF_iff {g : List Bool} {c : Bool} {r : Nat} : stF g c r = true ↔ 0 < r ∧ r < g.length ∧ g.getD r false = c ∧ g.getD (r - 1) false ≠ c := by
  unfold stF
  cases h1 : g.getD r false <;> cases h2 : g.getD (r - 1) false <;> cases c <;> simp
/-- The runs that begin ahead of i. -/
def fnd (g : List Bool) (c : Bool) (i : Nat) : List Nat := (List.range i).filter fun r => stF g c r
theorem fnd_no {g : List Bool} {c : Bool} {i : Nat} (h : stF g c i = false) : fnd g c (i + 1) = fnd g c i := by
  unfold fnd; rw [List.range_succ, List.filter_append]; simp [h]
theorem fnd_yes {g : List Bool} {c : Bool} {i : Nat} (h : stF g c i = true) : fnd g c (i + 1) = fnd g c i ++ [i] := by
  unfold fnd; rw [List.range_succ, List.filter_append]; simp [h]
theorem fnd_len (g : List Bool) (c : Bool) (i : Nat) : (fnd g c i).length ≤ i := by
  unfold fnd; exact Nat.le_trans (List.length_filter_le _ _) (by simp)
/-- Past a run. -/
theorem fnd_run {g : List Bool} {c : Bool} {i : Nat} (h : stF g c i = true) : fnd g c (i + runF g c i + 1) = fnd g c i ++ [i] := by
  obtain ⟨s1, s2, s3, s4⟩ := stF_iff.1 h
  have key : ∀ t, t ≤ runF g c i → fnd g c (i + t + 1) = fnd g c i ++ [i] := by
    intro t
    induction t with
    | zero => intro _; exact fnd_yes h
    | succ t ih =>
      intro ht
      rw [← ih (by omega)]
      refine fnd_no ?_
      cases hs : stF g c (i + (t + 1)) with
      | false => rfl
      | true =>
        obtain ⟨_, _, _, h4⟩ := stF_iff.1 hs
        exact absurd (runF_in (show t < runF g c i by omega)) h4
  exact key _ (Nat.le_refl _)
theorem fnd_over {g : List Bool} {c : Bool} {i : Nat} (h : g.length ≤ i) : fnd g c i = fnd g c g.length := by
  induction i with
  | zero => rw [show g.length = 0 by omega]
  | succ i ih =>
    by_cases hi : g.length = i + 1
    · rw [hi]
    · rw [← ih (by omega)]
      refine fnd_no ?_
      cases hs : stF g c i with
      | false => rfl
      | true => have := (stF_iff.1 hs).2.1; omega
/-- A thread, begun elsewhere. -/
def rotF (f : List Bool) (s : Nat) : List Bool := (List.range f.length).map fun i => f.getD ((s + i) % f.length) false
theorem rotF_len (f : List Bool) (s : Nat) : (rotF f s).length = f.length := by simp [rotF]
theorem rotF_get {f : List Bool} {s i : Nat} (h : i < f.length) : (rotF f s).getD i false = f.getD ((s + i) % f.length) false := by simp [rotF, List.getD_eq_getElem?_getD, h]
/-- Where a run that begins at r there begins here, and back. -/
def hereF (n s r : Nat) : Nat := (s + r) % n
def thereF (n s i : Nat) : Nat := (i + n - s) % n
theorem here_there {n s i : Nat} (hs : s < n) (hi : i < n) : hereF n s (thereF n s i) = i := by
  unfold hereF thereF
  by_cases h : s ≤ i
  · rw [show i + n - s = (i - s) + n by omega, Nat.add_mod_right, Nat.mod_eq_of_lt (show i - s < n by omega), show s + (i - s) = i by omega, Nat.mod_eq_of_lt hi]
  · rw [Nat.mod_eq_of_lt (show i + n - s < n by omega), show s + (i + n - s) = i + n by omega, Nat.add_mod_right, Nat.mod_eq_of_lt hi]
theorem there_here {n s r : Nat} (hs : s < n) (hr : r < n) : thereF n s (hereF n s r) = r := by
  unfold hereF thereF
  by_cases h : s + r < n
  · rw [Nat.mod_eq_of_lt h, show s + r + n - s = r + n by omega, Nat.add_mod_right, Nat.mod_eq_of_lt hr]
  · have e : (s + r) % n = s + r - n := by
      rw [show s + r = (s + r - n) + n by omega, Nat.add_mod_right, Nat.mod_eq_of_lt (by omega)]
      omega
    rw [e, show s + r - n + n - s = r by omega, Nat.mod_eq_of_lt hr]
theorem here_lt {n s r : Nat} (hn : 0 < n) : hereF n s r < n := Nat.mod_lt _ hn
theorem there_lt {n s i : Nat} (hn : 0 < n) : thereF n s i < n := Nat.mod_lt _ hn
/-- A run begins at cell i of a thread. -/
def stR (f : List Bool) (c : Bool) (i : Nat) : Bool := (f.getD i false == c) && !(pvF f i == c)
theorem st_same {f : List Bool} {c : Bool} {s r : Nat} (hs : s < f.length) (hc : f.getD s false ≠ c) (hr : r < f.length) : stF (rotF f s) c r = stR f c (hereF f.length s r) := by
  rw [Bool.eq_iff_iff, stF_iff]
  unfold stR
  rw [rotF_len]
  have e0 := rotF_get (f := f) (s := s) hr
  have hx : f.getD ((s + r) % f.length) false = f.getD (hereF f.length s r) false := rfl
  by_cases h0 : r = 0
  · subst h0
    have : hereF f.length s 0 = s := by unfold hereF; rw [Nat.add_zero, Nat.mod_eq_of_lt hs]
    rw [this]
    simp
    intro h; exact absurd h hc
  · have e1 := rotF_get (f := f) (s := s) (i := r - 1) (by omega)
    have e2 : f.getD ((s + (r - 1)) % f.length) false = pvF f (hereF f.length s r) := by
      unfold pvF hereF
      by_cases h1 : s + r < f.length
      · rw [Nat.mod_eq_of_lt h1, if_neg (by omega), Nat.mod_eq_of_lt (by omega), show s + (r - 1) = s + r - 1 by omega]
      · have e : (s + r) % f.length = s + r - f.length := by
          rw [show s + r = (s + r - f.length) + f.length by omega, Nat.add_mod_right, Nat.mod_eq_of_lt (by omega)]
          omega
        rw [e]
        by_cases h2 : s + r - f.length = 0
        · rw [if_pos h2, show s + (r - 1) = f.length - 1 by omega, Nat.mod_eq_of_lt (by omega)]
        · rw [if_neg h2, show s + (r - 1) = (s + r - f.length - 1) + f.length by omega, Nat.add_mod_right, Nat.mod_eq_of_lt (by omega)]
    rw [e0, e1, hx, e2]
    cases f.getD (hereF f.length s r) false <;> cases pvF f (hereF f.length s r) <;> cases c <;> simp <;> omega
end Go.Proofs.YtllijejobeogdaaGreatDoor

/- Chapter 8: the floats of a thread, in order. Plain. -/
set_option linter.unusedSimpArgs false
set_option linter.unusedVariables false
set_option maxRecDepth 100000
namespace Go.Proofs.YtllijejobeogdaaGreatDoor
open Go Go.Proofs Go.AW

/-- How long the run is that begins at cell i, around. -/
def lenR (f : List Bool) (c : Bool) (i : Nat) : Nat := tw c (rotF f i)
theorem lenR_le (f : List Bool) (c : Bool) (i : Nat) : lenR f c i ≤ f.length := by
  have := tw_le c (rotF f i); rwa [rotF_len] at this
theorem lenR_in {f : List Bool} {c : Bool} {i t : Nat} (h : t < lenR f c i) : f.getD ((i + t) % f.length) false = c := by
  rw [← rotF_get (Nat.lt_of_lt_of_le h (lenR_le f c i))]; exact tw_in c _ t h
theorem lenR_end {f : List Bool} {c : Bool} {i : Nat} (h : lenR f c i < f.length) : f.getD ((i + lenR f c i) % f.length) false ≠ c := by
  rw [← rotF_get h]; exact tw_end c _ (by rw [rotF_len]; exact h)
theorem mod_mid (s r t n : Nat) : ((s + r) % n + t) % n = (s + (r + t)) % n := by rw [Nat.mod_add_mod, Nat.add_assoc]
theorem lenR_lt {f : List Bool} {c : Bool} {i s : Nat} (hi : i < f.length) (hs : s < f.length) (hc : f.getD s false ≠ c) : lenR f c i < f.length := by
  refine Classical.byContradiction fun hno => hc ?_
  have h1 := there_lt (n := f.length) (s := i) (i := s) (by omega)
  have h2 := lenR_in (f := f) (c := c) (i := i) (t := thereF f.length i s) (by omega)
  have h3 : (i + thereF f.length i s) % f.length = s := here_there hi hs
  rwa [h3] at h2
theorem run_len {f : List Bool} {c : Bool} {s r : Nat} (hs : s < f.length) (hc : f.getD s false ≠ c) (hr : r < f.length) : runF (rotF f s) c r = lenR f c (hereF f.length s r) := by
  have hl := runF_le (rotF f s) c r
  rw [rotF_len] at hl
  have hin : ∀ t, t < runF (rotF f s) c r → f.getD ((hereF f.length s r + t) % f.length) false = c := fun t ht => by
    have h1 := runF_in ht
    rw [rotF_get (by omega)] at h1
    unfold hereF; rw [mod_mid]; exact h1
  have hend : f.getD ((hereF f.length s r + runF (rotF f s) c r) % f.length) false ≠ c := by
    unfold hereF; rw [mod_mid]
    by_cases h : r + runF (rotF f s) c r < f.length
    · have h1 := runF_end (g := rotF f s) (c := c) (r := r) (by rw [rotF_len]; exact h)
      rwa [rotF_get h] at h1
    · rw [show s + (r + runF (rotF f s) c r) = s + f.length by omega, Nat.add_mod_right, Nat.mod_eq_of_lt hs]; exact hc
  have h1 : lenR f c (hereF f.length s r) ≤ runF (rotF f s) c r := Nat.le_of_not_lt fun h => hend (lenR_in h)
  have h2 : runF (rotF f s) c r ≤ lenR f c (hereF f.length s r) := Nat.le_of_not_lt fun h => lenR_end (f := f) (c := c) (i := hereF f.length s r) (by omega) (hin _ h)
  omega
theorem lenR_pos {f : List Bool} {c : Bool} {i : Nat} (hi : i < f.length) (h : f.getD i false = c) : 0 < lenR f c i := by
  have h0 : 0 < f.length := by omega
  have hlt := rotF_get (f := f) (s := i) h0
  rw [Nat.add_zero, Nat.mod_eq_of_lt hi, h] at hlt
  unfold lenR
  have hl := rotF_len f i
  cases hg : rotF f i with
  | nil => rw [hg] at hl; simp at hl; omega
  | cons x r =>
    rw [hg] at hlt
    simp only [List.getD_cons_zero] at hlt
    simp [tw, hlt]
/-- Where the floats of a side begin. -/
def sts (f : List Bool) (c : Bool) : List Nat := (List.range f.length).filter (stR f c)
theorem sts_mem {f : List Bool} {c : Bool} {i : Nat} : i ∈ sts f c ↔ i < f.length ∧ stR f c i = true := by
  unfold sts; rw [List.mem_filter, List.mem_range]
theorem sts_sorted (f : List Bool) (c : Bool) : (sts f c).Pairwise (· < ·) := List.Pairwise.filter _ List.pairwise_lt_range
theorem sts_len (f : List Bool) (c : Bool) : (sts f c).length ≤ f.length := by
  have := List.length_filter_le (stR f c) (List.range f.length); simpa [sts] using this
/-- .. as they are met, from a cell of the other side on. -/
def mets (f : List Bool) (c : Bool) (s i : Nat) : List Nat := (fnd (rotF f s) c i).map (hereF f.length s)
theorem mets_len (f : List Bool) (c : Bool) (s i : Nat) : (mets f c s i).length ≤ i := by
  unfold mets; rw [List.length_map]; exact fnd_len _ _ _
theorem mets_mem {f : List Bool} {c : Bool} {s : Nat} (hs : s < f.length) (hc : f.getD s false ≠ c) (i : Nat) : i ∈ mets f c s f.length ↔ i ∈ sts f c := by
  unfold mets fnd
  rw [List.mem_map, sts_mem]
  constructor
  · rintro ⟨r, hr, rfl⟩
    rw [List.mem_filter, List.mem_range] at hr
    exact ⟨here_lt (by omega), by rw [← st_same hs hc hr.1]; exact hr.2⟩
  · rintro ⟨h1, h2⟩
    refine ⟨thereF f.length s i, ?_, here_there hs h1⟩
    rw [List.mem_filter, List.mem_range]
    have h3 := there_lt (n := f.length) (s := s) (i := i) (by omega)
    exact ⟨h3, by rw [st_same hs hc h3, here_there hs h1]; exact h2⟩
theorem mets_nodup {f : List Bool} {c : Bool} {s : Nat} (hs : s < f.length) : (mets f c s f.length).Nodup := by
  unfold mets fnd
  refine List.pairwise_map.2 ?_
  have h0 : ((List.range f.length).filter fun r => stF (rotF f s) c r).Pairwise (fun a b => a ≠ b) := List.Pairwise.filter _ List.nodup_range
  refine List.Pairwise.imp_of_mem (fun {a b} ha hb hne he => hne ?_) h0
  rw [List.mem_filter, List.mem_range] at ha hb
  have h1 := there_here hs ha.1
  rw [he, there_here hs hb.1] at h1
  exact h1.symm
theorem nsinc_ext (a b : List Nat) (ha : a.Pairwise (· < ·)) (hb : b.Pairwise (· < ·)) (h : ∀ x, x ∈ a ↔ x ∈ b) : a = b := by
  have hm : a.map (fun n : Nat => (n : Int)) = b.map (fun n : Nat => (n : Int)) := by
    refine sinc_ext _ _ (List.pairwise_map.2 (ha.imp (fun h => by omega))) (List.pairwise_map.2 (hb.imp (fun h => by omega))) fun x => ?_
    rw [List.mem_map, List.mem_map]
    exact ⟨fun ⟨y, h1, h2⟩ => ⟨y, (h y).1 h1, h2⟩, fun ⟨y, h1, h2⟩ => ⟨y, (h y).2 h1, h2⟩⟩
  have := congrArg (List.map Int.toNat) hm
  simpa [List.map_map, Function.comp_def] using this
end Go.Proofs.YtllijejobeogdaaGreatDoor

/- Chapter 8: lists of floats as cells; one thread's floats, as an own object. -/
set_option linter.unusedSimpArgs false
set_option linter.unusedVariables false
set_option maxRecDepth 100000
namespace Go.Proofs.YtllijejobeogdaaGreatDoor
open Go Go.Proofs Go.AW

/-- A float. -/
structure Fl where
  w : Bool
  a : Nat
  f : Nat
  n : Nat
  z : Bool
/-- Its cells. -/
def flc (x : Fl) : List AVal := [B x.w, I x.a, I x.f, I x.n, B x.z]
def fls (l : List Fl) : List AVal := l.flatMap flc
theorem fls_nil : fls [] = [] := rfl
theorem fls_cons (x : Fl) (l : List Fl) : fls (x :: l) = flc x ++ fls l := rfl
theorem fls_app (a b : List Fl) : fls (a ++ b) = fls a ++ fls b := by simp [fls]
theorem fls_one1 (x : Fl) : fls [x] = flc x := by simp [fls]
theorem flc_length (x : Fl) : (flc x).length = 5 := rfl
theorem fls_length (l : List Fl) : (fls l).length = l.length * 5 := by
  induction l with
  | nil => rfl
  | cons x l ih => rw [fls_cons, List.length_append, ih, flc_length, List.length_cons]; omega
theorem fls_all (p : AVal → Prop) (hb : ∀ b : Bool, p (B b)) (hi : ∀ i : Int, p (I i)) (l : List Fl) : ∀ x ∈ fls l, p x := by
  intro x hx
  rw [fls, List.mem_flatMap] at hx
  obtain ⟨y, _, hy⟩ := hx
  simp only [flc, List.mem_cons, List.not_mem_nil, or_false] at hy
  rcases hy with rfl | rfl | rfl | rfl | rfl
  · exact hb _
  · exact hi _
  · exact hi _
  · exact hi _
  · exact hb _
theorem map_same {g : AVal → AVal} {l : List AVal} (h : ∀ x ∈ l, g x = x) : l.map g = l := by
  rw [List.map_congr_left (g := fun x => x) h, List.map_id']
theorem map_ren_fls (f : Nat → Option Nat) (n : Nat) (l : List Fl) : (fls l).map (ren f (n + 1)) = fls l := by
  exact map_same (fls_all _ (fun _ => rfl) (fun _ => rfl) l)
theorem fls_res (h : List AObj) (n : Nat) (l : List Fl) : (fls l).map (resOf h (n + 1)) = fls l := by
  exact map_same (fls_all _ (fun _ => rfl) (fun _ => rfl) l)
theorem fls_one (l : List Fl) : (fls l).all AVal.one = true := by
  rw [List.all_eq_true]; exact fls_all _ (fun _ => rfl) (fun _ => rfl) l
theorem fls_fresh (n : Nat) (l : List Fl) : (fls l).all (allFresh (n + 1)) = true := by
  rw [List.all_eq_true]; exact fls_all _ (fun _ => rfl) (fun _ => rfl) l
theorem fls_drop : ∀ {l : List Fl} {i : Nat} (h : i < l.length), (fls l).drop (i * 5) = flc l[i] ++ (fls l).drop ((i + 1) * 5)
  | x :: l, 0, _ => by
    rw [fls_cons]; simp [flc]
  | x :: l, i + 1, h => by
    have h' : i < l.length := by simpa using h
    have := fls_drop h'
    rw [fls_cons, show (i + 1) * 5 = i * 5 + 5 by omega, show (i + 1 + 1) * 5 = (i + 1) * 5 + 5 by omega]
    simpa [flc] using this
theorem cA_fls {t s n : Nat} {l : List Fl} (hn : l.length * 5 = n) : cA (some ⟨t, s, fls l⟩) n = some (fls l) := by simp [cA, fls_length, hn]
theorem ren_gwF (f : Nat → Option Nat) (n s k m : Nat) (hk : f k = some k) : ren f (n + 1) (gwW s k m) = gwW s k m := by
  unfold gwW
  split
  · simp [ren, hk]
  · simp [ren, hk]
theorem renO_goF (f : Nat → Option Nat) (n e s : Nat) (l : List Fl) : renO f (n + 1) (goW e s (fls l)) = goW e s (fls l) := by
  cases l with
  | nil => rfl
  | cons x r =>
    have := map_ren_fls f n (x :: r)
    simp only [fls_cons, flc, List.cons_append, goW, renO] at this ⊢
    rw [this]
theorem goF_pos {e s : Nat} {l : List Fl} (h : 0 < l.length) : goW e s (fls l) = ⟨e, s, fls l⟩ := by
  cases l with
  | nil => simp at h
  | cons x r => rfl
theorem gwW_pos {s k n : Nat} (h : 0 < n) : gwW s k n = .ref k 0 n (n * s) := by unfold gwW; rw [if_neg (by omega)]
section
variable {P : Program} {t e s nb : Nat} {h : List AObj}
/-- Several wide elements more. -/
theorem append_WW [S : SlW P t e s nb] {k n m : Nat} {x : AVal} {xs ys : List AVal} (ho : h[k]? = some (goW e s xs)) (hx : xs.length = n * s) (hv : sview h x = some (m, ys)) (hy : ys.length = m * s) (c5 : ys.all AVal.one = true) (c6 : (n + m) * nb ≤ 140737488355328) (c7 : n + m ≤ 140737488355328) :
    aAppend P t h (gwW s k n) x = some (gwW s k (n + m), h.set k (goW e s (xs ++ ys))) := by
  obtain ⟨T, E, hT, he, hE, hs, hb, hz, h0⟩ := S.ex
  have ht : ys.take (m * s) = ys := List.take_of_length_le (by omega)
  simp only [aAppend, hT, he, hE, hv, hs, hb, ht]
  rw [if_pos ⟨hy, c5, by omega, hz⟩]
  unfold gwW
  have hk : k < h.length := (List.getElem?_eq_some_iff.1 ho).1
  have hset : ∀ {o : AObj}, h[k]? = some o → h.set k o = h := fun {o} ho => by
    have := (List.getElem?_eq_some_iff.1 ho).2
    rw [← this]; exact List.set_getElem_self hk
  by_cases hn : n = 0
  · subst hn
    have hx0 : xs = [] := List.eq_nil_of_length_eq_zero (by simpa using hx)
    subst hx0
    rw [if_pos rfl, Nat.zero_add, List.nil_append]
    by_cases hm : m = 0
    · subst hm
      have hy0 : ys = [] := List.eq_nil_of_length_eq_zero (by simpa using hy)
      subst hy0
      simp only [if_pos]
      rw [hset ho]
    · simp only [if_neg hm, ho, goW]
      rw [if_pos ⟨trivial, by simpa using c6, by omega⟩]
      cases ys with
      | nil =>
        exfalso
        have : 0 < m * s := Nat.mul_pos (by omega) (by omega)
        simp at hy; omega
      | cons y yr => simp
  · rw [if_neg hn, if_neg (show ¬ n + m = 0 by omega)]
    cases xs with
    | nil =>
      exfalso
      have : 0 < n * s := Nat.mul_pos (by omega) (by omega)
      simp at hx; omega
    | cons x xr =>
      simp only [ho, goW, List.cons_append]
      rw [if_pos ⟨hx, trivial, trivial, trivial, c6, c7⟩]
end

theorem indexB_no {f : List Bool} {c : Bool} (hl : f.length ≤ 1000000) (h : ∀ i, i < f.length → f.getD i false = c) : Contract Tryz.prog 43 [BA false f, B (!c)] (I (-1)) := by
  refine Contract.intro (effS [] false) 6 follows Tryz.func43 rfl rfl (by kernel_rfl) (Nat.le_of_ble_eq_true rfl) ?_
  simp (disch := first | assumption | omega | rfl | simp only [RH]) only [↓RP, RG, FX, RQ, ↓reduceIte, Nat.reduceEqDiff, reduceCtorEq, Nat.reduceBEq, Nat.reduceAdd, Nat.reduceLeDiff, args0_2]
  refine loopK_I [0, 1, 7, 8] (fun i : Nat => i ≤ f.length) (fun i => ⟨[(0, BA false f), (1, B (!c)), (7, I f.length), (8, I i)], []⟩) (fun i => f.length - i) 0 (by omega) (by simp only [↓RP, RG, FX, RQ, ↓reduceIte, Nat.reduceEqDiff, reduceCtorEq, Nat.reduceBEq, Nat.reduceAdd, Nat.reduceLeDiff]; rfl) ?_
  intro i hi
  by_cases hlt : i < f.length
  · have hq := h i hlt
    have hq2 : ((!c) == f.getD i false) = false := by rw [hq]; cases c <;> rfl
    simp (disch := first | assumption | omega | rfl | simp only [RH]) only [↓RP, RG, FX, RQ, ↓reduceIte, Nat.reduceEqDiff, reduceCtorEq, Nat.reduceBEq, Nat.reduceAdd, Nat.reduceLeDiff, hq2, Int.toNat_natCast]
    exact ⟨i + 1, by omega, rfl, by omega⟩
  · obtain rfl : f.length = i := by omega
    simp (disch := first | assumption | omega | rfl | simp only [RH]) only [↓RP, RG, FX, RQ, ↓reduceIte, Nat.reduceEqDiff, reduceCtorEq, Nat.reduceBEq, Nat.reduceAdd, Nat.reduceLeDiff]
    rw [resVal_1 rfl]; simp (disch := first | assumption | omega | rfl | simp only [RH]) only [↓RP, RG, FX, RQ, ↓reduceIte, Nat.reduceEqDiff, reduceCtorEq, Nat.reduceBEq, Nat.reduceAdd, Nat.reduceLeDiff, RS]
theorem indexB_yes {f : List Bool} {c : Bool} {s : Nat} (hl : f.length ≤ 1000000) (hs : s < f.length) (hc : f.getD s false ≠ c) (h : ∀ i, i < s → f.getD i false = c) : Contract Tryz.prog 43 [BA false f, B (!c)] (I s) := by
  refine Contract.intro (effS [] false) 6 follows Tryz.func43 rfl rfl (by kernel_rfl) (Nat.le_of_ble_eq_true rfl) ?_
  simp (disch := first | assumption | omega | rfl | simp only [RH]) only [↓RP, RG, FX, RQ, ↓reduceIte, Nat.reduceEqDiff, reduceCtorEq, Nat.reduceBEq, Nat.reduceAdd, Nat.reduceLeDiff, args0_2]
  refine loopK_I [0, 1, 7, 8] (fun i : Nat => i ≤ s) (fun i => ⟨[(0, BA false f), (1, B (!c)), (7, I f.length), (8, I i)], []⟩) (fun i => f.length - i) 0 (by omega) (by simp only [↓RP, RG, FX, RQ, ↓reduceIte, Nat.reduceEqDiff, reduceCtorEq, Nat.reduceBEq, Nat.reduceAdd, Nat.reduceLeDiff]; rfl) ?_
  intro i hi
  by_cases hlt : i < s
  · have hq := h i hlt
    have hq2 : ((!c) == f.getD i false) = false := by rw [hq]; cases c <;> rfl
    simp (disch := first | assumption | omega | rfl | simp only [RH]) only [↓RP, RG, FX, RQ, ↓reduceIte, Nat.reduceEqDiff, reduceCtorEq, Nat.reduceBEq, Nat.reduceAdd, Nat.reduceLeDiff, hq2, Int.toNat_natCast]
    exact ⟨i + 1, by omega, rfl, by omega⟩
  · obtain rfl : s = i := by omega
    have hq2 : ((!c) == f.getD s false) = true := by
      cases h1 : f.getD s false <;> cases c <;> simp_all
    simp (disch := first | assumption | omega | rfl | simp only [RH]) only [↓RP, RG, FX, RQ, ↓reduceIte, Nat.reduceEqDiff, reduceCtorEq, Nat.reduceBEq, Nat.reduceAdd, Nat.reduceLeDiff, hq2, Int.toNat_natCast]
    rw [resVal_1 rfl]; simp (disch := first | assumption | omega | rfl | simp only [RH]) only [↓RP, RG, FX, RQ, ↓reduceIte, Nat.reduceEqDiff, reduceCtorEq, Nat.reduceBEq, Nat.reduceAdd, Nat.reduceLeDiff, RS]
/-- A thread and a side, in two variables of their own. -/
theorem floats_s (w c : Bool) (a k n : Nat) (h : List AObj) : SpecTo Tryz.prog 32 [.agg [B w, I a, .ref k 0 n n], B c] h (.func (.func 42) [] [.ptr h.length 0 3, .ptr (h.length + 1) 0 1]) (h ++ [⟨61, 3, [B w, I a, .ref k 0 n n]⟩, ⟨4, 1, [B c]⟩]) := by
  refine SpecTo.intro (effS [] false) follows Tryz.func32 rfl rfl (by kernel_rfl) (Nat.le_of_ble_eq_true rfl) ?_
  simp (disch := first | assumption | omega | rfl | simp only [RH]) only [↓RP, RG, FX, RQ, ↓reduceIte, Nat.reduceEqDiff, reduceCtorEq, Nat.reduceBEq, Nat.reduceAdd, Nat.reduceLeDiff, args0_2, parts_agg]
  refine ⟨_, by rw [resVal_1 rfl]; simp (disch := first | assumption | omega | rfl | simp only [RH]) only [↓RP, RG, FX, RQ, ↓reduceIte, Nat.reduceEqDiff, reduceCtorEq, Nat.reduceBEq, Nat.reduceAdd, Nat.reduceLeDiff, raX_tmp, raX_cell, rvX_0, rvX_1, rvX_2, rvX_3, rvX_4, rvX_5]; rfl, Wk.of_eq ?_⟩
  first | rfl | simp
end Go.Proofs.YtllijejobeogdaaGreatDoor

/- Chapter 8: floats of a thread, as a list. -/
set_option linter.unusedSimpArgs false
set_option linter.unusedVariables false
set_option maxRecDepth 100000
namespace Go.Proofs.YtllijejobeogdaaGreatDoor
open Go Go.Proofs Go.AW

def flI (w : Bool) (a : Nat) (f : List Bool) (c : Bool) (i : Nat) : Fl := ⟨w, a, i, lenR f c i, false⟩
def flW (w : Bool) (a : Nat) (f : List Bool) : Fl := ⟨w, a, 0, f.length, true⟩
def flA (x : Fl) : AVal := .agg (flc x)
def flD (l : List Fl) (j : Nat) : Fl := l.getD j ⟨false, 0, 0, 0, false⟩
/-- As they are found, as they are listed. -/
def mtF (w : Bool) (a : Nat) (f : List Bool) (c : Bool) (s i : Nat) : List Fl := (mets f c s i).map (flI w a f c)
def stL (w : Bool) (a : Nat) (f : List Bool) (c : Bool) : List Fl := (sts f c).map (flI w a f c)
theorem mtF_len (w : Bool) (a : Nat) (f : List Bool) (c : Bool) (s i : Nat) : (mtF w a f c s i).length = (mets f c s i).length := by simp [mtF]
theorem stL_len (w : Bool) (a : Nat) (f : List Bool) (c : Bool) : (stL w a f c).length = (sts f c).length := by simp [stL]
theorem flD_get {l : List Fl} {j : Nat} (h : j < l.length) : flD l j = l[j] := by simp [flD, h]
theorem pX_fls {l : List Fl} {j : Nat} (h : j < l.length) : pX (some (true, 5)) ((fls l).drop (j * 5)) = some (.agg (flc (flD l j))) := by
  rw [fls_drop h, flD_get h, pX_agg, if_pos (by simp [flc])]
  rfl
theorem mets_1 (f : List Bool) (c : Bool) (s : Nat) : mets f c s 1 = [] := by
  have : stF (rotF f s) c 0 = false := by simp [stF]
  simp [mets, fnd, List.range_succ, this]
theorem mets_no {f : List Bool} {c : Bool} {s i : Nat} (h : (rotF f s).getD i false ≠ c) : mets f c s (i + 1) = mets f c s i := by
  unfold mets
  rw [fnd_no]
  cases hs : stF (rotF f s) c i with
  | false => rfl
  | true => exact absurd (stF_iff.1 hs).2.2.1 h
theorem mets_run {f : List Bool} {c : Bool} {s i : Nat} (h : stF (rotF f s) c i = true) : mets f c s (i + runF (rotF f s) c i + 1) = mets f c s i ++ [hereF f.length s i] := by
  unfold mets; rw [fnd_run h]; simp
theorem mets_over {f : List Bool} {c : Bool} {s i : Nat} (h : f.length ≤ i) : mets f c s i = mets f c s f.length := by
  unfold mets; rw [fnd_over (by rw [rotF_len]; exact h), rotF_len]
end Go.Proofs.YtllijejobeogdaaGreatDoor

/- The library's sort by a function, as this program bears it. -/
set_option linter.unusedVariables false
namespace Go.Proofs
open Go.Shelf
def Tryz.sortF_ren : Go.Shelf.Ren := ⟨fun | 6 => 44 | 15 => 47 | 14 => 58 | 28 => 68 | 29 => 69 | 20 => 80 | 21 => 81 | 22 => 82 | 23 => 83 | 24 => 84 | 25 => 85 | 26 => 86 | 27 => 87 | 46 => 100 | 47 => 89 | 48 => 90 | 49 => 101 | 50 => 102 | 57 => 110 | n => n, fun | 22 => 30 | 24 => 37 | 25 => 77 | 3 => 3 | 39 => 80 | 0 => 0 | 53 => 102 | 55 => 104 | 4 => 4 | 46 => 94 | 45 => 93 | 50 => 99 | 5 => 5 | 9 => 9 | 66 => 121 | 70 => 125 | 76 => 132 | 77 => 133 | n => n, fun | n => n⟩
theorem Tryz.sortF : Go.Proofs.SlLaysF0.n6 Tryz.prog Tryz.sortF_ren := {
  mixed := by kernel_rfl
  f6 := ⟨Tryz.f44.name, by decide, Tryz.func44.trans (congrArg some (by kernel_rfl))⟩
  f14 := ⟨Tryz.f58.name, by decide, Tryz.func58.trans (congrArg some (by kernel_rfl))⟩
  f15 := Tryz.func47.trans (congrArg some (by kernel_rfl))
  f20 := ⟨Tryz.f80.name, by decide, Tryz.func80.trans (congrArg some (by kernel_rfl))⟩
  f21 := ⟨Tryz.f81.name, by decide, Tryz.func81.trans (congrArg some (by kernel_rfl))⟩
  f22 := ⟨Tryz.f82.name, by decide, Tryz.func82.trans (congrArg some (by kernel_rfl))⟩
  f23 := ⟨Tryz.f83.name, by decide, Tryz.func83.trans (congrArg some (by kernel_rfl))⟩
  f24 := ⟨Tryz.f84.name, by decide, Tryz.func84.trans (congrArg some (by kernel_rfl))⟩
  f25 := ⟨Tryz.f85.name, by decide, Tryz.func85.trans (congrArg some (by kernel_rfl))⟩
  f26 := ⟨Tryz.f86.name, by decide, Tryz.func86.trans (congrArg some (by kernel_rfl))⟩
  f27 := ⟨Tryz.f87.name, by decide, Tryz.func87.trans (congrArg some (by kernel_rfl))⟩
  f28 := Tryz.func68.trans (congrArg some (by kernel_rfl))
  f29 := Tryz.func69.trans (congrArg some (by kernel_rfl))
  f46 := ⟨Tryz.f100.name, by decide, Tryz.func100.trans (congrArg some (by kernel_rfl))⟩
  f47 := Tryz.func89.trans (congrArg some (by kernel_rfl))
  f48 := Tryz.func90.trans (congrArg some (by kernel_rfl))
  f49 := ⟨Tryz.f101.name, by decide, Tryz.func101.trans (congrArg some (by kernel_rfl))⟩
  f50 := ⟨Tryz.f102.name, by decide, Tryz.func102.trans (congrArg some (by kernel_rfl))⟩
  f57 := ⟨Tryz.f110.name, by decide, Tryz.func110.trans (congrArg some (by kernel_rfl))⟩
  t0 := Tryz.underlying0
  a0 := Tryz.isAgg0
  z0 := Tryz.sizeOf0
  v0 := Tryz.zeroValue0
  t3 := Tryz.underlying3
  a3 := Tryz.isAgg3
  z3 := Tryz.sizeOf3
  v3 := Tryz.zeroValue3
  t4 := Tryz.underlying4
  a4 := Tryz.isAgg4
  z4 := Tryz.sizeOf4
  v4 := Tryz.zeroValue4
  t5 := Tryz.underlying5
  a5 := Tryz.isAgg5
  z5 := Tryz.sizeOf5
  v5 := Tryz.zeroValue5
  t9 := Tryz.underlying9
  a9 := Tryz.isAgg9
  z9 := Tryz.sizeOf9
  v9 := Tryz.zeroValue9
  t22 := Tryz.underlying30
  a22 := Tryz.isAgg30
  z22 := Tryz.sizeOf30
  v22 := Tryz.zeroValue30
  t25 := Tryz.underlying77
  a25 := Tryz.isAgg77
  z25 := Tryz.sizeOf77
  v25 := Tryz.zeroValue77
  t39 := Tryz.underlying80
  a39 := Tryz.isAgg80
  z39 := Tryz.sizeOf80
  v39 := Tryz.zeroValue80
  t45 := Tryz.underlying93
  a45 := Tryz.isAgg93
  z45 := Tryz.sizeOf93
  v45 := Tryz.zeroValue93
  t46 := Tryz.underlying94
  a46 := Tryz.isAgg94
  z46 := Tryz.sizeOf94
  v46 := Tryz.zeroValue94
  t50 := Tryz.underlying99
  a50 := Tryz.isAgg99
  z50 := Tryz.sizeOf99
  v50 := Tryz.zeroValue99
  t53 := Tryz.underlying102
  a53 := Tryz.isAgg102
  z53 := Tryz.sizeOf102
  v53 := Tryz.zeroValue102
  t55 := Tryz.underlying104
  a55 := Tryz.isAgg104
  z55 := Tryz.sizeOf104
  v55 := Tryz.zeroValue104
  t66 := Tryz.underlying121
  a66 := Tryz.isAgg121
  z66 := Tryz.sizeOf121
  v66 := Tryz.zeroValue121
  t70 := Tryz.underlying125
  a70 := Tryz.isAgg125
  z70 := Tryz.sizeOf125
  v70 := Tryz.zeroValue125
  t76 := Tryz.underlying132
  a76 := Tryz.isAgg132
  z76 := Tryz.sizeOf132
  v76 := Tryz.zeroValue132
  t77 := Tryz.underlying133
  a77 := Tryz.isAgg133
  z77 := Tryz.sizeOf133
  v77 := Tryz.zeroValue133 }
end Go.Proofs

/- Chapter 8: the library's sort of floats. -/
set_option linter.unusedSimpArgs false
set_option linter.unusedVariables false
set_option maxRecDepth 100000
namespace Go.Proofs.YtllijejobeogdaaGreatDoor
open Go Go.Proofs Go.AW

section
open Go.Sort Go.Shelf
/-- The cells of the float that begins at x. -/
def encF (w : Bool) (a : Nat) (f : List Bool) (c : Bool) (x : Fin 1000) : List Value := [.bool w, .int .i64 a, .int .i64 (x.val : Nat), .int .i64 (lenR f c x.val : Nat), .bool false]
def cfF (x y : Fin 1000) : Int := (x.val : Int) - (y.val : Int)
theorem ltF (x y : Fin 1000) : ltOf cfF x y = decide (x.val < y.val) := by
  unfold ltOf cfF
  rw [Bool.eq_iff_iff]; simp; omega
theorem swoF : SWO (ltOf cfF) where
  irrefl x := by rw [ltF]; simp
  trans x y z h1 h2 := by rw [ltF] at *; simp at *; omega
  ntrans x y z h1 h2 := by rw [ltF] at *; simp at *; omega
theorem closF (w c : Bool) (a : Nat) (f : List Bool) (x y : Fin 1000) (W : World) : Calls Tryz.prog 45 #[.agg (encF w a f c x).toArray, .agg (encF w a f c y).toArray] W fun e w' => e = .returned (.int .i64 (cfF x y)) ∧ ∃ q os', w' = grow (W.drewN q) os' := by
  have hx := x.isLt
  have hy := y.isLt
  have hwr : IntKind.i64.wrap ((x.val : Int) - (y.val : Int)) = (x.val : Int) - (y.val : Int) := by simp [IntKind.wrap, IntKind.bits, IntKind.signed]; omega
  unfold encF cfF
  generalize (x.val : Int) = x0 at *
  generalize (y.val : Int) = y0 at *
  generalize ((lenR f c x.val : Nat) : Int) = n1
  generalize ((lenR f c y.val : Nat) : Int) = n2
  go_enter Tryz.func45, Tryz.ntmps45
  go_wp2
  go_ret
  exact ⟨rfl, 0, _, by rw [alloc_eq_grow, alloc_eq_grow, grow_grow]; rfl⟩
/-- The row's cells, one by one. -/
theorem fls_get : ∀ (l : List Fl) (t : Nat), t < l.length * 5 → (fls l)[t]? = (flc (flD l (t / 5)))[t % 5]?
  | [], t, h => by simp at h
  | x :: l, t, h => by
    by_cases ht : t < 5
    · have e1 : t / 5 = 0 := by omega
      have e2 : t % 5 = t := by omega
      rw [e1, e2, fls_cons, List.getElem?_append_left (by rw [flc_length]; exact ht)]
      rfl
    · have e1 : t / 5 = (t - 5) / 5 + 1 := by omega
      have e2 : t % 5 = (t - 5) % 5 := by omega
      have ih := fls_get l (t - 5) (by rw [List.length_cons] at h; omega)
      rw [e1, e2, fls_cons, List.getElem?_append_right (by rw [flc_length]; omega), flc_length, ih]
      rfl
theorem flat_fls (w c : Bool) (a : Nat) (f : List Bool) (d : Array (Fin 1000)) : vcells (flatK (encF w a f c) 5 d).toList = fls (d.toList.map fun x => flI w a f c x.val) := by
  refine List.ext_getElem? fun t => ?_
  by_cases ht : t < d.size * 5
  · rw [fls_get _ t (by simpa using ht)]
    have hd : t / 5 < d.size := by omega
    have hm : t % 5 < 5 := Nat.mod_lt _ (by omega)
    have h1 : (flatK (encF w a f c) 5 d)[t]? = some ((encF w a f c d[t / 5]!)[t % 5]!) := by
      rw [← get_flatK _ _ _ t ht, Array.getElem?_eq_getElem (by rw [size_flatK]; exact ht), getElem!_pos _ t (by rw [size_flatK]; exact ht)]
    simp only [vcells, List.getElem?_map, Array.getElem?_toList, h1, Option.map_some]
    have h2 : flD (d.toList.map fun x => flI w a f c x.val) (t / 5) = flI w a f c (d[t / 5]!).val := by
      rw [flD_get (by simpa using hd)]
      simp [hd]
    rw [h2]
    generalize d[t / 5]! = x
    match t % 5, hm with
    | 0, _ => rfl
    | 1, _ => rfl
    | 2, _ => rfl
    | 3, _ => rfl
    | 4, _ => rfl
  · rw [List.getElem?_eq_none (by simp; omega), List.getElem?_eq_none (by rw [fls_length]; simp; omega)]
theorem sortedF_is {d d' : Array (Fin 1000)} {l : List Nat} (hn : (d.toList.map Fin.val).Nodup) (hm : ∀ x, x ∈ d.toList.map Fin.val ↔ x ∈ l) (hl : l.Pairwise (· < ·)) (hp : PermIn 0 d.size d d') (hs : SortedIn (ltOf cfF) 0 d.size d') : d'.toList.map Fin.val = l := by
  obtain ⟨h1, _, h2⟩ := hp
  have h3 : d'.toList.Perm d.toList := by
    have e1 : d'.extract 0 d.size = d' := by rw [← h1]; simp
    have e2 : d.extract 0 d.size = d := by simp
    rwa [e1, e2] at h2
  have h4 := h3.map Fin.val
  refine nsinc_ext _ _ ?_ hl fun x => (h4.mem_iff).trans (hm x)
  have hn' := h4.nodup_iff.2 hn
  rw [List.pairwise_iff_getElem]
  intro i j hi hj hij
  have hi0 : i < d'.size := by simpa using hi
  have hj0 : j < d'.size := by simpa using hj
  have := hs i j (Nat.zero_le _) hij (by omega)
  rw [ltF, getElem!_pos d' j hj0, getElem!_pos d' i hi0] at this
  have hge : ¬ (d'[j]).val < (d'[i]).val := by simpa using this
  have hne := (List.pairwise_iff_getElem.1 hn') i j hi hj hij
  simp only [List.getElem_map, Array.getElem_toList] at hne ⊢
  omega
end
theorem sortF_s (w c : Bool) (a : Nat) {f : List Bool} {s : Nat} (hs : s < f.length) (hl : f.length ≤ 1000) (hc : f.getD s false ≠ c) {h : List AObj} {id : Nat} (ho : h[id]? = some ⟨37, 5, fls (mtF w a f c s f.length)⟩) (h0 : 0 < (sts f c).length) :
    SpecTo Tryz.prog 44 [.ref id 0 (sts f c).length ((sts f c).length * 5), .func (.func 45) [] []] h (.tuple []) (h.set id ⟨37, 5, fls (stL w a f c)⟩) := by
  have hnd := mets_nodup (f := f) (c := c) (s := s) hs
  have hnd2 : (sts f c).Nodup := (sts_sorted f c).imp (fun h => by omega)
  have hmem := mets_mem (f := f) (c := c) hs hc
  have hlen : (mets f c s f.length).length = (sts f c).length := ((List.perm_ext_iff_of_nodup hnd hnd2).2 hmem).length_eq
  have hlt : ∀ x ∈ mets f c s f.length, x < 1000 := fun x hx => by have := (sts_mem.1 ((hmem x).1 hx)).1; omega
  obtain ⟨d, hd⟩ : ∃ d : Array (Fin 1000), d.toList.map Fin.val = mets f c s f.length := by
    refine ⟨((mets f c s f.length).pmap (fun x h => ⟨x, h⟩) hlt).toArray, ?_⟩
    simp [List.map_pmap]
  have hsz : d.size = (sts f c).length := by rw [← hlen, ← hd]; simp
  have hv1 : vcells (Go.Sort.flatK (encF w a f c) 5 d).toList = fls (mtF w a f c s f.length) := by
    rw [flat_fls, mtF, ← hd, List.map_map]; rfl
  obtain ⟨d2, hd2⟩ : ∃ d : Array (Fin 1000), d.toList.map Fin.val = sts f c := by
    refine ⟨((sts f c).pmap (fun x h => ⟨x, h⟩) (fun x hx => (by have := (sts_mem.1 hx).1; omega : x < 1000))).toArray, ?_⟩
    simp [List.map_pmap]
  have hv2 : vcells (Go.Sort.flatK (encF w a f c) 5 d2).toList = fls (stL w a f c) := by
    rw [flat_fls, stL, ← hd2, List.map_map]; rfl
  have hsz2 : d2.size = (sts f c).length := by rw [← hd2]; simp
  rw [← hv1] at ho
  rw [← hv2]
  refine SpecTo.rowV (by kernel_rfl) ho (by decide) (by decide) (by simp [hsz, hsz2]) (by simp [hsz]) fun blk cap wd hb hH hcap => ?_
  have eg : ∀ args w, (callFunc 45 args).run Tryz.prog w = .ok (.enter 45 args) w := enters_of Tryz.func45 (by kernel_rfl) rfl
  have hcon := AnyQ.slices_SortFunc Tryz.sortF 5 Tryz.isAgg37 Tryz.sizeOf37 (encF w a f c) (fun _ => rfl) (fun x v hv => by simp [encF] at hv; rcases hv with rfl | rfl | rfl | rfl | rfl <;> rfl) cfF swoF 45 #[] blk 0 cap d wd eg (fun m os dk hs x y => by simpa using closF w c a f x y _) (by simpa [Go.Sort.HoldsK] using hH) hb (by rw [hsz]; have := sts_len f c; omega)
  rw [hsz] at hcon
  refine hcon.mono ?_
  rintro e w' ⟨h1, d', n, os, hp, hso, rfl⟩
  have hd' : d'.toList.map Fin.val = sts f c := sortedF_is (by rw [hd]; exact hnd) (fun x => by rw [hd]; exact hmem x) (sts_sorted f c) (by rw [hsz]; exact hp) (by rw [hsz]; exact hso)
  have : d' = d2 := by
    have h2 : d'.toList = d2.toList := (List.map_inj_right (f := Fin.val) (fun x y h => Fin.ext h)).1 (hd'.trans hd2.symm)
    exact Array.toList_inj.1 h2
  subst this
  exact ⟨h1, n, os, by simp [sortWorldK, Go.Sort.putRowK]⟩
theorem bindK_by {α : Type} {o : Option α} {K : α → Prop} (v : α) (h : o = some v) (hK : K v) : @bindK _ o ⟨K⟩ := by subst h; exact hK
theorem insF_nil (g : Nat) : Contract Tryz.prog 80 [.list false true 0 [], I 0, I 0, .func (.func g) [] []] (.tuple []) := by
  refine Contract.intro (effS [] false) 6 follows Tryz.func80 rfl rfl (by kernel_rfl) (Nat.le_of_ble_eq_true rfl) ?_
  simp (disch := first | assumption | omega | rfl | simp only [RH]) only [↓RP, RG, FX, RQ, ↓reduceIte, Nat.reduceEqDiff, reduceCtorEq, Nat.reduceBEq, Nat.reduceAdd, Nat.reduceLeDiff, args0_4]
  refine loopK_now ?_
  simp (disch := first | assumption | omega | rfl | simp only [RH]) only [↓RP, RG, FX, RQ, ↓reduceIte, Nat.reduceEqDiff, reduceCtorEq, Nat.reduceBEq, Nat.reduceAdd, Nat.reduceLeDiff]
  rw [resVal_0 rfl]; simp (disch := first | assumption | omega | rfl | simp only [RH]) only [↓RP, RG, FX, RQ, ↓reduceIte, Nat.reduceEqDiff, reduceCtorEq, Nat.reduceBEq, Nat.reduceAdd, Nat.reduceLeDiff, RS]
theorem pdqF_nil (g : Nat) : Contract Tryz.prog 58 [.list false true 0 [], I 0, I 0, I 0, .func (.func g) [] []] (.tuple []) := by
  refine Contract.intro (effS [] false) 6 follows Tryz.func58 rfl rfl (by kernel_rfl) (Nat.le_of_ble_eq_true rfl) ?_
  simp (disch := first | assumption | omega | rfl | simp only [RH]) only [↓RP, RG, FX, RQ, ↓reduceIte, Nat.reduceEqDiff, reduceCtorEq, Nat.reduceBEq, Nat.reduceAdd, Nat.reduceLeDiff, args0_5]
  refine loopK_now ?_
  simp (disch := first | assumption | omega | rfl | simp only [RH]) only [↓RP, RG, FX, RQ, ↓reduceIte, Nat.reduceEqDiff, reduceCtorEq, Nat.reduceBEq, Nat.reduceAdd, Nat.reduceLeDiff]
  refine callK_F 6 (insF_nil g) (by simp (disch := first | assumption | omega | rfl | simp only [RH]) only [↓RP, RG, FX, RQ, ↓reduceIte, Nat.reduceEqDiff, reduceCtorEq, Nat.reduceBEq, Nat.reduceAdd, Nat.reduceLeDiff, RA] <;> rfl) (.inl (by simp [allFresh, ints_fresh, bools_fresh])) ?_
  simp (disch := first | assumption | omega | rfl | simp only [RH]) only [↓RP, RG, FX, RQ, ↓reduceIte, Nat.reduceEqDiff, reduceCtorEq, Nat.reduceBEq, Nat.reduceAdd, Nat.reduceLeDiff]
  rw [resVal_0 rfl]; simp (disch := first | assumption | omega | rfl | simp only [RH]) only [↓RP, RG, FX, RQ, ↓reduceIte, Nat.reduceEqDiff, reduceCtorEq, Nat.reduceBEq, Nat.reduceAdd, Nat.reduceLeDiff, RS]
theorem lenB_0 : Contract Tryz.prog 47 [.val (.int .u64 0)] (I 0) := by
  refine ⟨by kernel_rfl, fun w ok vs hok ht hs hrel => ?_⟩
  have h0 := hrel 0 (by simp)
  have hvs : vs = #[.int .u64 0] := by
    apply Array.ext
    · simpa using hs
    · intro j h1 h2
      obtain rfl : j = 0 := by simp at h2; omega
      have h3 := rel_val (show VRel ok (fun _ => False) w (fun _ => (0, 0)) (fun _ => none) (.val (.int .u64 0)) (vs.getD 0 undef) from h0)
      simp only [Array.getD_eq_getD_getElem?, Array.getElem?_eq_getElem h1, Option.getD_some] at h3
      rw [h3]; rfl
  rw [hvs]
  have h := Go.Proofs.Any.bits_Len (Go.Proofs.SlLaysF0.n15.bits (P := Tryz.prog) (ρ := Tryz.sortF_ren) { Tryz.sortF with }) 0 w (by omega) (by omega)
  refine h.mono ?_
  rintro e w' ⟨rfl, rfl⟩
  exact ⟨_, rfl, .val _, .refl _ _⟩
theorem sortF_nil (g : Nat) : Contract Tryz.prog 44 [.list false true 0 [], .func (.func g) [] []] (.tuple []) := by
  refine Contract.intro (effS [] false) 6 follows Tryz.func44 rfl rfl (by kernel_rfl) (Nat.le_of_ble_eq_true rfl) ?_
  simp (disch := first | assumption | omega | rfl | simp only [RH]) only [↓RP, RG, FX, RQ, ↓reduceIte, Nat.reduceEqDiff, reduceCtorEq, Nat.reduceBEq, Nat.reduceAdd, Nat.reduceLeDiff, args0_2]
  refine bindK_by (.val (.int .u64 0)) (by kernel_rfl) ?_
  simp (disch := first | assumption | omega | rfl | simp only [RH]) only [↓RP, RG, FX, RQ, ↓reduceIte, Nat.reduceEqDiff, reduceCtorEq, Nat.reduceBEq, Nat.reduceAdd, Nat.reduceLeDiff]
  refine callK_F 6 (lenB_0) (by simp (disch := first | assumption | omega | rfl | simp only [RH]) only [↓RP, RG, FX, RQ, ↓reduceIte, Nat.reduceEqDiff, reduceCtorEq, Nat.reduceBEq, Nat.reduceAdd, Nat.reduceLeDiff, RA] <;> rfl) (.inl (by simp [allFresh, ints_fresh, bools_fresh])) ?_
  simp (disch := first | assumption | omega | rfl | simp only [RH]) only [↓RP, RG, FX, RQ, ↓reduceIte, Nat.reduceEqDiff, reduceCtorEq, Nat.reduceBEq, Nat.reduceAdd, Nat.reduceLeDiff]
  refine callK_F 6 (pdqF_nil g) (by simp (disch := first | assumption | omega | rfl | simp only [RH]) only [↓RP, RG, FX, RQ, ↓reduceIte, Nat.reduceEqDiff, reduceCtorEq, Nat.reduceBEq, Nat.reduceAdd, Nat.reduceLeDiff, RA] <;> rfl) (.inl (by simp [allFresh, ints_fresh, bools_fresh])) ?_
  simp (disch := first | assumption | omega | rfl | simp only [RH]) only [↓RP, RG, FX, RQ, ↓reduceIte, Nat.reduceEqDiff, reduceCtorEq, Nat.reduceBEq, Nat.reduceAdd, Nat.reduceLeDiff]
  rw [resVal_0 rfl]; simp (disch := first | assumption | omega | rfl | simp only [RH]) only [↓RP, RG, FX, RQ, ↓reduceIte, Nat.reduceEqDiff, reduceCtorEq, Nat.reduceBEq, Nat.reduceAdd, Nat.reduceLeDiff, RS]
end Go.Proofs.YtllijejobeogdaaGreatDoor
