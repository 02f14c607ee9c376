/- Part 1 of the proof's own texts: the contracts of functions, and what they rest on. -/
import Derived.Test.YtbmcfkpljdchoaaDoorProg
import Derived.Test.YtbmcfkpljdchoaaDoorBw3
import Derived.Test.YtbmcfkpljdchoaaDoorBw4
/- Closed facts on the types. -/
namespace Go.Proofs.YtbmcfkpljdchoaaDoor
open Go Go.Proofs Go.AW
theorem follows : Tryd.prog.follows .mixedOrders = true := by kernel_rfl
-- 2: int64
theorem ag2 : agT Tryd.prog 2 = some (false, 1) := by kernel_rfl
theorem zc2 : zT Tryd.prog 2 = some ([I 0], 1) := by kernel_rfl
-- 3: int
theorem ag3 : agT Tryd.prog 3 = some (false, 1) := by kernel_rfl
theorem zc3 : zT Tryd.prog 3 = some ([I 0], 1) := by kernel_rfl
-- 4: bool
theorem ag4 : agT Tryd.prog 4 = some (false, 1) := by kernel_rfl
theorem zc4 : zT Tryd.prog 4 = some ([B false], 1) := by kernel_rfl
instance bo4 : BoT Tryd.prog 4 := ⟨by kernel_rfl⟩
-- 5: uint8
theorem ag5 : agT Tryd.prog 5 = some (false, 1) := by kernel_rfl
theorem zc5 : zT Tryd.prog 5 = some ([.val (.int .u8 0)], 1) := by kernel_rfl
-- 9: string
theorem ag9 : agT Tryd.prog 9 = some (false, 1) := by kernel_rfl
theorem zc9 : zT Tryd.prog 9 = some ([.val (.string ⟨#[]⟩)], 1) := by kernel_rfl
-- 21: int32
theorem ag21 : agT Tryd.prog 21 = some (false, 1) := by kernel_rfl
theorem zc21 : zT Tryd.prog 21 = some ([.val (.int .i32 0)], 1) := by kernel_rfl
-- 22: []bool
theorem ag22 : agT Tryd.prog 22 = some (false, 1) := by kernel_rfl
theorem zc22 : zT Tryd.prog 22 = some ([.cap0 true], 1) := by kernel_rfl
instance S22 : SlT Tryd.prog 22 4 1 (.bool false) := SlT.of (by kernel_rfl) (by kernel_rfl)
-- 24: api.Grid
theorem ag24 : agT Tryd.prog 24 = some (true, 3) := by kernel_rfl
theorem zc24 : zT Tryd.prog 24 = some ([I 0, I 0, .cap0 true], 3) := by kernel_rfl
theorem fo24_0 : fOff Tryd.prog 24 0 = some 0 := by kernel_rfl
theorem ft24_0 : fOT Tryd.prog 24 0 = some (0, 3) := by kernel_rfl
theorem fo24_1 : fOff Tryd.prog 24 1 = some 1 := by kernel_rfl
theorem ft24_1 : fOT Tryd.prog 24 1 = some (1, 3) := by kernel_rfl
theorem fo24_2 : fOff Tryd.prog 24 2 = some 2 := by kernel_rfl
theorem ft24_2 : fOT Tryd.prog 24 2 = some (2, 22) := by kernel_rfl
theorem fl24 : flT Tryd.prog 24 = some ([(0, 1), (1, 1), (2, 1)], [I 0, I 0, .cap0 true]) := by kernel_rfl
-- 27: []int
theorem ag27 : agT Tryd.prog 27 = some (false, 1) := by kernel_rfl
theorem zc27 : zT Tryd.prog 27 = some ([.cap0 true], 1) := by kernel_rfl
instance S27 : SlT Tryd.prog 27 3 8 (.int .i64 0) := SlT.of (by kernel_rfl) (by kernel_rfl)
-- 28: api.Errno
theorem ag28 : agT Tryd.prog 28 = some (false, 1) := by kernel_rfl
theorem zc28 : zT Tryd.prog 28 = some ([I 0], 1) := by kernel_rfl
-- 38: api.Draft
theorem ag38 : agT Tryd.prog 38 = some (true, 7) := by kernel_rfl
theorem zc38 : zT Tryd.prog 38 = some ([I 0, I 0, .cap0 true, .cap0 true, I 0, I 0, .cap0 true], 7) := by kernel_rfl
theorem fo38_0 : fOff Tryd.prog 38 0 = some 0 := by kernel_rfl
theorem ft38_0 : fOT Tryd.prog 38 0 = some (0, 3) := by kernel_rfl
theorem fo38_1 : fOff Tryd.prog 38 1 = some 1 := by kernel_rfl
theorem ft38_1 : fOT Tryd.prog 38 1 = some (1, 3) := by kernel_rfl
theorem fo38_2 : fOff Tryd.prog 38 2 = some 2 := by kernel_rfl
theorem ft38_2 : fOT Tryd.prog 38 2 = some (2, 27) := by kernel_rfl
theorem fo38_3 : fOff Tryd.prog 38 3 = some 3 := by kernel_rfl
theorem ft38_3 : fOT Tryd.prog 38 3 = some (3, 27) := by kernel_rfl
theorem fo38_4 : fOff Tryd.prog 38 4 = some 4 := by kernel_rfl
theorem ft38_4 : fOT Tryd.prog 38 4 = some (4, 24) := by kernel_rfl
theorem fl38 : flT Tryd.prog 38 = some ([(0, 1), (1, 1), (2, 1), (3, 1), (4, 3)], [I 0, I 0, .cap0 true, .cap0 true, I 0, I 0, .cap0 true]) := by kernel_rfl
-- 58: [2]int
theorem ag58 : agT Tryd.prog 58 = some (true, 2) := by kernel_rfl
theorem zc58 : zT Tryd.prog 58 = some ([I 0, I 0], 2) := by kernel_rfl
instance nc58 : NumT Tryd.prog 58 2 := ⟨by kernel_rfl⟩
instance AR58 : ArT Tryd.prog 58 2 := ⟨by kernel_rfl⟩
instance AE58 : ArE Tryd.prog 58 2 := ⟨by kernel_rfl⟩
theorem fl58 : flT Tryd.prog 58 = some ([(0, 1), (1, 1)], [I 0, I 0]) := by kernel_rfl
-- 64: (string, api.Errno)
theorem ag64 : agT Tryd.prog 64 = some (false, 1) := by kernel_rfl
-- 69: *api.Draft
theorem ag69 : agT Tryd.prog 69 = some (false, 1) := by kernel_rfl
theorem zc69 : zT Tryd.prog 69 = some ([.val (.pointer none)], 1) := by kernel_rfl
-- 70: func(int, int) bool
theorem ag70 : agT Tryd.prog 70 = some (false, 1) := by kernel_rfl
theorem zc70 : zT Tryd.prog 70 = some ([.val .nilFunc], 1) := by kernel_rfl
-- 76: *strings.Builder
theorem ag76 : agT Tryd.prog 76 = some (false, 1) := by kernel_rfl
theorem zc76 : zT Tryd.prog 76 = some ([.val (.pointer none)], 1) := by kernel_rfl
-- 77: []uint8
theorem ag77 : agT Tryd.prog 77 = some (false, 1) := by kernel_rfl
theorem zc77 : zT Tryd.prog 77 = some ([.cap0 true], 1) := by kernel_rfl
instance S77 : SlT Tryd.prog 77 5 1 (.int .u8 0) := SlT.of (by kernel_rfl) (by kernel_rfl)
-- 79: strings.Builder
theorem ag79 : agT Tryd.prog 79 = some (true, 2) := by kernel_rfl
theorem zc79 : zT Tryd.prog 79 = some ([.val (.pointer none), .cap0 true], 2) := by kernel_rfl
theorem fo79_0 : fOff Tryd.prog 79 0 = some 0 := by kernel_rfl
theorem ft79_0 : fOT Tryd.prog 79 0 = some (0, 76) := by kernel_rfl
theorem fo79_1 : fOff Tryd.prog 79 1 = some 1 := by kernel_rfl
theorem ft79_1 : fOT Tryd.prog 79 1 = some (1, 77) := by kernel_rfl
theorem fl79 : flT Tryd.prog 79 = some ([(0, 1), (1, 1)], [.val (.pointer none), .cap0 true]) := by kernel_rfl
-- 81: error
theorem ag81 : agT Tryd.prog 81 = some (false, 1) := by kernel_rfl
theorem zc81 : zT Tryd.prog 81 = some ([.val .nilIface], 1) := by kernel_rfl
-- 84: []factor.line
theorem ag84 : agT Tryd.prog 84 = some (false, 1) := by kernel_rfl
theorem zc84 : zT Tryd.prog 84 = some ([.cap0 true], 1) := by kernel_rfl
instance SM84 : SlM Tryd.prog 84 65 := ⟨by kernel_rfl⟩
instance SW84 : SlW Tryd.prog 84 88 65 72 := ⟨by kernel_rfl⟩
instance LT84_1 : LitT Tryd.prog 84 1 [(0, 65)] (bools (List.replicate 64 false) ++ [I 0]) := ⟨by kernel_rfl⟩
-- 86: [64]bool
theorem ag86 : agT Tryd.prog 86 = some (true, 64) := by kernel_rfl
theorem zc86 : zT Tryd.prog 86 = some (bools (List.replicate 64 false), 64) := by kernel_rfl
instance kt86 : KT Tryd.prog 86 (List.replicate 64 true) := ⟨by kernel_rfl, by kernel_rfl, by kernel_rfl, by kernel_rfl⟩
instance AR86 : ArT Tryd.prog 86 64 := ⟨by kernel_rfl⟩
instance AE86 : ArE Tryd.prog 86 64 := ⟨by kernel_rfl⟩
theorem fl86 : flT Tryd.prog 86 = some ([(0, 1), (1, 1), (2, 1), (3, 1), (4, 1), (5, 1), (6, 1), (7, 1), (8, 1), (9, 1), (10, 1), (11, 1), (12, 1), (13, 1), (14, 1), (15, 1), (16, 1), (17, 1), (18, 1), (19, 1), (20, 1), (21, 1), (22, 1), (23, 1), (24, 1), (25, 1), (26, 1), (27, 1), (28, 1), (29, 1), (30, 1), (31, 1), (32, 1), (33, 1), (34, 1), (35, 1), (36, 1), (37, 1), (38, 1), (39, 1), (40, 1), (41, 1), (42, 1), (43, 1), (44, 1), (45, 1), (46, 1), (47, 1), (48, 1), (49, 1), (50, 1), (51, 1), (52, 1), (53, 1), (54, 1), (55, 1), (56, 1), (57, 1), (58, 1), (59, 1), (60, 1), (61, 1), (62, 1), (63, 1)], bools (List.replicate 64 false)) := by kernel_rfl
-- 88: factor.line
theorem ag88 : agT Tryd.prog 88 = some (true, 65) := by kernel_rfl
theorem zc88 : zT Tryd.prog 88 = some (bools (List.replicate 64 false) ++ [I 0], 65) := by kernel_rfl
instance kt88 : KT Tryd.prog 88 (List.replicate 64 true ++ [false]) := ⟨by kernel_rfl, by kernel_rfl, by kernel_rfl, by kernel_rfl⟩
theorem fo88_0 : fOff Tryd.prog 88 0 = some 0 := by kernel_rfl
theorem ft88_0 : fOT Tryd.prog 88 0 = some (0, 86) := by kernel_rfl
theorem fo88_1 : fOff Tryd.prog 88 1 = some 64 := by kernel_rfl
theorem ft88_1 : fOT Tryd.prog 88 1 = some (64, 3) := by kernel_rfl
theorem fl88 : flT Tryd.prog 88 = some ([(0, 64), (64, 1)], bools (List.replicate 64 false) ++ [I 0]) := by kernel_rfl
-- 92: []string
theorem ag92 : agT Tryd.prog 92 = some (false, 1) := by kernel_rfl
theorem zc92 : zT Tryd.prog 92 = some ([.cap0 true], 1) := by kernel_rfl
instance S92 : SlT Tryd.prog 92 9 16 (.string ⟨#[]⟩) := SlT.of (by kernel_rfl) (by kernel_rfl)
-- 95: *uint8
theorem ag95 : agT Tryd.prog 95 = some (false, 1) := by kernel_rfl
theorem zc95 : zT Tryd.prog 95 = some ([.val (.pointer none)], 1) := by kernel_rfl
-- 99: strings.asciiSet
theorem ag99 : agT Tryd.prog 99 = some (true, 256) := by kernel_rfl
theorem zc99 : zT Tryd.prog 99 = some (bools (List.replicate 256 false), 256) := by kernel_rfl
instance kt99 : KT Tryd.prog 99 (List.replicate 256 true) := ⟨by kernel_rfl, by kernel_rfl, by kernel_rfl, by kernel_rfl⟩
instance AR99 : ArT Tryd.prog 99 256 := ⟨by kernel_rfl⟩
instance AE99 : ArE Tryd.prog 99 256 := ⟨by kernel_rfl⟩
theorem fl99 : flT Tryd.prog 99 = some ([(0, 1), (1, 1), (2, 1), (3, 1), (4, 1), (5, 1), (6, 1), (7, 1), (8, 1), (9, 1), (10, 1), (11, 1), (12, 1), (13, 1), (14, 1), (15, 1), (16, 1), (17, 1), (18, 1), (19, 1), (20, 1), (21, 1), (22, 1), (23, 1), (24, 1), (25, 1), (26, 1), (27, 1), (28, 1), (29, 1), (30, 1), (31, 1), (32, 1), (33, 1), (34, 1), (35, 1), (36, 1), (37, 1), (38, 1), (39, 1), (40, 1), (41, 1), (42, 1), (43, 1), (44, 1), (45, 1), (46, 1), (47, 1), (48, 1), (49, 1), (50, 1), (51, 1), (52, 1), (53, 1), (54, 1), (55, 1), (56, 1), (57, 1), (58, 1), (59, 1), (60, 1), (61, 1), (62, 1), (63, 1), (64, 1), (65, 1), (66, 1), (67, 1), (68, 1), (69, 1), (70, 1), (71, 1), (72, 1), (73, 1), (74, 1), (75, 1), (76, 1), (77, 1), (78, 1), (79, 1), (80, 1), (81, 1), (82, 1), (83, 1), (84, 1), (85, 1), (86, 1), (87, 1), (88, 1), (89, 1), (90, 1), (91, 1), (92, 1), (93, 1), (94, 1), (95, 1), (96, 1), (97, 1), (98, 1), (99, 1), (100, 1), (101, 1), (102, 1), (103, 1), (104, 1), (105, 1), (106, 1), (107, 1), (108, 1), (109, 1), (110, 1), (111, 1), (112, 1), (113, 1), (114, 1), (115, 1), (116, 1), (117, 1), (118, 1), (119, 1), (120, 1), (121, 1), (122, 1), (123, 1), (124, 1), (125, 1), (126, 1), (127, 1), (128, 1), (129, 1), (130, 1), (131, 1), (132, 1), (133, 1), (134, 1), (135, 1), (136, 1), (137, 1), (138, 1), (139, 1), (140, 1), (141, 1), (142, 1), (143, 1), (144, 1), (145, 1), (146, 1), (147, 1), (148, 1), (149, 1), (150, 1), (151, 1), (152, 1), (153, 1), (154, 1), (155, 1), (156, 1), (157, 1), (158, 1), (159, 1), (160, 1), (161, 1), (162, 1), (163, 1), (164, 1), (165, 1), (166, 1), (167, 1), (168, 1), (169, 1), (170, 1), (171, 1), (172, 1), (173, 1), (174, 1), (175, 1), (176, 1), (177, 1), (178, 1), (179, 1), (180, 1), (181, 1), (182, 1), (183, 1), (184, 1), (185, 1), (186, 1), (187, 1), (188, 1), (189, 1), (190, 1), (191, 1), (192, 1), (193, 1), (194, 1), (195, 1), (196, 1), (197, 1), (198, 1), (199, 1), (200, 1), (201, 1), (202, 1), (203, 1), (204, 1), (205, 1), (206, 1), (207, 1), (208, 1), (209, 1), (210, 1), (211, 1), (212, 1), (213, 1), (214, 1), (215, 1), (216, 1), (217, 1), (218, 1), (219, 1), (220, 1), (221, 1), (222, 1), (223, 1), (224, 1), (225, 1), (226, 1), (227, 1), (228, 1), (229, 1), (230, 1), (231, 1), (232, 1), (233, 1), (234, 1), (235, 1), (236, 1), (237, 1), (238, 1), (239, 1), (240, 1), (241, 1), (242, 1), (243, 1), (244, 1), (245, 1), (246, 1), (247, 1), (248, 1), (249, 1), (250, 1), (251, 1), (252, 1), (253, 1), (254, 1), (255, 1)], bools (List.replicate 256 false)) := by kernel_rfl
-- 103: *strings.asciiSet
theorem ag103 : agT Tryd.prog 103 = some (false, 1) := by kernel_rfl
theorem zc103 : zT Tryd.prog 103 = some ([.val (.pointer none)], 1) := by kernel_rfl
-- 105: unsafe.Pointer
theorem ag105 : agT Tryd.prog 105 = some (false, 1) := by kernel_rfl
theorem zc105 : zT Tryd.prog 105 = some ([.val (.pointer none)], 1) := by kernel_rfl

theorem FX : type_of% @ag2 ∧ type_of% @zc2 ∧ type_of% @ag3 ∧ type_of% @zc3 ∧ type_of% @ag4 ∧ type_of% @zc4 ∧ type_of% @ag5 ∧ type_of% @zc5 ∧ type_of% @ag9 ∧ type_of% @zc9 ∧ type_of% @ag21 ∧ type_of% @zc21 ∧ type_of% @ag22 ∧ type_of% @zc22 ∧ type_of% @ag24 ∧ type_of% @zc24 ∧ type_of% @fo24_0 ∧ type_of% @ft24_0 ∧ type_of% @fo24_1 ∧ type_of% @ft24_1 ∧ type_of% @fo24_2 ∧ type_of% @ft24_2 ∧ type_of% @fl24 ∧ type_of% @ag27 ∧ type_of% @zc27 ∧ type_of% @ag28 ∧ type_of% @zc28 ∧ type_of% @ag38 ∧ type_of% @zc38 ∧ type_of% @fo38_0 ∧ type_of% @ft38_0 ∧ type_of% @fo38_1 ∧ type_of% @ft38_1 ∧ type_of% @fo38_2 ∧ type_of% @ft38_2 ∧ type_of% @fo38_3 ∧ type_of% @ft38_3 ∧ type_of% @fo38_4 ∧ type_of% @ft38_4 ∧ type_of% @fl38 ∧ type_of% @ag58 ∧ type_of% @zc58 ∧ type_of% @fl58 ∧ type_of% @ag64 ∧ type_of% @ag69 ∧ type_of% @zc69 ∧ type_of% @ag70 ∧ type_of% @zc70 ∧ type_of% @ag76 ∧ type_of% @zc76 ∧ type_of% @ag77 ∧ type_of% @zc77 ∧ type_of% @ag79 ∧ type_of% @zc79 ∧ type_of% @fo79_0 ∧ type_of% @ft79_0 ∧ type_of% @fo79_1 ∧ type_of% @ft79_1 ∧ type_of% @fl79 ∧ type_of% @ag81 ∧ type_of% @zc81 ∧ type_of% @ag84 ∧ type_of% @zc84 ∧ type_of% @ag86 ∧ type_of% @zc86 ∧ type_of% @fl86 ∧ type_of% @ag88 ∧ type_of% @zc88 ∧ type_of% @fo88_0 ∧ type_of% @ft88_0 ∧ type_of% @fo88_1 ∧ type_of% @ft88_1 ∧ type_of% @fl88 ∧ type_of% @ag92 ∧ type_of% @zc92 ∧ type_of% @ag95 ∧ type_of% @zc95 ∧ type_of% @ag99 ∧ type_of% @zc99 ∧ type_of% @fl99 ∧ type_of% @ag103 ∧ type_of% @zc103 ∧ type_of% @ag105 ∧ type_of% @zc105 :=
  ⟨@ag2, @zc2, @ag3, @zc3, @ag4, @zc4, @ag5, @zc5, @ag9, @zc9, @ag21, @zc21, @ag22, @zc22, @ag24, @zc24, @fo24_0, @ft24_0, @fo24_1, @ft24_1, @fo24_2, @ft24_2, @fl24, @ag27, @zc27, @ag28, @zc28, @ag38, @zc38, @fo38_0, @ft38_0, @fo38_1, @ft38_1, @fo38_2, @ft38_2, @fo38_3, @ft38_3, @fo38_4, @ft38_4, @fl38, @ag58, @zc58, @fl58, @ag64, @ag69, @zc69, @ag70, @zc70, @ag76, @zc76, @ag77, @zc77, @ag79, @zc79, @fo79_0, @ft79_0, @fo79_1, @ft79_1, @fl79, @ag81, @zc81, @ag84, @zc84, @ag86, @zc86, @fl86, @ag88, @zc88, @fo88_0, @ft88_0, @fo88_1, @ft88_1, @fl88, @ag92, @zc92, @ag95, @zc95, @ag99, @zc99, @fl99, @ag103, @zc103, @ag105, @zc105⟩
end Go.Proofs.YtbmcfkpljdchoaaDoor

/- Grids: their checks. -/
set_option linter.unusedSimpArgs false
set_option linter.unusedVariables false
set_option maxRecDepth 100000
namespace Go.Proofs.YtbmcfkpljdchoaaDoor
open Go Go.Proofs Go.AW

abbrev LA (b : Bool) (l : List Int) : AVal := .list false b l.length (ints l)
abbrev LR (b : Bool) (l : List Int) : AVal := .list true b l.length (ints l)
abbrev BA (b : Bool) (l : List Bool) : AVal := .list false b l.length (bools l)
abbrev BR (b : Bool) (l : List Bool) : AVal := .list true b l.length (bools l)
abbrev GA (w h : Int) (b : Bool) (l : List Bool) : AVal := .agg [I w, I h, BA b l]
abbrev GR (w h : Int) (b : Bool) (l : List Bool) : AVal := .agg [I w, I h, BR b l]

theorem great_c (w h : Int) (b : Bool) (l : List Bool) : Contract Tryd.prog 6 [GA w h b l] (B (decide (4200 < (l.length : Int)))) := by
  refine Contract.intro (effS [] false) 6 follows Tryd.func6 rfl rfl (by kernel_rfl) (Nat.le_of_ble_eq_true rfl) ?_
  simp (disch := omega) only [↓RP, RG, FX, RQ, ↓reduceIte, Nat.reduceEqDiff, reduceCtorEq, Nat.reduceBEq, Nat.reduceAdd, Nat.reduceLeDiff, args0_1]
  rw [resVal_1 rfl]; simp (disch := first | assumption | omega | rfl | simp only [RH]) only [↓RP, RG, FX, RQ, ↓reduceIte, Nat.reduceEqDiff, reduceCtorEq, Nat.reduceBEq, Nat.reduceAdd, Nat.reduceLeDiff, RS]

/-- The error of a grid. -/
def gchk (w h n : Int) : Int := if 64 < w ∨ 64 < h then 4 else if w < 1 ∨ h < 1 ∨ n ≠ w * h then 8 else 0
def gOk (w h n : Int) : Prop := 1 ≤ w ∧ w ≤ 64 ∧ 1 ≤ h ∧ h ≤ 64 ∧ n = w * h
theorem gchk_ok {w h n : Int} (hg : gOk w h n) : gchk w h n = 0 := by
  obtain ⟨h1, h2, h3, h4, h5⟩ := hg
  unfold gchk
  rw [if_neg (by omega), if_neg (by omega)]
theorem gchk_iff {w h n : Int} : gchk w h n = 0 ↔ gOk w h n := by
  refine ⟨fun hz => ?_, gchk_ok⟩
  unfold gchk at hz
  unfold gOk
  split at hz
  · omega
  · split at hz
    · omega
    · omega
theorem prod64 {w h : Int} (h1 : 0 ≤ w) (h2 : w ≤ 64) (h3 : 0 ≤ h) (h4 : h ≤ 64) : 0 ≤ w * h ∧ w * h ≤ 4096 := by
  constructor
  · exact Int.mul_nonneg h1 h3
  · have := Int.mul_le_mul h2 h4 h3 (by omega); omega

theorem gcheckP_c (w h : Int) (b : Bool) (l : List Bool) : Contract Tryd.prog 41 [GA w h b l] (I (gchk w h l.length)) := by
  unfold gchk
  refine Contract.intro (effS [] false) 6 follows Tryd.func41 rfl rfl (by kernel_rfl) (Nat.le_of_ble_eq_true rfl) ?_
  by_cases c1 : 64 < w ∨ 64 < h
  · rw [if_pos c1]
    have : 64 < max w h := by omega
    simp (disch := omega) only [↓RP, RG, FX, RQ, ↓reduceIte, Nat.reduceEqDiff, reduceCtorEq, Nat.reduceBEq, Nat.reduceAdd, Nat.reduceLeDiff, args0_1]
    rw [resVal_1 rfl]; simp (disch := first | assumption | omega | rfl | simp only [RH]) only [↓RP, RG, FX, RQ, ↓reduceIte, Nat.reduceEqDiff, reduceCtorEq, Nat.reduceBEq, Nat.reduceAdd, Nat.reduceLeDiff, RS]
  rw [if_neg c1]
  have : ¬ 64 < max w h := by omega
  by_cases c2 : w < 1 ∨ h < 1
  · rw [if_pos (by omega)]
    have : min w h < 1 := by omega
    simp (disch := omega) only [↓RP, RG, FX, RQ, ↓reduceIte, Nat.reduceEqDiff, reduceCtorEq, Nat.reduceBEq, Nat.reduceAdd, Nat.reduceLeDiff, args0_1]
    rw [resVal_1 rfl]; simp (disch := first | assumption | omega | rfl | simp only [RH]) only [↓RP, RG, FX, RQ, ↓reduceIte, Nat.reduceEqDiff, reduceCtorEq, Nat.reduceBEq, Nat.reduceAdd, Nat.reduceLeDiff, RS]
  have : ¬ min w h < 1 := by omega
  have hp := prod64 (w := w) (h := h) (by omega) (by omega) (by omega) (by omega)
  by_cases c3 : (l.length : Int) = w * h
  · rw [if_neg (by omega)]
    simp (disch := omega) only [↓RP, RG, FX, RQ, ↓reduceIte, Nat.reduceEqDiff, reduceCtorEq, Nat.reduceBEq, Nat.reduceAdd, Nat.reduceLeDiff, args0_1]
    rw [resVal_1 rfl]; simp (disch := first | assumption | omega | rfl | simp only [RH]) only [↓RP, RG, FX, RQ, ↓reduceIte, Nat.reduceEqDiff, reduceCtorEq, Nat.reduceBEq, Nat.reduceAdd, Nat.reduceLeDiff, RS]
  · rw [if_pos (by omega)]
    simp (disch := omega) only [↓RP, RG, FX, RQ, ↓reduceIte, Nat.reduceEqDiff, reduceCtorEq, Nat.reduceBEq, Nat.reduceAdd, Nat.reduceLeDiff, args0_1]
    rw [resVal_1 rfl]; simp (disch := first | assumption | omega | rfl | simp only [RH]) only [↓RP, RG, FX, RQ, ↓reduceIte, Nat.reduceEqDiff, reduceCtorEq, Nat.reduceBEq, Nat.reduceAdd, Nat.reduceLeDiff, RS]

theorem gcheckR_c (w h : Int) (b : Bool) (l : List Bool) : Contract Tryd.prog 23 [GA w h b l] (I (gchk w h l.length)) := by
  unfold gchk
  refine Contract.intro (effS [] false) 6 follows Tryd.func23 rfl rfl (by kernel_rfl) (Nat.le_of_ble_eq_true rfl) ?_
  by_cases c0 : 64 < w
  · rw [if_pos (by omega)]
    simp (disch := omega) only [↓RP, RG, FX, RQ, ↓reduceIte, Nat.reduceEqDiff, reduceCtorEq, Nat.reduceBEq, Nat.reduceAdd, Nat.reduceLeDiff, args0_1]
    rw [resVal_1 rfl]; simp (disch := first | assumption | omega | rfl | simp only [RH]) only [↓RP, RG, FX, RQ, ↓reduceIte, Nat.reduceEqDiff, reduceCtorEq, Nat.reduceBEq, Nat.reduceAdd, Nat.reduceLeDiff, RS]
  by_cases c1 : 64 < h
  · rw [if_pos (by omega)]
    simp (disch := omega) only [↓RP, RG, FX, RQ, ↓reduceIte, Nat.reduceEqDiff, reduceCtorEq, Nat.reduceBEq, Nat.reduceAdd, Nat.reduceLeDiff, args0_1]
    rw [resVal_1 rfl]; simp (disch := first | assumption | omega | rfl | simp only [RH]) only [↓RP, RG, FX, RQ, ↓reduceIte, Nat.reduceEqDiff, reduceCtorEq, Nat.reduceBEq, Nat.reduceAdd, Nat.reduceLeDiff, RS]
  rw [if_neg (by omega)]
  by_cases c2 : w < 1
  · rw [if_pos (by omega)]
    simp (disch := omega) only [↓RP, RG, FX, RQ, ↓reduceIte, Nat.reduceEqDiff, reduceCtorEq, Nat.reduceBEq, Nat.reduceAdd, Nat.reduceLeDiff, args0_1]
    rw [resVal_1 rfl]; simp (disch := first | assumption | omega | rfl | simp only [RH]) only [↓RP, RG, FX, RQ, ↓reduceIte, Nat.reduceEqDiff, reduceCtorEq, Nat.reduceBEq, Nat.reduceAdd, Nat.reduceLeDiff, RS]
  by_cases c3 : h < 1
  · rw [if_pos (by omega)]
    simp (disch := omega) only [↓RP, RG, FX, RQ, ↓reduceIte, Nat.reduceEqDiff, reduceCtorEq, Nat.reduceBEq, Nat.reduceAdd, Nat.reduceLeDiff, args0_1]
    rw [resVal_1 rfl]; simp (disch := first | assumption | omega | rfl | simp only [RH]) only [↓RP, RG, FX, RQ, ↓reduceIte, Nat.reduceEqDiff, reduceCtorEq, Nat.reduceBEq, Nat.reduceAdd, Nat.reduceLeDiff, RS]
  have hp := prod64 (w := w) (h := h) (by omega) (by omega) (by omega) (by omega)
  by_cases c4 : (l.length : Int) = w * h
  · rw [if_neg (by omega)]
    simp (disch := omega) only [↓RP, RG, FX, RQ, ↓reduceIte, Nat.reduceEqDiff, reduceCtorEq, Nat.reduceBEq, Nat.reduceAdd, Nat.reduceLeDiff, args0_1]
    rw [resVal_1 rfl]; simp (disch := first | assumption | omega | rfl | simp only [RH]) only [↓RP, RG, FX, RQ, ↓reduceIte, Nat.reduceEqDiff, reduceCtorEq, Nat.reduceBEq, Nat.reduceAdd, Nat.reduceLeDiff, RS]
  · rw [if_pos (by omega)]
    simp (disch := omega) only [↓RP, RG, FX, RQ, ↓reduceIte, Nat.reduceEqDiff, reduceCtorEq, Nat.reduceBEq, Nat.reduceAdd, Nat.reduceLeDiff, args0_1]
    rw [resVal_1 rfl]; simp (disch := first | assumption | omega | rfl | simp only [RH]) only [↓RP, RG, FX, RQ, ↓reduceIte, Nat.reduceEqDiff, reduceCtorEq, Nat.reduceBEq, Nat.reduceAdd, Nat.reduceLeDiff, RS]
end Go.Proofs.YtbmcfkpljdchoaaDoor

/- Lists: compared. -/
set_option linter.unusedSimpArgs false
set_option linter.unusedVariables false
set_option maxRecDepth 100000
namespace Go.Proofs.YtbmcfkpljdchoaaDoor
open Go Go.Proofs Go.AW

theorem bneq {a b : Bool} (h : ¬ a = b) : (a == b) = false := by simpa using h

/-- Lists compared. -/
theorem same02_c (b1 b2 : Bool) (l m : List Int) (hl : l.length ≤ 9223372036854775807) : Contract Tryd.prog 16 [LA b1 l, LA b2 m] (B (decide (l = m))) := by
  refine Contract.intro (effS [] false) 6 follows Tryd.func16 rfl rfl (by kernel_rfl) (Nat.le_of_ble_eq_true rfl) ?_
  by_cases hlen : l.length = m.length
  · simp (disch := first | assumption | omega | rfl | simp only [RH]) only [↓RP, RG, FX, RQ, ↓reduceIte, Nat.reduceEqDiff, reduceCtorEq, Nat.reduceBEq, Nat.reduceAdd, Nat.reduceLeDiff, args0_2]
    refine loopK_I [0, 1, 5] (fun k : Nat => k ≤ l.length ∧ l.take k = m.take k) (fun k : Nat => ⟨[(0, LA b1 l), (1, LA b2 m), (5, I k)], []⟩) (fun k => l.length - k) 0 (by simp) (by simp only [↓RP, RG, FX, RQ, ↓reduceIte, Nat.reduceEqDiff, reduceCtorEq, Nat.reduceBEq, Nat.reduceAdd, Nat.reduceLeDiff]; rfl) ?_
    rintro k ⟨hk, htk⟩
    by_cases hlt : k < l.length
    · by_cases he : l.getD k 0 = m.getD k 0
      · simp (disch := first | assumption | omega | rfl | simp only [RH]) only [↓RP, RG, FX, RQ, ↓reduceIte, Nat.reduceEqDiff, reduceCtorEq, Nat.reduceBEq, Nat.reduceAdd, Nat.reduceLeDiff]
        refine ⟨k + 1, ⟨by omega, ?_⟩, rfl, by omega⟩
        rw [List.take_add_one, List.take_add_one, htk]
        simp [hlt, show k < m.length by omega] at he
        rw [List.getElem?_eq_getElem hlt, List.getElem?_eq_getElem (show k < m.length by omega), he]
      · simp (disch := first | assumption | omega | rfl | simp only [RH]) only [↓RP, RG, FX, RQ, ↓reduceIte, Nat.reduceEqDiff, reduceCtorEq, Nat.reduceBEq, Nat.reduceAdd, Nat.reduceLeDiff]
        rw [resVal_1 rfl]; simp (disch := first | assumption | omega | rfl | simp only [RH]) only [↓RP, RG, FX, RQ, ↓reduceIte, Nat.reduceEqDiff, reduceCtorEq, Nat.reduceBEq, Nat.reduceAdd, Nat.reduceLeDiff, RS]
        refine okF ?_
        rintro rfl; exact he rfl
    · simp (disch := first | assumption | omega | rfl | simp only [RH]) only [↓RP, RG, FX, RQ, ↓reduceIte, Nat.reduceEqDiff, reduceCtorEq, Nat.reduceBEq, Nat.reduceAdd, Nat.reduceLeDiff]
      rw [resVal_1 rfl]; simp (disch := first | assumption | omega | rfl | simp only [RH]) only [↓RP, RG, FX, RQ, ↓reduceIte, Nat.reduceEqDiff, reduceCtorEq, Nat.reduceBEq, Nat.reduceAdd, Nat.reduceLeDiff, RS]
      refine okT ?_
      have hk' : k = l.length := by omega
      rw [hk', List.take_length] at htk
      rw [htk, hlen, List.take_length]
  · simp (disch := first | assumption | omega | rfl | simp only [RH]) only [↓RP, RG, FX, RQ, ↓reduceIte, Nat.reduceEqDiff, reduceCtorEq, Nat.reduceBEq, Nat.reduceAdd, Nat.reduceLeDiff, args0_2]
    rw [resVal_1 rfl]; simp (disch := first | assumption | omega | rfl | simp only [RH]) only [↓RP, RG, FX, RQ, ↓reduceIte, Nat.reduceEqDiff, reduceCtorEq, Nat.reduceBEq, Nat.reduceAdd, Nat.reduceLeDiff, RS]
    refine okF ?_
    rintro rfl; exact hlen rfl

end Go.Proofs.YtbmcfkpljdchoaaDoor

/- Lists: least and greatest element, within a range; cells of grids. -/
set_option linter.unusedSimpArgs false
set_option linter.unusedVariables false
set_option maxRecDepth 100000
namespace Go.Proofs.YtbmcfkpljdchoaaDoor
open Go Go.Proofs Go.AW

def mnl (l : List Int) : Nat → Int
  | 0 => l.getD 0 0
  | k + 1 => min (mnl l k) (l.getD (k + 1) 0)
def mxl (l : List Int) : Nat → Int
  | 0 => l.getD 0 0
  | k + 1 => max (mxl l k) (l.getD (k + 1) 0)
theorem mnl_le (l : List Int) (k : Nat) : ∀ j, j ≤ k → mnl l k ≤ l.getD j 0 := by
  induction k with
  | zero => intro j hj; obtain rfl : j = 0 := (by omega); exact Int.le_refl _
  | succ k ih =>
    intro j hj
    simp only [mnl]
    by_cases h : j = k + 1
    · subst h; omega
    · have := ih j (by omega); omega
theorem mnl_mem (l : List Int) (k : Nat) : ∃ j, j ≤ k ∧ mnl l k = l.getD j 0 := by
  induction k with
  | zero => exact ⟨0, Nat.le_refl _, rfl⟩
  | succ k ih =>
    obtain ⟨j, h1, h2⟩ := ih
    simp only [mnl]
    by_cases h : mnl l k ≤ l.getD (k + 1) 0
    · exact ⟨j, by omega, by omega⟩
    · exact ⟨k + 1, by omega, by omega⟩
theorem le_mxl (l : List Int) (k : Nat) : ∀ j, j ≤ k → l.getD j 0 ≤ mxl l k := by
  induction k with
  | zero => intro j hj; obtain rfl : j = 0 := (by omega); exact Int.le_refl _
  | succ k ih =>
    intro j hj
    simp only [mxl]
    by_cases h : j = k + 1
    · subst h; omega
    · have := ih j (by omega); omega
theorem mxl_mem (l : List Int) (k : Nat) : ∃ j, j ≤ k ∧ mxl l k = l.getD j 0 := by
  induction k with
  | zero => exact ⟨0, Nat.le_refl _, rfl⟩
  | succ k ih =>
    obtain ⟨j, h1, h2⟩ := ih
    simp only [mxl]
    by_cases h : mxl l k ≤ l.getD (k + 1) 0
    · exact ⟨k + 1, by omega, by omega⟩
    · exact ⟨j, by omega, by omega⟩

theorem min_c (b : Bool) (l : List Int) (h0 : 0 < l.length) (hl : l.length ≤ 1000000000000) : Contract Tryd.prog 58 [LA b l] (I (mnl l (l.length - 1))) := by
  refine Contract.intro (effS [] false) 6 follows Tryd.func58 rfl rfl (by kernel_rfl) (Nat.le_of_ble_eq_true rfl) ?_
  simp (disch := first | assumption | omega | rfl | simp only [RH]) only [↓RP, RG, FX, RQ, ↓reduceIte, Nat.reduceEqDiff, reduceCtorEq, Nat.reduceBEq, Nat.reduceAdd, Nat.reduceLeDiff, args0_1, Int.toNat_zero, List.drop_zero]
  refine loopK_I [0, 3, 4] (fun k : Nat => k + 1 ≤ l.length) (fun k : Nat => ⟨[(0, LA b l), (3, I (mnl l k)), (4, I ((k + 1 : Nat) : Int))], []⟩) (fun k => l.length - k) 0 (by omega) (by simp only [↓RP, RG, FX, RQ, ↓reduceIte, Nat.reduceEqDiff, reduceCtorEq, Nat.reduceBEq, Nat.reduceAdd, Nat.reduceLeDiff]; rfl) ?_
  intro k hk
  by_cases hlt : k + 1 < l.length
  · simp (disch := first | assumption | omega | rfl | simp only [RH]) only [↓RP, RG, FX, RQ, ↓reduceIte, Nat.reduceEqDiff, reduceCtorEq, Nat.reduceBEq, Nat.reduceAdd, Nat.reduceLeDiff]
    exact ⟨k + 1, by omega, rfl, by omega⟩
  · simp (disch := first | assumption | omega | rfl | simp only [RH]) only [↓RP, RG, FX, RQ, ↓reduceIte, Nat.reduceEqDiff, reduceCtorEq, Nat.reduceBEq, Nat.reduceAdd, Nat.reduceLeDiff]
    rw [resVal_1 rfl]; simp (disch := first | assumption | omega | rfl | simp only [RH]) only [↓RP, RG, FX, RQ, ↓reduceIte, Nat.reduceEqDiff, reduceCtorEq, Nat.reduceBEq, Nat.reduceAdd, Nat.reduceLeDiff, RS]
    rw [show k = l.length - 1 by omega]
theorem max_c (b : Bool) (l : List Int) (h0 : 0 < l.length) (hl : l.length ≤ 1000000000000) : Contract Tryd.prog 59 [LA b l] (I (mxl l (l.length - 1))) := by
  refine Contract.intro (effS [] false) 6 follows Tryd.func59 rfl rfl (by kernel_rfl) (Nat.le_of_ble_eq_true rfl) ?_
  simp (disch := first | assumption | omega | rfl | simp only [RH]) only [↓RP, RG, FX, RQ, ↓reduceIte, Nat.reduceEqDiff, reduceCtorEq, Nat.reduceBEq, Nat.reduceAdd, Nat.reduceLeDiff, args0_1, Int.toNat_zero, List.drop_zero]
  refine loopK_I [0, 3, 4] (fun k : Nat => k + 1 ≤ l.length) (fun k : Nat => ⟨[(0, LA b l), (3, I (mxl l k)), (4, I ((k + 1 : Nat) : Int))], []⟩) (fun k => l.length - k) 0 (by omega) (by simp only [↓RP, RG, FX, RQ, ↓reduceIte, Nat.reduceEqDiff, reduceCtorEq, Nat.reduceBEq, Nat.reduceAdd, Nat.reduceLeDiff]; rfl) ?_
  intro k hk
  by_cases hlt : k + 1 < l.length
  · simp (disch := first | assumption | omega | rfl | simp only [RH]) only [↓RP, RG, FX, RQ, ↓reduceIte, Nat.reduceEqDiff, reduceCtorEq, Nat.reduceBEq, Nat.reduceAdd, Nat.reduceLeDiff]
    exact ⟨k + 1, by omega, rfl, by omega⟩
  · simp (disch := first | assumption | omega | rfl | simp only [RH]) only [↓RP, RG, FX, RQ, ↓reduceIte, Nat.reduceEqDiff, reduceCtorEq, Nat.reduceBEq, Nat.reduceAdd, Nat.reduceLeDiff]
    rw [resVal_1 rfl]; simp (disch := first | assumption | omega | rfl | simp only [RH]) only [↓RP, RG, FX, RQ, ↓reduceIte, Nat.reduceEqDiff, reduceCtorEq, Nat.reduceBEq, Nat.reduceAdd, Nat.reduceLeDiff, RS]
    rw [show k = l.length - 1 by omega]

/-- It has elements, all of them from 0 to n - 1. -/
def wIn (l : List Int) (n : Int) : Prop := 0 < l.length ∧ ∀ j, j < l.length → 0 ≤ l.getD j 0 ∧ l.getD j 0 < n
instance (l : List Int) (n : Int) : Decidable (wIn l n) := by unfold wIn; infer_instance

/-- A grid's cell. -/
def cell (w : Int) (l : List Bool) (x y : Int) : Bool := l.getD (y * w + x).toNat false

end Go.Proofs.YtbmcfkpljdchoaaDoor

/- Grids: compared, copied. -/
set_option linter.unusedSimpArgs false
set_option linter.unusedVariables false
set_option maxRecDepth 100000
namespace Go.Proofs.YtbmcfkpljdchoaaDoor
open Go Go.Proofs Go.AW

theorem sameR_c (w1 h1 w2 h2 : Int) (b1 b2 : Bool) (l m : List Bool) (hl : l.length ≤ 9223372036854775807) : Contract Tryd.prog 18 [GA w1 h1 b1 l, GA w2 h2 b2 m] (B (decide (w1 = w2 ∧ h1 = h2 ∧ l = m))) := by
  refine Contract.intro (effS [] false) 6 follows Tryd.func18 rfl rfl (by kernel_rfl) (Nat.le_of_ble_eq_true rfl) ?_
  by_cases c1 : w1 = w2
  rotate_left
  · simp (disch := first | assumption | omega | rfl | simp only [RH]) only [↓RP, RG, FX, RQ, ↓reduceIte, Nat.reduceEqDiff, reduceCtorEq, Nat.reduceBEq, Nat.reduceAdd, Nat.reduceLeDiff, args0_2]
    rw [resVal_1 rfl]; simp (disch := first | assumption | omega | rfl | simp only [RH]) only [↓RP, RG, FX, RQ, ↓reduceIte, Nat.reduceEqDiff, reduceCtorEq, Nat.reduceBEq, Nat.reduceAdd, Nat.reduceLeDiff, RS]
    first | done | exact okF (fun h => c1 h.1)
  by_cases c2 : h1 = h2
  rotate_left
  · simp (disch := first | assumption | omega | rfl | simp only [RH]) only [↓RP, RG, FX, RQ, ↓reduceIte, Nat.reduceEqDiff, reduceCtorEq, Nat.reduceBEq, Nat.reduceAdd, Nat.reduceLeDiff, args0_2]
    rw [resVal_1 rfl]; simp (disch := first | assumption | omega | rfl | simp only [RH]) only [↓RP, RG, FX, RQ, ↓reduceIte, Nat.reduceEqDiff, reduceCtorEq, Nat.reduceBEq, Nat.reduceAdd, Nat.reduceLeDiff, RS]
    first | done | exact okF (fun h => c2 h.2.1)
  by_cases hlen : l.length = m.length
  rotate_left
  · simp (disch := first | assumption | omega | rfl | simp only [RH]) only [↓RP, RG, FX, RQ, ↓reduceIte, Nat.reduceEqDiff, reduceCtorEq, Nat.reduceBEq, Nat.reduceAdd, Nat.reduceLeDiff, args0_2]
    rw [resVal_1 rfl]; simp (disch := first | assumption | omega | rfl | simp only [RH]) only [↓RP, RG, FX, RQ, ↓reduceIte, Nat.reduceEqDiff, reduceCtorEq, Nat.reduceBEq, Nat.reduceAdd, Nat.reduceLeDiff, RS]
    first | done | exact okF (fun h => hlen (by rw [h.2.2]))
  simp (disch := first | assumption | omega | rfl | simp only [RH]) only [↓RP, RG, FX, RQ, ↓reduceIte, Nat.reduceEqDiff, reduceCtorEq, Nat.reduceBEq, Nat.reduceAdd, Nat.reduceLeDiff, args0_2]
  refine loopK_I [2, 3, 5] (fun k : Nat => k ≤ l.length ∧ l.take k = m.take k) (fun k : Nat => ⟨[(2, .ptr 0 0 3), (3, .ptr 1 0 3), (5, I k)], [⟨24, 3, [I w1, I h1, BA b1 l]⟩, ⟨24, 3, [I w2, I h2, BA b2 m]⟩]⟩) (fun k => l.length - k) 0 (by simp) (by simp only [↓RP, RG, FX, RQ, ↓reduceIte, Nat.reduceEqDiff, reduceCtorEq, Nat.reduceBEq, Nat.reduceAdd, Nat.reduceLeDiff]; rfl) ?_
  rintro k ⟨hk, htk⟩
  by_cases hlt : k < l.length
  · by_cases he : l.getD k false = m.getD k false
    · simp (disch := first | assumption | omega | rfl | simp only [RH]) only [↓RP, RG, FX, RQ, ↓reduceIte, Nat.reduceEqDiff, reduceCtorEq, Nat.reduceBEq, Nat.reduceAdd, Nat.reduceLeDiff, he, beq_self_eq_true, Bool.not_true]
      refine ⟨k + 1, ⟨by omega, ?_⟩, rfl, by omega⟩
      rw [List.take_add_one, List.take_add_one, htk]
      simp [hlt, show k < m.length by omega] at he
      rw [List.getElem?_eq_getElem hlt, List.getElem?_eq_getElem (show k < m.length by omega), he]
    · simp (disch := first | assumption | omega | rfl | simp only [RH]) only [↓RP, RG, FX, RQ, ↓reduceIte, Nat.reduceEqDiff, reduceCtorEq, Nat.reduceBEq, Nat.reduceAdd, Nat.reduceLeDiff, bneq he]
      rw [resVal_1 rfl]; simp (disch := first | assumption | omega | rfl | simp only [RH]) only [↓RP, RG, FX, RQ, ↓reduceIte, Nat.reduceEqDiff, reduceCtorEq, Nat.reduceBEq, Nat.reduceAdd, Nat.reduceLeDiff, RS]
      refine okF ?_
      rintro ⟨_, _, rfl⟩; exact he rfl
  · simp (disch := first | assumption | omega | rfl | simp only [RH]) only [↓RP, RG, FX, RQ, ↓reduceIte, Nat.reduceEqDiff, reduceCtorEq, Nat.reduceBEq, Nat.reduceAdd, Nat.reduceLeDiff]
    rw [resVal_1 rfl]; simp (disch := first | assumption | omega | rfl | simp only [RH]) only [↓RP, RG, FX, RQ, ↓reduceIte, Nat.reduceEqDiff, reduceCtorEq, Nat.reduceBEq, Nat.reduceAdd, Nat.reduceLeDiff, RS]
    refine okT ⟨c1, c2, ?_⟩
    have hk' : k = l.length := by omega
    rw [hk', List.take_length] at htk
    rw [htk, hlen, List.take_length]

end Go.Proofs.YtbmcfkpljdchoaaDoor

/- Drafts: their checks. -/
set_option linter.unusedSimpArgs false
set_option linter.unusedVariables false
set_option maxRecDepth 100000
namespace Go.Proofs.YtbmcfkpljdchoaaDoor
open Go Go.Proofs Go.AW

abbrev DA (s t : Int) (b1 : Bool) (th : List Int) (b2 : Bool) (td : List Int) (w h : Int) (b3 : Bool) (l : List Bool) : AVal := .agg [I s, I t, LA b1 th, LA b2 td, I w, I h, BA b3 l]
abbrev DR (s t : Int) (b1 : Bool) (th : List Int) (b2 : Bool) (td : List Int) (w h : Int) (b3 : Bool) (l : List Bool) : AVal := .agg [I s, I t, LR b1 th, LR b2 td, I w, I h, BR b3 l]

theorem withinP_c (b : Bool) (l : List Int) (n : Int) (hl : l.length ≤ 1000000000000) : Contract Tryd.prog 51 [LA b l, I n] (B (decide (wIn l n))) := by
  refine Contract.intro (effS [] false) 6 follows Tryd.func51 rfl rfl (by kernel_rfl) (Nat.le_of_ble_eq_true rfl) ?_
  by_cases h0 : 0 < l.length
  rotate_left
  · simp (disch := first | assumption | omega | rfl | simp only [RH]) only [↓RP, RG, FX, RQ, ↓reduceIte, Nat.reduceEqDiff, reduceCtorEq, Nat.reduceBEq, Nat.reduceAdd, Nat.reduceLeDiff, args0_2]
    rw [resVal_1 rfl]; simp (disch := first | assumption | omega | rfl | simp only [RH]) only [↓RP, RG, FX, RQ, ↓reduceIte, Nat.reduceEqDiff, reduceCtorEq, Nat.reduceBEq, Nat.reduceAdd, Nat.reduceLeDiff, RS]
    first | done | exact okF (fun h => h0 h.1)
  simp (disch := first | assumption | omega | rfl | simp only [RH]) only [↓RP, RG, FX, RQ, ↓reduceIte, Nat.reduceEqDiff, reduceCtorEq, Nat.reduceBEq, Nat.reduceAdd, Nat.reduceLeDiff, args0_2]
  refine callK_F 6 (min_c b l h0 hl) (by simp (disch := first | assumption | omega | rfl | simp only [RH]) only [↓RP, RG, FX, RQ, ↓reduceIte, Nat.reduceEqDiff, reduceCtorEq, Nat.reduceBEq, Nat.reduceAdd, Nat.reduceLeDiff, RA] <;> rfl) (.inl (by simp [allFresh, ints_fresh, bools_fresh])) ?_
  obtain ⟨j, j1, j2⟩ := mnl_mem l (l.length - 1)
  by_cases h1 : 0 ≤ mnl l (l.length - 1)
  rotate_left
  · simp (disch := first | assumption | omega | rfl | simp only [RH]) only [↓RP, RG, FX, RQ, ↓reduceIte, Nat.reduceEqDiff, reduceCtorEq, Nat.reduceBEq, Nat.reduceAdd, Nat.reduceLeDiff]
    rw [resVal_1 rfl]; simp (disch := first | assumption | omega | rfl | simp only [RH]) only [↓RP, RG, FX, RQ, ↓reduceIte, Nat.reduceEqDiff, reduceCtorEq, Nat.reduceBEq, Nat.reduceAdd, Nat.reduceLeDiff, RS]
    first | done | exact okF (fun h => by have := h.2 j (by omega); omega)
  simp (disch := first | assumption | omega | rfl | simp only [RH]) only [↓RP, RG, FX, RQ, ↓reduceIte, Nat.reduceEqDiff, reduceCtorEq, Nat.reduceBEq, Nat.reduceAdd, Nat.reduceLeDiff]
  refine callK_F 6 (max_c b l h0 hl) (by simp (disch := first | assumption | omega | rfl | simp only [RH]) only [↓RP, RG, FX, RQ, ↓reduceIte, Nat.reduceEqDiff, reduceCtorEq, Nat.reduceBEq, Nat.reduceAdd, Nat.reduceLeDiff, RA] <;> rfl) (.inl (by simp [allFresh, ints_fresh, bools_fresh])) ?_
  obtain ⟨i, i1, i2⟩ := mxl_mem l (l.length - 1)
  by_cases h2 : mxl l (l.length - 1) < n
  · simp (disch := first | assumption | omega | rfl | simp only [RH]) only [↓RP, RG, FX, RQ, ↓reduceIte, Nat.reduceEqDiff, reduceCtorEq, Nat.reduceBEq, Nat.reduceAdd, Nat.reduceLeDiff]
    rw [resVal_1 rfl]; simp (disch := first | assumption | omega | rfl | simp only [RH]) only [↓RP, RG, FX, RQ, ↓reduceIte, Nat.reduceEqDiff, reduceCtorEq, Nat.reduceBEq, Nat.reduceAdd, Nat.reduceLeDiff, RS]
    refine okT ⟨h0, fun k hk => ?_⟩
    have := mnl_le l (l.length - 1) k (by omega)
    have := le_mxl l (l.length - 1) k (by omega)
    omega
  · simp (disch := first | assumption | omega | rfl | simp only [RH]) only [↓RP, RG, FX, RQ, ↓reduceIte, Nat.reduceEqDiff, reduceCtorEq, Nat.reduceBEq, Nat.reduceAdd, Nat.reduceLeDiff]
    rw [resVal_1 rfl]; simp (disch := first | assumption | omega | rfl | simp only [RH]) only [↓RP, RG, FX, RQ, ↓reduceIte, Nat.reduceEqDiff, reduceCtorEq, Nat.reduceBEq, Nat.reduceAdd, Nat.reduceLeDiff, RS]
    first | done | exact okF (fun h => by have := h.2 i (by omega); omega)

/-- The error of a draft. -/
def dOk (s t : Int) (th td : List Int) (w h : Int) (n : Int) : Prop := s ≤ 40 ∧ t ≤ 40 ∧ (th.length : Int) ≤ 64 ∧ (td.length : Int) ≤ 64 ∧ wIn th s ∧ wIn td t ∧ gOk w h n ∧ w = t ∧ h = s
def dchk (s t : Int) (th td : List Int) (w h : Int) (n : Int) : Int := if 40 < s ∨ 40 < t ∨ 64 < (th.length : Int) ∨ 64 < (td.length : Int) then 4 else if wIn th s ∧ wIn td t ∧ gchk w h n = 0 ∧ w = t ∧ h = s then 0 else 8
theorem dchk_ok {s t : Int} {th td : List Int} {w h n : Int} (hd : dOk s t th td w h n) : dchk s t th td w h n = 0 := by
  obtain ⟨h1, h2, h3, h4, h5, h6, h7, h8, h9⟩ := hd
  unfold dchk
  rw [if_neg (by omega), if_pos ⟨h5, h6, gchk_ok h7, h8, h9⟩]
theorem dcheckP_c (s t : Int) (b1 : Bool) (th : List Int) (b2 : Bool) (td : List Int) (w h : Int) (b3 : Bool) (l : List Bool) (hl1 : th.length ≤ 1000000000000) (hl2 : td.length ≤ 1000000000000) :
    Contract Tryd.prog 36 [DA s t b1 th b2 td w h b3 l] (I (dchk s t th td w h l.length)) := by
  unfold dchk
  refine Contract.intro (effS [] false) 6 follows Tryd.func36 rfl rfl (by kernel_rfl) (Nat.le_of_ble_eq_true rfl) ?_
  by_cases c1 : 40 < s
  · rw [if_pos (by omega)]
    simp (disch := first | assumption | omega | rfl | simp only [RH]) only [↓RP, RG, FX, RQ, ↓reduceIte, Nat.reduceEqDiff, reduceCtorEq, Nat.reduceBEq, Nat.reduceAdd, Nat.reduceLeDiff, args0_1]
    rw [resVal_1 rfl]; simp (disch := first | assumption | omega | rfl | simp only [RH]) only [↓RP, RG, FX, RQ, ↓reduceIte, Nat.reduceEqDiff, reduceCtorEq, Nat.reduceBEq, Nat.reduceAdd, Nat.reduceLeDiff, RS]
  by_cases c2 : 40 < t
  · rw [if_pos (by omega)]
    simp (disch := first | assumption | omega | rfl | simp only [RH]) only [↓RP, RG, FX, RQ, ↓reduceIte, Nat.reduceEqDiff, reduceCtorEq, Nat.reduceBEq, Nat.reduceAdd, Nat.reduceLeDiff, args0_1]
    rw [resVal_1 rfl]; simp (disch := first | assumption | omega | rfl | simp only [RH]) only [↓RP, RG, FX, RQ, ↓reduceIte, Nat.reduceEqDiff, reduceCtorEq, Nat.reduceBEq, Nat.reduceAdd, Nat.reduceLeDiff, RS]
  by_cases c3 : 64 < max (th.length : Int) (td.length : Int)
  · rw [if_pos (by omega)]
    simp (disch := first | assumption | omega | rfl | simp only [RH]) only [↓RP, RG, FX, RQ, ↓reduceIte, Nat.reduceEqDiff, reduceCtorEq, Nat.reduceBEq, Nat.reduceAdd, Nat.reduceLeDiff, args0_1]
    rw [resVal_1 rfl]; simp (disch := first | assumption | omega | rfl | simp only [RH]) only [↓RP, RG, FX, RQ, ↓reduceIte, Nat.reduceEqDiff, reduceCtorEq, Nat.reduceBEq, Nat.reduceAdd, Nat.reduceLeDiff, RS]
  rw [if_neg (by omega)]
  simp (disch := first | assumption | omega | rfl | simp only [RH]) only [↓RP, RG, FX, RQ, ↓reduceIte, Nat.reduceEqDiff, reduceCtorEq, Nat.reduceBEq, Nat.reduceAdd, Nat.reduceLeDiff, args0_1]
  refine callK_F 6 (withinP_c b1 th s hl1) (by simp (disch := first | assumption | omega | rfl | simp only [RH]) only [↓RP, RG, FX, RQ, ↓reduceIte, Nat.reduceEqDiff, reduceCtorEq, Nat.reduceBEq, Nat.reduceAdd, Nat.reduceLeDiff, RA] <;> rfl) (.inl (by simp [allFresh, ints_fresh, bools_fresh])) ?_
  by_cases c4 : wIn th s
  rotate_left
  · rw [if_neg (fun hc => c4 hc.1)]
    simp (disch := first | assumption | omega | rfl | simp only [RH]) only [↓RP, RG, FX, RQ, ↓reduceIte, Nat.reduceEqDiff, reduceCtorEq, Nat.reduceBEq, Nat.reduceAdd, Nat.reduceLeDiff]
    rw [resVal_1 rfl]; simp (disch := first | assumption | omega | rfl | simp only [RH]) only [↓RP, RG, FX, RQ, ↓reduceIte, Nat.reduceEqDiff, reduceCtorEq, Nat.reduceBEq, Nat.reduceAdd, Nat.reduceLeDiff, RS]
  simp (disch := first | assumption | omega | rfl | simp only [RH]) only [↓RP, RG, FX, RQ, ↓reduceIte, Nat.reduceEqDiff, reduceCtorEq, Nat.reduceBEq, Nat.reduceAdd, Nat.reduceLeDiff]
  refine callK_F 6 (withinP_c b2 td t hl2) (by simp (disch := first | assumption | omega | rfl | simp only [RH]) only [↓RP, RG, FX, RQ, ↓reduceIte, Nat.reduceEqDiff, reduceCtorEq, Nat.reduceBEq, Nat.reduceAdd, Nat.reduceLeDiff, RA] <;> rfl) (.inl (by simp [allFresh, ints_fresh, bools_fresh])) ?_
  by_cases c5 : wIn td t
  rotate_left
  · rw [if_neg (fun hc => c5 hc.2.1)]
    simp (disch := first | assumption | omega | rfl | simp only [RH]) only [↓RP, RG, FX, RQ, ↓reduceIte, Nat.reduceEqDiff, reduceCtorEq, Nat.reduceBEq, Nat.reduceAdd, Nat.reduceLeDiff]
    rw [resVal_1 rfl]; simp (disch := first | assumption | omega | rfl | simp only [RH]) only [↓RP, RG, FX, RQ, ↓reduceIte, Nat.reduceEqDiff, reduceCtorEq, Nat.reduceBEq, Nat.reduceAdd, Nat.reduceLeDiff, RS]
  simp (disch := first | assumption | omega | rfl | simp only [RH]) only [↓RP, RG, FX, RQ, ↓reduceIte, Nat.reduceEqDiff, reduceCtorEq, Nat.reduceBEq, Nat.reduceAdd, Nat.reduceLeDiff]
  refine callK_F 6 (gcheckP_c w h b3 l) (by simp (disch := first | assumption | omega | rfl | simp only [RH]) only [↓RP, RG, FX, RQ, ↓reduceIte, Nat.reduceEqDiff, reduceCtorEq, Nat.reduceBEq, Nat.reduceAdd, Nat.reduceLeDiff, RA] <;> rfl) (.inl (by simp [allFresh, ints_fresh, bools_fresh])) ?_
  by_cases c6 : gchk w h l.length = 0
  rotate_left
  · rw [if_neg (fun hc => c6 hc.2.2.1)]
    simp (disch := first | assumption | omega | rfl | simp only [RH]) only [↓RP, RG, FX, RQ, ↓reduceIte, Nat.reduceEqDiff, reduceCtorEq, Nat.reduceBEq, Nat.reduceAdd, Nat.reduceLeDiff]
    rw [resVal_1 rfl]; simp (disch := first | assumption | omega | rfl | simp only [RH]) only [↓RP, RG, FX, RQ, ↓reduceIte, Nat.reduceEqDiff, reduceCtorEq, Nat.reduceBEq, Nat.reduceAdd, Nat.reduceLeDiff, RS]
  by_cases c7 : w = t
  rotate_left
  · rw [if_neg (fun hc => c7 hc.2.2.2.1)]
    simp (disch := first | assumption | omega | rfl | simp only [RH]) only [↓RP, RG, FX, RQ, ↓reduceIte, Nat.reduceEqDiff, reduceCtorEq, Nat.reduceBEq, Nat.reduceAdd, Nat.reduceLeDiff]
    rw [resVal_1 rfl]; simp (disch := first | assumption | omega | rfl | simp only [RH]) only [↓RP, RG, FX, RQ, ↓reduceIte, Nat.reduceEqDiff, reduceCtorEq, Nat.reduceBEq, Nat.reduceAdd, Nat.reduceLeDiff, RS]
  by_cases c8 : h = s
  · rw [if_pos ⟨c4, c5, c6, c7, c8⟩]
    simp (disch := first | assumption | omega | rfl | simp only [RH]) only [↓RP, RG, FX, RQ, ↓reduceIte, Nat.reduceEqDiff, reduceCtorEq, Nat.reduceBEq, Nat.reduceAdd, Nat.reduceLeDiff]
    rw [resVal_1 rfl]; simp (disch := first | assumption | omega | rfl | simp only [RH]) only [↓RP, RG, FX, RQ, ↓reduceIte, Nat.reduceEqDiff, reduceCtorEq, Nat.reduceBEq, Nat.reduceAdd, Nat.reduceLeDiff, RS]
  · rw [if_neg (fun hc => c8 hc.2.2.2.2)]
    simp (disch := first | assumption | omega | rfl | simp only [RH]) only [↓RP, RG, FX, RQ, ↓reduceIte, Nat.reduceEqDiff, reduceCtorEq, Nat.reduceBEq, Nat.reduceAdd, Nat.reduceLeDiff]
    rw [resVal_1 rfl]; simp (disch := first | assumption | omega | rfl | simp only [RH]) only [↓RP, RG, FX, RQ, ↓reduceIte, Nat.reduceEqDiff, reduceCtorEq, Nat.reduceBEq, Nat.reduceAdd, Nat.reduceLeDiff, RS]

end Go.Proofs.YtbmcfkpljdchoaaDoor

/- Drafts: tables, drawdowns, lifts. -/
set_option linter.unusedSimpArgs false
set_option linter.unusedVariables false
set_option maxRecDepth 100000
namespace Go.Proofs.YtbmcfkpljdchoaaDoor
open Go Go.Proofs Go.AW

/-- The first n cells of a table of W columns. -/
def tabN (W : Nat) (u : Nat → Nat → Bool) (n : Nat) : List Bool := (List.range n).map fun i => u (i % W) (i / W)
theorem tabN_len (W : Nat) (u : Nat → Nat → Bool) (n : Nat) : (tabN W u n).length = n := by simp [tabN]
theorem tabN_succ (W : Nat) (u : Nat → Nat → Bool) {y x : Nat} (hx : x < W) : tabN W u (W * y + x + 1) = tabN W u (W * y + x) ++ [u x y] := by
  have e1 : (W * y + x) % W = x := by rw [Nat.mul_add_mod]; exact Nat.mod_eq_of_lt hx
  have e2 : (W * y + x) / W = y := by rw [Nat.mul_add_div (by omega), Nat.div_eq_of_lt hx, Nat.add_zero]
  simp only [tabN, List.range_succ, List.map_append, List.map_cons, List.map_nil, e1, e2]
theorem tabN_get (W : Nat) (u : Nat → Nat → Bool) {n y x : Nat} (hx : x < W) (hn : W * y + x < n) : (tabN W u n).getD (W * y + x) false = u x y := by
  have e1 : (W * y + x) % W = x := by rw [Nat.mul_add_mod]; exact Nat.mod_eq_of_lt hx
  have e2 : (W * y + x) / W = y := by rw [Nat.mul_add_div (by omega), Nat.div_eq_of_lt hx, Nat.add_zero]
  simp [tabN, List.getD_eq_getElem?_getD, List.getElem?_range hn, e1, e2]
theorem tabN_congr {W : Nat} {u v : Nat → Nat → Bool} {H : Nat} (h : ∀ x y, x < W → y < H → u x y = v x y) : tabN W u (W * H) = tabN W v (W * H) := by
  apply List.map_congr_left
  intro i hi
  have hi' : i < W * H := by simpa using hi
  have hW : 0 < W := by
    rcases Nat.eq_zero_or_pos W with h0 | h0
    · subst h0; simp at hi'
    · exact h0
  exact h _ _ (Nat.mod_lt _ hW) (Nat.div_lt_of_lt_mul hi')
theorem bools_isEmpty (l : List Bool) : (bools l).isEmpty = l.isEmpty := by cases l <;> rfl
theorem ints_isEmpty (l : List Int) : (ints l).isEmpty = l.isEmpty := by cases l <;> rfl

end Go.Proofs.YtbmcfkpljdchoaaDoor

/- Drafts: drawdowns and lifts, of the program and the reference. -/
set_option linter.unusedSimpArgs false
set_option linter.unusedVariables false
set_option maxRecDepth 100000
namespace Go.Proofs.YtbmcfkpljdchoaaDoor
open Go Go.Proofs Go.AW

theorem idx_nat (W y x : Nat) : ((y : Int) * (W : Int) + (x : Int)).toNat = W * y + x := by
  rw [← Int.natCast_mul, ← Int.natCast_add, Int.toNat_natCast, Nat.mul_comm]
theorem mul_bd {W H : Nat} (hw : W ≤ 10000) (hh : H ≤ 10000) : 0 ≤ (W : Int) * (H : Int) ∧ (W : Int) * (H : Int) ≤ 100000000 := by
  have h1 : W * H ≤ 10000 * 10000 := Nat.mul_le_mul hw hh
  rw [← Int.natCast_mul]; omega
theorem idx_lt {W H x y : Nat} (hx : x < W) (hy : y < H) : W * y + x < W * H := by
  have : W * (y + 1) ≤ W * H := Nat.mul_le_mul_left W hy
  rw [Nat.mul_succ] at this; omega

end Go.Proofs.YtbmcfkpljdchoaaDoor

/- Kinds: numbered by first occurrence. Plain. -/
set_option linter.unusedSimpArgs false
set_option linter.unusedVariables false
namespace Go.Proofs.YtbmcfkpljdchoaaDoor

section
variable {α : Type} [DecidableEq α] {β : Type} [DecidableEq β]

/-- The place of y's like among fs, or their number. -/
def plc (r : Nat → α) (fs : List Nat) (y : Nat) : Nat := fs.findIdx fun f => decide (r f = r y)
/-- Kinds and firsts of the first n. -/
def knd (r : Nat → α) : Nat → List Nat × List Nat
  | 0 => ([], [])
  | n + 1 => ((knd r n).1 ++ [plc r (knd r n).2 n], if plc r (knd r n).2 n = (knd r n).2.length then (knd r n).2 ++ [n] else (knd r n).2)
theorem knd_len (r : Nat → α) (n : Nat) : (knd r n).1.length = n := by
  induction n with
  | zero => rfl
  | succ n ih => simp [knd, ih]
theorem knd_le (r : Nat → α) (n : Nat) : (knd r n).2.length ≤ n := by
  induction n with
  | zero => exact Nat.le_refl _
  | succ n ih =>
    simp only [knd]
    split
    · simp only [List.length_append, List.length_singleton]; omega
    · omega
theorem knd_first (r : Nat → α) (n : Nat) : ∀ f ∈ (knd r n).2, f < n := by
  induction n with
  | zero => intro f hf; simp [knd] at hf
  | succ n ih =>
    intro f hf
    simp only [knd] at hf
    split at hf
    · rcases List.mem_append.1 hf with h | h
      · have := ih f h; omega
      · simp at h; omega
    · have := ih f hf; omega
theorem plc_le (r : Nat → α) (fs : List Nat) (y : Nat) : plc r fs y ≤ fs.length := List.findIdx_le_length
theorem plc_eq (r : Nat → α) {fs : List Nat} {y k : Nat} (hk : k ≤ fs.length) (h1 : ∀ j, j < k → r (fs.getD j 0) ≠ r y) (h2 : k < fs.length → r (fs.getD k 0) = r y) : plc r fs y = k := by
  unfold plc
  rcases Nat.lt_or_ge k fs.length with hlt | hge
  · rw [List.findIdx_eq hlt]
    refine ⟨by have := h2 hlt; simp [List.getD_eq_getElem?_getD, hlt] at this; simp [this], fun j hj => ?_⟩
    have := h1 j hj
    simp [List.getD_eq_getElem?_getD, show j < fs.length by omega] at this
    simpa using this
  · obtain rfl : k = fs.length := by omega
    rw [List.findIdx_eq_length]
    intro x hx
    obtain ⟨j, hj, rfl⟩ := List.getElem_of_mem hx
    have := h1 j hj
    simp [List.getD_eq_getElem?_getD, hj] at this
    simpa using this
theorem plc_at (r : Nat → α) {fs : List Nat} {y : Nat} (h : plc r fs y < fs.length) : r (fs.getD (plc r fs y) 0) = r y := by
  unfold plc at h ⊢
  have h1 := List.findIdx_getElem (w := h)
  simpa [List.getD_eq_getElem?_getD, h] using h1
theorem plc_ne (r : Nat → α) {fs : List Nat} {y j : Nat} (hj : j < plc r fs y) : r (fs.getD j 0) ≠ r y := by
  have hl := plc_le r fs y
  unfold plc at hj
  have h1 := List.not_of_lt_findIdx hj
  have h2 : j < fs.length := by unfold plc at hl; omega
  simpa [List.getD_eq_getElem?_getD, h2] using h1

theorem getD_app {γ : Type} (l m : List γ) (j : Nat) (d : γ) : (l ++ m).getD j d = if j < l.length then l.getD j d else m.getD (j - l.length) d := by
  split
  · rename_i h; simp [List.getD_eq_getElem?_getD, List.getElem?_append_left h]
  · rename_i h
    have h' : l.length ≤ j := by omega
    simp [List.getD_eq_getElem?_getD, List.getElem?_append_right h']

/-- Each has the kind whose first is like it. -/
theorem knd_like (r : Nat → α) (n : Nat) : ∀ y, y < n → (knd r n).1.getD y 0 < (knd r n).2.length ∧ r ((knd r n).2.getD ((knd r n).1.getD y 0) 0) = r y := by
  induction n with
  | zero => intro y hy; omega
  | succ n ih =>
    intro y hy
    have hl := knd_len r n
    have hp := plc_le r (knd r n).2 n
    simp only [knd]
    rw [getD_app, hl]
    by_cases hyn : y < n
    · rw [if_pos hyn]
      obtain ⟨h1, h2⟩ := ih y hyn
      split
      · rw [getD_app, if_pos h1]
        exact ⟨by simp only [List.length_append, List.length_singleton]; omega, h2⟩
      · exact ⟨h1, h2⟩
    · obtain rfl : y = n := by omega
      rw [if_neg hyn, Nat.sub_self]
      simp only [List.getD_cons_zero]
      split
      · rename_i he
        rw [getD_app, if_neg (by omega), he, Nat.sub_self]
        exact ⟨by simp, rfl⟩
      · rename_i he
        exact ⟨by omega, plc_at r (by omega)⟩

/-- Firsts are not alike. -/
theorem knd_diff (r : Nat → α) (n : Nat) : ∀ i j, i < j → j < (knd r n).2.length → r ((knd r n).2.getD i 0) ≠ r ((knd r n).2.getD j 0) := by
  induction n with
  | zero => intro i j _ hj; simp [knd] at hj
  | succ n ih =>
    intro i j hij hj
    simp only [knd] at hj ⊢
    split at hj
    · rename_i he
      rw [if_pos he]
      simp only [List.length_append, List.length_singleton] at hj
      rw [getD_app, getD_app, if_pos (by omega)]
      by_cases hjl : j < (knd r n).2.length
      · rw [if_pos hjl]; exact ih i j hij hjl
      · rw [if_neg hjl]
        obtain rfl : j = (knd r n).2.length := by omega
        rw [Nat.sub_self]
        simp only [List.getD_cons_zero]
        exact plc_ne r (by omega)
    · rename_i he
      rw [if_neg he]
      exact ih i j hij hj

/-- Of the same kind just if they are alike. -/
theorem knd_iff (r : Nat → α) (n : Nat) {a b : Nat} (ha : a < n) (hb : b < n) : (knd r n).1.getD a 0 = (knd r n).1.getD b 0 ↔ r a = r b := by
  obtain ⟨a1, a2⟩ := knd_like r n a ha
  obtain ⟨b1, b2⟩ := knd_like r n b hb
  constructor
  · intro h; rw [← a2, ← b2, h]
  · intro h
    rcases Nat.lt_trichotomy ((knd r n).1.getD a 0) ((knd r n).1.getD b 0) with h1 | h1 | h1
    · exact absurd (by rw [a2, b2, h]) (knd_diff r n _ _ h1 b1)
    · exact h1
    · exact absurd (by rw [a2, b2, h]) (knd_diff r n _ _ h1 a1)

/-- What is like an earlier one has its kind. -/
theorem knd_again (r : Nat → α) (n : Nat) {k : Nat} (hk : k < n) {y : Nat} (h : r k = r y) : plc r (knd r n).2 y = (knd r n).1.getD k 0 := by
  obtain ⟨h1, h2⟩ := knd_like r n k hk
  refine plc_eq r (by omega) (fun j hj => ?_) (fun _ => by rw [h2, h])
  rw [← h, ← h2]
  exact knd_diff r n _ _ hj h1
theorem knd_new (r : Nat → α) (n : Nat) {y : Nat} (h : ∀ j, j < n → r j ≠ r y) : plc r (knd r n).2 y = (knd r n).2.length := by
  refine plc_eq r (Nat.le_refl _) (fun j hj => ?_) (fun h => absurd h (by omega))
  exact h _ (knd_first r n _ (by rw [List.getD_eq_getElem?_getD, List.getElem?_eq_getElem hj]; exact List.getElem_mem hj))

/-- Kinds hang on what is alike alone. -/
theorem knd_congr (r : Nat → α) (r' : Nat → β) (n : Nat) (h : ∀ a b, a < n → b < n → (r a = r b ↔ r' a = r' b)) : knd r n = knd r' n := by
  induction n with
  | zero => rfl
  | succ n ih =>
    have e := ih fun a b ha hb => h a b (by omega) (by omega)
    have hp : plc r (knd r n).2 n = plc r' (knd r n).2 n := by
      unfold plc
      have hf := knd_first r n
      generalize (knd r n).2 = fs at hf
      induction fs with
      | nil => rfl
      | cons f fs ihf =>
        have h1 : decide (r f = r n) = decide (r' f = r' n) := by
          have := h f n (by have := hf f (by simp); omega) (by omega)
          simp only [this]
        rw [List.findIdx_cons, List.findIdx_cons, h1, ihf fun x hx => hf x (by simp [hx])]
    simp only [knd, ← e, hp]

end
end Go.Proofs.YtbmcfkpljdchoaaDoor

/- The kinds of rows. -/
set_option linter.unusedSimpArgs false
set_option linter.unusedVariables false
set_option maxRecDepth 100000
namespace Go.Proofs.YtbmcfkpljdchoaaDoor
open Go Go.Proofs Go.AW

/-- A row. -/
def rowN (W : Nat) (l : List Bool) (y : Nat) : List Bool := (List.range W).map fun x => l.getD (W * y + x) false
theorem rowN_eq {W : Nat} {l : List Bool} {a b : Nat} : rowN W l a = rowN W l b ↔ ∀ x, x < W → l.getD (W * a + x) false = l.getD (W * b + x) false := by
  constructor
  · intro h x hx
    have := congrArg (fun r : List Bool => r.getD x false) h
    simpa [rowN, List.getD_eq_getElem?_getD, List.getElem?_range hx] using this
  · intro h
    apply List.map_congr_left
    intro x hx
    exact h x (by simpa using hx)

end Go.Proofs.YtbmcfkpljdchoaaDoor

/- The kinds of rows, by the reference. -/
set_option linter.unusedSimpArgs false
set_option linter.unusedVariables false
set_option maxRecDepth 100000
namespace Go.Proofs.YtbmcfkpljdchoaaDoor
open Go Go.Proofs Go.AW

def nI (l : List Nat) : List Int := l.map fun n : Nat => (n : Int)
theorem nI_len (l : List Nat) : (nI l).length = l.length := by simp [nI]
theorem nI_app (l : List Nat) (n : Nat) : nI (l ++ [n]) = nI l ++ [(n : Int)] := by simp [nI]
theorem nI_get (l : List Nat) (k : Nat) : (nI l).getD k 0 = ((l.getD k 0 : Nat) : Int) := by
  simp only [nI, List.getD_eq_getElem?_getD, List.getElem?_map]
  cases l[k]? <;> rfl
end Go.Proofs.YtbmcfkpljdchoaaDoor

/- The rows of a grid, each in an array of 64 cells with its length. -/
set_option linter.unusedSimpArgs false
set_option linter.unusedVariables false
set_option maxRecDepth 100000
namespace Go.Proofs.YtbmcfkpljdchoaaDoor
open Go Go.Proofs Go.AW

/-- Cell i of the table of lines when y lines are in. -/
def lnZ (W : Nat) (l : List Bool) (y i : Nat) : AVal :=
  if i / 65 < y then (if i % 65 < 64 then B (decide (i % 65 < W) && l.getD (W * (i / 65) + i % 65) false) else I W) else (if i % 65 < 64 then B false else I 0)
def lnC (W H : Nat) (l : List Bool) (y : Nat) : List AVal := (List.range (H * 65)).map (lnZ W l y)
theorem lnC_len (W H : Nat) (l : List Bool) (y : Nat) : (lnC W H l y).length = H * 65 := by simp [lnC]
theorem lnC_res (h : List AObj) (n W H : Nat) (l : List Bool) (y : Nat) : (lnC W H l y).map (resOf h (n + 1)) = lnC W H l y := by
  simp only [lnC, List.map_map]
  refine List.map_congr_left fun i _ => ?_
  simp only [Function.comp, lnZ]
  split <;> split <;> rfl
/-- A row of bools and its length, as a line. -/
def padR (W : Nat) (l : List Bool) (y : Nat) : List Bool := (List.range 64).map fun i => decide (i < W) && l.getD (W * y + i) false
theorem padR_len (W : Nat) (l : List Bool) (y : Nat) : (padR W l y).length = 64 := by simp [padR]
def lineA (W : Nat) (l : List Bool) (y : Nat) : List AVal := bools (padR W l y) ++ [I W]
theorem lineA_len (W : Nat) (l : List Bool) (y : Nat) : (lineA W l y).length = 65 := by simp [lineA, bools_length, padR_len]
theorem lineA_get (W : Nat) (l : List Bool) (y : Nat) {i : Nat} (hi : i < (lineA W l y).length) : (lineA W l y)[i] = if i < 64 then B (decide (i < W) && l.getD (W * y + i) false) else I W := by
  have hl := lineA_len W l y
  simp only [lineA, List.getElem_append, bools_length, padR_len]
  split
  · simp [bools, padR]
  · simp
theorem lnC_line (W H : Nat) (l : List Bool) {y : Nat} (hy : y < H) : ((lnC W H l H).drop (y * 65)).take 65 = lineA W l y := by
  refine List.ext_getElem (by rw [List.length_take, List.length_drop, lnC_len, lineA_len]; omega) fun i h1 h2 => ?_
  have hi : i < 65 := by rw [lineA_len] at h2; exact h2
  rw [lineA_get, List.getElem_take, List.getElem_drop]
  simp only [lnC, List.getElem_map, List.getElem_range, lnZ]
  have e1 : (y * 65 + i) / 65 = y := by omega
  have e2 : (y * 65 + i) % 65 = i := by omega
  rw [e1, e2, if_pos hy]
theorem lnC_zero (W H : Nat) (l : List Bool) : (List.range (H * 65)).map (fun j => (bools (List.replicate 64 false) ++ [I 0]).getD (j % 65) .undef) = lnC W H l 0 := by
  refine List.map_congr_left fun j _ => ?_
  have hm : j % 65 < 65 := Nat.mod_lt _ (by omega)
  simp only [lnZ, Nat.not_lt_zero, if_false, List.getD_eq_getElem?_getD, List.getElem?_append, bools_length, List.length_replicate]
  split
  · rename_i h
    rw [bools, List.getElem?_map, List.getElem?_replicate, if_pos h]; rfl
  · rename_i h
    have : j % 65 - 64 = 0 := by omega
    simp [this]
theorem cA_lnC {t s W H y m : Nat} {l : List Bool} (hm : m = H * 65) : cA (some ⟨t, s, lnC W H l y⟩) m = some (lnC W H l y) := by
  subst hm; simp [cA, lnC_len]
theorem cA_lenW {t s n : Nat} {cs : List AVal} (hn : cs.length = n) : cA (some ⟨t, s, cs⟩) n = some cs := by simp [cA, hn]
theorem lnC_step {W H : Nat} (hW1 : 1 ≤ W) (hW : W ≤ 64) {l : List Bool} (hn : l.length = W * H) {y : Nat} (hy : y < H) :
    splice (splice (lnC W H l y) (y * 65) (bools ((l.drop (W * y)).take W))) (y * 65 + 64) [I W] = lnC W H l (y + 1) := by
  have hin : W * y + W ≤ W * H := by rw [← Nat.mul_succ]; exact Nat.mul_le_mul_left _ hy
  have hl1 : (bools ((l.drop (W * y)).take W)).length = W := by rw [bools_length, List.length_take, List.length_drop]; omega
  have hc1 : y * 65 + (bools ((l.drop (W * y)).take W)).length ≤ (lnC W H l y).length := by rw [hl1, lnC_len]; omega
  have hs1 := splice_length _ _ _ hc1
  have hc2 : y * 65 + 64 + [I W].length ≤ (splice (lnC W H l y) (y * 65) (bools ((l.drop (W * y)).take W))).length := by rw [hs1, lnC_len]; simp; omega
  refine List.ext_getElem (by rw [splice_length _ _ _ hc2, hs1, lnC_len, lnC_len]) fun i h1 h2 => ?_
  have hi : i < H * 65 := by rw [lnC_len] at h2; exact h2
  rw [splice_get _ _ _ hc2 i h1]
  have hR : (lnC W H l (y + 1))[i] = lnZ W l (y + 1) i := by simp [lnC]
  rw [hR]
  by_cases c1 : i = y * 65 + 64
  · rw [dif_pos (by simp; omega)]
    subst c1
    have e1 : (y * 65 + 64) / 65 = y := by omega
    have e2 : (y * 65 + 64) % 65 = 64 := by omega
    simp [lnZ, e1, e2]
  · rw [dif_neg (by simp; omega), splice_get _ _ _ hc1 i (by rw [hs1, lnC_len]; exact hi)]
    by_cases c2 : y * 65 ≤ i ∧ i < y * 65 + W
    · rw [dif_pos (by rw [hl1]; exact c2)]
      have e1 : i / 65 = y := by omega
      have e2 : i % 65 = i - y * 65 := by omega
      have e3 : W * y + (i - y * 65) < l.length := by omega
      have e4 : i - y * 65 < W := by omega
      have e5 : i - y * 65 < 64 := by omega
      simp [lnZ, e1, e2, bools, List.getD_eq_getElem?_getD, e3, e4, e5]
    · rw [dif_neg (by rw [hl1]; exact c2)]
      simp only [lnC, List.getElem_map, List.getElem_range, lnZ]
      by_cases c3 : i / 65 < y
      · have c4 : i / 65 < y + 1 := by omega
        rw [if_pos c3, if_pos c4]
      · rw [if_neg c3]
        by_cases c4 : i / 65 = y
        · rw [if_pos (show i / 65 < y + 1 by omega), c4]
          have e2 : i % 65 < 64 := by omega
          have e3 : ¬ i % 65 < W := by omega
          simp [e2, e3]
        · have c5 : ¬ i / 65 < y + 1 := by omega
          rw [if_neg c5]
theorem lines_c {W H : Nat} (hW1 : 1 ≤ W) (hW : W ≤ 64) (hH1 : 1 ≤ H) (hH : H ≤ 64) (b : Bool) {l : List Bool} (hn : l.length = W * H) :
    Contract Tryd.prog 52 [GA W H b l] (.list true false H (lnC W H l H)) := by
  refine Contract.intro (effS [] false) 6 follows Tryd.func52 rfl rfl (by kernel_rfl) (Nat.le_of_ble_eq_true rfl) ?_
  simp (disch := first | assumption | omega | rfl | simp only [RH]) only [↓RP, RG, FX, RQ, ↓reduceIte, Nat.reduceEqDiff, reduceCtorEq, Nat.reduceBEq, Nat.reduceAdd, Nat.reduceLeDiff, args0_1, make_W zc88, lnC_zero W H l, cA_lnC]
  refine loopK_I [1, 3, 9, 10] (fun y : Nat => y ≤ H) (fun y : Nat => ⟨[(1, .ptr 0 0 3), (3, .ref 1 0 H (H * 65)), (9, I H), (10, I y)], [⟨24, 3, [I W, I H, BA b l]⟩, ⟨88, 65, lnC W H l y⟩]⟩) (fun y => H - y) 0 (by omega) (by simp only [↓RP, RG, FX, RQ, ↓reduceIte, Nat.reduceEqDiff, reduceCtorEq, Nat.reduceBEq, Nat.reduceAdd, Nat.reduceLeDiff]; rfl) ?_
  intro y hy
  by_cases hlt : y < H
  · have hin : W * y + W ≤ W * H := by rw [← Nat.mul_succ]; exact Nat.mul_le_mul_left _ hlt
    have hWH : W * H ≤ 64 * 64 := Nat.mul_le_mul hW hH
    have m1 : (y : Int) * W = ((W * y : Nat) : Int) := by rw [Nat.mul_comm]; simp
    have m2 : ((y : Int) + 1) * W = ((W * y + W : Nat) : Int) := by rw [Int.add_mul, m1]; simp
    have hl1 : ((l.drop (W * y)).take W).length = W := by rw [List.length_take, List.length_drop]; omega
    have hst := lnC_step hW1 hW hn hlt
    have e1 : (((W * y + W : Nat) : Int) - ((W * y : Nat) : Int)).toNat = W := by omega
    simp (disch := first | assumption | omega | rfl | simp only [RH]) only [↓RP, RG, FX, RQ, ↓reduceIte, Nat.reduceEqDiff, reduceCtorEq, Nat.reduceBEq, Nat.reduceAdd, Nat.reduceLeDiff, idxW_ref, cA_lnC, slF_ptr, slice_arr, m1, m2, slice_lohi, e1, Int.toNat_natCast]
    rw [opK_copy]
    simp (disch := first | assumption | omega | rfl | simp only [RH]) only [↓RP, RG, FX, RQ, ↓reduceIte, Nat.reduceEqDiff, reduceCtorEq, Nat.reduceBEq, Nat.reduceAdd, Nat.reduceLeDiff]
    rw [copy_part (S := S22) (ty := 88) (es := 65) (cells := lnC W H l y) (l := (l.drop (W * y)).take W) rfl rfl hl1.symm hW (by omega) (by decide) (lnC_len W H l y) (by omega)]
    have hc1 : y * 65 + (bools ((l.drop (W * y)).take W)).length ≤ (lnC W H l y).length := by rw [bools_length, hl1, lnC_len]; omega
    have hs1 := splice_length _ _ _ hc1
    rw [lnC_len] at hs1
    generalize splice (lnC W H l y) (y * 65) (bools ((l.drop (W * y)).take W)) = mid at *
    have e2 : y * 65 + 64 < H * 65 := by omega
    simp (disch := first | assumption | omega | rfl | simp only [RH]) only [↓RP, RG, FX, RQ, ↓reduceIte, Nat.reduceEqDiff, reduceCtorEq, Nat.reduceBEq, Nat.reduceAdd, Nat.reduceLeDiff, idxW_ref, cA_lenW]
    rw [sX_mk (by decide), if_pos ⟨hs1, rfl, by simp; omega, rfl⟩, hst]
    simp (disch := first | assumption | omega | rfl | simp only [RH]) only [↓RP, RG, FX, RQ, ↓reduceIte, Nat.reduceEqDiff, reduceCtorEq, Nat.reduceBEq, Nat.reduceAdd, Nat.reduceLeDiff]
    exact ⟨y + 1, by omega, rfl, by omega⟩
  · obtain rfl : y = H := by omega
    simp (disch := first | assumption | omega | rfl | simp only [RH]) only [↓RP, RG, FX, RQ, ↓reduceIte, Nat.reduceEqDiff, reduceCtorEq, Nat.reduceBEq, Nat.reduceAdd, Nat.reduceLeDiff]
    rw [resVal_1 rfl]; simp (disch := first | assumption | omega | rfl | simp only [RH]) only [↓RP, RG, FX, RQ, ↓reduceIte, Nat.reduceEqDiff, reduceCtorEq, Nat.reduceBEq, Nat.reduceAdd, Nat.reduceLeDiff, RS]
    simp only [rX, lnC_len, if_true, List.drop_zero]
    rw [List.take_of_length_le (by rw [lnC_len]; exact Nat.le_refl _), lnC_res]
end Go.Proofs.YtbmcfkpljdchoaaDoor

/- The kinds of rows, by the program. -/
set_option linter.unusedSimpArgs false
set_option linter.unusedVariables false
set_option maxRecDepth 100000
namespace Go.Proofs.YtbmcfkpljdchoaaDoor
open Go Go.Proofs Go.AW

theorem padR_eq {W : Nat} (hW : W ≤ 64) {l : List Bool} {a b : Nat} : padR W l a = padR W l b ↔ rowN W l a = rowN W l b := by
  rw [rowN_eq]
  constructor
  · intro h x hx
    have := congrArg (fun r : List Bool => r.getD x false) h
    simpa [padR, List.getD_eq_getElem?_getD, List.getElem?_range (show x < 64 by omega), hx] using this
  · intro h
    refine List.map_congr_left fun x hx => ?_
    by_cases hxW : x < W
    · rw [h x hxW]
    · simp [hxW]
theorem eq_line {W : Nat} (hW : W ≤ 64) (l : List Bool) (a b : Nat) : eqK (List.replicate 64 true ++ [false]) (lineA W l a) (lineA W l b) = some (decide (rowN W l a = rowN W l b)) := by
  have h := eqK_bools (padR W l a) (padR W l b) [false] [I W] [I W] (by rw [padR_len, padR_len])
  rw [padR_len] at h
  unfold lineA
  rw [h, eqK_int, eqK_nil]
  simp only [Option.map_some, beq_self_eq_true, Bool.and_true]
  congr 1
  rw [Bool.eq_iff_iff, beq_iff_eq, decide_eq_true_iff]
  exact padR_eq hW
/-- The lines of some rows, one after the other. -/
def seenC (W : Nat) (l : List Bool) (fs : List Nat) : List AVal := fs.flatMap (lineA W l)
theorem seenC_len (W : Nat) (l : List Bool) (fs : List Nat) : (seenC W l fs).length = fs.length * 65 := by
  induction fs with
  | nil => rfl
  | cons f fs ih => simp only [seenC, List.flatMap_cons, List.length_append, List.length_cons, lineA_len] at ih ⊢; omega
theorem seenC_app (W : Nat) (l : List Bool) (fs : List Nat) (y : Nat) : seenC W l (fs ++ [y]) = seenC W l fs ++ lineA W l y := by simp [seenC]
theorem seenC_at (W : Nat) (l : List Bool) : ∀ (fs : List Nat) (k : Nat), k < fs.length → ((seenC W l fs).drop (k * 65)).take 65 = lineA W l (fs.getD k 0)
  | [], k, h => by simp at h
  | f :: fs, 0, _ => by
    simp only [seenC, List.flatMap_cons, Nat.zero_mul, List.drop_zero, List.getD_cons_zero]
    rw [List.take_append_of_le_length (by rw [lineA_len]; exact Nat.le_refl _), List.take_of_length_le (by rw [lineA_len]; exact Nat.le_refl _)]
  | f :: fs, k + 1, h => by
    have ih := seenC_at W l fs k (by simpa using h)
    have e : (k + 1) * 65 = (lineA W l f).length + k * 65 := by rw [lineA_len]; omega
    simp only [seenC, List.flatMap_cons, List.getD_cons_succ] at ih ⊢
    rw [e, List.drop_append, List.drop_eq_nil_of_le (by omega), List.nil_append, Nat.add_sub_cancel_left]
    exact ih
theorem lineA_one (W : Nat) (l : List Bool) (y : Nat) : (lineA W l y).all AVal.one = true := by
  rw [lineA, List.all_append, bools_one]; rfl
theorem lineA_ren (f : Nat → Option Nat) (n : Nat) (W : Nat) (l : List Bool) (y : Nat) : (lineA W l y).map (ren f (n + 1)) = lineA W l y := by
  simp only [lineA, List.map_append, map_ren_bools]; rfl
theorem seenC_ren (f : Nat → Option Nat) (n : Nat) (W : Nat) (l : List Bool) (fs : List Nat) : (seenC W l fs).map (ren f (n + 1)) = seenC W l fs := by
  induction fs with
  | nil => rfl
  | cons g fs ih => simp only [seenC, List.flatMap_cons, List.map_append, lineA_ren] at ih ⊢; rw [ih]
theorem take_line (W : Nat) (l : List Bool) (y : Nat) : (lineA W l y).take 65 = lineA W l y := List.take_of_length_le (by rw [lineA_len]; exact Nat.le_refl _)
theorem lnC_fr (n W H : Nat) (l : List Bool) (y : Nat) : (lnC W H l y).all (allFresh (n + 1)) = true := by
  rw [List.all_eq_true]
  intro x hx
  simp only [lnC, List.mem_map] at hx
  obtain ⟨i, _, rfl⟩ := hx
  simp only [lnZ]
  split <;> split <;> rfl
theorem lnC_ren (f : Nat → Option Nat) (n W H : Nat) (l : List Bool) (y : Nat) : (lnC W H l y).map (ren f (n + 1)) = lnC W H l y := by
  simp only [lnC, List.map_map]
  refine List.map_congr_left fun i _ => ?_
  simp only [Function.comp, lnZ]
  split <;> split <;> rfl
theorem ren_gwW (f : Nat → Option Nat) (n s k m : Nat) (hk : f k = some k) : ren f (n + 1) (gwW s k m) = gwW s k m := by
  unfold gwW
  split
  · simp [ren, hk]
  · simp [ren, hk]
theorem renO_goW (f : Nat → Option Nat) (n e s : Nat) (xs : List AVal) (hx : xs.map (ren f n) = xs) : renO f n (goW e s xs) = goW e s xs := by
  cases xs with
  | nil => rfl
  | cons x xr =>
    show AObj.mk e s ((x :: xr).map (ren f n)) = _
    rw [hx]; rfl
theorem lnC_len65 (W H : Nat) (l : List Bool) {y : Nat} (hy : y < H) : 65 ≤ ((lnC W H l H).drop (y * 65)).length := by rw [List.length_drop, lnC_len]; omega
theorem seenC_len65 (W : Nat) (l : List Bool) (fs : List Nat) {k : Nat} (hk : k < fs.length) : 65 ≤ ((seenC W l fs).drop (k * 65)).length := by rw [List.length_drop, seenC_len]; omega
theorem spl_line {cs : List AVal} (W : Nat) (l : List Bool) (y : Nat) (hc : cs.length = 65) : splice cs 0 (lineA W l y) = lineA W l y := by
  have hl := splice_length cs 0 (lineA W l y) (by rw [lineA_len]; omega)
  refine List.ext_getElem (by rw [hl, lineA_len, hc]) fun i h1 h2 => ?_
  rw [splice_get cs 0 (lineA W l y) (by rw [lineA_len]; omega) i h1, dif_pos ⟨Nat.zero_le _, by omega⟩]
  rfl
theorem sX_line {g : Bool} {h : List AObj} {id ty es : Nat} {cs : List AVal} (W : Nat) (l : List Bool) (y : Nat) (hty : ty ≠ 1000003) (hc : cs.length = 65) : sX (some (g, 65)) h id 0 65 (some ⟨ty, es, cs⟩) (some (lineA W l y)) = some (h.set id ⟨ty, es, lineA W l y⟩) := by
  rw [sX_mk hty, if_pos ⟨hc, lineA_len W l y, by rw [lineA_len]; omega, lineA_one W l y⟩, spl_line W l y hc]
theorem kindsP_c {W H : Nat} (hW1 : 1 ≤ W) (hW : W ≤ 64) (hH1 : 1 ≤ H) (hH : H ≤ 64) (b : Bool) {l : List Bool} (hn : l.length = W * H) :
    Contract Tryd.prog 45 [GA W H b l] (.tuple [LR (nI (knd (rowN W l) H).1).isEmpty (nI (knd (rowN W l) H).1), LR (nI (knd (rowN W l) H).2).isEmpty (nI (knd (rowN W l) H).2)]) := by
  refine Contract.intro (effS [] false) 6 follows Tryd.func45 rfl rfl (by kernel_rfl) (Nat.le_of_ble_eq_true rfl) ?_
  simp (disch := first | assumption | omega | rfl | simp only [RH]) only [↓RP, RG, FX, RQ, ↓reduceIte, Nat.reduceEqDiff, reduceCtorEq, Nat.reduceBEq, Nat.reduceAdd, Nat.reduceLeDiff, args0_1]
  refine callK_F 6 (lines_c hW1 hW hH1 hH b hn) (by simp (disch := first | assumption | omega | rfl | simp only [RH]) only [↓RP, RG, FX, RQ, ↓reduceIte, Nat.reduceEqDiff, reduceCtorEq, Nat.reduceBEq, Nat.reduceAdd, Nat.reduceLeDiff, RA] <;> rfl) (.inl (by simp [allFresh, lnC_fr])) ?_
  simp (disch := first | assumption | omega | rfl | simp only [RH]) only [↓RP, RG, FX, RQ, ↓reduceIte, Nat.reduceEqDiff, reduceCtorEq, Nat.reduceBEq, Nat.reduceAdd, Nat.reduceLeDiff]
  refine loopK_WW [2, 3, 4, 9, 10, 11] (fun y : Nat => y ≤ H) (fun y : Nat => ⟨[(2, gw true 1 (ints (nI (knd (rowN W l) y).1))), (3, gw true 2 (ints (nI (knd (rowN W l) y).2))), (4, gwW 65 3 (knd (rowN W l) y).2.length), (9, .list true false H (lnC W H l H)), (10, I H), (11, I y)], [⟨24, 3, [I W, I H, BA b l]⟩, go 3 (ints (nI (knd (rowN W l) y).1)), go 3 (ints (nI (knd (rowN W l) y).2)), goW 88 65 (seenC W l (knd (rowN W l) y).2)]⟩) (fun y => H - y) 0 (by omega) ?_ ?_
  · simp only [↓RP, RG, FX, RQ, ↓reduceIte, Nat.reduceEqDiff, reduceCtorEq, Nat.reduceBEq, Nat.reduceAdd, Nat.reduceLeDiff]
    exact Wk.weak (WE.cons _ (.nil _) (WE.cons _ (.nil _) (WE.cons _ (.nil _) (WE.cons _ (.refl _) (WE.cons _ (.refl _) (WE.cons _ (.refl _) WE.nil)))))) (.cons _ _ _ _ (WL.refl _) (.nil _ (by simp [go, ints, nI, knd, goW, seenC])))
  intro y hy
  by_cases hy2 : y < H
  · have hl1 := knd_len (rowN W l) y
    have hl2 := knd_le (rowN W l) y
    have hfi := knd_first (rowN W l) y
    have hkn : knd (rowN W l) (y + 1) = ((knd (rowN W l) y).1 ++ [plc (rowN W l) (knd (rowN W l) y).2 y], if plc (rowN W l) (knd (rowN W l) y).2 y = (knd (rowN W l) y).2.length then (knd (rowN W l) y).2 ++ [y] else (knd (rowN W l) y).2) := rfl
    generalize (knd (rowN W l) y).1 = ks at *
    generalize (knd (rowN W l) y).2 = fs at *
    have hk1 := nI_len ks
    have hk2 := nI_len fs
    have hk3 : (ints (nI ks)).length = ks.length := by rw [ints_length, nI_len]
    have hk4 : (ints (nI fs)).length = fs.length := by rw [ints_length, nI_len]
    have hlc := lnC_line W H l hy2
    have hl65 := lnC_len65 W H l hy2
    have hsl := seenC_len W l fs
    have hz65 : (bools (List.replicate 64 false) ++ [I 0]).length = 65 := by simp [bools_length]
    simp (disch := first | assumption | omega | rfl | simp only [RH]) only [↓RP, RG, FX, RQ, ↓reduceIte, Nat.reduceEqDiff, reduceCtorEq, Nat.reduceBEq, Nat.reduceAdd, Nat.reduceLeDiff, idxM_list, Int.toNat_natCast, hlc, hl65, take_line, parts_agg, sX_line]
    refine loopK_I [2, 3, 4, 5, 6, 7, 9, 10, 11] (fun k : Nat => k ≤ fs.length ∧ ∀ j, j < k → rowN W l (fs.getD j 0) ≠ rowN W l y) (fun k : Nat => ⟨[(2, gw true 1 (ints (nI ks))), (3, gw true 2 (ints (nI fs))), (4, gwW 65 3 fs.length), (5, I y), (6, .ptr 4 0 65), (7, I k), (9, .list true false H (lnC W H l H)), (10, I H), (11, I y)], [⟨24, 3, [I W, I H, BA b l]⟩, go 3 (ints (nI ks)), go 3 (ints (nI fs)), goW 88 65 (seenC W l fs), ⟨88, 65, lineA W l y⟩]⟩) (fun k => fs.length - k) 0 ⟨by omega, fun j hj => by omega⟩ (by simp only [↓RP, RG, FX, RQ, ↓reduceIte, Nat.reduceEqDiff, reduceCtorEq, Nat.reduceBEq, Nat.reduceAdd, Nat.reduceLeDiff]; rfl) ?_
    rintro k ⟨hk, hne⟩
    have hll := lineA_len W l y
    have hone := lineA_one W l y
    by_cases hlt : k < fs.length
    · have hat := seenC_at W l fs k hlt
      have hs65 := seenC_len65 W l fs hlt
      have heq := eq_line hW l (fs.getD k 0) y
      by_cases he : rowN W l (fs.getD k 0) = rowN W l y
      · have hp := plc_eq (rowN W l) hk hne (fun _ => he)
        rw [hp, if_neg (by omega)] at hkn
        rw [decide_eq_true he] at heq
        simp (disch := first | assumption | omega | rfl | simp only [RH]) only [↓RP, RG, FX, RQ, ↓reduceIte, Nat.reduceEqDiff, reduceCtorEq, Nat.reduceBEq, Nat.reduceAdd, Nat.reduceLeDiff, sview_gwW, gSW_go, idxW_gw, cA_goW, cA_lenW, hat, hs65, take_line, hll, heq, neqKT, append_int, Int.toNat_natCast]
        exact ⟨y + 1, by omega, (Wk.drop (hb := []) (h1 := []) (gs := [_, _, _, _, _]) 8 [0, 1, 2, 3] rfl (by decide) (by simp) (by simp)).trans (Wk.of_eq (by simp (disch := omega) only [RK, List.idxOf?_cons, List.idxOf?_nil, Nat.reduceBEq, Option.map_some, Option.map_none, List.map_cons, List.map_nil, List.getD_cons_zero, List.getD_cons_succ, Bool.false_eq_true, ↓reduceIte, Nat.add_zero, List.append_nil, seenC_ren, lnC_ren, ren_gwW _ _ _ _ _ (show keepF ([] : List AObj).length [0, 1, 2, 3] 3 = some 3 from rfl), renO_goW _ _ _ _ _ (seenC_ren _ _ _ _ _)]; rw [hkn]; simp only [nI_app, seenC_app, List.length_append, List.length_singleton]; rfl)), by omega⟩
      · rw [decide_eq_false he] at heq
        simp (disch := first | assumption | omega | rfl | simp only [RH]) only [↓RP, RG, FX, RQ, ↓reduceIte, Nat.reduceEqDiff, reduceCtorEq, Nat.reduceBEq, Nat.reduceAdd, Nat.reduceLeDiff, sview_gwW, gSW_go, idxW_gw, cA_goW, cA_lenW, hat, hs65, take_line, hll, heq, neqKT, Int.toNat_natCast]
        refine ⟨k + 1, ⟨by omega, fun j hj => ?_⟩, rfl, by omega⟩
        by_cases hjk : j = k
        · subst hjk; exact he
        · exact hne j (by omega)
    · obtain rfl : k = fs.length := by omega
      have hp := plc_eq (rowN W l) (Nat.le_refl _) hne (fun h => absurd h (by omega))
      rw [hp, if_pos rfl] at hkn
      simp (disch := first | assumption | omega | rfl | simp only [RH]) only [↓RP, RG, FX, RQ, ↓reduceIte, Nat.reduceEqDiff, reduceCtorEq, Nat.reduceBEq, Nat.reduceAdd, Nat.reduceLeDiff, sview_gwW, gSW_go, cA_lenW, hll, take_line, append_int, List.length_replicate, spl_line]
      rw [append_W (xs := seenC W l fs) rfl hsl hll hone (by omega) (by omega), ← seenC_app]
      simp (disch := first | assumption | omega | rfl | simp only [RH]) only [↓RP, RG, FX, RQ, ↓reduceIte, Nat.reduceEqDiff, reduceCtorEq, Nat.reduceBEq, Nat.reduceAdd, Nat.reduceLeDiff, append_int]
      exact ⟨y + 1, by omega, (Wk.drop (hb := []) (h1 := []) (gs := [_, _, _, _, _]) 8 [0, 1, 2, 3] rfl (by decide) (by simp) (by simp)).trans (Wk.of_eq (by simp (disch := omega) only [RK, List.idxOf?_cons, List.idxOf?_nil, Nat.reduceBEq, Option.map_some, Option.map_none, List.map_cons, List.map_nil, List.getD_cons_zero, List.getD_cons_succ, Bool.false_eq_true, ↓reduceIte, Nat.add_zero, List.append_nil, seenC_ren, lnC_ren, ren_gwW _ _ _ _ _ (show keepF ([] : List AObj).length [0, 1, 2, 3] 3 = some 3 from rfl), renO_goW _ _ _ _ _ (seenC_ren _ _ _ _ _)]; rw [hkn]; simp only [nI_app, seenC_app, List.length_append, List.length_singleton]; rfl)), by omega⟩
  · obtain rfl : y = H := by omega
    simp (disch := first | assumption | omega | rfl | simp only [RH]) only [↓RP, RG, FX, RQ, ↓reduceIte, Nat.reduceEqDiff, reduceCtorEq, Nat.reduceBEq, Nat.reduceAdd, Nat.reduceLeDiff]
    rw [resVal_2 rfl]; simp (disch := first | assumption | omega | rfl | simp only [RH]) only [↓RP, RG, FX, RQ, ↓reduceIte, Nat.reduceEqDiff, reduceCtorEq, Nat.reduceBEq, Nat.reduceAdd, Nat.reduceLeDiff, RS]
    simp only [Bool.true_and, ints_isEmpty]
end Go.Proofs.YtbmcfkpljdchoaaDoor

/- Grids: made cell by cell, turned. -/
set_option linter.unusedSimpArgs false
set_option linter.unusedVariables false
set_option maxRecDepth 100000
namespace Go.Proofs.YtbmcfkpljdchoaaDoor
open Go Go.Proofs Go.AW

theorem build_c (f : FuncId) (caps : List AVal) (W H : Nat) (u : Nat → Nat → Bool) (hw : W ≤ 10000) (hh : H ≤ 10000) (hcaps : ∀ r : List AObj, caps.map (argOf r 6) = caps) (hup : ∀ x y : Nat, x < W → y < H → Contract Tryd.prog f ([I x, I y] ++ caps) (B (u x y))) :
    Contract Tryd.prog 42 [I W, I H, .func (.func f) [] caps] (GR W H false (tabN W u (W * H))) := by
  have hm := mul_bd (W := W) (H := H) hw hh
  refine Contract.intro (effS [] false) 6 follows Tryd.func42 rfl rfl (by kernel_rfl) (Nat.le_of_ble_eq_true rfl) ?_
  simp (disch := first | assumption | omega | rfl | simp only [RH]) only [↓RP, RG, FX, RQ, ↓reduceIte, Nat.reduceEqDiff, reduceCtorEq, Nat.reduceBEq, Nat.reduceAdd, Nat.reduceLeDiff, args0_3, make_bool, Int.toNat_zero]
  refine loopK_I [0, 1, 2, 6, 7, 17, 18] (fun y : Nat => y ≤ H) (fun y => ⟨[(0, I W), (1, I H), (2, .func (.func f) [] caps), (6, .ptr 0 0 3), (7, .ptr 2 0 3), (17, I H), (18, I y)], [⟨24, 3, [I 0, I 0, .cap0 true]⟩, ⟨4, 1, bools (tabN W u (W * y))⟩, ⟨24, 3, [I W, I H, .ref 1 0 (W * y) (W * y)]⟩]⟩) (fun y => H - y) 0 (by omega) (by simp only [↓RP, RG, FX, RQ, ↓reduceIte, Nat.reduceEqDiff, reduceCtorEq, Nat.reduceBEq, Nat.reduceAdd, Nat.reduceLeDiff, List.replicate_zero, Nat.mul_zero]; rfl) ?_
  intro y hy
  by_cases hlt : y < H
  · simp (disch := first | assumption | omega | rfl | simp only [RH]) only [↓RP, RG, FX, RQ, ↓reduceIte, Nat.reduceEqDiff, reduceCtorEq, Nat.reduceBEq, Nat.reduceAdd, Nat.reduceLeDiff]
    refine loopK_I [0, 1, 2, 6, 7, 8, 17, 18, 21, 22] (fun x : Nat => x ≤ W) (fun x => ⟨[(0, I W), (1, I H), (2, .func (.func f) [] caps), (6, .ptr 0 0 3), (7, .ptr 2 0 3), (8, I y), (17, I H), (18, I y), (21, I W), (22, I x)], [⟨24, 3, [I 0, I 0, .cap0 true]⟩, ⟨4, 1, bools (tabN W u (W * y + x))⟩, ⟨24, 3, [I W, I H, .ref 1 0 (W * y + x) (W * y + x)]⟩]⟩) (fun x => W - x) 0 (by omega) (by simp only [↓RP, RG, FX, RQ, ↓reduceIte, Nat.reduceEqDiff, reduceCtorEq, Nat.reduceBEq, Nat.reduceAdd, Nat.reduceLeDiff]; rfl) ?_
    intro x hx
    by_cases hlt2 : x < W
    · have hl := tabN_len W u (W * y + x)
      have hb : W * y + x ≤ 1000000000 := by
        have : W * y ≤ 10000 * 10000 := Nat.mul_le_mul hw (by omega)
        omega
      simp (disch := first | assumption | omega | rfl | simp only [RH]) only [↓RP, RG, FX, RQ, ↓reduceIte, Nat.reduceEqDiff, reduceCtorEq, Nat.reduceBEq, Nat.reduceAdd, Nat.reduceLeDiff]
      refine callK_V 6 (hup x y hlt2 hlt) (by rw [List.nil_append, List.map_append, hcaps]; rfl) (.inl rfl) ?_
      simp (disch := first | assumption | omega | rfl | simp only [RH]) only [↓RP, RG, FX, RQ, ↓reduceIte, Nat.reduceEqDiff, reduceCtorEq, Nat.reduceBEq, Nat.reduceAdd, Nat.reduceLeDiff, append_refB, apRX_bools]
      exact ⟨x + 1, by omega, by rw [show W * y + (x + 1) = W * y + x + 1 from rfl, tabN_succ W u hlt2]; rfl, by omega⟩
    · obtain rfl : x = W := by omega
      simp (disch := first | assumption | omega | rfl | simp only [RH]) only [↓RP, RG, FX, RQ, ↓reduceIte, Nat.reduceEqDiff, reduceCtorEq, Nat.reduceBEq, Nat.reduceAdd, Nat.reduceLeDiff]
      exact ⟨y + 1, by omega, rfl, by omega⟩
  · obtain rfl : y = H := by omega
    have hl := tabN_len W u (W * y)
    simp (disch := first | assumption | omega | rfl | simp only [RH]) only [↓RP, RG, FX, RQ, ↓reduceIte, Nat.reduceEqDiff, reduceCtorEq, Nat.reduceBEq, Nat.reduceAdd, Nat.reduceLeDiff]
    rw [resVal_1 rfl]; simp (disch := first | assumption | omega | rfl | simp only [RH]) only [↓RP, RG, FX, RQ, ↓reduceIte, Nat.reduceEqDiff, reduceCtorEq, Nat.reduceBEq, Nat.reduceAdd, Nat.reduceLeDiff, RS]
    first | done | rw [hl]

/-- A grid turned. -/
def uT (W : Nat) (l : List Bool) (x y : Nat) : Bool := cell W l y x
theorem turnF_c {W H : Nat} (hW : W ≤ 64) (hH : H ≤ 64) (b : Bool) {l : List Bool} (hn : l.length = W * H) {x y : Nat} (hx : x < H) (hy : y < W) :
    Contract Tryd.prog 43 [I x, I y, .spot false [I W, I H, BA b l]] (B (uT W l x y)) := by
  have h1 := idx_lt (W := W) (H := H) (x := y) (y := x) hy hx
  have h2 := idx_nat W x y
  have h3 : W * H ≤ 64 * 64 := Nat.mul_le_mul hW hH
  have h4 : (x : Int) * (W : Int) = ((W * x : Nat) : Int) := by rw [Int.natCast_mul, Int.mul_comm]
  have h5 : W * x ≤ 64 * 64 := Nat.mul_le_mul hW (by omega)
  refine Contract.intro (effS [] false) 6 follows Tryd.func43 rfl rfl (by kernel_rfl) (Nat.le_of_ble_eq_true rfl) ?_
  simp (disch := first | assumption | omega | rfl | simp only [RH]) only [↓RP, RG, FX, RQ, ↓reduceIte, Nat.reduceEqDiff, reduceCtorEq, Nat.reduceBEq, Nat.reduceAdd, Nat.reduceLeDiff, args0_3]
  rw [resVal_1 rfl]; simp (disch := first | assumption | omega | rfl | simp only [RH]) only [↓RP, RG, FX, RQ, ↓reduceIte, Nat.reduceEqDiff, reduceCtorEq, Nat.reduceBEq, Nat.reduceAdd, Nat.reduceLeDiff, RS]
  first | done | (unfold uT cell; rfl)

theorem gturnP_c {W H : Nat} (hW0 : 0 < W) (hH0 : 0 < H) (hW : W ≤ 64) (hH : H ≤ 64) (b : Bool) {l : List Bool} (hn : l.length = W * H) :
    Contract Tryd.prog 24 [GA W H b l] (.tuple [GR H W false (tabN H (uT W l) (H * W)), I 0]) := by
  have hz : gchk W H l.length = 0 := gchk_ok ⟨by omega, by omega, by omega, by omega, by rw [hn, Int.natCast_mul]⟩
  refine Contract.intro (effS [] false) 6 follows Tryd.func24 rfl rfl (by kernel_rfl) (Nat.le_of_ble_eq_true rfl) ?_
  simp (disch := first | assumption | omega | rfl | simp only [RH]) only [↓RP, RG, FX, RQ, ↓reduceIte, Nat.reduceEqDiff, reduceCtorEq, Nat.reduceBEq, Nat.reduceAdd, Nat.reduceLeDiff, args0_1]
  refine callK_F 6 (gcheckP_c W H b l) (by simp (disch := first | assumption | omega | rfl | simp only [RH]) only [↓RP, RG, FX, RQ, ↓reduceIte, Nat.reduceEqDiff, reduceCtorEq, Nat.reduceBEq, Nat.reduceAdd, Nat.reduceLeDiff, RA] <;> rfl) (.inl (by simp [allFresh, ints_fresh, bools_fresh])) ?_
  simp (disch := first | assumption | omega | rfl | simp only [RH]) only [↓RP, RG, FX, RQ, ↓reduceIte, Nat.reduceEqDiff, reduceCtorEq, Nat.reduceBEq, Nat.reduceAdd, Nat.reduceLeDiff]
  refine callK_F 6 (build_c 43 [.spot false [I W, I H, BA b l]] H W (uT W l) (by omega) (by omega) (fun r => by simp [argOf]; exact bools_arg l r 3) (fun x y hx hy => turnF_c hW hH b hn hx hy)) (by simp (disch := first | assumption | omega | rfl | simp only [RH]) only [↓RP, RG, FX, RQ, ↓reduceIte, Nat.reduceEqDiff, reduceCtorEq, Nat.reduceBEq, Nat.reduceAdd, Nat.reduceLeDiff, RA] <;> rfl) (.inl (by simp [allFresh, ints_fresh, bools_fresh])) ?_
  simp (disch := first | assumption | omega | rfl | simp only [RH]) only [↓RP, RG, FX, RQ, ↓reduceIte, Nat.reduceEqDiff, reduceCtorEq, Nat.reduceBEq, Nat.reduceAdd, Nat.reduceLeDiff]
  rw [resVal_2 rfl]; simp (disch := first | assumption | omega | rfl | simp only [RH]) only [↓RP, RG, FX, RQ, ↓reduceIte, Nat.reduceEqDiff, reduceCtorEq, Nat.reduceBEq, Nat.reduceAdd, Nat.reduceLeDiff, RS]
end Go.Proofs.YtbmcfkpljdchoaaDoor

/- The kinds of columns and rows, by both. -/
set_option linter.unusedSimpArgs false
set_option linter.unusedVariables false
set_option maxRecDepth 100000
namespace Go.Proofs.YtbmcfkpljdchoaaDoor
open Go Go.Proofs Go.AW

/-- Kinds of columns and their firsts; of rows. -/
def tgL (W H : Nat) (l : List Bool) : List Bool := tabN H (uT W l) (H * W)
theorem tgL_len (W H : Nat) (l : List Bool) : (tgL W H l).length = H * W := tabN_len _ _ _
def kC (W H : Nat) (l : List Bool) : List Nat := (knd (rowN H (tgL W H l)) W).1
def fC (W H : Nat) (l : List Bool) : List Nat := (knd (rowN H (tgL W H l)) W).2
def kR (W H : Nat) (l : List Bool) : List Nat := (knd (rowN W l) H).1
def fR (W H : Nat) (l : List Bool) : List Nat := (knd (rowN W l) H).2
abbrev LN (l : List Nat) : AVal := LR (nI l).isEmpty (nI l)
section
variable {W H : Nat} (hW1 : 1 ≤ W) (hW : W ≤ 64) (hH1 : 1 ≤ H) (hH : H ≤ 64) (b : Bool) {l : List Bool} (hn : l.length = W * H)
include hW1 hW hH1 hH hn
theorem both_c : Contract Tryd.prog 26 [GA W H b l] (.tuple [LN (kC W H l), LN (fC W H l), LN (kR W H l), LN (fR W H l), I 0]) := by
  have h1 := gturnP_c (by omega) (by omega) hW hH b hn
  have h2 := fun b' => kindsP_c (W := H) (H := W) hH1 hH hW1 hW b' (l := tgL W H l) (tgL_len W H l)
  have h3 := kindsP_c hW1 hW hH1 hH b hn
  have ht := tgL_len W H l
  rw [show tabN H (uT W l) (H * W) = tgL W H l from rfl] at h1
  simp only [show (knd (rowN H (tgL W H l)) W).1 = kC W H l from rfl, show (knd (rowN H (tgL W H l)) W).2 = fC W H l from rfl] at h2
  simp only [show (knd (rowN W l) H).1 = kR W H l from rfl, show (knd (rowN W l) H).2 = fR W H l from rfl] at h3
  generalize tgL W H l = tg at *
  generalize kC W H l = a1 at *
  generalize fC W H l = a2 at *
  generalize kR W H l = a3 at *
  generalize fR W H l = a4 at *
  refine Contract.intro (effS [] false) 6 follows Tryd.func26 rfl rfl (by kernel_rfl) (Nat.le_of_ble_eq_true rfl) ?_
  simp (disch := first | assumption | omega | rfl | simp only [RH]) only [↓RP, RG, FX, RQ, ↓reduceIte, Nat.reduceEqDiff, reduceCtorEq, Nat.reduceBEq, Nat.reduceAdd, Nat.reduceLeDiff, args0_1]
  refine callK_F 6 (h1) (by simp (disch := first | assumption | omega | rfl | simp only [RH]) only [↓RP, RG, FX, RQ, ↓reduceIte, Nat.reduceEqDiff, reduceCtorEq, Nat.reduceBEq, Nat.reduceAdd, Nat.reduceLeDiff, RA] <;> rfl) (.inl (by simp [allFresh, ints_fresh, bools_fresh])) ?_
  simp (disch := first | assumption | omega | rfl | simp only [RH]) only [↓RP, RG, FX, RQ, ↓reduceIte, Nat.reduceEqDiff, reduceCtorEq, Nat.reduceBEq, Nat.reduceAdd, Nat.reduceLeDiff]
  refine callK_F 6 (h2 _) (by simp (disch := first | assumption | omega | rfl | simp only [RH]) only [↓RP, RG, FX, RQ, ↓reduceIte, Nat.reduceEqDiff, reduceCtorEq, Nat.reduceBEq, Nat.reduceAdd, Nat.reduceLeDiff, RA] <;> rfl) (.inl (by simp [allFresh, ints_fresh])) ?_
  simp (disch := first | assumption | omega | rfl | simp only [RH]) only [↓RP, RG, FX, RQ, ↓reduceIte, Nat.reduceEqDiff, reduceCtorEq, Nat.reduceBEq, Nat.reduceAdd, Nat.reduceLeDiff]
  refine callK_F 6 h3 (by simp (disch := first | assumption | omega | rfl | simp only [RH]) only [↓RP, RG, FX, RQ, ↓reduceIte, Nat.reduceEqDiff, reduceCtorEq, Nat.reduceBEq, Nat.reduceAdd, Nat.reduceLeDiff, RA] <;> rfl) (.inl (by simp [allFresh, ints_fresh])) ?_
  simp (disch := first | assumption | omega | rfl | simp only [RH]) only [↓RP, RG, FX, RQ, ↓reduceIte, Nat.reduceEqDiff, reduceCtorEq, Nat.reduceBEq, Nat.reduceAdd, Nat.reduceLeDiff]
  rw [resVal_5 rfl]; simp (disch := first | assumption | omega | rfl | simp only [RH]) only [↓RP, RG, FX, RQ, ↓reduceIte, Nat.reduceEqDiff, reduceCtorEq, Nat.reduceBEq, Nat.reduceAdd, Nat.reduceLeDiff, RS]
  first | done | rfl
theorem columnsP_c : Contract Tryd.prog 8 [GA W H b l] (.tuple [LN (kC W H l), I 0]) := by
  have h1 := both_c hW1 hW hH1 hH b hn
  generalize kC W H l = a1 at *
  generalize fC W H l = a2 at *
  generalize kR W H l = a3 at *
  generalize fR W H l = a4 at *
  refine Contract.intro (effS [] false) 6 follows Tryd.func8 rfl rfl (by kernel_rfl) (Nat.le_of_ble_eq_true rfl) ?_
  simp (disch := first | assumption | omega | rfl | simp only [RH]) only [↓RP, RG, FX, RQ, ↓reduceIte, Nat.reduceEqDiff, reduceCtorEq, Nat.reduceBEq, Nat.reduceAdd, Nat.reduceLeDiff, args0_1]
  refine callK_F 6 h1 (by simp (disch := first | assumption | omega | rfl | simp only [RH]) only [↓RP, RG, FX, RQ, ↓reduceIte, Nat.reduceEqDiff, reduceCtorEq, Nat.reduceBEq, Nat.reduceAdd, Nat.reduceLeDiff, RA] <;> rfl) (.inl (by simp [allFresh, ints_fresh])) ?_
  simp (disch := first | assumption | omega | rfl | simp only [RH]) only [↓RP, RG, FX, RQ, ↓reduceIte, Nat.reduceEqDiff, reduceCtorEq, Nat.reduceBEq, Nat.reduceAdd, Nat.reduceLeDiff]
  rw [resVal_2 rfl]; simp (disch := first | assumption | omega | rfl | simp only [RH]) only [↓RP, RG, FX, RQ, ↓reduceIte, Nat.reduceEqDiff, reduceCtorEq, Nat.reduceBEq, Nat.reduceAdd, Nat.reduceLeDiff, RS]
  first | done | rfl
theorem rowsP_c : Contract Tryd.prog 10 [GA W H b l] (.tuple [LN (kR W H l), I 0]) := by
  have h1 := both_c hW1 hW hH1 hH b hn
  generalize kC W H l = a1 at *
  generalize fC W H l = a2 at *
  generalize kR W H l = a3 at *
  generalize fR W H l = a4 at *
  refine Contract.intro (effS [] false) 6 follows Tryd.func10 rfl rfl (by kernel_rfl) (Nat.le_of_ble_eq_true rfl) ?_
  simp (disch := first | assumption | omega | rfl | simp only [RH]) only [↓RP, RG, FX, RQ, ↓reduceIte, Nat.reduceEqDiff, reduceCtorEq, Nat.reduceBEq, Nat.reduceAdd, Nat.reduceLeDiff, args0_1]
  refine callK_F 6 h1 (by simp (disch := first | assumption | omega | rfl | simp only [RH]) only [↓RP, RG, FX, RQ, ↓reduceIte, Nat.reduceEqDiff, reduceCtorEq, Nat.reduceBEq, Nat.reduceAdd, Nat.reduceLeDiff, RA] <;> rfl) (.inl (by simp [allFresh, ints_fresh])) ?_
  simp (disch := first | assumption | omega | rfl | simp only [RH]) only [↓RP, RG, FX, RQ, ↓reduceIte, Nat.reduceEqDiff, reduceCtorEq, Nat.reduceBEq, Nat.reduceAdd, Nat.reduceLeDiff]
  rw [resVal_2 rfl]; simp (disch := first | assumption | omega | rfl | simp only [RH]) only [↓RP, RG, FX, RQ, ↓reduceIte, Nat.reduceEqDiff, reduceCtorEq, Nat.reduceBEq, Nat.reduceAdd, Nat.reduceLeDiff, RS]
  first | done | rfl
theorem countP_c : Contract Tryd.prog 12 [GA W H b l] (.tuple [I (fC W H l).length, I (fR W H l).length, I 0]) := by
  have h1 := both_c hW1 hW hH1 hH b hn
  have n1 := nI_len (fC W H l)
  have n2 := nI_len (fR W H l)
  generalize kC W H l = a1 at *
  generalize fC W H l = a2 at *
  generalize kR W H l = a3 at *
  generalize fR W H l = a4 at *
  refine Contract.intro (effS [] false) 6 follows Tryd.func12 rfl rfl (by kernel_rfl) (Nat.le_of_ble_eq_true rfl) ?_
  simp (disch := first | assumption | omega | rfl | simp only [RH]) only [↓RP, RG, FX, RQ, ↓reduceIte, Nat.reduceEqDiff, reduceCtorEq, Nat.reduceBEq, Nat.reduceAdd, Nat.reduceLeDiff, args0_1]
  refine callK_F 6 h1 (by simp (disch := first | assumption | omega | rfl | simp only [RH]) only [↓RP, RG, FX, RQ, ↓reduceIte, Nat.reduceEqDiff, reduceCtorEq, Nat.reduceBEq, Nat.reduceAdd, Nat.reduceLeDiff, RA] <;> rfl) (.inl (by simp [allFresh, ints_fresh])) ?_
  simp (disch := first | assumption | omega | rfl | simp only [RH]) only [↓RP, RG, FX, RQ, ↓reduceIte, Nat.reduceEqDiff, reduceCtorEq, Nat.reduceBEq, Nat.reduceAdd, Nat.reduceLeDiff, n1, n2]
  rw [resVal_3 rfl]; simp (disch := first | assumption | omega | rfl | simp only [RH]) only [↓RP, RG, FX, RQ, ↓reduceIte, Nat.reduceEqDiff, reduceCtorEq, Nat.reduceBEq, Nat.reduceAdd, Nat.reduceLeDiff, RS]
  first | done | rfl
end
end Go.Proofs.YtbmcfkpljdchoaaDoor

/- Drafts: drawdowns and lifts, whole. -/
set_option linter.unusedSimpArgs false
set_option linter.unusedVariables false
set_option maxRecDepth 100000
namespace Go.Proofs.YtbmcfkpljdchoaaDoor
open Go Go.Proofs Go.AW

end Go.Proofs.YtbmcfkpljdchoaaDoor

/- Drafts: drawdowns and lifts, whole: the reference's, and lifts. -/
set_option linter.unusedSimpArgs false
set_option linter.unusedVariables false
set_option maxRecDepth 100000
namespace Go.Proofs.YtbmcfkpljdchoaaDoor
open Go Go.Proofs Go.AW

end Go.Proofs.YtbmcfkpljdchoaaDoor

/- Drafts: compared, copied; the law of drawdowns. -/
set_option linter.unusedSimpArgs false
set_option linter.unusedVariables false
set_option maxRecDepth 100000
namespace Go.Proofs.YtbmcfkpljdchoaaDoor
open Go Go.Proofs Go.AW

def dGreat (th td : List Int) (l : List Bool) : Prop := 70 < (th.length : Int) ∨ 70 < (td.length : Int) ∨ 4200 < (l.length : Int)
instance (th td : List Int) (l : List Bool) : Decidable (dGreat th td l) := by unfold dGreat; infer_instance

def dEq (s t : Int) (th td : List Int) (w h : Int) (l : List Bool) (s' t' : Int) (th' td' : List Int) (w' h' : Int) (l' : List Bool) : Prop := s = s' ∧ t = t' ∧ th = th' ∧ td = td' ∧ w = w' ∧ h = h' ∧ l = l'
instance (s t : Int) (th td : List Int) (w h : Int) (l : List Bool) (s' t' : Int) (th' td' : List Int) (w' h' : Int) (l' : List Bool) : Decidable (dEq s t th td w h l s' t' th' td' w' h' l') := by unfold dEq; infer_instance

theorem dsameR_c (s t : Int) (b1 : Bool) (th : List Int) (b2 : Bool) (td : List Int) (w h : Int) (b3 : Bool) (l : List Bool) (s' t' : Int) (b1' : Bool) (th' : List Int) (b2' : Bool) (td' : List Int) (w' h' : Int) (b3' : Bool) (l' : List Bool) (hl1 : th.length ≤ 1000000000000) (hl2 : td.length ≤ 1000000000000) (hl3 : l.length ≤ 1000000000000) :
    Contract Tryd.prog 17 [DA s t b1 th b2 td w h b3 l, DA s' t' b1' th' b2' td' w' h' b3' l'] (B (decide (dEq s t th td w h l s' t' th' td' w' h' l'))) := by
  refine Contract.intro (effS [] false) 6 follows Tryd.func17 rfl rfl (by kernel_rfl) (Nat.le_of_ble_eq_true rfl) ?_
  by_cases c1 : s = s'
  rotate_left
  · simp (disch := first | assumption | omega | rfl | simp only [RH]) only [↓RP, RG, FX, RQ, ↓reduceIte, Nat.reduceEqDiff, reduceCtorEq, Nat.reduceBEq, Nat.reduceAdd, Nat.reduceLeDiff, args0_2]
    rw [resVal_1 rfl]; simp (disch := first | assumption | omega | rfl | simp only [RH]) only [↓RP, RG, FX, RQ, ↓reduceIte, Nat.reduceEqDiff, reduceCtorEq, Nat.reduceBEq, Nat.reduceAdd, Nat.reduceLeDiff, RS]
    first | done | exact okF (fun h => c1 h.1)
  by_cases c2 : t = t'
  rotate_left
  · simp (disch := first | assumption | omega | rfl | simp only [RH]) only [↓RP, RG, FX, RQ, ↓reduceIte, Nat.reduceEqDiff, reduceCtorEq, Nat.reduceBEq, Nat.reduceAdd, Nat.reduceLeDiff, args0_2]
    rw [resVal_1 rfl]; simp (disch := first | assumption | omega | rfl | simp only [RH]) only [↓RP, RG, FX, RQ, ↓reduceIte, Nat.reduceEqDiff, reduceCtorEq, Nat.reduceBEq, Nat.reduceAdd, Nat.reduceLeDiff, RS]
    first | done | exact okF (fun h => c2 h.2.1)
  simp (disch := first | assumption | omega | rfl | simp only [RH]) only [↓RP, RG, FX, RQ, ↓reduceIte, Nat.reduceEqDiff, reduceCtorEq, Nat.reduceBEq, Nat.reduceAdd, Nat.reduceLeDiff, args0_2]
  refine callK_F 6 (same02_c b1 b1' th th' (by omega)) (by simp (disch := first | assumption | omega | rfl | simp only [RH]) only [↓RP, RG, FX, RQ, ↓reduceIte, Nat.reduceEqDiff, reduceCtorEq, Nat.reduceBEq, Nat.reduceAdd, Nat.reduceLeDiff, RA] <;> rfl) (.inl (by simp [allFresh, ints_fresh, bools_fresh])) ?_
  by_cases c3 : th = th'
  rotate_left
  · simp (disch := first | assumption | omega | rfl | simp only [RH]) only [↓RP, RG, FX, RQ, ↓reduceIte, Nat.reduceEqDiff, reduceCtorEq, Nat.reduceBEq, Nat.reduceAdd, Nat.reduceLeDiff]
    rw [resVal_1 rfl]; simp (disch := first | assumption | omega | rfl | simp only [RH]) only [↓RP, RG, FX, RQ, ↓reduceIte, Nat.reduceEqDiff, reduceCtorEq, Nat.reduceBEq, Nat.reduceAdd, Nat.reduceLeDiff, RS]
    first | done | exact okF (fun h => c3 h.2.2.1)
  simp (disch := first | assumption | omega | rfl | simp only [RH]) only [↓RP, RG, FX, RQ, ↓reduceIte, Nat.reduceEqDiff, reduceCtorEq, Nat.reduceBEq, Nat.reduceAdd, Nat.reduceLeDiff]
  refine callK_F 6 (same02_c b2 b2' td td' (by omega)) (by simp (disch := first | assumption | omega | rfl | simp only [RH]) only [↓RP, RG, FX, RQ, ↓reduceIte, Nat.reduceEqDiff, reduceCtorEq, Nat.reduceBEq, Nat.reduceAdd, Nat.reduceLeDiff, RA] <;> rfl) (.inl (by simp [allFresh, ints_fresh, bools_fresh])) ?_
  by_cases c4 : td = td'
  rotate_left
  · simp (disch := first | assumption | omega | rfl | simp only [RH]) only [↓RP, RG, FX, RQ, ↓reduceIte, Nat.reduceEqDiff, reduceCtorEq, Nat.reduceBEq, Nat.reduceAdd, Nat.reduceLeDiff]
    rw [resVal_1 rfl]; simp (disch := first | assumption | omega | rfl | simp only [RH]) only [↓RP, RG, FX, RQ, ↓reduceIte, Nat.reduceEqDiff, reduceCtorEq, Nat.reduceBEq, Nat.reduceAdd, Nat.reduceLeDiff, RS]
    first | done | exact okF (fun h => c4 h.2.2.2.1)
  simp (disch := first | assumption | omega | rfl | simp only [RH]) only [↓RP, RG, FX, RQ, ↓reduceIte, Nat.reduceEqDiff, reduceCtorEq, Nat.reduceBEq, Nat.reduceAdd, Nat.reduceLeDiff]
  refine callK_F 6 (sameR_c w h w' h' b3 b3' l l' (by omega)) (by simp (disch := first | assumption | omega | rfl | simp only [RH]) only [↓RP, RG, FX, RQ, ↓reduceIte, Nat.reduceEqDiff, reduceCtorEq, Nat.reduceBEq, Nat.reduceAdd, Nat.reduceLeDiff, RA] <;> rfl) (.inl (by simp [allFresh, ints_fresh, bools_fresh])) ?_
  simp (disch := first | assumption | omega | rfl | simp only [RH]) only [↓RP, RG, FX, RQ, ↓reduceIte, Nat.reduceEqDiff, reduceCtorEq, Nat.reduceBEq, Nat.reduceAdd, Nat.reduceLeDiff]
  rw [resVal_1 rfl]; simp (disch := first | assumption | omega | rfl | simp only [RH]) only [↓RP, RG, FX, RQ, ↓reduceIte, Nat.reduceEqDiff, reduceCtorEq, Nat.reduceBEq, Nat.reduceAdd, Nat.reduceLeDiff, RS]
  first | done | exact okD (by unfold dEq; simp [c1, c2, c3, c4])
end Go.Proofs.YtbmcfkpljdchoaaDoor

/- The least draft of a grid, by both; grids that are not valid. -/
set_option linter.unusedSimpArgs false
set_option linter.unusedVariables false
set_option maxRecDepth 100000
namespace Go.Proofs.YtbmcfkpljdchoaaDoor
open Go Go.Proofs Go.AW

theorem limE (env : List (Nat × AVal)) : ev env (.global 0) = .spot false [I 40, I 40] := rfl

section
variable (w h : Int) (b : Bool) (l : List Bool) (hz : gchk w h l.length ≠ 0)
include hz
end
end Go.Proofs.YtbmcfkpljdchoaaDoor

/- The least draft of a valid grid, by both. -/
set_option linter.unusedSimpArgs false
set_option linter.unusedVariables false
set_option maxRecDepth 100000
namespace Go.Proofs.YtbmcfkpljdchoaaDoor
open Go Go.Proofs Go.AW

/-- The tie-up of the least draft. -/
def uF (W : Nat) (l : List Bool) (es ps : List Nat) (t s : Nat) : Bool := l.getD (W * ps.getD t 0 + es.getD s 0) false
theorem fC_lt (W H : Nat) (l : List Bool) : ∀ j, j < (fC W H l).length → (fC W H l).getD j 0 < W := fun j hj =>
  knd_first _ _ _ (by rw [List.getD_eq_getElem?_getD, List.getElem?_eq_getElem hj]; exact List.getElem_mem hj)
theorem fR_lt (W H : Nat) (l : List Bool) : ∀ j, j < (fR W H l).length → (fR W H l).getD j 0 < H := fun j hj =>
  knd_first _ _ _ (by rw [List.getD_eq_getElem?_getD, List.getElem?_eq_getElem hj]; exact List.getElem_mem hj)
section
variable {W H : Nat} (hW1 : 1 ≤ W) (hW : W ≤ 64) (hH1 : 1 ≤ H) (hH : H ≤ 64) (b : Bool) {l : List Bool} (hn : l.length = W * H)
include hW1 hW hH1 hH hn
theorem ofP_many (hm : 40 < (fC W H l).length ∨ 40 < (fR W H l).length) : Contract Tryd.prog 14 [GA W H b l] (.tuple [DR 0 0 true [] true [] 0 0 true [], I 4]) := by
  have h1 := both_c hW1 hW hH1 hH b hn
  have n1 := nI_len (fC W H l)
  have n2 := nI_len (fR W H l)
  generalize kC W H l = a1 at *
  generalize fC W H l = a2 at *
  generalize kR W H l = a3 at *
  generalize fR W H l = a4 at *
  refine Contract.intro (effS [] false) 6 follows Tryd.func14 rfl rfl (by kernel_rfl) (Nat.le_of_ble_eq_true rfl) ?_
  simp (disch := first | assumption | omega | rfl | simp only [RH]) only [↓RP, RG, FX, RQ, ↓reduceIte, Nat.reduceEqDiff, reduceCtorEq, Nat.reduceBEq, Nat.reduceAdd, Nat.reduceLeDiff, args0_1]
  refine callK_F 6 h1 (by simp (disch := first | assumption | omega | rfl | simp only [RH]) only [↓RP, RG, FX, RQ, ↓reduceIte, Nat.reduceEqDiff, reduceCtorEq, Nat.reduceBEq, Nat.reduceAdd, Nat.reduceLeDiff, RA] <;> rfl) (.inl (by simp [allFresh, ints_fresh])) ?_
  simp (disch := first | assumption | omega | rfl | simp only [RH]) only [↓RP, RG, FX, RQ, ↓reduceIte, Nat.reduceEqDiff, reduceCtorEq, Nat.reduceBEq, Nat.reduceAdd, Nat.reduceLeDiff, n1, n2]
  refine loopK_I [1, 2, 3, 4, 5, 6, 7, 32, 33] (fun z : Nat => z ≤ 2 ∧ (0 < z → a2.length ≤ 40) ∧ (1 < z → a4.length ≤ 40)) (fun z : Nat => ⟨[(1, .ptr 0 0 3), (2, .ptr 1 0 7), (3, I 0), (4, LN a1), (5, LN a2), (6, LN a3), (7, LN a4), (32, .agg [I a2.length, I a4.length]), (33, I z)], [⟨24, 3, [I W, I H, BA b l]⟩, ⟨38, 7, [I 0, I 0, .cap0 true, .cap0 true, I 0, I 0, .cap0 true]⟩]⟩) (fun z => 2 - z) 0 ⟨by omega, by omega, by omega⟩ (by simp only [↓RP, RG, FX, RQ, ↓reduceIte, Nat.reduceEqDiff, reduceCtorEq, Nat.reduceBEq, Nat.reduceAdd, Nat.reduceLeDiff]; rfl) ?_
  rintro z ⟨hz, hz1, hz2⟩
  have hc : z = 0 ∨ z = 1 ∨ z = 2 := by omega
  rcases hc with rfl | rfl | rfl
  · by_cases c1 : 40 < (a2.length : Int)
    · simp (disch := first | assumption | omega | rfl | simp only [RH]) only [↓RP, RG, FX, RQ, ↓reduceIte, Nat.reduceEqDiff, reduceCtorEq, Nat.reduceBEq, Nat.reduceAdd, Nat.reduceLeDiff, opK_index, idxA_agg, idxA_spot, limE]
      rw [resVal_2 rfl]; simp (disch := first | assumption | omega | rfl | simp only [RH]) only [↓RP, RG, FX, RQ, ↓reduceIte, Nat.reduceEqDiff, reduceCtorEq, Nat.reduceBEq, Nat.reduceAdd, Nat.reduceLeDiff, RS]
      first | done | rfl
    · simp (disch := first | assumption | omega | rfl | simp only [RH]) only [↓RP, RG, FX, RQ, ↓reduceIte, Nat.reduceEqDiff, reduceCtorEq, Nat.reduceBEq, Nat.reduceAdd, Nat.reduceLeDiff, opK_index, idxA_agg, idxA_spot, limE]
      exact ⟨1, ⟨by omega, by omega, by omega⟩, rfl, by omega⟩
  · have := hz1 (by omega)
    simp (disch := first | assumption | omega | rfl | simp only [RH]) only [↓RP, RG, FX, RQ, ↓reduceIte, Nat.reduceEqDiff, reduceCtorEq, Nat.reduceBEq, Nat.reduceAdd, Nat.reduceLeDiff, opK_index, idxA_agg, idxA_spot, limE]
    rw [resVal_2 rfl]; simp (disch := first | assumption | omega | rfl | simp only [RH]) only [↓RP, RG, FX, RQ, ↓reduceIte, Nat.reduceEqDiff, reduceCtorEq, Nat.reduceBEq, Nat.reduceAdd, Nat.reduceLeDiff, RS]
    first | done | rfl
  · exfalso
    have := hz1 (by omega)
    have := hz2 (by omega)
    omega
theorem ofP_c (c1 : (fC W H l).length ≤ 40) (c2 : (fR W H l).length ≤ 40) : Contract Tryd.prog 14 [GA W H b l]
    (.tuple [DR (fC W H l).length (fR W H l).length (nI (kC W H l)).isEmpty (nI (kC W H l)) (nI (kR W H l)).isEmpty (nI (kR W H l)) (fR W H l).length (fC W H l).length (tabN (fR W H l).length (uF W l (fC W H l) (fR W H l)) ((fR W H l).length * (fC W H l).length)).isEmpty (tabN (fR W H l).length (uF W l (fC W H l) (fR W H l)) ((fR W H l).length * (fC W H l).length)), I 0]) := by
  have h1 := both_c hW1 hW hH1 hH b hn
  have n1 := nI_len (fC W H l)
  have n2 := nI_len (fR W H l)
  have hCl := fC_lt W H l
  have hRl := fR_lt W H l
  generalize kC W H l = a1 at *
  generalize fC W H l = a2 at *
  generalize kR W H l = a3 at *
  generalize fR W H l = a4 at *
  refine Contract.intro (effS [] false) 6 follows Tryd.func14 rfl rfl (by kernel_rfl) (Nat.le_of_ble_eq_true rfl) ?_
  simp (disch := first | assumption | omega | rfl | simp only [RH]) only [↓RP, RG, FX, RQ, ↓reduceIte, Nat.reduceEqDiff, reduceCtorEq, Nat.reduceBEq, Nat.reduceAdd, Nat.reduceLeDiff, args0_1]
  refine callK_F 6 h1 (by simp (disch := first | assumption | omega | rfl | simp only [RH]) only [↓RP, RG, FX, RQ, ↓reduceIte, Nat.reduceEqDiff, reduceCtorEq, Nat.reduceBEq, Nat.reduceAdd, Nat.reduceLeDiff, RA] <;> rfl) (.inl (by simp [allFresh, ints_fresh])) ?_
  simp (disch := first | assumption | omega | rfl | simp only [RH]) only [↓RP, RG, FX, RQ, ↓reduceIte, Nat.reduceEqDiff, reduceCtorEq, Nat.reduceBEq, Nat.reduceAdd, Nat.reduceLeDiff, n1, n2]
  refine loopK_I [1, 2, 3, 4, 5, 6, 7, 32, 33] (fun z : Nat => z ≤ 2) (fun z : Nat => ⟨[(1, .ptr 0 0 3), (2, .ptr 1 0 7), (3, I 0), (4, LN a1), (5, LN a2), (6, LN a3), (7, LN a4), (32, .agg [I a2.length, I a4.length]), (33, I z)], [⟨24, 3, [I W, I H, BA b l]⟩, ⟨38, 7, [I 0, I 0, .cap0 true, .cap0 true, I 0, I 0, .cap0 true]⟩]⟩) (fun z => 2 - z) 0 (by omega) (by simp only [↓RP, RG, FX, RQ, ↓reduceIte, Nat.reduceEqDiff, reduceCtorEq, Nat.reduceBEq, Nat.reduceAdd, Nat.reduceLeDiff]; rfl) ?_
  intro z hz
  have hc : z = 0 ∨ z = 1 ∨ z = 2 := by omega
  rcases hc with rfl | rfl | rfl
  · simp (disch := first | assumption | omega | rfl | simp only [RH]) only [↓RP, RG, FX, RQ, ↓reduceIte, Nat.reduceEqDiff, reduceCtorEq, Nat.reduceBEq, Nat.reduceAdd, Nat.reduceLeDiff, opK_index, idxA_agg, idxA_spot, limE]
    exact ⟨1, by omega, rfl, by omega⟩
  · simp (disch := first | assumption | omega | rfl | simp only [RH]) only [↓RP, RG, FX, RQ, ↓reduceIte, Nat.reduceEqDiff, reduceCtorEq, Nat.reduceBEq, Nat.reduceAdd, Nat.reduceLeDiff, opK_index, idxA_agg, idxA_spot, limE]
    exact ⟨2, by omega, rfl, by omega⟩
  simp (disch := first | assumption | omega | rfl | simp only [RH]) only [↓RP, RG, FX, RQ, ↓reduceIte, Nat.reduceEqDiff, reduceCtorEq, Nat.reduceBEq, Nat.reduceAdd, Nat.reduceLeDiff, n1, n2]
  refine loopK_W [1, 2, 3, 7, 11, 57, 58, 59] (fun s : Nat => s ≤ a2.length) (fun s : Nat => ⟨[(1, .ptr 0 0 3), (2, .ptr 1 0 7), (3, I 0), (7, LN a4), (11, .ptr 2 0 7), (57, LN a2), (58, I a2.length), (59, I s)], [⟨24, 3, [I W, I H, BA b l]⟩, ⟨38, 7, [I 0, I 0, .cap0 true, .cap0 true, I 0, I 0, .cap0 true]⟩, ⟨38, 7, [I a2.length, I a4.length, LN a1, LN a3, I a4.length, I a2.length, gw true 3 (bools (tabN a4.length (uF W l a2 a4) (a4.length * s)))]⟩, go 4 (bools (tabN a4.length (uF W l a2 a4) (a4.length * s)))]⟩) (fun s => a2.length - s) 0 (by omega) ?_ ?_
  · simp only [↓RP, RG, FX, RQ, ↓reduceIte, Nat.reduceEqDiff, reduceCtorEq, Nat.reduceBEq, Nat.reduceAdd, Nat.reduceLeDiff]
    exact Wk.weak (fun t => .refl _) (.cons _ _ _ _ (WL.refl _) (.cons _ _ _ _ (WL.refl _) (.cons _ _ _ _ (.cons (.refl _) (.cons (.refl _) (.cons (.refl _) (.cons (.refl _) (.cons (.refl _) (.cons (.refl _) (.cons (.nil _) .nil))))))) (.nil _ (by simp [go, bools, tabN])))))
  intro s hs
  by_cases hs2 : s < a2.length
  · have hcs := hCl s hs2
    have g1 := nI_get a2 s
    simp (disch := first | assumption | omega | rfl | simp only [RH]) only [↓RP, RG, FX, RQ, ↓reduceIte, Nat.reduceEqDiff, reduceCtorEq, Nat.reduceBEq, Nat.reduceAdd, Nat.reduceLeDiff, n1, g1]
    refine loopK_I [1, 2, 3, 7, 11, 13, 57, 58, 59, 63, 64, 65] (fun t : Nat => t ≤ a4.length) (fun t : Nat => ⟨[(1, .ptr 0 0 3), (2, .ptr 1 0 7), (3, I 0), (7, LN a4), (11, .ptr 2 0 7), (13, I (a2.getD s 0 : Nat)), (57, LN a2), (58, I a2.length), (59, I s), (63, LN a4), (64, I a4.length), (65, I t)], [⟨24, 3, [I W, I H, BA b l]⟩, ⟨38, 7, [I 0, I 0, .cap0 true, .cap0 true, I 0, I 0, .cap0 true]⟩, ⟨38, 7, [I a2.length, I a4.length, LN a1, LN a3, I a4.length, I a2.length, gw true 3 (bools (tabN a4.length (uF W l a2 a4) (a4.length * s + t)))]⟩, go 4 (bools (tabN a4.length (uF W l a2 a4) (a4.length * s + t)))]⟩) (fun t => a4.length - t) 0 (by omega) (by simp only [↓RP, RG, FX, RQ, ↓reduceIte, Nat.reduceEqDiff, reduceCtorEq, Nat.reduceBEq, Nat.reduceAdd, Nat.reduceLeDiff, n2]; rfl) ?_
    intro t ht
    by_cases ht2 : t < a4.length
    · have hrt := hRl t ht2
      have g2 := nI_get a4 t
      have hil := idx_lt hcs hrt
      have m1 : ((a4.getD t 0 : Nat) : Int) * (W : Int) = ((W * a4.getD t 0 : Nat) : Int) := by rw [Int.natCast_mul, Int.mul_comm]
      have hWH : W * H ≤ 64 * 64 := Nat.mul_le_mul hW hH
      have m2 : ((W * a4.getD t 0 : Nat) : Int) + ((a2.getD s 0 : Nat) : Int) = ((W * a4.getD t 0 + a2.getD s 0 : Nat) : Int) := by omega
      have hbl : (tabN a4.length (uF W l a2 a4) (a4.length * s + t)).length ≤ 1000000000 := by
        rw [tabN_len]
        have : a4.length * s ≤ 40 * 40 := Nat.mul_le_mul (by omega) (by omega)
        omega
      simp (disch := first | assumption | omega | rfl | simp only [RH]) only [↓RP, RG, FX, RQ, ↓reduceIte, Nat.reduceEqDiff, reduceCtorEq, Nat.reduceBEq, Nat.reduceAdd, Nat.reduceLeDiff, g2, n2, m1, m2, append_bool, Int.toNat_natCast]
      exact ⟨t + 1, by omega, by rw [show a4.length * s + (t + 1) = a4.length * s + t + 1 from rfl, tabN_succ a4.length (uF W l a2 a4) ht2]; rfl, by omega⟩
    · obtain rfl : t = a4.length := by omega
      simp (disch := first | assumption | omega | rfl | simp only [RH]) only [↓RP, RG, FX, RQ, ↓reduceIte, Nat.reduceEqDiff, reduceCtorEq, Nat.reduceBEq, Nat.reduceAdd, Nat.reduceLeDiff, n2]
      exact ⟨s + 1, by omega, rfl, by omega⟩
  · obtain rfl : s = a2.length := by omega
    simp (disch := first | assumption | omega | rfl | simp only [RH]) only [↓RP, RG, FX, RQ, ↓reduceIte, Nat.reduceEqDiff, reduceCtorEq, Nat.reduceBEq, Nat.reduceAdd, Nat.reduceLeDiff, n1]
    rw [resVal_2 rfl]; simp (disch := first | assumption | omega | rfl | simp only [RH]) only [↓RP, RG, FX, RQ, ↓reduceIte, Nat.reduceEqDiff, reduceCtorEq, Nat.reduceBEq, Nat.reduceAdd, Nat.reduceLeDiff, RS]
    first | done | (simp only [bools_isEmpty, Bool.true_and])
end
end Go.Proofs.YtbmcfkpljdchoaaDoor

/- The least draft of a valid grid, by the reference. -/
set_option linter.unusedSimpArgs false
set_option linter.unusedVariables false
set_option maxRecDepth 100000
namespace Go.Proofs.YtbmcfkpljdchoaaDoor
open Go Go.Proofs Go.AW

section
variable {W H : Nat} (hW1 : 1 ≤ W) (hW : W ≤ 64) (hH1 : 1 ≤ H) (hH : H ≤ 64) (b : Bool) {l : List Bool} (hn : l.length = W * H)
include hW1 hW hH1 hH hn
end
end Go.Proofs.YtbmcfkpljdchoaaDoor

/- Both give the same kinds and drafts: the law FactorKinds. -/
set_option linter.unusedSimpArgs false
set_option linter.unusedVariables false
set_option maxRecDepth 100000
namespace Go.Proofs.YtbmcfkpljdchoaaDoor
open Go Go.Proofs Go.AW

section
variable (w h : Int) (b : Bool) (l : List Bool)
theorem gcases : gchk w h l.length ≠ 0 ∨ ∃ W H : Nat, w = W ∧ h = H ∧ gchk w h l.length = 0 ∧ 1 ≤ W ∧ W ≤ 64 ∧ 1 ≤ H ∧ H ≤ 64 ∧ l.length = W * H := by
  by_cases ck : gchk w h l.length = 0
  · obtain ⟨g1, g2, g3, g4, g5⟩ := gchk_iff.1 ck
    refine .inr ⟨w.toNat, h.toNat, by omega, by omega, ck, by omega, by omega, by omega, by omega, ?_⟩
    have e1 : w = (w.toNat : Int) := by omega
    have e2 : h = (h.toNat : Int) := by omega
    rw [e1, e2, ← Int.natCast_mul] at g5
    omega
  · exact .inl ck
theorem kC_len (W H : Nat) (l : List Bool) : (kC W H l).length = W := knd_len _ _
theorem kR_len (W H : Nat) (l : List Bool) : (kR W H l).length = H := knd_len _ _
end
end Go.Proofs.YtbmcfkpljdchoaaDoor

/- Tables for the run of closed code. -/
set_option maxRecDepth 100000
set_option linter.unusedSimpArgs false
namespace Go.Proofs.YtbmcfkpljdchoaaDoor
open Go Go.Proofs Go.AW
noncomputable def tabE : List (Nat × EffF) := [] ++ [8, 10, 12, 14, 16, 20, 21, 24, 26, 34, 35, 36, 37, 38, 39, 41, 42, 43, 45, 48, 49, 50, 51, 52, 53, 54, 55, 56, 57, 58, 59, 60, 61, 62, 63, 64, 65, 66, 67, 68, 70, 71, 72, 73, 74, 75, 76, 77, 78, 79, 80, 81, 83, 84, 85, 86, 88, 89, 91].map fun f => (f, effS [] false)
theorem tabE_ok : tabE.all (chkE Tryd.prog) = true := by kernel_rfl
noncomputable def tabS : List (Nat × (Array Value → Sem Value)) := [(82, Extern.BytealgCount.count), (90, Extern.BytealgIndexByte.indexByte)]
noncomputable def xT : XT := ⟨lookE tabE, hasN [49, 50, 55, 56, 57, 68], extE Tryd.prog [69] tabS, noOrc⟩
theorem xExt : ∀ f avs v, extE Tryd.prog [69] tabS f avs = some v → ExtOk Tryd.prog f avs v := extE_ok (fun f hf => by
  simp only [List.mem_cons, List.not_mem_nil, or_false] at hf
  rcases hf with rfl
  · exact ⟨_, Tryd.func69, by kernel_rfl, by kernel_rfl, by kernel_rfl, by kernel_rfl⟩
  ) (fun p hp => by
  simp only [tabS, List.mem_cons, List.not_mem_nil, or_false] at hp
  rcases hp with rfl | rfl
  · exact ⟨_, Tryd.func82, by kernel_rfl, by kernel_rfl, by kernel_rfl, by kernel_rfl⟩
  · exact ⟨_, Tryd.func90, by kernel_rfl, by kernel_rfl, by kernel_rfl, by kernel_rfl⟩
  )
theorem xGood : xT.Good Tryd.prog := XT.good follows tabE_ok xExt noOrc_ok
end Go.Proofs.YtbmcfkpljdchoaaDoor

/- Drafts: drawdowns and lifts as values; turned. -/
set_option linter.unusedSimpArgs false
set_option linter.unusedVariables false
set_option maxRecDepth 100000
namespace Go.Proofs.YtbmcfkpljdchoaaDoor
open Go Go.Proofs Go.AW

theorem clone_c (b : Bool) (l : List Int) (hl : l.length ≤ 1000000000000) (hb : b = true → l = []) : Contract Tryd.prog 44 [LA b l] (LR b l) := by
  refine Contract.intro (effS [] false) 6 follows Tryd.func44 rfl rfl (by kernel_rfl) (Nat.le_of_ble_eq_true rfl) ?_
  cases b with
  | true =>
    obtain rfl := hb rfl
    simp (disch := first | assumption | omega | rfl | simp only [RH]) only [↓RP, RG, FX, RQ, ↓reduceIte, Nat.reduceEqDiff, reduceCtorEq, Nat.reduceBEq, Nat.reduceAdd, Nat.reduceLeDiff, args0_1]
    rw [resVal_1 rfl]; simp (disch := first | assumption | omega | rfl | simp only [RH]) only [↓RP, RG, FX, RQ, ↓reduceIte, Nat.reduceEqDiff, reduceCtorEq, Nat.reduceBEq, Nat.reduceAdd, Nat.reduceLeDiff, RS]
    first | done | rfl
  | false =>
    simp (disch := first | assumption | omega | rfl | simp only [RH]) only [↓RP, RG, FX, RQ, ↓reduceIte, Nat.reduceEqDiff, reduceCtorEq, Nat.reduceBEq, Nat.reduceAdd, Nat.reduceLeDiff, args0_1, copy_ints]
    rw [resVal_1 rfl]; simp (disch := first | assumption | omega | rfl | simp only [RH]) only [↓RP, RG, FX, RQ, ↓reduceIte, Nat.reduceEqDiff, reduceCtorEq, Nat.reduceBEq, Nat.reduceAdd, Nat.reduceLeDiff, RS]
    first | done | simp

theorem uT_twice {S T : Nat} {l : List Bool} (hn : l.length = T * S) : tabN T (uT S (tabN S (uT T l) (S * T))) (T * S) = l := by
  apply List.ext_getElem
  · rw [tabN_len, hn]
  intro i h1 h2
  rw [tabN_len] at h1
  have hT : 0 < T := by rcases Nat.eq_zero_or_pos T with h | h; · subst h; simp at h1
                        · exact h
  have hx : i % T < T := Nat.mod_lt _ hT
  have hy : i / T < S := by rw [Nat.div_lt_iff_lt_mul hT, Nat.mul_comm]; exact h1
  have hi : T * (i / T) + i % T = i := Nat.div_add_mod i T
  have e1 := tabN_get T (uT S (tabN S (uT T l) (S * T))) (n := T * S) (y := i / T) (x := i % T) hx (by rw [hi]; exact h1)
  rw [hi] at e1
  have e2 : (tabN T (uT S (tabN S (uT T l) (S * T))) (T * S))[i]'(by rw [tabN_len]; exact h1) = (tabN T (uT S (tabN S (uT T l) (S * T))) (T * S)).getD i false := by
    rw [List.getD_eq_getElem?_getD, List.getElem?_eq_getElem (by rw [tabN_len]; exact h1)]; rfl
  have e3 := tabN_get S (uT T l) (n := S * T) (y := i % T) (x := i / T) hy (idx_lt hy hx)
  have e4 : uT S (tabN S (uT T l) (S * T)) (i % T) (i / T) = (tabN S (uT T l) (S * T)).getD (S * (i % T) + i / T) false := by
    show (tabN S (uT T l) (S * T)).getD _ false = _
    rw [idx_nat]
  have e5 : uT T l (i / T) (i % T) = l.getD i false := by
    show l.getD _ false = _
    rw [idx_nat, hi]
  rw [e2, e1, e4, e3, e5, List.getD_eq_getElem?_getD, List.getElem?_eq_getElem h2]; rfl

theorem turnP_c {S T : Nat} {th td : List Int} (b3 : Bool) {l : List Bool} (hd : dOk S T th td T S l.length) :
    Contract Tryd.prog 25 [DA S T false th false td T S b3 l] (.tuple [DR T S false td false th S T false (tabN S (uT T l) (S * T)), I 0]) := by
  have e1 := hd.2.2.1
  have e2 := hd.2.2.2.1
  obtain ⟨g1, g2, g3, g4, g5⟩ := hd.2.2.2.2.2.2.1
  have hn : l.length = T * S := by rw [← Int.natCast_mul] at g5; omega
  refine Contract.intro (effS [] false) 6 follows Tryd.func25 rfl rfl (by kernel_rfl) (Nat.le_of_ble_eq_true rfl) ?_
  simp (disch := first | assumption | omega | rfl | simp only [RH]) only [↓RP, RG, FX, RQ, ↓reduceIte, Nat.reduceEqDiff, reduceCtorEq, Nat.reduceBEq, Nat.reduceAdd, Nat.reduceLeDiff, args0_1]
  refine callK_F 6 (dcheckP_c S T false th false td T S b3 l (by omega) (by omega)) (by simp (disch := first | assumption | omega | rfl | simp only [RH]) only [↓RP, RG, FX, RQ, ↓reduceIte, Nat.reduceEqDiff, reduceCtorEq, Nat.reduceBEq, Nat.reduceAdd, Nat.reduceLeDiff, RA] <;> rfl) (.inl (by simp [allFresh, ints_fresh, bools_fresh])) ?_
  simp (disch := first | assumption | omega | rfl | simp only [RH]) only [↓RP, RG, FX, RQ, ↓reduceIte, Nat.reduceEqDiff, reduceCtorEq, Nat.reduceBEq, Nat.reduceAdd, Nat.reduceLeDiff, dchk_ok hd]
  refine callK_F 6 (gturnP_c (W := T) (H := S) (by omega) (by omega) (by omega) (by omega) b3 hn) (by simp (disch := first | assumption | omega | rfl | simp only [RH]) only [↓RP, RG, FX, RQ, ↓reduceIte, Nat.reduceEqDiff, reduceCtorEq, Nat.reduceBEq, Nat.reduceAdd, Nat.reduceLeDiff, RA] <;> rfl) (.inl (by simp [allFresh, ints_fresh, bools_fresh])) ?_
  simp (disch := first | assumption | omega | rfl | simp only [RH]) only [↓RP, RG, FX, RQ, ↓reduceIte, Nat.reduceEqDiff, reduceCtorEq, Nat.reduceBEq, Nat.reduceAdd, Nat.reduceLeDiff]
  refine callK_F 6 (clone_c false td (by omega) (fun h => by cases h)) (by simp (disch := first | assumption | omega | rfl | simp only [RH]) only [↓RP, RG, FX, RQ, ↓reduceIte, Nat.reduceEqDiff, reduceCtorEq, Nat.reduceBEq, Nat.reduceAdd, Nat.reduceLeDiff, RA] <;> rfl) (.inl (by simp [allFresh, ints_fresh, bools_fresh])) ?_
  simp (disch := first | assumption | omega | rfl | simp only [RH]) only [↓RP, RG, FX, RQ, ↓reduceIte, Nat.reduceEqDiff, reduceCtorEq, Nat.reduceBEq, Nat.reduceAdd, Nat.reduceLeDiff]
  refine callK_F 6 (clone_c false th (by omega) (fun h => by cases h)) (by simp (disch := first | assumption | omega | rfl | simp only [RH]) only [↓RP, RG, FX, RQ, ↓reduceIte, Nat.reduceEqDiff, reduceCtorEq, Nat.reduceBEq, Nat.reduceAdd, Nat.reduceLeDiff, RA] <;> rfl) (.inl (by simp [allFresh, ints_fresh, bools_fresh])) ?_
  simp (disch := first | assumption | omega | rfl | simp only [RH]) only [↓RP, RG, FX, RQ, ↓reduceIte, Nat.reduceEqDiff, reduceCtorEq, Nat.reduceBEq, Nat.reduceAdd, Nat.reduceLeDiff]
  rw [resVal_2 rfl]; simp (disch := first | assumption | omega | rfl | simp only [RH]) only [↓RP, RG, FX, RQ, ↓reduceIte, Nat.reduceEqDiff, reduceCtorEq, Nat.reduceBEq, Nat.reduceAdd, Nat.reduceLeDiff, RS]

end Go.Proofs.YtbmcfkpljdchoaaDoor

/- Lists: the place of an element. -/
set_option linter.unusedSimpArgs false
set_option linter.unusedVariables false
set_option maxRecDepth 100000
namespace Go.Proofs.YtbmcfkpljdchoaaDoor
open Go Go.Proofs Go.AW

/-- The place of x among the first k elements, or -1: what a search from the front finds. -/
def IsPl (l : List Int) (x : Int) (k : Nat) (r : Int) : Prop := (∃ i : Nat, i < k ∧ l.getD i 0 = x ∧ (∀ j, j < i → l.getD j 0 ≠ x) ∧ r = i) ∨ ((∀ j, j < k → l.getD j 0 ≠ x) ∧ r = -1)

theorem place_c (b : Bool) (l : List Int) (k : Nat) (x : Int) (hk : k ≤ l.length) (hl : l.length ≤ 1000000) (r : Int) (hr : IsPl l x k r) : Contract Tryd.prog 40 [LA b l, I k, I x] (I r) := by
  refine Contract.intro (effS [] false) 6 follows Tryd.func40 rfl rfl (by kernel_rfl) (Nat.le_of_ble_eq_true rfl) ?_
  simp (disch := first | assumption | omega | rfl | simp only [RH]) only [↓RP, RG, FX, RQ, ↓reduceIte, Nat.reduceEqDiff, reduceCtorEq, Nat.reduceBEq, Nat.reduceAdd, Nat.reduceLeDiff, args0_3]
  refine loopK_I [0, 1, 2, 7] (fun i : Nat => i ≤ k ∧ ∀ j, j < i → l.getD j 0 ≠ x) (fun i : Nat => ⟨[(0, LA b l), (1, I k), (2, I x), (7, I i)], []⟩) (fun i => k - i) 0 ⟨by omega, fun j hj => by omega⟩ (by simp only [↓RP, RG, FX, RQ, ↓reduceIte, Nat.reduceEqDiff, reduceCtorEq, Nat.reduceBEq, Nat.reduceAdd, Nat.reduceLeDiff]; rfl) ?_
  rintro i ⟨hi, hne⟩
  by_cases hlt : i < k
  · by_cases he : l.getD i 0 = x
    · simp (disch := first | assumption | omega | rfl | simp only [RH]) only [↓RP, RG, FX, RQ, ↓reduceIte, Nat.reduceEqDiff, reduceCtorEq, Nat.reduceBEq, Nat.reduceAdd, Nat.reduceLeDiff, Int.toNat_natCast]
      rw [resVal_1 rfl]; simp (disch := first | assumption | omega | rfl | simp only [RH]) only [↓RP, RG, FX, RQ, ↓reduceIte, Nat.reduceEqDiff, reduceCtorEq, Nat.reduceBEq, Nat.reduceAdd, Nat.reduceLeDiff, RS]
      rcases hr with ⟨i', h1, h2, h3, rfl⟩ | ⟨h1, rfl⟩
      · have : i' = i := by
          rcases Nat.lt_trichotomy i' i with h | h | h
          · exact absurd h2 (hne i' h)
          · exact h
          · exact absurd he (h3 i h)
        rw [this]
      · exact absurd he (h1 i hlt)
    · simp (disch := first | assumption | omega | rfl | simp only [RH]) only [↓RP, RG, FX, RQ, ↓reduceIte, Nat.reduceEqDiff, reduceCtorEq, Nat.reduceBEq, Nat.reduceAdd, Nat.reduceLeDiff, Int.toNat_natCast]
      refine ⟨i + 1, ⟨by omega, fun j hj => ?_⟩, rfl, by omega⟩
      by_cases hji : j = i
      · subst hji; exact he
      · exact hne j (by omega)
  · obtain rfl : i = k := by omega
    simp (disch := first | assumption | omega | rfl | simp only [RH]) only [↓RP, RG, FX, RQ, ↓reduceIte, Nat.reduceEqDiff, reduceCtorEq, Nat.reduceBEq, Nat.reduceAdd, Nat.reduceLeDiff]
    rw [resVal_1 rfl]; simp (disch := first | assumption | omega | rfl | simp only [RH]) only [↓RP, RG, FX, RQ, ↓reduceIte, Nat.reduceEqDiff, reduceCtorEq, Nat.reduceBEq, Nat.reduceAdd, Nat.reduceLeDiff, RS]
    rcases hr with ⟨i', h1, h2, h3, rfl⟩ | ⟨h1, rfl⟩
    · exact absurd h2 (hne i' h1)
    · rfl
end Go.Proofs.YtbmcfkpljdchoaaDoor

/- Lists: do they have each number just once? -/
set_option linter.unusedSimpArgs false
set_option linter.unusedVariables false
set_option maxRecDepth 100000
namespace Go.Proofs.YtbmcfkpljdchoaaDoor
open Go Go.Proofs Go.AW

theorem isPl_ex (l : List Int) (x : Int) : ∀ k, ∃ r, IsPl l x k r ∧ (0 ≤ r ↔ ∃ i, i < k ∧ l.getD i 0 = x) := by
  intro k
  induction k with
  | zero => exact ⟨-1, .inr ⟨fun j hj => by omega, rfl⟩, by omega, fun ⟨i, hi, _⟩ => by omega⟩
  | succ k ih =>
    obtain ⟨r, hr, hi⟩ := ih
    rcases hr with ⟨i, h1, h2, h3, h4⟩ | ⟨h1, h2⟩
    · exact ⟨r, .inl ⟨i, by omega, h2, h3, h4⟩, fun _ => ⟨i, by omega, h2⟩, fun _ => by omega⟩
    · by_cases hk : l.getD k 0 = x
      · exact ⟨k, .inl ⟨k, by omega, hk, fun j hj => h1 j hj, rfl⟩, fun _ => ⟨k, by omega, hk⟩, fun _ => by omega⟩
      · refine ⟨-1, .inr ⟨fun j hj => ?_, rfl⟩, by omega, fun ⟨i, h3, h4⟩ => ?_⟩
        · by_cases hjk : j = k
          · subst hjk; exact hk
          · exact h1 j (by omega)
        · by_cases hik : i = k
          · subst hik; exact absurd h4 hk
          · exact absurd h4 (h1 i (by omega))

/-- It is among the elements. -/
def has (l : List Int) (x : Int) : Prop := ∃ i, i < l.length ∧ l.getD i 0 = x
instance (l : List Int) (x : Int) : Decidable (has l x) := by unfold has; infer_instance
end Go.Proofs.YtbmcfkpljdchoaaDoor

/- Lists numbered by first occurrence, by the reference. -/
set_option linter.unusedSimpArgs false
set_option linter.unusedVariables false
set_option maxRecDepth 100000
namespace Go.Proofs.YtbmcfkpljdchoaaDoor
open Go Go.Proofs Go.AW

abbrev rI (l : List Int) (i : Nat) : Int := l.getD i 0
theorem numbered_c (b : Bool) (l : List Int) (hl : l.length ≤ 100000) :
    Contract Tryd.prog 22 [LA b l] (.tuple [LR (nI (knd (rI l) l.length).1).isEmpty (nI (knd (rI l) l.length).1), I ((knd (rI l) l.length).2.length : Nat)]) := by
  refine Contract.intro (effS [] false) 6 follows Tryd.func22 rfl rfl (by kernel_rfl) (Nat.le_of_ble_eq_true rfl) ?_
  simp (disch := first | assumption | omega | rfl | simp only [RH]) only [↓RP, RG, FX, RQ, ↓reduceIte, Nat.reduceEqDiff, reduceCtorEq, Nat.reduceBEq, Nat.reduceAdd, Nat.reduceLeDiff, args0_1]
  refine loopK_W [0, 4, 5, 6] (fun y : Nat => y ≤ l.length) (fun y : Nat => ⟨[(0, LA b l), (4, gw true 0 (ints (nI (knd (rI l) y).1))), (5, I ((knd (rI l) y).2.length : Nat)), (6, I y)], [go 3 (ints (nI (knd (rI l) y).1))]⟩) (fun y => l.length - y) 0 (by omega) ?_ ?_
  · simp only [↓RP, RG, FX, RQ, ↓reduceIte, Nat.reduceEqDiff, reduceCtorEq, Nat.reduceBEq, Nat.reduceAdd, Nat.reduceLeDiff]
    exact Wk.weak (WE.cons _ (.refl _) (WE.cons _ (.nil _) (WE.cons _ (.refl _) (WE.cons _ (.refl _) WE.nil)))) (.nil _ (by simp [go, ints, nI, knd]))
  intro y hy
  by_cases hy2 : y < l.length
  · have hl1 := knd_len (rI l) y
    have hl2 := knd_le (rI l) y
    have hag := @knd_again _ _ (rI l) y
    have hnw := @knd_new _ _ (rI l) y y
    have hkn : knd (rI l) (y + 1) = ((knd (rI l) y).1 ++ [plc (rI l) (knd (rI l) y).2 y], if plc (rI l) (knd (rI l) y).2 y = (knd (rI l) y).2.length then (knd (rI l) y).2 ++ [y] else (knd (rI l) y).2) := rfl
    have hlk := knd_like (rI l) y
    generalize (knd (rI l) y).1 = ks at *
    generalize (knd (rI l) y).2 = fs at *
    have hk1 := nI_len ks
    have hk3 : (ints (nI ks)).length = ks.length := by rw [ints_length, nI_len]
    obtain ⟨p, hp, hpe⟩ := isPl_ex l (l.getD y 0) y
    simp (disch := first | assumption | omega | rfl | simp only [RH]) only [↓RP, RG, FX, RQ, ↓reduceIte, Nat.reduceEqDiff, reduceCtorEq, Nat.reduceBEq, Nat.reduceAdd, Nat.reduceLeDiff]
    refine callK_F 6 (place_c b l y (l.getD y 0) (by omega) (by omega) p hp) (by simp (disch := first | assumption | omega | rfl | simp only [RH]) only [↓RP, RG, FX, RQ, ↓reduceIte, Nat.reduceEqDiff, reduceCtorEq, Nat.reduceBEq, Nat.reduceAdd, Nat.reduceLeDiff, RA] <;> rfl) (.inl (by simp [allFresh, ints_fresh, bools_fresh])) ?_
    rcases hp with ⟨i, h1, h2, h3, rfl⟩ | ⟨h1, rfl⟩
    · have hg := nI_get ks i
      have ha := hag (k := i) (by omega) (y := y) h2
      have hlt := (hlk i (by omega)).1
      rw [ha, if_neg (by omega)] at hkn
      simp (disch := first | assumption | omega | rfl | simp only [RH]) only [↓RP, RG, FX, RQ, ↓reduceIte, Nat.reduceEqDiff, reduceCtorEq, Nat.reduceBEq, Nat.reduceAdd, Nat.reduceLeDiff, append_int, hg, Int.toNat_natCast]
      exact ⟨y + 1, by omega, by rw [hkn]; simp only [nI_app]; rfl, by omega⟩
    · have hn := hnw h1
      rw [hn, if_pos rfl] at hkn
      simp (disch := first | assumption | omega | rfl | simp only [RH]) only [↓RP, RG, FX, RQ, ↓reduceIte, Nat.reduceEqDiff, reduceCtorEq, Nat.reduceBEq, Nat.reduceAdd, Nat.reduceLeDiff, append_int]
      refine ⟨y + 1, by omega, ?_, by omega⟩
      rw [hkn]
      simp only [nI_app, List.length_append, List.length_singleton]
      rfl
  · obtain rfl : y = l.length := by omega
    simp (disch := first | assumption | omega | rfl | simp only [RH]) only [↓RP, RG, FX, RQ, ↓reduceIte, Nat.reduceEqDiff, reduceCtorEq, Nat.reduceBEq, Nat.reduceAdd, Nat.reduceLeDiff]
    rw [resVal_2 rfl]; simp (disch := first | assumption | omega | rfl | simp only [RH]) only [↓RP, RG, FX, RQ, ↓reduceIte, Nat.reduceEqDiff, reduceCtorEq, Nat.reduceBEq, Nat.reduceAdd, Nat.reduceLeDiff, RS]
    simp only [Bool.true_and, ints_isEmpty]
end Go.Proofs.YtbmcfkpljdchoaaDoor

/- No draft has fewer shafts or treadles: the law FactorFewest. -/
set_option linter.unusedSimpArgs false
set_option linter.unusedVariables false
set_option maxRecDepth 100000
namespace Go.Proofs.YtbmcfkpljdchoaaDoor
open Go Go.Proofs Go.AW

theorem alive4_c : Contract Tryd.prog 20 [] (B true) := Contract.run xGood 1000 (by kernel_rfl)
/-- A column. -/
def colL (W H : Nat) (l : List Bool) (x : Nat) : List Bool := (List.range H).map fun y => l.getD (W * y + x) false
theorem col_row {W H : Nat} {l : List Bool} {x : Nat} (hx : x < W) : rowN H (tgL W H l) x = colL W H l x := by
  unfold rowN colL
  refine List.map_congr_left fun y hy => ?_
  have hy' : y < H := by simpa using hy
  have hH : 0 < H := by omega
  rw [tgL, tabN_get H (uT W l) hy' (idx_lt hy' hx), uT, cell, idx_nat]
end Go.Proofs.YtbmcfkpljdchoaaDoor

/- The law FactorFewest. -/
set_option linter.unusedSimpArgs false
set_option linter.unusedVariables false
set_option maxRecDepth 100000
namespace Go.Proofs.YtbmcfkpljdchoaaDoor
open Go Go.Proofs Go.AW

end Go.Proofs.YtbmcfkpljdchoaaDoor

/- Kinds of a turned grid, and its least draft. Plain. -/
set_option linter.unusedSimpArgs false
set_option linter.unusedVariables false
set_option maxRecDepth 100000
namespace Go.Proofs.YtbmcfkpljdchoaaDoor
open Go Go.Proofs Go.AW

theorem tg_twice {W H : Nat} {l : List Bool} (hn : l.length = W * H) : tgL H W (tgL W H l) = l := uT_twice hn
theorem tg_get {W H : Nat} {l : List Bool} {x y : Nat} (hx : x < W) (hy : y < H) : (tgL W H l).getD (H * x + y) false = l.getD (W * y + x) false := by
  rw [tgL, tabN_get H (uT W l) hy (idx_lt hy hx), uT, cell, idx_nat]
theorem kR_turn {W H : Nat} {l : List Bool} : kR H W (tgL W H l) = kC W H l := rfl
theorem fR_turn {W H : Nat} {l : List Bool} : fR H W (tgL W H l) = fC W H l := rfl
theorem kC_turn {W H : Nat} {l : List Bool} (hn : l.length = W * H) : kC H W (tgL W H l) = kR W H l := by
  show (knd (rowN W (tgL H W (tgL W H l))) H).1 = _
  rw [tg_twice hn]; rfl
theorem fC_turn {W H : Nat} {l : List Bool} (hn : l.length = W * H) : fC H W (tgL W H l) = fR W H l := by
  show (knd (rowN W (tgL H W (tgL W H l))) H).2 = _
  rw [tg_twice hn]; rfl
/-- Kinds are numbered by first occurrence. -/
theorem kC_num (W H : Nat) (l : List Bool) : knd (rI (nI (kC W H l))) (nI (kC W H l)).length = (kC W H l, fC W H l) := by
  rw [nI_len, kC_len]
  have := knd_congr (rI (nI (kC W H l))) (rowN H (tgL W H l)) W (fun a b ha hb => by
    show (nI (kC W H l)).getD a 0 = (nI (kC W H l)).getD b 0 ↔ _
    rw [nI_get, nI_get]
    exact ⟨fun h => (knd_iff (rowN H (tgL W H l)) W ha hb).1 (by have : (kC W H l).getD a 0 = (kC W H l).getD b 0 := by omega
                                                                 exact this), fun h => by
      have : (kC W H l).getD a 0 = (kC W H l).getD b 0 := (knd_iff (rowN H (tgL W H l)) W ha hb).2 h
      rw [this]⟩)
  rw [this]; rfl
theorem kC_iff {W H : Nat} {l : List Bool} {x z : Nat} (hx : x < W) (hz : z < W) : (kC W H l).getD x 0 = (kC W H l).getD z 0 ↔ ∀ y, y < H → l.getD (W * y + x) false = l.getD (W * y + z) false := by
  have h1 : (kC W H l).getD x 0 = (kC W H l).getD z 0 ↔ rowN H (tgL W H l) x = rowN H (tgL W H l) z := knd_iff (rowN H (tgL W H l)) W hx hz
  rw [h1, col_row hx, col_row hz]
  constructor
  · intro h y hy
    have := congrArg (fun r : List Bool => r.getD y false) h
    simpa [colL, List.getD_eq_getElem?_getD, List.getElem?_range hy] using this
  · intro h
    refine List.map_congr_left fun y hy => ?_
    exact h y (by simpa using hy)
/-- The tie-up of the least draft. -/
abbrev tieL (W H : Nat) (l : List Bool) : List Bool := tabN (fR W H l).length (uF W l (fC W H l) (fR W H l)) ((fR W H l).length * (fC W H l).length)
theorem tie_turn {W H : Nat} {l : List Bool} (hn : l.length = W * H) : tieL H W (tgL W H l) = tabN (fC W H l).length (uT (fR W H l).length (tieL W H l)) ((fC W H l).length * (fR W H l).length) := by
  unfold tieL
  rw [fR_turn, fC_turn hn]
  refine tabN_congr fun x y hx hy => ?_
  show (tgL W H l).getD (H * (fC W H l).getD x 0 + (fR W H l).getD y 0) false = _
  rw [tg_get (fC_lt W H l x hx) (fR_lt W H l y hy), uT, cell, idx_nat, tabN_get _ _ hy (idx_lt hy hx)]
  rfl
theorem fC_pos {W H : Nat} (hW : 1 ≤ W) (l : List Bool) : 1 ≤ (fC W H l).length := by
  have := (knd_like (rowN H (tgL W H l)) W 0 (by omega)).1
  show 1 ≤ (knd (rowN H (tgL W H l)) W).2.length
  omega
theorem fR_pos {W H : Nat} (hH : 1 ≤ H) (l : List Bool) : 1 ≤ (fR W H l).length := by
  have := (knd_like (rowN W l) H 0 (by omega)).1
  show 1 ≤ (knd (rowN W l) H).2.length
  omega
theorem least_ok {W H : Nat} (hW1 : 1 ≤ W) (hW : W ≤ 64) (hH1 : 1 ≤ H) (hH : H ≤ 64) (l : List Bool) (c1 : (fC W H l).length ≤ 40) (c2 : (fR W H l).length ≤ 40) :
    dOk (fC W H l).length (fR W H l).length (nI (kC W H l)) (nI (kR W H l)) (fR W H l).length (fC W H l).length (tieL W H l).length := by
  have h1 := fC_pos (H := H) hW1 l
  have h2 := fR_pos (W := W) hH1 l
  have k1 := kC_len W H l
  have k2 := kR_len W H l
  refine ⟨by omega, by omega, by rw [nI_len]; omega, by rw [nI_len]; omega, ⟨by rw [nI_len]; omega, fun i hi => ?_⟩, ⟨by rw [nI_len]; omega, fun i hi => ?_⟩, ⟨by omega, by omega, by omega, by omega, ?_⟩, rfl, rfl⟩
  · rw [nI_len, k1] at hi
    have := (knd_like (rowN H (tgL W H l)) W i hi).1
    rw [nI_get]
    have : (kC W H l).getD i 0 < (fC W H l).length := this
    omega
  · rw [nI_len, k2] at hi
    have := (knd_like (rowN W l) H i hi).1
    rw [nI_get]
    have : (kR W H l).getD i 0 < (fR W H l).length := this
    omega
  · rw [tabN_len, Int.natCast_mul]
end Go.Proofs.YtbmcfkpljdchoaaDoor

/- The law FactorKindly. -/
set_option linter.unusedSimpArgs false
set_option linter.unusedVariables false
set_option maxRecDepth 100000
namespace Go.Proofs.YtbmcfkpljdchoaaDoor
open Go Go.Proofs Go.AW

set_option maxHeartbeats 2000000 in
theorem kindly_walk {W H : Nat} (a1 : 1 ≤ W) (a2 : W ≤ 64) (a3 : 1 ≤ H) (a4 : H ≤ 64) (b : Bool) {l : List Bool} (hn : l.length = W * H) (C tg K : List Int) (tgb : List Bool) (n1 n2 : Nat) (m1 : C.length = W)
    (hki : ∀ x z, x < W → z < W → (C.getD x 0 = C.getD z 0 ↔ ∀ y, y < H → l.getD (W * y + x) false = l.getD (W * y + z) false))
    (hgc : Contract Tryd.prog 6 [GA W H b l] (B false)) (hck : Contract Tryd.prog 23 [GA W H b l] (I 0))
    (hco : Contract Tryd.prog 8 [GA W H b l] (.tuple [LR C.isEmpty C, I 0]))
    (hnm : Contract Tryd.prog 22 [LA C.isEmpty C] (.tuple [LR C.isEmpty C, I n1]))
    (hs1 : Contract Tryd.prog 16 [LA C.isEmpty C, LA C.isEmpty C] (B true))
    (htu : Contract Tryd.prog 24 [GA W H b l] (.tuple [GR H W false tgb, I 0]))
    (hrt : Contract Tryd.prog 10 [GA H W false tgb] (.tuple [LR C.isEmpty C, I 0]))
    (hct : Contract Tryd.prog 12 [GA H W false tgb] (.tuple [I n2, I n1, I 0]))
    (hcg : Contract Tryd.prog 12 [GA W H b l] (.tuple [I n1, I n2, I 0])) (htl : tgb.length = H * W)
    (s t : Int) (b1 : Bool) (th : List Int) (b2 : Bool) (td : List Int) (w1 h1 : Int) (b3 : Bool) (L : List Bool) (s' t' : Int) (b1' : Bool) (th' : List Int) (b2' : Bool) (td' : List Int) (w1' h1' : Int) (b3' : Bool) (L' : List Bool) (e : Int)
    (ho1 : Contract Tryd.prog 14 [GA W H b l] (.tuple [DR s t b1 th b2 td w1 h1 b3 L, I e]))
    (ho2 : Contract Tryd.prog 14 [GA H W false tgb] (.tuple [DR s' t' b1' th' b2' td' w1' h1' b3' L', I e]))
    (he : e = 4 ∨ e = 0 ∧ ∃ (b4 b5 b6 : Bool), Contract Tryd.prog 25 [DA s t b1 th b2 td w1 h1 b3 L] (.tuple [DR s' t' b4 th' b5 td' w1' h1' b6 L', I 0]) ∧
      Contract Tryd.prog 17 [DA s' t' b1' th' b2' td' w1' h1' b3' L', DA s' t' b4 th' b5 td' w1' h1' b6 L'] (B true)) :
    Contract Tryd.prog 5 [GA W H b l] (B true) := by
  have hWH : W * H ≤ 64 * 64 := Nat.mul_le_mul a2 a4
  subst m1
  refine Contract.intro (effS [] false) 6 follows Tryd.func5 rfl rfl (by kernel_rfl) (Nat.le_of_ble_eq_true rfl) ?_
  simp (disch := first | assumption | omega | rfl | simp only [RH]) only [↓RP, RG, FX, RQ, ↓reduceIte, Nat.reduceEqDiff, reduceCtorEq, Nat.reduceBEq, Nat.reduceAdd, Nat.reduceLeDiff, args0_1]
  refine callK_F 6 (hgc) (by simp (disch := first | assumption | omega | rfl | simp only [RH]) only [↓RP, RG, FX, RQ, ↓reduceIte, Nat.reduceEqDiff, reduceCtorEq, Nat.reduceBEq, Nat.reduceAdd, Nat.reduceLeDiff, RA] <;> rfl) (.inl (by simp [allFresh, ints_fresh, bools_fresh])) ?_
  simp (disch := first | assumption | omega | rfl | simp only [RH]) only [↓RP, RG, FX, RQ, ↓reduceIte, Nat.reduceEqDiff, reduceCtorEq, Nat.reduceBEq, Nat.reduceAdd, Nat.reduceLeDiff]
  refine callK_F 6 (hck) (by simp (disch := first | assumption | omega | rfl | simp only [RH]) only [↓RP, RG, FX, RQ, ↓reduceIte, Nat.reduceEqDiff, reduceCtorEq, Nat.reduceBEq, Nat.reduceAdd, Nat.reduceLeDiff, RA] <;> rfl) (.inl (by simp [allFresh, ints_fresh, bools_fresh])) ?_
  simp (disch := first | assumption | omega | rfl | simp only [RH]) only [↓RP, RG, FX, RQ, ↓reduceIte, Nat.reduceEqDiff, reduceCtorEq, Nat.reduceBEq, Nat.reduceAdd, Nat.reduceLeDiff]
  refine callK_F 6 hco (by simp (disch := first | assumption | omega | rfl | simp only [RH]) only [↓RP, RG, FX, RQ, ↓reduceIte, Nat.reduceEqDiff, reduceCtorEq, Nat.reduceBEq, Nat.reduceAdd, Nat.reduceLeDiff, RA] <;> rfl) (.inl (by simp [allFresh, ints_fresh])) ?_
  simp (disch := first | assumption | omega | rfl | simp only [RH]) only [↓RP, RG, FX, RQ, ↓reduceIte, Nat.reduceEqDiff, reduceCtorEq, Nat.reduceBEq, Nat.reduceAdd, Nat.reduceLeDiff]
  refine callK_F 6 hnm (by simp (disch := first | assumption | omega | rfl | simp only [RH]) only [↓RP, RG, FX, RQ, ↓reduceIte, Nat.reduceEqDiff, reduceCtorEq, Nat.reduceBEq, Nat.reduceAdd, Nat.reduceLeDiff, RA] <;> rfl) (.inl (by simp [allFresh, ints_fresh])) ?_
  simp (disch := first | assumption | omega | rfl | simp only [RH]) only [↓RP, RG, FX, RQ, ↓reduceIte, Nat.reduceEqDiff, reduceCtorEq, Nat.reduceBEq, Nat.reduceAdd, Nat.reduceLeDiff]
  refine callK_F 6 hs1 (by simp (disch := first | assumption | omega | rfl | simp only [RH]) only [↓RP, RG, FX, RQ, ↓reduceIte, Nat.reduceEqDiff, reduceCtorEq, Nat.reduceBEq, Nat.reduceAdd, Nat.reduceLeDiff, RA] <;> rfl) (.inl rfl) ?_
  simp (disch := first | assumption | omega | rfl | simp only [RH]) only [↓RP, RG, FX, RQ, ↓reduceIte, Nat.reduceEqDiff, reduceCtorEq, Nat.reduceBEq, Nat.reduceAdd, Nat.reduceLeDiff]
  refine loopK_I [1, 3, 6, 7] (fun x : Nat => x ≤ C.length) (fun x : Nat => ⟨[(1, .ptr 0 0 3), (3, LR C.isEmpty C), (6, I n1), (7, I x)], [⟨24, 3, [I C.length, I H, BA b l]⟩]⟩) (fun x => C.length - x) 0 (by omega) (by simp only [↓RP, RG, FX, RQ, ↓reduceIte, Nat.reduceEqDiff, reduceCtorEq, Nat.reduceBEq, Nat.reduceAdd, Nat.reduceLeDiff]; rfl) ?_
  intro x hx
  by_cases hx2 : x < C.length
  · simp (disch := first | assumption | omega | rfl | simp only [RH]) only [↓RP, RG, FX, RQ, ↓reduceIte, Nat.reduceEqDiff, reduceCtorEq, Nat.reduceBEq, Nat.reduceAdd, Nat.reduceLeDiff]
    refine loopK_I [1, 3, 6, 7, 8] (fun z : Nat => z ≤ x) (fun z : Nat => ⟨[(1, .ptr 0 0 3), (3, LR C.isEmpty C), (6, I n1), (7, I x), (8, I z)], [⟨24, 3, [I C.length, I H, BA b l]⟩]⟩) (fun z => x - z) 0 (by omega) (by simp only [↓RP, RG, FX, RQ, ↓reduceIte, Nat.reduceEqDiff, reduceCtorEq, Nat.reduceBEq, Nat.reduceAdd, Nat.reduceLeDiff]; rfl) ?_
    intro z hz
    by_cases hz2 : z < x
    · have hkx := hki x z hx2 (by omega)
      simp (disch := first | assumption | omega | rfl | simp only [RH]) only [↓RP, RG, FX, RQ, ↓reduceIte, Nat.reduceEqDiff, reduceCtorEq, Nat.reduceBEq, Nat.reduceAdd, Nat.reduceLeDiff]
      refine loopK_I [1, 3, 6, 7, 8, 9, 10] (fun y : Nat => y ≤ H) (fun y : Nat => ⟨[(1, .ptr 0 0 3), (3, LR C.isEmpty C), (6, I n1), (7, I x), (8, I z), (9, B (decide (∀ y', y' < y → l.getD (C.length * y' + x) false = l.getD (C.length * y' + z) false))), (10, I y)], [⟨24, 3, [I C.length, I H, BA b l]⟩]⟩) (fun y => H - y) 0 (by omega) (by simp only [↓RP, RG, FX, RQ, ↓reduceIte, Nat.reduceEqDiff, reduceCtorEq, Nat.reduceBEq, Nat.reduceAdd, Nat.reduceLeDiff]; rw [decide_eq_true (fun y' hy' => absurd hy' (by omega))]; rfl) ?_
      intro y hy
      by_cases hy2 : y < H
      · have i1 := idx_lt hx2 hy2
        have i2 := idx_lt (show z < C.length by omega) hy2
        have p1 : (y : Int) * (C.length : Int) = ((C.length * y : Nat) : Int) := by rw [Int.natCast_mul, Int.mul_comm]
        have p2 : ((C.length * y : Nat) : Int) + (x : Int) = ((C.length * y + x : Nat) : Int) := by omega
        have p3 : ((C.length * y : Nat) : Int) + (z : Int) = ((C.length * y + z : Nat) : Int) := by omega
        by_cases hs : ∀ y', y' < y → l.getD (C.length * y' + x) false = l.getD (C.length * y' + z) false
        · rw [decide_eq_true hs]
          simp (disch := first | assumption | omega | rfl | simp only [RH]) only [↓RP, RG, FX, RQ, ↓reduceIte, Nat.reduceEqDiff, reduceCtorEq, Nat.reduceBEq, Nat.reduceAdd, Nat.reduceLeDiff, p1, p2, p3, Int.toNat_natCast]
          refine ⟨y + 1, by omega, ?_, by omega⟩
          have hb : (l.getD (C.length * y + x) false == l.getD (C.length * y + z) false) = decide (∀ y', y' < y + 1 → l.getD (C.length * y' + x) false = l.getD (C.length * y' + z) false) := by
            rw [Bool.eq_iff_iff, beq_iff_eq, decide_eq_true_iff]
            constructor
            · intro hq y' hy'
              by_cases e1 : y' = y
              · subst e1; exact hq
              · exact hs y' (by omega)
            · intro hq; exact hq y (by omega)
          rw [← hb]; rfl
        · have hs' : ¬ ∀ y', y' < y + 1 → l.getD (C.length * y' + x) false = l.getD (C.length * y' + z) false := fun hq => hs fun y' hy' => hq y' (by omega)
          rw [decide_eq_false hs]
          simp (disch := first | assumption | omega | rfl | simp only [RH]) only [↓RP, RG, FX, RQ, ↓reduceIte, Nat.reduceEqDiff, reduceCtorEq, Nat.reduceBEq, Nat.reduceAdd, Nat.reduceLeDiff]
          exact ⟨y + 1, by omega, by rw [decide_eq_false hs']; rfl, by omega⟩
      · obtain rfl : y = H := by omega
        by_cases hs : ∀ y', y' < y → l.getD (C.length * y' + x) false = l.getD (C.length * y' + z) false
        · have hcc := hkx.2 hs
          rw [decide_eq_true hs]
          simp (disch := first | assumption | omega | rfl | simp only [RH]) only [↓RP, RG, FX, RQ, ↓reduceIte, Nat.reduceEqDiff, reduceCtorEq, Nat.reduceBEq, Nat.reduceAdd, Nat.reduceLeDiff, hcc, beq_self_eq_true]
          exact ⟨z + 1, by omega, rfl, by omega⟩
        · have hcc : ¬ C.getD x 0 = C.getD z 0 := fun hq => hs (hkx.1 hq)
          rw [decide_eq_false hs]
          simp (disch := first | assumption | omega | rfl | simp only [RH]) only [↓RP, RG, FX, RQ, ↓reduceIte, Nat.reduceEqDiff, reduceCtorEq, Nat.reduceBEq, Nat.reduceAdd, Nat.reduceLeDiff, beq_self_eq_true]
          exact ⟨z + 1, by omega, rfl, by omega⟩
    · obtain rfl : z = x := by omega
      simp (disch := first | assumption | omega | rfl | simp only [RH]) only [↓RP, RG, FX, RQ, ↓reduceIte, Nat.reduceEqDiff, reduceCtorEq, Nat.reduceBEq, Nat.reduceAdd, Nat.reduceLeDiff]
      exact ⟨z + 1, by omega, rfl, by omega⟩
  · obtain hxe : x = C.length := by omega
    simp (disch := first | assumption | omega | rfl | simp only [RH]) only [↓RP, RG, FX, RQ, ↓reduceIte, Nat.reduceEqDiff, reduceCtorEq, Nat.reduceBEq, Nat.reduceAdd, Nat.reduceLeDiff]
    refine callK_F 6 htu (by simp (disch := first | assumption | omega | rfl | simp only [RH]) only [↓RP, RG, FX, RQ, ↓reduceIte, Nat.reduceEqDiff, reduceCtorEq, Nat.reduceBEq, Nat.reduceAdd, Nat.reduceLeDiff, RA] <;> rfl) (.inl (by simp [allFresh, bools_fresh])) ?_
    simp (disch := first | assumption | omega | rfl | simp only [RH]) only [↓RP, RG, FX, RQ, ↓reduceIte, Nat.reduceEqDiff, reduceCtorEq, Nat.reduceBEq, Nat.reduceAdd, Nat.reduceLeDiff]
    refine callK_F 6 hrt (by simp (disch := first | assumption | omega | rfl | simp only [RH]) only [↓RP, RG, FX, RQ, ↓reduceIte, Nat.reduceEqDiff, reduceCtorEq, Nat.reduceBEq, Nat.reduceAdd, Nat.reduceLeDiff, RA] <;> rfl) (.inl (by simp [allFresh, ints_fresh])) ?_
    simp (disch := first | assumption | omega | rfl | simp only [RH]) only [↓RP, RG, FX, RQ, ↓reduceIte, Nat.reduceEqDiff, reduceCtorEq, Nat.reduceBEq, Nat.reduceAdd, Nat.reduceLeDiff]
    refine callK_F 6 (hct) (by simp (disch := first | assumption | omega | rfl | simp only [RH]) only [↓RP, RG, FX, RQ, ↓reduceIte, Nat.reduceEqDiff, reduceCtorEq, Nat.reduceBEq, Nat.reduceAdd, Nat.reduceLeDiff, RA] <;> rfl) (.inl (by simp [allFresh, ints_fresh, bools_fresh])) ?_
    simp (disch := first | assumption | omega | rfl | simp only [RH]) only [↓RP, RG, FX, RQ, ↓reduceIte, Nat.reduceEqDiff, reduceCtorEq, Nat.reduceBEq, Nat.reduceAdd, Nat.reduceLeDiff]
    refine callK_F 6 (hcg) (by simp (disch := first | assumption | omega | rfl | simp only [RH]) only [↓RP, RG, FX, RQ, ↓reduceIte, Nat.reduceEqDiff, reduceCtorEq, Nat.reduceBEq, Nat.reduceAdd, Nat.reduceLeDiff, RA] <;> rfl) (.inl (by simp [allFresh, ints_fresh, bools_fresh])) ?_
    simp (disch := first | assumption | omega | rfl | simp only [RH]) only [↓RP, RG, FX, RQ, ↓reduceIte, Nat.reduceEqDiff, reduceCtorEq, Nat.reduceBEq, Nat.reduceAdd, Nat.reduceLeDiff]
    refine callK_F 6 hs1 (by simp (disch := first | assumption | omega | rfl | simp only [RH]) only [↓RP, RG, FX, RQ, ↓reduceIte, Nat.reduceEqDiff, reduceCtorEq, Nat.reduceBEq, Nat.reduceAdd, Nat.reduceLeDiff, RA] <;> rfl) (.inl rfl) ?_
    simp (disch := first | assumption | omega | rfl | simp only [RH]) only [↓RP, RG, FX, RQ, ↓reduceIte, Nat.reduceEqDiff, reduceCtorEq, Nat.reduceBEq, Nat.reduceAdd, Nat.reduceLeDiff, beq_self_eq_true]
    refine callK_F 6 ho1 (by simp (disch := first | assumption | omega | rfl | simp only [RH]) only [↓RP, RG, FX, RQ, ↓reduceIte, Nat.reduceEqDiff, reduceCtorEq, Nat.reduceBEq, Nat.reduceAdd, Nat.reduceLeDiff, RA] <;> rfl) (.inl (by simp [allFresh, ints_fresh, bools_fresh])) ?_
    simp (disch := first | assumption | omega | rfl | simp only [RH]) only [↓RP, RG, FX, RQ, ↓reduceIte, Nat.reduceEqDiff, reduceCtorEq, Nat.reduceBEq, Nat.reduceAdd, Nat.reduceLeDiff]
    refine callK_F 6 ho2 (by simp (disch := first | assumption | omega | rfl | simp only [RH]) only [↓RP, RG, FX, RQ, ↓reduceIte, Nat.reduceEqDiff, reduceCtorEq, Nat.reduceBEq, Nat.reduceAdd, Nat.reduceLeDiff, RA] <;> rfl) (.inl (by simp [allFresh, ints_fresh, bools_fresh])) ?_
    rcases he with rfl | ⟨rfl, b4, b5, b6, hT, hS⟩
    · simp (disch := first | assumption | omega | rfl | simp only [RH]) only [↓RP, RG, FX, RQ, ↓reduceIte, Nat.reduceEqDiff, reduceCtorEq, Nat.reduceBEq, Nat.reduceAdd, Nat.reduceLeDiff]
      refine callK_F 6 alive4_c (by rfl) (.inl rfl) ?_
      simp (disch := first | assumption | omega | rfl | simp only [RH]) only [↓RP, RG, FX, RQ, ↓reduceIte, Nat.reduceEqDiff, reduceCtorEq, Nat.reduceBEq, Nat.reduceAdd, Nat.reduceLeDiff]
      rw [resVal_1 rfl]; simp (disch := first | assumption | omega | rfl | simp only [RH]) only [↓RP, RG, FX, RQ, ↓reduceIte, Nat.reduceEqDiff, reduceCtorEq, Nat.reduceBEq, Nat.reduceAdd, Nat.reduceLeDiff, RS]
    · simp (disch := first | assumption | omega | rfl | simp only [RH]) only [↓RP, RG, FX, RQ, ↓reduceIte, Nat.reduceEqDiff, reduceCtorEq, Nat.reduceBEq, Nat.reduceAdd, Nat.reduceLeDiff]
      refine callK_F 6 hT (by simp (disch := first | assumption | omega | rfl | simp only [RH]) only [↓RP, RG, FX, RQ, ↓reduceIte, Nat.reduceEqDiff, reduceCtorEq, Nat.reduceBEq, Nat.reduceAdd, Nat.reduceLeDiff, RA] <;> rfl) (.inl (by simp [allFresh, ints_fresh, bools_fresh])) ?_
      simp (disch := first | assumption | omega | rfl | simp only [RH]) only [↓RP, RG, FX, RQ, ↓reduceIte, Nat.reduceEqDiff, reduceCtorEq, Nat.reduceBEq, Nat.reduceAdd, Nat.reduceLeDiff]
      refine callK_F 6 hS (by simp (disch := first | assumption | omega | rfl | simp only [RH]) only [↓RP, RG, FX, RQ, ↓reduceIte, Nat.reduceEqDiff, reduceCtorEq, Nat.reduceBEq, Nat.reduceAdd, Nat.reduceLeDiff, RA] <;> rfl) (.inl rfl) ?_
      simp (disch := first | assumption | omega | rfl | simp only [RH]) only [↓RP, RG, FX, RQ, ↓reduceIte, Nat.reduceEqDiff, reduceCtorEq, Nat.reduceBEq, Nat.reduceAdd, Nat.reduceLeDiff]
      refine callK_F 6 alive4_c (by rfl) (.inl rfl) ?_
      simp (disch := first | assumption | omega | rfl | simp only [RH]) only [↓RP, RG, FX, RQ, ↓reduceIte, Nat.reduceEqDiff, reduceCtorEq, Nat.reduceBEq, Nat.reduceAdd, Nat.reduceLeDiff]
      rw [resVal_1 rfl]; simp (disch := first | assumption | omega | rfl | simp only [RH]) only [↓RP, RG, FX, RQ, ↓reduceIte, Nat.reduceEqDiff, reduceCtorEq, Nat.reduceBEq, Nat.reduceAdd, Nat.reduceLeDiff, RS]
theorem factorKindly_c (w h : Int) (b : Bool) (l : List Bool) : Contract Tryd.prog 5 [GA w h b l] (B true) := by
  have hgc := great_c w h b l
  by_cases cg : 4200 < (l.length : Int)
  · rw [decide_eq_true cg] at hgc
    refine Contract.intro (effS [] false) 6 follows Tryd.func5 rfl rfl (by kernel_rfl) (Nat.le_of_ble_eq_true rfl) ?_
    simp (disch := first | assumption | omega | rfl | simp only [RH]) only [↓RP, RG, FX, RQ, ↓reduceIte, Nat.reduceEqDiff, reduceCtorEq, Nat.reduceBEq, Nat.reduceAdd, Nat.reduceLeDiff, args0_1]
    refine callK_F 6 (hgc) (by simp (disch := first | assumption | omega | rfl | simp only [RH]) only [↓RP, RG, FX, RQ, ↓reduceIte, Nat.reduceEqDiff, reduceCtorEq, Nat.reduceBEq, Nat.reduceAdd, Nat.reduceLeDiff, RA] <;> rfl) (.inl (by simp [allFresh, ints_fresh, bools_fresh])) ?_
    simp (disch := first | assumption | omega | rfl | simp only [RH]) only [↓RP, RG, FX, RQ, ↓reduceIte, Nat.reduceEqDiff, reduceCtorEq, Nat.reduceBEq, Nat.reduceAdd, Nat.reduceLeDiff]
    refine callK_F 6 alive4_c (by rfl) (.inl rfl) ?_
    simp (disch := first | assumption | omega | rfl | simp only [RH]) only [↓RP, RG, FX, RQ, ↓reduceIte, Nat.reduceEqDiff, reduceCtorEq, Nat.reduceBEq, Nat.reduceAdd, Nat.reduceLeDiff]
    rw [resVal_1 rfl]; simp (disch := first | assumption | omega | rfl | simp only [RH]) only [↓RP, RG, FX, RQ, ↓reduceIte, Nat.reduceEqDiff, reduceCtorEq, Nat.reduceBEq, Nat.reduceAdd, Nat.reduceLeDiff, RS]
  rw [decide_eq_false cg] at hgc
  have hck := gcheckR_c w h b l
  rcases gcases w h l with hz | ⟨W, H, rfl, rfl, hz, a1, a2, a3, a4, hn⟩
  · generalize gchk w h l.length = e at *
    refine Contract.intro (effS [] false) 6 follows Tryd.func5 rfl rfl (by kernel_rfl) (Nat.le_of_ble_eq_true rfl) ?_
    simp (disch := first | assumption | omega | rfl | simp only [RH]) only [↓RP, RG, FX, RQ, ↓reduceIte, Nat.reduceEqDiff, reduceCtorEq, Nat.reduceBEq, Nat.reduceAdd, Nat.reduceLeDiff, args0_1]
    refine callK_F 6 (hgc) (by simp (disch := first | assumption | omega | rfl | simp only [RH]) only [↓RP, RG, FX, RQ, ↓reduceIte, Nat.reduceEqDiff, reduceCtorEq, Nat.reduceBEq, Nat.reduceAdd, Nat.reduceLeDiff, RA] <;> rfl) (.inl (by simp [allFresh, ints_fresh, bools_fresh])) ?_
    simp (disch := first | assumption | omega | rfl | simp only [RH]) only [↓RP, RG, FX, RQ, ↓reduceIte, Nat.reduceEqDiff, reduceCtorEq, Nat.reduceBEq, Nat.reduceAdd, Nat.reduceLeDiff]
    refine callK_F 6 (hck) (by simp (disch := first | assumption | omega | rfl | simp only [RH]) only [↓RP, RG, FX, RQ, ↓reduceIte, Nat.reduceEqDiff, reduceCtorEq, Nat.reduceBEq, Nat.reduceAdd, Nat.reduceLeDiff, RA] <;> rfl) (.inl (by simp [allFresh, ints_fresh, bools_fresh])) ?_
    simp (disch := first | assumption | omega | rfl | simp only [RH]) only [↓RP, RG, FX, RQ, ↓reduceIte, Nat.reduceEqDiff, reduceCtorEq, Nat.reduceBEq, Nat.reduceAdd, Nat.reduceLeDiff]
    refine callK_F 6 alive4_c (by rfl) (.inl rfl) ?_
    simp (disch := first | assumption | omega | rfl | simp only [RH]) only [↓RP, RG, FX, RQ, ↓reduceIte, Nat.reduceEqDiff, reduceCtorEq, Nat.reduceBEq, Nat.reduceAdd, Nat.reduceLeDiff]
    rw [resVal_1 rfl]; simp (disch := first | assumption | omega | rfl | simp only [RH]) only [↓RP, RG, FX, RQ, ↓reduceIte, Nat.reduceEqDiff, reduceCtorEq, Nat.reduceBEq, Nat.reduceAdd, Nat.reduceLeDiff, RS]
  rw [hz] at hck
  have htl := tgL_len W H l
  have hco := columnsP_c a1 a2 a3 a4 b hn
  have hnm := numbered_c (nI (kC W H l)).isEmpty (nI (kC W H l)) (by rw [nI_len, kC_len]; omega)
  rw [kC_num] at hnm
  have htu := gturnP_c (by omega) (by omega) a2 a4 b hn
  rw [show tabN H (uT W l) (H * W) = tgL W H l from rfl] at htu
  have hrt := rowsP_c a3 a4 a1 a2 false htl
  have hct := countP_c a3 a4 a1 a2 false htl
  have hcg := countP_c a1 a2 a3 a4 b hn
  rw [kR_turn] at hrt
  rw [fC_turn hn, fR_turn] at hct
  have hs1 := same02_c (nI (kC W H l)).isEmpty (nI (kC W H l)).isEmpty (nI (kC W H l)) (nI (kC W H l)) (by rw [nI_len, kC_len]; omega)
  rw [decide_eq_true rfl] at hs1
  have m1 : (nI (kC W H l)).length = W := by rw [nI_len, kC_len]
  have hki : ∀ x z, x < W → z < W → ((nI (kC W H l)).getD x 0 = (nI (kC W H l)).getD z 0 ↔ ∀ y, y < H → l.getD (W * y + x) false = l.getD (W * y + z) false) := fun x z hx hz => by
    rw [← kC_iff hx hz, nI_get, nI_get]
    omega
  simp only [LN] at hco hrt
  by_cases hm : 40 < (fC W H l).length ∨ 40 < (fR W H l).length
  · have ho1 := ofP_many a1 a2 a3 a4 b hn hm
    have ho2 := ofP_many a3 a4 a1 a2 false htl (by rw [fC_turn hn, fR_turn]; exact hm.symm)
    exact kindly_walk a1 a2 a3 a4 b hn (nI (kC W H l)) [] [] (tgL W H l) (fC W H l).length (fR W H l).length m1 hki hgc hck hco hnm hs1 htu hrt hct hcg htl _ _ _ _ _ _ _ _ _ _ _ _ _ _ _ _ _ _ _ _ 4 ho1 ho2 (.inl rfl)
  · have ho1 := ofP_c a1 a2 a3 a4 b hn (by omega) (by omega)
    have ho2 := ofP_c a3 a4 a1 a2 false htl (by rw [fC_turn hn]; omega) (by rw [fR_turn]; omega)
    have hd := least_ok a1 a2 a3 a4 l (by omega) (by omega)
    have htt := tie_turn hn
    unfold tieL at htt
    rw [fC_turn hn, fR_turn] at htt
    rw [fC_turn hn, fR_turn, kC_turn hn, kR_turn, htt] at ho2
    have e1 : (nI (kC W H l)).isEmpty = false := by
      cases hc : nI (kC W H l) with
      | nil => rw [hc] at m1; simp at m1; omega
      | cons x r => rfl
    have e2 : (nI (kR W H l)).isEmpty = false := by
      cases hc : nI (kR W H l) with
      | nil =>
        have := nI_len (kR W H l)
        rw [hc, kR_len] at this; simp at this; omega
      | cons x r => rfl
    have hT := turnP_c (tabN (fR W H l).length (uF W l (fC W H l) (fR W H l)) ((fR W H l).length * (fC W H l).length)).isEmpty hd
    rw [← e1] at hT
    have hp : (fC W H l).length * (fR W H l).length ≤ 40 * 40 := Nat.mul_le_mul (by omega) (by omega)
    refine kindly_walk a1 a2 a3 a4 b hn (nI (kC W H l)) [] [] (tgL W H l) (fC W H l).length (fR W H l).length m1 hki hgc hck hco hnm hs1 htu hrt hct hcg htl _ _ _ _ _ _ _ _ _ _ _ _ _ _ _ _ _ _ _ _ 0 ho1 ho2 (.inr ⟨rfl, (nI (kC W H l)).isEmpty, (nI (kC W H l)).isEmpty, false, ?_, ?_⟩)
    · rw [e2, ← e1]; exact hT
    · have := dsameR_c (fR W H l).length (fC W H l).length (nI (kR W H l)).isEmpty (nI (kR W H l)) (nI (kC W H l)).isEmpty (nI (kC W H l)) (fC W H l).length (fR W H l).length (tabN (fC W H l).length (uT (fR W H l).length (tieL W H l)) ((fC W H l).length * (fR W H l).length)).isEmpty (tabN (fC W H l).length (uT (fR W H l).length (tieL W H l)) ((fC W H l).length * (fR W H l).length))
        (fR W H l).length (fC W H l).length (nI (kC W H l)).isEmpty (nI (kR W H l)) (nI (kC W H l)).isEmpty (nI (kC W H l)) (fC W H l).length (fR W H l).length false (tabN (fC W H l).length (uT (fR W H l).length (tieL W H l)) ((fC W H l).length * (fR W H l).length)) (by rw [nI_len, kR_len]; omega) (by rw [nI_len, kC_len]; omega) (by rw [tabN_len]; omega)
      rw [decide_eq_true ⟨rfl, rfl, rfl, rfl, rfl, rfl, rfl⟩] at this
      exact this
end Go.Proofs.YtbmcfkpljdchoaaDoor
