/- Part 1 of the proof's own texts: the contracts of functions, and what they rest on. -/
import Derived.Test.YtbmcfkpljdchoaaDoorProg
import Derived.Test.YtbmcfkpljdchoaaDoorBw3
/- Closed facts on the types. -/
namespace Go.Proofs.YtbmcfkpljdchoaaDoor
open Go Go.Proofs Go.AW
theorem follows : Tryd.prog.follows .mixedOrders = true := by kernel_rfl
-- 2: int64
theorem ag2 : agT Tryd.prog 2 = some (false, 1) := by kernel_rfl
theorem zc2 : zT Tryd.prog 2 = some ([I 0], 1) := by kernel_rfl
-- 3: int
theorem ag3 : agT Tryd.prog 3 = some (false, 1) := by kernel_rfl
theorem zc3 : zT Tryd.prog 3 = some ([I 0], 1) := by kernel_rfl
-- 4: bool
theorem ag4 : agT Tryd.prog 4 = some (false, 1) := by kernel_rfl
theorem zc4 : zT Tryd.prog 4 = some ([B false], 1) := by kernel_rfl
instance bo4 : BoT Tryd.prog 4 := ⟨by kernel_rfl⟩
-- 5: uint8
theorem ag5 : agT Tryd.prog 5 = some (false, 1) := by kernel_rfl
theorem zc5 : zT Tryd.prog 5 = some ([.val (.int .u8 0)], 1) := by kernel_rfl
-- 9: string
theorem ag9 : agT Tryd.prog 9 = some (false, 1) := by kernel_rfl
theorem zc9 : zT Tryd.prog 9 = some ([.val (.string ⟨#[]⟩)], 1) := by kernel_rfl
-- 21: int32
theorem ag21 : agT Tryd.prog 21 = some (false, 1) := by kernel_rfl
theorem zc21 : zT Tryd.prog 21 = some ([.val (.int .i32 0)], 1) := by kernel_rfl
-- 22: []bool
theorem ag22 : agT Tryd.prog 22 = some (false, 1) := by kernel_rfl
theorem zc22 : zT Tryd.prog 22 = some ([.cap0 true], 1) := by kernel_rfl
instance S22 : SlT Tryd.prog 22 4 1 (.bool false) := SlT.of (by kernel_rfl) (by kernel_rfl)
-- 24: api.Grid
theorem ag24 : agT Tryd.prog 24 = some (true, 3) := by kernel_rfl
theorem zc24 : zT Tryd.prog 24 = some ([I 0, I 0, .cap0 true], 3) := by kernel_rfl
theorem fo24_0 : fOff Tryd.prog 24 0 = some 0 := by kernel_rfl
theorem ft24_0 : fOT Tryd.prog 24 0 = some (0, 3) := by kernel_rfl
theorem fo24_1 : fOff Tryd.prog 24 1 = some 1 := by kernel_rfl
theorem ft24_1 : fOT Tryd.prog 24 1 = some (1, 3) := by kernel_rfl
theorem fo24_2 : fOff Tryd.prog 24 2 = some 2 := by kernel_rfl
theorem ft24_2 : fOT Tryd.prog 24 2 = some (2, 22) := by kernel_rfl
theorem fl24 : flT Tryd.prog 24 = some ([(0, 1), (1, 1), (2, 1)], [I 0, I 0, .cap0 true]) := by kernel_rfl
-- 27: []int
theorem ag27 : agT Tryd.prog 27 = some (false, 1) := by kernel_rfl
theorem zc27 : zT Tryd.prog 27 = some ([.cap0 true], 1) := by kernel_rfl
instance S27 : SlT Tryd.prog 27 3 8 (.int .i64 0) := SlT.of (by kernel_rfl) (by kernel_rfl)
-- 28: api.Errno
theorem ag28 : agT Tryd.prog 28 = some (false, 1) := by kernel_rfl
theorem zc28 : zT Tryd.prog 28 = some ([I 0], 1) := by kernel_rfl
-- 38: api.Draft
theorem ag38 : agT Tryd.prog 38 = some (true, 7) := by kernel_rfl
theorem zc38 : zT Tryd.prog 38 = some ([I 0, I 0, .cap0 true, .cap0 true, I 0, I 0, .cap0 true], 7) := by kernel_rfl
theorem fo38_0 : fOff Tryd.prog 38 0 = some 0 := by kernel_rfl
theorem ft38_0 : fOT Tryd.prog 38 0 = some (0, 3) := by kernel_rfl
theorem fo38_1 : fOff Tryd.prog 38 1 = some 1 := by kernel_rfl
theorem ft38_1 : fOT Tryd.prog 38 1 = some (1, 3) := by kernel_rfl
theorem fo38_2 : fOff Tryd.prog 38 2 = some 2 := by kernel_rfl
theorem ft38_2 : fOT Tryd.prog 38 2 = some (2, 27) := by kernel_rfl
theorem fo38_3 : fOff Tryd.prog 38 3 = some 3 := by kernel_rfl
theorem ft38_3 : fOT Tryd.prog 38 3 = some (3, 27) := by kernel_rfl
theorem fo38_4 : fOff Tryd.prog 38 4 = some 4 := by kernel_rfl
theorem ft38_4 : fOT Tryd.prog 38 4 = some (4, 24) := by kernel_rfl
theorem fl38 : flT Tryd.prog 38 = some ([(0, 1), (1, 1), (2, 1), (3, 1), (4, 3)], [I 0, I 0, .cap0 true, .cap0 true, I 0, I 0, .cap0 true]) := by kernel_rfl
-- 58: [2]int
theorem ag58 : agT Tryd.prog 58 = some (true, 2) := by kernel_rfl
theorem zc58 : zT Tryd.prog 58 = some ([I 0, I 0], 2) := by kernel_rfl
instance nc58 : NumT Tryd.prog 58 2 := ⟨by kernel_rfl⟩
instance AR58 : ArT Tryd.prog 58 2 := ⟨by kernel_rfl⟩
instance AE58 : ArE Tryd.prog 58 2 := ⟨by kernel_rfl⟩
theorem fl58 : flT Tryd.prog 58 = some ([(0, 1), (1, 1)], [I 0, I 0]) := by kernel_rfl
-- 64: (string, api.Errno)
theorem ag64 : agT Tryd.prog 64 = some (false, 1) := by kernel_rfl
-- 69: *api.Draft
theorem ag69 : agT Tryd.prog 69 = some (false, 1) := by kernel_rfl
theorem zc69 : zT Tryd.prog 69 = some ([.val (.pointer none)], 1) := by kernel_rfl
-- 70: func(int, int) bool
theorem ag70 : agT Tryd.prog 70 = some (false, 1) := by kernel_rfl
theorem zc70 : zT Tryd.prog 70 = some ([.val .nilFunc], 1) := by kernel_rfl
-- 76: *strings.Builder
theorem ag76 : agT Tryd.prog 76 = some (false, 1) := by kernel_rfl
theorem zc76 : zT Tryd.prog 76 = some ([.val (.pointer none)], 1) := by kernel_rfl
-- 77: []uint8
theorem ag77 : agT Tryd.prog 77 = some (false, 1) := by kernel_rfl
theorem zc77 : zT Tryd.prog 77 = some ([.cap0 true], 1) := by kernel_rfl
instance S77 : SlT Tryd.prog 77 5 1 (.int .u8 0) := SlT.of (by kernel_rfl) (by kernel_rfl)
-- 79: strings.Builder
theorem ag79 : agT Tryd.prog 79 = some (true, 2) := by kernel_rfl
theorem zc79 : zT Tryd.prog 79 = some ([.val (.pointer none), .cap0 true], 2) := by kernel_rfl
theorem fo79_0 : fOff Tryd.prog 79 0 = some 0 := by kernel_rfl
theorem ft79_0 : fOT Tryd.prog 79 0 = some (0, 76) := by kernel_rfl
theorem fo79_1 : fOff Tryd.prog 79 1 = some 1 := by kernel_rfl
theorem ft79_1 : fOT Tryd.prog 79 1 = some (1, 77) := by kernel_rfl
theorem fl79 : flT Tryd.prog 79 = some ([(0, 1), (1, 1)], [.val (.pointer none), .cap0 true]) := by kernel_rfl
-- 81: error
theorem ag81 : agT Tryd.prog 81 = some (false, 1) := by kernel_rfl
theorem zc81 : zT Tryd.prog 81 = some ([.val .nilIface], 1) := by kernel_rfl
-- 84: []factor.line
theorem ag84 : agT Tryd.prog 84 = some (false, 1) := by kernel_rfl
theorem zc84 : zT Tryd.prog 84 = some ([.cap0 true], 1) := by kernel_rfl
instance SM84 : SlM Tryd.prog 84 65 := ⟨by kernel_rfl⟩
instance SW84 : SlW Tryd.prog 84 88 65 72 := ⟨by kernel_rfl⟩
instance LT84_1 : LitT Tryd.prog 84 1 [(0, 65)] (bools (List.replicate 64 false) ++ [I 0]) := ⟨by kernel_rfl⟩
-- 86: [64]bool
theorem ag86 : agT Tryd.prog 86 = some (true, 64) := by kernel_rfl
theorem zc86 : zT Tryd.prog 86 = some (bools (List.replicate 64 false), 64) := by kernel_rfl
instance kt86 : KT Tryd.prog 86 (List.replicate 64 true) := ⟨by kernel_rfl, by kernel_rfl, by kernel_rfl, by kernel_rfl⟩
instance AR86 : ArT Tryd.prog 86 64 := ⟨by kernel_rfl⟩
instance AE86 : ArE Tryd.prog 86 64 := ⟨by kernel_rfl⟩
theorem fl86 : flT Tryd.prog 86 = some ([(0, 1), (1, 1), (2, 1), (3, 1), (4, 1), (5, 1), (6, 1), (7, 1), (8, 1), (9, 1), (10, 1), (11, 1), (12, 1), (13, 1), (14, 1), (15, 1), (16, 1), (17, 1), (18, 1), (19, 1), (20, 1), (21, 1), (22, 1), (23, 1), (24, 1), (25, 1), (26, 1), (27, 1), (28, 1), (29, 1), (30, 1), (31, 1), (32, 1), (33, 1), (34, 1), (35, 1), (36, 1), (37, 1), (38, 1), (39, 1), (40, 1), (41, 1), (42, 1), (43, 1), (44, 1), (45, 1), (46, 1), (47, 1), (48, 1), (49, 1), (50, 1), (51, 1), (52, 1), (53, 1), (54, 1), (55, 1), (56, 1), (57, 1), (58, 1), (59, 1), (60, 1), (61, 1), (62, 1), (63, 1)], bools (List.replicate 64 false)) := by kernel_rfl
-- 88: factor.line
theorem ag88 : agT Tryd.prog 88 = some (true, 65) := by kernel_rfl
theorem zc88 : zT Tryd.prog 88 = some (bools (List.replicate 64 false) ++ [I 0], 65) := by kernel_rfl
instance kt88 : KT Tryd.prog 88 (List.replicate 64 true ++ [false]) := ⟨by kernel_rfl, by kernel_rfl, by kernel_rfl, by kernel_rfl⟩
theorem fo88_0 : fOff Tryd.prog 88 0 = some 0 := by kernel_rfl
theorem ft88_0 : fOT Tryd.prog 88 0 = some (0, 86) := by kernel_rfl
theorem fo88_1 : fOff Tryd.prog 88 1 = some 64 := by kernel_rfl
theorem ft88_1 : fOT Tryd.prog 88 1 = some (64, 3) := by kernel_rfl
theorem fl88 : flT Tryd.prog 88 = some ([(0, 64), (64, 1)], bools (List.replicate 64 false) ++ [I 0]) := by kernel_rfl
-- 92: []string
theorem ag92 : agT Tryd.prog 92 = some (false, 1) := by kernel_rfl
theorem zc92 : zT Tryd.prog 92 = some ([.cap0 true], 1) := by kernel_rfl
instance S92 : SlT Tryd.prog 92 9 16 (.string ⟨#[]⟩) := SlT.of (by kernel_rfl) (by kernel_rfl)
-- 95: *uint8
theorem ag95 : agT Tryd.prog 95 = some (false, 1) := by kernel_rfl
theorem zc95 : zT Tryd.prog 95 = some ([.val (.pointer none)], 1) := by kernel_rfl
-- 99: strings.asciiSet
theorem ag99 : agT Tryd.prog 99 = some (true, 256) := by kernel_rfl
theorem zc99 : zT Tryd.prog 99 = some (bools (List.replicate 256 false), 256) := by kernel_rfl
instance kt99 : KT Tryd.prog 99 (List.replicate 256 true) := ⟨by kernel_rfl, by kernel_rfl, by kernel_rfl, by kernel_rfl⟩
instance AR99 : ArT Tryd.prog 99 256 := ⟨by kernel_rfl⟩
instance AE99 : ArE Tryd.prog 99 256 := ⟨by kernel_rfl⟩
theorem fl99 : flT Tryd.prog 99 = some ([(0, 1), (1, 1), (2, 1), (3, 1), (4, 1), (5, 1), (6, 1), (7, 1), (8, 1), (9, 1), (10, 1), (11, 1), (12, 1), (13, 1), (14, 1), (15, 1), (16, 1), (17, 1), (18, 1), (19, 1), (20, 1), (21, 1), (22, 1), (23, 1), (24, 1), (25, 1), (26, 1), (27, 1), (28, 1), (29, 1), (30, 1), (31, 1), (32, 1), (33, 1), (34, 1), (35, 1), (36, 1), (37, 1), (38, 1), (39, 1), (40, 1), (41, 1), (42, 1), (43, 1), (44, 1), (45, 1), (46, 1), (47, 1), (48, 1), (49, 1), (50, 1), (51, 1), (52, 1), (53, 1), (54, 1), (55, 1), (56, 1), (57, 1), (58, 1), (59, 1), (60, 1), (61, 1), (62, 1), (63, 1), (64, 1), (65, 1), (66, 1), (67, 1), (68, 1), (69, 1), (70, 1), (71, 1), (72, 1), (73, 1), (74, 1), (75, 1), (76, 1), (77, 1), (78, 1), (79, 1), (80, 1), (81, 1), (82, 1), (83, 1), (84, 1), (85, 1), (86, 1), (87, 1), (88, 1), (89, 1), (90, 1), (91, 1), (92, 1), (93, 1), (94, 1), (95, 1), (96, 1), (97, 1), (98, 1), (99, 1), (100, 1), (101, 1), (102, 1), (103, 1), (104, 1), (105, 1), (106, 1), (107, 1), (108, 1), (109, 1), (110, 1), (111, 1), (112, 1), (113, 1), (114, 1), (115, 1), (116, 1), (117, 1), (118, 1), (119, 1), (120, 1), (121, 1), (122, 1), (123, 1), (124, 1), (125, 1), (126, 1), (127, 1), (128, 1), (129, 1), (130, 1), (131, 1), (132, 1), (133, 1), (134, 1), (135, 1), (136, 1), (137, 1), (138, 1), (139, 1), (140, 1), (141, 1), (142, 1), (143, 1), (144, 1), (145, 1), (146, 1), (147, 1), (148, 1), (149, 1), (150, 1), (151, 1), (152, 1), (153, 1), (154, 1), (155, 1), (156, 1), (157, 1), (158, 1), (159, 1), (160, 1), (161, 1), (162, 1), (163, 1), (164, 1), (165, 1), (166, 1), (167, 1), (168, 1), (169, 1), (170, 1), (171, 1), (172, 1), (173, 1), (174, 1), (175, 1), (176, 1), (177, 1), (178, 1), (179, 1), (180, 1), (181, 1), (182, 1), (183, 1), (184, 1), (185, 1), (186, 1), (187, 1), (188, 1), (189, 1), (190, 1), (191, 1), (192, 1), (193, 1), (194, 1), (195, 1), (196, 1), (197, 1), (198, 1), (199, 1), (200, 1), (201, 1), (202, 1), (203, 1), (204, 1), (205, 1), (206, 1), (207, 1), (208, 1), (209, 1), (210, 1), (211, 1), (212, 1), (213, 1), (214, 1), (215, 1), (216, 1), (217, 1), (218, 1), (219, 1), (220, 1), (221, 1), (222, 1), (223, 1), (224, 1), (225, 1), (226, 1), (227, 1), (228, 1), (229, 1), (230, 1), (231, 1), (232, 1), (233, 1), (234, 1), (235, 1), (236, 1), (237, 1), (238, 1), (239, 1), (240, 1), (241, 1), (242, 1), (243, 1), (244, 1), (245, 1), (246, 1), (247, 1), (248, 1), (249, 1), (250, 1), (251, 1), (252, 1), (253, 1), (254, 1), (255, 1)], bools (List.replicate 256 false)) := by kernel_rfl
-- 103: *strings.asciiSet
theorem ag103 : agT Tryd.prog 103 = some (false, 1) := by kernel_rfl
theorem zc103 : zT Tryd.prog 103 = some ([.val (.pointer none)], 1) := by kernel_rfl
-- 105: unsafe.Pointer
theorem ag105 : agT Tryd.prog 105 = some (false, 1) := by kernel_rfl
theorem zc105 : zT Tryd.prog 105 = some ([.val (.pointer none)], 1) := by kernel_rfl

theorem FX : type_of% @ag2 ∧ type_of% @zc2 ∧ type_of% @ag3 ∧ type_of% @zc3 ∧ type_of% @ag4 ∧ type_of% @zc4 ∧ type_of% @ag5 ∧ type_of% @zc5 ∧ type_of% @ag9 ∧ type_of% @zc9 ∧ type_of% @ag21 ∧ type_of% @zc21 ∧ type_of% @ag22 ∧ type_of% @zc22 ∧ type_of% @ag24 ∧ type_of% @zc24 ∧ type_of% @fo24_0 ∧ type_of% @ft24_0 ∧ type_of% @fo24_1 ∧ type_of% @ft24_1 ∧ type_of% @fo24_2 ∧ type_of% @ft24_2 ∧ type_of% @fl24 ∧ type_of% @ag27 ∧ type_of% @zc27 ∧ type_of% @ag28 ∧ type_of% @zc28 ∧ type_of% @ag38 ∧ type_of% @zc38 ∧ type_of% @fo38_0 ∧ type_of% @ft38_0 ∧ type_of% @fo38_1 ∧ type_of% @ft38_1 ∧ type_of% @fo38_2 ∧ type_of% @ft38_2 ∧ type_of% @fo38_3 ∧ type_of% @ft38_3 ∧ type_of% @fo38_4 ∧ type_of% @ft38_4 ∧ type_of% @fl38 ∧ type_of% @ag58 ∧ type_of% @zc58 ∧ type_of% @fl58 ∧ type_of% @ag64 ∧ type_of% @ag69 ∧ type_of% @zc69 ∧ type_of% @ag70 ∧ type_of% @zc70 ∧ type_of% @ag76 ∧ type_of% @zc76 ∧ type_of% @ag77 ∧ type_of% @zc77 ∧ type_of% @ag79 ∧ type_of% @zc79 ∧ type_of% @fo79_0 ∧ type_of% @ft79_0 ∧ type_of% @fo79_1 ∧ type_of% @ft79_1 ∧ type_of% @fl79 ∧ type_of% @ag81 ∧ type_of% @zc81 ∧ type_of% @ag84 ∧ type_of% @zc84 ∧ type_of% @ag86 ∧ type_of% @zc86 ∧ type_of% @fl86 ∧ type_of% @ag88 ∧ type_of% @zc88 ∧ type_of% @fo88_0 ∧ type_of% @ft88_0 ∧ type_of% @fo88_1 ∧ type_of% @ft88_1 ∧ type_of% @fl88 ∧ type_of% @ag92 ∧ type_of% @zc92 ∧ type_of% @ag95 ∧ type_of% @zc95 ∧ type_of% @ag99 ∧ type_of% @zc99 ∧ type_of% @fl99 ∧ type_of% @ag103 ∧ type_of% @zc103 ∧ type_of% @ag105 ∧ type_of% @zc105 :=
  ⟨@ag2, @zc2, @ag3, @zc3, @ag4, @zc4, @ag5, @zc5, @ag9, @zc9, @ag21, @zc21, @ag22, @zc22, @ag24, @zc24, @fo24_0, @ft24_0, @fo24_1, @ft24_1, @fo24_2, @ft24_2, @fl24, @ag27, @zc27, @ag28, @zc28, @ag38, @zc38, @fo38_0, @ft38_0, @fo38_1, @ft38_1, @fo38_2, @ft38_2, @fo38_3, @ft38_3, @fo38_4, @ft38_4, @fl38, @ag58, @zc58, @fl58, @ag64, @ag69, @zc69, @ag70, @zc70, @ag76, @zc76, @ag77, @zc77, @ag79, @zc79, @fo79_0, @ft79_0, @fo79_1, @ft79_1, @fl79, @ag81, @zc81, @ag84, @zc84, @ag86, @zc86, @fl86, @ag88, @zc88, @fo88_0, @ft88_0, @fo88_1, @ft88_1, @fl88, @ag92, @zc92, @ag95, @zc95, @ag99, @zc99, @fl99, @ag103, @zc103, @ag105, @zc105⟩
end Go.Proofs.YtbmcfkpljdchoaaDoor

/- Grids: their checks. -/
set_option linter.unusedSimpArgs false
set_option linter.unusedVariables false
set_option maxRecDepth 100000
namespace Go.Proofs.YtbmcfkpljdchoaaDoor
open Go Go.Proofs Go.AW

abbrev LA (b : Bool) (l : List Int) : AVal := .list false b l.length (ints l)
abbrev LR (b : Bool) (l : List Int) : AVal := .list true b l.length (ints l)
abbrev BA (b : Bool) (l : List Bool) : AVal := .list false b l.length (bools l)
abbrev BR (b : Bool) (l : List Bool) : AVal := .list true b l.length (bools l)
abbrev GA (w h : Int) (b : Bool) (l : List Bool) : AVal := .agg [I w, I h, BA b l]
abbrev GR (w h : Int) (b : Bool) (l : List Bool) : AVal := .agg [I w, I h, BR b l]

theorem great_c (w h : Int) (b : Bool) (l : List Bool) : Contract Tryd.prog 6 [GA w h b l] (B (decide (4200 < (l.length : Int)))) := by
  refine Contract.intro (effS [] false) 6 follows Tryd.func6 rfl rfl (by kernel_rfl) (Nat.le_of_ble_eq_true rfl) ?_
  simp (disch := omega) only [↓RP, RG, FX, RQ, ↓reduceIte, Nat.reduceEqDiff, reduceCtorEq, Nat.reduceBEq, Nat.reduceAdd, Nat.reduceLeDiff, args0_1]
  rw [resVal_1 rfl]; simp (disch := first | assumption | omega | rfl | simp only [RH]) only [↓RP, RG, FX, RQ, ↓reduceIte, Nat.reduceEqDiff, reduceCtorEq, Nat.reduceBEq, Nat.reduceAdd, Nat.reduceLeDiff, RS]

/-- The error of a grid. -/
def gchk (w h n : Int) : Int := if 64 < w ∨ 64 < h then 4 else if w < 1 ∨ h < 1 ∨ n ≠ w * h then 8 else 0
def gOk (w h n : Int) : Prop := 1 ≤ w ∧ w ≤ 64 ∧ 1 ≤ h ∧ h ≤ 64 ∧ n = w * h
theorem gchk_ok {w h n : Int} (hg : gOk w h n) : gchk w h n = 0 := by
  obtain ⟨h1, h2, h3, h4, h5⟩ := hg
  unfold gchk
  rw [if_neg (by omega), if_neg (by omega)]
theorem gchk_iff {w h n : Int} : gchk w h n = 0 ↔ gOk w h n := by
  refine ⟨fun hz => ?_, gchk_ok⟩
  unfold gchk at hz
  unfold gOk
  split at hz
  · omega
  · split at hz
    · omega
    · omega
theorem prod64 {w h : Int} (h1 : 0 ≤ w) (h2 : w ≤ 64) (h3 : 0 ≤ h) (h4 : h ≤ 64) : 0 ≤ w * h ∧ w * h ≤ 4096 := by
  constructor
  · exact Int.mul_nonneg h1 h3
  · have := Int.mul_le_mul h2 h4 h3 (by omega); omega

theorem gcheckP_c (w h : Int) (b : Bool) (l : List Bool) : Contract Tryd.prog 41 [GA w h b l] (I (gchk w h l.length)) := by
  unfold gchk
  refine Contract.intro (effS [] false) 6 follows Tryd.func41 rfl rfl (by kernel_rfl) (Nat.le_of_ble_eq_true rfl) ?_
  by_cases c1 : 64 < w ∨ 64 < h
  · rw [if_pos c1]
    have : 64 < max w h := by omega
    simp (disch := omega) only [↓RP, RG, FX, RQ, ↓reduceIte, Nat.reduceEqDiff, reduceCtorEq, Nat.reduceBEq, Nat.reduceAdd, Nat.reduceLeDiff, args0_1]
    rw [resVal_1 rfl]; simp (disch := first | assumption | omega | rfl | simp only [RH]) only [↓RP, RG, FX, RQ, ↓reduceIte, Nat.reduceEqDiff, reduceCtorEq, Nat.reduceBEq, Nat.reduceAdd, Nat.reduceLeDiff, RS]
  rw [if_neg c1]
  have : ¬ 64 < max w h := by omega
  by_cases c2 : w < 1 ∨ h < 1
  · rw [if_pos (by omega)]
    have : min w h < 1 := by omega
    simp (disch := omega) only [↓RP, RG, FX, RQ, ↓reduceIte, Nat.reduceEqDiff, reduceCtorEq, Nat.reduceBEq, Nat.reduceAdd, Nat.reduceLeDiff, args0_1]
    rw [resVal_1 rfl]; simp (disch := first | assumption | omega | rfl | simp only [RH]) only [↓RP, RG, FX, RQ, ↓reduceIte, Nat.reduceEqDiff, reduceCtorEq, Nat.reduceBEq, Nat.reduceAdd, Nat.reduceLeDiff, RS]
  have : ¬ min w h < 1 := by omega
  have hp := prod64 (w := w) (h := h) (by omega) (by omega) (by omega) (by omega)
  by_cases c3 : (l.length : Int) = w * h
  · rw [if_neg (by omega)]
    simp (disch := omega) only [↓RP, RG, FX, RQ, ↓reduceIte, Nat.reduceEqDiff, reduceCtorEq, Nat.reduceBEq, Nat.reduceAdd, Nat.reduceLeDiff, args0_1]
    rw [resVal_1 rfl]; simp (disch := first | assumption | omega | rfl | simp only [RH]) only [↓RP, RG, FX, RQ, ↓reduceIte, Nat.reduceEqDiff, reduceCtorEq, Nat.reduceBEq, Nat.reduceAdd, Nat.reduceLeDiff, RS]
  · rw [if_pos (by omega)]
    simp (disch := omega) only [↓RP, RG, FX, RQ, ↓reduceIte, Nat.reduceEqDiff, reduceCtorEq, Nat.reduceBEq, Nat.reduceAdd, Nat.reduceLeDiff, args0_1]
    rw [resVal_1 rfl]; simp (disch := first | assumption | omega | rfl | simp only [RH]) only [↓RP, RG, FX, RQ, ↓reduceIte, Nat.reduceEqDiff, reduceCtorEq, Nat.reduceBEq, Nat.reduceAdd, Nat.reduceLeDiff, RS]

theorem gcheckR_c (w h : Int) (b : Bool) (l : List Bool) : Contract Tryd.prog 23 [GA w h b l] (I (gchk w h l.length)) := by
  unfold gchk
  refine Contract.intro (effS [] false) 6 follows Tryd.func23 rfl rfl (by kernel_rfl) (Nat.le_of_ble_eq_true rfl) ?_
  by_cases c0 : 64 < w
  · rw [if_pos (by omega)]
    simp (disch := omega) only [↓RP, RG, FX, RQ, ↓reduceIte, Nat.reduceEqDiff, reduceCtorEq, Nat.reduceBEq, Nat.reduceAdd, Nat.reduceLeDiff, args0_1]
    rw [resVal_1 rfl]; simp (disch := first | assumption | omega | rfl | simp only [RH]) only [↓RP, RG, FX, RQ, ↓reduceIte, Nat.reduceEqDiff, reduceCtorEq, Nat.reduceBEq, Nat.reduceAdd, Nat.reduceLeDiff, RS]
  by_cases c1 : 64 < h
  · rw [if_pos (by omega)]
    simp (disch := omega) only [↓RP, RG, FX, RQ, ↓reduceIte, Nat.reduceEqDiff, reduceCtorEq, Nat.reduceBEq, Nat.reduceAdd, Nat.reduceLeDiff, args0_1]
    rw [resVal_1 rfl]; simp (disch := first | assumption | omega | rfl | simp only [RH]) only [↓RP, RG, FX, RQ, ↓reduceIte, Nat.reduceEqDiff, reduceCtorEq, Nat.reduceBEq, Nat.reduceAdd, Nat.reduceLeDiff, RS]
  rw [if_neg (by omega)]
  by_cases c2 : w < 1
  · rw [if_pos (by omega)]
    simp (disch := omega) only [↓RP, RG, FX, RQ, ↓reduceIte, Nat.reduceEqDiff, reduceCtorEq, Nat.reduceBEq, Nat.reduceAdd, Nat.reduceLeDiff, args0_1]
    rw [resVal_1 rfl]; simp (disch := first | assumption | omega | rfl | simp only [RH]) only [↓RP, RG, FX, RQ, ↓reduceIte, Nat.reduceEqDiff, reduceCtorEq, Nat.reduceBEq, Nat.reduceAdd, Nat.reduceLeDiff, RS]
  by_cases c3 : h < 1
  · rw [if_pos (by omega)]
    simp (disch := omega) only [↓RP, RG, FX, RQ, ↓reduceIte, Nat.reduceEqDiff, reduceCtorEq, Nat.reduceBEq, Nat.reduceAdd, Nat.reduceLeDiff, args0_1]
    rw [resVal_1 rfl]; simp (disch := first | assumption | omega | rfl | simp only [RH]) only [↓RP, RG, FX, RQ, ↓reduceIte, Nat.reduceEqDiff, reduceCtorEq, Nat.reduceBEq, Nat.reduceAdd, Nat.reduceLeDiff, RS]
  have hp := prod64 (w := w) (h := h) (by omega) (by omega) (by omega) (by omega)
  by_cases c4 : (l.length : Int) = w * h
  · rw [if_neg (by omega)]
    simp (disch := omega) only [↓RP, RG, FX, RQ, ↓reduceIte, Nat.reduceEqDiff, reduceCtorEq, Nat.reduceBEq, Nat.reduceAdd, Nat.reduceLeDiff, args0_1]
    rw [resVal_1 rfl]; simp (disch := first | assumption | omega | rfl | simp only [RH]) only [↓RP, RG, FX, RQ, ↓reduceIte, Nat.reduceEqDiff, reduceCtorEq, Nat.reduceBEq, Nat.reduceAdd, Nat.reduceLeDiff, RS]
  · rw [if_pos (by omega)]
    simp (disch := omega) only [↓RP, RG, FX, RQ, ↓reduceIte, Nat.reduceEqDiff, reduceCtorEq, Nat.reduceBEq, Nat.reduceAdd, Nat.reduceLeDiff, args0_1]
    rw [resVal_1 rfl]; simp (disch := first | assumption | omega | rfl | simp only [RH]) only [↓RP, RG, FX, RQ, ↓reduceIte, Nat.reduceEqDiff, reduceCtorEq, Nat.reduceBEq, Nat.reduceAdd, Nat.reduceLeDiff, RS]
end Go.Proofs.YtbmcfkpljdchoaaDoor

/- Lists: compared. -/
set_option linter.unusedSimpArgs false
set_option linter.unusedVariables false
set_option maxRecDepth 100000
namespace Go.Proofs.YtbmcfkpljdchoaaDoor
open Go Go.Proofs Go.AW

theorem bneq {a b : Bool} (h : ¬ a = b) : (a == b) = false := by simpa using h

/-- Lists compared. -/
theorem same02_c (b1 b2 : Bool) (l m : List Int) (hl : l.length ≤ 9223372036854775807) : Contract Tryd.prog 16 [LA b1 l, LA b2 m] (B (decide (l = m))) := by
  refine Contract.intro (effS [] false) 6 follows Tryd.func16 rfl rfl (by kernel_rfl) (Nat.le_of_ble_eq_true rfl) ?_
  by_cases hlen : l.length = m.length
  · simp (disch := first | assumption | omega | rfl | simp only [RH]) only [↓RP, RG, FX, RQ, ↓reduceIte, Nat.reduceEqDiff, reduceCtorEq, Nat.reduceBEq, Nat.reduceAdd, Nat.reduceLeDiff, args0_2]
    refine loopK_I [0, 1, 5] (fun k : Nat => k ≤ l.length ∧ l.take k = m.take k) (fun k : Nat => ⟨[(0, LA b1 l), (1, LA b2 m), (5, I k)], []⟩) (fun k => l.length - k) 0 (by simp) (by simp only [↓RP, RG, FX, RQ, ↓reduceIte, Nat.reduceEqDiff, reduceCtorEq, Nat.reduceBEq, Nat.reduceAdd, Nat.reduceLeDiff]; rfl) ?_
    rintro k ⟨hk, htk⟩
    by_cases hlt : k < l.length
    · by_cases he : l.getD k 0 = m.getD k 0
      · simp (disch := first | assumption | omega | rfl | simp only [RH]) only [↓RP, RG, FX, RQ, ↓reduceIte, Nat.reduceEqDiff, reduceCtorEq, Nat.reduceBEq, Nat.reduceAdd, Nat.reduceLeDiff]
        refine ⟨k + 1, ⟨by omega, ?_⟩, rfl, by omega⟩
        rw [List.take_add_one, List.take_add_one, htk]
        simp [hlt, show k < m.length by omega] at he
        rw [List.getElem?_eq_getElem hlt, List.getElem?_eq_getElem (show k < m.length by omega), he]
      · simp (disch := first | assumption | omega | rfl | simp only [RH]) only [↓RP, RG, FX, RQ, ↓reduceIte, Nat.reduceEqDiff, reduceCtorEq, Nat.reduceBEq, Nat.reduceAdd, Nat.reduceLeDiff]
        rw [resVal_1 rfl]; simp (disch := first | assumption | omega | rfl | simp only [RH]) only [↓RP, RG, FX, RQ, ↓reduceIte, Nat.reduceEqDiff, reduceCtorEq, Nat.reduceBEq, Nat.reduceAdd, Nat.reduceLeDiff, RS]
        refine okF ?_
        rintro rfl; exact he rfl
    · simp (disch := first | assumption | omega | rfl | simp only [RH]) only [↓RP, RG, FX, RQ, ↓reduceIte, Nat.reduceEqDiff, reduceCtorEq, Nat.reduceBEq, Nat.reduceAdd, Nat.reduceLeDiff]
      rw [resVal_1 rfl]; simp (disch := first | assumption | omega | rfl | simp only [RH]) only [↓RP, RG, FX, RQ, ↓reduceIte, Nat.reduceEqDiff, reduceCtorEq, Nat.reduceBEq, Nat.reduceAdd, Nat.reduceLeDiff, RS]
      refine okT ?_
      have hk' : k = l.length := by omega
      rw [hk', List.take_length] at htk
      rw [htk, hlen, List.take_length]
  · simp (disch := first | assumption | omega | rfl | simp only [RH]) only [↓RP, RG, FX, RQ, ↓reduceIte, Nat.reduceEqDiff, reduceCtorEq, Nat.reduceBEq, Nat.reduceAdd, Nat.reduceLeDiff, args0_2]
    rw [resVal_1 rfl]; simp (disch := first | assumption | omega | rfl | simp only [RH]) only [↓RP, RG, FX, RQ, ↓reduceIte, Nat.reduceEqDiff, reduceCtorEq, Nat.reduceBEq, Nat.reduceAdd, Nat.reduceLeDiff, RS]
    refine okF ?_
    rintro rfl; exact hlen rfl

end Go.Proofs.YtbmcfkpljdchoaaDoor

/- Lists: least and greatest element, within a range; cells of grids. -/
set_option linter.unusedSimpArgs false
set_option linter.unusedVariables false
set_option maxRecDepth 100000
namespace Go.Proofs.YtbmcfkpljdchoaaDoor
open Go Go.Proofs Go.AW

/-- It has elements, all of them from 0 to n - 1. -/
def wIn (l : List Int) (n : Int) : Prop := 0 < l.length ∧ ∀ j, j < l.length → 0 ≤ l.getD j 0 ∧ l.getD j 0 < n
instance (l : List Int) (n : Int) : Decidable (wIn l n) := by unfold wIn; infer_instance

/-- A grid's cell. -/
def cell (w : Int) (l : List Bool) (x y : Int) : Bool := l.getD (y * w + x).toNat false

theorem at_c (w h : Int) (b : Bool) (l : List Bool) (x y : Int) (h0 : 0 ≤ y * w + x) (h1 : y * w + x < l.length) (h2 : l.length ≤ 1000000000000) (h3 : 0 ≤ y * w) (h4 : y * w ≤ 1000000000000) : Contract Tryd.prog 31 [GA w h b l, I x, I y] (B (cell w l x y)) := by
  refine Contract.intro (effS [] false) 6 follows Tryd.func31 rfl rfl (by kernel_rfl) (Nat.le_of_ble_eq_true rfl) ?_
  simp (disch := first | assumption | omega | rfl | simp only [RH]) only [↓RP, RG, FX, RQ, ↓reduceIte, Nat.reduceEqDiff, reduceCtorEq, Nat.reduceBEq, Nat.reduceAdd, Nat.reduceLeDiff, args0_3]
  rw [resVal_1 rfl]; simp (disch := first | assumption | omega | rfl | simp only [RH]) only [↓RP, RG, FX, RQ, ↓reduceIte, Nat.reduceEqDiff, reduceCtorEq, Nat.reduceBEq, Nat.reduceAdd, Nat.reduceLeDiff, RS]
  rfl

theorem zero_c (h0 : List AObj) (w h : Int) (hw : 0 ≤ w) (hh : 0 ≤ h) (hp : 0 ≤ w * h) (hq : w * h ≤ 1000000000000) : SpecTo Tryd.prog 29 [I w, I h] h0 (.agg [I w, I h, .ref h0.length 0 (w * h).toNat (w * h).toNat]) (h0 ++ [⟨4, 1, bools (List.replicate (w * h).toNat false)⟩]) := by
  refine SpecTo.intro (effS [] false) follows Tryd.func29 rfl rfl (by kernel_rfl) (Nat.le_of_ble_eq_true rfl) ?_
  simp (disch := first | assumption | omega | rfl | simp only [RH]) only [↓RP, RG, FX, RQ, ↓reduceIte, Nat.reduceEqDiff, reduceCtorEq, Nat.reduceBEq, Nat.reduceAdd, Nat.reduceLeDiff, args0_2, make_bool]
  refine ⟨_, by rw [resVal_1 rfl]; simp (disch := first | assumption | omega | rfl | simp only [RH]) only [↓RP, RG, FX, RQ, ↓reduceIte, Nat.reduceEqDiff, reduceCtorEq, Nat.reduceBEq, Nat.reduceAdd, Nat.reduceLeDiff, raX_tmp, raX_cell, rvX_0, rvX_1, rvX_2, rvX_3, rvX_4, rvX_5]; rfl, (Wk.drop 8 [1] (by simp) (by decide) (by simp) (same_refl)).trans (Wk.of_eq (by simp (disch := omega) only [RK, List.idxOf?_cons, List.idxOf?_nil, Nat.reduceBEq, Option.map_some, Option.map_none, List.map_cons, List.map_nil, List.getD_cons_zero, List.getD_cons_succ, Bool.false_eq_true, ↓reduceIte, Nat.add_zero, List.append_nil]))⟩

theorem set_c (h0 : List AObj) (k n : Nat) (l : List Bool) (w hh x y : Int) (up : Bool) (hk : h0[k]? = some ⟨4, 1, bools l⟩) (hn : l.length = n) (p0 : 0 ≤ y * w + x) (p1 : y * w + x < n) (p2 : n ≤ 1000000000000) (p3 : 0 ≤ y * w) (p4 : y * w ≤ 1000000000000) :
    SpecTo Tryd.prog 30 [.agg [I w, I hh, .ref k 0 n n], I x, I y, B up] h0 (.tuple []) (h0.set k ⟨4, 1, bools (l.set (y * w + x).toNat up)⟩) := by
  have hlt : k < h0.length := (List.getElem?_eq_some_iff.1 hk).1
  refine SpecTo.intro (effS [] false) follows Tryd.func30 rfl rfl (by kernel_rfl) (Nat.le_of_ble_eq_true rfl) ?_
  simp (disch := first | assumption | omega | rfl | simp only [RH]) only [↓RP, RG, FX, RQ, ↓reduceIte, Nat.reduceEqDiff, reduceCtorEq, Nat.reduceBEq, Nat.reduceAdd, Nat.reduceLeDiff, args0_4, hAt_low, hk, hSet_low]
  refine ⟨_, by rw [resVal_0 rfl]; simp (disch := first | assumption | omega | rfl | simp only [RH]) only [↓RP, RG, FX, RQ, ↓reduceIte, Nat.reduceEqDiff, reduceCtorEq, Nat.reduceBEq, Nat.reduceAdd, Nat.reduceLeDiff, raX_tmp, raX_cell, rvX_0, rvX_1, rvX_2, rvX_3, rvX_4, rvX_5]; rfl, (Wk.drop 8 [] (by simp) (by decide) (by simp) (same_set same_refl (ren_bools _))).trans (Wk.of_eq (by simp (disch := omega) only [RK, List.idxOf?_cons, List.idxOf?_nil, Nat.reduceBEq, Option.map_some, Option.map_none, List.map_cons, List.map_nil, List.getD_cons_zero, List.getD_cons_succ, Bool.false_eq_true, ↓reduceIte, Nat.add_zero, List.append_nil]))⟩
end Go.Proofs.YtbmcfkpljdchoaaDoor

/- Grids: compared, copied. -/
set_option linter.unusedSimpArgs false
set_option linter.unusedVariables false
set_option maxRecDepth 100000
namespace Go.Proofs.YtbmcfkpljdchoaaDoor
open Go Go.Proofs Go.AW

theorem sameR_c (w1 h1 w2 h2 : Int) (b1 b2 : Bool) (l m : List Bool) (hl : l.length ≤ 9223372036854775807) : Contract Tryd.prog 18 [GA w1 h1 b1 l, GA w2 h2 b2 m] (B (decide (w1 = w2 ∧ h1 = h2 ∧ l = m))) := by
  refine Contract.intro (effS [] false) 6 follows Tryd.func18 rfl rfl (by kernel_rfl) (Nat.le_of_ble_eq_true rfl) ?_
  by_cases c1 : w1 = w2
  rotate_left
  · simp (disch := first | assumption | omega | rfl | simp only [RH]) only [↓RP, RG, FX, RQ, ↓reduceIte, Nat.reduceEqDiff, reduceCtorEq, Nat.reduceBEq, Nat.reduceAdd, Nat.reduceLeDiff, args0_2]
    rw [resVal_1 rfl]; simp (disch := first | assumption | omega | rfl | simp only [RH]) only [↓RP, RG, FX, RQ, ↓reduceIte, Nat.reduceEqDiff, reduceCtorEq, Nat.reduceBEq, Nat.reduceAdd, Nat.reduceLeDiff, RS]
    first | done | exact okF (fun h => c1 h.1)
  by_cases c2 : h1 = h2
  rotate_left
  · simp (disch := first | assumption | omega | rfl | simp only [RH]) only [↓RP, RG, FX, RQ, ↓reduceIte, Nat.reduceEqDiff, reduceCtorEq, Nat.reduceBEq, Nat.reduceAdd, Nat.reduceLeDiff, args0_2]
    rw [resVal_1 rfl]; simp (disch := first | assumption | omega | rfl | simp only [RH]) only [↓RP, RG, FX, RQ, ↓reduceIte, Nat.reduceEqDiff, reduceCtorEq, Nat.reduceBEq, Nat.reduceAdd, Nat.reduceLeDiff, RS]
    first | done | exact okF (fun h => c2 h.2.1)
  by_cases hlen : l.length = m.length
  rotate_left
  · simp (disch := first | assumption | omega | rfl | simp only [RH]) only [↓RP, RG, FX, RQ, ↓reduceIte, Nat.reduceEqDiff, reduceCtorEq, Nat.reduceBEq, Nat.reduceAdd, Nat.reduceLeDiff, args0_2]
    rw [resVal_1 rfl]; simp (disch := first | assumption | omega | rfl | simp only [RH]) only [↓RP, RG, FX, RQ, ↓reduceIte, Nat.reduceEqDiff, reduceCtorEq, Nat.reduceBEq, Nat.reduceAdd, Nat.reduceLeDiff, RS]
    first | done | exact okF (fun h => hlen (by rw [h.2.2]))
  simp (disch := first | assumption | omega | rfl | simp only [RH]) only [↓RP, RG, FX, RQ, ↓reduceIte, Nat.reduceEqDiff, reduceCtorEq, Nat.reduceBEq, Nat.reduceAdd, Nat.reduceLeDiff, args0_2]
  refine loopK_I [2, 3, 5] (fun k : Nat => k ≤ l.length ∧ l.take k = m.take k) (fun k : Nat => ⟨[(2, .ptr 0 0 3), (3, .ptr 1 0 3), (5, I k)], [⟨24, 3, [I w1, I h1, BA b1 l]⟩, ⟨24, 3, [I w2, I h2, BA b2 m]⟩]⟩) (fun k => l.length - k) 0 (by simp) (by simp only [↓RP, RG, FX, RQ, ↓reduceIte, Nat.reduceEqDiff, reduceCtorEq, Nat.reduceBEq, Nat.reduceAdd, Nat.reduceLeDiff]; rfl) ?_
  rintro k ⟨hk, htk⟩
  by_cases hlt : k < l.length
  · by_cases he : l.getD k false = m.getD k false
    · simp (disch := first | assumption | omega | rfl | simp only [RH]) only [↓RP, RG, FX, RQ, ↓reduceIte, Nat.reduceEqDiff, reduceCtorEq, Nat.reduceBEq, Nat.reduceAdd, Nat.reduceLeDiff, he, beq_self_eq_true, Bool.not_true]
      refine ⟨k + 1, ⟨by omega, ?_⟩, rfl, by omega⟩
      rw [List.take_add_one, List.take_add_one, htk]
      simp [hlt, show k < m.length by omega] at he
      rw [List.getElem?_eq_getElem hlt, List.getElem?_eq_getElem (show k < m.length by omega), he]
    · simp (disch := first | assumption | omega | rfl | simp only [RH]) only [↓RP, RG, FX, RQ, ↓reduceIte, Nat.reduceEqDiff, reduceCtorEq, Nat.reduceBEq, Nat.reduceAdd, Nat.reduceLeDiff, bneq he]
      rw [resVal_1 rfl]; simp (disch := first | assumption | omega | rfl | simp only [RH]) only [↓RP, RG, FX, RQ, ↓reduceIte, Nat.reduceEqDiff, reduceCtorEq, Nat.reduceBEq, Nat.reduceAdd, Nat.reduceLeDiff, RS]
      refine okF ?_
      rintro ⟨_, _, rfl⟩; exact he rfl
  · simp (disch := first | assumption | omega | rfl | simp only [RH]) only [↓RP, RG, FX, RQ, ↓reduceIte, Nat.reduceEqDiff, reduceCtorEq, Nat.reduceBEq, Nat.reduceAdd, Nat.reduceLeDiff]
    rw [resVal_1 rfl]; simp (disch := first | assumption | omega | rfl | simp only [RH]) only [↓RP, RG, FX, RQ, ↓reduceIte, Nat.reduceEqDiff, reduceCtorEq, Nat.reduceBEq, Nat.reduceAdd, Nat.reduceLeDiff, RS]
    refine okT ⟨c1, c2, ?_⟩
    have hk' : k = l.length := by omega
    rw [hk', List.take_length] at htk
    rw [htk, hlen, List.take_length]

theorem twin_c (w h : Int) (b : Bool) (l : List Bool) (hl : l.length ≤ 1000000000000) : Contract Tryd.prog 7 [GA w h b l] (GR w h false l) := by
  refine Contract.intro (effS [] false [7]) 6 follows Tryd.func7 rfl rfl (by kernel_rfl) (Nat.le_of_ble_eq_true rfl) ?_
  simp (disch := first | assumption | omega | rfl | simp only [RH]) only [↓RP, RG, FX, RQ, ↓reduceIte, Nat.reduceEqDiff, reduceCtorEq, Nat.reduceBEq, Nat.reduceAdd, Nat.reduceLeDiff, args0_1, copy_bools]
  rw [resVal_1 rfl]; simp (disch := first | assumption | omega | rfl | simp only [RH]) only [↓RP, RG, FX, RQ, ↓reduceIte, Nat.reduceEqDiff, reduceCtorEq, Nat.reduceBEq, Nat.reduceAdd, Nat.reduceLeDiff, RS]
  rfl
end Go.Proofs.YtbmcfkpljdchoaaDoor

/- Drafts: their checks. -/
set_option linter.unusedSimpArgs false
set_option linter.unusedVariables false
set_option maxRecDepth 100000
namespace Go.Proofs.YtbmcfkpljdchoaaDoor
open Go Go.Proofs Go.AW

abbrev DA (s t : Int) (b1 : Bool) (th : List Int) (b2 : Bool) (td : List Int) (w h : Int) (b3 : Bool) (l : List Bool) : AVal := .agg [I s, I t, LA b1 th, LA b2 td, I w, I h, BA b3 l]
abbrev DR (s t : Int) (b1 : Bool) (th : List Int) (b2 : Bool) (td : List Int) (w h : Int) (b3 : Bool) (l : List Bool) : AVal := .agg [I s, I t, LR b1 th, LR b2 td, I w, I h, BR b3 l]

end Go.Proofs.YtbmcfkpljdchoaaDoor

/- Drafts: tables, drawdowns, lifts. -/
set_option linter.unusedSimpArgs false
set_option linter.unusedVariables false
set_option maxRecDepth 100000
namespace Go.Proofs.YtbmcfkpljdchoaaDoor
open Go Go.Proofs Go.AW

/-- The first n cells of a table of W columns. -/
def tabN (W : Nat) (u : Nat → Nat → Bool) (n : Nat) : List Bool := (List.range n).map fun i => u (i % W) (i / W)
theorem tabN_len (W : Nat) (u : Nat → Nat → Bool) (n : Nat) : (tabN W u n).length = n := by simp [tabN]
theorem tabN_succ (W : Nat) (u : Nat → Nat → Bool) {y x : Nat} (hx : x < W) : tabN W u (W * y + x + 1) = tabN W u (W * y + x) ++ [u x y] := by
  have e1 : (W * y + x) % W = x := by rw [Nat.mul_add_mod]; exact Nat.mod_eq_of_lt hx
  have e2 : (W * y + x) / W = y := by rw [Nat.mul_add_div (by omega), Nat.div_eq_of_lt hx, Nat.add_zero]
  simp only [tabN, List.range_succ, List.map_append, List.map_cons, List.map_nil, e1, e2]
theorem bools_isEmpty (l : List Bool) : (bools l).isEmpty = l.isEmpty := by cases l <;> rfl
theorem ints_isEmpty (l : List Int) : (ints l).isEmpty = l.isEmpty := by cases l <;> rfl

end Go.Proofs.YtbmcfkpljdchoaaDoor

/- Drafts: drawdowns and lifts, of the program and the reference. -/
set_option linter.unusedSimpArgs false
set_option linter.unusedVariables false
set_option maxRecDepth 100000
namespace Go.Proofs.YtbmcfkpljdchoaaDoor
open Go Go.Proofs Go.AW

theorem idx_nat (W y x : Nat) : ((y : Int) * (W : Int) + (x : Int)).toNat = W * y + x := by
  rw [← Int.natCast_mul, ← Int.natCast_add, Int.toNat_natCast, Nat.mul_comm]
theorem mul_nat (W H : Nat) : ((W : Int) * (H : Int)).toNat = W * H := by rw [← Int.natCast_mul, Int.toNat_natCast]
theorem mul_bd {W H : Nat} (hw : W ≤ 10000) (hh : H ≤ 10000) : 0 ≤ (W : Int) * (H : Int) ∧ (W : Int) * (H : Int) ≤ 100000000 := by
  have h1 : W * H ≤ 10000 * 10000 := Nat.mul_le_mul hw hh
  rw [← Int.natCast_mul]; omega
theorem idx_lt {W H x y : Nat} (hx : x < W) (hy : y < H) : W * y + x < W * H := by
  have : W * (y + 1) ≤ W * H := Nat.mul_le_mul_left W hy
  rw [Nat.mul_succ] at this; omega

theorem zero_n (h0 : List AObj) (W H : Nat) (hw : W ≤ 10000) (hh : H ≤ 10000) : SpecTo Tryd.prog 29 [I W, I H] h0 (.agg [I W, I H, .ref h0.length 0 (W * H) (W * H)]) (h0 ++ [⟨4, 1, bools (List.replicate (W * H) false)⟩]) := by
  have hb := mul_bd hw hh
  have := zero_c h0 W H (by omega) (by omega) hb.1 (by omega)
  rwa [mul_nat] at this

theorem set_n (h0 : List AObj) (k n W x y : Nat) (l : List Bool) (hh : Int) (up : Bool) (hk : h0[k]? = some ⟨4, 1, bools l⟩) (hn : l.length = n) (p1 : W * y + x < n) (p2 : n ≤ 100000000) :
    SpecTo Tryd.prog 30 [.agg [I W, I hh, .ref k 0 n n], I x, I y, B up] h0 (.tuple []) (h0.set k ⟨4, 1, bools (l.set (W * y + x) up)⟩) := by
  have e : (y : Int) * (W : Int) = ((W * y : Nat) : Int) := by rw [Int.natCast_mul, Int.mul_comm]
  have := set_c h0 k n l W hh x y up hk hn (by omega) (by omega) (by omega) (by omega) (by omega)
  rwa [idx_nat] at this

/-- A table whose first x columns and, in the next one, first y cells are there. -/
def colN (W : Nat) (u : Nat → Nat → Bool) (n x y : Nat) : List Bool := (List.range n).map fun i => if i % W < x ∨ (i % W = x ∧ i / W < y) then u (i % W) (i / W) else false
theorem colN_len (W : Nat) (u : Nat → Nat → Bool) (n x y : Nat) : (colN W u n x y).length = n := by simp [colN]
theorem colN_zero (W : Nat) (u : Nat → Nat → Bool) (n : Nat) : colN W u n 0 0 = List.replicate n false := by
  apply List.ext_getElem
  · simp [colN]
  · intro i h1 h2; simp [colN]
theorem colN_step (W : Nat) (u : Nat → Nat → Bool) {n x y : Nat} (hx : x < W) : (colN W u n x y).set (W * y + x) (u x y) = colN W u n x (y + 1) := by
  have e1 : (W * y + x) % W = x := by rw [Nat.mul_add_mod]; exact Nat.mod_eq_of_lt hx
  have e2 : (W * y + x) / W = y := by rw [Nat.mul_add_div (by omega), Nat.div_eq_of_lt hx, Nat.add_zero]
  apply List.ext_getElem
  · simp [colN]
  · intro i h1 h2
    rw [List.getElem_set]
    by_cases hi : W * y + x = i
    · subst hi
      rw [if_pos rfl]
      simp [colN, e1, e2]
    · rw [if_neg hi]
      simp only [colN, List.getElem_map, List.getElem_range]
      have hne : ¬ (i % W = x ∧ i / W = y) := by
        rintro ⟨h3, h4⟩
        have := Nat.div_add_mod i W
        rw [h3, h4] at this; omega
      generalize i % W = r at *
      generalize i / W = q at *
      by_cases hc : r < x ∨ (r = x ∧ q < y)
      · rw [if_pos hc, if_pos (by omega)]
      · rw [if_neg hc, if_neg (by omega)]
theorem colN_row (W : Nat) (u : Nat → Nat → Bool) (H x : Nat) : colN W u (W * H) x H = colN W u (W * H) (x + 1) 0 := by
  apply List.map_congr_left
  intro i hi
  have hi' : i < W * H := by simpa using hi
  have := Nat.div_lt_of_lt_mul hi'
  generalize i % W = r at *
  generalize i / W = q at *
  by_cases hc : r < x ∨ (r = x ∧ q < H)
  · rw [if_pos hc, if_pos (by omega)]
  · rw [if_neg hc, if_neg (by omega)]
theorem colN_end (W : Nat) (u : Nat → Nat → Bool) (H : Nat) : colN W u (W * H) W 0 = tabN W u (W * H) := by
  apply List.map_congr_left
  intro i hi
  have hi' : i < W * H := by simpa using hi
  have hW : 0 < W := by
    rcases Nat.eq_zero_or_pos W with h0 | h0
    · subst h0; simp at hi'
    · exact h0
  rw [if_pos (.inl (Nat.mod_lt _ hW))]

end Go.Proofs.YtbmcfkpljdchoaaDoor

/- Kinds: numbered by first occurrence. Plain. -/
set_option linter.unusedSimpArgs false
set_option linter.unusedVariables false
namespace Go.Proofs.YtbmcfkpljdchoaaDoor

section
variable {α : Type} [DecidableEq α] {β : Type} [DecidableEq β]

/-- The place of y's like among fs, or their number. -/
def plc (r : Nat → α) (fs : List Nat) (y : Nat) : Nat := fs.findIdx fun f => decide (r f = r y)
/-- Kinds and firsts of the first n. -/
def knd (r : Nat → α) : Nat → List Nat × List Nat
  | 0 => ([], [])
  | n + 1 => ((knd r n).1 ++ [plc r (knd r n).2 n], if plc r (knd r n).2 n = (knd r n).2.length then (knd r n).2 ++ [n] else (knd r n).2)
theorem knd_len (r : Nat → α) (n : Nat) : (knd r n).1.length = n := by
  induction n with
  | zero => rfl
  | succ n ih => simp [knd, ih]
theorem knd_le (r : Nat → α) (n : Nat) : (knd r n).2.length ≤ n := by
  induction n with
  | zero => exact Nat.le_refl _
  | succ n ih =>
    simp only [knd]
    split
    · simp only [List.length_append, List.length_singleton]; omega
    · omega
theorem knd_first (r : Nat → α) (n : Nat) : ∀ f ∈ (knd r n).2, f < n := by
  induction n with
  | zero => intro f hf; simp [knd] at hf
  | succ n ih =>
    intro f hf
    simp only [knd] at hf
    split at hf
    · rcases List.mem_append.1 hf with h | h
      · have := ih f h; omega
      · simp at h; omega
    · have := ih f hf; omega
theorem plc_eq (r : Nat → α) {fs : List Nat} {y k : Nat} (hk : k ≤ fs.length) (h1 : ∀ j, j < k → r (fs.getD j 0) ≠ r y) (h2 : k < fs.length → r (fs.getD k 0) = r y) : plc r fs y = k := by
  unfold plc
  rcases Nat.lt_or_ge k fs.length with hlt | hge
  · rw [List.findIdx_eq hlt]
    refine ⟨by have := h2 hlt; simp [List.getD_eq_getElem?_getD, hlt] at this; simp [this], fun j hj => ?_⟩
    have := h1 j hj
    simp [List.getD_eq_getElem?_getD, show j < fs.length by omega] at this
    simpa using this
  · obtain rfl : k = fs.length := by omega
    rw [List.findIdx_eq_length]
    intro x hx
    obtain ⟨j, hj, rfl⟩ := List.getElem_of_mem hx
    have := h1 j hj
    simp [List.getD_eq_getElem?_getD, hj] at this
    simpa using this
end
end Go.Proofs.YtbmcfkpljdchoaaDoor

/- The kinds of rows. -/
set_option linter.unusedSimpArgs false
set_option linter.unusedVariables false
set_option maxRecDepth 100000
namespace Go.Proofs.YtbmcfkpljdchoaaDoor
open Go Go.Proofs Go.AW

/-- A row. -/
def rowN (W : Nat) (l : List Bool) (y : Nat) : List Bool := (List.range W).map fun x => l.getD (W * y + x) false
theorem rowN_eq {W : Nat} {l : List Bool} {a b : Nat} : rowN W l a = rowN W l b ↔ ∀ x, x < W → l.getD (W * a + x) false = l.getD (W * b + x) false := by
  constructor
  · intro h x hx
    have := congrArg (fun r : List Bool => r.getD x false) h
    simpa [rowN, List.getD_eq_getElem?_getD, List.getElem?_range hx] using this
  · intro h
    apply List.map_congr_left
    intro x hx
    exact h x (by simpa using hx)

theorem sameRows_c {W H : Nat} (hW : W ≤ 64) (hH : H ≤ 64) (b : Bool) {l : List Bool} (hn : l.length = W * H) {y z : Nat} (hy : y < H) (hz : z < H) :
    Contract Tryd.prog 46 [GA W H b l, I y, I z] (B (decide (rowN W l y = rowN W l z))) := by
  refine Contract.intro (effS [] false) 6 follows Tryd.func46 rfl rfl (by kernel_rfl) (Nat.le_of_ble_eq_true rfl) ?_
  simp (disch := first | assumption | omega | rfl | simp only [RH]) only [↓RP, RG, FX, RQ, ↓reduceIte, Nat.reduceEqDiff, reduceCtorEq, Nat.reduceBEq, Nat.reduceAdd, Nat.reduceLeDiff, args0_3]
  refine loopK_I [1, 2, 3, 7] (fun k : Nat => k ≤ W ∧ ∀ x, x < k → l.getD (W * y + x) false = l.getD (W * z + x) false) (fun k : Nat => ⟨[(1, I y), (2, I z), (3, .ptr 0 0 3), (7, I k)], [⟨24, 3, [I W, I H, BA b l]⟩]⟩) (fun k => W - k) 0 ⟨by omega, fun x hx => by omega⟩ (by simp only [↓RP, RG, FX, RQ, ↓reduceIte, Nat.reduceEqDiff, reduceCtorEq, Nat.reduceBEq, Nat.reduceAdd, Nat.reduceLeDiff]; rfl) ?_
  rintro k ⟨hk, hke⟩
  by_cases hlt : k < W
  · have q : W * H ≤ 64 * 64 := Nat.mul_le_mul hW hH
    have i1 := idx_lt hlt hy
    have i2 := idx_lt hlt hz
    have m1 := idx_nat W y k
    have m2 := idx_nat W z k
    have p1 : (y : Int) * (W : Int) = ((W * y : Nat) : Int) := by rw [Int.natCast_mul, Int.mul_comm]
    have p2 : (z : Int) * (W : Int) = ((W * z : Nat) : Int) := by rw [Int.natCast_mul, Int.mul_comm]
    have c1 : cell W l k y = l.getD (W * y + k) false := by rw [cell, m1]
    have c2 : cell W l k z = l.getD (W * z + k) false := by rw [cell, m2]
    simp (disch := first | assumption | omega | rfl | simp only [RH]) only [↓RP, RG, FX, RQ, ↓reduceIte, Nat.reduceEqDiff, reduceCtorEq, Nat.reduceBEq, Nat.reduceAdd, Nat.reduceLeDiff]
    refine callK_F 6 (at_c W H b l k y (by omega) (by omega) (by omega) (by omega) (by omega)) (by simp (disch := first | assumption | omega | rfl | simp only [RH]) only [↓RP, RG, FX, RQ, ↓reduceIte, Nat.reduceEqDiff, reduceCtorEq, Nat.reduceBEq, Nat.reduceAdd, Nat.reduceLeDiff, RA] <;> rfl) (.inl (by simp [allFresh, ints_fresh, bools_fresh])) ?_
    simp (disch := first | assumption | omega | rfl | simp only [RH]) only [↓RP, RG, FX, RQ, ↓reduceIte, Nat.reduceEqDiff, reduceCtorEq, Nat.reduceBEq, Nat.reduceAdd, Nat.reduceLeDiff]
    refine callK_F 6 (at_c W H b l k z (by omega) (by omega) (by omega) (by omega) (by omega)) (by simp (disch := first | assumption | omega | rfl | simp only [RH]) only [↓RP, RG, FX, RQ, ↓reduceIte, Nat.reduceEqDiff, reduceCtorEq, Nat.reduceBEq, Nat.reduceAdd, Nat.reduceLeDiff, RA] <;> rfl) (.inl (by simp [allFresh, ints_fresh, bools_fresh])) ?_
    by_cases he : l.getD (W * y + k) false = l.getD (W * z + k) false
    · have he2 : (cell W l k y == cell W l k z) = true := by rw [c1, c2]; exact beq_iff_eq.2 he
      simp (disch := first | assumption | omega | rfl | simp only [RH]) only [↓RP, RG, FX, RQ, ↓reduceIte, Nat.reduceEqDiff, reduceCtorEq, Nat.reduceBEq, Nat.reduceAdd, Nat.reduceLeDiff, he2, Bool.not_true]
      refine ⟨k + 1, ⟨by omega, fun x hx => ?_⟩, rfl, by omega⟩
      by_cases hxk : x = k
      · subst hxk; exact he
      · exact hke x (by omega)
    · have he2 : (cell W l k y == cell W l k z) = false := by rw [c1, c2]; exact beq_eq_false_iff_ne.2 he
      simp (disch := first | assumption | omega | rfl | simp only [RH]) only [↓RP, RG, FX, RQ, ↓reduceIte, Nat.reduceEqDiff, reduceCtorEq, Nat.reduceBEq, Nat.reduceAdd, Nat.reduceLeDiff, he2, Bool.not_false]
      rw [resVal_1 rfl]; simp (disch := first | assumption | omega | rfl | simp only [RH]) only [↓RP, RG, FX, RQ, ↓reduceIte, Nat.reduceEqDiff, reduceCtorEq, Nat.reduceBEq, Nat.reduceAdd, Nat.reduceLeDiff, RS]
      first | done | exact okF (fun h => he (rowN_eq.1 h k hlt))
  · obtain rfl : k = W := by omega
    simp (disch := first | assumption | omega | rfl | simp only [RH]) only [↓RP, RG, FX, RQ, ↓reduceIte, Nat.reduceEqDiff, reduceCtorEq, Nat.reduceBEq, Nat.reduceAdd, Nat.reduceLeDiff]
    rw [resVal_1 rfl]; simp (disch := first | assumption | omega | rfl | simp only [RH]) only [↓RP, RG, FX, RQ, ↓reduceIte, Nat.reduceEqDiff, reduceCtorEq, Nat.reduceBEq, Nat.reduceAdd, Nat.reduceLeDiff, RS]
    first | done | exact okT (rowN_eq.2 hke)
end Go.Proofs.YtbmcfkpljdchoaaDoor

/- The kinds of rows, by the reference. -/
set_option linter.unusedSimpArgs false
set_option linter.unusedVariables false
set_option maxRecDepth 100000
namespace Go.Proofs.YtbmcfkpljdchoaaDoor
open Go Go.Proofs Go.AW

def nI (l : List Nat) : List Int := l.map fun n : Nat => (n : Int)
theorem nI_len (l : List Nat) : (nI l).length = l.length := by simp [nI]
theorem nI_app (l : List Nat) (n : Nat) : nI (l ++ [n]) = nI l ++ [(n : Int)] := by simp [nI]
theorem nI_get (l : List Nat) (k : Nat) : (nI l).getD k 0 = ((l.getD k 0 : Nat) : Int) := by
  simp only [nI, List.getD_eq_getElem?_getD, List.getElem?_map]
  cases l[k]? <;> rfl
theorem kindsR_c {W H : Nat} (hW : W ≤ 64) (hH : H ≤ 64) (b : Bool) {l : List Bool} (hn : l.length = W * H) :
    Contract Tryd.prog 27 [GA W H b l] (.tuple [LR (nI (knd (rowN W l) H).1).isEmpty (nI (knd (rowN W l) H).1), LR (nI (knd (rowN W l) H).2).isEmpty (nI (knd (rowN W l) H).2)]) := by
  refine Contract.intro (effS [] false) 6 follows Tryd.func27 rfl rfl (by kernel_rfl) (Nat.le_of_ble_eq_true rfl) ?_
  simp (disch := first | assumption | omega | rfl | simp only [RH]) only [↓RP, RG, FX, RQ, ↓reduceIte, Nat.reduceEqDiff, reduceCtorEq, Nat.reduceBEq, Nat.reduceAdd, Nat.reduceLeDiff, args0_1]
  refine loopK_W [1, 4, 5, 6] (fun y : Nat => y ≤ H) (fun y : Nat => ⟨[(1, .ptr 0 0 3), (4, gw true 1 (ints (nI (knd (rowN W l) y).1))), (5, gw true 2 (ints (nI (knd (rowN W l) y).2))), (6, I y)], [⟨24, 3, [I W, I H, BA b l]⟩, go 3 (ints (nI (knd (rowN W l) y).1)), go 3 (ints (nI (knd (rowN W l) y).2))]⟩) (fun y => H - y) 0 (by omega) ?_ ?_
  · simp only [↓RP, RG, FX, RQ, ↓reduceIte, Nat.reduceEqDiff, reduceCtorEq, Nat.reduceBEq, Nat.reduceAdd, Nat.reduceLeDiff]
    exact Wk.weak (WE.cons _ (.refl _) (WE.cons _ (.nil _) (WE.cons _ (.nil _) (WE.cons _ (.refl _) WE.nil)))) (.cons _ _ _ _ (WL.refl _) (.nil _ (by simp [go, ints, nI, knd])))
  intro y hy
  by_cases hy2 : y < H
  · have hl1 := knd_len (rowN W l) y
    have hl2 := knd_le (rowN W l) y
    have hfi := knd_first (rowN W l) y
    have hkn : knd (rowN W l) (y + 1) = ((knd (rowN W l) y).1 ++ [plc (rowN W l) (knd (rowN W l) y).2 y], if plc (rowN W l) (knd (rowN W l) y).2 y = (knd (rowN W l) y).2.length then (knd (rowN W l) y).2 ++ [y] else (knd (rowN W l) y).2) := rfl
    generalize (knd (rowN W l) y).1 = ks at *
    generalize (knd (rowN W l) y).2 = fs at *
    have hk1 := nI_len ks
    have hk2 := nI_len fs
    have hk3 : (ints (nI ks)).length = ks.length := by rw [ints_length, nI_len]
    have hk4 : (ints (nI fs)).length = fs.length := by rw [ints_length, nI_len]
    simp (disch := first | assumption | omega | rfl | simp only [RH]) only [↓RP, RG, FX, RQ, ↓reduceIte, Nat.reduceEqDiff, reduceCtorEq, Nat.reduceBEq, Nat.reduceAdd, Nat.reduceLeDiff]
    refine loopK_I [1, 4, 5, 6, 7] (fun k : Nat => k ≤ fs.length ∧ ∀ j, j < k → rowN W l (fs.getD j 0) ≠ rowN W l y) (fun k : Nat => ⟨[(1, .ptr 0 0 3), (4, gw true 1 (ints (nI ks))), (5, gw true 2 (ints (nI fs))), (6, I y), (7, I k)], [⟨24, 3, [I W, I H, BA b l]⟩, go 3 (ints (nI ks)), go 3 (ints (nI fs))]⟩) (fun k => fs.length - k) 0 ⟨by omega, fun j hj => by omega⟩ (by simp only [↓RP, RG, FX, RQ, ↓reduceIte, Nat.reduceEqDiff, reduceCtorEq, Nat.reduceBEq, Nat.reduceAdd, Nat.reduceLeDiff]; rfl) ?_
    rintro k ⟨hk, hne⟩
    by_cases hlt : k < fs.length
    · have hfk : fs.getD k 0 < H := by
        have := hfi (fs.getD k 0) (by simp [List.getD_eq_getElem?_getD, hlt])
        omega
      have hg := nI_get fs k
      simp (disch := first | assumption | omega | rfl | simp only [RH]) only [↓RP, RG, FX, RQ, ↓reduceIte, Nat.reduceEqDiff, reduceCtorEq, Nat.reduceBEq, Nat.reduceAdd, Nat.reduceLeDiff, hg, Int.toNat_natCast]
      refine callK_F 6 (sameRows_c hW hH b hn hfk hy2) (by simp (disch := first | assumption | omega | rfl | simp only [RH]) only [↓RP, RG, FX, RQ, ↓reduceIte, Nat.reduceEqDiff, reduceCtorEq, Nat.reduceBEq, Nat.reduceAdd, Nat.reduceLeDiff, RA] <;> rfl) (.inl (by simp [allFresh, ints_fresh, bools_fresh])) ?_
      by_cases he : rowN W l (fs.getD k 0) = rowN W l y
      · have hp := plc_eq (rowN W l) hk hne (fun _ => he)
        rw [hp, if_neg (by omega)] at hkn
        rw [decide_eq_true he]
        simp (disch := first | assumption | omega | rfl | simp only [RH]) only [↓RP, RG, FX, RQ, ↓reduceIte, Nat.reduceEqDiff, reduceCtorEq, Nat.reduceBEq, Nat.reduceAdd, Nat.reduceLeDiff, append_int]
        exact ⟨y + 1, by omega, by rw [hkn]; simp only [nI_app]; rfl, by omega⟩
      · rw [decide_eq_false he]
        simp (disch := first | assumption | omega | rfl | simp only [RH]) only [↓RP, RG, FX, RQ, ↓reduceIte, Nat.reduceEqDiff, reduceCtorEq, Nat.reduceBEq, Nat.reduceAdd, Nat.reduceLeDiff]
        refine ⟨k + 1, ⟨by omega, fun j hj => ?_⟩, rfl, by omega⟩
        by_cases hjk : j = k
        · subst hjk; exact he
        · exact hne j (by omega)
    · obtain rfl : k = fs.length := by omega
      have hp := plc_eq (rowN W l) (Nat.le_refl _) hne (fun h => absurd h (by omega))
      rw [hp, if_pos rfl] at hkn
      simp (disch := first | assumption | omega | rfl | simp only [RH]) only [↓RP, RG, FX, RQ, ↓reduceIte, Nat.reduceEqDiff, reduceCtorEq, Nat.reduceBEq, Nat.reduceAdd, Nat.reduceLeDiff, append_int]
      exact ⟨y + 1, by omega, by rw [hkn]; simp only [nI_app]; rfl, by omega⟩
  · obtain rfl : y = H := by omega
    simp (disch := first | assumption | omega | rfl | simp only [RH]) only [↓RP, RG, FX, RQ, ↓reduceIte, Nat.reduceEqDiff, reduceCtorEq, Nat.reduceBEq, Nat.reduceAdd, Nat.reduceLeDiff]
    rw [resVal_2 rfl]; simp (disch := first | assumption | omega | rfl | simp only [RH]) only [↓RP, RG, FX, RQ, ↓reduceIte, Nat.reduceEqDiff, reduceCtorEq, Nat.reduceBEq, Nat.reduceAdd, Nat.reduceLeDiff, RS]
    simp only [Bool.true_and, ints_isEmpty]
end Go.Proofs.YtbmcfkpljdchoaaDoor

/- The rows of a grid, each in an array of 64 cells with its length. -/
set_option linter.unusedSimpArgs false
set_option linter.unusedVariables false
set_option maxRecDepth 100000
namespace Go.Proofs.YtbmcfkpljdchoaaDoor
open Go Go.Proofs Go.AW

/-- Cell i of the table of lines when y lines are in. -/
def lnZ (W : Nat) (l : List Bool) (y i : Nat) : AVal :=
  if i / 65 < y then (if i % 65 < 64 then B (decide (i % 65 < W) && l.getD (W * (i / 65) + i % 65) false) else I W) else (if i % 65 < 64 then B false else I 0)
def lnC (W H : Nat) (l : List Bool) (y : Nat) : List AVal := (List.range (H * 65)).map (lnZ W l y)
theorem lnC_len (W H : Nat) (l : List Bool) (y : Nat) : (lnC W H l y).length = H * 65 := by simp [lnC]
theorem lnC_res (h : List AObj) (n W H : Nat) (l : List Bool) (y : Nat) : (lnC W H l y).map (resOf h (n + 1)) = lnC W H l y := by
  simp only [lnC, List.map_map]
  refine List.map_congr_left fun i _ => ?_
  simp only [Function.comp, lnZ]
  split <;> split <;> rfl
/-- A row of bools and its length, as a line. -/
def padR (W : Nat) (l : List Bool) (y : Nat) : List Bool := (List.range 64).map fun i => decide (i < W) && l.getD (W * y + i) false
theorem padR_len (W : Nat) (l : List Bool) (y : Nat) : (padR W l y).length = 64 := by simp [padR]
def lineA (W : Nat) (l : List Bool) (y : Nat) : List AVal := bools (padR W l y) ++ [I W]
theorem lineA_len (W : Nat) (l : List Bool) (y : Nat) : (lineA W l y).length = 65 := by simp [lineA, bools_length, padR_len]
theorem lineA_get (W : Nat) (l : List Bool) (y : Nat) {i : Nat} (hi : i < (lineA W l y).length) : (lineA W l y)[i] = if i < 64 then B (decide (i < W) && l.getD (W * y + i) false) else I W := by
  have hl := lineA_len W l y
  simp only [lineA, List.getElem_append, bools_length, padR_len]
  split
  · simp [bools, padR]
  · simp
theorem lnC_line (W H : Nat) (l : List Bool) {y : Nat} (hy : y < H) : ((lnC W H l H).drop (y * 65)).take 65 = lineA W l y := by
  refine List.ext_getElem (by rw [List.length_take, List.length_drop, lnC_len, lineA_len]; omega) fun i h1 h2 => ?_
  have hi : i < 65 := by rw [lineA_len] at h2; exact h2
  rw [lineA_get, List.getElem_take, List.getElem_drop]
  simp only [lnC, List.getElem_map, List.getElem_range, lnZ]
  have e1 : (y * 65 + i) / 65 = y := by omega
  have e2 : (y * 65 + i) % 65 = i := by omega
  rw [e1, e2, if_pos hy]
theorem lnC_zero (W H : Nat) (l : List Bool) : (List.range (H * 65)).map (fun j => (bools (List.replicate 64 false) ++ [I 0]).getD (j % 65) .undef) = lnC W H l 0 := by
  refine List.map_congr_left fun j _ => ?_
  have hm : j % 65 < 65 := Nat.mod_lt _ (by omega)
  simp only [lnZ, Nat.not_lt_zero, if_false, List.getD_eq_getElem?_getD, List.getElem?_append, bools_length, List.length_replicate]
  split
  · rename_i h
    rw [bools, List.getElem?_map, List.getElem?_replicate, if_pos h]; rfl
  · rename_i h
    have : j % 65 - 64 = 0 := by omega
    simp [this]
theorem cA_lnC {t s W H y m : Nat} {l : List Bool} (hm : m = H * 65) : cA (some ⟨t, s, lnC W H l y⟩) m = some (lnC W H l y) := by
  subst hm; simp [cA, lnC_len]
theorem cA_lenW {t s n : Nat} {cs : List AVal} (hn : cs.length = n) : cA (some ⟨t, s, cs⟩) n = some cs := by simp [cA, hn]
theorem lnC_step {W H : Nat} (hW1 : 1 ≤ W) (hW : W ≤ 64) {l : List Bool} (hn : l.length = W * H) {y : Nat} (hy : y < H) :
    splice (splice (lnC W H l y) (y * 65) (bools ((l.drop (W * y)).take W))) (y * 65 + 64) [I W] = lnC W H l (y + 1) := by
  have hin : W * y + W ≤ W * H := by rw [← Nat.mul_succ]; exact Nat.mul_le_mul_left _ hy
  have hl1 : (bools ((l.drop (W * y)).take W)).length = W := by rw [bools_length, List.length_take, List.length_drop]; omega
  have hc1 : y * 65 + (bools ((l.drop (W * y)).take W)).length ≤ (lnC W H l y).length := by rw [hl1, lnC_len]; omega
  have hs1 := splice_length _ _ _ hc1
  have hc2 : y * 65 + 64 + [I W].length ≤ (splice (lnC W H l y) (y * 65) (bools ((l.drop (W * y)).take W))).length := by rw [hs1, lnC_len]; simp; omega
  refine List.ext_getElem (by rw [splice_length _ _ _ hc2, hs1, lnC_len, lnC_len]) fun i h1 h2 => ?_
  have hi : i < H * 65 := by rw [lnC_len] at h2; exact h2
  rw [splice_get _ _ _ hc2 i h1]
  have hR : (lnC W H l (y + 1))[i] = lnZ W l (y + 1) i := by simp [lnC]
  rw [hR]
  by_cases c1 : i = y * 65 + 64
  · rw [dif_pos (by simp; omega)]
    subst c1
    have e1 : (y * 65 + 64) / 65 = y := by omega
    have e2 : (y * 65 + 64) % 65 = 64 := by omega
    simp [lnZ, e1, e2]
  · rw [dif_neg (by simp; omega), splice_get _ _ _ hc1 i (by rw [hs1, lnC_len]; exact hi)]
    by_cases c2 : y * 65 ≤ i ∧ i < y * 65 + W
    · rw [dif_pos (by rw [hl1]; exact c2)]
      have e1 : i / 65 = y := by omega
      have e2 : i % 65 = i - y * 65 := by omega
      have e3 : W * y + (i - y * 65) < l.length := by omega
      have e4 : i - y * 65 < W := by omega
      have e5 : i - y * 65 < 64 := by omega
      simp [lnZ, e1, e2, bools, List.getD_eq_getElem?_getD, e3, e4, e5]
    · rw [dif_neg (by rw [hl1]; exact c2)]
      simp only [lnC, List.getElem_map, List.getElem_range, lnZ]
      by_cases c3 : i / 65 < y
      · have c4 : i / 65 < y + 1 := by omega
        rw [if_pos c3, if_pos c4]
      · rw [if_neg c3]
        by_cases c4 : i / 65 = y
        · rw [if_pos (show i / 65 < y + 1 by omega), c4]
          have e2 : i % 65 < 64 := by omega
          have e3 : ¬ i % 65 < W := by omega
          simp [e2, e3]
        · have c5 : ¬ i / 65 < y + 1 := by omega
          rw [if_neg c5]
theorem lines_c {W H : Nat} (hW1 : 1 ≤ W) (hW : W ≤ 64) (hH1 : 1 ≤ H) (hH : H ≤ 64) (b : Bool) {l : List Bool} (hn : l.length = W * H) :
    Contract Tryd.prog 52 [GA W H b l] (.list true false H (lnC W H l H)) := by
  refine Contract.intro (effS [] false) 6 follows Tryd.func52 rfl rfl (by kernel_rfl) (Nat.le_of_ble_eq_true rfl) ?_
  simp (disch := first | assumption | omega | rfl | simp only [RH]) only [↓RP, RG, FX, RQ, ↓reduceIte, Nat.reduceEqDiff, reduceCtorEq, Nat.reduceBEq, Nat.reduceAdd, Nat.reduceLeDiff, args0_1, make_W zc88, lnC_zero W H l, cA_lnC]
  refine loopK_I [1, 3, 9, 10] (fun y : Nat => y ≤ H) (fun y : Nat => ⟨[(1, .ptr 0 0 3), (3, .ref 1 0 H (H * 65)), (9, I H), (10, I y)], [⟨24, 3, [I W, I H, BA b l]⟩, ⟨88, 65, lnC W H l y⟩]⟩) (fun y => H - y) 0 (by omega) (by simp only [↓RP, RG, FX, RQ, ↓reduceIte, Nat.reduceEqDiff, reduceCtorEq, Nat.reduceBEq, Nat.reduceAdd, Nat.reduceLeDiff]; rfl) ?_
  intro y hy
  by_cases hlt : y < H
  · have hin : W * y + W ≤ W * H := by rw [← Nat.mul_succ]; exact Nat.mul_le_mul_left _ hlt
    have hWH : W * H ≤ 64 * 64 := Nat.mul_le_mul hW hH
    have m1 : (y : Int) * W = ((W * y : Nat) : Int) := by rw [Nat.mul_comm]; simp
    have m2 : ((y : Int) + 1) * W = ((W * y + W : Nat) : Int) := by rw [Int.add_mul, m1]; simp
    have hl1 : ((l.drop (W * y)).take W).length = W := by rw [List.length_take, List.length_drop]; omega
    have hst := lnC_step hW1 hW hn hlt
    have e1 : (((W * y + W : Nat) : Int) - ((W * y : Nat) : Int)).toNat = W := by omega
    simp (disch := first | assumption | omega | rfl | simp only [RH]) only [↓RP, RG, FX, RQ, ↓reduceIte, Nat.reduceEqDiff, reduceCtorEq, Nat.reduceBEq, Nat.reduceAdd, Nat.reduceLeDiff, idxW_ref, cA_lnC, slF_ptr, slice_arr, m1, m2, slice_lohi, e1, Int.toNat_natCast]
    rw [opK_copy]
    simp (disch := first | assumption | omega | rfl | simp only [RH]) only [↓RP, RG, FX, RQ, ↓reduceIte, Nat.reduceEqDiff, reduceCtorEq, Nat.reduceBEq, Nat.reduceAdd, Nat.reduceLeDiff]
    rw [copy_part (S := S22) (ty := 88) (es := 65) (cells := lnC W H l y) (l := (l.drop (W * y)).take W) rfl rfl hl1.symm hW (by omega) (by decide) (lnC_len W H l y) (by omega)]
    have hc1 : y * 65 + (bools ((l.drop (W * y)).take W)).length ≤ (lnC W H l y).length := by rw [bools_length, hl1, lnC_len]; omega
    have hs1 := splice_length _ _ _ hc1
    rw [lnC_len] at hs1
    generalize splice (lnC W H l y) (y * 65) (bools ((l.drop (W * y)).take W)) = mid at *
    have e2 : y * 65 + 64 < H * 65 := by omega
    simp (disch := first | assumption | omega | rfl | simp only [RH]) only [↓RP, RG, FX, RQ, ↓reduceIte, Nat.reduceEqDiff, reduceCtorEq, Nat.reduceBEq, Nat.reduceAdd, Nat.reduceLeDiff, idxW_ref, cA_lenW]
    rw [sX_mk (by decide), if_pos ⟨hs1, rfl, by simp; omega, rfl⟩, hst]
    simp (disch := first | assumption | omega | rfl | simp only [RH]) only [↓RP, RG, FX, RQ, ↓reduceIte, Nat.reduceEqDiff, reduceCtorEq, Nat.reduceBEq, Nat.reduceAdd, Nat.reduceLeDiff]
    exact ⟨y + 1, by omega, rfl, by omega⟩
  · obtain rfl : y = H := by omega
    simp (disch := first | assumption | omega | rfl | simp only [RH]) only [↓RP, RG, FX, RQ, ↓reduceIte, Nat.reduceEqDiff, reduceCtorEq, Nat.reduceBEq, Nat.reduceAdd, Nat.reduceLeDiff]
    rw [resVal_1 rfl]; simp (disch := first | assumption | omega | rfl | simp only [RH]) only [↓RP, RG, FX, RQ, ↓reduceIte, Nat.reduceEqDiff, reduceCtorEq, Nat.reduceBEq, Nat.reduceAdd, Nat.reduceLeDiff, RS]
    simp only [rX, lnC_len, if_true, List.drop_zero]
    rw [List.take_of_length_le (by rw [lnC_len]; exact Nat.le_refl _), lnC_res]
end Go.Proofs.YtbmcfkpljdchoaaDoor

/- The kinds of rows, by the program. -/
set_option linter.unusedSimpArgs false
set_option linter.unusedVariables false
set_option maxRecDepth 100000
namespace Go.Proofs.YtbmcfkpljdchoaaDoor
open Go Go.Proofs Go.AW

theorem padR_eq {W : Nat} (hW : W ≤ 64) {l : List Bool} {a b : Nat} : padR W l a = padR W l b ↔ rowN W l a = rowN W l b := by
  rw [rowN_eq]
  constructor
  · intro h x hx
    have := congrArg (fun r : List Bool => r.getD x false) h
    simpa [padR, List.getD_eq_getElem?_getD, List.getElem?_range (show x < 64 by omega), hx] using this
  · intro h
    refine List.map_congr_left fun x hx => ?_
    by_cases hxW : x < W
    · rw [h x hxW]
    · simp [hxW]
theorem eq_line {W : Nat} (hW : W ≤ 64) (l : List Bool) (a b : Nat) : eqK (List.replicate 64 true ++ [false]) (lineA W l a) (lineA W l b) = some (decide (rowN W l a = rowN W l b)) := by
  have h := eqK_bools (padR W l a) (padR W l b) [false] [I W] [I W] (by rw [padR_len, padR_len])
  rw [padR_len] at h
  unfold lineA
  rw [h, eqK_int, eqK_nil]
  simp only [Option.map_some, beq_self_eq_true, Bool.and_true]
  congr 1
  rw [Bool.eq_iff_iff, beq_iff_eq, decide_eq_true_iff]
  exact padR_eq hW
/-- The lines of some rows, one after the other. -/
def seenC (W : Nat) (l : List Bool) (fs : List Nat) : List AVal := fs.flatMap (lineA W l)
theorem seenC_len (W : Nat) (l : List Bool) (fs : List Nat) : (seenC W l fs).length = fs.length * 65 := by
  induction fs with
  | nil => rfl
  | cons f fs ih => simp only [seenC, List.flatMap_cons, List.length_append, List.length_cons, lineA_len] at ih ⊢; omega
theorem seenC_app (W : Nat) (l : List Bool) (fs : List Nat) (y : Nat) : seenC W l (fs ++ [y]) = seenC W l fs ++ lineA W l y := by simp [seenC]
theorem seenC_at (W : Nat) (l : List Bool) : ∀ (fs : List Nat) (k : Nat), k < fs.length → ((seenC W l fs).drop (k * 65)).take 65 = lineA W l (fs.getD k 0)
  | [], k, h => by simp at h
  | f :: fs, 0, _ => by
    simp only [seenC, List.flatMap_cons, Nat.zero_mul, List.drop_zero, List.getD_cons_zero]
    rw [List.take_append_of_le_length (by rw [lineA_len]; exact Nat.le_refl _), List.take_of_length_le (by rw [lineA_len]; exact Nat.le_refl _)]
  | f :: fs, k + 1, h => by
    have ih := seenC_at W l fs k (by simpa using h)
    have e : (k + 1) * 65 = (lineA W l f).length + k * 65 := by rw [lineA_len]; omega
    simp only [seenC, List.flatMap_cons, List.getD_cons_succ] at ih ⊢
    rw [e, List.drop_append, List.drop_eq_nil_of_le (by omega), List.nil_append, Nat.add_sub_cancel_left]
    exact ih
theorem lineA_one (W : Nat) (l : List Bool) (y : Nat) : (lineA W l y).all AVal.one = true := by
  rw [lineA, List.all_append, bools_one]; rfl
theorem lineA_ren (f : Nat → Option Nat) (n : Nat) (W : Nat) (l : List Bool) (y : Nat) : (lineA W l y).map (ren f (n + 1)) = lineA W l y := by
  simp only [lineA, List.map_append, map_ren_bools]; rfl
theorem seenC_ren (f : Nat → Option Nat) (n : Nat) (W : Nat) (l : List Bool) (fs : List Nat) : (seenC W l fs).map (ren f (n + 1)) = seenC W l fs := by
  induction fs with
  | nil => rfl
  | cons g fs ih => simp only [seenC, List.flatMap_cons, List.map_append, lineA_ren] at ih ⊢; rw [ih]
theorem take_line (W : Nat) (l : List Bool) (y : Nat) : (lineA W l y).take 65 = lineA W l y := List.take_of_length_le (by rw [lineA_len]; exact Nat.le_refl _)
theorem lnC_fr (n W H : Nat) (l : List Bool) (y : Nat) : (lnC W H l y).all (allFresh (n + 1)) = true := by
  rw [List.all_eq_true]
  intro x hx
  simp only [lnC, List.mem_map] at hx
  obtain ⟨i, _, rfl⟩ := hx
  simp only [lnZ]
  split <;> split <;> rfl
theorem lnC_ren (f : Nat → Option Nat) (n W H : Nat) (l : List Bool) (y : Nat) : (lnC W H l y).map (ren f (n + 1)) = lnC W H l y := by
  simp only [lnC, List.map_map]
  refine List.map_congr_left fun i _ => ?_
  simp only [Function.comp, lnZ]
  split <;> split <;> rfl
theorem ren_gwW (f : Nat → Option Nat) (n s k m : Nat) (hk : f k = some k) : ren f (n + 1) (gwW s k m) = gwW s k m := by
  unfold gwW
  split
  · simp [ren, hk]
  · simp [ren, hk]
theorem renO_goW (f : Nat → Option Nat) (n e s : Nat) (xs : List AVal) (hx : xs.map (ren f n) = xs) : renO f n (goW e s xs) = goW e s xs := by
  cases xs with
  | nil => rfl
  | cons x xr =>
    show AObj.mk e s ((x :: xr).map (ren f n)) = _
    rw [hx]; rfl
theorem lnC_len65 (W H : Nat) (l : List Bool) {y : Nat} (hy : y < H) : 65 ≤ ((lnC W H l H).drop (y * 65)).length := by rw [List.length_drop, lnC_len]; omega
theorem seenC_len65 (W : Nat) (l : List Bool) (fs : List Nat) {k : Nat} (hk : k < fs.length) : 65 ≤ ((seenC W l fs).drop (k * 65)).length := by rw [List.length_drop, seenC_len]; omega
theorem spl_line {cs : List AVal} (W : Nat) (l : List Bool) (y : Nat) (hc : cs.length = 65) : splice cs 0 (lineA W l y) = lineA W l y := by
  have hl := splice_length cs 0 (lineA W l y) (by rw [lineA_len]; omega)
  refine List.ext_getElem (by rw [hl, lineA_len, hc]) fun i h1 h2 => ?_
  rw [splice_get cs 0 (lineA W l y) (by rw [lineA_len]; omega) i h1, dif_pos ⟨Nat.zero_le _, by omega⟩]
  rfl
theorem sX_line {g : Bool} {h : List AObj} {id ty es : Nat} {cs : List AVal} (W : Nat) (l : List Bool) (y : Nat) (hty : ty ≠ 1000003) (hc : cs.length = 65) : sX (some (g, 65)) h id 0 65 (some ⟨ty, es, cs⟩) (some (lineA W l y)) = some (h.set id ⟨ty, es, lineA W l y⟩) := by
  rw [sX_mk hty, if_pos ⟨hc, lineA_len W l y, by rw [lineA_len]; omega, lineA_one W l y⟩, spl_line W l y hc]
theorem kindsP_c {W H : Nat} (hW1 : 1 ≤ W) (hW : W ≤ 64) (hH1 : 1 ≤ H) (hH : H ≤ 64) (b : Bool) {l : List Bool} (hn : l.length = W * H) :
    Contract Tryd.prog 45 [GA W H b l] (.tuple [LR (nI (knd (rowN W l) H).1).isEmpty (nI (knd (rowN W l) H).1), LR (nI (knd (rowN W l) H).2).isEmpty (nI (knd (rowN W l) H).2)]) := by
  refine Contract.intro (effS [] false) 6 follows Tryd.func45 rfl rfl (by kernel_rfl) (Nat.le_of_ble_eq_true rfl) ?_
  simp (disch := first | assumption | omega | rfl | simp only [RH]) only [↓RP, RG, FX, RQ, ↓reduceIte, Nat.reduceEqDiff, reduceCtorEq, Nat.reduceBEq, Nat.reduceAdd, Nat.reduceLeDiff, args0_1]
  refine callK_F 6 (lines_c hW1 hW hH1 hH b hn) (by simp (disch := first | assumption | omega | rfl | simp only [RH]) only [↓RP, RG, FX, RQ, ↓reduceIte, Nat.reduceEqDiff, reduceCtorEq, Nat.reduceBEq, Nat.reduceAdd, Nat.reduceLeDiff, RA] <;> rfl) (.inl (by simp [allFresh, lnC_fr])) ?_
  simp (disch := first | assumption | omega | rfl | simp only [RH]) only [↓RP, RG, FX, RQ, ↓reduceIte, Nat.reduceEqDiff, reduceCtorEq, Nat.reduceBEq, Nat.reduceAdd, Nat.reduceLeDiff]
  refine loopK_WW [2, 3, 4, 9, 10, 11] (fun y : Nat => y ≤ H) (fun y : Nat => ⟨[(2, gw true 1 (ints (nI (knd (rowN W l) y).1))), (3, gw true 2 (ints (nI (knd (rowN W l) y).2))), (4, gwW 65 3 (knd (rowN W l) y).2.length), (9, .list true false H (lnC W H l H)), (10, I H), (11, I y)], [⟨24, 3, [I W, I H, BA b l]⟩, go 3 (ints (nI (knd (rowN W l) y).1)), go 3 (ints (nI (knd (rowN W l) y).2)), goW 88 65 (seenC W l (knd (rowN W l) y).2)]⟩) (fun y => H - y) 0 (by omega) ?_ ?_
  · simp only [↓RP, RG, FX, RQ, ↓reduceIte, Nat.reduceEqDiff, reduceCtorEq, Nat.reduceBEq, Nat.reduceAdd, Nat.reduceLeDiff]
    exact Wk.weak (WE.cons _ (.nil _) (WE.cons _ (.nil _) (WE.cons _ (.nil _) (WE.cons _ (.refl _) (WE.cons _ (.refl _) (WE.cons _ (.refl _) WE.nil)))))) (.cons _ _ _ _ (WL.refl _) (.nil _ (by simp [go, ints, nI, knd, goW, seenC])))
  intro y hy
  by_cases hy2 : y < H
  · have hl1 := knd_len (rowN W l) y
    have hl2 := knd_le (rowN W l) y
    have hfi := knd_first (rowN W l) y
    have hkn : knd (rowN W l) (y + 1) = ((knd (rowN W l) y).1 ++ [plc (rowN W l) (knd (rowN W l) y).2 y], if plc (rowN W l) (knd (rowN W l) y).2 y = (knd (rowN W l) y).2.length then (knd (rowN W l) y).2 ++ [y] else (knd (rowN W l) y).2) := rfl
    generalize (knd (rowN W l) y).1 = ks at *
    generalize (knd (rowN W l) y).2 = fs at *
    have hk1 := nI_len ks
    have hk2 := nI_len fs
    have hk3 : (ints (nI ks)).length = ks.length := by rw [ints_length, nI_len]
    have hk4 : (ints (nI fs)).length = fs.length := by rw [ints_length, nI_len]
    have hlc := lnC_line W H l hy2
    have hl65 := lnC_len65 W H l hy2
    have hsl := seenC_len W l fs
    have hz65 : (bools (List.replicate 64 false) ++ [I 0]).length = 65 := by simp [bools_length]
    simp (disch := first | assumption | omega | rfl | simp only [RH]) only [↓RP, RG, FX, RQ, ↓reduceIte, Nat.reduceEqDiff, reduceCtorEq, Nat.reduceBEq, Nat.reduceAdd, Nat.reduceLeDiff, idxM_list, Int.toNat_natCast, hlc, hl65, take_line, parts_agg, sX_line]
    refine loopK_I [2, 3, 4, 5, 6, 7, 9, 10, 11] (fun k : Nat => k ≤ fs.length ∧ ∀ j, j < k → rowN W l (fs.getD j 0) ≠ rowN W l y) (fun k : Nat => ⟨[(2, gw true 1 (ints (nI ks))), (3, gw true 2 (ints (nI fs))), (4, gwW 65 3 fs.length), (5, I y), (6, .ptr 4 0 65), (7, I k), (9, .list true false H (lnC W H l H)), (10, I H), (11, I y)], [⟨24, 3, [I W, I H, BA b l]⟩, go 3 (ints (nI ks)), go 3 (ints (nI fs)), goW 88 65 (seenC W l fs), ⟨88, 65, lineA W l y⟩]⟩) (fun k => fs.length - k) 0 ⟨by omega, fun j hj => by omega⟩ (by simp only [↓RP, RG, FX, RQ, ↓reduceIte, Nat.reduceEqDiff, reduceCtorEq, Nat.reduceBEq, Nat.reduceAdd, Nat.reduceLeDiff]; rfl) ?_
    rintro k ⟨hk, hne⟩
    have hll := lineA_len W l y
    have hone := lineA_one W l y
    by_cases hlt : k < fs.length
    · have hat := seenC_at W l fs k hlt
      have hs65 := seenC_len65 W l fs hlt
      have heq := eq_line hW l (fs.getD k 0) y
      by_cases he : rowN W l (fs.getD k 0) = rowN W l y
      · have hp := plc_eq (rowN W l) hk hne (fun _ => he)
        rw [hp, if_neg (by omega)] at hkn
        rw [decide_eq_true he] at heq
        simp (disch := first | assumption | omega | rfl | simp only [RH]) only [↓RP, RG, FX, RQ, ↓reduceIte, Nat.reduceEqDiff, reduceCtorEq, Nat.reduceBEq, Nat.reduceAdd, Nat.reduceLeDiff, sview_gwW, gSW_go, idxW_gw, cA_goW, cA_lenW, hat, hs65, take_line, hll, heq, neqKT, append_int, Int.toNat_natCast]
        exact ⟨y + 1, by omega, (Wk.drop (hb := []) (h1 := []) (gs := [_, _, _, _, _]) 8 [0, 1, 2, 3] rfl (by decide) (by simp) (by simp)).trans (Wk.of_eq (by simp (disch := omega) only [RK, List.idxOf?_cons, List.idxOf?_nil, Nat.reduceBEq, Option.map_some, Option.map_none, List.map_cons, List.map_nil, List.getD_cons_zero, List.getD_cons_succ, Bool.false_eq_true, ↓reduceIte, Nat.add_zero, List.append_nil, seenC_ren, lnC_ren, ren_gwW _ _ _ _ _ (show keepF ([] : List AObj).length [0, 1, 2, 3] 3 = some 3 from rfl), renO_goW _ _ _ _ _ (seenC_ren _ _ _ _ _)]; rw [hkn]; simp only [nI_app, seenC_app, List.length_append, List.length_singleton]; rfl)), by omega⟩
      · rw [decide_eq_false he] at heq
        simp (disch := first | assumption | omega | rfl | simp only [RH]) only [↓RP, RG, FX, RQ, ↓reduceIte, Nat.reduceEqDiff, reduceCtorEq, Nat.reduceBEq, Nat.reduceAdd, Nat.reduceLeDiff, sview_gwW, gSW_go, idxW_gw, cA_goW, cA_lenW, hat, hs65, take_line, hll, heq, neqKT, Int.toNat_natCast]
        refine ⟨k + 1, ⟨by omega, fun j hj => ?_⟩, rfl, by omega⟩
        by_cases hjk : j = k
        · subst hjk; exact he
        · exact hne j (by omega)
    · obtain rfl : k = fs.length := by omega
      have hp := plc_eq (rowN W l) (Nat.le_refl _) hne (fun h => absurd h (by omega))
      rw [hp, if_pos rfl] at hkn
      simp (disch := first | assumption | omega | rfl | simp only [RH]) only [↓RP, RG, FX, RQ, ↓reduceIte, Nat.reduceEqDiff, reduceCtorEq, Nat.reduceBEq, Nat.reduceAdd, Nat.reduceLeDiff, sview_gwW, gSW_go, cA_lenW, hll, take_line, append_int, List.length_replicate, spl_line]
      rw [append_W (xs := seenC W l fs) rfl hsl hll hone (by omega) (by omega), ← seenC_app]
      simp (disch := first | assumption | omega | rfl | simp only [RH]) only [↓RP, RG, FX, RQ, ↓reduceIte, Nat.reduceEqDiff, reduceCtorEq, Nat.reduceBEq, Nat.reduceAdd, Nat.reduceLeDiff, append_int]
      exact ⟨y + 1, by omega, (Wk.drop (hb := []) (h1 := []) (gs := [_, _, _, _, _]) 8 [0, 1, 2, 3] rfl (by decide) (by simp) (by simp)).trans (Wk.of_eq (by simp (disch := omega) only [RK, List.idxOf?_cons, List.idxOf?_nil, Nat.reduceBEq, Option.map_some, Option.map_none, List.map_cons, List.map_nil, List.getD_cons_zero, List.getD_cons_succ, Bool.false_eq_true, ↓reduceIte, Nat.add_zero, List.append_nil, seenC_ren, lnC_ren, ren_gwW _ _ _ _ _ (show keepF ([] : List AObj).length [0, 1, 2, 3] 3 = some 3 from rfl), renO_goW _ _ _ _ _ (seenC_ren _ _ _ _ _)]; rw [hkn]; simp only [nI_app, seenC_app, List.length_append, List.length_singleton]; rfl)), by omega⟩
  · obtain rfl : y = H := by omega
    simp (disch := first | assumption | omega | rfl | simp only [RH]) only [↓RP, RG, FX, RQ, ↓reduceIte, Nat.reduceEqDiff, reduceCtorEq, Nat.reduceBEq, Nat.reduceAdd, Nat.reduceLeDiff]
    rw [resVal_2 rfl]; simp (disch := first | assumption | omega | rfl | simp only [RH]) only [↓RP, RG, FX, RQ, ↓reduceIte, Nat.reduceEqDiff, reduceCtorEq, Nat.reduceBEq, Nat.reduceAdd, Nat.reduceLeDiff, RS]
    simp only [Bool.true_and, ints_isEmpty]
end Go.Proofs.YtbmcfkpljdchoaaDoor

/- Grids: made cell by cell, turned. -/
set_option linter.unusedSimpArgs false
set_option linter.unusedVariables false
set_option maxRecDepth 100000
namespace Go.Proofs.YtbmcfkpljdchoaaDoor
open Go Go.Proofs Go.AW

theorem build_c (f : FuncId) (caps : List AVal) (W H : Nat) (u : Nat → Nat → Bool) (hw : W ≤ 10000) (hh : H ≤ 10000) (hcaps : ∀ r : List AObj, caps.map (argOf r 6) = caps) (hup : ∀ x y : Nat, x < W → y < H → Contract Tryd.prog f ([I x, I y] ++ caps) (B (u x y))) :
    Contract Tryd.prog 42 [I W, I H, .func (.func f) [] caps] (GR W H false (tabN W u (W * H))) := by
  have hm := mul_bd (W := W) (H := H) hw hh
  refine Contract.intro (effS [] false) 6 follows Tryd.func42 rfl rfl (by kernel_rfl) (Nat.le_of_ble_eq_true rfl) ?_
  simp (disch := first | assumption | omega | rfl | simp only [RH]) only [↓RP, RG, FX, RQ, ↓reduceIte, Nat.reduceEqDiff, reduceCtorEq, Nat.reduceBEq, Nat.reduceAdd, Nat.reduceLeDiff, args0_3, make_bool, Int.toNat_zero]
  refine loopK_I [0, 1, 2, 6, 7, 17, 18] (fun y : Nat => y ≤ H) (fun y => ⟨[(0, I W), (1, I H), (2, .func (.func f) [] caps), (6, .ptr 0 0 3), (7, .ptr 2 0 3), (17, I H), (18, I y)], [⟨24, 3, [I 0, I 0, .cap0 true]⟩, ⟨4, 1, bools (tabN W u (W * y))⟩, ⟨24, 3, [I W, I H, .ref 1 0 (W * y) (W * y)]⟩]⟩) (fun y => H - y) 0 (by omega) (by simp only [↓RP, RG, FX, RQ, ↓reduceIte, Nat.reduceEqDiff, reduceCtorEq, Nat.reduceBEq, Nat.reduceAdd, Nat.reduceLeDiff, List.replicate_zero, Nat.mul_zero]; rfl) ?_
  intro y hy
  by_cases hlt : y < H
  · simp (disch := first | assumption | omega | rfl | simp only [RH]) only [↓RP, RG, FX, RQ, ↓reduceIte, Nat.reduceEqDiff, reduceCtorEq, Nat.reduceBEq, Nat.reduceAdd, Nat.reduceLeDiff]
    refine loopK_I [0, 1, 2, 6, 7, 8, 17, 18, 21, 22] (fun x : Nat => x ≤ W) (fun x => ⟨[(0, I W), (1, I H), (2, .func (.func f) [] caps), (6, .ptr 0 0 3), (7, .ptr 2 0 3), (8, I y), (17, I H), (18, I y), (21, I W), (22, I x)], [⟨24, 3, [I 0, I 0, .cap0 true]⟩, ⟨4, 1, bools (tabN W u (W * y + x))⟩, ⟨24, 3, [I W, I H, .ref 1 0 (W * y + x) (W * y + x)]⟩]⟩) (fun x => W - x) 0 (by omega) (by simp only [↓RP, RG, FX, RQ, ↓reduceIte, Nat.reduceEqDiff, reduceCtorEq, Nat.reduceBEq, Nat.reduceAdd, Nat.reduceLeDiff]; rfl) ?_
    intro x hx
    by_cases hlt2 : x < W
    · have hl := tabN_len W u (W * y + x)
      have hb : W * y + x ≤ 1000000000 := by
        have : W * y ≤ 10000 * 10000 := Nat.mul_le_mul hw (by omega)
        omega
      simp (disch := first | assumption | omega | rfl | simp only [RH]) only [↓RP, RG, FX, RQ, ↓reduceIte, Nat.reduceEqDiff, reduceCtorEq, Nat.reduceBEq, Nat.reduceAdd, Nat.reduceLeDiff]
      refine callK_V 6 (hup x y hlt2 hlt) (by rw [List.nil_append, List.map_append, hcaps]; rfl) (.inl rfl) ?_
      simp (disch := first | assumption | omega | rfl | simp only [RH]) only [↓RP, RG, FX, RQ, ↓reduceIte, Nat.reduceEqDiff, reduceCtorEq, Nat.reduceBEq, Nat.reduceAdd, Nat.reduceLeDiff, append_refB, apRX_bools]
      exact ⟨x + 1, by omega, by rw [show W * y + (x + 1) = W * y + x + 1 from rfl, tabN_succ W u hlt2]; rfl, by omega⟩
    · obtain rfl : x = W := by omega
      simp (disch := first | assumption | omega | rfl | simp only [RH]) only [↓RP, RG, FX, RQ, ↓reduceIte, Nat.reduceEqDiff, reduceCtorEq, Nat.reduceBEq, Nat.reduceAdd, Nat.reduceLeDiff]
      exact ⟨y + 1, by omega, rfl, by omega⟩
  · obtain rfl : y = H := by omega
    have hl := tabN_len W u (W * y)
    simp (disch := first | assumption | omega | rfl | simp only [RH]) only [↓RP, RG, FX, RQ, ↓reduceIte, Nat.reduceEqDiff, reduceCtorEq, Nat.reduceBEq, Nat.reduceAdd, Nat.reduceLeDiff]
    rw [resVal_1 rfl]; simp (disch := first | assumption | omega | rfl | simp only [RH]) only [↓RP, RG, FX, RQ, ↓reduceIte, Nat.reduceEqDiff, reduceCtorEq, Nat.reduceBEq, Nat.reduceAdd, Nat.reduceLeDiff, RS]
    first | done | rw [hl]

/-- A grid turned. -/
def uT (W : Nat) (l : List Bool) (x y : Nat) : Bool := cell W l y x
theorem turnF_c {W H : Nat} (hW : W ≤ 64) (hH : H ≤ 64) (b : Bool) {l : List Bool} (hn : l.length = W * H) {x y : Nat} (hx : x < H) (hy : y < W) :
    Contract Tryd.prog 43 [I x, I y, .spot false [I W, I H, BA b l]] (B (uT W l x y)) := by
  have h1 := idx_lt (W := W) (H := H) (x := y) (y := x) hy hx
  have h2 := idx_nat W x y
  have h3 : W * H ≤ 64 * 64 := Nat.mul_le_mul hW hH
  have h4 : (x : Int) * (W : Int) = ((W * x : Nat) : Int) := by rw [Int.natCast_mul, Int.mul_comm]
  have h5 : W * x ≤ 64 * 64 := Nat.mul_le_mul hW (by omega)
  refine Contract.intro (effS [] false) 6 follows Tryd.func43 rfl rfl (by kernel_rfl) (Nat.le_of_ble_eq_true rfl) ?_
  simp (disch := first | assumption | omega | rfl | simp only [RH]) only [↓RP, RG, FX, RQ, ↓reduceIte, Nat.reduceEqDiff, reduceCtorEq, Nat.reduceBEq, Nat.reduceAdd, Nat.reduceLeDiff, args0_3]
  rw [resVal_1 rfl]; simp (disch := first | assumption | omega | rfl | simp only [RH]) only [↓RP, RG, FX, RQ, ↓reduceIte, Nat.reduceEqDiff, reduceCtorEq, Nat.reduceBEq, Nat.reduceAdd, Nat.reduceLeDiff, RS]
  first | done | (unfold uT cell; rfl)

theorem gturnP_bad (w h : Int) (b : Bool) (l : List Bool) (hz : gchk w h l.length ≠ 0) : Contract Tryd.prog 24 [GA w h b l] (.tuple [GR 0 0 true [], I (gchk w h l.length)]) := by
  refine Contract.intro (effS [] false) 6 follows Tryd.func24 rfl rfl (by kernel_rfl) (Nat.le_of_ble_eq_true rfl) ?_
  simp (disch := first | assumption | omega | rfl | simp only [RH]) only [↓RP, RG, FX, RQ, ↓reduceIte, Nat.reduceEqDiff, reduceCtorEq, Nat.reduceBEq, Nat.reduceAdd, Nat.reduceLeDiff, args0_1]
  refine callK_F 6 (gcheckP_c w h b l) (by simp (disch := first | assumption | omega | rfl | simp only [RH]) only [↓RP, RG, FX, RQ, ↓reduceIte, Nat.reduceEqDiff, reduceCtorEq, Nat.reduceBEq, Nat.reduceAdd, Nat.reduceLeDiff, RA] <;> rfl) (.inl (by simp [allFresh, ints_fresh, bools_fresh])) ?_
  simp (disch := first | assumption | omega | rfl | simp only [RH]) only [↓RP, RG, FX, RQ, ↓reduceIte, Nat.reduceEqDiff, reduceCtorEq, Nat.reduceBEq, Nat.reduceAdd, Nat.reduceLeDiff]
  rw [resVal_2 rfl]; simp (disch := first | assumption | omega | rfl | simp only [RH]) only [↓RP, RG, FX, RQ, ↓reduceIte, Nat.reduceEqDiff, reduceCtorEq, Nat.reduceBEq, Nat.reduceAdd, Nat.reduceLeDiff, RS]
  first | done | rfl

theorem gturnP_c {W H : Nat} (hW0 : 0 < W) (hH0 : 0 < H) (hW : W ≤ 64) (hH : H ≤ 64) (b : Bool) {l : List Bool} (hn : l.length = W * H) :
    Contract Tryd.prog 24 [GA W H b l] (.tuple [GR H W false (tabN H (uT W l) (H * W)), I 0]) := by
  have hz : gchk W H l.length = 0 := gchk_ok ⟨by omega, by omega, by omega, by omega, by rw [hn, Int.natCast_mul]⟩
  refine Contract.intro (effS [] false) 6 follows Tryd.func24 rfl rfl (by kernel_rfl) (Nat.le_of_ble_eq_true rfl) ?_
  simp (disch := first | assumption | omega | rfl | simp only [RH]) only [↓RP, RG, FX, RQ, ↓reduceIte, Nat.reduceEqDiff, reduceCtorEq, Nat.reduceBEq, Nat.reduceAdd, Nat.reduceLeDiff, args0_1]
  refine callK_F 6 (gcheckP_c W H b l) (by simp (disch := first | assumption | omega | rfl | simp only [RH]) only [↓RP, RG, FX, RQ, ↓reduceIte, Nat.reduceEqDiff, reduceCtorEq, Nat.reduceBEq, Nat.reduceAdd, Nat.reduceLeDiff, RA] <;> rfl) (.inl (by simp [allFresh, ints_fresh, bools_fresh])) ?_
  simp (disch := first | assumption | omega | rfl | simp only [RH]) only [↓RP, RG, FX, RQ, ↓reduceIte, Nat.reduceEqDiff, reduceCtorEq, Nat.reduceBEq, Nat.reduceAdd, Nat.reduceLeDiff]
  refine callK_F 6 (build_c 43 [.spot false [I W, I H, BA b l]] H W (uT W l) (by omega) (by omega) (fun r => by simp [argOf]; exact bools_arg l r 3) (fun x y hx hy => turnF_c hW hH b hn hx hy)) (by simp (disch := first | assumption | omega | rfl | simp only [RH]) only [↓RP, RG, FX, RQ, ↓reduceIte, Nat.reduceEqDiff, reduceCtorEq, Nat.reduceBEq, Nat.reduceAdd, Nat.reduceLeDiff, RA] <;> rfl) (.inl (by simp [allFresh, ints_fresh, bools_fresh])) ?_
  simp (disch := first | assumption | omega | rfl | simp only [RH]) only [↓RP, RG, FX, RQ, ↓reduceIte, Nat.reduceEqDiff, reduceCtorEq, Nat.reduceBEq, Nat.reduceAdd, Nat.reduceLeDiff]
  rw [resVal_2 rfl]; simp (disch := first | assumption | omega | rfl | simp only [RH]) only [↓RP, RG, FX, RQ, ↓reduceIte, Nat.reduceEqDiff, reduceCtorEq, Nat.reduceBEq, Nat.reduceAdd, Nat.reduceLeDiff, RS]
end Go.Proofs.YtbmcfkpljdchoaaDoor

/- The kinds of columns and rows, by both. -/
set_option linter.unusedSimpArgs false
set_option linter.unusedVariables false
set_option maxRecDepth 100000
namespace Go.Proofs.YtbmcfkpljdchoaaDoor
open Go Go.Proofs Go.AW

theorem turnedR_c {W H : Nat} (hW0 : 0 < W) (hH0 : 0 < H) (hW : W ≤ 64) (hH : H ≤ 64) (b : Bool) {l : List Bool} (hn : l.length = W * H) :
    Contract Tryd.prog 28 [GA W H b l] (GR H W false (tabN H (uT W l) (H * W))) := by
  have hWH : H * W ≤ 64 * 64 := Nat.mul_le_mul (by omega) (by omega)
  have hWH2 : W * H ≤ 64 * 64 := Nat.mul_le_mul (by omega) (by omega)
  have r1 := tabN_len H (uT W l) (H * W)
  refine Contract.intro (effS [30] false) 6 follows Tryd.func28 rfl rfl (by kernel_rfl) (Nat.le_of_ble_eq_true rfl) ?_
  simp (disch := first | assumption | omega | rfl | simp only [RH]) only [↓RP, RG, FX, RQ, ↓reduceIte, Nat.reduceEqDiff, reduceCtorEq, Nat.reduceBEq, Nat.reduceAdd, Nat.reduceLeDiff, args0_1]
  refine callK_T rfl (zero_n _ H W (by omega) (by omega)) ?_
  simp (disch := first | assumption | omega | rfl | simp only [RH]) only [↓RP, RG, FX, RQ, ↓reduceIte, Nat.reduceEqDiff, reduceCtorEq, Nat.reduceBEq, Nat.reduceAdd, Nat.reduceLeDiff]
  refine loopK_I [1, 2, 3, 4] (fun x : Nat => x ≤ H) (fun x => ⟨[(1, .ptr 0 0 3), (2, .ptr 1 0 3), (3, .ptr 3 0 3), (4, I x)], [⟨24, 3, [I W, I H, BA b l]⟩, ⟨24, 3, [I 0, I 0, .cap0 true]⟩, ⟨4, 1, bools (colN H (uT W l) (H * W) x 0)⟩, ⟨24, 3, [I H, I W, .ref 2 0 (H * W) (H * W)]⟩]⟩) (fun x => H - x) 0 (by omega) (by simp only [↓RP, RG, FX, RQ, ↓reduceIte, Nat.reduceEqDiff, reduceCtorEq, Nat.reduceBEq, Nat.reduceAdd, Nat.reduceLeDiff, colN_zero]; rfl) ?_
  intro x hx
  by_cases hlt : x < H
  · simp (disch := first | assumption | omega | rfl | simp only [RH]) only [↓RP, RG, FX, RQ, ↓reduceIte, Nat.reduceEqDiff, reduceCtorEq, Nat.reduceBEq, Nat.reduceAdd, Nat.reduceLeDiff]
    refine loopK_I [1, 2, 3, 4, 5] (fun y : Nat => y ≤ W) (fun y => ⟨[(1, .ptr 0 0 3), (2, .ptr 1 0 3), (3, .ptr 3 0 3), (4, I x), (5, I y)], [⟨24, 3, [I W, I H, BA b l]⟩, ⟨24, 3, [I 0, I 0, .cap0 true]⟩, ⟨4, 1, bools (colN H (uT W l) (H * W) x y)⟩, ⟨24, 3, [I H, I W, .ref 2 0 (H * W) (H * W)]⟩]⟩) (fun y => W - y) 0 (by omega) (by simp only [↓RP, RG, FX, RQ, ↓reduceIte, Nat.reduceEqDiff, reduceCtorEq, Nat.reduceBEq, Nat.reduceAdd, Nat.reduceLeDiff]; rfl) ?_
    intro y hy
    by_cases hlt2 : y < W
    · have hcl := colN_len H (uT W l) (H * W) x y
      have hil := idx_lt hlt hlt2
      have hix := idx_lt hlt2 hlt
      have hxw : (x : Int) * (W : Int) = ((W * x : Nat) : Int) := by rw [Int.natCast_mul, Int.mul_comm]
      have hwx : W * x ≤ 64 * 64 := Nat.mul_le_mul (by omega) (by omega)
      have hA : Contract Tryd.prog 31 [GA W H b l, I y, I x] (B (uT W l x y)) := at_c W H b l y x (by omega) (by omega) (by omega) (by omega) (by omega)
      simp (disch := first | assumption | omega | rfl | simp only [RH]) only [↓RP, RG, FX, RQ, ↓reduceIte, Nat.reduceEqDiff, reduceCtorEq, Nat.reduceBEq, Nat.reduceAdd, Nat.reduceLeDiff]
      refine callK_F 6 (hA) (by simp (disch := first | assumption | omega | rfl | simp only [RH]) only [↓RP, RG, FX, RQ, ↓reduceIte, Nat.reduceEqDiff, reduceCtorEq, Nat.reduceBEq, Nat.reduceAdd, Nat.reduceLeDiff, RA] <;> rfl) (.inl (by simp [allFresh, ints_fresh, bools_fresh])) ?_
      simp (disch := first | assumption | omega | rfl | simp only [RH]) only [↓RP, RG, FX, RQ, ↓reduceIte, Nat.reduceEqDiff, reduceCtorEq, Nat.reduceBEq, Nat.reduceAdd, Nat.reduceLeDiff]
      refine callK_T rfl (set_n _ 2 (H * W) H x y _ W _ (by rfl) hcl hil (by omega)) ?_
      simp (disch := first | assumption | omega | rfl | simp only [RH]) only [↓RP, RG, FX, RQ, ↓reduceIte, Nat.reduceEqDiff, reduceCtorEq, Nat.reduceBEq, Nat.reduceAdd, Nat.reduceLeDiff]
      exact ⟨y + 1, by omega, by rw [← colN_step H (uT W l) hlt]; rfl, by omega⟩
    · obtain rfl : y = W := by omega
      simp (disch := first | assumption | omega | rfl | simp only [RH]) only [↓RP, RG, FX, RQ, ↓reduceIte, Nat.reduceEqDiff, reduceCtorEq, Nat.reduceBEq, Nat.reduceAdd, Nat.reduceLeDiff]
      exact ⟨x + 1, by omega, by rw [colN_row]; rfl, by omega⟩
  · obtain rfl : x = H := by omega
    simp (disch := first | assumption | omega | rfl | simp only [RH]) only [↓RP, RG, FX, RQ, ↓reduceIte, Nat.reduceEqDiff, reduceCtorEq, Nat.reduceBEq, Nat.reduceAdd, Nat.reduceLeDiff]
    rw [colN_end]
    generalize tabN x (uT W l) (x * W) = q at *
    generalize x * W = n at *
    subst r1
    rw [resVal_1 rfl]; simp (disch := first | assumption | omega | rfl | simp only [RH]) only [↓RP, RG, FX, RQ, ↓reduceIte, Nat.reduceEqDiff, reduceCtorEq, Nat.reduceBEq, Nat.reduceAdd, Nat.reduceLeDiff, RS]

/-- Kinds of columns and their firsts; of rows. -/
def tgL (W H : Nat) (l : List Bool) : List Bool := tabN H (uT W l) (H * W)
theorem tgL_len (W H : Nat) (l : List Bool) : (tgL W H l).length = H * W := tabN_len _ _ _
def kC (W H : Nat) (l : List Bool) : List Nat := (knd (rowN H (tgL W H l)) W).1
def fC (W H : Nat) (l : List Bool) : List Nat := (knd (rowN H (tgL W H l)) W).2
def kR (W H : Nat) (l : List Bool) : List Nat := (knd (rowN W l) H).1
def fR (W H : Nat) (l : List Bool) : List Nat := (knd (rowN W l) H).2
abbrev LN (l : List Nat) : AVal := LR (nI l).isEmpty (nI l)
section
variable {W H : Nat} (hW1 : 1 ≤ W) (hW : W ≤ 64) (hH1 : 1 ≤ H) (hH : H ≤ 64) (b : Bool) {l : List Bool} (hn : l.length = W * H)
include hW1 hW hH1 hH hn
theorem both_c : Contract Tryd.prog 26 [GA W H b l] (.tuple [LN (kC W H l), LN (fC W H l), LN (kR W H l), LN (fR W H l), I 0]) := by
  have h1 := gturnP_c (by omega) (by omega) hW hH b hn
  have h2 := fun b' => kindsP_c (W := H) (H := W) hH1 hH hW1 hW b' (l := tgL W H l) (tgL_len W H l)
  have h3 := kindsP_c hW1 hW hH1 hH b hn
  have ht := tgL_len W H l
  rw [show tabN H (uT W l) (H * W) = tgL W H l from rfl] at h1
  simp only [show (knd (rowN H (tgL W H l)) W).1 = kC W H l from rfl, show (knd (rowN H (tgL W H l)) W).2 = fC W H l from rfl] at h2
  simp only [show (knd (rowN W l) H).1 = kR W H l from rfl, show (knd (rowN W l) H).2 = fR W H l from rfl] at h3
  generalize tgL W H l = tg at *
  generalize kC W H l = a1 at *
  generalize fC W H l = a2 at *
  generalize kR W H l = a3 at *
  generalize fR W H l = a4 at *
  refine Contract.intro (effS [] false) 6 follows Tryd.func26 rfl rfl (by kernel_rfl) (Nat.le_of_ble_eq_true rfl) ?_
  simp (disch := first | assumption | omega | rfl | simp only [RH]) only [↓RP, RG, FX, RQ, ↓reduceIte, Nat.reduceEqDiff, reduceCtorEq, Nat.reduceBEq, Nat.reduceAdd, Nat.reduceLeDiff, args0_1]
  refine callK_F 6 (h1) (by simp (disch := first | assumption | omega | rfl | simp only [RH]) only [↓RP, RG, FX, RQ, ↓reduceIte, Nat.reduceEqDiff, reduceCtorEq, Nat.reduceBEq, Nat.reduceAdd, Nat.reduceLeDiff, RA] <;> rfl) (.inl (by simp [allFresh, ints_fresh, bools_fresh])) ?_
  simp (disch := first | assumption | omega | rfl | simp only [RH]) only [↓RP, RG, FX, RQ, ↓reduceIte, Nat.reduceEqDiff, reduceCtorEq, Nat.reduceBEq, Nat.reduceAdd, Nat.reduceLeDiff]
  refine callK_F 6 (h2 _) (by simp (disch := first | assumption | omega | rfl | simp only [RH]) only [↓RP, RG, FX, RQ, ↓reduceIte, Nat.reduceEqDiff, reduceCtorEq, Nat.reduceBEq, Nat.reduceAdd, Nat.reduceLeDiff, RA] <;> rfl) (.inl (by simp [allFresh, ints_fresh])) ?_
  simp (disch := first | assumption | omega | rfl | simp only [RH]) only [↓RP, RG, FX, RQ, ↓reduceIte, Nat.reduceEqDiff, reduceCtorEq, Nat.reduceBEq, Nat.reduceAdd, Nat.reduceLeDiff]
  refine callK_F 6 h3 (by simp (disch := first | assumption | omega | rfl | simp only [RH]) only [↓RP, RG, FX, RQ, ↓reduceIte, Nat.reduceEqDiff, reduceCtorEq, Nat.reduceBEq, Nat.reduceAdd, Nat.reduceLeDiff, RA] <;> rfl) (.inl (by simp [allFresh, ints_fresh])) ?_
  simp (disch := first | assumption | omega | rfl | simp only [RH]) only [↓RP, RG, FX, RQ, ↓reduceIte, Nat.reduceEqDiff, reduceCtorEq, Nat.reduceBEq, Nat.reduceAdd, Nat.reduceLeDiff]
  rw [resVal_5 rfl]; simp (disch := first | assumption | omega | rfl | simp only [RH]) only [↓RP, RG, FX, RQ, ↓reduceIte, Nat.reduceEqDiff, reduceCtorEq, Nat.reduceBEq, Nat.reduceAdd, Nat.reduceLeDiff, RS]
  first | done | rfl
theorem columnsP_c : Contract Tryd.prog 8 [GA W H b l] (.tuple [LN (kC W H l), I 0]) := by
  have h1 := both_c hW1 hW hH1 hH b hn
  generalize kC W H l = a1 at *
  generalize fC W H l = a2 at *
  generalize kR W H l = a3 at *
  generalize fR W H l = a4 at *
  refine Contract.intro (effS [] false) 6 follows Tryd.func8 rfl rfl (by kernel_rfl) (Nat.le_of_ble_eq_true rfl) ?_
  simp (disch := first | assumption | omega | rfl | simp only [RH]) only [↓RP, RG, FX, RQ, ↓reduceIte, Nat.reduceEqDiff, reduceCtorEq, Nat.reduceBEq, Nat.reduceAdd, Nat.reduceLeDiff, args0_1]
  refine callK_F 6 h1 (by simp (disch := first | assumption | omega | rfl | simp only [RH]) only [↓RP, RG, FX, RQ, ↓reduceIte, Nat.reduceEqDiff, reduceCtorEq, Nat.reduceBEq, Nat.reduceAdd, Nat.reduceLeDiff, RA] <;> rfl) (.inl (by simp [allFresh, ints_fresh])) ?_
  simp (disch := first | assumption | omega | rfl | simp only [RH]) only [↓RP, RG, FX, RQ, ↓reduceIte, Nat.reduceEqDiff, reduceCtorEq, Nat.reduceBEq, Nat.reduceAdd, Nat.reduceLeDiff]
  rw [resVal_2 rfl]; simp (disch := first | assumption | omega | rfl | simp only [RH]) only [↓RP, RG, FX, RQ, ↓reduceIte, Nat.reduceEqDiff, reduceCtorEq, Nat.reduceBEq, Nat.reduceAdd, Nat.reduceLeDiff, RS]
  first | done | rfl
theorem rowsP_c : Contract Tryd.prog 10 [GA W H b l] (.tuple [LN (kR W H l), I 0]) := by
  have h1 := both_c hW1 hW hH1 hH b hn
  generalize kC W H l = a1 at *
  generalize fC W H l = a2 at *
  generalize kR W H l = a3 at *
  generalize fR W H l = a4 at *
  refine Contract.intro (effS [] false) 6 follows Tryd.func10 rfl rfl (by kernel_rfl) (Nat.le_of_ble_eq_true rfl) ?_
  simp (disch := first | assumption | omega | rfl | simp only [RH]) only [↓RP, RG, FX, RQ, ↓reduceIte, Nat.reduceEqDiff, reduceCtorEq, Nat.reduceBEq, Nat.reduceAdd, Nat.reduceLeDiff, args0_1]
  refine callK_F 6 h1 (by simp (disch := first | assumption | omega | rfl | simp only [RH]) only [↓RP, RG, FX, RQ, ↓reduceIte, Nat.reduceEqDiff, reduceCtorEq, Nat.reduceBEq, Nat.reduceAdd, Nat.reduceLeDiff, RA] <;> rfl) (.inl (by simp [allFresh, ints_fresh])) ?_
  simp (disch := first | assumption | omega | rfl | simp only [RH]) only [↓RP, RG, FX, RQ, ↓reduceIte, Nat.reduceEqDiff, reduceCtorEq, Nat.reduceBEq, Nat.reduceAdd, Nat.reduceLeDiff]
  rw [resVal_2 rfl]; simp (disch := first | assumption | omega | rfl | simp only [RH]) only [↓RP, RG, FX, RQ, ↓reduceIte, Nat.reduceEqDiff, reduceCtorEq, Nat.reduceBEq, Nat.reduceAdd, Nat.reduceLeDiff, RS]
  first | done | rfl
theorem countP_c : Contract Tryd.prog 12 [GA W H b l] (.tuple [I (fC W H l).length, I (fR W H l).length, I 0]) := by
  have h1 := both_c hW1 hW hH1 hH b hn
  have n1 := nI_len (fC W H l)
  have n2 := nI_len (fR W H l)
  generalize kC W H l = a1 at *
  generalize fC W H l = a2 at *
  generalize kR W H l = a3 at *
  generalize fR W H l = a4 at *
  refine Contract.intro (effS [] false) 6 follows Tryd.func12 rfl rfl (by kernel_rfl) (Nat.le_of_ble_eq_true rfl) ?_
  simp (disch := first | assumption | omega | rfl | simp only [RH]) only [↓RP, RG, FX, RQ, ↓reduceIte, Nat.reduceEqDiff, reduceCtorEq, Nat.reduceBEq, Nat.reduceAdd, Nat.reduceLeDiff, args0_1]
  refine callK_F 6 h1 (by simp (disch := first | assumption | omega | rfl | simp only [RH]) only [↓RP, RG, FX, RQ, ↓reduceIte, Nat.reduceEqDiff, reduceCtorEq, Nat.reduceBEq, Nat.reduceAdd, Nat.reduceLeDiff, RA] <;> rfl) (.inl (by simp [allFresh, ints_fresh])) ?_
  simp (disch := first | assumption | omega | rfl | simp only [RH]) only [↓RP, RG, FX, RQ, ↓reduceIte, Nat.reduceEqDiff, reduceCtorEq, Nat.reduceBEq, Nat.reduceAdd, Nat.reduceLeDiff, n1, n2]
  rw [resVal_3 rfl]; simp (disch := first | assumption | omega | rfl | simp only [RH]) only [↓RP, RG, FX, RQ, ↓reduceIte, Nat.reduceEqDiff, reduceCtorEq, Nat.reduceBEq, Nat.reduceAdd, Nat.reduceLeDiff, RS]
  first | done | rfl
theorem columnsR_c : Contract Tryd.prog 9 [GA W H b l] (.tuple [LN (kC W H l), I 0]) := by
  have hz : gchk W H l.length = 0 := gchk_ok ⟨by omega, by omega, by omega, by omega, by rw [hn, Int.natCast_mul]⟩
  have h1 := turnedR_c (by omega) (by omega) hW hH b hn
  have h2 := fun b' => kindsR_c (W := H) (H := W) hH hW b' (l := tgL W H l) (tgL_len W H l)
  have ht := tgL_len W H l
  rw [show tabN H (uT W l) (H * W) = tgL W H l from rfl] at h1
  simp only [show (knd (rowN H (tgL W H l)) W).1 = kC W H l from rfl, show (knd (rowN H (tgL W H l)) W).2 = fC W H l from rfl] at h2
  have hg := gcheckR_c W H b l
  rw [hz] at hg
  generalize tgL W H l = tg at *
  generalize kC W H l = a1 at *
  generalize fC W H l = a2 at *
  refine Contract.intro (effS [] false) 6 follows Tryd.func9 rfl rfl (by kernel_rfl) (Nat.le_of_ble_eq_true rfl) ?_
  simp (disch := first | assumption | omega | rfl | simp only [RH]) only [↓RP, RG, FX, RQ, ↓reduceIte, Nat.reduceEqDiff, reduceCtorEq, Nat.reduceBEq, Nat.reduceAdd, Nat.reduceLeDiff, args0_1]
  refine callK_F 6 (hg) (by simp (disch := first | assumption | omega | rfl | simp only [RH]) only [↓RP, RG, FX, RQ, ↓reduceIte, Nat.reduceEqDiff, reduceCtorEq, Nat.reduceBEq, Nat.reduceAdd, Nat.reduceLeDiff, RA] <;> rfl) (.inl (by simp [allFresh, ints_fresh, bools_fresh])) ?_
  simp (disch := first | assumption | omega | rfl | simp only [RH]) only [↓RP, RG, FX, RQ, ↓reduceIte, Nat.reduceEqDiff, reduceCtorEq, Nat.reduceBEq, Nat.reduceAdd, Nat.reduceLeDiff]
  refine callK_F 6 (h1) (by simp (disch := first | assumption | omega | rfl | simp only [RH]) only [↓RP, RG, FX, RQ, ↓reduceIte, Nat.reduceEqDiff, reduceCtorEq, Nat.reduceBEq, Nat.reduceAdd, Nat.reduceLeDiff, RA] <;> rfl) (.inl (by simp [allFresh, ints_fresh, bools_fresh])) ?_
  simp (disch := first | assumption | omega | rfl | simp only [RH]) only [↓RP, RG, FX, RQ, ↓reduceIte, Nat.reduceEqDiff, reduceCtorEq, Nat.reduceBEq, Nat.reduceAdd, Nat.reduceLeDiff]
  refine callK_F 6 (h2 _) (by simp (disch := first | assumption | omega | rfl | simp only [RH]) only [↓RP, RG, FX, RQ, ↓reduceIte, Nat.reduceEqDiff, reduceCtorEq, Nat.reduceBEq, Nat.reduceAdd, Nat.reduceLeDiff, RA] <;> rfl) (.inl (by simp [allFresh, ints_fresh])) ?_
  simp (disch := first | assumption | omega | rfl | simp only [RH]) only [↓RP, RG, FX, RQ, ↓reduceIte, Nat.reduceEqDiff, reduceCtorEq, Nat.reduceBEq, Nat.reduceAdd, Nat.reduceLeDiff]
  rw [resVal_2 rfl]; simp (disch := first | assumption | omega | rfl | simp only [RH]) only [↓RP, RG, FX, RQ, ↓reduceIte, Nat.reduceEqDiff, reduceCtorEq, Nat.reduceBEq, Nat.reduceAdd, Nat.reduceLeDiff, RS]
  first | done | rfl
theorem rowsR4_c : Contract Tryd.prog 11 [GA W H b l] (.tuple [LN (kR W H l), I 0]) := by
  have hz : gchk W H l.length = 0 := gchk_ok ⟨by omega, by omega, by omega, by omega, by rw [hn, Int.natCast_mul]⟩
  have h3 := kindsR_c hW hH b hn
  simp only [show (knd (rowN W l) H).1 = kR W H l from rfl, show (knd (rowN W l) H).2 = fR W H l from rfl] at h3
  have hg := gcheckR_c W H b l
  rw [hz] at hg
  generalize kR W H l = a3 at *
  generalize fR W H l = a4 at *
  refine Contract.intro (effS [] false) 6 follows Tryd.func11 rfl rfl (by kernel_rfl) (Nat.le_of_ble_eq_true rfl) ?_
  simp (disch := first | assumption | omega | rfl | simp only [RH]) only [↓RP, RG, FX, RQ, ↓reduceIte, Nat.reduceEqDiff, reduceCtorEq, Nat.reduceBEq, Nat.reduceAdd, Nat.reduceLeDiff, args0_1]
  refine callK_F 6 (hg) (by simp (disch := first | assumption | omega | rfl | simp only [RH]) only [↓RP, RG, FX, RQ, ↓reduceIte, Nat.reduceEqDiff, reduceCtorEq, Nat.reduceBEq, Nat.reduceAdd, Nat.reduceLeDiff, RA] <;> rfl) (.inl (by simp [allFresh, ints_fresh, bools_fresh])) ?_
  simp (disch := first | assumption | omega | rfl | simp only [RH]) only [↓RP, RG, FX, RQ, ↓reduceIte, Nat.reduceEqDiff, reduceCtorEq, Nat.reduceBEq, Nat.reduceAdd, Nat.reduceLeDiff]
  refine callK_F 6 h3 (by simp (disch := first | assumption | omega | rfl | simp only [RH]) only [↓RP, RG, FX, RQ, ↓reduceIte, Nat.reduceEqDiff, reduceCtorEq, Nat.reduceBEq, Nat.reduceAdd, Nat.reduceLeDiff, RA] <;> rfl) (.inl (by simp [allFresh, ints_fresh])) ?_
  simp (disch := first | assumption | omega | rfl | simp only [RH]) only [↓RP, RG, FX, RQ, ↓reduceIte, Nat.reduceEqDiff, reduceCtorEq, Nat.reduceBEq, Nat.reduceAdd, Nat.reduceLeDiff]
  rw [resVal_2 rfl]; simp (disch := first | assumption | omega | rfl | simp only [RH]) only [↓RP, RG, FX, RQ, ↓reduceIte, Nat.reduceEqDiff, reduceCtorEq, Nat.reduceBEq, Nat.reduceAdd, Nat.reduceLeDiff, RS]
  first | done | rfl
theorem countR_c : Contract Tryd.prog 13 [GA W H b l] (.tuple [I (fC W H l).length, I (fR W H l).length, I 0]) := by
  have hz : gchk W H l.length = 0 := gchk_ok ⟨by omega, by omega, by omega, by omega, by rw [hn, Int.natCast_mul]⟩
  have h1 := turnedR_c (by omega) (by omega) hW hH b hn
  have h2 := fun b' => kindsR_c (W := H) (H := W) hH hW b' (l := tgL W H l) (tgL_len W H l)
  have h3 := kindsR_c hW hH b hn
  have ht := tgL_len W H l
  have n1 := nI_len (fC W H l)
  have n2 := nI_len (fR W H l)
  rw [show tabN H (uT W l) (H * W) = tgL W H l from rfl] at h1
  simp only [show (knd (rowN H (tgL W H l)) W).1 = kC W H l from rfl, show (knd (rowN H (tgL W H l)) W).2 = fC W H l from rfl] at h2
  simp only [show (knd (rowN W l) H).1 = kR W H l from rfl, show (knd (rowN W l) H).2 = fR W H l from rfl] at h3
  have hg := gcheckR_c W H b l
  rw [hz] at hg
  generalize tgL W H l = tg at *
  generalize kC W H l = a1 at *
  generalize fC W H l = a2 at *
  generalize kR W H l = a3 at *
  generalize fR W H l = a4 at *
  refine Contract.intro (effS [] false) 6 follows Tryd.func13 rfl rfl (by kernel_rfl) (Nat.le_of_ble_eq_true rfl) ?_
  simp (disch := first | assumption | omega | rfl | simp only [RH]) only [↓RP, RG, FX, RQ, ↓reduceIte, Nat.reduceEqDiff, reduceCtorEq, Nat.reduceBEq, Nat.reduceAdd, Nat.reduceLeDiff, args0_1]
  refine callK_F 6 (hg) (by simp (disch := first | assumption | omega | rfl | simp only [RH]) only [↓RP, RG, FX, RQ, ↓reduceIte, Nat.reduceEqDiff, reduceCtorEq, Nat.reduceBEq, Nat.reduceAdd, Nat.reduceLeDiff, RA] <;> rfl) (.inl (by simp [allFresh, ints_fresh, bools_fresh])) ?_
  simp (disch := first | assumption | omega | rfl | simp only [RH]) only [↓RP, RG, FX, RQ, ↓reduceIte, Nat.reduceEqDiff, reduceCtorEq, Nat.reduceBEq, Nat.reduceAdd, Nat.reduceLeDiff]
  refine callK_F 6 (h1) (by simp (disch := first | assumption | omega | rfl | simp only [RH]) only [↓RP, RG, FX, RQ, ↓reduceIte, Nat.reduceEqDiff, reduceCtorEq, Nat.reduceBEq, Nat.reduceAdd, Nat.reduceLeDiff, RA] <;> rfl) (.inl (by simp [allFresh, ints_fresh, bools_fresh])) ?_
  simp (disch := first | assumption | omega | rfl | simp only [RH]) only [↓RP, RG, FX, RQ, ↓reduceIte, Nat.reduceEqDiff, reduceCtorEq, Nat.reduceBEq, Nat.reduceAdd, Nat.reduceLeDiff]
  refine callK_F 6 (h2 _) (by simp (disch := first | assumption | omega | rfl | simp only [RH]) only [↓RP, RG, FX, RQ, ↓reduceIte, Nat.reduceEqDiff, reduceCtorEq, Nat.reduceBEq, Nat.reduceAdd, Nat.reduceLeDiff, RA] <;> rfl) (.inl (by simp [allFresh, ints_fresh])) ?_
  simp (disch := first | assumption | omega | rfl | simp only [RH]) only [↓RP, RG, FX, RQ, ↓reduceIte, Nat.reduceEqDiff, reduceCtorEq, Nat.reduceBEq, Nat.reduceAdd, Nat.reduceLeDiff]
  refine callK_F 6 h3 (by simp (disch := first | assumption | omega | rfl | simp only [RH]) only [↓RP, RG, FX, RQ, ↓reduceIte, Nat.reduceEqDiff, reduceCtorEq, Nat.reduceBEq, Nat.reduceAdd, Nat.reduceLeDiff, RA] <;> rfl) (.inl (by simp [allFresh, ints_fresh])) ?_
  simp (disch := first | assumption | omega | rfl | simp only [RH]) only [↓RP, RG, FX, RQ, ↓reduceIte, Nat.reduceEqDiff, reduceCtorEq, Nat.reduceBEq, Nat.reduceAdd, Nat.reduceLeDiff, n1, n2]
  rw [resVal_3 rfl]; simp (disch := first | assumption | omega | rfl | simp only [RH]) only [↓RP, RG, FX, RQ, ↓reduceIte, Nat.reduceEqDiff, reduceCtorEq, Nat.reduceBEq, Nat.reduceAdd, Nat.reduceLeDiff, RS]
  first | done | rfl
end
end Go.Proofs.YtbmcfkpljdchoaaDoor

/- Drafts: drawdowns and lifts, whole. -/
set_option linter.unusedSimpArgs false
set_option linter.unusedVariables false
set_option maxRecDepth 100000
namespace Go.Proofs.YtbmcfkpljdchoaaDoor
open Go Go.Proofs Go.AW

end Go.Proofs.YtbmcfkpljdchoaaDoor

/- Drafts: drawdowns and lifts, whole: the reference's, and lifts. -/
set_option linter.unusedSimpArgs false
set_option linter.unusedVariables false
set_option maxRecDepth 100000
namespace Go.Proofs.YtbmcfkpljdchoaaDoor
open Go Go.Proofs Go.AW

end Go.Proofs.YtbmcfkpljdchoaaDoor

/- Drafts: compared, copied; the law of drawdowns. -/
set_option linter.unusedSimpArgs false
set_option linter.unusedVariables false
set_option maxRecDepth 100000
namespace Go.Proofs.YtbmcfkpljdchoaaDoor
open Go Go.Proofs Go.AW

def dGreat (th td : List Int) (l : List Bool) : Prop := 70 < (th.length : Int) ∨ 70 < (td.length : Int) ∨ 4200 < (l.length : Int)
instance (th td : List Int) (l : List Bool) : Decidable (dGreat th td l) := by unfold dGreat; infer_instance

def dEq (s t : Int) (th td : List Int) (w h : Int) (l : List Bool) (s' t' : Int) (th' td' : List Int) (w' h' : Int) (l' : List Bool) : Prop := s = s' ∧ t = t' ∧ th = th' ∧ td = td' ∧ w = w' ∧ h = h' ∧ l = l'
instance (s t : Int) (th td : List Int) (w h : Int) (l : List Bool) (s' t' : Int) (th' td' : List Int) (w' h' : Int) (l' : List Bool) : Decidable (dEq s t th td w h l s' t' th' td' w' h' l') := by unfold dEq; infer_instance

theorem dsameR_c (s t : Int) (b1 : Bool) (th : List Int) (b2 : Bool) (td : List Int) (w h : Int) (b3 : Bool) (l : List Bool) (s' t' : Int) (b1' : Bool) (th' : List Int) (b2' : Bool) (td' : List Int) (w' h' : Int) (b3' : Bool) (l' : List Bool) (hl1 : th.length ≤ 1000000000000) (hl2 : td.length ≤ 1000000000000) (hl3 : l.length ≤ 1000000000000) :
    Contract Tryd.prog 17 [DA s t b1 th b2 td w h b3 l, DA s' t' b1' th' b2' td' w' h' b3' l'] (B (decide (dEq s t th td w h l s' t' th' td' w' h' l'))) := by
  refine Contract.intro (effS [] false) 6 follows Tryd.func17 rfl rfl (by kernel_rfl) (Nat.le_of_ble_eq_true rfl) ?_
  by_cases c1 : s = s'
  rotate_left
  · simp (disch := first | assumption | omega | rfl | simp only [RH]) only [↓RP, RG, FX, RQ, ↓reduceIte, Nat.reduceEqDiff, reduceCtorEq, Nat.reduceBEq, Nat.reduceAdd, Nat.reduceLeDiff, args0_2]
    rw [resVal_1 rfl]; simp (disch := first | assumption | omega | rfl | simp only [RH]) only [↓RP, RG, FX, RQ, ↓reduceIte, Nat.reduceEqDiff, reduceCtorEq, Nat.reduceBEq, Nat.reduceAdd, Nat.reduceLeDiff, RS]
    first | done | exact okF (fun h => c1 h.1)
  by_cases c2 : t = t'
  rotate_left
  · simp (disch := first | assumption | omega | rfl | simp only [RH]) only [↓RP, RG, FX, RQ, ↓reduceIte, Nat.reduceEqDiff, reduceCtorEq, Nat.reduceBEq, Nat.reduceAdd, Nat.reduceLeDiff, args0_2]
    rw [resVal_1 rfl]; simp (disch := first | assumption | omega | rfl | simp only [RH]) only [↓RP, RG, FX, RQ, ↓reduceIte, Nat.reduceEqDiff, reduceCtorEq, Nat.reduceBEq, Nat.reduceAdd, Nat.reduceLeDiff, RS]
    first | done | exact okF (fun h => c2 h.2.1)
  simp (disch := first | assumption | omega | rfl | simp only [RH]) only [↓RP, RG, FX, RQ, ↓reduceIte, Nat.reduceEqDiff, reduceCtorEq, Nat.reduceBEq, Nat.reduceAdd, Nat.reduceLeDiff, args0_2]
  refine callK_F 6 (same02_c b1 b1' th th' (by omega)) (by simp (disch := first | assumption | omega | rfl | simp only [RH]) only [↓RP, RG, FX, RQ, ↓reduceIte, Nat.reduceEqDiff, reduceCtorEq, Nat.reduceBEq, Nat.reduceAdd, Nat.reduceLeDiff, RA] <;> rfl) (.inl (by simp [allFresh, ints_fresh, bools_fresh])) ?_
  by_cases c3 : th = th'
  rotate_left
  · simp (disch := first | assumption | omega | rfl | simp only [RH]) only [↓RP, RG, FX, RQ, ↓reduceIte, Nat.reduceEqDiff, reduceCtorEq, Nat.reduceBEq, Nat.reduceAdd, Nat.reduceLeDiff]
    rw [resVal_1 rfl]; simp (disch := first | assumption | omega | rfl | simp only [RH]) only [↓RP, RG, FX, RQ, ↓reduceIte, Nat.reduceEqDiff, reduceCtorEq, Nat.reduceBEq, Nat.reduceAdd, Nat.reduceLeDiff, RS]
    first | done | exact okF (fun h => c3 h.2.2.1)
  simp (disch := first | assumption | omega | rfl | simp only [RH]) only [↓RP, RG, FX, RQ, ↓reduceIte, Nat.reduceEqDiff, reduceCtorEq, Nat.reduceBEq, Nat.reduceAdd, Nat.reduceLeDiff]
  refine callK_F 6 (same02_c b2 b2' td td' (by omega)) (by simp (disch := first | assumption | omega | rfl | simp only [RH]) only [↓RP, RG, FX, RQ, ↓reduceIte, Nat.reduceEqDiff, reduceCtorEq, Nat.reduceBEq, Nat.reduceAdd, Nat.reduceLeDiff, RA] <;> rfl) (.inl (by simp [allFresh, ints_fresh, bools_fresh])) ?_
  by_cases c4 : td = td'
  rotate_left
  · simp (disch := first | assumption | omega | rfl | simp only [RH]) only [↓RP, RG, FX, RQ, ↓reduceIte, Nat.reduceEqDiff, reduceCtorEq, Nat.reduceBEq, Nat.reduceAdd, Nat.reduceLeDiff]
    rw [resVal_1 rfl]; simp (disch := first | assumption | omega | rfl | simp only [RH]) only [↓RP, RG, FX, RQ, ↓reduceIte, Nat.reduceEqDiff, reduceCtorEq, Nat.reduceBEq, Nat.reduceAdd, Nat.reduceLeDiff, RS]
    first | done | exact okF (fun h => c4 h.2.2.2.1)
  simp (disch := first | assumption | omega | rfl | simp only [RH]) only [↓RP, RG, FX, RQ, ↓reduceIte, Nat.reduceEqDiff, reduceCtorEq, Nat.reduceBEq, Nat.reduceAdd, Nat.reduceLeDiff]
  refine callK_F 6 (sameR_c w h w' h' b3 b3' l l' (by omega)) (by simp (disch := first | assumption | omega | rfl | simp only [RH]) only [↓RP, RG, FX, RQ, ↓reduceIte, Nat.reduceEqDiff, reduceCtorEq, Nat.reduceBEq, Nat.reduceAdd, Nat.reduceLeDiff, RA] <;> rfl) (.inl (by simp [allFresh, ints_fresh, bools_fresh])) ?_
  simp (disch := first | assumption | omega | rfl | simp only [RH]) only [↓RP, RG, FX, RQ, ↓reduceIte, Nat.reduceEqDiff, reduceCtorEq, Nat.reduceBEq, Nat.reduceAdd, Nat.reduceLeDiff]
  rw [resVal_1 rfl]; simp (disch := first | assumption | omega | rfl | simp only [RH]) only [↓RP, RG, FX, RQ, ↓reduceIte, Nat.reduceEqDiff, reduceCtorEq, Nat.reduceBEq, Nat.reduceAdd, Nat.reduceLeDiff, RS]
  first | done | exact okD (by unfold dEq; simp [c1, c2, c3, c4])
end Go.Proofs.YtbmcfkpljdchoaaDoor

/- The least draft of a grid, by both; grids that are not valid. -/
set_option linter.unusedSimpArgs false
set_option linter.unusedVariables false
set_option maxRecDepth 100000
namespace Go.Proofs.YtbmcfkpljdchoaaDoor
open Go Go.Proofs Go.AW

theorem limE (env : List (Nat × AVal)) : ev env (.global 0) = .spot false [I 40, I 40] := rfl

section
variable (w h : Int) (b : Bool) (l : List Bool) (hz : gchk w h l.length ≠ 0)
include hz
theorem both_bad : Contract Tryd.prog 26 [GA w h b l] (.tuple [LR true [], LR true [], LR true [], LR true [], I (gchk w h l.length)]) := by
  have h1 := gturnP_bad w h b l hz
  generalize gchk w h l.length = e at *
  refine Contract.intro (effS [] false) 6 follows Tryd.func26 rfl rfl (by kernel_rfl) (Nat.le_of_ble_eq_true rfl) ?_
  simp (disch := first | assumption | omega | rfl | simp only [RH]) only [↓RP, RG, FX, RQ, ↓reduceIte, Nat.reduceEqDiff, reduceCtorEq, Nat.reduceBEq, Nat.reduceAdd, Nat.reduceLeDiff, args0_1]
  refine callK_F 6 (h1) (by simp (disch := first | assumption | omega | rfl | simp only [RH]) only [↓RP, RG, FX, RQ, ↓reduceIte, Nat.reduceEqDiff, reduceCtorEq, Nat.reduceBEq, Nat.reduceAdd, Nat.reduceLeDiff, RA] <;> rfl) (.inl (by simp [allFresh, ints_fresh, bools_fresh])) ?_
  simp (disch := first | assumption | omega | rfl | simp only [RH]) only [↓RP, RG, FX, RQ, ↓reduceIte, Nat.reduceEqDiff, reduceCtorEq, Nat.reduceBEq, Nat.reduceAdd, Nat.reduceLeDiff]
  rw [resVal_5 rfl]; simp (disch := first | assumption | omega | rfl | simp only [RH]) only [↓RP, RG, FX, RQ, ↓reduceIte, Nat.reduceEqDiff, reduceCtorEq, Nat.reduceBEq, Nat.reduceAdd, Nat.reduceLeDiff, RS]
  first | done | rfl
theorem columnsP_bad : Contract Tryd.prog 8 [GA w h b l] (.tuple [LR true [], I (gchk w h l.length)]) := by
  have h1 := both_bad w h b l hz
  generalize gchk w h l.length = e at *
  refine Contract.intro (effS [] false) 6 follows Tryd.func8 rfl rfl (by kernel_rfl) (Nat.le_of_ble_eq_true rfl) ?_
  simp (disch := first | assumption | omega | rfl | simp only [RH]) only [↓RP, RG, FX, RQ, ↓reduceIte, Nat.reduceEqDiff, reduceCtorEq, Nat.reduceBEq, Nat.reduceAdd, Nat.reduceLeDiff, args0_1]
  refine callK_F 6 h1 (by simp (disch := first | assumption | omega | rfl | simp only [RH]) only [↓RP, RG, FX, RQ, ↓reduceIte, Nat.reduceEqDiff, reduceCtorEq, Nat.reduceBEq, Nat.reduceAdd, Nat.reduceLeDiff, RA] <;> rfl) (.inl rfl) ?_
  simp (disch := first | assumption | omega | rfl | simp only [RH]) only [↓RP, RG, FX, RQ, ↓reduceIte, Nat.reduceEqDiff, reduceCtorEq, Nat.reduceBEq, Nat.reduceAdd, Nat.reduceLeDiff]
  rw [resVal_2 rfl]; simp (disch := first | assumption | omega | rfl | simp only [RH]) only [↓RP, RG, FX, RQ, ↓reduceIte, Nat.reduceEqDiff, reduceCtorEq, Nat.reduceBEq, Nat.reduceAdd, Nat.reduceLeDiff, RS]
  first | done | rfl
theorem rowsP_bad : Contract Tryd.prog 10 [GA w h b l] (.tuple [LR true [], I (gchk w h l.length)]) := by
  have h1 := both_bad w h b l hz
  generalize gchk w h l.length = e at *
  refine Contract.intro (effS [] false) 6 follows Tryd.func10 rfl rfl (by kernel_rfl) (Nat.le_of_ble_eq_true rfl) ?_
  simp (disch := first | assumption | omega | rfl | simp only [RH]) only [↓RP, RG, FX, RQ, ↓reduceIte, Nat.reduceEqDiff, reduceCtorEq, Nat.reduceBEq, Nat.reduceAdd, Nat.reduceLeDiff, args0_1]
  refine callK_F 6 h1 (by simp (disch := first | assumption | omega | rfl | simp only [RH]) only [↓RP, RG, FX, RQ, ↓reduceIte, Nat.reduceEqDiff, reduceCtorEq, Nat.reduceBEq, Nat.reduceAdd, Nat.reduceLeDiff, RA] <;> rfl) (.inl rfl) ?_
  simp (disch := first | assumption | omega | rfl | simp only [RH]) only [↓RP, RG, FX, RQ, ↓reduceIte, Nat.reduceEqDiff, reduceCtorEq, Nat.reduceBEq, Nat.reduceAdd, Nat.reduceLeDiff]
  rw [resVal_2 rfl]; simp (disch := first | assumption | omega | rfl | simp only [RH]) only [↓RP, RG, FX, RQ, ↓reduceIte, Nat.reduceEqDiff, reduceCtorEq, Nat.reduceBEq, Nat.reduceAdd, Nat.reduceLeDiff, RS]
  first | done | rfl
theorem countP_bad : Contract Tryd.prog 12 [GA w h b l] (.tuple [I 0, I 0, I (gchk w h l.length)]) := by
  have h1 := both_bad w h b l hz
  generalize gchk w h l.length = e at *
  refine Contract.intro (effS [] false) 6 follows Tryd.func12 rfl rfl (by kernel_rfl) (Nat.le_of_ble_eq_true rfl) ?_
  simp (disch := first | assumption | omega | rfl | simp only [RH]) only [↓RP, RG, FX, RQ, ↓reduceIte, Nat.reduceEqDiff, reduceCtorEq, Nat.reduceBEq, Nat.reduceAdd, Nat.reduceLeDiff, args0_1]
  refine callK_F 6 h1 (by simp (disch := first | assumption | omega | rfl | simp only [RH]) only [↓RP, RG, FX, RQ, ↓reduceIte, Nat.reduceEqDiff, reduceCtorEq, Nat.reduceBEq, Nat.reduceAdd, Nat.reduceLeDiff, RA] <;> rfl) (.inl rfl) ?_
  simp (disch := first | assumption | omega | rfl | simp only [RH]) only [↓RP, RG, FX, RQ, ↓reduceIte, Nat.reduceEqDiff, reduceCtorEq, Nat.reduceBEq, Nat.reduceAdd, Nat.reduceLeDiff]
  rw [resVal_3 rfl]; simp (disch := first | assumption | omega | rfl | simp only [RH]) only [↓RP, RG, FX, RQ, ↓reduceIte, Nat.reduceEqDiff, reduceCtorEq, Nat.reduceBEq, Nat.reduceAdd, Nat.reduceLeDiff, RS]
  first | done | rfl
theorem ofP_bad : Contract Tryd.prog 14 [GA w h b l] (.tuple [DR 0 0 true [] true [] 0 0 true [], I (gchk w h l.length)]) := by
  have h1 := both_bad w h b l hz
  generalize gchk w h l.length = e at *
  refine Contract.intro (effS [] false) 6 follows Tryd.func14 rfl rfl (by kernel_rfl) (Nat.le_of_ble_eq_true rfl) ?_
  simp (disch := first | assumption | omega | rfl | simp only [RH]) only [↓RP, RG, FX, RQ, ↓reduceIte, Nat.reduceEqDiff, reduceCtorEq, Nat.reduceBEq, Nat.reduceAdd, Nat.reduceLeDiff, args0_1]
  refine callK_F 6 h1 (by simp (disch := first | assumption | omega | rfl | simp only [RH]) only [↓RP, RG, FX, RQ, ↓reduceIte, Nat.reduceEqDiff, reduceCtorEq, Nat.reduceBEq, Nat.reduceAdd, Nat.reduceLeDiff, RA] <;> rfl) (.inl rfl) ?_
  simp (disch := first | assumption | omega | rfl | simp only [RH]) only [↓RP, RG, FX, RQ, ↓reduceIte, Nat.reduceEqDiff, reduceCtorEq, Nat.reduceBEq, Nat.reduceAdd, Nat.reduceLeDiff]
  rw [resVal_2 rfl]; simp (disch := first | assumption | omega | rfl | simp only [RH]) only [↓RP, RG, FX, RQ, ↓reduceIte, Nat.reduceEqDiff, reduceCtorEq, Nat.reduceBEq, Nat.reduceAdd, Nat.reduceLeDiff, RS]
  first | done | rfl
theorem columnsR_bad : Contract Tryd.prog 9 [GA w h b l] (.tuple [LR true [], I (gchk w h l.length)]) := by
  have h1 := gcheckR_c w h b l
  generalize gchk w h l.length = e at *
  refine Contract.intro (effS [] false) 6 follows Tryd.func9 rfl rfl (by kernel_rfl) (Nat.le_of_ble_eq_true rfl) ?_
  simp (disch := first | assumption | omega | rfl | simp only [RH]) only [↓RP, RG, FX, RQ, ↓reduceIte, Nat.reduceEqDiff, reduceCtorEq, Nat.reduceBEq, Nat.reduceAdd, Nat.reduceLeDiff, args0_1]
  refine callK_F 6 (h1) (by simp (disch := first | assumption | omega | rfl | simp only [RH]) only [↓RP, RG, FX, RQ, ↓reduceIte, Nat.reduceEqDiff, reduceCtorEq, Nat.reduceBEq, Nat.reduceAdd, Nat.reduceLeDiff, RA] <;> rfl) (.inl (by simp [allFresh, ints_fresh, bools_fresh])) ?_
  simp (disch := first | assumption | omega | rfl | simp only [RH]) only [↓RP, RG, FX, RQ, ↓reduceIte, Nat.reduceEqDiff, reduceCtorEq, Nat.reduceBEq, Nat.reduceAdd, Nat.reduceLeDiff]
  refine callK_F 6 (h1) (by simp (disch := first | assumption | omega | rfl | simp only [RH]) only [↓RP, RG, FX, RQ, ↓reduceIte, Nat.reduceEqDiff, reduceCtorEq, Nat.reduceBEq, Nat.reduceAdd, Nat.reduceLeDiff, RA] <;> rfl) (.inl (by simp [allFresh, ints_fresh, bools_fresh])) ?_
  simp (disch := first | assumption | omega | rfl | simp only [RH]) only [↓RP, RG, FX, RQ, ↓reduceIte, Nat.reduceEqDiff, reduceCtorEq, Nat.reduceBEq, Nat.reduceAdd, Nat.reduceLeDiff]
  rw [resVal_2 rfl]; simp (disch := first | assumption | omega | rfl | simp only [RH]) only [↓RP, RG, FX, RQ, ↓reduceIte, Nat.reduceEqDiff, reduceCtorEq, Nat.reduceBEq, Nat.reduceAdd, Nat.reduceLeDiff, RS]
  first | done | rfl
theorem rowsR4_bad : Contract Tryd.prog 11 [GA w h b l] (.tuple [LR true [], I (gchk w h l.length)]) := by
  have h1 := gcheckR_c w h b l
  generalize gchk w h l.length = e at *
  refine Contract.intro (effS [] false) 6 follows Tryd.func11 rfl rfl (by kernel_rfl) (Nat.le_of_ble_eq_true rfl) ?_
  simp (disch := first | assumption | omega | rfl | simp only [RH]) only [↓RP, RG, FX, RQ, ↓reduceIte, Nat.reduceEqDiff, reduceCtorEq, Nat.reduceBEq, Nat.reduceAdd, Nat.reduceLeDiff, args0_1]
  refine callK_F 6 (h1) (by simp (disch := first | assumption | omega | rfl | simp only [RH]) only [↓RP, RG, FX, RQ, ↓reduceIte, Nat.reduceEqDiff, reduceCtorEq, Nat.reduceBEq, Nat.reduceAdd, Nat.reduceLeDiff, RA] <;> rfl) (.inl (by simp [allFresh, ints_fresh, bools_fresh])) ?_
  simp (disch := first | assumption | omega | rfl | simp only [RH]) only [↓RP, RG, FX, RQ, ↓reduceIte, Nat.reduceEqDiff, reduceCtorEq, Nat.reduceBEq, Nat.reduceAdd, Nat.reduceLeDiff]
  refine callK_F 6 (h1) (by simp (disch := first | assumption | omega | rfl | simp only [RH]) only [↓RP, RG, FX, RQ, ↓reduceIte, Nat.reduceEqDiff, reduceCtorEq, Nat.reduceBEq, Nat.reduceAdd, Nat.reduceLeDiff, RA] <;> rfl) (.inl (by simp [allFresh, ints_fresh, bools_fresh])) ?_
  simp (disch := first | assumption | omega | rfl | simp only [RH]) only [↓RP, RG, FX, RQ, ↓reduceIte, Nat.reduceEqDiff, reduceCtorEq, Nat.reduceBEq, Nat.reduceAdd, Nat.reduceLeDiff]
  rw [resVal_2 rfl]; simp (disch := first | assumption | omega | rfl | simp only [RH]) only [↓RP, RG, FX, RQ, ↓reduceIte, Nat.reduceEqDiff, reduceCtorEq, Nat.reduceBEq, Nat.reduceAdd, Nat.reduceLeDiff, RS]
  first | done | rfl
theorem countR_bad : Contract Tryd.prog 13 [GA w h b l] (.tuple [I 0, I 0, I (gchk w h l.length)]) := by
  have h1 := gcheckR_c w h b l
  generalize gchk w h l.length = e at *
  refine Contract.intro (effS [] false) 6 follows Tryd.func13 rfl rfl (by kernel_rfl) (Nat.le_of_ble_eq_true rfl) ?_
  simp (disch := first | assumption | omega | rfl | simp only [RH]) only [↓RP, RG, FX, RQ, ↓reduceIte, Nat.reduceEqDiff, reduceCtorEq, Nat.reduceBEq, Nat.reduceAdd, Nat.reduceLeDiff, args0_1]
  refine callK_F 6 (h1) (by simp (disch := first | assumption | omega | rfl | simp only [RH]) only [↓RP, RG, FX, RQ, ↓reduceIte, Nat.reduceEqDiff, reduceCtorEq, Nat.reduceBEq, Nat.reduceAdd, Nat.reduceLeDiff, RA] <;> rfl) (.inl (by simp [allFresh, ints_fresh, bools_fresh])) ?_
  simp (disch := first | assumption | omega | rfl | simp only [RH]) only [↓RP, RG, FX, RQ, ↓reduceIte, Nat.reduceEqDiff, reduceCtorEq, Nat.reduceBEq, Nat.reduceAdd, Nat.reduceLeDiff]
  refine callK_F 6 (h1) (by simp (disch := first | assumption | omega | rfl | simp only [RH]) only [↓RP, RG, FX, RQ, ↓reduceIte, Nat.reduceEqDiff, reduceCtorEq, Nat.reduceBEq, Nat.reduceAdd, Nat.reduceLeDiff, RA] <;> rfl) (.inl (by simp [allFresh, ints_fresh, bools_fresh])) ?_
  simp (disch := first | assumption | omega | rfl | simp only [RH]) only [↓RP, RG, FX, RQ, ↓reduceIte, Nat.reduceEqDiff, reduceCtorEq, Nat.reduceBEq, Nat.reduceAdd, Nat.reduceLeDiff]
  rw [resVal_3 rfl]; simp (disch := first | assumption | omega | rfl | simp only [RH]) only [↓RP, RG, FX, RQ, ↓reduceIte, Nat.reduceEqDiff, reduceCtorEq, Nat.reduceBEq, Nat.reduceAdd, Nat.reduceLeDiff, RS]
  first | done | rfl
theorem ofR_bad : Contract Tryd.prog 15 [GA w h b l] (.tuple [DR 0 0 true [] true [] 0 0 true [], I (gchk w h l.length)]) := by
  have h1 := gcheckR_c w h b l
  generalize gchk w h l.length = e at *
  refine Contract.intro (effS [30] false) 6 follows Tryd.func15 rfl rfl (by kernel_rfl) (Nat.le_of_ble_eq_true rfl) ?_
  simp (disch := first | assumption | omega | rfl | simp only [RH]) only [↓RP, RG, FX, RQ, ↓reduceIte, Nat.reduceEqDiff, reduceCtorEq, Nat.reduceBEq, Nat.reduceAdd, Nat.reduceLeDiff, args0_1]
  refine callK_F 6 (h1) (by simp (disch := first | assumption | omega | rfl | simp only [RH]) only [↓RP, RG, FX, RQ, ↓reduceIte, Nat.reduceEqDiff, reduceCtorEq, Nat.reduceBEq, Nat.reduceAdd, Nat.reduceLeDiff, RA] <;> rfl) (.inl (by simp [allFresh, ints_fresh, bools_fresh])) ?_
  simp (disch := first | assumption | omega | rfl | simp only [RH]) only [↓RP, RG, FX, RQ, ↓reduceIte, Nat.reduceEqDiff, reduceCtorEq, Nat.reduceBEq, Nat.reduceAdd, Nat.reduceLeDiff]
  refine callK_F 6 (h1) (by simp (disch := first | assumption | omega | rfl | simp only [RH]) only [↓RP, RG, FX, RQ, ↓reduceIte, Nat.reduceEqDiff, reduceCtorEq, Nat.reduceBEq, Nat.reduceAdd, Nat.reduceLeDiff, RA] <;> rfl) (.inl (by simp [allFresh, ints_fresh, bools_fresh])) ?_
  simp (disch := first | assumption | omega | rfl | simp only [RH]) only [↓RP, RG, FX, RQ, ↓reduceIte, Nat.reduceEqDiff, reduceCtorEq, Nat.reduceBEq, Nat.reduceAdd, Nat.reduceLeDiff]
  rw [resVal_2 rfl]; simp (disch := first | assumption | omega | rfl | simp only [RH]) only [↓RP, RG, FX, RQ, ↓reduceIte, Nat.reduceEqDiff, reduceCtorEq, Nat.reduceBEq, Nat.reduceAdd, Nat.reduceLeDiff, RS]
  first | done | rfl
end
end Go.Proofs.YtbmcfkpljdchoaaDoor

/- The least draft of a valid grid, by both. -/
set_option linter.unusedSimpArgs false
set_option linter.unusedVariables false
set_option maxRecDepth 100000
namespace Go.Proofs.YtbmcfkpljdchoaaDoor
open Go Go.Proofs Go.AW

/-- The tie-up of the least draft. -/
def uF (W : Nat) (l : List Bool) (es ps : List Nat) (t s : Nat) : Bool := l.getD (W * ps.getD t 0 + es.getD s 0) false
theorem fC_lt (W H : Nat) (l : List Bool) : ∀ j, j < (fC W H l).length → (fC W H l).getD j 0 < W := fun j hj =>
  knd_first _ _ _ (by rw [List.getD_eq_getElem?_getD, List.getElem?_eq_getElem hj]; exact List.getElem_mem hj)
theorem fR_lt (W H : Nat) (l : List Bool) : ∀ j, j < (fR W H l).length → (fR W H l).getD j 0 < H := fun j hj =>
  knd_first _ _ _ (by rw [List.getD_eq_getElem?_getD, List.getElem?_eq_getElem hj]; exact List.getElem_mem hj)
section
variable {W H : Nat} (hW1 : 1 ≤ W) (hW : W ≤ 64) (hH1 : 1 ≤ H) (hH : H ≤ 64) (b : Bool) {l : List Bool} (hn : l.length = W * H)
include hW1 hW hH1 hH hn
theorem ofP_many (hm : 40 < (fC W H l).length ∨ 40 < (fR W H l).length) : Contract Tryd.prog 14 [GA W H b l] (.tuple [DR 0 0 true [] true [] 0 0 true [], I 4]) := by
  have h1 := both_c hW1 hW hH1 hH b hn
  have n1 := nI_len (fC W H l)
  have n2 := nI_len (fR W H l)
  generalize kC W H l = a1 at *
  generalize fC W H l = a2 at *
  generalize kR W H l = a3 at *
  generalize fR W H l = a4 at *
  refine Contract.intro (effS [] false) 6 follows Tryd.func14 rfl rfl (by kernel_rfl) (Nat.le_of_ble_eq_true rfl) ?_
  simp (disch := first | assumption | omega | rfl | simp only [RH]) only [↓RP, RG, FX, RQ, ↓reduceIte, Nat.reduceEqDiff, reduceCtorEq, Nat.reduceBEq, Nat.reduceAdd, Nat.reduceLeDiff, args0_1]
  refine callK_F 6 h1 (by simp (disch := first | assumption | omega | rfl | simp only [RH]) only [↓RP, RG, FX, RQ, ↓reduceIte, Nat.reduceEqDiff, reduceCtorEq, Nat.reduceBEq, Nat.reduceAdd, Nat.reduceLeDiff, RA] <;> rfl) (.inl (by simp [allFresh, ints_fresh])) ?_
  simp (disch := first | assumption | omega | rfl | simp only [RH]) only [↓RP, RG, FX, RQ, ↓reduceIte, Nat.reduceEqDiff, reduceCtorEq, Nat.reduceBEq, Nat.reduceAdd, Nat.reduceLeDiff, n1, n2]
  refine loopK_I [1, 2, 3, 4, 5, 6, 7, 32, 33] (fun z : Nat => z ≤ 2 ∧ (0 < z → a2.length ≤ 40) ∧ (1 < z → a4.length ≤ 40)) (fun z : Nat => ⟨[(1, .ptr 0 0 3), (2, .ptr 1 0 7), (3, I 0), (4, LN a1), (5, LN a2), (6, LN a3), (7, LN a4), (32, .agg [I a2.length, I a4.length]), (33, I z)], [⟨24, 3, [I W, I H, BA b l]⟩, ⟨38, 7, [I 0, I 0, .cap0 true, .cap0 true, I 0, I 0, .cap0 true]⟩]⟩) (fun z => 2 - z) 0 ⟨by omega, by omega, by omega⟩ (by simp only [↓RP, RG, FX, RQ, ↓reduceIte, Nat.reduceEqDiff, reduceCtorEq, Nat.reduceBEq, Nat.reduceAdd, Nat.reduceLeDiff]; rfl) ?_
  rintro z ⟨hz, hz1, hz2⟩
  have hc : z = 0 ∨ z = 1 ∨ z = 2 := by omega
  rcases hc with rfl | rfl | rfl
  · by_cases c1 : 40 < (a2.length : Int)
    · simp (disch := first | assumption | omega | rfl | simp only [RH]) only [↓RP, RG, FX, RQ, ↓reduceIte, Nat.reduceEqDiff, reduceCtorEq, Nat.reduceBEq, Nat.reduceAdd, Nat.reduceLeDiff, opK_index, idxA_agg, idxA_spot, limE]
      rw [resVal_2 rfl]; simp (disch := first | assumption | omega | rfl | simp only [RH]) only [↓RP, RG, FX, RQ, ↓reduceIte, Nat.reduceEqDiff, reduceCtorEq, Nat.reduceBEq, Nat.reduceAdd, Nat.reduceLeDiff, RS]
      first | done | rfl
    · simp (disch := first | assumption | omega | rfl | simp only [RH]) only [↓RP, RG, FX, RQ, ↓reduceIte, Nat.reduceEqDiff, reduceCtorEq, Nat.reduceBEq, Nat.reduceAdd, Nat.reduceLeDiff, opK_index, idxA_agg, idxA_spot, limE]
      exact ⟨1, ⟨by omega, by omega, by omega⟩, rfl, by omega⟩
  · have := hz1 (by omega)
    simp (disch := first | assumption | omega | rfl | simp only [RH]) only [↓RP, RG, FX, RQ, ↓reduceIte, Nat.reduceEqDiff, reduceCtorEq, Nat.reduceBEq, Nat.reduceAdd, Nat.reduceLeDiff, opK_index, idxA_agg, idxA_spot, limE]
    rw [resVal_2 rfl]; simp (disch := first | assumption | omega | rfl | simp only [RH]) only [↓RP, RG, FX, RQ, ↓reduceIte, Nat.reduceEqDiff, reduceCtorEq, Nat.reduceBEq, Nat.reduceAdd, Nat.reduceLeDiff, RS]
    first | done | rfl
  · exfalso
    have := hz1 (by omega)
    have := hz2 (by omega)
    omega
theorem ofP_c (c1 : (fC W H l).length ≤ 40) (c2 : (fR W H l).length ≤ 40) : Contract Tryd.prog 14 [GA W H b l]
    (.tuple [DR (fC W H l).length (fR W H l).length (nI (kC W H l)).isEmpty (nI (kC W H l)) (nI (kR W H l)).isEmpty (nI (kR W H l)) (fR W H l).length (fC W H l).length (tabN (fR W H l).length (uF W l (fC W H l) (fR W H l)) ((fR W H l).length * (fC W H l).length)).isEmpty (tabN (fR W H l).length (uF W l (fC W H l) (fR W H l)) ((fR W H l).length * (fC W H l).length)), I 0]) := by
  have h1 := both_c hW1 hW hH1 hH b hn
  have n1 := nI_len (fC W H l)
  have n2 := nI_len (fR W H l)
  have hCl := fC_lt W H l
  have hRl := fR_lt W H l
  generalize kC W H l = a1 at *
  generalize fC W H l = a2 at *
  generalize kR W H l = a3 at *
  generalize fR W H l = a4 at *
  refine Contract.intro (effS [] false) 6 follows Tryd.func14 rfl rfl (by kernel_rfl) (Nat.le_of_ble_eq_true rfl) ?_
  simp (disch := first | assumption | omega | rfl | simp only [RH]) only [↓RP, RG, FX, RQ, ↓reduceIte, Nat.reduceEqDiff, reduceCtorEq, Nat.reduceBEq, Nat.reduceAdd, Nat.reduceLeDiff, args0_1]
  refine callK_F 6 h1 (by simp (disch := first | assumption | omega | rfl | simp only [RH]) only [↓RP, RG, FX, RQ, ↓reduceIte, Nat.reduceEqDiff, reduceCtorEq, Nat.reduceBEq, Nat.reduceAdd, Nat.reduceLeDiff, RA] <;> rfl) (.inl (by simp [allFresh, ints_fresh])) ?_
  simp (disch := first | assumption | omega | rfl | simp only [RH]) only [↓RP, RG, FX, RQ, ↓reduceIte, Nat.reduceEqDiff, reduceCtorEq, Nat.reduceBEq, Nat.reduceAdd, Nat.reduceLeDiff, n1, n2]
  refine loopK_I [1, 2, 3, 4, 5, 6, 7, 32, 33] (fun z : Nat => z ≤ 2) (fun z : Nat => ⟨[(1, .ptr 0 0 3), (2, .ptr 1 0 7), (3, I 0), (4, LN a1), (5, LN a2), (6, LN a3), (7, LN a4), (32, .agg [I a2.length, I a4.length]), (33, I z)], [⟨24, 3, [I W, I H, BA b l]⟩, ⟨38, 7, [I 0, I 0, .cap0 true, .cap0 true, I 0, I 0, .cap0 true]⟩]⟩) (fun z => 2 - z) 0 (by omega) (by simp only [↓RP, RG, FX, RQ, ↓reduceIte, Nat.reduceEqDiff, reduceCtorEq, Nat.reduceBEq, Nat.reduceAdd, Nat.reduceLeDiff]; rfl) ?_
  intro z hz
  have hc : z = 0 ∨ z = 1 ∨ z = 2 := by omega
  rcases hc with rfl | rfl | rfl
  · simp (disch := first | assumption | omega | rfl | simp only [RH]) only [↓RP, RG, FX, RQ, ↓reduceIte, Nat.reduceEqDiff, reduceCtorEq, Nat.reduceBEq, Nat.reduceAdd, Nat.reduceLeDiff, opK_index, idxA_agg, idxA_spot, limE]
    exact ⟨1, by omega, rfl, by omega⟩
  · simp (disch := first | assumption | omega | rfl | simp only [RH]) only [↓RP, RG, FX, RQ, ↓reduceIte, Nat.reduceEqDiff, reduceCtorEq, Nat.reduceBEq, Nat.reduceAdd, Nat.reduceLeDiff, opK_index, idxA_agg, idxA_spot, limE]
    exact ⟨2, by omega, rfl, by omega⟩
  simp (disch := first | assumption | omega | rfl | simp only [RH]) only [↓RP, RG, FX, RQ, ↓reduceIte, Nat.reduceEqDiff, reduceCtorEq, Nat.reduceBEq, Nat.reduceAdd, Nat.reduceLeDiff, n1, n2]
  refine loopK_W [1, 2, 3, 7, 11, 57, 58, 59] (fun s : Nat => s ≤ a2.length) (fun s : Nat => ⟨[(1, .ptr 0 0 3), (2, .ptr 1 0 7), (3, I 0), (7, LN a4), (11, .ptr 2 0 7), (57, LN a2), (58, I a2.length), (59, I s)], [⟨24, 3, [I W, I H, BA b l]⟩, ⟨38, 7, [I 0, I 0, .cap0 true, .cap0 true, I 0, I 0, .cap0 true]⟩, ⟨38, 7, [I a2.length, I a4.length, LN a1, LN a3, I a4.length, I a2.length, gw true 3 (bools (tabN a4.length (uF W l a2 a4) (a4.length * s)))]⟩, go 4 (bools (tabN a4.length (uF W l a2 a4) (a4.length * s)))]⟩) (fun s => a2.length - s) 0 (by omega) ?_ ?_
  · simp only [↓RP, RG, FX, RQ, ↓reduceIte, Nat.reduceEqDiff, reduceCtorEq, Nat.reduceBEq, Nat.reduceAdd, Nat.reduceLeDiff]
    exact Wk.weak (fun t => .refl _) (.cons _ _ _ _ (WL.refl _) (.cons _ _ _ _ (WL.refl _) (.cons _ _ _ _ (.cons (.refl _) (.cons (.refl _) (.cons (.refl _) (.cons (.refl _) (.cons (.refl _) (.cons (.refl _) (.cons (.nil _) .nil))))))) (.nil _ (by simp [go, bools, tabN])))))
  intro s hs
  by_cases hs2 : s < a2.length
  · have hcs := hCl s hs2
    have g1 := nI_get a2 s
    simp (disch := first | assumption | omega | rfl | simp only [RH]) only [↓RP, RG, FX, RQ, ↓reduceIte, Nat.reduceEqDiff, reduceCtorEq, Nat.reduceBEq, Nat.reduceAdd, Nat.reduceLeDiff, n1, g1]
    refine loopK_I [1, 2, 3, 7, 11, 13, 57, 58, 59, 63, 64, 65] (fun t : Nat => t ≤ a4.length) (fun t : Nat => ⟨[(1, .ptr 0 0 3), (2, .ptr 1 0 7), (3, I 0), (7, LN a4), (11, .ptr 2 0 7), (13, I (a2.getD s 0 : Nat)), (57, LN a2), (58, I a2.length), (59, I s), (63, LN a4), (64, I a4.length), (65, I t)], [⟨24, 3, [I W, I H, BA b l]⟩, ⟨38, 7, [I 0, I 0, .cap0 true, .cap0 true, I 0, I 0, .cap0 true]⟩, ⟨38, 7, [I a2.length, I a4.length, LN a1, LN a3, I a4.length, I a2.length, gw true 3 (bools (tabN a4.length (uF W l a2 a4) (a4.length * s + t)))]⟩, go 4 (bools (tabN a4.length (uF W l a2 a4) (a4.length * s + t)))]⟩) (fun t => a4.length - t) 0 (by omega) (by simp only [↓RP, RG, FX, RQ, ↓reduceIte, Nat.reduceEqDiff, reduceCtorEq, Nat.reduceBEq, Nat.reduceAdd, Nat.reduceLeDiff, n2]; rfl) ?_
    intro t ht
    by_cases ht2 : t < a4.length
    · have hrt := hRl t ht2
      have g2 := nI_get a4 t
      have hil := idx_lt hcs hrt
      have m1 : ((a4.getD t 0 : Nat) : Int) * (W : Int) = ((W * a4.getD t 0 : Nat) : Int) := by rw [Int.natCast_mul, Int.mul_comm]
      have hWH : W * H ≤ 64 * 64 := Nat.mul_le_mul hW hH
      have m2 : ((W * a4.getD t 0 : Nat) : Int) + ((a2.getD s 0 : Nat) : Int) = ((W * a4.getD t 0 + a2.getD s 0 : Nat) : Int) := by omega
      have hbl : (tabN a4.length (uF W l a2 a4) (a4.length * s + t)).length ≤ 1000000000 := by
        rw [tabN_len]
        have : a4.length * s ≤ 40 * 40 := Nat.mul_le_mul (by omega) (by omega)
        omega
      simp (disch := first | assumption | omega | rfl | simp only [RH]) only [↓RP, RG, FX, RQ, ↓reduceIte, Nat.reduceEqDiff, reduceCtorEq, Nat.reduceBEq, Nat.reduceAdd, Nat.reduceLeDiff, g2, n2, m1, m2, append_bool, Int.toNat_natCast]
      exact ⟨t + 1, by omega, by rw [show a4.length * s + (t + 1) = a4.length * s + t + 1 from rfl, tabN_succ a4.length (uF W l a2 a4) ht2]; rfl, by omega⟩
    · obtain rfl : t = a4.length := by omega
      simp (disch := first | assumption | omega | rfl | simp only [RH]) only [↓RP, RG, FX, RQ, ↓reduceIte, Nat.reduceEqDiff, reduceCtorEq, Nat.reduceBEq, Nat.reduceAdd, Nat.reduceLeDiff, n2]
      exact ⟨s + 1, by omega, rfl, by omega⟩
  · obtain rfl : s = a2.length := by omega
    simp (disch := first | assumption | omega | rfl | simp only [RH]) only [↓RP, RG, FX, RQ, ↓reduceIte, Nat.reduceEqDiff, reduceCtorEq, Nat.reduceBEq, Nat.reduceAdd, Nat.reduceLeDiff, n1]
    rw [resVal_2 rfl]; simp (disch := first | assumption | omega | rfl | simp only [RH]) only [↓RP, RG, FX, RQ, ↓reduceIte, Nat.reduceEqDiff, reduceCtorEq, Nat.reduceBEq, Nat.reduceAdd, Nat.reduceLeDiff, RS]
    first | done | (simp only [bools_isEmpty, Bool.true_and])
end
end Go.Proofs.YtbmcfkpljdchoaaDoor

/- The least draft of a valid grid, by the reference. -/
set_option linter.unusedSimpArgs false
set_option linter.unusedVariables false
set_option maxRecDepth 100000
namespace Go.Proofs.YtbmcfkpljdchoaaDoor
open Go Go.Proofs Go.AW

section
variable {W H : Nat} (hW1 : 1 ≤ W) (hW : W ≤ 64) (hH1 : 1 ≤ H) (hH : H ≤ 64) (b : Bool) {l : List Bool} (hn : l.length = W * H)
include hW1 hW hH1 hH hn
theorem ofR_many (hm : 40 < (fC W H l).length ∨ 40 < (fR W H l).length) : Contract Tryd.prog 15 [GA W H b l] (.tuple [DR 0 0 true [] true [] 0 0 true [], I 4]) := by
  have hz : gchk W H l.length = 0 := gchk_ok ⟨by omega, by omega, by omega, by omega, by rw [hn, Int.natCast_mul]⟩
  have h1 := turnedR_c (by omega) (by omega) hW hH b hn
  have h2 := fun b' => kindsR_c (W := H) (H := W) hH hW b' (l := tgL W H l) (tgL_len W H l)
  have h3 := kindsR_c hW hH b hn
  have ht := tgL_len W H l
  have n1 := nI_len (fC W H l)
  have n2 := nI_len (fR W H l)
  rw [show tabN H (uT W l) (H * W) = tgL W H l from rfl] at h1
  simp only [show (knd (rowN H (tgL W H l)) W).1 = kC W H l from rfl, show (knd (rowN H (tgL W H l)) W).2 = fC W H l from rfl] at h2
  simp only [show (knd (rowN W l) H).1 = kR W H l from rfl, show (knd (rowN W l) H).2 = fR W H l from rfl] at h3
  have hg := gcheckR_c W H b l
  rw [hz] at hg
  generalize tgL W H l = tg at *
  generalize kC W H l = a1 at *
  generalize fC W H l = a2 at *
  generalize kR W H l = a3 at *
  generalize fR W H l = a4 at *
  refine Contract.intro (effS [30] false) 6 follows Tryd.func15 rfl rfl (by kernel_rfl) (Nat.le_of_ble_eq_true rfl) ?_
  simp (disch := first | assumption | omega | rfl | simp only [RH]) only [↓RP, RG, FX, RQ, ↓reduceIte, Nat.reduceEqDiff, reduceCtorEq, Nat.reduceBEq, Nat.reduceAdd, Nat.reduceLeDiff, args0_1]
  refine callK_F 6 (hg) (by simp (disch := first | assumption | omega | rfl | simp only [RH]) only [↓RP, RG, FX, RQ, ↓reduceIte, Nat.reduceEqDiff, reduceCtorEq, Nat.reduceBEq, Nat.reduceAdd, Nat.reduceLeDiff, RA] <;> rfl) (.inl (by simp [allFresh, ints_fresh, bools_fresh])) ?_
  simp (disch := first | assumption | omega | rfl | simp only [RH]) only [↓RP, RG, FX, RQ, ↓reduceIte, Nat.reduceEqDiff, reduceCtorEq, Nat.reduceBEq, Nat.reduceAdd, Nat.reduceLeDiff]
  refine callK_F 6 (h1) (by simp (disch := first | assumption | omega | rfl | simp only [RH]) only [↓RP, RG, FX, RQ, ↓reduceIte, Nat.reduceEqDiff, reduceCtorEq, Nat.reduceBEq, Nat.reduceAdd, Nat.reduceLeDiff, RA] <;> rfl) (.inl (by simp [allFresh, ints_fresh, bools_fresh])) ?_
  simp (disch := first | assumption | omega | rfl | simp only [RH]) only [↓RP, RG, FX, RQ, ↓reduceIte, Nat.reduceEqDiff, reduceCtorEq, Nat.reduceBEq, Nat.reduceAdd, Nat.reduceLeDiff]
  refine callK_F 6 (h2 _) (by simp (disch := first | assumption | omega | rfl | simp only [RH]) only [↓RP, RG, FX, RQ, ↓reduceIte, Nat.reduceEqDiff, reduceCtorEq, Nat.reduceBEq, Nat.reduceAdd, Nat.reduceLeDiff, RA] <;> rfl) (.inl (by simp [allFresh, ints_fresh])) ?_
  simp (disch := first | assumption | omega | rfl | simp only [RH]) only [↓RP, RG, FX, RQ, ↓reduceIte, Nat.reduceEqDiff, reduceCtorEq, Nat.reduceBEq, Nat.reduceAdd, Nat.reduceLeDiff]
  refine callK_F 6 h3 (by simp (disch := first | assumption | omega | rfl | simp only [RH]) only [↓RP, RG, FX, RQ, ↓reduceIte, Nat.reduceEqDiff, reduceCtorEq, Nat.reduceBEq, Nat.reduceAdd, Nat.reduceLeDiff, RA] <;> rfl) (.inl (by simp [allFresh, ints_fresh])) ?_
  by_cases c1 : 40 < (a2.length : Int)
  · simp (disch := first | assumption | omega | rfl | simp only [RH]) only [↓RP, RG, FX, RQ, ↓reduceIte, Nat.reduceEqDiff, reduceCtorEq, Nat.reduceBEq, Nat.reduceAdd, Nat.reduceLeDiff, n1, n2]
    rw [resVal_2 rfl]; simp (disch := first | assumption | omega | rfl | simp only [RH]) only [↓RP, RG, FX, RQ, ↓reduceIte, Nat.reduceEqDiff, reduceCtorEq, Nat.reduceBEq, Nat.reduceAdd, Nat.reduceLeDiff, RS]
    first | done | rfl
  · have c2 : 40 < (a4.length : Int) := by omega
    simp (disch := first | assumption | omega | rfl | simp only [RH]) only [↓RP, RG, FX, RQ, ↓reduceIte, Nat.reduceEqDiff, reduceCtorEq, Nat.reduceBEq, Nat.reduceAdd, Nat.reduceLeDiff, n1, n2]
    rw [resVal_2 rfl]; simp (disch := first | assumption | omega | rfl | simp only [RH]) only [↓RP, RG, FX, RQ, ↓reduceIte, Nat.reduceEqDiff, reduceCtorEq, Nat.reduceBEq, Nat.reduceAdd, Nat.reduceLeDiff, RS]
    first | done | rfl
theorem ofR_c (c1 : (fC W H l).length ≤ 40) (c2 : (fR W H l).length ≤ 40) : Contract Tryd.prog 15 [GA W H b l]
    (.tuple [DR (fC W H l).length (fR W H l).length (nI (kC W H l)).isEmpty (nI (kC W H l)) (nI (kR W H l)).isEmpty (nI (kR W H l)) (fR W H l).length (fC W H l).length false (tabN (fR W H l).length (uF W l (fC W H l) (fR W H l)) ((fR W H l).length * (fC W H l).length)), I 0]) := by
  have hz : gchk W H l.length = 0 := gchk_ok ⟨by omega, by omega, by omega, by omega, by rw [hn, Int.natCast_mul]⟩
  have h1 := turnedR_c (by omega) (by omega) hW hH b hn
  have h2 := fun b' => kindsR_c (W := H) (H := W) hH hW b' (l := tgL W H l) (tgL_len W H l)
  have h3 := kindsR_c hW hH b hn
  have ht := tgL_len W H l
  have n1 := nI_len (fC W H l)
  have n2 := nI_len (fR W H l)
  have hCl := fC_lt W H l
  have hRl := fR_lt W H l
  rw [show tabN H (uT W l) (H * W) = tgL W H l from rfl] at h1
  simp only [show (knd (rowN H (tgL W H l)) W).1 = kC W H l from rfl, show (knd (rowN H (tgL W H l)) W).2 = fC W H l from rfl] at h2
  simp only [show (knd (rowN W l) H).1 = kR W H l from rfl, show (knd (rowN W l) H).2 = fR W H l from rfl] at h3
  have hg := gcheckR_c W H b l
  rw [hz] at hg
  generalize tgL W H l = tg at *
  generalize kC W H l = a1 at *
  generalize fC W H l = a2 at *
  generalize kR W H l = a3 at *
  generalize fR W H l = a4 at *
  refine Contract.intro (effS [30] false) 6 follows Tryd.func15 rfl rfl (by kernel_rfl) (Nat.le_of_ble_eq_true rfl) ?_
  simp (disch := first | assumption | omega | rfl | simp only [RH]) only [↓RP, RG, FX, RQ, ↓reduceIte, Nat.reduceEqDiff, reduceCtorEq, Nat.reduceBEq, Nat.reduceAdd, Nat.reduceLeDiff, args0_1]
  refine callK_F 6 (hg) (by simp (disch := first | assumption | omega | rfl | simp only [RH]) only [↓RP, RG, FX, RQ, ↓reduceIte, Nat.reduceEqDiff, reduceCtorEq, Nat.reduceBEq, Nat.reduceAdd, Nat.reduceLeDiff, RA] <;> rfl) (.inl (by simp [allFresh, ints_fresh, bools_fresh])) ?_
  simp (disch := first | assumption | omega | rfl | simp only [RH]) only [↓RP, RG, FX, RQ, ↓reduceIte, Nat.reduceEqDiff, reduceCtorEq, Nat.reduceBEq, Nat.reduceAdd, Nat.reduceLeDiff]
  refine callK_F 6 (h1) (by simp (disch := first | assumption | omega | rfl | simp only [RH]) only [↓RP, RG, FX, RQ, ↓reduceIte, Nat.reduceEqDiff, reduceCtorEq, Nat.reduceBEq, Nat.reduceAdd, Nat.reduceLeDiff, RA] <;> rfl) (.inl (by simp [allFresh, ints_fresh, bools_fresh])) ?_
  simp (disch := first | assumption | omega | rfl | simp only [RH]) only [↓RP, RG, FX, RQ, ↓reduceIte, Nat.reduceEqDiff, reduceCtorEq, Nat.reduceBEq, Nat.reduceAdd, Nat.reduceLeDiff]
  refine callK_F 6 (h2 _) (by simp (disch := first | assumption | omega | rfl | simp only [RH]) only [↓RP, RG, FX, RQ, ↓reduceIte, Nat.reduceEqDiff, reduceCtorEq, Nat.reduceBEq, Nat.reduceAdd, Nat.reduceLeDiff, RA] <;> rfl) (.inl (by simp [allFresh, ints_fresh])) ?_
  simp (disch := first | assumption | omega | rfl | simp only [RH]) only [↓RP, RG, FX, RQ, ↓reduceIte, Nat.reduceEqDiff, reduceCtorEq, Nat.reduceBEq, Nat.reduceAdd, Nat.reduceLeDiff]
  refine callK_F 6 h3 (by simp (disch := first | assumption | omega | rfl | simp only [RH]) only [↓RP, RG, FX, RQ, ↓reduceIte, Nat.reduceEqDiff, reduceCtorEq, Nat.reduceBEq, Nat.reduceAdd, Nat.reduceLeDiff, RA] <;> rfl) (.inl (by simp [allFresh, ints_fresh])) ?_
  simp (disch := first | assumption | omega | rfl | simp only [RH]) only [↓RP, RG, FX, RQ, ↓reduceIte, Nat.reduceEqDiff, reduceCtorEq, Nat.reduceBEq, Nat.reduceAdd, Nat.reduceLeDiff, n1, n2]
  refine callK_T rfl (zero_n _ a4.length a2.length (by omega) (by omega)) ?_
  simp (disch := first | assumption | omega | rfl | simp only [RH]) only [↓RP, RG, FX, RQ, ↓reduceIte, Nat.reduceEqDiff, reduceCtorEq, Nat.reduceBEq, Nat.reduceAdd, Nat.reduceLeDiff]
  have r1 := tabN_len a4.length (uF W l a2 a4) (a4.length * a2.length)
  have hprod : a4.length * a2.length ≤ 40 * 40 := Nat.mul_le_mul c2 c1
  refine loopK_I [1, 2, 3, 5, 7, 8, 9] (fun x : Nat => x ≤ a4.length) (fun x => ⟨[(1, .ptr 0 0 3), (2, .ptr 1 0 7), (3, I 0), (5, LN a2), (7, LN a4), (8, .ptr 3 0 7), (9, I x)], [⟨24, 3, [I W, I H, BA b l]⟩, ⟨38, 7, [I 0, I 0, .cap0 true, .cap0 true, I 0, I 0, .cap0 true]⟩, ⟨4, 1, bools (colN a4.length (uF W l a2 a4) (a4.length * a2.length) x 0)⟩, ⟨38, 7, [I a2.length, I a4.length, LN a1, LN a3, I a4.length, I a2.length, .ref 2 0 (a4.length * a2.length) (a4.length * a2.length)]⟩]⟩) (fun x => a4.length - x) 0 (by omega) (by simp only [↓RP, RG, FX, RQ, ↓reduceIte, Nat.reduceEqDiff, reduceCtorEq, Nat.reduceBEq, Nat.reduceAdd, Nat.reduceLeDiff, colN_zero]; rfl) ?_
  intro x hx
  by_cases hlt : x < a4.length
  · have hrt := hRl x hlt
    have g2 := nI_get a4 x
    simp (disch := first | assumption | omega | rfl | simp only [RH]) only [↓RP, RG, FX, RQ, ↓reduceIte, Nat.reduceEqDiff, reduceCtorEq, Nat.reduceBEq, Nat.reduceAdd, Nat.reduceLeDiff, n2]
    refine loopK_I [1, 2, 3, 5, 7, 8, 9, 10] (fun y : Nat => y ≤ a2.length) (fun y => ⟨[(1, .ptr 0 0 3), (2, .ptr 1 0 7), (3, I 0), (5, LN a2), (7, LN a4), (8, .ptr 3 0 7), (9, I x), (10, I y)], [⟨24, 3, [I W, I H, BA b l]⟩, ⟨38, 7, [I 0, I 0, .cap0 true, .cap0 true, I 0, I 0, .cap0 true]⟩, ⟨4, 1, bools (colN a4.length (uF W l a2 a4) (a4.length * a2.length) x y)⟩, ⟨38, 7, [I a2.length, I a4.length, LN a1, LN a3, I a4.length, I a2.length, .ref 2 0 (a4.length * a2.length) (a4.length * a2.length)]⟩]⟩) (fun y => a2.length - y) 0 (by omega) (by simp only [↓RP, RG, FX, RQ, ↓reduceIte, Nat.reduceEqDiff, reduceCtorEq, Nat.reduceBEq, Nat.reduceAdd, Nat.reduceLeDiff]; rfl) ?_
    intro y hy
    by_cases hlt2 : y < a2.length
    · have hcs := hCl y hlt2
      have g1 := nI_get a2 y
      have hcl := colN_len a4.length (uF W l a2 a4) (a4.length * a2.length) x y
      have hil := idx_lt hlt hlt2
      have hix := idx_lt hcs hrt
      have hWH : W * H ≤ 64 * 64 := Nat.mul_le_mul hW hH
      have hxw : ((a4.getD x 0 : Nat) : Int) * (W : Int) = ((W * a4.getD x 0 : Nat) : Int) := by rw [Int.natCast_mul, Int.mul_comm]
      have hcu : cell W l ((a2.getD y 0 : Nat) : Int) ((a4.getD x 0 : Nat) : Int) = uF W l a2 a4 x y := by rw [cell, idx_nat]; rfl
      have hA : Contract Tryd.prog 31 [GA W H b l, I (a2.getD y 0 : Nat), I (a4.getD x 0 : Nat)] (B (uF W l a2 a4 x y)) := hcu ▸ at_c W H b l (a2.getD y 0 : Nat) (a4.getD x 0 : Nat) (by omega) (by omega) (by omega) (by omega) (by omega)
      simp (disch := first | assumption | omega | rfl | simp only [RH]) only [↓RP, RG, FX, RQ, ↓reduceIte, Nat.reduceEqDiff, reduceCtorEq, Nat.reduceBEq, Nat.reduceAdd, Nat.reduceLeDiff, n1, n2, g1, g2, Int.toNat_natCast]
      refine callK_F 6 (hA) (by simp (disch := first | assumption | omega | rfl | simp only [RH]) only [↓RP, RG, FX, RQ, ↓reduceIte, Nat.reduceEqDiff, reduceCtorEq, Nat.reduceBEq, Nat.reduceAdd, Nat.reduceLeDiff, RA] <;> rfl) (.inl (by simp [allFresh, ints_fresh, bools_fresh])) ?_
      simp (disch := first | assumption | omega | rfl | simp only [RH]) only [↓RP, RG, FX, RQ, ↓reduceIte, Nat.reduceEqDiff, reduceCtorEq, Nat.reduceBEq, Nat.reduceAdd, Nat.reduceLeDiff]
      refine callK_T rfl (set_n _ 2 (a4.length * a2.length) a4.length x y _ a2.length _ (by rfl) hcl hil (by omega)) ?_
      simp (disch := first | assumption | omega | rfl | simp only [RH]) only [↓RP, RG, FX, RQ, ↓reduceIte, Nat.reduceEqDiff, reduceCtorEq, Nat.reduceBEq, Nat.reduceAdd, Nat.reduceLeDiff]
      exact ⟨y + 1, by omega, by rw [← colN_step a4.length (uF W l a2 a4) hlt]; rfl, by omega⟩
    · obtain rfl : y = a2.length := by omega
      simp (disch := first | assumption | omega | rfl | simp only [RH]) only [↓RP, RG, FX, RQ, ↓reduceIte, Nat.reduceEqDiff, reduceCtorEq, Nat.reduceBEq, Nat.reduceAdd, Nat.reduceLeDiff, n1]
      exact ⟨x + 1, by omega, by rw [colN_row]; rfl, by omega⟩
  · obtain rfl : x = a4.length := by omega
    simp (disch := first | assumption | omega | rfl | simp only [RH]) only [↓RP, RG, FX, RQ, ↓reduceIte, Nat.reduceEqDiff, reduceCtorEq, Nat.reduceBEq, Nat.reduceAdd, Nat.reduceLeDiff, n2]
    rw [colN_end]
    generalize tabN a4.length (uF W l a2 a4) (a4.length * a2.length) = q at *
    generalize a4.length * a2.length = n at *
    subst r1
    rw [resVal_2 rfl]; simp (disch := first | assumption | omega | rfl | simp only [RH]) only [↓RP, RG, FX, RQ, ↓reduceIte, Nat.reduceEqDiff, reduceCtorEq, Nat.reduceBEq, Nat.reduceAdd, Nat.reduceLeDiff, RS]
    first | done | rfl
end
end Go.Proofs.YtbmcfkpljdchoaaDoor

/- Both give the same kinds and drafts: the law FactorKinds. -/
set_option linter.unusedSimpArgs false
set_option linter.unusedVariables false
set_option maxRecDepth 100000
namespace Go.Proofs.YtbmcfkpljdchoaaDoor
open Go Go.Proofs Go.AW

section
variable (w h : Int) (b : Bool) (l : List Bool)
theorem gcases : gchk w h l.length ≠ 0 ∨ ∃ W H : Nat, w = W ∧ h = H ∧ gchk w h l.length = 0 ∧ 1 ≤ W ∧ W ≤ 64 ∧ 1 ≤ H ∧ H ≤ 64 ∧ l.length = W * H := by
  by_cases ck : gchk w h l.length = 0
  · obtain ⟨g1, g2, g3, g4, g5⟩ := gchk_iff.1 ck
    refine .inr ⟨w.toNat, h.toNat, by omega, by omega, ck, by omega, by omega, by omega, by omega, ?_⟩
    have e1 : w = (w.toNat : Int) := by omega
    have e2 : h = (h.toNat : Int) := by omega
    rw [e1, e2, ← Int.natCast_mul] at g5
    omega
  · exact .inl ck
theorem kC_len (W H : Nat) (l : List Bool) : (kC W H l).length = W := knd_len _ _
theorem kR_len (W H : Nat) (l : List Bool) : (kR W H l).length = H := knd_len _ _
theorem columns_both : ∃ (T : List Int) (b1 b2 : Bool) (e : Int), T.length ≤ 1000 ∧ Contract Tryd.prog 8 [GA w h b l] (.tuple [LR b1 T, I e]) ∧ Contract Tryd.prog 9 [GA w h b l] (.tuple [LR b2 T, I e]) := by
  rcases gcases w h l with hz | ⟨W, H, rfl, rfl, _, a1, a2, a3, a4, hn⟩
  · exact ⟨[], _, _, _, by simp, columnsP_bad w h b l hz, columnsR_bad w h b l hz⟩
  · exact ⟨_, _, _, _, by rw [nI_len, kC_len]; omega, columnsP_c a1 a2 a3 a4 b hn, columnsR_c a1 a2 a3 a4 b hn⟩
theorem rows_both : ∃ (T : List Int) (b1 b2 : Bool) (e : Int), T.length ≤ 1000 ∧ Contract Tryd.prog 10 [GA w h b l] (.tuple [LR b1 T, I e]) ∧ Contract Tryd.prog 11 [GA w h b l] (.tuple [LR b2 T, I e]) := by
  rcases gcases w h l with hz | ⟨W, H, rfl, rfl, _, a1, a2, a3, a4, hn⟩
  · exact ⟨[], _, _, _, by simp, rowsP_bad w h b l hz, rowsR4_bad w h b l hz⟩
  · exact ⟨_, _, _, _, by rw [nI_len, kR_len]; omega, rowsP_c a1 a2 a3 a4 b hn, rowsR4_c a1 a2 a3 a4 b hn⟩
theorem count_both : ∃ (n m e : Int), Contract Tryd.prog 12 [GA w h b l] (.tuple [I n, I m, I e]) ∧ Contract Tryd.prog 13 [GA w h b l] (.tuple [I n, I m, I e]) := by
  rcases gcases w h l with hz | ⟨W, H, rfl, rfl, _, a1, a2, a3, a4, hn⟩
  · exact ⟨_, _, _, countP_bad w h b l hz, countR_bad w h b l hz⟩
  · exact ⟨_, _, _, countP_c a1 a2 a3 a4 b hn, countR_c a1 a2 a3 a4 b hn⟩
theorem of_both : ∃ (s t : Int) (b1 : Bool) (th : List Int) (b2 : Bool) (td : List Int) (w1 h1 : Int) (b3 b4 : Bool) (L : List Bool) (e : Int), (th.length ≤ 1000 ∧ td.length ≤ 1000 ∧ L.length ≤ 10000) ∧
    Contract Tryd.prog 14 [GA w h b l] (.tuple [DR s t b1 th b2 td w1 h1 b3 L, I e]) ∧ Contract Tryd.prog 15 [GA w h b l] (.tuple [DR s t b1 th b2 td w1 h1 b4 L, I e]) := by
  rcases gcases w h l with hz | ⟨W, H, rfl, rfl, _, a1, a2, a3, a4, hn⟩
  · exact ⟨_, _, _, [], _, [], _, _, _, _, [], _, by simp, ofP_bad w h b l hz, ofR_bad w h b l hz⟩
  · by_cases hm : 40 < (fC W H l).length ∨ 40 < (fR W H l).length
    · exact ⟨_, _, _, [], _, [], _, _, _, _, [], _, by simp, ofP_many a1 a2 a3 a4 b hn hm, ofR_many a1 a2 a3 a4 b hn hm⟩
    · have hp : (fR W H l).length * (fC W H l).length ≤ 40 * 40 := Nat.mul_le_mul (by omega) (by omega)
      exact ⟨_, _, _, _, _, _, _, _, _, _, _, _, ⟨by rw [nI_len, kC_len]; omega, by rw [nI_len, kR_len]; omega, by rw [tabN_len]; omega⟩, ofP_c a1 a2 a3 a4 b hn (by omega) (by omega), ofR_c a1 a2 a3 a4 b hn (by omega) (by omega)⟩
end
theorem factorKinds_c (w h : Int) (b : Bool) (l : List Bool) : Contract Tryd.prog 3 [GA w h b l] (B true) := by
  have hgc := great_c w h b l
  by_cases cg : 4200 < (l.length : Int)
  · rw [decide_eq_true cg] at hgc
    refine Contract.intro (effS [] false) 6 follows Tryd.func3 rfl rfl (by kernel_rfl) (Nat.le_of_ble_eq_true rfl) ?_
    simp (disch := first | assumption | omega | rfl | simp only [RH]) only [↓RP, RG, FX, RQ, ↓reduceIte, Nat.reduceEqDiff, reduceCtorEq, Nat.reduceBEq, Nat.reduceAdd, Nat.reduceLeDiff, args0_1]
    refine callK_F 6 (hgc) (by simp (disch := first | assumption | omega | rfl | simp only [RH]) only [↓RP, RG, FX, RQ, ↓reduceIte, Nat.reduceEqDiff, reduceCtorEq, Nat.reduceBEq, Nat.reduceAdd, Nat.reduceLeDiff, RA] <;> rfl) (.inl (by simp [allFresh, ints_fresh, bools_fresh])) ?_
    simp (disch := first | assumption | omega | rfl | simp only [RH]) only [↓RP, RG, FX, RQ, ↓reduceIte, Nat.reduceEqDiff, reduceCtorEq, Nat.reduceBEq, Nat.reduceAdd, Nat.reduceLeDiff]
    rw [resVal_1 rfl]; simp (disch := first | assumption | omega | rfl | simp only [RH]) only [↓RP, RG, FX, RQ, ↓reduceIte, Nat.reduceEqDiff, reduceCtorEq, Nat.reduceBEq, Nat.reduceAdd, Nat.reduceLeDiff, RS]
  rw [decide_eq_false cg] at hgc
  have htw := twin_c w h b l (by omega)
  obtain ⟨T, b1, b2, e, hTl, k1, k2⟩ := columns_both w h b l
  obtain ⟨U, b3, b4, e2, hUl, k3, k4⟩ := rows_both w h b l
  obtain ⟨n, m, e3, k5, k6⟩ := count_both w h b l
  obtain ⟨s, t, b5, th, b6, td, w1, h1, b7, b8, L, e4, ⟨l1, l2, l3⟩, k7, k8⟩ := of_both w h b l
  have s1 := same02_c b1 b2 T T (by omega)
  have s2 := same02_c b3 b4 U U (by omega)
  have s3 := dsameR_c s t b5 th b6 td w1 h1 b7 L s t b5 th b6 td w1 h1 b8 L (by omega) (by omega) (by omega)
  have s4 := sameR_c w h w h b false l l (by omega)
  rw [decide_eq_true rfl] at s1 s2
  rw [decide_eq_true ⟨rfl, rfl, rfl⟩] at s4
  rw [decide_eq_true ⟨rfl, rfl, rfl, rfl, rfl, rfl, rfl⟩] at s3
  refine Contract.intro (effS [] false) 6 follows Tryd.func3 rfl rfl (by kernel_rfl) (Nat.le_of_ble_eq_true rfl) ?_
  simp (disch := first | assumption | omega | rfl | simp only [RH]) only [↓RP, RG, FX, RQ, ↓reduceIte, Nat.reduceEqDiff, reduceCtorEq, Nat.reduceBEq, Nat.reduceAdd, Nat.reduceLeDiff, args0_1]
  refine callK_F 6 (hgc) (by simp (disch := first | assumption | omega | rfl | simp only [RH]) only [↓RP, RG, FX, RQ, ↓reduceIte, Nat.reduceEqDiff, reduceCtorEq, Nat.reduceBEq, Nat.reduceAdd, Nat.reduceLeDiff, RA] <;> rfl) (.inl (by simp [allFresh, ints_fresh, bools_fresh])) ?_
  simp (disch := first | assumption | omega | rfl | simp only [RH]) only [↓RP, RG, FX, RQ, ↓reduceIte, Nat.reduceEqDiff, reduceCtorEq, Nat.reduceBEq, Nat.reduceAdd, Nat.reduceLeDiff]
  refine callK_F 6 htw (by simp (disch := first | assumption | omega | rfl | simp only [RH]) only [↓RP, RG, FX, RQ, ↓reduceIte, Nat.reduceEqDiff, reduceCtorEq, Nat.reduceBEq, Nat.reduceAdd, Nat.reduceLeDiff, RA] <;> rfl) (.inl (by simp [allFresh, bools_fresh])) ?_
  simp (disch := first | assumption | omega | rfl | simp only [RH]) only [↓RP, RG, FX, RQ, ↓reduceIte, Nat.reduceEqDiff, reduceCtorEq, Nat.reduceBEq, Nat.reduceAdd, Nat.reduceLeDiff]
  refine callK_F 6 k1 (by simp (disch := first | assumption | omega | rfl | simp only [RH]) only [↓RP, RG, FX, RQ, ↓reduceIte, Nat.reduceEqDiff, reduceCtorEq, Nat.reduceBEq, Nat.reduceAdd, Nat.reduceLeDiff, RA] <;> rfl) (.inl (by simp [allFresh, ints_fresh])) ?_
  simp (disch := first | assumption | omega | rfl | simp only [RH]) only [↓RP, RG, FX, RQ, ↓reduceIte, Nat.reduceEqDiff, reduceCtorEq, Nat.reduceBEq, Nat.reduceAdd, Nat.reduceLeDiff]
  refine callK_F 6 k2 (by simp (disch := first | assumption | omega | rfl | simp only [RH]) only [↓RP, RG, FX, RQ, ↓reduceIte, Nat.reduceEqDiff, reduceCtorEq, Nat.reduceBEq, Nat.reduceAdd, Nat.reduceLeDiff, RA] <;> rfl) (.inl (by simp [allFresh, ints_fresh])) ?_
  simp (disch := first | assumption | omega | rfl | simp only [RH]) only [↓RP, RG, FX, RQ, ↓reduceIte, Nat.reduceEqDiff, reduceCtorEq, Nat.reduceBEq, Nat.reduceAdd, Nat.reduceLeDiff]
  refine callK_F 6 k3 (by simp (disch := first | assumption | omega | rfl | simp only [RH]) only [↓RP, RG, FX, RQ, ↓reduceIte, Nat.reduceEqDiff, reduceCtorEq, Nat.reduceBEq, Nat.reduceAdd, Nat.reduceLeDiff, RA] <;> rfl) (.inl (by simp [allFresh, ints_fresh])) ?_
  simp (disch := first | assumption | omega | rfl | simp only [RH]) only [↓RP, RG, FX, RQ, ↓reduceIte, Nat.reduceEqDiff, reduceCtorEq, Nat.reduceBEq, Nat.reduceAdd, Nat.reduceLeDiff]
  refine callK_F 6 k4 (by simp (disch := first | assumption | omega | rfl | simp only [RH]) only [↓RP, RG, FX, RQ, ↓reduceIte, Nat.reduceEqDiff, reduceCtorEq, Nat.reduceBEq, Nat.reduceAdd, Nat.reduceLeDiff, RA] <;> rfl) (.inl (by simp [allFresh, ints_fresh])) ?_
  simp (disch := first | assumption | omega | rfl | simp only [RH]) only [↓RP, RG, FX, RQ, ↓reduceIte, Nat.reduceEqDiff, reduceCtorEq, Nat.reduceBEq, Nat.reduceAdd, Nat.reduceLeDiff]
  refine callK_F 6 (k5) (by simp (disch := first | assumption | omega | rfl | simp only [RH]) only [↓RP, RG, FX, RQ, ↓reduceIte, Nat.reduceEqDiff, reduceCtorEq, Nat.reduceBEq, Nat.reduceAdd, Nat.reduceLeDiff, RA] <;> rfl) (.inl (by simp [allFresh, ints_fresh, bools_fresh])) ?_
  simp (disch := first | assumption | omega | rfl | simp only [RH]) only [↓RP, RG, FX, RQ, ↓reduceIte, Nat.reduceEqDiff, reduceCtorEq, Nat.reduceBEq, Nat.reduceAdd, Nat.reduceLeDiff]
  refine callK_F 6 (k6) (by simp (disch := first | assumption | omega | rfl | simp only [RH]) only [↓RP, RG, FX, RQ, ↓reduceIte, Nat.reduceEqDiff, reduceCtorEq, Nat.reduceBEq, Nat.reduceAdd, Nat.reduceLeDiff, RA] <;> rfl) (.inl (by simp [allFresh, ints_fresh, bools_fresh])) ?_
  simp (disch := first | assumption | omega | rfl | simp only [RH]) only [↓RP, RG, FX, RQ, ↓reduceIte, Nat.reduceEqDiff, reduceCtorEq, Nat.reduceBEq, Nat.reduceAdd, Nat.reduceLeDiff]
  refine callK_F 6 k7 (by simp (disch := first | assumption | omega | rfl | simp only [RH]) only [↓RP, RG, FX, RQ, ↓reduceIte, Nat.reduceEqDiff, reduceCtorEq, Nat.reduceBEq, Nat.reduceAdd, Nat.reduceLeDiff, RA] <;> rfl) (.inl (by simp [allFresh, ints_fresh, bools_fresh])) ?_
  simp (disch := first | assumption | omega | rfl | simp only [RH]) only [↓RP, RG, FX, RQ, ↓reduceIte, Nat.reduceEqDiff, reduceCtorEq, Nat.reduceBEq, Nat.reduceAdd, Nat.reduceLeDiff]
  refine callK_F 6 k8 (by simp (disch := first | assumption | omega | rfl | simp only [RH]) only [↓RP, RG, FX, RQ, ↓reduceIte, Nat.reduceEqDiff, reduceCtorEq, Nat.reduceBEq, Nat.reduceAdd, Nat.reduceLeDiff, RA] <;> rfl) (.inl (by simp [allFresh, ints_fresh, bools_fresh])) ?_
  simp (disch := first | assumption | omega | rfl | simp only [RH]) only [↓RP, RG, FX, RQ, ↓reduceIte, Nat.reduceEqDiff, reduceCtorEq, Nat.reduceBEq, Nat.reduceAdd, Nat.reduceLeDiff]
  refine callK_F 6 s1 (by simp (disch := first | assumption | omega | rfl | simp only [RH]) only [↓RP, RG, FX, RQ, ↓reduceIte, Nat.reduceEqDiff, reduceCtorEq, Nat.reduceBEq, Nat.reduceAdd, Nat.reduceLeDiff, RA] <;> rfl) (.inl rfl) ?_
  simp (disch := first | assumption | omega | rfl | simp only [RH]) only [↓RP, RG, FX, RQ, ↓reduceIte, Nat.reduceEqDiff, reduceCtorEq, Nat.reduceBEq, Nat.reduceAdd, Nat.reduceLeDiff, beq_self_eq_true]
  refine callK_F 6 s2 (by simp (disch := first | assumption | omega | rfl | simp only [RH]) only [↓RP, RG, FX, RQ, ↓reduceIte, Nat.reduceEqDiff, reduceCtorEq, Nat.reduceBEq, Nat.reduceAdd, Nat.reduceLeDiff, RA] <;> rfl) (.inl rfl) ?_
  simp (disch := first | assumption | omega | rfl | simp only [RH]) only [↓RP, RG, FX, RQ, ↓reduceIte, Nat.reduceEqDiff, reduceCtorEq, Nat.reduceBEq, Nat.reduceAdd, Nat.reduceLeDiff, beq_self_eq_true]
  refine callK_F 6 s3 (by simp (disch := first | assumption | omega | rfl | simp only [RH]) only [↓RP, RG, FX, RQ, ↓reduceIte, Nat.reduceEqDiff, reduceCtorEq, Nat.reduceBEq, Nat.reduceAdd, Nat.reduceLeDiff, RA] <;> rfl) (.inl rfl) ?_
  simp (disch := first | assumption | omega | rfl | simp only [RH]) only [↓RP, RG, FX, RQ, ↓reduceIte, Nat.reduceEqDiff, reduceCtorEq, Nat.reduceBEq, Nat.reduceAdd, Nat.reduceLeDiff, beq_self_eq_true]
  refine callK_F 6 s4 (by simp (disch := first | assumption | omega | rfl | simp only [RH]) only [↓RP, RG, FX, RQ, ↓reduceIte, Nat.reduceEqDiff, reduceCtorEq, Nat.reduceBEq, Nat.reduceAdd, Nat.reduceLeDiff, RA] <;> rfl) (.inl rfl) ?_
  simp (disch := first | assumption | omega | rfl | simp only [RH]) only [↓RP, RG, FX, RQ, ↓reduceIte, Nat.reduceEqDiff, reduceCtorEq, Nat.reduceBEq, Nat.reduceAdd, Nat.reduceLeDiff, beq_self_eq_true]
  rw [resVal_1 rfl]; simp (disch := first | assumption | omega | rfl | simp only [RH]) only [↓RP, RG, FX, RQ, ↓reduceIte, Nat.reduceEqDiff, reduceCtorEq, Nat.reduceBEq, Nat.reduceAdd, Nat.reduceLeDiff, RS]
end Go.Proofs.YtbmcfkpljdchoaaDoor
