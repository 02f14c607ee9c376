/- Part 1 of the proof's own texts: the contracts of functions, and what they rest on. -/
import Derived.Test.YtmllhogaiahphaaDoorProg
import Derived.Test.YtmllhogaiahphaaDoorBw3
import Derived.Shelf.Sort.AssemblyIn
import Derived.Shelf.Slices.CompactI
import Derived.Test.YtmllhogaiahphaaDoorBw4
import Derived.Test.YtmllhogaiahphaaDoorBw5
/- Closed facts on the types. -/
namespace Go.Proofs.YtmllhogaiahphaaDoor
open Go Go.Proofs Go.AW
theorem follows : Tryd.prog.follows .mixedOrders = true := by kernel_rfl
-- 2: int64
theorem ag2 : agT Tryd.prog 2 = some (false, 1) := by kernel_rfl
theorem zc2 : zT Tryd.prog 2 = some ([I 0], 1) := by kernel_rfl
-- 3: int
theorem ag3 : agT Tryd.prog 3 = some (false, 1) := by kernel_rfl
theorem zc3 : zT Tryd.prog 3 = some ([I 0], 1) := by kernel_rfl
-- 4: bool
theorem ag4 : agT Tryd.prog 4 = some (false, 1) := by kernel_rfl
theorem zc4 : zT Tryd.prog 4 = some ([B false], 1) := by kernel_rfl
instance bo4 : BoT Tryd.prog 4 := ⟨by kernel_rfl⟩
-- 5: uint8
theorem ag5 : agT Tryd.prog 5 = some (false, 1) := by kernel_rfl
theorem zc5 : zT Tryd.prog 5 = some ([.val (.int .u8 0)], 1) := by kernel_rfl
-- 9: string
theorem ag9 : agT Tryd.prog 9 = some (false, 1) := by kernel_rfl
theorem zc9 : zT Tryd.prog 9 = some ([.val (.string ⟨#[]⟩)], 1) := by kernel_rfl
-- 21: int32
theorem ag21 : agT Tryd.prog 21 = some (false, 1) := by kernel_rfl
theorem zc21 : zT Tryd.prog 21 = some ([.val (.int .i32 0)], 1) := by kernel_rfl
-- 22: []bool
theorem ag22 : agT Tryd.prog 22 = some (false, 1) := by kernel_rfl
theorem zc22 : zT Tryd.prog 22 = some ([.cap0 true], 1) := by kernel_rfl
instance S22 : SlT Tryd.prog 22 4 1 (.bool false) := SlT.of (by kernel_rfl) (by kernel_rfl)
-- 24: api.Grid
theorem ag24 : agT Tryd.prog 24 = some (true, 3) := by kernel_rfl
theorem zc24 : zT Tryd.prog 24 = some ([I 0, I 0, .cap0 true], 3) := by kernel_rfl
theorem fo24_0 : fOff Tryd.prog 24 0 = some 0 := by kernel_rfl
theorem ft24_0 : fOT Tryd.prog 24 0 = some (0, 3) := by kernel_rfl
theorem fo24_1 : fOff Tryd.prog 24 1 = some 1 := by kernel_rfl
theorem ft24_1 : fOT Tryd.prog 24 1 = some (1, 3) := by kernel_rfl
theorem fo24_2 : fOff Tryd.prog 24 2 = some 2 := by kernel_rfl
theorem ft24_2 : fOT Tryd.prog 24 2 = some (2, 22) := by kernel_rfl
theorem fl24 : flT Tryd.prog 24 = some ([(0, 1), (1, 1), (2, 1)], [I 0, I 0, .cap0 true]) := by kernel_rfl
-- 27: api.Errno
theorem ag27 : agT Tryd.prog 27 = some (false, 1) := by kernel_rfl
theorem zc27 : zT Tryd.prog 27 = some ([I 0], 1) := by kernel_rfl
-- 33: []api.Grid
theorem ag33 : agT Tryd.prog 33 = some (false, 1) := by kernel_rfl
theorem zc33 : zT Tryd.prog 33 = some ([.cap0 true], 1) := by kernel_rfl
instance SM33 : SlM Tryd.prog 33 3 := ⟨by kernel_rfl⟩
instance SW33 : SlW Tryd.prog 33 24 3 40 := ⟨by kernel_rfl⟩
instance LT33_3 : LitT Tryd.prog 33 3 [(0, 3), (3, 3), (6, 3)] ([I 0, I 0] ++ [.cap0 true] ++ [I 0, I 0] ++ [.cap0 true] ++ [I 0, I 0] ++ [.cap0 true]) := ⟨by kernel_rfl⟩
instance LT33_1 : LitT Tryd.prog 33 1 [(0, 3)] ([I 0, I 0, .cap0 true]) := ⟨by kernel_rfl⟩
-- 35: []int
theorem ag35 : agT Tryd.prog 35 = some (false, 1) := by kernel_rfl
theorem zc35 : zT Tryd.prog 35 = some ([.cap0 true], 1) := by kernel_rfl
instance S35 : SlT Tryd.prog 35 3 8 (.int .i64 0) := SlT.of (by kernel_rfl) (by kernel_rfl)
-- 37: api.Draft
theorem ag37 : agT Tryd.prog 37 = some (true, 7) := by kernel_rfl
theorem zc37 : zT Tryd.prog 37 = some ([I 0, I 0, .cap0 true, .cap0 true, I 0, I 0, .cap0 true], 7) := by kernel_rfl
theorem fo37_0 : fOff Tryd.prog 37 0 = some 0 := by kernel_rfl
theorem ft37_0 : fOT Tryd.prog 37 0 = some (0, 3) := by kernel_rfl
theorem fo37_1 : fOff Tryd.prog 37 1 = some 1 := by kernel_rfl
theorem ft37_1 : fOT Tryd.prog 37 1 = some (1, 3) := by kernel_rfl
theorem fo37_2 : fOff Tryd.prog 37 2 = some 2 := by kernel_rfl
theorem ft37_2 : fOT Tryd.prog 37 2 = some (2, 35) := by kernel_rfl
theorem fo37_3 : fOff Tryd.prog 37 3 = some 3 := by kernel_rfl
theorem ft37_3 : fOT Tryd.prog 37 3 = some (3, 35) := by kernel_rfl
theorem fo37_4 : fOff Tryd.prog 37 4 = some 4 := by kernel_rfl
theorem ft37_4 : fOT Tryd.prog 37 4 = some (4, 24) := by kernel_rfl
theorem fl37 : flT Tryd.prog 37 = some ([(0, 1), (1, 1), (2, 1), (3, 1), (4, 3)], [I 0, I 0, .cap0 true, .cap0 true, I 0, I 0, .cap0 true]) := by kernel_rfl
-- 48: func(int, int) bool
theorem ag48 : agT Tryd.prog 48 = some (false, 1) := by kernel_rfl
theorem zc48 : zT Tryd.prog 48 = some ([.val .nilFunc], 1) := by kernel_rfl
-- 52: [2]int
theorem ag52 : agT Tryd.prog 52 = some (true, 2) := by kernel_rfl
theorem zc52 : zT Tryd.prog 52 = some ([I 0, I 0], 2) := by kernel_rfl
instance nc52 : NumT Tryd.prog 52 2 := ⟨by kernel_rfl⟩
instance AR52 : ArT Tryd.prog 52 2 := ⟨by kernel_rfl⟩
instance AE52 : ArE Tryd.prog 52 2 := ⟨by kernel_rfl⟩
theorem fl52 : flT Tryd.prog 52 = some ([(0, 1), (1, 1)], [I 0, I 0]) := by kernel_rfl
-- 53: [][]int
theorem ag53 : agT Tryd.prog 53 = some (false, 1) := by kernel_rfl
theorem zc53 : zT Tryd.prog 53 = some ([.cap0 true], 1) := by kernel_rfl
instance S53 : SlT Tryd.prog 53 35 24 (.slice none 0 0) := SlT.of (by kernel_rfl) (by kernel_rfl)
-- 55: hang.order
theorem ag55 : agT Tryd.prog 55 = some (true, 2) := by kernel_rfl
theorem zc55 : zT Tryd.prog 55 = some ([.cap0 true, .cap0 true], 2) := by kernel_rfl
theorem fo55_0 : fOff Tryd.prog 55 0 = some 0 := by kernel_rfl
theorem ft55_0 : fOT Tryd.prog 55 0 = some (0, 53) := by kernel_rfl
theorem fo55_1 : fOff Tryd.prog 55 1 = some 1 := by kernel_rfl
theorem ft55_1 : fOT Tryd.prog 55 1 = some (1, 53) := by kernel_rfl
theorem fl55 : flT Tryd.prog 55 = some ([(0, 1), (1, 1)], [.cap0 true, .cap0 true]) := by kernel_rfl
-- 59: func(int) bool
theorem ag59 : agT Tryd.prog 59 = some (false, 1) := by kernel_rfl
theorem zc59 : zT Tryd.prog 59 = some ([.val .nilFunc], 1) := by kernel_rfl
-- 64: func([]int)
theorem ag64 : agT Tryd.prog 64 = some (false, 1) := by kernel_rfl
theorem zc64 : zT Tryd.prog 64 = some ([.val .nilFunc], 1) := by kernel_rfl
-- 69: []string
theorem ag69 : agT Tryd.prog 69 = some (false, 1) := by kernel_rfl
theorem zc69 : zT Tryd.prog 69 = some ([.cap0 true], 1) := by kernel_rfl
instance S69 : SlT Tryd.prog 69 9 16 (.string ⟨#[]⟩) := SlT.of (by kernel_rfl) (by kernel_rfl)
-- 73: []factor.line
theorem ag73 : agT Tryd.prog 73 = some (false, 1) := by kernel_rfl
theorem zc73 : zT Tryd.prog 73 = some ([.cap0 true], 1) := by kernel_rfl
instance SM73 : SlM Tryd.prog 73 65 := ⟨by kernel_rfl⟩
instance SW73 : SlW Tryd.prog 73 77 65 72 := ⟨by kernel_rfl⟩
instance LT73_1 : LitT Tryd.prog 73 1 [(0, 65)] (bools (List.replicate 64 false) ++ [I 0]) := ⟨by kernel_rfl⟩
-- 75: [64]bool
theorem ag75 : agT Tryd.prog 75 = some (true, 64) := by kernel_rfl
theorem zc75 : zT Tryd.prog 75 = some (bools (List.replicate 64 false), 64) := by kernel_rfl
instance kt75 : KT Tryd.prog 75 (List.replicate 64 true) := ⟨by kernel_rfl, by kernel_rfl, by kernel_rfl, by kernel_rfl⟩
instance AR75 : ArT Tryd.prog 75 64 := ⟨by kernel_rfl⟩
instance AE75 : ArE Tryd.prog 75 64 := ⟨by kernel_rfl⟩
theorem fl75 : flT Tryd.prog 75 = some ([(0, 1), (1, 1), (2, 1), (3, 1), (4, 1), (5, 1), (6, 1), (7, 1), (8, 1), (9, 1), (10, 1), (11, 1), (12, 1), (13, 1), (14, 1), (15, 1), (16, 1), (17, 1), (18, 1), (19, 1), (20, 1), (21, 1), (22, 1), (23, 1), (24, 1), (25, 1), (26, 1), (27, 1), (28, 1), (29, 1), (30, 1), (31, 1), (32, 1), (33, 1), (34, 1), (35, 1), (36, 1), (37, 1), (38, 1), (39, 1), (40, 1), (41, 1), (42, 1), (43, 1), (44, 1), (45, 1), (46, 1), (47, 1), (48, 1), (49, 1), (50, 1), (51, 1), (52, 1), (53, 1), (54, 1), (55, 1), (56, 1), (57, 1), (58, 1), (59, 1), (60, 1), (61, 1), (62, 1), (63, 1)], bools (List.replicate 64 false)) := by kernel_rfl
-- 77: factor.line
theorem ag77 : agT Tryd.prog 77 = some (true, 65) := by kernel_rfl
theorem zc77 : zT Tryd.prog 77 = some (bools (List.replicate 64 false) ++ [I 0], 65) := by kernel_rfl
instance kt77 : KT Tryd.prog 77 (List.replicate 64 true ++ [false]) := ⟨by kernel_rfl, by kernel_rfl, by kernel_rfl, by kernel_rfl⟩
theorem fo77_0 : fOff Tryd.prog 77 0 = some 0 := by kernel_rfl
theorem ft77_0 : fOT Tryd.prog 77 0 = some (0, 75) := by kernel_rfl
theorem fo77_1 : fOff Tryd.prog 77 1 = some 64 := by kernel_rfl
theorem ft77_1 : fOT Tryd.prog 77 1 = some (64, 3) := by kernel_rfl
theorem fl77 : flT Tryd.prog 77 = some ([(0, 64), (64, 1)], bools (List.replicate 64 false) ++ [I 0]) := by kernel_rfl
-- 80: uint
theorem ag80 : agT Tryd.prog 80 = some (false, 1) := by kernel_rfl
theorem zc80 : zT Tryd.prog 80 = some ([.val (.int .u64 0)], 1) := by kernel_rfl
-- 85: strings.asciiSet
theorem ag85 : agT Tryd.prog 85 = some (true, 256) := by kernel_rfl
theorem zc85 : zT Tryd.prog 85 = some (bools (List.replicate 256 false), 256) := by kernel_rfl
instance kt85 : KT Tryd.prog 85 (List.replicate 256 true) := ⟨by kernel_rfl, by kernel_rfl, by kernel_rfl, by kernel_rfl⟩
instance AR85 : ArT Tryd.prog 85 256 := ⟨by kernel_rfl⟩
instance AE85 : ArE Tryd.prog 85 256 := ⟨by kernel_rfl⟩
theorem fl85 : flT Tryd.prog 85 = some ([(0, 1), (1, 1), (2, 1), (3, 1), (4, 1), (5, 1), (6, 1), (7, 1), (8, 1), (9, 1), (10, 1), (11, 1), (12, 1), (13, 1), (14, 1), (15, 1), (16, 1), (17, 1), (18, 1), (19, 1), (20, 1), (21, 1), (22, 1), (23, 1), (24, 1), (25, 1), (26, 1), (27, 1), (28, 1), (29, 1), (30, 1), (31, 1), (32, 1), (33, 1), (34, 1), (35, 1), (36, 1), (37, 1), (38, 1), (39, 1), (40, 1), (41, 1), (42, 1), (43, 1), (44, 1), (45, 1), (46, 1), (47, 1), (48, 1), (49, 1), (50, 1), (51, 1), (52, 1), (53, 1), (54, 1), (55, 1), (56, 1), (57, 1), (58, 1), (59, 1), (60, 1), (61, 1), (62, 1), (63, 1), (64, 1), (65, 1), (66, 1), (67, 1), (68, 1), (69, 1), (70, 1), (71, 1), (72, 1), (73, 1), (74, 1), (75, 1), (76, 1), (77, 1), (78, 1), (79, 1), (80, 1), (81, 1), (82, 1), (83, 1), (84, 1), (85, 1), (86, 1), (87, 1), (88, 1), (89, 1), (90, 1), (91, 1), (92, 1), (93, 1), (94, 1), (95, 1), (96, 1), (97, 1), (98, 1), (99, 1), (100, 1), (101, 1), (102, 1), (103, 1), (104, 1), (105, 1), (106, 1), (107, 1), (108, 1), (109, 1), (110, 1), (111, 1), (112, 1), (113, 1), (114, 1), (115, 1), (116, 1), (117, 1), (118, 1), (119, 1), (120, 1), (121, 1), (122, 1), (123, 1), (124, 1), (125, 1), (126, 1), (127, 1), (128, 1), (129, 1), (130, 1), (131, 1), (132, 1), (133, 1), (134, 1), (135, 1), (136, 1), (137, 1), (138, 1), (139, 1), (140, 1), (141, 1), (142, 1), (143, 1), (144, 1), (145, 1), (146, 1), (147, 1), (148, 1), (149, 1), (150, 1), (151, 1), (152, 1), (153, 1), (154, 1), (155, 1), (156, 1), (157, 1), (158, 1), (159, 1), (160, 1), (161, 1), (162, 1), (163, 1), (164, 1), (165, 1), (166, 1), (167, 1), (168, 1), (169, 1), (170, 1), (171, 1), (172, 1), (173, 1), (174, 1), (175, 1), (176, 1), (177, 1), (178, 1), (179, 1), (180, 1), (181, 1), (182, 1), (183, 1), (184, 1), (185, 1), (186, 1), (187, 1), (188, 1), (189, 1), (190, 1), (191, 1), (192, 1), (193, 1), (194, 1), (195, 1), (196, 1), (197, 1), (198, 1), (199, 1), (200, 1), (201, 1), (202, 1), (203, 1), (204, 1), (205, 1), (206, 1), (207, 1), (208, 1), (209, 1), (210, 1), (211, 1), (212, 1), (213, 1), (214, 1), (215, 1), (216, 1), (217, 1), (218, 1), (219, 1), (220, 1), (221, 1), (222, 1), (223, 1), (224, 1), (225, 1), (226, 1), (227, 1), (228, 1), (229, 1), (230, 1), (231, 1), (232, 1), (233, 1), (234, 1), (235, 1), (236, 1), (237, 1), (238, 1), (239, 1), (240, 1), (241, 1), (242, 1), (243, 1), (244, 1), (245, 1), (246, 1), (247, 1), (248, 1), (249, 1), (250, 1), (251, 1), (252, 1), (253, 1), (254, 1), (255, 1)], bools (List.replicate 256 false)) := by kernel_rfl
-- 89: *strings.asciiSet
theorem ag89 : agT Tryd.prog 89 = some (false, 1) := by kernel_rfl
theorem zc89 : zT Tryd.prog 89 = some ([.val (.pointer none)], 1) := by kernel_rfl
-- 92: slices.sortedHint
theorem ag92 : agT Tryd.prog 92 = some (false, 1) := by kernel_rfl
theorem zc92 : zT Tryd.prog 92 = some ([I 0], 1) := by kernel_rfl
-- 102: uint64
theorem ag102 : agT Tryd.prog 102 = some (false, 1) := by kernel_rfl
theorem zc102 : zT Tryd.prog 102 = some ([.val (.int .u64 0)], 1) := by kernel_rfl
-- 114: slices.xorshift
theorem ag114 : agT Tryd.prog 114 = some (false, 1) := by kernel_rfl
theorem zc114 : zT Tryd.prog 114 = some ([.val (.int .u64 0)], 1) := by kernel_rfl
-- 118: *int
theorem ag118 : agT Tryd.prog 118 = some (false, 1) := by kernel_rfl
theorem zc118 : zT Tryd.prog 118 = some ([.val (.pointer none)], 1) := by kernel_rfl
-- 123: *slices.xorshift
theorem ag123 : agT Tryd.prog 123 = some (false, 1) := by kernel_rfl
theorem zc123 : zT Tryd.prog 123 = some ([.val (.pointer none)], 1) := by kernel_rfl

theorem FX : type_of% @ag2 ∧ type_of% @zc2 ∧ type_of% @ag3 ∧ type_of% @zc3 ∧ type_of% @ag4 ∧ type_of% @zc4 ∧ type_of% @ag5 ∧ type_of% @zc5 ∧ type_of% @ag9 ∧ type_of% @zc9 ∧ type_of% @ag21 ∧ type_of% @zc21 ∧ type_of% @ag22 ∧ type_of% @zc22 ∧ type_of% @ag24 ∧ type_of% @zc24 ∧ type_of% @fo24_0 ∧ type_of% @ft24_0 ∧ type_of% @fo24_1 ∧ type_of% @ft24_1 ∧ type_of% @fo24_2 ∧ type_of% @ft24_2 ∧ type_of% @fl24 ∧ type_of% @ag27 ∧ type_of% @zc27 ∧ type_of% @ag33 ∧ type_of% @zc33 ∧ type_of% @ag35 ∧ type_of% @zc35 ∧ type_of% @ag37 ∧ type_of% @zc37 ∧ type_of% @fo37_0 ∧ type_of% @ft37_0 ∧ type_of% @fo37_1 ∧ type_of% @ft37_1 ∧ type_of% @fo37_2 ∧ type_of% @ft37_2 ∧ type_of% @fo37_3 ∧ type_of% @ft37_3 ∧ type_of% @fo37_4 ∧ type_of% @ft37_4 ∧ type_of% @fl37 ∧ type_of% @ag48 ∧ type_of% @zc48 ∧ type_of% @ag52 ∧ type_of% @zc52 ∧ type_of% @fl52 ∧ type_of% @ag53 ∧ type_of% @zc53 ∧ type_of% @ag55 ∧ type_of% @zc55 ∧ type_of% @fo55_0 ∧ type_of% @ft55_0 ∧ type_of% @fo55_1 ∧ type_of% @ft55_1 ∧ type_of% @fl55 ∧ type_of% @ag59 ∧ type_of% @zc59 ∧ type_of% @ag64 ∧ type_of% @zc64 ∧ type_of% @ag69 ∧ type_of% @zc69 ∧ type_of% @ag73 ∧ type_of% @zc73 ∧ type_of% @ag75 ∧ type_of% @zc75 ∧ type_of% @fl75 ∧ type_of% @ag77 ∧ type_of% @zc77 ∧ type_of% @fo77_0 ∧ type_of% @ft77_0 ∧ type_of% @fo77_1 ∧ type_of% @ft77_1 ∧ type_of% @fl77 ∧ type_of% @ag80 ∧ type_of% @zc80 ∧ type_of% @ag85 ∧ type_of% @zc85 ∧ type_of% @fl85 ∧ type_of% @ag89 ∧ type_of% @zc89 ∧ type_of% @ag92 ∧ type_of% @zc92 ∧ type_of% @ag102 ∧ type_of% @zc102 ∧ type_of% @ag114 ∧ type_of% @zc114 ∧ type_of% @ag118 ∧ type_of% @zc118 ∧ type_of% @ag123 ∧ type_of% @zc123 :=
  ⟨@ag2, @zc2, @ag3, @zc3, @ag4, @zc4, @ag5, @zc5, @ag9, @zc9, @ag21, @zc21, @ag22, @zc22, @ag24, @zc24, @fo24_0, @ft24_0, @fo24_1, @ft24_1, @fo24_2, @ft24_2, @fl24, @ag27, @zc27, @ag33, @zc33, @ag35, @zc35, @ag37, @zc37, @fo37_0, @ft37_0, @fo37_1, @ft37_1, @fo37_2, @ft37_2, @fo37_3, @ft37_3, @fo37_4, @ft37_4, @fl37, @ag48, @zc48, @ag52, @zc52, @fl52, @ag53, @zc53, @ag55, @zc55, @fo55_0, @ft55_0, @fo55_1, @ft55_1, @fl55, @ag59, @zc59, @ag64, @zc64, @ag69, @zc69, @ag73, @zc73, @ag75, @zc75, @fl75, @ag77, @zc77, @fo77_0, @ft77_0, @fo77_1, @ft77_1, @fl77, @ag80, @zc80, @ag85, @zc85, @fl85, @ag89, @zc89, @ag92, @zc92, @ag102, @zc102, @ag114, @zc114, @ag118, @zc118, @ag123, @zc123⟩
end Go.Proofs.YtmllhogaiahphaaDoor

/- Grids: their checks. -/
set_option linter.unusedSimpArgs false
set_option linter.unusedVariables false
set_option maxRecDepth 100000
namespace Go.Proofs.YtmllhogaiahphaaDoor
open Go Go.Proofs Go.AW

abbrev LA (b : Bool) (l : List Int) : AVal := .list false b l.length (ints l)
abbrev LR (b : Bool) (l : List Int) : AVal := .list true b l.length (ints l)
abbrev BA (b : Bool) (l : List Bool) : AVal := .list false b l.length (bools l)
abbrev BR (b : Bool) (l : List Bool) : AVal := .list true b l.length (bools l)
abbrev GA (w h : Int) (b : Bool) (l : List Bool) : AVal := .agg [I w, I h, BA b l]
abbrev GR (w h : Int) (b : Bool) (l : List Bool) : AVal := .agg [I w, I h, BR b l]

/-- The error of a grid. -/
def gchk (w h n : Int) : Int := if 64 < w ∨ 64 < h then 4 else if w < 1 ∨ h < 1 ∨ n ≠ w * h then 8 else 0
def gOk (w h n : Int) : Prop := 1 ≤ w ∧ w ≤ 64 ∧ 1 ≤ h ∧ h ≤ 64 ∧ n = w * h
theorem gchk_ok {w h n : Int} (hg : gOk w h n) : gchk w h n = 0 := by
  obtain ⟨h1, h2, h3, h4, h5⟩ := hg
  unfold gchk
  rw [if_neg (by omega), if_neg (by omega)]
theorem gchk_iff {w h n : Int} : gchk w h n = 0 ↔ gOk w h n := by
  refine ⟨fun hz => ?_, gchk_ok⟩
  unfold gchk at hz
  unfold gOk
  split at hz
  · omega
  · split at hz
    · omega
    · omega
theorem prod64 {w h : Int} (h1 : 0 ≤ w) (h2 : w ≤ 64) (h3 : 0 ≤ h) (h4 : h ≤ 64) : 0 ≤ w * h ∧ w * h ≤ 4096 := by
  constructor
  · exact Int.mul_nonneg h1 h3
  · have := Int.mul_le_mul h2 h4 h3 (by omega); omega

theorem gcheckP_c (w h : Int) (b : Bool) (l : List Bool) : Contract Tryd.prog 19 [GA w h b l] (I (gchk w h l.length)) := by
  unfold gchk
  refine Contract.intro (effS [] false) 6 follows Tryd.func19 rfl rfl (by kernel_rfl) (Nat.le_of_ble_eq_true rfl) ?_
  by_cases c1 : 64 < w ∨ 64 < h
  · rw [if_pos c1]
    have : 64 < max w h := by omega
    simp (disch := omega) only [↓RP, RG, FX, RQ, ↓reduceIte, Nat.reduceEqDiff, reduceCtorEq, Nat.reduceBEq, Nat.reduceAdd, Nat.reduceLeDiff, args0_1]
    rw [resVal_1 rfl]; simp (disch := first | assumption | omega | rfl | simp only [RH]) only [↓RP, RG, FX, RQ, ↓reduceIte, Nat.reduceEqDiff, reduceCtorEq, Nat.reduceBEq, Nat.reduceAdd, Nat.reduceLeDiff, RS]
  rw [if_neg c1]
  have : ¬ 64 < max w h := by omega
  by_cases c2 : w < 1 ∨ h < 1
  · rw [if_pos (by omega)]
    have : min w h < 1 := by omega
    simp (disch := omega) only [↓RP, RG, FX, RQ, ↓reduceIte, Nat.reduceEqDiff, reduceCtorEq, Nat.reduceBEq, Nat.reduceAdd, Nat.reduceLeDiff, args0_1]
    rw [resVal_1 rfl]; simp (disch := first | assumption | omega | rfl | simp only [RH]) only [↓RP, RG, FX, RQ, ↓reduceIte, Nat.reduceEqDiff, reduceCtorEq, Nat.reduceBEq, Nat.reduceAdd, Nat.reduceLeDiff, RS]
  have : ¬ min w h < 1 := by omega
  have hp := prod64 (w := w) (h := h) (by omega) (by omega) (by omega) (by omega)
  by_cases c3 : (l.length : Int) = w * h
  · rw [if_neg (by omega)]
    simp (disch := omega) only [↓RP, RG, FX, RQ, ↓reduceIte, Nat.reduceEqDiff, reduceCtorEq, Nat.reduceBEq, Nat.reduceAdd, Nat.reduceLeDiff, args0_1]
    rw [resVal_1 rfl]; simp (disch := first | assumption | omega | rfl | simp only [RH]) only [↓RP, RG, FX, RQ, ↓reduceIte, Nat.reduceEqDiff, reduceCtorEq, Nat.reduceBEq, Nat.reduceAdd, Nat.reduceLeDiff, RS]
  · rw [if_pos (by omega)]
    simp (disch := omega) only [↓RP, RG, FX, RQ, ↓reduceIte, Nat.reduceEqDiff, reduceCtorEq, Nat.reduceBEq, Nat.reduceAdd, Nat.reduceLeDiff, args0_1]
    rw [resVal_1 rfl]; simp (disch := first | assumption | omega | rfl | simp only [RH]) only [↓RP, RG, FX, RQ, ↓reduceIte, Nat.reduceEqDiff, reduceCtorEq, Nat.reduceBEq, Nat.reduceAdd, Nat.reduceLeDiff, RS]

theorem gcheckR_c (w h : Int) (b : Bool) (l : List Bool) : Contract Tryd.prog 14 [GA w h b l] (I (gchk w h l.length)) := by
  unfold gchk
  refine Contract.intro (effS [] false) 6 follows Tryd.func14 rfl rfl (by kernel_rfl) (Nat.le_of_ble_eq_true rfl) ?_
  by_cases c0 : 64 < w
  · rw [if_pos (by omega)]
    simp (disch := omega) only [↓RP, RG, FX, RQ, ↓reduceIte, Nat.reduceEqDiff, reduceCtorEq, Nat.reduceBEq, Nat.reduceAdd, Nat.reduceLeDiff, args0_1]
    rw [resVal_1 rfl]; simp (disch := first | assumption | omega | rfl | simp only [RH]) only [↓RP, RG, FX, RQ, ↓reduceIte, Nat.reduceEqDiff, reduceCtorEq, Nat.reduceBEq, Nat.reduceAdd, Nat.reduceLeDiff, RS]
  by_cases c1 : 64 < h
  · rw [if_pos (by omega)]
    simp (disch := omega) only [↓RP, RG, FX, RQ, ↓reduceIte, Nat.reduceEqDiff, reduceCtorEq, Nat.reduceBEq, Nat.reduceAdd, Nat.reduceLeDiff, args0_1]
    rw [resVal_1 rfl]; simp (disch := first | assumption | omega | rfl | simp only [RH]) only [↓RP, RG, FX, RQ, ↓reduceIte, Nat.reduceEqDiff, reduceCtorEq, Nat.reduceBEq, Nat.reduceAdd, Nat.reduceLeDiff, RS]
  rw [if_neg (by omega)]
  by_cases c2 : w < 1
  · rw [if_pos (by omega)]
    simp (disch := omega) only [↓RP, RG, FX, RQ, ↓reduceIte, Nat.reduceEqDiff, reduceCtorEq, Nat.reduceBEq, Nat.reduceAdd, Nat.reduceLeDiff, args0_1]
    rw [resVal_1 rfl]; simp (disch := first | assumption | omega | rfl | simp only [RH]) only [↓RP, RG, FX, RQ, ↓reduceIte, Nat.reduceEqDiff, reduceCtorEq, Nat.reduceBEq, Nat.reduceAdd, Nat.reduceLeDiff, RS]
  by_cases c3 : h < 1
  · rw [if_pos (by omega)]
    simp (disch := omega) only [↓RP, RG, FX, RQ, ↓reduceIte, Nat.reduceEqDiff, reduceCtorEq, Nat.reduceBEq, Nat.reduceAdd, Nat.reduceLeDiff, args0_1]
    rw [resVal_1 rfl]; simp (disch := first | assumption | omega | rfl | simp only [RH]) only [↓RP, RG, FX, RQ, ↓reduceIte, Nat.reduceEqDiff, reduceCtorEq, Nat.reduceBEq, Nat.reduceAdd, Nat.reduceLeDiff, RS]
  have hp := prod64 (w := w) (h := h) (by omega) (by omega) (by omega) (by omega)
  by_cases c4 : (l.length : Int) = w * h
  · rw [if_neg (by omega)]
    simp (disch := omega) only [↓RP, RG, FX, RQ, ↓reduceIte, Nat.reduceEqDiff, reduceCtorEq, Nat.reduceBEq, Nat.reduceAdd, Nat.reduceLeDiff, args0_1]
    rw [resVal_1 rfl]; simp (disch := first | assumption | omega | rfl | simp only [RH]) only [↓RP, RG, FX, RQ, ↓reduceIte, Nat.reduceEqDiff, reduceCtorEq, Nat.reduceBEq, Nat.reduceAdd, Nat.reduceLeDiff, RS]
  · rw [if_pos (by omega)]
    simp (disch := omega) only [↓RP, RG, FX, RQ, ↓reduceIte, Nat.reduceEqDiff, reduceCtorEq, Nat.reduceBEq, Nat.reduceAdd, Nat.reduceLeDiff, args0_1]
    rw [resVal_1 rfl]; simp (disch := first | assumption | omega | rfl | simp only [RH]) only [↓RP, RG, FX, RQ, ↓reduceIte, Nat.reduceEqDiff, reduceCtorEq, Nat.reduceBEq, Nat.reduceAdd, Nat.reduceLeDiff, RS]
end Go.Proofs.YtmllhogaiahphaaDoor

/- Lists: compared. -/
set_option linter.unusedSimpArgs false
set_option linter.unusedVariables false
set_option maxRecDepth 100000
namespace Go.Proofs.YtmllhogaiahphaaDoor
open Go Go.Proofs Go.AW

end Go.Proofs.YtmllhogaiahphaaDoor

/- Lists: least and greatest element, within a range; cells of grids. -/
set_option linter.unusedSimpArgs false
set_option linter.unusedVariables false
set_option maxRecDepth 100000
namespace Go.Proofs.YtmllhogaiahphaaDoor
open Go Go.Proofs Go.AW

/-- It has elements, all of them from 0 to n - 1. -/
def wIn (l : List Int) (n : Int) : Prop := 0 < l.length ∧ ∀ j, j < l.length → 0 ≤ l.getD j 0 ∧ l.getD j 0 < n
instance (l : List Int) (n : Int) : Decidable (wIn l n) := by unfold wIn; infer_instance

/-- A grid's cell. -/
def cell (w : Int) (l : List Bool) (x y : Int) : Bool := l.getD (y * w + x).toNat false

end Go.Proofs.YtmllhogaiahphaaDoor

/- Grids: compared, copied. -/
set_option linter.unusedSimpArgs false
set_option linter.unusedVariables false
set_option maxRecDepth 100000
namespace Go.Proofs.YtmllhogaiahphaaDoor
open Go Go.Proofs Go.AW

end Go.Proofs.YtmllhogaiahphaaDoor

/- Drafts: their checks. -/
set_option linter.unusedSimpArgs false
set_option linter.unusedVariables false
set_option maxRecDepth 100000
namespace Go.Proofs.YtmllhogaiahphaaDoor
open Go Go.Proofs Go.AW

abbrev DR (s t : Int) (b1 : Bool) (th : List Int) (b2 : Bool) (td : List Int) (w h : Int) (b3 : Bool) (l : List Bool) : AVal := .agg [I s, I t, LR b1 th, LR b2 td, I w, I h, BR b3 l]

end Go.Proofs.YtmllhogaiahphaaDoor

/- Drafts: tables, drawdowns, lifts. -/
set_option linter.unusedSimpArgs false
set_option linter.unusedVariables false
set_option maxRecDepth 100000
namespace Go.Proofs.YtmllhogaiahphaaDoor
open Go Go.Proofs Go.AW

/-- The first n cells of a table of W columns. -/
def tabN (W : Nat) (u : Nat → Nat → Bool) (n : Nat) : List Bool := (List.range n).map fun i => u (i % W) (i / W)
theorem tabN_len (W : Nat) (u : Nat → Nat → Bool) (n : Nat) : (tabN W u n).length = n := by simp [tabN]
theorem tabN_succ (W : Nat) (u : Nat → Nat → Bool) {y x : Nat} (hx : x < W) : tabN W u (W * y + x + 1) = tabN W u (W * y + x) ++ [u x y] := by
  have e1 : (W * y + x) % W = x := by rw [Nat.mul_add_mod]; exact Nat.mod_eq_of_lt hx
  have e2 : (W * y + x) / W = y := by rw [Nat.mul_add_div (by omega), Nat.div_eq_of_lt hx, Nat.add_zero]
  simp only [tabN, List.range_succ, List.map_append, List.map_cons, List.map_nil, e1, e2]
theorem tabN_get (W : Nat) (u : Nat → Nat → Bool) {n y x : Nat} (hx : x < W) (hn : W * y + x < n) : (tabN W u n).getD (W * y + x) false = u x y := by
  have e1 : (W * y + x) % W = x := by rw [Nat.mul_add_mod]; exact Nat.mod_eq_of_lt hx
  have e2 : (W * y + x) / W = y := by rw [Nat.mul_add_div (by omega), Nat.div_eq_of_lt hx, Nat.add_zero]
  simp [tabN, List.getD_eq_getElem?_getD, List.getElem?_range hn, e1, e2]
theorem bools_isEmpty (l : List Bool) : (bools l).isEmpty = l.isEmpty := by cases l <;> rfl
theorem ints_isEmpty (l : List Int) : (ints l).isEmpty = l.isEmpty := by cases l <;> rfl

end Go.Proofs.YtmllhogaiahphaaDoor

/- Drafts: drawdowns and lifts, of the program and the reference. -/
set_option linter.unusedSimpArgs false
set_option linter.unusedVariables false
set_option maxRecDepth 100000
namespace Go.Proofs.YtmllhogaiahphaaDoor
open Go Go.Proofs Go.AW

theorem idx_nat (W y x : Nat) : ((y : Int) * (W : Int) + (x : Int)).toNat = W * y + x := by
  rw [← Int.natCast_mul, ← Int.natCast_add, Int.toNat_natCast, Nat.mul_comm]
theorem mul_bd {W H : Nat} (hw : W ≤ 10000) (hh : H ≤ 10000) : 0 ≤ (W : Int) * (H : Int) ∧ (W : Int) * (H : Int) ≤ 100000000 := by
  have h1 : W * H ≤ 10000 * 10000 := Nat.mul_le_mul hw hh
  rw [← Int.natCast_mul]; omega
theorem idx_lt {W H x y : Nat} (hx : x < W) (hy : y < H) : W * y + x < W * H := by
  have : W * (y + 1) ≤ W * H := Nat.mul_le_mul_left W hy
  rw [Nat.mul_succ] at this; omega

end Go.Proofs.YtmllhogaiahphaaDoor

/- Which threads lie over which: lists of rows that grow. -/
set_option linter.unusedSimpArgs false
set_option linter.unusedVariables false
set_option maxRecDepth 100000
namespace Go.Proofs.YtmllhogaiahphaaDoor
open Go Go.Proofs Go.AW

/-- Growing rows in slots; their objects from the k-th on. -/
def gws (k : Nat) (rs : List (List Int)) : List AVal := rs.mapIdx fun a r => gw true (k + a) (ints r)
def gos (rs : List (List Int)) : List AObj := rs.map fun r => go 3 (ints r)
theorem gws_len (k : Nat) (rs : List (List Int)) : (gws k rs).length = rs.length := by simp [gws]
theorem gos_len (rs : List (List Int)) : (gos rs).length = rs.length := by simp [gos]
theorem gws_at {k : Nat} {rs : List (List Int)} {a : Nat} (ha : a < rs.length) : ((gws k rs).drop a)[0]? = some (gw true (k + a) (ints (rs.getD a []))) := by
  rw [List.getElem?_drop, Nat.add_zero, gws, List.getElem?_mapIdx, List.getElem?_eq_getElem ha, List.getD_eq_getElem?_getD, List.getElem?_eq_getElem ha]; rfl
theorem gws_set (k : Nat) (rs : List (List Int)) (a : Nat) (r : List Int) : (gws k rs).set a (gw true (k + a) (ints r)) = gws k (rs.set a r) := by
  apply List.ext_getElem
  · simp [gws]
  intro i h1 h2
  rw [List.getElem_set]
  simp only [gws, List.getElem_mapIdx, List.getElem_set]
  by_cases h : a = i
  · subst h; simp
  · simp [h]
theorem gos_at {rs : List (List Int)} {a : Nat} (ha : a < rs.length) : (gos rs)[a]? = some (go 3 (ints (rs.getD a []))) := by
  rw [gos, List.getElem?_map, List.getElem?_eq_getElem ha, List.getD_eq_getElem?_getD, List.getElem?_eq_getElem ha]; rfl
theorem gos_set (rs : List (List Int)) (a : Nat) (r : List Int) : (gos rs).set a (go 3 (ints r)) = gos (rs.set a r) := by simp [gos, List.map_set]

section
variable {o0 o1 o2 o3 o4 : AObj} {rB rA : List (List Int)} {n a : Nat}
theorem h5_atB (ha : a < rB.length) : (o0 :: o1 :: o2 :: o3 :: o4 :: (gos rB ++ gos rA))[5 + a]? = some (go 3 (ints (rB.getD a []))) := by
  rw [show 5 + a = a + 5 by omega]
  simp only [List.getElem?_cons_succ]
  rw [List.getElem?_append_left (by rw [gos_len]; exact ha), gos_at ha]
theorem h5_atA (hn : rB.length = n) (ha : a < rA.length) : (o0 :: o1 :: o2 :: o3 :: o4 :: (gos rB ++ gos rA))[5 + n + a]? = some (go 3 (ints (rA.getD a []))) := by
  rw [show 5 + n + a = n + a + 5 by omega]
  simp only [List.getElem?_cons_succ]
  rw [List.getElem?_append_right (by rw [gos_len]; omega), gos_len, hn, show n + a - n = a by omega, gos_at ha]
theorem h5_setB (ha : a < rB.length) (r : List Int) : (o0 :: o1 :: o2 :: o3 :: o4 :: (gos rB ++ gos rA)).set (5 + a) (go 3 (ints r)) = o0 :: o1 :: o2 :: o3 :: o4 :: (gos (rB.set a r) ++ gos rA) := by
  rw [show 5 + a = a + 5 by omega]
  simp only [List.set_cons_succ]
  rw [List.set_append_left _ _ (by rw [gos_len]; exact ha), gos_set]
theorem h5_setA (hn : rB.length = n) (r : List Int) : (o0 :: o1 :: o2 :: o3 :: o4 :: (gos rB ++ gos rA)).set (5 + n + a) (go 3 (ints r)) = o0 :: o1 :: o2 :: o3 :: o4 :: (gos rB ++ gos (rA.set a r)) := by
  rw [show 5 + n + a = n + a + 5 by omega]
  simp only [List.set_cons_succ]
  rw [List.set_append_right _ _ (by rw [gos_len]; omega), gos_len, hn, show n + a - n = a by omega, gos_set]
end

theorem WL_nil : ∀ (m k : Nat) (f : Nat → Nat), WL (List.replicate m (.cap0 true)) ((List.range m).map fun a => .res (f (k + a)))
  | 0, k, f => .nil
  | m + 1, k, f => by
    rw [List.replicate_succ, List.range_succ_eq_map, List.map_cons, List.map_map]
    refine .cons (.nil _) ?_
    have := WL_nil m (k + 1) f
    have e : ((fun a => AVal.res (f (k + a))) ∘ Nat.succ) = fun a => .res (f (k + 1 + a)) := by funext a; simp only [Function.comp]; congr 2; omega
    rw [e]; exact this
theorem gws_nil (k m : Nat) : gws k (List.replicate m []) = (List.range m).map fun a => .res (k + a) := by
  apply List.ext_getElem
  · simp [gws]
  intro i h1 h2
  simp [gws, gw, ints]
theorem WL_gws (k m : Nat) : WL (List.replicate m (.cap0 true)) (gws k (List.replicate m [])) := by
  rw [gws_nil]
  have := WL_nil m 0 (fun a => k + a)
  simpa using this
theorem gos_nil (m : Nat) : ∀ o ∈ gos (List.replicate m []), o.es = 0 := by
  intro o ho
  simp only [gos, List.mem_map] at ho
  obtain ⟨r, hr, rfl⟩ := ho
  rw [(List.mem_replicate.1 hr).2]; rfl

/-- What lies under a thread (v), or over it (not v), of what has been looked at: x columns, and y cells of the next one. -/
def rowG (v : Bool) (W H : Nat) (l : List Bool) (x y a : Nat) : List Int :=
  if a < W then ((List.range (if a < x then H else if a = x then y else 0)).filter fun j => l.getD (W * j + a) false == v).map fun j => ((W + j : Nat) : Int)
  else ((List.range (if a - W < y then x + 1 else x)).filter fun i => l.getD (W * (a - W) + i) false == !v).map fun i : Nat => (i : Int)
def rowsG (v : Bool) (W H : Nat) (l : List Bool) (x y : Nat) : List (List Int) := (List.range (W + H)).map (rowG v W H l x y)
theorem rowsG_len (v : Bool) (W H : Nat) (l : List Bool) (x y : Nat) : (rowsG v W H l x y).length = W + H := by simp [rowsG]
theorem rowsG_get {v : Bool} {W H : Nat} {l : List Bool} {x y a : Nat} (ha : a < W + H) : (rowsG v W H l x y).getD a [] = rowG v W H l x y a := by
  simp [rowsG, List.getD_eq_getElem?_getD, List.getElem?_range ha]
theorem rowG_le {v : Bool} {W H : Nat} {l : List Bool} {x y a : Nat} (hx : x < W) (hy : y < H) : (rowG v W H l x y a).length ≤ W + H := by
  unfold rowG
  split
  · rw [List.length_map]
    refine Nat.le_trans (List.length_filter_le _ _) ?_
    rw [List.length_range]
    split
    · omega
    · split <;> omega
  · rw [List.length_map]
    refine Nat.le_trans (List.length_filter_le _ _) ?_
    rw [List.length_range]
    split <;> omega
theorem rowG_inc (v : Bool) (W H : Nat) (l : List Bool) (x y a : Nat) : (rowG v W H l x y a).Pairwise (· < ·) := by
  unfold rowG
  split
  · rw [List.pairwise_map]
    refine (List.Pairwise.filter _ List.pairwise_lt_range).imp fun h => by omega
  · rw [List.pairwise_map]
    refine (List.Pairwise.filter _ List.pairwise_lt_range).imp fun h => by omega
theorem rowG_end {v : Bool} {W H : Nat} {l : List Bool} {a : Nat} (hW : W ≤ 64) (hH : H ≤ 64) : (rowG v W H l W 0 a).length ≤ 200 := by
  unfold rowG
  split
  · rw [List.length_map]
    refine Nat.le_trans (List.length_filter_le _ _) ?_
    rw [List.length_range]
    repeat' split
    all_goals omega
  · rw [List.length_map]
    refine Nat.le_trans (List.length_filter_le _ _) ?_
    rw [List.length_range]
    repeat' split
    all_goals omega
theorem rowsG_zero (v : Bool) (W H : Nat) (l : List Bool) : rowsG v W H l 0 0 = List.replicate (W + H) [] := by
  apply List.ext_getElem
  · simp [rowsG]
  intro a h1 h2
  simp [rowsG, rowG]
theorem rowsG_row (v : Bool) (W H : Nat) (l : List Bool) (x : Nat) : rowsG v W H l x H = rowsG v W H l (x + 1) 0 := by
  unfold rowsG
  apply List.map_congr_left
  intro a ha
  have ha : a < W + H := by simpa using ha
  unfold rowG
  by_cases h : a < W
  · rw [if_pos h, if_pos h]
    congr 2
    by_cases h1 : a < x
    · rw [if_pos h1, if_pos (by omega)]
    · rw [if_neg h1]
      by_cases h2 : a = x
      · rw [if_pos h2, if_pos (by omega)]
      · rw [if_neg h2, if_neg (by omega)]; split <;> rfl
  · rw [if_neg h, if_neg h, if_pos (by omega), if_neg (by omega)]
theorem rowsG_step (v : Bool) {W H : Nat} (l : List Bool) {x y : Nat} (hx : x < W) (hy : y < H) (b : Bool) (hb : l.getD (W * y + x) false = b) :
    rowsG v W H l x (y + 1) = (rowsG v W H l x y).set (if b = v then x else W + y) (rowG v W H l x y (if b = v then x else W + y) ++ [if b = v then ((W + y : Nat) : Int) else (x : Int)]) := by
  apply List.ext_getElem
  · simp [rowsG]
  intro a h1 h2
  have ha : a < W + H := by rw [rowsG_len] at h1; exact h1
  rw [List.getElem_set]
  simp only [rowsG, List.getElem_map, List.getElem_range]
  have e1 : a = x → rowG v W H l x (y + 1) a = if b = v then rowG v W H l x y a ++ [((W + y : Nat) : Int)] else rowG v W H l x y a := by
    rintro rfl
    have g2 : ¬ a < a := by omega
    simp only [rowG, if_pos hx, if_neg g2, if_true, List.range_succ, List.filter_append, List.map_append, List.filter_cons, List.filter_nil, hb]
    by_cases hv : b = v
    · subst hv; simp
    · have : (b == v) = false := by simpa using hv
      simp [this, hv]
  have e2 : a = W + y → rowG v W H l x (y + 1) a = if b = v then rowG v W H l x y a else rowG v W H l x y a ++ [(x : Int)] := by
    rintro rfl
    have g1 : ¬ W + y < W := by omega
    have e3 : W + y - W = y := by omega
    have g2 : y < y + 1 := by omega
    have g3 : ¬ y < y := by omega
    simp only [rowG, if_neg g1, e3, if_pos g2, if_neg g3, List.range_succ, List.filter_append, List.map_append, List.filter_cons, List.filter_nil, hb]
    by_cases hv : b = v
    · subst hv; cases b <;> simp
    · have : b = !v := by cases b <;> cases v <;> simp_all
      subst this
      simp
  have e3 : a ≠ x → a ≠ W + y → rowG v W H l x (y + 1) a = rowG v W H l x y a := by
    intro g1 g2
    unfold rowG
    by_cases h : a < W
    · rw [if_pos h, if_pos h, if_neg g1, if_neg g1]
    · rw [if_neg h, if_neg h]
      congr 3
      by_cases h3 : a - W < y
      · rw [if_pos h3, if_pos (by omega)]
      · rw [if_neg h3, if_neg (by omega)]
  by_cases hv : b = v
  · simp only [if_pos hv] at *
    by_cases g : x = a
    · rw [if_pos g, e1 g.symm, g]
    · rw [if_neg g]
      by_cases g2 : a = W + y
      · exact e2 g2
      · exact e3 (fun h => g h.symm) g2
  · simp only [if_neg hv] at *
    by_cases g : W + y = a
    · rw [if_pos g, e2 g.symm, g]
    · rw [if_neg g]
      by_cases g2 : a = x
      · exact e1 g2
      · exact e3 g2 (fun h => g h.symm)
end Go.Proofs.YtmllhogaiahphaaDoor

/- The library's sort and compaction, as this program bears them. -/
set_option linter.unusedVariables false
namespace Go.Proofs
open Go.Shelf
def Tryd.lays189_ren : Go.Shelf.Ren := ⟨fun | 189 => 37 | 125 => 47 | 257 => 46 | 128 => 67 | 129 => 68 | 294 => 58 | 295 => 59 | 296 => 60 | 297 => 61 | 298 => 62 | 299 => 63 | 216 => 64 | 300 => 65 | 301 => 66 | 328 => 79 | 329 => 80 | 330 => 81 | 331 => 82 | 332 => 83 | 215 => 84 | 343 => 91 | n => n, fun | 28 => 35 | 3 => 3 | 46 => 80 | 0 => 0 | 51 => 100 | 53 => 102 | 4 => 4 | 183 => 93 | 182 => 92 | 131 => 97 | 5 => 5 | 9 => 9 | 218 => 114 | 222 => 118 | 228 => 123 | 229 => 124 | n => n, fun | n => n⟩
theorem Tryd.lays189 : Go.Proofs.Lays.n189 Tryd.prog Tryd.lays189_ren := {
  mixed := by kernel_rfl
  f125 := Tryd.func47.trans (congrArg some (by kernel_rfl))
  f128 := Tryd.func67.trans (congrArg some (by kernel_rfl))
  f129 := Tryd.func68.trans (congrArg some (by kernel_rfl))
  f189 := Tryd.func37.trans (congrArg some (by kernel_rfl))
  f215 := Tryd.func84.trans (congrArg some (by kernel_rfl))
  f216 := Tryd.func64.trans (congrArg some (by kernel_rfl))
  f257 := Tryd.func46.trans (congrArg some (by kernel_rfl))
  f294 := Tryd.func58.trans (congrArg some (by kernel_rfl))
  f295 := Tryd.func59.trans (congrArg some (by kernel_rfl))
  f296 := Tryd.func60.trans (congrArg some (by kernel_rfl))
  f297 := Tryd.func61.trans (congrArg some (by kernel_rfl))
  f298 := Tryd.func62.trans (congrArg some (by kernel_rfl))
  f299 := Tryd.func63.trans (congrArg some (by kernel_rfl))
  f300 := Tryd.func65.trans (congrArg some (by kernel_rfl))
  f301 := Tryd.func66.trans (congrArg some (by kernel_rfl))
  f328 := Tryd.func79.trans (congrArg some (by kernel_rfl))
  f329 := Tryd.func80.trans (congrArg some (by kernel_rfl))
  f330 := Tryd.func81.trans (congrArg some (by kernel_rfl))
  f331 := Tryd.func82.trans (congrArg some (by kernel_rfl))
  f332 := Tryd.func83.trans (congrArg some (by kernel_rfl))
  f343 := Tryd.func91.trans (congrArg some (by kernel_rfl))
  t0 := Tryd.underlying0
  a0 := Tryd.isAgg0
  z0 := Tryd.sizeOf0
  v0 := Tryd.zeroValue0
  t3 := Tryd.underlying3
  a3 := Tryd.isAgg3
  z3 := Tryd.sizeOf3
  v3 := Tryd.zeroValue3
  t4 := Tryd.underlying4
  a4 := Tryd.isAgg4
  z4 := Tryd.sizeOf4
  v4 := Tryd.zeroValue4
  t5 := Tryd.underlying5
  a5 := Tryd.isAgg5
  z5 := Tryd.sizeOf5
  v5 := Tryd.zeroValue5
  t9 := Tryd.underlying9
  a9 := Tryd.isAgg9
  z9 := Tryd.sizeOf9
  v9 := Tryd.zeroValue9
  t28 := Tryd.underlying35
  a28 := Tryd.isAgg35
  z28 := Tryd.sizeOf35
  v28 := Tryd.zeroValue35
  t46 := Tryd.underlying80
  a46 := Tryd.isAgg80
  z46 := Tryd.sizeOf80
  v46 := Tryd.zeroValue80
  t51 := Tryd.underlying100
  a51 := Tryd.isAgg100
  z51 := Tryd.sizeOf100
  v51 := Tryd.zeroValue100
  t53 := Tryd.underlying102
  a53 := Tryd.isAgg102
  z53 := Tryd.sizeOf102
  v53 := Tryd.zeroValue102
  t131 := Tryd.underlying97
  a131 := Tryd.isAgg97
  z131 := Tryd.sizeOf97
  v131 := Tryd.zeroValue97
  t182 := Tryd.underlying92
  a182 := Tryd.isAgg92
  z182 := Tryd.sizeOf92
  v182 := Tryd.zeroValue92
  t183 := Tryd.underlying93
  a183 := Tryd.isAgg93
  z183 := Tryd.sizeOf93
  v183 := Tryd.zeroValue93
  t218 := Tryd.underlying114
  a218 := Tryd.isAgg114
  z218 := Tryd.sizeOf114
  v218 := Tryd.zeroValue114
  t222 := Tryd.underlying118
  a222 := Tryd.isAgg118
  z222 := Tryd.sizeOf118
  v222 := Tryd.zeroValue118
  t228 := Tryd.underlying123
  a228 := Tryd.isAgg123
  z228 := Tryd.sizeOf123
  v228 := Tryd.zeroValue123
  t229 := Tryd.underlying124
  a229 := Tryd.isAgg124
  z229 := Tryd.sizeOf124
  v229 := Tryd.zeroValue124 }
end Go.Proofs

/- Tables for the run of closed code. -/
set_option maxRecDepth 100000
set_option linter.unusedSimpArgs false
namespace Go.Proofs.YtmllhogaiahphaaDoor
open Go Go.Proofs Go.AW
noncomputable def tabE : List (Nat × EffF) := [(30, effS [] false [] [] [4, 48, 51, 60, 63] (fun i => !(i == 4)) [55, 67])] ++ [5, 6, 15, 16, 17, 18, 19, 31, 32, 33, 34, 35, 37, 38, 39, 40, 41, 42, 43, 44, 46, 47, 48, 49, 50, 51, 52, 53, 54, 55, 56, 57, 58, 59, 60, 61, 62, 63, 64, 65, 66, 67, 68, 69, 70, 71, 72, 73, 74, 75, 76, 77, 78, 79, 80, 81, 82, 83, 84, 85, 86, 87, 88, 90, 91, 92, 93, 94, 96, 97, 99].map fun f => (f, effS [] false)
theorem tabE_ok : tabE.all (chkE Tryd.prog) = true := by kernel_rfl
noncomputable def tabS : List (Nat × (Array Value → Sem Value)) := [(89, Extern.BytealgCount.count), (98, Extern.BytealgIndexByte.indexByte)]
noncomputable def xT : XT := ⟨lookE tabE, hasN [37, 38, 41, 42, 46, 57, 58, 59, 60, 61, 65, 66, 79], extE Tryd.prog [] tabS, noOrc⟩
theorem xExt : ∀ f avs v, extE Tryd.prog [] tabS f avs = some v → ExtOk Tryd.prog f avs v := extE_ok (fun f hf => by
  simp only [List.mem_cons, List.not_mem_nil, or_false] at hf
  ) (fun p hp => by
  simp only [tabS, List.mem_cons, List.not_mem_nil, or_false] at hp
  rcases hp with rfl | rfl
  · exact ⟨_, Tryd.func89, by kernel_rfl, by kernel_rfl, by kernel_rfl, by kernel_rfl⟩
  · exact ⟨_, Tryd.func98, by kernel_rfl, by kernel_rfl, by kernel_rfl, by kernel_rfl⟩
  )
theorem xGood : xT.Good Tryd.prog := XT.good follows tabE_ok xExt noOrc_ok
end Go.Proofs.YtmllhogaiahphaaDoor

/- Which threads lie over which, by the program. -/
set_option linter.unusedSimpArgs false
set_option linter.unusedVariables false
set_option maxRecDepth 100000
namespace Go.Proofs.YtmllhogaiahphaaDoor
open Go Go.Proofs Go.AW

theorem apZ_gw (D : Nat → Bool) (k : Nat) (xs : List AVal) (r : Option (AVal × List AObj)) : apZ true D (gw true k xs) r = if D k = true then r else none := by
  cases xs with
  | nil => exact apZ_res D k r
  | cons a t => exact apZ_ref D k 0 _ _ r

theorem cA_any {ty es ext : Nat} {cs : List AVal} (hl : cs.length = ext) : cA (some ⟨ty, es, cs⟩) ext = some cs := by simp [cA, hl]

theorem sX_gw {g : Bool} {h : List AObj} {id a ext ty es : Nat} {cs : List AVal} {bb : Bool} {k : Nat} {xs : List AVal} (hty : ty ≠ 1000003) (hl : cs.length = ext) (hk : a < ext) : sX (some (g, 1)) h id a ext (some ⟨ty, es, cs⟩) (some [gw bb k xs]) = some (h.set id ⟨ty, es, cs.set a (gw bb k xs)⟩) := by
  rw [sX_mk hty, if_pos ⟨hl, rfl, by simp; omega, by simp [one_gw]⟩]; rfl

theorem sort_nil : Contract Tryd.prog 37 [.list false true 0 []] (.tuple []) := Contract.run xGood 200 (by kernel_rfl)

/-- Rows, handed back. -/
def LL (rs : List (List Int)) : List AVal := rs.map fun r => LR r.isEmpty r
theorem gws_res {h : List AObj} {k : Nat} {rs : List (List Int)} (m : Nat) (hh : ∀ a, a < rs.length → h[k + a]? = some (go 3 (ints (rs.getD a [])))) : (gws k rs).map (resOf h (m + 2)) = LL rs := by
  apply List.ext_getElem
  · simp [gws, LL]
  intro a h1 h2
  have ha : a < rs.length := by simpa [LL] using h2
  have hg := hh a ha
  have e : rs.getD a [] = rs[a] := by rw [List.getD_eq_getElem?_getD, List.getElem?_eq_getElem ha]; rfl
  rw [e] at hg
  simp only [gws, LL, List.getElem_map, List.getElem_mapIdx]
  generalize rs[a] = r at *
  cases r with
  | nil => rfl
  | cons x t =>
    have hp : 0 < (ints (x :: t)).length := by simp [ints]
    rw [gw_pos hp]
    rw [go_pos hp] at hg
    simp only [resOf, hg, if_true, List.drop_zero, Nat.mul_one, List.take_length]
    have := ints_res (x :: t) h m
    simp only [this, ints_length]
    rfl

theorem set_self {h : List AObj} {i : Nat} {o : AObj} (ho : h[i]? = some o) : h.set i o = h := by
  obtain ⟨hi, rfl⟩ := List.getElem?_eq_some_iff.1 ho
  exact List.set_getElem_self hi
theorem srt_inc {r : List Int} (h : r.Pairwise (· < ·)) : srt r = r := by
  apply List.mergeSort_of_pairwise
  exact h.imp fun hab => by simp; omega

theorem rX_any {h : List AObj} {m n ty : Nat} {cs : List AVal} (hl : cs.length = n) : rX h m 0 n n (some ⟨ty, 1, cs⟩) = .list true false n (cs.map (resOf h m)) := by
  subst hl
  simp [rX]

theorem newOrder_c {W H n : Nat} (hN : W + H = n) (hW0 : 0 < W) (hH0 : 0 < H) (hW : W ≤ 64) (hH : H ≤ 64) (b : Bool) {l : List Bool} (hn : l.length = W * H) :
    Contract Tryd.prog 30 [GA W H b l] (.agg [.list true false n (LL (rowsG true W H l W 0)), .list true false n (LL (rowsG false W H l W 0))]) := by
  have hWH : W * H ≤ 64 * 64 := Nat.mul_le_mul hW hH
  have hNi : ((W : Int) + (H : Int)).toNat = n := by omega
  have hcell : ofCell (.slice none 0 0) = .cap0 true := rfl
  refine Contract.intro (effS [] false [] [] [4, 48, 51, 60, 63] (fun i => !(i == 4)) [55, 67]) 6 follows Tryd.func30 rfl rfl (by kernel_rfl) (Nat.le_of_ble_eq_true rfl) ?_
  simp (disch := first | assumption | omega | rfl | simp only [RH]) only [↓RP, RG, FX, RQ, ↓reduceIte, Nat.reduceEqDiff, reduceCtorEq, Nat.reduceBEq, Nat.reduceAdd, Nat.reduceLeDiff, args0_1, make_one, hNi, hcell]
  refine loopK_W [1, 2, 3, 4, 21, 22] (fun x : Nat => x ≤ W) (fun x : Nat => ⟨[(1, .ptr 0 0 3), (2, .ptr 1 0 2), (3, I ((W : Int) + (H : Int))), (4, .ptr 4 0 2), (21, I W), (22, I x)], ⟨24, 3, [I W, I H, BA b l]⟩ :: ⟨55, 2, [.cap0 true, .cap0 true]⟩ :: ⟨35, 1, gws 5 (rowsG true W H l x 0)⟩ :: ⟨35, 1, gws (5 + n) (rowsG false W H l x 0)⟩ :: ⟨55, 2, [.ref 2 0 n n, .ref 3 0 n n]⟩ :: (gos (rowsG true W H l x 0) ++ gos (rowsG false W H l x 0))⟩) (fun x => W - x) 0 (by omega) ?_ ?_
  · simp only [↓RP, RG, FX, RQ, ↓reduceIte, Nat.reduceEqDiff, reduceCtorEq, Nat.reduceBEq, Nat.reduceAdd, Nat.reduceLeDiff]
    rw [rowsG_zero, rowsG_zero, hN]
    refine Wk.weak (fun t => .refl _) (.cons _ _ _ _ (WL.refl _) (.cons _ _ _ _ (WL.refl _) (.cons _ _ _ _ (WL_gws 5 n) (.cons _ _ _ _ (WL_gws (5 + n) n) (.cons _ _ _ _ (WL.refl _) (.nil _ ?_))))))
    intro o ho
    rcases List.mem_append.1 ho with h | h <;> exact gos_nil n o h
  intro x hx
  by_cases hlt : x < W
  · simp (disch := first | assumption | omega | rfl | simp only [RH]) only [↓RP, RG, FX, RQ, ↓reduceIte, Nat.reduceEqDiff, reduceCtorEq, Nat.reduceBEq, Nat.reduceAdd, Nat.reduceLeDiff]
    refine loopK_I [1, 2, 3, 4, 5, 21, 22, 26, 27] (fun y : Nat => y ≤ H) (fun y : Nat => ⟨[(1, .ptr 0 0 3), (2, .ptr 1 0 2), (3, I ((W : Int) + (H : Int))), (4, .ptr 4 0 2), (5, I x), (21, I W), (22, I x), (26, I H), (27, I y)], ⟨24, 3, [I W, I H, BA b l]⟩ :: ⟨55, 2, [.cap0 true, .cap0 true]⟩ :: ⟨35, 1, gws 5 (rowsG true W H l x y)⟩ :: ⟨35, 1, gws (5 + n) (rowsG false W H l x y)⟩ :: ⟨55, 2, [.ref 2 0 n n, .ref 3 0 n n]⟩ :: (gos (rowsG true W H l x y) ++ gos (rowsG false W H l x y))⟩) (fun y => H - y) 0 (by omega) (by simp only [↓RP, RG, FX, RQ, ↓reduceIte, Nat.reduceEqDiff, reduceCtorEq, Nat.reduceBEq, Nat.reduceAdd, Nat.reduceLeDiff]; rfl) ?_
    intro y hy
    by_cases hlt2 : y < H
    · have lB := rowsG_len true W H l x y
      have lA := rowsG_len false W H l x y
      have hil := idx_lt hlt hlt2
      have hid := idx_nat W y x
      have hxw : (y : Int) * (W : Int) = ((W * y : Nat) : Int) := by rw [Int.natCast_mul, Int.mul_comm]
      have hwy : W * y ≤ 64 * 64 := Nat.mul_le_mul (by omega) (by omega)
      have hcst : (W : Int) + (y : Int) = ((W + y : Nat) : Int) := by omega
      have hix : (((W * y : Nat) : Int) + (x : Int)).toNat = W * y + x := by omega
      cases hb : l.getD (W * y + x) false with
      | true =>
        have sB := rowsG_step true l hlt hlt2 true hb
        have sA := rowsG_step false l hlt hlt2 true hb
        rw [if_pos rfl, if_pos rfl, ← rowsG_get (by omega)] at sB
        rw [if_neg (by simp), if_neg (by simp), ← rowsG_get (by omega)] at sA
        have zB : ((rowsG true W H l x y).getD x []).length ≤ 200 := by rw [rowsG_get (by omega)]; have := rowG_le (v := true) (l := l) (a := x) hlt hlt2; omega
        have zA : ((rowsG false W H l x y).getD (W + y) []).length ≤ 200 := by rw [rowsG_get (by omega)]; have := rowG_le (v := false) (l := l) (a := W + y) hlt hlt2; omega
        generalize rowsG true W H l x y = rB at *
        generalize rowsG false W H l x y = rA at *
        generalize hB' : rowsG true W H l x (y + 1) = rB' at *
        generalize hA' : rowsG false W H l x (y + 1) = rA' at *
        have lB' : rB'.length = n := by rw [sB, List.length_set]; omega
        have gB : (gws 5 rB).length = n := by rw [gws_len]; omega
        have gA : (gws (5 + n) rA).length = n := by rw [gws_len]; omega
        have gB' : (gws 5 rB').length = n := by rw [gws_len]; omega
        have a1 := gws_at (k := 5) (show x < rB.length by omega)
        have a2 := gws_at (k := 5 + n) (show W + y < rA.length by omega)
        have d1 : (5 + x == 4) = false := beq_eq_false_iff_ne.2 (by omega)
        have d2 : (5 + n + (W + y) == 4) = false := beq_eq_false_iff_ne.2 (by omega)
        have o1 : (⟨24, 3, [I W, I H, BA b l]⟩ :: ⟨55, 2, [.cap0 true, .cap0 true]⟩ :: ⟨35, 1, gws 5 rB⟩ :: ⟨35, 1, gws (5 + n) rA⟩ :: ⟨55, 2, [.ref 2 0 n n, .ref 3 0 n n]⟩ :: (gos rB ++ gos rA))[5 + x]? = some (go 3 (ints (rB.getD x []))) := h5_atB (by omega)
        have t1 : (⟨24, 3, [I W, I H, BA b l]⟩ :: ⟨55, 2, [.cap0 true, .cap0 true]⟩ :: ⟨35, 1, gws 5 rB⟩ :: ⟨35, 1, gws (5 + n) rA⟩ :: ⟨55, 2, [.ref 2 0 n n, .ref 3 0 n n]⟩ :: (gos rB ++ gos rA)).set (5 + x) (go 3 (ints (rB.getD x [] ++ [((W + y : Nat) : Int)]))) = ⟨24, 3, [I W, I H, BA b l]⟩ :: ⟨55, 2, [.cap0 true, .cap0 true]⟩ :: ⟨35, 1, gws 5 rB⟩ :: ⟨35, 1, gws (5 + n) rA⟩ :: ⟨55, 2, [.ref 2 0 n n, .ref 3 0 n n]⟩ :: (gos rB' ++ gos rA) := by rw [h5_setB (by omega), ← sB]
        have p1 : (gws 5 rB).set x (gw true (5 + x) (ints (rB.getD x [] ++ [((W + y : Nat) : Int)]))) = gws 5 rB' := by rw [gws_set, ← sB]
        have o2 : (⟨24, 3, [I W, I H, BA b l]⟩ :: ⟨55, 2, [.cap0 true, .cap0 true]⟩ :: ⟨35, 1, gws 5 rB'⟩ :: ⟨35, 1, gws (5 + n) rA⟩ :: ⟨55, 2, [.ref 2 0 n n, .ref 3 0 n n]⟩ :: (gos rB' ++ gos rA))[5 + n + (W + y)]? = some (go 3 (ints (rA.getD (W + y) []))) := h5_atA lB' (by omega)
        have t2 : (⟨24, 3, [I W, I H, BA b l]⟩ :: ⟨55, 2, [.cap0 true, .cap0 true]⟩ :: ⟨35, 1, gws 5 rB'⟩ :: ⟨35, 1, gws (5 + n) rA⟩ :: ⟨55, 2, [.ref 2 0 n n, .ref 3 0 n n]⟩ :: (gos rB' ++ gos rA)).set (5 + n + (W + y)) (go 3 (ints (rA.getD (W + y) [] ++ [(x : Int)]))) = ⟨24, 3, [I W, I H, BA b l]⟩ :: ⟨55, 2, [.cap0 true, .cap0 true]⟩ :: ⟨35, 1, gws 5 rB'⟩ :: ⟨35, 1, gws (5 + n) rA⟩ :: ⟨55, 2, [.ref 2 0 n n, .ref 3 0 n n]⟩ :: (gos rB' ++ gos rA') := by rw [h5_setA lB', ← sA]
        have p2 : (gws (5 + n) rA).set (W + y) (gw true (5 + n + (W + y)) (ints (rA.getD (W + y) [] ++ [(x : Int)]))) = gws (5 + n) rA' := by rw [gws_set, ← sA]
        simp (disch := first | assumption | omega | rfl | simp only [RH]) only [↓RP, RG, FX, RQ, ↓reduceIte, Nat.reduceEqDiff, reduceCtorEq, Nat.reduceBEq, Nat.reduceAdd, Nat.reduceLeDiff, hxw, hcst, hix, hb, cA_any, a1, a2, apZ_gw, sX_gw, d1, d2, append_int, t1, p1, t2, p2]
        exact ⟨y + 1, by omega, by rw [hB', hA']; rfl, by omega⟩
      | false =>
        have sB := rowsG_step true l hlt hlt2 false hb
        have sA := rowsG_step false l hlt hlt2 false hb
        rw [if_neg (by simp), if_neg (by simp), ← rowsG_get (by omega)] at sB
        rw [if_pos rfl, if_pos rfl, ← rowsG_get (by omega)] at sA
        have zB : ((rowsG true W H l x y).getD (W + y) []).length ≤ 200 := by rw [rowsG_get (by omega)]; have := rowG_le (v := true) (l := l) (a := W + y) hlt hlt2; omega
        have zA : ((rowsG false W H l x y).getD x []).length ≤ 200 := by rw [rowsG_get (by omega)]; have := rowG_le (v := false) (l := l) (a := x) hlt hlt2; omega
        generalize rowsG true W H l x y = rB at *
        generalize rowsG false W H l x y = rA at *
        generalize hB' : rowsG true W H l x (y + 1) = rB' at *
        generalize hA' : rowsG false W H l x (y + 1) = rA' at *
        have lB' : rB'.length = n := by rw [sB, List.length_set]; omega
        have gB : (gws 5 rB).length = n := by rw [gws_len]; omega
        have gA : (gws (5 + n) rA).length = n := by rw [gws_len]; omega
        have gB' : (gws 5 rB').length = n := by rw [gws_len]; omega
        have a1 := gws_at (k := 5) (show W + y < rB.length by omega)
        have a2 := gws_at (k := 5 + n) (show x < rA.length by omega)
        have d1 : (5 + (W + y) == 4) = false := beq_eq_false_iff_ne.2 (by omega)
        have d2 : (5 + n + x == 4) = false := beq_eq_false_iff_ne.2 (by omega)
        have o1 : (⟨24, 3, [I W, I H, BA b l]⟩ :: ⟨55, 2, [.cap0 true, .cap0 true]⟩ :: ⟨35, 1, gws 5 rB⟩ :: ⟨35, 1, gws (5 + n) rA⟩ :: ⟨55, 2, [.ref 2 0 n n, .ref 3 0 n n]⟩ :: (gos rB ++ gos rA))[5 + (W + y)]? = some (go 3 (ints (rB.getD (W + y) []))) := h5_atB (by omega)
        have t1 : (⟨24, 3, [I W, I H, BA b l]⟩ :: ⟨55, 2, [.cap0 true, .cap0 true]⟩ :: ⟨35, 1, gws 5 rB⟩ :: ⟨35, 1, gws (5 + n) rA⟩ :: ⟨55, 2, [.ref 2 0 n n, .ref 3 0 n n]⟩ :: (gos rB ++ gos rA)).set (5 + (W + y)) (go 3 (ints (rB.getD (W + y) [] ++ [(x : Int)]))) = ⟨24, 3, [I W, I H, BA b l]⟩ :: ⟨55, 2, [.cap0 true, .cap0 true]⟩ :: ⟨35, 1, gws 5 rB⟩ :: ⟨35, 1, gws (5 + n) rA⟩ :: ⟨55, 2, [.ref 2 0 n n, .ref 3 0 n n]⟩ :: (gos rB' ++ gos rA) := by rw [h5_setB (by omega), ← sB]
        have p1 : (gws 5 rB).set (W + y) (gw true (5 + (W + y)) (ints (rB.getD (W + y) [] ++ [(x : Int)]))) = gws 5 rB' := by rw [gws_set, ← sB]
        have o2 : (⟨24, 3, [I W, I H, BA b l]⟩ :: ⟨55, 2, [.cap0 true, .cap0 true]⟩ :: ⟨35, 1, gws 5 rB'⟩ :: ⟨35, 1, gws (5 + n) rA⟩ :: ⟨55, 2, [.ref 2 0 n n, .ref 3 0 n n]⟩ :: (gos rB' ++ gos rA))[5 + n + x]? = some (go 3 (ints (rA.getD x []))) := h5_atA lB' (by omega)
        have t2 : (⟨24, 3, [I W, I H, BA b l]⟩ :: ⟨55, 2, [.cap0 true, .cap0 true]⟩ :: ⟨35, 1, gws 5 rB'⟩ :: ⟨35, 1, gws (5 + n) rA⟩ :: ⟨55, 2, [.ref 2 0 n n, .ref 3 0 n n]⟩ :: (gos rB' ++ gos rA)).set (5 + n + x) (go 3 (ints (rA.getD x [] ++ [((W + y : Nat) : Int)]))) = ⟨24, 3, [I W, I H, BA b l]⟩ :: ⟨55, 2, [.cap0 true, .cap0 true]⟩ :: ⟨35, 1, gws 5 rB'⟩ :: ⟨35, 1, gws (5 + n) rA⟩ :: ⟨55, 2, [.ref 2 0 n n, .ref 3 0 n n]⟩ :: (gos rB' ++ gos rA') := by rw [h5_setA lB', ← sA]
        have p2 : (gws (5 + n) rA).set x (gw true (5 + n + x) (ints (rA.getD x [] ++ [((W + y : Nat) : Int)]))) = gws (5 + n) rA' := by rw [gws_set, ← sA]
        simp (disch := first | assumption | omega | rfl | simp only [RH]) only [↓RP, RG, FX, RQ, ↓reduceIte, Nat.reduceEqDiff, reduceCtorEq, Nat.reduceBEq, Nat.reduceAdd, Nat.reduceLeDiff, hxw, hcst, hix, hb, cA_any, a1, a2, apZ_gw, sX_gw, d1, d2, append_int, t1, p1, t2, p2]
        exact ⟨y + 1, by omega, by rw [hB', hA']; rfl, by omega⟩
    · obtain rfl : y = H := by omega
      simp (disch := first | assumption | omega | rfl | simp only [RH]) only [↓RP, RG, FX, RQ, ↓reduceIte, Nat.reduceEqDiff, reduceCtorEq, Nat.reduceBEq, Nat.reduceAdd, Nat.reduceLeDiff]
      exact ⟨x + 1, by omega, by rw [rowsG_row, rowsG_row]; rfl, by omega⟩
  · obtain rfl : x = W := by omega
    simp (disch := first | assumption | omega | rfl | simp only [RH]) only [↓RP, RG, FX, RQ, ↓reduceIte, Nat.reduceEqDiff, reduceCtorEq, Nat.reduceBEq, Nat.reduceAdd, Nat.reduceLeDiff]
    have lB := rowsG_len true x H l x 0
    have lA := rowsG_len false x H l x 0
    have sS : ∀ a, a < n → ((rowsG true x H l x 0).getD a []).Pairwise (· < ·) ∧ ((rowsG true x H l x 0).getD a []).length ≤ 200 := fun a ha => by
      rw [rowsG_get (by omega)]; exact ⟨rowG_inc _ _ _ _ _ _ _, rowG_end (by omega) (by omega)⟩
    generalize rowsG true x H l x 0 = rB at *
    generalize rowsG false x H l x 0 = rA at *
    have gB : (gws 5 rB).length = n := by rw [gws_len]; omega
    have gA : (gws (5 + n) rA).length = n := by rw [gws_len]; omega
    refine loopK_I [1, 2, 4, 74, 75] (fun a : Nat => a ≤ n) (fun a : Nat => ⟨[(1, .ptr 0 0 3), (2, .ptr 1 0 2), (4, .ptr 4 0 2), (74, I ((x : Int) + (H : Int))), (75, I a)], ⟨24, 3, [I x, I H, BA b l]⟩ :: ⟨55, 2, [.cap0 true, .cap0 true]⟩ :: ⟨35, 1, gws 5 rB⟩ :: ⟨35, 1, gws (5 + n) rA⟩ :: ⟨55, 2, [.ref 2 0 n n, .ref 3 0 n n]⟩ :: (gos rB ++ gos rA)⟩) (fun a => n - a) 0 (by omega) (by simp only [↓RP, RG, FX, RQ, ↓reduceIte, Nat.reduceEqDiff, reduceCtorEq, Nat.reduceBEq, Nat.reduceAdd, Nat.reduceLeDiff]; rfl) ?_
    intro a ha
    by_cases hlt3 : a < n
    · have a1 := gws_at (k := 5) (show a < rB.length by omega)
      obtain ⟨s1, s2⟩ := sS a hlt3
      have o1 : (⟨24, 3, [I x, I H, BA b l]⟩ :: ⟨55, 2, [.cap0 true, .cap0 true]⟩ :: ⟨35, 1, gws 5 rB⟩ :: ⟨35, 1, gws (5 + n) rA⟩ :: ⟨55, 2, [.ref 2 0 n n, .ref 3 0 n n]⟩ :: (gos rB ++ gos rA))[5 + a]? = some (go 3 (ints (rB.getD a []))) := h5_atB (by omega)
      simp (disch := first | assumption | omega | rfl | simp only [RH]) only [↓RP, RG, FX, RQ, ↓reduceIte, Nat.reduceEqDiff, reduceCtorEq, Nat.reduceBEq, Nat.reduceAdd, Nat.reduceLeDiff, cA_any, a1]
      generalize rB.getD a [] = ra at *
      cases ra with
      | nil =>
        refine callK_F 6 sort_nil (by rfl) (.inl (by simp [allFresh])) ?_
        simp (disch := first | assumption | omega | rfl | simp only [RH]) only [↓RP, RG, FX, RQ, ↓reduceIte, Nat.reduceEqDiff, reduceCtorEq, Nat.reduceBEq, Nat.reduceAdd, Nat.reduceLeDiff]
        exact ⟨a + 1, by omega, rfl, by omega⟩
      | cons v t =>
        have hp : 0 < (ints (v :: t)).length := by simp [ints]
        rw [gw_pos hp, ints_length]
        rw [go_pos hp] at o1
        refine callK_T rfl (sort_spec (ρ := Tryd.lays189_ren) Tryd.lays189 (by kernel_rfl) (id := 5 + a) o1 (by decide) (n := (v :: t).length) rfl (by omega)) ?_
        rw [srt_inc s1, set_self o1]
        simp (disch := first | assumption | omega | rfl | simp only [RH]) only [↓RP, RG, FX, RQ, ↓reduceIte, Nat.reduceEqDiff, reduceCtorEq, Nat.reduceBEq, Nat.reduceAdd, Nat.reduceLeDiff]
        exact ⟨a + 1, by omega, rfl, by omega⟩
    · obtain rfl : a = n := by omega
      simp (disch := first | assumption | omega | rfl | simp only [RH]) only [↓RP, RG, FX, RQ, ↓reduceIte, Nat.reduceEqDiff, reduceCtorEq, Nat.reduceBEq, Nat.reduceAdd, Nat.reduceLeDiff, cA_any]
      have f1 := gws_res (h := (⟨24, 3, [I x, I H, BA b l]⟩ :: ⟨55, 2, [.ref 2 0 a a, .ref 3 0 a a]⟩ :: ⟨35, 1, gws 5 rB⟩ :: ⟨35, 1, gws (5 + a) rA⟩ :: ⟨55, 2, [.ref 2 0 a a, .ref 3 0 a a]⟩ :: (gos rB ++ gos rA))) (k := 5) (rs := rB) 2 (fun i hi => h5_atB hi)
      have f2 := gws_res (h := (⟨24, 3, [I x, I H, BA b l]⟩ :: ⟨55, 2, [.ref 2 0 a a, .ref 3 0 a a]⟩ :: ⟨35, 1, gws 5 rB⟩ :: ⟨35, 1, gws (5 + a) rA⟩ :: ⟨55, 2, [.ref 2 0 a a, .ref 3 0 a a]⟩ :: (gos rB ++ gos rA))) (k := 5 + a) (rs := rA) 2 (fun i hi => h5_atA (by omega) hi)
      rw [resVal_1 rfl]; simp (disch := first | assumption | omega | rfl | simp only [RH]) only [↓RP, RG, FX, RQ, ↓reduceIte, Nat.reduceEqDiff, reduceCtorEq, Nat.reduceBEq, Nat.reduceAdd, Nat.reduceLeDiff, RS]
      rw [rX_any gB, rX_any gA, f1, f2]
end Go.Proofs.YtmllhogaiahphaaDoor

/- Which threads lie over which: by one relation. -/
set_option linter.unusedSimpArgs false
set_option linter.unusedVariables false
set_option maxRecDepth 100000
namespace Go.Proofs.YtmllhogaiahphaaDoor
open Go Go.Proofs Go.AW

/-- Thread a lies over thread b. -/
def ov (W : Nat) (l : List Bool) (a b : Nat) : Bool :=
  if a < W then (if b < W then false else l.getD (W * (b - W) + a) false) else (if b < W then !l.getD (W * (a - W) + b) false else false)
/-- The numbers below n that are wanted. -/
def sel (n : Nat) (p : Nat → Bool) : List Int := ((List.range n).filter p).map fun i : Nat => (i : Int)
theorem sel_split (W H : Nat) (p : Nat → Bool) : sel (W + H) p = sel W p ++ ((List.range H).filter fun j => p (W + j)).map fun j => ((W + j : Nat) : Int) := by
  unfold sel
  rw [List.range_add, List.filter_append, List.map_append, List.filter_map, List.map_map]
  rfl
theorem sel_none {n : Nat} {p : Nat → Bool} (h : ∀ i, i < n → p i = false) : sel n p = [] := by
  unfold sel
  rw [List.filter_eq_nil_iff.2 (fun i hi => by rw [h i (by simpa using hi)]; simp)]
  rfl
theorem rowG_sel {v : Bool} {W H : Nat} {l : List Bool} {a : Nat} (ha : a < W + H) : rowG v W H l W 0 a = sel (W + H) fun b => if v then ov W l a b else ov W l b a := by
  rw [sel_split]
  unfold rowG
  by_cases h : a < W
  · rw [if_pos h, if_pos h, sel_none, List.nil_append]
    · congr 1
      apply List.filter_congr
      intro j hj
      have h1 : ¬ W + j < W := by omega
      have h2 : W + j - W = j := by omega
      cases v
      · simp [ov, h, h1, h2]
      · simp [ov, h, h1, h2]
    · intro i hi
      cases v <;> simp [ov, h, hi]
  · rw [if_neg h, if_neg (by omega)]
    have e2 : ((List.range H).filter fun j => if v = true then ov W l a (W + j) else ov W l (W + j) a) = [] := by
      rw [List.filter_eq_nil_iff]
      intro j hj
      have h1 : ¬ W + j < W := by omega
      cases v <;> simp [ov, h, h1]
    rw [e2, List.map_nil, List.append_nil]
    unfold sel
    congr 1
    apply List.filter_congr
    intro i hi
    have hi : i < W := by simpa using hi
    cases v
    · simp [ov, h, hi]
    · simp [ov, h, hi]
/-- Those that a thread lies over, for each thread; those that lie over it. -/
def bel (W n : Nat) (l : List Bool) : List (List Int) := (List.range n).map fun a => sel n fun b => ov W l a b
def abv (W n : Nat) (l : List Bool) : List (List Int) := (List.range n).map fun a => sel n fun b => ov W l b a
theorem rowsG_bel {W H n : Nat} (hN : W + H = n) (l : List Bool) : rowsG true W H l W 0 = bel W n l ∧ rowsG false W H l W 0 = abv W n l := by
  subst hN
  constructor
  · unfold rowsG bel
    apply List.map_congr_left
    intro a ha
    rw [rowG_sel (by simpa using ha)]; rfl
  · unfold rowsG abv
    apply List.map_congr_left
    intro a ha
    rw [rowG_sel (by simpa using ha)]; rfl
theorem order_c {W H n : Nat} (hN : W + H = n) (hW0 : 0 < W) (hH0 : 0 < H) (hW : W ≤ 64) (hH : H ≤ 64) (b : Bool) {l : List Bool} (hn : l.length = W * H) :
    Contract Tryd.prog 30 [GA W H b l] (.agg [.list true false n (LL (bel W n l)), .list true false n (LL (abv W n l))]) := by
  obtain ⟨h1, h2⟩ := rowsG_bel hN l
  have := newOrder_c hN hW0 hH0 hW hH b hn
  rwa [h1, h2] at this
theorem abv_get {W n : Nat} {l : List Bool} {a : Nat} (ha : a < n) : (abv W n l).getD a [] = sel n fun b => ov W l b a := by
  simp [abv, List.getD_eq_getElem?_getD, List.getElem?_range ha]
end Go.Proofs.YtmllhogaiahphaaDoor

/- Does a thread lie over another one? -/
set_option linter.unusedSimpArgs false
set_option linter.unusedVariables false
set_option maxRecDepth 100000
namespace Go.Proofs.YtmllhogaiahphaaDoor
open Go Go.Proofs Go.AW

theorem threads_c (W H : Nat) (b : Bool) (l : List Bool) (hW : W ≤ 64) (hH : H ≤ 64) : Contract Tryd.prog 29 [GA W H b l] (I ((W : Int) + H)) := by
  refine Contract.intro (effS [] false) 6 follows Tryd.func29 rfl rfl (by kernel_rfl) (Nat.le_of_ble_eq_true rfl) ?_
  simp (disch := first | assumption | omega | rfl | simp only [RH]) only [↓RP, RG, FX, RQ, ↓reduceIte, Nat.reduceEqDiff, reduceCtorEq, Nat.reduceBEq, Nat.reduceAdd, Nat.reduceLeDiff, args0_1]
  rw [resVal_1 rfl]; simp (disch := first | assumption | omega | rfl | simp only [RH]) only [↓RP, RG, FX, RQ, ↓reduceIte, Nat.reduceEqDiff, reduceCtorEq, Nat.reduceBEq, Nat.reduceAdd, Nat.reduceLeDiff, RS]
end Go.Proofs.YtmllhogaiahphaaDoor

/- Lists: the place of an element. -/
set_option linter.unusedSimpArgs false
set_option linter.unusedVariables false
set_option maxRecDepth 100000
namespace Go.Proofs.YtmllhogaiahphaaDoor
open Go Go.Proofs Go.AW

end Go.Proofs.YtmllhogaiahphaaDoor

/- Lists: do they have each number just once? -/
set_option linter.unusedSimpArgs false
set_option linter.unusedVariables false
set_option maxRecDepth 100000
namespace Go.Proofs.YtmllhogaiahphaaDoor
open Go Go.Proofs Go.AW

/-- It is among the elements. -/
def has (l : List Int) (x : Int) : Prop := ∃ i, i < l.length ∧ l.getD i 0 = x
instance (l : List Int) (x : Int) : Decidable (has l x) := by unfold has; infer_instance
end Go.Proofs.YtmllhogaiahphaaDoor

/- Does a thread lie over another one: both programs. -/
set_option linter.unusedSimpArgs false
set_option linter.unusedVariables false
set_option maxRecDepth 100000
namespace Go.Proofs.YtmllhogaiahphaaDoor
open Go Go.Proofs Go.AW

end Go.Proofs.YtmllhogaiahphaaDoor

/- A search, step by step. -/
set_option linter.unusedSimpArgs false
set_option linter.unusedVariables false
set_option maxRecDepth 100000
namespace Go.Proofs.YtmllhogaiahphaaDoor
open Go Go.Proofs Go.AW

/-- The threads next to c, one after the other, are reached from it, if they are not yet. -/
def inner (c : Nat) : List Nat → List Int × List Nat → List Int × List Nat
  | [], s => s
  | b :: r, s => if s.1.getD b 0 < 0 then inner c r (s.1.set b (s.1.getD c 0 + 1), s.2 ++ [b]) else inner c r s
/-- The queue is emptied. -/
def bfs (adj : Nat → List Nat) : Nat → List Int → List Nat → List Int
  | 0, far, _ => far
  | _ + 1, far, [] => far
  | k + 1, far, c :: q => bfs adj k (inner c (adj c) (far, q)).1 (inner c (adj c) (far, q)).2
def neg (far : List Int) : Nat := far.countP fun x => decide (x < 0)
/-- What holds all along. -/
structure Sound (n : Nat) (far : List Int) (q : List Nat) : Prop where
  len : far.length = n
  mem : ∀ c ∈ q, c < n
  low : ∀ i, i < n → -1 ≤ far.getD i 0
  high : ∀ i, i < n → far.getD i 0 + neg far ≤ n
theorem neg_set {far : List Int} {b : Nat} {v : Int} (hb : b < far.length) (h : far.getD b 0 < 0) (hv : 0 ≤ v) : neg (far.set b v) + 1 = neg far := by
  induction far generalizing b with
  | nil => simp at hb
  | cons x r ih =>
    cases b with
    | zero =>
      simp only [List.getD_cons_zero] at h
      simp only [neg, List.set_cons_zero, List.countP_cons]
      simp [h, Int.not_lt.2 hv]
    | succ b =>
      have := ih (b := b) (by simpa using hb) (by simpa using h)
      simp only [neg, List.set_cons_succ, List.countP_cons] at this ⊢
      omega
theorem getD_set' {far : List Int} {b i : Nat} {v : Int} (hb : b < far.length) : (far.set b v).getD i 0 = if i = b then v else far.getD i 0 := by
  simp only [List.getD_eq_getElem?_getD, List.getElem?_set]
  by_cases h : b = i
  · subst h; simp [hb]
  · simp [h, Ne.symm h]
theorem Sound.push {n : Nat} {far : List Int} {q : List Nat} (h : Sound n far q) {b c : Nat} (hb : b < n) (hc : c < n) (hn : far.getD b 0 < 0) : Sound n (far.set b (far.getD c 0 + 1)) (q ++ [b]) ∧ neg (far.set b (far.getD c 0 + 1)) + 1 = neg far := by
  have hbl : b < far.length := by rw [h.len]; exact hb
  have h1 := h.low c hc
  have h2 := h.high c hc
  have h3 := neg_set hbl hn (show 0 ≤ far.getD c 0 + 1 by omega)
  refine ⟨⟨by rw [List.length_set]; exact h.len, fun x hx => ?_, fun i hi => ?_, fun i hi => ?_⟩, h3⟩
  · rcases List.mem_append.1 hx with g | g
    · exact h.mem x g
    · simp at g; omega
  · rw [getD_set' hbl]
    have := h.low i hi
    split <;> omega
  · rw [getD_set' hbl]
    have := h.high i hi
    split <;> omega
theorem Sound.tail {n : Nat} {far : List Int} {c : Nat} {q : List Nat} (h : Sound n far (c :: q)) : Sound n far q := ⟨h.len, fun x hx => h.mem x (List.mem_cons_of_mem _ hx), h.low, h.high⟩
theorem inner_ok {n : Nat} {c : Nat} (hc : c < n) : ∀ (adj : List Nat) (far : List Int) (q : List Nat), (∀ b ∈ adj, b < n) → Sound n far q → Sound n (inner c adj (far, q)).1 (inner c adj (far, q)).2 ∧ 2 * neg (inner c adj (far, q)).1 + (inner c adj (far, q)).2.length ≤ 2 * neg far + q.length
  | [], far, q, _, h => ⟨h, Nat.le_refl _⟩
  | b :: r, far, q, ha, h => by
    have ha' : ∀ x ∈ r, x < n := fun x hx => ha x (List.mem_cons_of_mem _ hx)
    simp only [inner]
    split
    · rename_i hneg
      obtain ⟨h1, h2⟩ := h.push (ha b List.mem_cons_self) hc hneg
      obtain ⟨h3, h4⟩ := inner_ok hc r _ _ ha' h1
      refine ⟨h3, ?_⟩
      simp only [List.length_append, List.length_singleton] at h4
      omega
    · exact inner_ok hc r far q ha' h
theorem bfs_nil (adj : Nat → List Nat) (k : Nat) (far : List Int) : bfs adj k far [] = far := by cases k <;> rfl
/-- More fuel than wanted changes nothing. -/
theorem bfs_more {n : Nat} {adj : Nat → List Nat} (ha : ∀ c, c < n → ∀ b ∈ adj c, b < n) : ∀ (k m : Nat) (far : List Int) (q : List Nat), Sound n far q → 2 * neg far + q.length ≤ k → k ≤ m → bfs adj m far q = bfs adj k far q := by
  intro k
  induction k with
  | zero =>
    intro m far q h hk hm
    have : q = [] := List.eq_nil_of_length_eq_zero (by omega)
    subst this
    rw [bfs_nil, bfs_nil]
  | succ k ih =>
    intro m far q h hk hm
    cases q with
    | nil => rw [bfs_nil, bfs_nil]
    | cons c q =>
      obtain ⟨m, rfl⟩ : ∃ m', m = m' + 1 := ⟨m - 1, by omega⟩
      have hc := h.mem c List.mem_cons_self
      obtain ⟨h1, h2⟩ := inner_ok hc (adj c) far q (ha c hc) h.tail
      simp only [List.length_cons] at hk
      simp only [bfs]
      exact ih m _ _ h1 (by omega) (by omega)
/-- All are far, but one. -/
def far0 (n a : Nat) : List Int := (List.replicate n (-1)).set a 0
theorem far0_sound {n a : Nat} (ha : a < n) : Sound n (far0 n a) [a] ∧ neg (far0 n a) + 1 = n := by
  have h0 : neg (List.replicate n (-1)) = n := by simp [neg, List.countP_replicate]
  have h1 : (List.replicate n (-1 : Int)).getD a 0 = -1 := by simp [List.getD_eq_getElem?_getD, List.getElem?_replicate, ha]
  have h2 := neg_set (far := List.replicate n (-1)) (b := a) (v := 0) (by simpa using ha) (by rw [h1]; omega) (by omega)
  rw [h0] at h2
  refine ⟨⟨by simp [far0], fun c hc => by simp at hc; omega, fun i hi => ?_, fun i hi => ?_⟩, h2⟩
  · unfold far0
    rw [getD_set' (by simpa using ha)]
    split
    · omega
    · simp [List.getD_eq_getElem?_getD, List.getElem?_replicate, hi]
  · have h2' : neg (far0 n a) + 1 = n := h2
    unfold far0 at h2' ⊢
    rw [getD_set' (by simpa using ha)]
    split
    · omega
    · have : (List.replicate n (-1 : Int)).getD i 0 = -1 := by simp [List.getD_eq_getElem?_getD, List.getElem?_replicate, hi]
      omega
end Go.Proofs.YtmllhogaiahphaaDoor

/- Kinds: numbered by first occurrence. Plain. -/
set_option linter.unusedSimpArgs false
set_option linter.unusedVariables false
namespace Go.Proofs.YtmllhogaiahphaaDoor

/-- Different numbers below m: at most m. -/
theorem nodup_lt : ∀ (m : Nat) (l : List Nat), l.Nodup → (∀ x ∈ l, x < m) → l.length ≤ m := by
  intro m
  induction m with
  | zero =>
    intro l _ h
    cases l with
    | nil => exact Nat.le_refl _
    | cons x r => have := h x (by simp); omega
  | succ m ih =>
    intro l hn h
    by_cases hm : m ∈ l
    · have h1 := ih (l.erase m) (hn.erase m) (fun x hx => by
        have h2 := (hn.mem_erase_iff).1 hx
        have := h x h2.2
        have := h2.1
        omega)
      rw [List.length_erase_of_mem hm] at h1
      omega
    · have h1 := ih l hn (fun x hx => by
        have := h x hx
        have : x ≠ m := fun e => hm (e ▸ hx)
        omega)
      omega

section
variable {α : Type} [DecidableEq α] {β : Type} [DecidableEq β]

/-- The place of y's like among fs, or their number. -/
def plc (r : Nat → α) (fs : List Nat) (y : Nat) : Nat := fs.findIdx fun f => decide (r f = r y)
/-- Kinds and firsts of the first n. -/
def knd (r : Nat → α) : Nat → List Nat × List Nat
  | 0 => ([], [])
  | n + 1 => ((knd r n).1 ++ [plc r (knd r n).2 n], if plc r (knd r n).2 n = (knd r n).2.length then (knd r n).2 ++ [n] else (knd r n).2)
theorem knd_len (r : Nat → α) (n : Nat) : (knd r n).1.length = n := by
  induction n with
  | zero => rfl
  | succ n ih => simp [knd, ih]
theorem knd_le (r : Nat → α) (n : Nat) : (knd r n).2.length ≤ n := by
  induction n with
  | zero => exact Nat.le_refl _
  | succ n ih =>
    simp only [knd]
    split
    · simp only [List.length_append, List.length_singleton]; omega
    · omega
theorem knd_first (r : Nat → α) (n : Nat) : ∀ f ∈ (knd r n).2, f < n := by
  induction n with
  | zero => intro f hf; simp [knd] at hf
  | succ n ih =>
    intro f hf
    simp only [knd] at hf
    split at hf
    · rcases List.mem_append.1 hf with h | h
      · have := ih f h; omega
      · simp at h; omega
    · have := ih f hf; omega
theorem plc_le (r : Nat → α) (fs : List Nat) (y : Nat) : plc r fs y ≤ fs.length := List.findIdx_le_length
theorem plc_eq (r : Nat → α) {fs : List Nat} {y k : Nat} (hk : k ≤ fs.length) (h1 : ∀ j, j < k → r (fs.getD j 0) ≠ r y) (h2 : k < fs.length → r (fs.getD k 0) = r y) : plc r fs y = k := by
  unfold plc
  rcases Nat.lt_or_ge k fs.length with hlt | hge
  · rw [List.findIdx_eq hlt]
    refine ⟨by have := h2 hlt; simp [List.getD_eq_getElem?_getD, hlt] at this; simp [this], fun j hj => ?_⟩
    have := h1 j hj
    simp [List.getD_eq_getElem?_getD, show j < fs.length by omega] at this
    simpa using this
  · obtain rfl : k = fs.length := by omega
    rw [List.findIdx_eq_length]
    intro x hx
    obtain ⟨j, hj, rfl⟩ := List.getElem_of_mem hx
    have := h1 j hj
    simp [List.getD_eq_getElem?_getD, hj] at this
    simpa using this
theorem plc_at (r : Nat → α) {fs : List Nat} {y : Nat} (h : plc r fs y < fs.length) : r (fs.getD (plc r fs y) 0) = r y := by
  unfold plc at h ⊢
  have h1 := List.findIdx_getElem (w := h)
  simpa [List.getD_eq_getElem?_getD, h] using h1
theorem plc_ne (r : Nat → α) {fs : List Nat} {y j : Nat} (hj : j < plc r fs y) : r (fs.getD j 0) ≠ r y := by
  have hl := plc_le r fs y
  unfold plc at hj
  have h1 := List.not_of_lt_findIdx hj
  have h2 : j < fs.length := by unfold plc at hl; omega
  simpa [List.getD_eq_getElem?_getD, h2] using h1

theorem getD_app {γ : Type} (l m : List γ) (j : Nat) (d : γ) : (l ++ m).getD j d = if j < l.length then l.getD j d else m.getD (j - l.length) d := by
  split
  · rename_i h; simp [List.getD_eq_getElem?_getD, List.getElem?_append_left h]
  · rename_i h
    have h' : l.length ≤ j := by omega
    simp [List.getD_eq_getElem?_getD, List.getElem?_append_right h']

/-- Each has the kind whose first is like it. -/
theorem knd_like (r : Nat → α) (n : Nat) : ∀ y, y < n → (knd r n).1.getD y 0 < (knd r n).2.length ∧ r ((knd r n).2.getD ((knd r n).1.getD y 0) 0) = r y := by
  induction n with
  | zero => intro y hy; omega
  | succ n ih =>
    intro y hy
    have hl := knd_len r n
    have hp := plc_le r (knd r n).2 n
    simp only [knd]
    rw [getD_app, hl]
    by_cases hyn : y < n
    · rw [if_pos hyn]
      obtain ⟨h1, h2⟩ := ih y hyn
      split
      · rw [getD_app, if_pos h1]
        exact ⟨by simp only [List.length_append, List.length_singleton]; omega, h2⟩
      · exact ⟨h1, h2⟩
    · obtain rfl : y = n := by omega
      rw [if_neg hyn, Nat.sub_self]
      simp only [List.getD_cons_zero]
      split
      · rename_i he
        rw [getD_app, if_neg (by omega), he, Nat.sub_self]
        exact ⟨by simp, rfl⟩
      · rename_i he
        exact ⟨by omega, plc_at r (by omega)⟩

/-- Firsts are not alike. -/
theorem knd_diff (r : Nat → α) (n : Nat) : ∀ i j, i < j → j < (knd r n).2.length → r ((knd r n).2.getD i 0) ≠ r ((knd r n).2.getD j 0) := by
  induction n with
  | zero => intro i j _ hj; simp [knd] at hj
  | succ n ih =>
    intro i j hij hj
    simp only [knd] at hj ⊢
    split at hj
    · rename_i he
      rw [if_pos he]
      simp only [List.length_append, List.length_singleton] at hj
      rw [getD_app, getD_app, if_pos (by omega)]
      by_cases hjl : j < (knd r n).2.length
      · rw [if_pos hjl]; exact ih i j hij hjl
      · rw [if_neg hjl]
        obtain rfl : j = (knd r n).2.length := by omega
        rw [Nat.sub_self]
        simp only [List.getD_cons_zero]
        exact plc_ne r (by omega)
    · rename_i he
      rw [if_neg he]
      exact ih i j hij hj

end
end Go.Proofs.YtmllhogaiahphaaDoor

/- The kinds of rows. -/
set_option linter.unusedSimpArgs false
set_option linter.unusedVariables false
set_option maxRecDepth 100000
namespace Go.Proofs.YtmllhogaiahphaaDoor
open Go Go.Proofs Go.AW

/-- A row. -/
def rowN (W : Nat) (l : List Bool) (y : Nat) : List Bool := (List.range W).map fun x => l.getD (W * y + x) false
theorem rowN_eq {W : Nat} {l : List Bool} {a b : Nat} : rowN W l a = rowN W l b ↔ ∀ x, x < W → l.getD (W * a + x) false = l.getD (W * b + x) false := by
  constructor
  · intro h x hx
    have := congrArg (fun r : List Bool => r.getD x false) h
    simpa [rowN, List.getD_eq_getElem?_getD, List.getElem?_range hx] using this
  · intro h
    apply List.map_congr_left
    intro x hx
    exact h x (by simpa using hx)

end Go.Proofs.YtmllhogaiahphaaDoor

/- The kinds of rows, by the reference. -/
set_option linter.unusedSimpArgs false
set_option linter.unusedVariables false
set_option maxRecDepth 100000
namespace Go.Proofs.YtmllhogaiahphaaDoor
open Go Go.Proofs Go.AW

def nI (l : List Nat) : List Int := l.map fun n : Nat => (n : Int)
theorem nI_len (l : List Nat) : (nI l).length = l.length := by simp [nI]
theorem nI_app (l : List Nat) (n : Nat) : nI (l ++ [n]) = nI l ++ [(n : Int)] := by simp [nI]
theorem nI_get (l : List Nat) (k : Nat) : (nI l).getD k 0 = ((l.getD k 0 : Nat) : Int) := by
  simp only [nI, List.getD_eq_getElem?_getD, List.getElem?_map]
  cases l[k]? <;> rfl
end Go.Proofs.YtmllhogaiahphaaDoor

/- The search, by the reference. -/
set_option linter.unusedSimpArgs false
set_option linter.unusedVariables false
set_option maxRecDepth 100000
namespace Go.Proofs.YtmllhogaiahphaaDoor
open Go Go.Proofs Go.AW

def srch (adj : Nat → List Nat) (far : List Int) (q : List Nat) : List Int := bfs adj (2 * neg far + q.length) far q
theorem srch_nil (adj : Nat → List Nat) (far : List Int) : srch adj far [] = far := bfs_nil _ _ _
theorem srch_step {n : Nat} {adj : Nat → List Nat} (ha : ∀ c, c < n → ∀ b ∈ adj c, b < n) {far : List Int} {c : Nat} {q : List Nat} (h : Sound n far (c :: q)) : srch adj far (c :: q) = srch adj (inner c (adj c) (far, q)).1 (inner c (adj c) (far, q)).2 := by
  have hc := h.mem c List.mem_cons_self
  obtain ⟨h1, h2⟩ := inner_ok hc (adj c) far q (ha c hc) h.tail
  unfold srch
  rw [show 2 * neg far + (c :: q).length = (2 * neg far + q.length) + 1 by simp only [List.length_cons]; omega]
  show bfs adj _ _ _ = _
  exact bfs_more ha _ _ _ _ h1 (Nat.le_refl _) h2
def adjT (W n : Nat) (l : List Bool) (c : Nat) : List Nat := (List.range n).filter fun b => ov W l b c
theorem adjT_lt {W n : Nat} {l : List Bool} {c b : Nat} (h : b ∈ adjT W n l c) : b < n := by
  simp only [adjT, List.mem_filter, List.mem_range] at h; exact h.1

end Go.Proofs.YtmllhogaiahphaaDoor

/- A product of small numbers, by the run of closed code. -/
set_option linter.unusedSimpArgs false
set_option linter.unusedVariables false
set_option maxRecDepth 100000
namespace Go.Proofs.YtmllhogaiahphaaDoor
open Go Go.Proofs Go.AW

noncomputable def mulOk (n : Nat) : Bool := match xCall Tryd.prog xT 100 48 [.val (.int .u64 1), .val (.int .u64 n)] with
  | some (.tuple [.val (.int .u64 a), .val (.int .u64 b)]) => a == 0 && b == (n : Int)
  | _ => false
theorem mul_all : (List.range 65).all mulOk = true := by kernel_rfl
theorem mul_c {n : Nat} (hn : n ≤ 64) : Contract Tryd.prog 48 [.val (.int .u64 1), .val (.int .u64 n)] (.tuple [.val (.int .u64 0), .val (.int .u64 n)]) := by
  have h := List.all_eq_true.1 mul_all n (by simp; omega)
  unfold mulOk at h
  split at h
  · rename_i a b hx
    simp only [Bool.and_eq_true, beq_iff_eq] at h
    obtain ⟨rfl, rfl⟩ := h
    exact Contract.run xGood 100 hx
  · cases h
end Go.Proofs.YtmllhogaiahphaaDoor

/- A number, repeated; the inverse of a numbering. -/
set_option linter.unusedSimpArgs false
set_option linter.unusedVariables false
set_option maxRecDepth 100000
namespace Go.Proofs.YtmllhogaiahphaaDoor
open Go Go.Proofs Go.AW

/-- k times -1, and 0 behind. -/
def rep (n k : Nat) : List Int := List.replicate k (-1) ++ List.replicate (n - k) 0
theorem rep_len {n k : Nat} (hk : k ≤ n) : (rep n k).length = n := by simp [rep]; omega
theorem rep_more {n k : Nat} (hk : 0 < k) (hn : k < n) : over (rep n k) k ((rep n k).take (Nat.min k (n - k))) = rep n (k + Nat.min k (n - k)) := by
  have hm : Nat.min k (n - k) ≤ k := Nat.min_le_left _ _
  have hm2 : Nat.min k (n - k) ≤ n - k := Nat.min_le_right _ _
  generalize Nat.min k (n - k) = m at *
  have e1 : (rep n k).take m = List.replicate m (-1) := by
    rw [rep, List.take_append_of_le_length (by simp; omega), List.take_replicate, Nat.min_eq_left hm]
  have e2 : (rep n k).take k = List.replicate k (-1) := by rw [rep, List.take_left' (by simp)]
  have e3 : (rep n k).drop (k + m) = List.replicate (n - (k + m)) 0 := by
    rw [rep, List.drop_append, List.drop_eq_nil_of_le (by simp), List.nil_append, List.drop_replicate]
    congr 1
    simp; omega
  rw [over, e1, e2, List.length_replicate, e3, rep, List.replicate_append_replicate]

theorem ki3 : ∃ T, tyI Tryd.prog 3 = some T ∧ T.kind = some .i64 := by
  have h : (tyI Tryd.prog 3).any (fun T => T.kind == some .i64) = true := by kernel_rfl
  revert h
  cases tyI Tryd.prog 3 with
  | none => intro h; cases h
  | some T => intro h; exact ⟨T, rfl, by simpa using h⟩
theorem ki99 : ∃ T, tyI Tryd.prog 80 = some T ∧ T.kind = some .u64 := by
  have h : (tyI Tryd.prog 80).any (fun T => T.kind == some .u64) = true := by kernel_rfl
  revert h
  cases tyI Tryd.prog 80 with
  | none => intro h; cases h
  | some T => intro h; exact ⟨T, rfl, by simpa using h⟩
theorem wrap_u64 {n : Int} (h1 : 0 ≤ n) (h2 : n ≤ 9223372036854775807) : IntKind.u64.wrap n = n := by
  have e1 : IntKind.u64.bits = 64 := rfl
  have e2 : IntKind.u64.signed = false := rfl
  simp only [IntKind.wrap, e1, e2]
  simp
  omega

theorem repeat_s (h0 : List AObj) {n : Nat} (hn0 : 0 < n) (hn : n ≤ 64) : SpecTo Tryd.prog 38 [.lit 1 [I (-1)], I n] h0 (.ref h0.length 0 n n) (h0 ++ [⟨3, 1, ints (List.replicate n (-1))⟩]) := by
  obtain ⟨T3, hT3, hk3⟩ := ki3
  obtain ⟨T9, hT9, hk9⟩ := ki99
  refine SpecTo.intro (effS [] false) follows Tryd.func38 rfl rfl (by kernel_rfl) (Nat.le_of_ble_eq_true rfl) ?_
  simp (disch := first | assumption | omega | rfl | simp only [RH]) only [↓RP, RG, FX, RQ, ↓reduceIte, Nat.reduceEqDiff, reduceCtorEq, Nat.reduceBEq, Nat.reduceAdd, Nat.reduceLeDiff, args0_2, hT3, hT9, hk3, hk9, wrap_u64, wrap_id]
  refine callK_F 6 (mul_c (n := n) (by omega)) (by simp (disch := first | assumption | omega | rfl | simp only [RH]) only [↓RP, RG, FX, RQ, ↓reduceIte, Nat.reduceEqDiff, reduceCtorEq, Nat.reduceBEq, Nat.reduceAdd, Nat.reduceLeDiff, RA] <;> rfl) (.inl (by simp [allFresh, ints_fresh, bools_fresh])) ?_
  simp (disch := first | assumption | omega | rfl | simp only [RH]) only [↓RP, RG, FX, RQ, ↓reduceIte, Nat.reduceEqDiff, reduceCtorEq, Nat.reduceBEq, Nat.reduceAdd, Nat.reduceLeDiff, hT3, hT9, hk3, hk9, wrap_u64, wrap_id]
  simp (disch := first | assumption | omega | rfl | simp only [RH]) only [↓RP, RG, FX, RQ, ↓reduceIte, Nat.reduceEqDiff, reduceCtorEq, Nat.reduceBEq, Nat.reduceAdd, Nat.reduceLeDiff, make_int, Int.toNat_natCast]
  have hc : ∀ h : List AObj, h[h0.length]? = some ⟨3, 1, ints (List.replicate n 0)⟩ → aCopy Tryd.prog 35 h (.ref h0.length 0 n n) (.lit 1 [I (-1)]) = some (I 1, h.set h0.length ⟨3, 1, ints (rep n 1)⟩) := by
    intro h hh
    have e1 : Nat.min 1 n = 1 := by have := Nat.min_eq_left (show 1 ≤ n by omega); exact this
    have := copy_ints_at (P := Tryd.prog) (t := 35) (h := h) (off := 0) (n := n) (ext := n) (m := 1) (x := .lit 1 [I (-1)]) (l := [-1]) hh (by decide) (by simp) rfl (by simp) (by rw [e1]; decide) (by rw [e1]; omega)
    rw [this, e1]
    simp [over, rep, List.drop_replicate]
  simp (disch := simp) only [↓RP, RG, FX, RQ, ↓reduceIte, Nat.reduceEqDiff, reduceCtorEq, Nat.reduceBEq, Nat.reduceAdd, Nat.reduceLeDiff, opK_copy, hc, List.set_append_right, Nat.sub_self, List.set_cons_zero, Nat.le_refl]
  have hq : ∀ (h : List AObj) (k : Nat), h[h0.length]? = some ⟨3, 1, ints (rep n k)⟩ → 0 < k → k < n → aCopy Tryd.prog 35 h (.ref h0.length k (n - k) n) (.ref h0.length 0 k n) = some (I (Nat.min k (n - k) : Nat), h.set h0.length ⟨3, 1, ints (rep n (k + Nat.min k (n - k)))⟩) := by
    intro h k hh h1 h2
    have e1 : Nat.min k (n - k) ≤ n - k := Nat.min_le_right _ _
    have e2 : 0 < Nat.min k (n - k) := by have : Nat.min k (n - k) = min k (n - k) := rfl; omega
    have hl := rep_len (n := n) (k := k) (by omega)
    have := copy_ints_at (P := Tryd.prog) (t := 35) (h := h) (id := h0.length) (off := k) (n := n - k) (ext := n) (m := k) (x := .ref h0.length 0 k n) (l := rep n k) hh (by decide) hl (by simp [sview, cellsAt, hh, hl, ints_length]) (by omega) (by omega) (by omega)
    rw [this, rep_more h1 h2]
  refine loopK_I [7, 8] (fun k : Nat => 0 < k ∧ k ≤ n) (fun k => ⟨[(7, .ref h0.length 0 n n), (8, I k)], h0 ++ [⟨3, 1, ints (rep n k)⟩]⟩) (fun k => n - k) 1 (by omega) (by simp only [↓RP, RG, FX, RQ, ↓reduceIte, Nat.reduceEqDiff, reduceCtorEq, Nat.reduceBEq, Nat.reduceAdd, Nat.reduceLeDiff]; rfl) ?_
  intro k ⟨hk0, hk⟩
  have hl := rep_len (n := n) (k := k) (by omega)
  by_cases hlt : k < n
  · have e1 : Nat.min k (n - k) ≤ n - k := Nat.min_le_right _ _
    have e2 : 0 < Nat.min k (n - k) := by have : Nat.min k (n - k) = min k (n - k) := rfl; omega
    simp (disch := first | omega | simp) only [↓RP, RG, FX, RQ, ↓reduceIte, Nat.reduceEqDiff, reduceCtorEq, Nat.reduceBEq, Nat.reduceAdd, Nat.reduceLeDiff, opK_copy, hq, sl_ref_lo, sl_ref_hi, List.set_append_right, Nat.sub_self, List.set_cons_zero, Nat.le_refl]
    exact ⟨k + Nat.min k (n - k), ⟨by omega, by omega⟩, by simp, by omega⟩
  · obtain rfl : k = n := by omega
    simp (disch := first | assumption | omega | rfl | simp only [RH]) only [↓RP, RG, FX, RQ, ↓reduceIte, Nat.reduceEqDiff, reduceCtorEq, Nat.reduceBEq, Nat.reduceAdd, Nat.reduceLeDiff]
    refine ⟨_, rfl, ?_⟩
    rw [show rep k k = List.replicate k (-1) by simp [rep]]
    exact Wk.of_eq rfl
end Go.Proofs.YtmllhogaiahphaaDoor

/- The search, by the program: what it does with its queue. -/
set_option linter.unusedSimpArgs false
set_option linter.unusedVariables false
set_option maxRecDepth 100000
namespace Go.Proofs.YtmllhogaiahphaaDoor
open Go Go.Proofs Go.AW

theorem cutB_some (r : AVal × List AObj) (s : Option AVal) (h : List AObj) (K : AVal → List AObj → Prop) : @cutB (some r) s h ⟨K⟩ = K r.1 r.2 := _root_.id rfl
theorem aCut_lit {P : Program} {t e nb : Nat} {z : Value} [S : SlT P t e nb z] {h : List AObj} {m : Nat} {l : List Int} (hl : l.length = m) (hm : 0 < m) : aCut P t h (.lit m (ints l)) (some (I 1)) (some (I m)) (some (I m)) = some (.lit (m - 1) (ints (l.drop 1)), h) := by
  obtain ⟨⟨T, hT, hTe⟩, E, hE, g1, g2, g3, g4⟩ := S
  simp only [aCut, hT, hTe, hE, sview_lit, optInt]
  rw [if_pos ⟨by omega, by omega, by first | trivial | rfl, by omega, by omega, g1⟩]
  have e1 : ((m : Int) - 1).toNat = m - 1 := by omega
  have e2 : ((ints l).drop 1).take (m - 1) = ints (l.drop 1) := by
    rw [List.take_of_length_le (by rw [List.length_drop, ints_length]; omega)]
    simp [ints, List.map_drop]
  rw [e1]
  simp only [show (1 : Int).toNat = 1 from rfl, e2]
theorem aCut_ref {P : Program} {t e nb : Nat} {z : Value} [S : SlT P t e nb z] {h : List AObj} {id m ty : Nat} {l : List Int} (ho : h[id]? = some ⟨ty, 1, ints l⟩) (hz : ty ≠ FZ) (hl : l.length = m) (hm : 0 < m) : aCut P t h (.ref id 0 m m) (some (I 1)) (some (I m)) (some (I m)) = some (.lit (m - 1) (ints (l.drop 1)), h.set id ⟨FZ, 1, ints l⟩) := by
  obtain ⟨⟨T, hT, hTe⟩, E, hE, g1, g2, g3, g4⟩ := S
  have hli : (ints l).length = m := by rw [ints_length, hl]
  have hsv : sview h (.ref id 0 m m) = some (m, ints l) := by simp [sview, cellsAt, ho, hli]
  simp only [aCut, hT, hTe, hE, hsv, optInt, ho]
  rw [if_pos ⟨by omega, by omega, by first | trivial | rfl, by omega, by omega, g1⟩, if_pos ⟨hz, hli⟩]
  have e1 : ((m : Int) - 1).toNat = m - 1 := by omega
  have e2 : ((ints l).drop 1).take (m - 1) = ints (l.drop 1) := by
    rw [List.take_of_length_le (by rw [List.length_drop, ints_length]; omega)]
    simp [ints, List.map_drop]
  rw [e1]
  simp only [show (1 : Int).toNat = 1 from rfl, Nat.zero_add, e2]
theorem append_litG {P : Program} {t e : Nat} {z : Value} [S : SlT P t e 8 z] {h : List AObj} {m : Nat} {l : List Int} {x : Int} (hl : l.length = m) (hm : m ≤ 1000000) : aAppend P t h (.lit m (ints l)) (.lit 1 [.val (.int .i64 x)]) = some (.ref h.length 0 (m + 1) (m + 1), h ++ [⟨e, 1, ints (l ++ [x])⟩]) := by
  obtain ⟨⟨T, hT, hTe⟩, E, hE, g1, g2, g3, g4⟩ := S
  have hz : E.zero.length = 1 := by rw [g4]; rfl
  have hli : (ints l).length = m := by rw [ints_length, hl]
  simp only [aAppend, hT, hTe, hE, sview_lit, g1, Nat.mul_one]
  rw [if_pos ⟨by simp, by simp [AVal.one, Value.oneCell'], by omega, hz⟩, if_neg (by omega), if_pos ⟨hli, by rw [g3]; omega, by omega⟩, ← ints_append l [x]]
  rfl

/-- Rows that are handed over. -/
def LLa (rs : List (List Int)) : List AVal := rs.map fun r => LA r.isEmpty r
theorem LLa_len (rs : List (List Int)) : (LLa rs).length = rs.length := by simp [LLa]
theorem LLa_at {rs : List (List Int)} {a : Nat} (ha : a < rs.length) : ((LLa rs).drop a)[0]? = some (LA (rs.getD a []).isEmpty (rs.getD a [])) := by
  rw [List.getElem?_drop, Nat.add_zero, LLa, List.getElem?_map, List.getElem?_eq_getElem ha, List.getD_eq_getElem?_getD, List.getElem?_eq_getElem ha]; rfl
theorem abv_adj {W n : Nat} {l : List Bool} {c : Nat} (hc : c < n) : (abv W n l).getD c [] = nI (adjT W n l c) := by rw [abv_get hc]; rfl
end Go.Proofs.YtmllhogaiahphaaDoor

/- The search, by the program. -/
set_option linter.unusedSimpArgs false
set_option linter.unusedVariables false
set_option maxRecDepth 100000
namespace Go.Proofs.YtmllhogaiahphaaDoor
open Go Go.Proofs Go.AW

/-- The queue: a literal, or a row of its own behind the distances. -/
def qw (p : Bool) (q : List Nat) : AVal := if p then .ref 1 0 q.length q.length else .lit q.length (ints (nI q))
def qk (p : Bool) (q : List Nat) : List AObj := if p then [⟨3, 1, ints (nI q)⟩] else []
theorem ren_litE (f : Nat → Option Nat) (n k : Nat) (cs : List AVal) : ren f (n + 1) (.lit k cs) = .lit k (cs.map (ren f n)) := rfl
theorem ren_LLa (f : Nat → Option Nat) (n : Nat) (rs : List (List Int)) : (LLa rs).map (ren f (n + 2)) = LLa rs := by
  simp only [LLa, List.map_map]
  refine List.map_congr_left fun r _ => ?_
  show ren f (n + 2) (LA r.isEmpty r) = LA r.isEmpty r
  simp only [LA, ren_list, map_ren_ints]

set_option maxHeartbeats 4000000 in
theorem reached_c {W n : Nat} (hn : n ≤ 64) (l : List Bool) {a : Nat} (ha : a < n) :
    Contract Tryd.prog 31 [.list false false n (LLa (abv W n l)), I a] (LR false (srch (adjT W n l) (far0 n a) [a])) := by
  have hlb := LLa_len (abv W n l)
  have hab : (abv W n l).length = n := by simp [abv]
  have hre : ∀ (f : Nat → Option Nat) (k : Nat), (LLa (abv W n l)).map (ren f (k + 2)) = LLa (abv W n l) := fun f k => ren_LLa f k _
  have hat : ∀ c, c < n → ((LLa (abv W n l)).drop c)[0]? = some (LA (nI (adjT W n l c)).isEmpty (nI (adjT W n l c))) := by
    intro c hc
    rw [LLa_at (rs := abv W n l) (by omega), abv_adj hc]
  generalize LLa (abv W n l) = lb at *
  refine Contract.intro (effS [] false) 6 follows Tryd.func31 rfl rfl (by kernel_rfl) (Nat.le_of_ble_eq_true rfl) ?_
  simp (disch := first | assumption | omega | rfl | simp only [RH]) only [↓RP, RG, FX, RQ, ↓reduceIte, Nat.reduceEqDiff, reduceCtorEq, Nat.reduceBEq, Nat.reduceAdd, Nat.reduceLeDiff, args0_2]
  refine callK_T rfl (repeat_s _ (by omega) hn) ?_
  have hkr : (List.replicate n (-1 : Int)).length = n := by simp
  have hf0 : (List.replicate n (-1 : Int)).set a 0 = far0 n a := rfl
  obtain ⟨z1, z2⟩ := far0_sound ha
  simp (disch := first | assumption | omega | rfl | simp only [RH]) only [↓RP, RG, FX, RQ, ↓reduceIte, Nat.reduceEqDiff, reduceCtorEq, Nat.reduceBEq, Nat.reduceAdd, Nat.reduceLeDiff, hf0]
  refine loopK_I [0, 5, 6] (fun s : List Int × List Nat × Bool => Sound n s.1 s.2.1 ∧ s.2.1.length + neg s.1 ≤ n ∧ srch (adjT W n l) s.1 s.2.1 = srch (adjT W n l) (far0 n a) [a])
    (fun s => ⟨[(0, .list false false n lb), (5, .ref 0 0 n n), (6, qw s.2.2 s.2.1)], ⟨3, 1, ints s.1⟩ :: qk s.2.2 s.2.1⟩) (fun s => 2 * neg s.1 + s.2.1.length) (far0 n a, [a], false) ⟨z1, by simp only [List.length_singleton]; omega, rfl⟩ (by simp only [↓RP, RG, FX, RQ, ↓reduceIte, Nat.reduceEqDiff, reduceCtorEq, Nat.reduceBEq, Nat.reduceAdd, Nat.reduceLeDiff]; rfl) ?_
  rintro ⟨far, q, p⟩ ⟨h1, h2, h3⟩
  simp only at h1 h2 h3 ⊢
  have hfl := h1.len
  have hqn := nI_len q
  cases q with
  | nil =>
    rw [srch_nil] at h3
    have hfp : 0 < far.length := by omega
    have hz : ([] : List Nat).length = 0 := rfl
    rw [← h3]
    cases p
    · simp (disch := first | assumption | omega | rfl | simp only [RH]) only [↓RP, RG, FX, RQ, ↓reduceIte, Nat.reduceEqDiff, reduceCtorEq, Nat.reduceBEq, Nat.reduceAdd, Nat.reduceLeDiff, qw, qk, hz]
      rw [resVal_1 rfl]; simp (disch := first | assumption | omega | rfl | simp only [RH]) only [↓RP, RG, FX, RQ, ↓reduceIte, Nat.reduceEqDiff, reduceCtorEq, Nat.reduceBEq, Nat.reduceAdd, Nat.reduceLeDiff, RS]
    · simp (disch := first | assumption | omega | rfl | simp only [RH]) only [↓RP, RG, FX, RQ, ↓reduceIte, Nat.reduceEqDiff, reduceCtorEq, Nat.reduceBEq, Nat.reduceAdd, Nat.reduceLeDiff, qw, qk, hz]
      rw [resVal_1 rfl]; simp (disch := first | assumption | omega | rfl | simp only [RH]) only [↓RP, RG, FX, RQ, ↓reduceIte, Nat.reduceEqDiff, reduceCtorEq, Nat.reduceBEq, Nat.reduceAdd, Nat.reduceLeDiff, RS]
  | cons c r =>
    have hst := srch_step (adj := adjT W n l) (fun c hc x hx => adjT_lt hx) h1
    have hc := h1.mem _ List.mem_cons_self
    have hin := inner_ok hc (adjT W n l c) far r (fun x hx => adjT_lt hx) h1.tail
    have hatc := hat c hc
    have hg0 : (nI (c :: r)).getD (Int.toNat 0) 0 = (c : Int) := rfl
    have hpos : 0 < (c :: r).length := by simp
    have hd1 : (nI (c :: r)).drop 1 = nI r := rfl
    have hm1 : (c :: r).length - 1 = r.length := rfl
    have hlen1 : r.length + 1 = (c :: r).length := rfl
    have hql : (ints (nI (c :: r))).length = (c :: r).length := by rw [ints_length, nI_len]
    obtain ⟨A, hA⟩ : ∃ A, adjT W n l c = A := ⟨_, rfl⟩
    have hAn : ∀ x ∈ A, x < n := by rw [← hA]; exact fun x hx => adjT_lt hx
    rw [hA] at hst hin hatc
    have hAl := nI_len A
    have hAs : A.length ≤ n := by rw [← hA]; simp only [adjT]; exact Nat.le_trans (List.length_filter_le _ _) (by simp)
    generalize hqq : c :: r = qq at *
    have hcut := @aCut_ref Tryd.prog 35 _ _ _ _ [⟨3, 1, ints far⟩, ⟨3, 1, ints (nI qq)⟩] 1 qq.length 3 (nI qq) rfl (by decide) hqn hpos
    have hcul : ∀ h : List AObj, aCut Tryd.prog 35 h (.lit qq.length (ints (nI qq))) (some (I 1)) (some (I qq.length)) (some (I qq.length)) = some (.lit (qq.length - 1) (ints ((nI qq).drop 1)), h) := fun h => aCut_lit hqn hpos
    rw [hm1, hd1] at hcut
    rw [hm1, hd1] at hcul
    have h1t : Sound n far r := by rw [← hqq] at h1; exact h1.tail
    have e3 : srch (adjT W n l) (inner c A (far, r)).1 (inner c A (far, r)).2 = srch (adjT W n l) (far0 n a) [a] := by rw [← hst]; exact h3
    cases p
    · simp (disch := first | assumption | omega | rfl | simp only [RH]) only [↓RP, RG, FX, RQ, ↓reduceIte, Nat.reduceEqDiff, reduceCtorEq, Nat.reduceBEq, Nat.reduceAdd, Nat.reduceLeDiff, qw, qk, hql, hg0, cutB_some, hcul, hatc]
      refine loopK_W [0, 5, 6, 7, 34, 35, 36] (fun s : Nat × List Int × List Nat × Bool => s.1 ≤ A.length ∧ Sound n s.2.1 s.2.2.1 ∧ s.2.2.1.length + neg s.2.1 ≤ n ∧ inner c (A.drop s.1) (s.2.1, s.2.2.1) = inner c A (far, r))
        (fun s => ⟨[(0, .list false false n lb), (5, .ref 0 0 n n), (6, qw s.2.2.2 s.2.2.1), (7, I c), (34, LA (nI A).isEmpty (nI A)), (35, I (nI A).length), (36, I s.1)], ⟨3, 1, ints s.2.1⟩ :: qk s.2.2.2 s.2.2.1⟩) (fun s => A.length - s.1) (0, far, r, false) ⟨by simp only; omega, h1t, by simp only; omega, rfl⟩ (Wk.of_eq (by simp only [↓RP, RG, FX, RQ, ↓reduceIte, Nat.reduceEqDiff, reduceCtorEq, Nat.reduceBEq, Nat.reduceAdd, Nat.reduceLeDiff]; rfl)) ?_
      rintro ⟨j, far', q', p'⟩ ⟨j1, j2, j3, j4⟩
      simp only at j1 j2 j3 j4 ⊢
      have hfl' := j2.len
      have hqn' := nI_len q'
      have hql' : (ints (nI q')).length = q'.length := by rw [ints_length, nI_len]
      by_cases hlt3 : j < A.length
      · obtain ⟨y, hy⟩ : ∃ y, A.getD j 0 = y := ⟨_, rfl⟩
        have hyA : y ∈ A := by rw [← hy, List.getD_eq_getElem?_getD, List.getElem?_eq_getElem hlt3]; exact List.getElem_mem _
        have hyn := hAn y hyA
        have hgi := nI_get A j
        rw [hy] at hgi
        have hAd : A.drop j = y :: A.drop (j + 1) := by
          rw [List.drop_eq_getElem_cons hlt3, ← hy, List.getD_eq_getElem?_getD, List.getElem?_eq_getElem hlt3]; rfl
        have lj := j2.low y hyn
        have lc := j2.low c hc
        have uc := j2.high c hc
        rw [hAd, inner] at j4
        by_cases hneg : far'.getD y 0 < 0
        · rw [if_pos hneg] at j4
          obtain ⟨x1, x2⟩ := j2.push hyn hc hneg
          have hap : ints (nI q') ++ ints [(y : Int)] = ints (nI (q' ++ [y])) := by rw [nI_app, ints_append]
          have qb : q'.length ≤ 1000 := by omega
          cases p'
          · have hapl : ∀ h : List AObj, aAppend Tryd.prog 35 h (.lit q'.length (ints (nI q'))) (.lit 1 [.val (.int .i64 (y : Int))]) = some (.ref h.length 0 (q'.length + 1) (q'.length + 1), h ++ [⟨3, 1, ints (nI q' ++ [(y : Int)])⟩]) := fun h => append_litG hqn' (by omega)
            simp (disch := first | assumption | omega | rfl | simp only [RH]) only [↓RP, RG, FX, RQ, ↓reduceIte, Nat.reduceEqDiff, reduceCtorEq, Nat.reduceBEq, Nat.reduceAdd, Nat.reduceLeDiff, qw, qk, hql', hgi, hapl]
            exact ⟨(j + 1, far'.set y (far'.getD c 0 + 1), q' ++ [y], true), ⟨by simp only; omega, x1, by simp only [List.length_append, List.length_singleton]; omega, j4⟩, by simp only [qw, qk, nI_app, List.length_append, List.length_singleton]; rfl, by simp only; omega⟩
          · simp (disch := first | assumption | omega | rfl | simp only [RH]) only [↓RP, RG, FX, RQ, ↓reduceIte, Nat.reduceEqDiff, reduceCtorEq, Nat.reduceBEq, Nat.reduceAdd, Nat.reduceLeDiff, qw, qk, hql', hgi, append_ref1, apRI_ints]
            exact ⟨(j + 1, far'.set y (far'.getD c 0 + 1), q' ++ [y], true), ⟨by simp only; omega, x1, by simp only [List.length_append, List.length_singleton]; omega, j4⟩, by simp only [qw, qk, nI_app, List.length_append, List.length_singleton]; rfl, by simp only; omega⟩
        · rw [if_neg hneg] at j4
          cases p'
          · simp (disch := first | assumption | omega | rfl | simp only [RH]) only [↓RP, RG, FX, RQ, ↓reduceIte, Nat.reduceEqDiff, reduceCtorEq, Nat.reduceBEq, Nat.reduceAdd, Nat.reduceLeDiff, qw, qk, hql', hgi]
            exact ⟨(j + 1, far', q', false), ⟨by simp only; omega, j2, j3, j4⟩, rfl, by simp only; omega⟩
          · simp (disch := first | assumption | omega | rfl | simp only [RH]) only [↓RP, RG, FX, RQ, ↓reduceIte, Nat.reduceEqDiff, reduceCtorEq, Nat.reduceBEq, Nat.reduceAdd, Nat.reduceLeDiff, qw, qk, hql', hgi]
            exact ⟨(j + 1, far', q', true), ⟨by simp only; omega, j2, j3, j4⟩, rfl, by simp only; omega⟩
      · obtain rfl : j = A.length := by omega
        rw [List.drop_length, inner] at j4
        have y1 := congrArg Prod.fst j4
        have y2 := congrArg Prod.snd j4
        simp only at y1 y2
        rw [← y1, ← y2] at e3
        have hm := hin.2
        rw [← y1, ← y2] at hm
        cases p'
        · simp (disch := first | assumption | omega | rfl | simp only [RH]) only [↓RP, RG, FX, RQ, ↓reduceIte, Nat.reduceEqDiff, reduceCtorEq, Nat.reduceBEq, Nat.reduceAdd, Nat.reduceLeDiff, qw, qk, hql']
          exact ⟨(far', q', false), ⟨j2, j3, e3⟩, rfl, by simp only; omega⟩
        · simp (disch := first | assumption | omega | rfl | simp only [RH]) only [↓RP, RG, FX, RQ, ↓reduceIte, Nat.reduceEqDiff, reduceCtorEq, Nat.reduceBEq, Nat.reduceAdd, Nat.reduceLeDiff, qw, qk, hql']
          exact ⟨(far', q', true), ⟨j2, j3, e3⟩, rfl, by simp only; omega⟩
    · simp (disch := first | assumption | omega | rfl | simp only [RH]) only [↓RP, RG, FX, RQ, ↓reduceIte, Nat.reduceEqDiff, reduceCtorEq, Nat.reduceBEq, Nat.reduceAdd, Nat.reduceLeDiff, qw, qk, hql, hg0, cutB_some, hcut, hatc]
      refine loopK_W [0, 5, 6, 7, 34, 35, 36] (fun s : Nat × List Int × List Nat × Bool => s.1 ≤ A.length ∧ Sound n s.2.1 s.2.2.1 ∧ s.2.2.1.length + neg s.2.1 ≤ n ∧ inner c (A.drop s.1) (s.2.1, s.2.2.1) = inner c A (far, r))
        (fun s => ⟨[(0, .list false false n lb), (5, .ref 0 0 n n), (6, qw s.2.2.2 s.2.2.1), (7, I c), (34, LA (nI A).isEmpty (nI A)), (35, I (nI A).length), (36, I s.1)], ⟨3, 1, ints s.2.1⟩ :: qk s.2.2.2 s.2.2.1⟩) (fun s => A.length - s.1) (0, far, r, false) ⟨by simp only; omega, h1t, by simp only; omega, rfl⟩ (by
          refine (Wk.of_eq (by simp only [↓RP, RG, FX, RQ, ↓reduceIte, Nat.reduceEqDiff, reduceCtorEq, Nat.reduceBEq, Nat.reduceAdd, Nat.reduceLeDiff]; rfl)).trans ((Wk.drop (hb := []) (h1 := []) (gs := [_, _]) (env := _) 8 [0] rfl (by simp) (by simp) (by simp)).trans (Wk.of_eq (by simp only [RK, List.idxOf?_cons, List.idxOf?_nil, Nat.reduceBEq, Option.map_some, Option.map_none, List.map_cons, List.map_nil, List.getD_cons_zero, List.getD_cons_succ, Bool.false_eq_true, ↓reduceIte, Nat.add_zero, List.append_nil, hre, ren_litE]; rfl)))) ?_
      rintro ⟨j, far', q', p'⟩ ⟨j1, j2, j3, j4⟩
      simp only at j1 j2 j3 j4 ⊢
      have hfl' := j2.len
      have hqn' := nI_len q'
      have hql' : (ints (nI q')).length = q'.length := by rw [ints_length, nI_len]
      by_cases hlt3 : j < A.length
      · obtain ⟨y, hy⟩ : ∃ y, A.getD j 0 = y := ⟨_, rfl⟩
        have hyA : y ∈ A := by rw [← hy, List.getD_eq_getElem?_getD, List.getElem?_eq_getElem hlt3]; exact List.getElem_mem _
        have hyn := hAn y hyA
        have hgi := nI_get A j
        rw [hy] at hgi
        have hAd : A.drop j = y :: A.drop (j + 1) := by
          rw [List.drop_eq_getElem_cons hlt3, ← hy, List.getD_eq_getElem?_getD, List.getElem?_eq_getElem hlt3]; rfl
        have lj := j2.low y hyn
        have lc := j2.low c hc
        have uc := j2.high c hc
        rw [hAd, inner] at j4
        by_cases hneg : far'.getD y 0 < 0
        · rw [if_pos hneg] at j4
          obtain ⟨x1, x2⟩ := j2.push hyn hc hneg
          have hap : ints (nI q') ++ ints [(y : Int)] = ints (nI (q' ++ [y])) := by rw [nI_app, ints_append]
          have qb : q'.length ≤ 1000 := by omega
          cases p'
          · have hapl : ∀ h : List AObj, aAppend Tryd.prog 35 h (.lit q'.length (ints (nI q'))) (.lit 1 [.val (.int .i64 (y : Int))]) = some (.ref h.length 0 (q'.length + 1) (q'.length + 1), h ++ [⟨3, 1, ints (nI q' ++ [(y : Int)])⟩]) := fun h => append_litG hqn' (by omega)
            simp (disch := first | assumption | omega | rfl | simp only [RH]) only [↓RP, RG, FX, RQ, ↓reduceIte, Nat.reduceEqDiff, reduceCtorEq, Nat.reduceBEq, Nat.reduceAdd, Nat.reduceLeDiff, qw, qk, hql', hgi, hapl]
            exact ⟨(j + 1, far'.set y (far'.getD c 0 + 1), q' ++ [y], true), ⟨by simp only; omega, x1, by simp only [List.length_append, List.length_singleton]; omega, j4⟩, by simp only [qw, qk, nI_app, List.length_append, List.length_singleton]; rfl, by simp only; omega⟩
          · simp (disch := first | assumption | omega | rfl | simp only [RH]) only [↓RP, RG, FX, RQ, ↓reduceIte, Nat.reduceEqDiff, reduceCtorEq, Nat.reduceBEq, Nat.reduceAdd, Nat.reduceLeDiff, qw, qk, hql', hgi, append_ref1, apRI_ints]
            exact ⟨(j + 1, far'.set y (far'.getD c 0 + 1), q' ++ [y], true), ⟨by simp only; omega, x1, by simp only [List.length_append, List.length_singleton]; omega, j4⟩, by simp only [qw, qk, nI_app, List.length_append, List.length_singleton]; rfl, by simp only; omega⟩
        · rw [if_neg hneg] at j4
          cases p'
          · simp (disch := first | assumption | omega | rfl | simp only [RH]) only [↓RP, RG, FX, RQ, ↓reduceIte, Nat.reduceEqDiff, reduceCtorEq, Nat.reduceBEq, Nat.reduceAdd, Nat.reduceLeDiff, qw, qk, hql', hgi]
            exact ⟨(j + 1, far', q', false), ⟨by simp only; omega, j2, j3, j4⟩, rfl, by simp only; omega⟩
          · simp (disch := first | assumption | omega | rfl | simp only [RH]) only [↓RP, RG, FX, RQ, ↓reduceIte, Nat.reduceEqDiff, reduceCtorEq, Nat.reduceBEq, Nat.reduceAdd, Nat.reduceLeDiff, qw, qk, hql', hgi]
            exact ⟨(j + 1, far', q', true), ⟨by simp only; omega, j2, j3, j4⟩, rfl, by simp only; omega⟩
      · obtain rfl : j = A.length := by omega
        rw [List.drop_length, inner] at j4
        have y1 := congrArg Prod.fst j4
        have y2 := congrArg Prod.snd j4
        simp only at y1 y2
        rw [← y1, ← y2] at e3
        have hm := hin.2
        rw [← y1, ← y2] at hm
        cases p'
        · simp (disch := first | assumption | omega | rfl | simp only [RH]) only [↓RP, RG, FX, RQ, ↓reduceIte, Nat.reduceEqDiff, reduceCtorEq, Nat.reduceBEq, Nat.reduceAdd, Nat.reduceLeDiff, qw, qk, hql']
          exact ⟨(far', q', false), ⟨j2, j3, e3⟩, rfl, by simp only; omega⟩
        · simp (disch := first | assumption | omega | rfl | simp only [RH]) only [↓RP, RG, FX, RQ, ↓reduceIte, Nat.reduceEqDiff, reduceCtorEq, Nat.reduceBEq, Nat.reduceAdd, Nat.reduceLeDiff, qw, qk, hql']
          exact ⟨(far', q', true), ⟨j2, j3, e3⟩, rfl, by simp only; omega⟩
end Go.Proofs.YtmllhogaiahphaaDoor

/- What is reached, of both. -/
set_option linter.unusedSimpArgs false
set_option linter.unusedVariables false
set_option maxRecDepth 100000
namespace Go.Proofs.YtmllhogaiahphaaDoor
open Go Go.Proofs Go.AW

/-- The first k numbers, those with a distance. -/
def upN (far : List Int) : Nat → List Int
  | 0 => []
  | k + 1 => if 0 ≤ far.getD k 0 then upN far k ++ [(k : Int)] else upN far k
theorem upN_le (far : List Int) (k : Nat) : (upN far k).length ≤ k := by
  induction k with
  | zero => exact Nat.le_refl _
  | succ k ih => simp only [upN]; split; (simp only [List.length_append, List.length_singleton]; omega); omega
theorem pos_c (x : Int) : Contract Tryd.prog 44 [I x] (B (decide (0 ≤ x))) := by
  refine Contract.intro (effS [] false) 6 follows Tryd.func44 rfl rfl (by kernel_rfl) (Nat.le_of_ble_eq_true rfl) ?_
  by_cases h : 0 ≤ x
  · simp (disch := first | assumption | omega | rfl | simp only [RH]) only [↓RP, RG, FX, RQ, ↓reduceIte, Nat.reduceEqDiff, reduceCtorEq, Nat.reduceBEq, Nat.reduceAdd, Nat.reduceLeDiff, args0_1]
    rw [resVal_1 rfl]; simp (disch := first | assumption | omega | rfl | simp only [RH]) only [↓RP, RG, FX, RQ, ↓reduceIte, Nat.reduceEqDiff, reduceCtorEq, Nat.reduceBEq, Nat.reduceAdd, Nat.reduceLeDiff, RS]
    first | done | simp [h]
  · simp (disch := first | assumption | omega | rfl | simp only [RH]) only [↓RP, RG, FX, RQ, ↓reduceIte, Nat.reduceEqDiff, reduceCtorEq, Nat.reduceBEq, Nat.reduceAdd, Nat.reduceLeDiff, args0_1]
    rw [resVal_1 rfl]; simp (disch := first | assumption | omega | rfl | simp only [RH]) only [↓RP, RG, FX, RQ, ↓reduceIte, Nat.reduceEqDiff, reduceCtorEq, Nat.reduceBEq, Nat.reduceAdd, Nat.reduceLeDiff, RS]
    first | done | simp [h]
theorem where_c (b : Bool) (far : List Int) (hl : far.length ≤ 100000) : Contract Tryd.prog 43 [LA b far, .func (.func 44) [] []] (LR (upN far far.length).isEmpty (upN far far.length)) := by
  refine Contract.intro (effS [] false) 6 follows Tryd.func43 rfl rfl (by kernel_rfl) (Nat.le_of_ble_eq_true rfl) ?_
  simp (disch := first | assumption | omega | rfl | simp only [RH]) only [↓RP, RG, FX, RQ, ↓reduceIte, Nat.reduceEqDiff, reduceCtorEq, Nat.reduceBEq, Nat.reduceAdd, Nat.reduceLeDiff, args0_2]
  refine loopK_W [1, 5, 8, 9, 10] (fun k : Nat => k ≤ far.length) (fun k : Nat => ⟨[(1, .func (.func 44) [] []), (5, gw true 0 (ints (upN far k))), (8, LA b far), (9, I far.length), (10, I k)], [go 3 (ints (upN far k))]⟩) (fun k => far.length - k) 0 (by omega) ?_ ?_
  · simp only [↓RP, RG, FX, RQ, ↓reduceIte, Nat.reduceEqDiff, reduceCtorEq, Nat.reduceBEq, Nat.reduceAdd, Nat.reduceLeDiff]
    exact Wk.weak (WE.cons _ (.refl _) (WE.cons _ (.nil _) (WE.cons _ (.refl _) (WE.cons _ (.refl _) (WE.cons _ (.refl _) WE.nil))))) (.nil _ (by simp [go, ints, upN]))
  intro k hk
  have hle := upN_le far k
  by_cases hlt : k < far.length
  · simp (disch := first | assumption | omega | rfl | simp only [RH]) only [↓RP, RG, FX, RQ, ↓reduceIte, Nat.reduceEqDiff, reduceCtorEq, Nat.reduceBEq, Nat.reduceAdd, Nat.reduceLeDiff]
    refine callK_V 6 (pos_c (far.getD k 0)) (by simp (disch := first | assumption | omega | rfl | simp only [RH]) only [↓RP, RG, FX, RQ, ↓reduceIte, Nat.reduceEqDiff, reduceCtorEq, Nat.reduceBEq, Nat.reduceAdd, Nat.reduceLeDiff, RA] <;> rfl) (.inl (by simp [allFresh, ints_fresh, bools_fresh])) ?_
    by_cases h0 : 0 ≤ far.getD k 0
    · simp (disch := first | assumption | omega | rfl | simp only [RH]) only [↓RP, RG, FX, RQ, ↓reduceIte, Nat.reduceEqDiff, reduceCtorEq, Nat.reduceBEq, Nat.reduceAdd, Nat.reduceLeDiff, append_int]
      exact ⟨k + 1, by omega, by rw [upN, if_pos h0]; rfl, by omega⟩
    · simp (disch := first | assumption | omega | rfl | simp only [RH]) only [↓RP, RG, FX, RQ, ↓reduceIte, Nat.reduceEqDiff, reduceCtorEq, Nat.reduceBEq, Nat.reduceAdd, Nat.reduceLeDiff]
      exact ⟨k + 1, by omega, by rw [upN, if_neg h0]; rfl, by omega⟩
  · obtain rfl : k = far.length := by omega
    simp (disch := first | assumption | omega | rfl | simp only [RH]) only [↓RP, RG, FX, RQ, ↓reduceIte, Nat.reduceEqDiff, reduceCtorEq, Nat.reduceBEq, Nat.reduceAdd, Nat.reduceLeDiff]
    rw [resVal_1 rfl]; simp (disch := first | assumption | omega | rfl | simp only [RH]) only [↓RP, RG, FX, RQ, ↓reduceIte, Nat.reduceEqDiff, reduceCtorEq, Nat.reduceBEq, Nat.reduceAdd, Nat.reduceLeDiff, RS]
    simp only [Bool.true_and, ints_isEmpty]
/-- Those that hang on a. -/
def upon (W n : Nat) (l : List Bool) (a : Nat) : List Int := upN (srch (adjT W n l) (far0 n a) [a]) n
theorem bfs_len {n : Nat} {adj : Nat → List Nat} (ha : ∀ c, c < n → ∀ b ∈ adj c, b < n) : ∀ (k : Nat) (far : List Int) (q : List Nat), Sound n far q → (bfs adj k far q).length = n
  | 0, far, q, h => h.len
  | k + 1, far, [], h => h.len
  | k + 1, far, c :: q, h => bfs_len ha k _ _ (inner_ok (h.mem c List.mem_cons_self) (adj c) far q (ha c (h.mem c List.mem_cons_self)) h.tail).1
theorem srch_len {W n : Nat} (l : List Bool) {a : Nat} (ha : a < n) : (srch (adjT W n l) (far0 n a) [a]).length = n :=
  bfs_len (fun c hc x hx => adjT_lt hx) _ _ _ (far0_sound ha).1
end Go.Proofs.YtmllhogaiahphaaDoor

/- The least set, of both. -/
set_option linter.unusedSimpArgs false
set_option linter.unusedVariables false
set_option maxRecDepth 100000
namespace Go.Proofs.YtmllhogaiahphaaDoor
open Go Go.Proofs Go.AW

theorem inner_keep {n c a : Nat} (hc : c < n) : ∀ (adj : List Nat) (far : List Int) (q : List Nat), (∀ b ∈ adj, b < n) → Sound n far q → 0 ≤ far.getD a 0 → 0 ≤ (inner c adj (far, q)).1.getD a 0
  | [], far, q, _, _, h => h
  | b :: r, far, q, ha, hs, h => by
    have ha' : ∀ x ∈ r, x < n := fun x hx => ha x (List.mem_cons_of_mem _ hx)
    simp only [inner]
    split
    · rename_i hneg
      obtain ⟨h1, h2⟩ := hs.push (ha b List.mem_cons_self) hc hneg
      refine inner_keep hc r _ _ ha' h1 ?_
      have hb : b < far.length := by rw [hs.len]; exact ha b List.mem_cons_self
      rw [getD_set' hb]
      have hab : a ≠ b := fun e => by subst e; omega
      rw [if_neg hab]; exact h
    · exact inner_keep hc r far q ha' hs h
theorem bfs_keep {n a : Nat} {adj : Nat → List Nat} (ha : ∀ c, c < n → ∀ b ∈ adj c, b < n) : ∀ (k : Nat) (far : List Int) (q : List Nat), Sound n far q → 0 ≤ far.getD a 0 → 0 ≤ (bfs adj k far q).getD a 0
  | 0, far, q, _, h => h
  | k + 1, far, [], _, h => h
  | k + 1, far, c :: q, hs, h =>
    have hc := hs.mem c List.mem_cons_self
    bfs_keep ha k _ _ (inner_ok hc (adj c) far q (ha c hc) hs.tail).1 (inner_keep hc (adj c) far q (ha c hc) hs.tail h)
theorem srch_self {W n : Nat} (l : List Bool) {a : Nat} (ha : a < n) : 0 ≤ (srch (adjT W n l) (far0 n a) [a]).getD a 0 := by
  refine bfs_keep (fun c hc x hx => adjT_lt hx) _ _ _ (far0_sound ha).1 ?_
  unfold far0
  rw [getD_set' (by simpa using ha), if_pos rfl]; omega
theorem upN_pos {far : List Int} {a : Nat} (h : 0 ≤ far.getD a 0) : ∀ k, a < k → 0 < (upN far k).length := by
  intro k
  induction k with
  | zero => intro h; omega
  | succ k ih =>
    intro hk
    simp only [upN]
    by_cases e : a = k
    · subst e; rw [if_pos h]; simp
    · have := ih (by omega)
      split
      · simp
      · exact this
theorem upon_pos {W n : Nat} (l : List Bool) {a : Nat} (ha : a < n) : 0 < (upon W n l a).length := upN_pos (srch_self l ha) n ha
theorem upon_le (W n : Nat) (l : List Bool) (a : Nat) : (upon W n l a).length ≤ n := upN_le _ _
theorem isEmpty_pos {l : List Int} (h : 0 < l.length) : l.isEmpty = false := by cases l with | nil => simp at h | cons x r => rfl

/-- The one is the less. -/
def less (x y : List Int) : Prop := x.length < y.length ∨ x.length = y.length ∧ x.getD 0 0 < y.getD 0 0
instance (x y : List Int) : Decidable (less x y) := by unfold less; infer_instance
/-- The least of the first k + 1. -/
def best (W n : Nat) (l : List Bool) : Nat → List Int
  | 0 => upon W n l 0
  | k + 1 => if less (upon W n l (k + 1)) (best W n l k) then upon W n l (k + 1) else best W n l k
theorem best_ok {W n : Nat} (l : List Bool) : ∀ k, k < n → 0 < (best W n l k).length ∧ (best W n l k).length ≤ n := by
  intro k
  induction k with
  | zero => intro h; exact ⟨upon_pos l h, upon_le _ _ _ _⟩
  | succ k ih =>
    intro h
    simp only [best]
    split
    · exact ⟨upon_pos l h, upon_le _ _ _ _⟩
    · exact ih (by omega)

end Go.Proofs.YtmllhogaiahphaaDoor

/- The least set, by the program; Apart and Hangs of both. -/
set_option linter.unusedSimpArgs false
set_option linter.unusedVariables false
set_option maxRecDepth 100000
namespace Go.Proofs.YtmllhogaiahphaaDoor
open Go Go.Proofs Go.AW

def bst (W n : Nat) (l : List Bool) : Nat → AVal
  | 0 => .cap0 true
  | k + 1 => LR false (best W n l k)
theorem argOf_LL (h : List AObj) (m : Nat) (rs : List (List Int)) : (LL rs).map (argOf h (m + 2)) = LLa rs := by
  simp only [LL, LLa, List.map_map]
  refine List.map_congr_left fun r _ => ?_
  show argOf h (m + 2) (LR r.isEmpty r) = LA r.isEmpty r
  simp only [LR, LA, RA]
theorem firstP_c {W n : Nat} (hn0 : 0 < n) (hn : n ≤ 64) (l : List Bool) (lz : List AVal) :
    Contract Tryd.prog 35 [.agg [.list false false n lz, .list false false n (LLa (abv W n l))]] (LR false (best W n l (n - 1))) := by
  have hre : ∀ (a : Nat), a < n → Contract Tryd.prog 31 [.list false false n (LLa (abv W n l)), I a] (LR false (srch (adjT W n l) (far0 n a) [a])) := fun a ha => reached_c hn l ha
  have hag : ∀ (h : List AObj) (m : Nat), (LLa (abv W n l)).map (argOf h (m + 2)) = LLa (abv W n l) := by
    intro h m
    simp only [LLa, List.map_map]
    refine List.map_congr_left fun r _ => ?_
    show argOf h (m + 2) (LA r.isEmpty r) = LA r.isEmpty r
    simp only [LA, RA]
  generalize LLa (abv W n l) = lb at *
  refine Contract.intro (effS [] false) 6 follows Tryd.func35 rfl rfl (by kernel_rfl) (Nat.le_of_ble_eq_true rfl) ?_
  simp (disch := first | assumption | omega | rfl | simp only [RH]) only [↓RP, RG, FX, RQ, ↓reduceIte, Nat.reduceEqDiff, reduceCtorEq, Nat.reduceBEq, Nat.reduceAdd, Nat.reduceLeDiff, args0_1]
  refine loopK_I [1, 3, 8, 9] (fun k : Nat => k ≤ n) (fun k : Nat => ⟨[(1, .ptr 0 0 2), (3, bst W n l k), (8, I n), (9, I k)], [⟨55, 2, [.list false false n lz, .list false false n lb]⟩]⟩) (fun k => n - k) 0 (by omega) (by simp only [↓RP, RG, FX, RQ, ↓reduceIte, Nat.reduceEqDiff, reduceCtorEq, Nat.reduceBEq, Nat.reduceAdd, Nat.reduceLeDiff]; rfl) ?_
  intro k hk
  by_cases hlt : k < n
  · have hfl := srch_len (W := W) l hlt
    have hR := hre k hlt
    have hup : upon W n l k = upN (srch (adjT W n l) (far0 n k) [k]) n := rfl
    have u1 := upon_pos (W := W) l hlt
    have u2 := upon_le W n l k
    have hwh := where_c false (srch (adjT W n l) (far0 n k) [k]) (by omega)
    rw [hfl, ← hup, isEmpty_pos u1] at hwh
    generalize srch (adjT W n l) (far0 n k) [k] = far at *
    cases k with
    | zero =>
      have hb : best W n l 0 = upon W n l 0 := rfl
      generalize upon W n l 0 = x at *
      simp (disch := first | assumption | omega | rfl | simp only [RH]) only [↓RP, RG, FX, RQ, ↓reduceIte, Nat.reduceEqDiff, reduceCtorEq, Nat.reduceBEq, Nat.reduceAdd, Nat.reduceLeDiff]
      refine callK_F 6 hR (by simp (disch := first | assumption | omega | rfl | simp only [RH]) only [↓RP, RG, FX, RQ, ↓reduceIte, Nat.reduceEqDiff, reduceCtorEq, Nat.reduceBEq, Nat.reduceAdd, Nat.reduceLeDiff, RA, hag] <;> rfl) (.inl (by simp [allFresh, ints_fresh])) ?_
      simp (disch := first | assumption | omega | rfl | simp only [RH]) only [↓RP, RG, FX, RQ, ↓reduceIte, Nat.reduceEqDiff, reduceCtorEq, Nat.reduceBEq, Nat.reduceAdd, Nat.reduceLeDiff]
      refine callK_F 6 hwh (by simp (disch := first | assumption | omega | rfl | simp only [RH]) only [↓RP, RG, FX, RQ, ↓reduceIte, Nat.reduceEqDiff, reduceCtorEq, Nat.reduceBEq, Nat.reduceAdd, Nat.reduceLeDiff, RA] <;> rfl) (.inl (by simp [allFresh, ints_fresh])) ?_
      simp (disch := first | assumption | omega | rfl | simp only [RH]) only [↓RP, RG, FX, RQ, ↓reduceIte, Nat.reduceEqDiff, reduceCtorEq, Nat.reduceBEq, Nat.reduceAdd, Nat.reduceLeDiff, bst]
      exact ⟨1, by omega, by rw [← hb]; rfl, by omega⟩
    | succ k =>
      obtain ⟨b1, b2⟩ := best_ok (W := W) (n := n) l k (by omega)
      have hbs : best W n l (k + 1) = if less (upon W n l (k + 1)) (best W n l k) then upon W n l (k + 1) else best W n l k := rfl
      have hb1 : bst W n l (k + 1) = LR false (best W n l k) := rfl
      have hb2 : bst W n l (k + 1 + 1) = LR false (best W n l (k + 1)) := rfl
      generalize upon W n l (k + 1) = x at *
      generalize best W n l k = y at *
      rw [hb1]
      simp (disch := first | assumption | omega | rfl | simp only [RH]) only [↓RP, RG, FX, RQ, ↓reduceIte, Nat.reduceEqDiff, reduceCtorEq, Nat.reduceBEq, Nat.reduceAdd, Nat.reduceLeDiff]
      refine callK_F 6 hR (by simp (disch := first | assumption | omega | rfl | simp only [RH]) only [↓RP, RG, FX, RQ, ↓reduceIte, Nat.reduceEqDiff, reduceCtorEq, Nat.reduceBEq, Nat.reduceAdd, Nat.reduceLeDiff, RA, hag] <;> rfl) (.inl (by simp [allFresh, ints_fresh])) ?_
      simp (disch := first | assumption | omega | rfl | simp only [RH]) only [↓RP, RG, FX, RQ, ↓reduceIte, Nat.reduceEqDiff, reduceCtorEq, Nat.reduceBEq, Nat.reduceAdd, Nat.reduceLeDiff]
      refine callK_F 6 hwh (by simp (disch := first | assumption | omega | rfl | simp only [RH]) only [↓RP, RG, FX, RQ, ↓reduceIte, Nat.reduceEqDiff, reduceCtorEq, Nat.reduceBEq, Nat.reduceAdd, Nat.reduceLeDiff, RA] <;> rfl) (.inl (by simp [allFresh, ints_fresh])) ?_
      by_cases c1 : x.length < y.length
      · have hl : less x y := .inl c1
        rw [if_pos hl] at hbs
        simp (disch := first | assumption | omega | rfl | simp only [RH]) only [↓RP, RG, FX, RQ, ↓reduceIte, Nat.reduceEqDiff, reduceCtorEq, Nat.reduceBEq, Nat.reduceAdd, Nat.reduceLeDiff]
        exact ⟨k + 1 + 1, hlt, by rw [hb2, hbs]; rfl, by omega⟩
      · by_cases c2 : x.length = y.length
        · by_cases c3 : x.getD 0 0 < y.getD 0 0
          · have hl : less x y := .inr ⟨c2, c3⟩
            rw [if_pos hl] at hbs
            simp (disch := first | assumption | omega | rfl | simp only [RH]) only [↓RP, RG, FX, RQ, ↓reduceIte, Nat.reduceEqDiff, reduceCtorEq, Nat.reduceBEq, Nat.reduceAdd, Nat.reduceLeDiff, Int.toNat_zero]
            exact ⟨k + 1 + 1, hlt, by rw [hb2, hbs]; rfl, by omega⟩
          · have hl : ¬ less x y := fun h => h.elim c1 fun h => c3 h.2
            rw [if_neg hl] at hbs
            simp (disch := first | assumption | omega | rfl | simp only [RH]) only [↓RP, RG, FX, RQ, ↓reduceIte, Nat.reduceEqDiff, reduceCtorEq, Nat.reduceBEq, Nat.reduceAdd, Nat.reduceLeDiff, Int.toNat_zero]
            exact ⟨k + 1 + 1, hlt, by rw [hb2, hbs]; rfl, by omega⟩
        · have hl : ¬ less x y := fun h => h.elim c1 fun h => c2 h.1
          rw [if_neg hl] at hbs
          simp (disch := first | assumption | omega | rfl | simp only [RH]) only [↓RP, RG, FX, RQ, ↓reduceIte, Nat.reduceEqDiff, reduceCtorEq, Nat.reduceBEq, Nat.reduceAdd, Nat.reduceLeDiff]
          exact ⟨k + 1 + 1, hlt, by rw [hb2, hbs]; rfl, by omega⟩
  · obtain rfl : k = n := by omega
    obtain ⟨m, rfl⟩ : ∃ m, k = m + 1 := ⟨k - 1, by omega⟩
    have hb1 : bst W (m + 1) l (m + 1) = LR false (best W (m + 1) l m) := rfl
    rw [hb1, show m + 1 - 1 = m from rfl]
    simp (disch := first | assumption | omega | rfl | simp only [RH]) only [↓RP, RG, FX, RQ, ↓reduceIte, Nat.reduceEqDiff, reduceCtorEq, Nat.reduceBEq, Nat.reduceAdd, Nat.reduceLeDiff]
    rw [resVal_1 rfl]; simp (disch := first | assumption | omega | rfl | simp only [RH]) only [↓RP, RG, FX, RQ, ↓reduceIte, Nat.reduceEqDiff, reduceCtorEq, Nat.reduceBEq, Nat.reduceAdd, Nat.reduceLeDiff, RS]
end Go.Proofs.YtmllhogaiahphaaDoor

/- Apart and Hangs, of both. -/
set_option linter.unusedSimpArgs false
set_option linter.unusedVariables false
set_option maxRecDepth 100000
namespace Go.Proofs.YtmllhogaiahphaaDoor
open Go Go.Proofs Go.AW

/-- The part that comes apart; none: it hangs together. -/
def apt (W n : Nat) (l : List Bool) : List Int := if (best W n l (n - 1)).length = n then [] else best W n l (n - 1)
theorem apartP_c {W H n : Nat} (hN : W + H = n) (hW0 : 0 < W) (hH0 : 0 < H) (hn40 : n ≤ 64) (b : Bool) {l : List Bool} (hn : l.length = W * H) :
    Contract Tryd.prog 17 [GA W H b l] (.tuple [LR (apt W n l).isEmpty (apt W n l), I 0]) := by
  have hz : gchk W H l.length = 0 := gchk_ok ⟨by omega, by omega, by omega, by omega, by rw [hn, Int.natCast_mul]⟩
  have hNc : (W : Int) + (H : Int) = (n : Int) := by omega
  have hO := order_c hN hW0 hH0 (by omega) (by omega) b hn
  have hF := fun lz => firstP_c (W := W) (n := n) (by omega) hn40 l lz
  obtain ⟨b1, b2⟩ := best_ok (W := W) (n := n) l (n - 1) (by omega)
  have hag : ∀ (h : List AObj) (m : Nat), (LL (abv W n l)).map (argOf h (m + 2)) = LLa (abv W n l) := fun h m => argOf_LL h m _
  have hag2 : ∀ (h : List AObj) (m : Nat), (LL (bel W n l)).map (argOf h (m + 2)) = LLa (bel W n l) := fun h m => argOf_LL h m _
  have hap : apt W n l = if (best W n l (n - 1)).length = n then [] else best W n l (n - 1) := rfl
  generalize LLa (abv W n l) = lb at *
  generalize LLa (bel W n l) = lc at *
  generalize LL (abv W n l) = la at *
  generalize LL (bel W n l) = ld at *
  generalize best W n l (n - 1) = x at *
  generalize apt W n l = y at *
  refine Contract.intro (effS [] false) 6 follows Tryd.func17 rfl rfl (by kernel_rfl) (Nat.le_of_ble_eq_true rfl) ?_
  simp (disch := first | assumption | omega | rfl | simp only [RH]) only [↓RP, RG, FX, RQ, ↓reduceIte, Nat.reduceEqDiff, reduceCtorEq, Nat.reduceBEq, Nat.reduceAdd, Nat.reduceLeDiff, args0_1]
  refine callK_F 6 (gcheckP_c W H b l) (by simp (disch := first | assumption | omega | rfl | simp only [RH]) only [↓RP, RG, FX, RQ, ↓reduceIte, Nat.reduceEqDiff, reduceCtorEq, Nat.reduceBEq, Nat.reduceAdd, Nat.reduceLeDiff, RA] <;> rfl) (.inl (by simp [allFresh, ints_fresh, bools_fresh])) ?_
  simp (disch := first | assumption | omega | rfl | simp only [RH]) only [↓RP, RG, FX, RQ, ↓reduceIte, Nat.reduceEqDiff, reduceCtorEq, Nat.reduceBEq, Nat.reduceAdd, Nat.reduceLeDiff, hz]
  refine callK_F 6 hO (by simp (disch := first | assumption | omega | rfl | simp only [RH]) only [↓RP, RG, FX, RQ, ↓reduceIte, Nat.reduceEqDiff, reduceCtorEq, Nat.reduceBEq, Nat.reduceAdd, Nat.reduceLeDiff, RA] <;> rfl) (.inr (by simp [noRef, bools_noRef])) ?_
  simp (disch := first | assumption | omega | rfl | simp only [RH]) only [↓RP, RG, FX, RQ, ↓reduceIte, Nat.reduceEqDiff, reduceCtorEq, Nat.reduceBEq, Nat.reduceAdd, Nat.reduceLeDiff]
  refine callK_F 6 (hF lc) (by simp (disch := first | assumption | omega | rfl | simp only [RH]) only [↓RP, RG, FX, RQ, ↓reduceIte, Nat.reduceEqDiff, reduceCtorEq, Nat.reduceBEq, Nat.reduceAdd, Nat.reduceLeDiff, RA, hag, hag2] <;> rfl) (.inl (by simp [allFresh, ints_fresh])) ?_
  by_cases c : x.length = n
  · rw [if_pos c] at hap
    subst hap
    simp (disch := first | assumption | omega | rfl | simp only [RH]) only [↓RP, RG, FX, RQ, ↓reduceIte, Nat.reduceEqDiff, reduceCtorEq, Nat.reduceBEq, Nat.reduceAdd, Nat.reduceLeDiff, hNc]
    rw [resVal_2 rfl]; simp (disch := first | assumption | omega | rfl | simp only [RH]) only [↓RP, RG, FX, RQ, ↓reduceIte, Nat.reduceEqDiff, reduceCtorEq, Nat.reduceBEq, Nat.reduceAdd, Nat.reduceLeDiff, RS]
    first | done | rfl
  · rw [if_neg c] at hap
    subst hap
    simp (disch := first | assumption | omega | rfl | simp only [RH]) only [↓RP, RG, FX, RQ, ↓reduceIte, Nat.reduceEqDiff, reduceCtorEq, Nat.reduceBEq, Nat.reduceAdd, Nat.reduceLeDiff, hNc]
    rw [resVal_2 rfl]; simp (disch := first | assumption | omega | rfl | simp only [RH]) only [↓RP, RG, FX, RQ, ↓reduceIte, Nat.reduceEqDiff, reduceCtorEq, Nat.reduceBEq, Nat.reduceAdd, Nat.reduceLeDiff, RS]
    first | done | (rw [isEmpty_pos b1]; rfl) | rw [isEmpty_pos b1]
theorem hangsP_c {W H n : Nat} (hN : W + H = n) (hW0 : 0 < W) (hH0 : 0 < H) (hn40 : n ≤ 64) (b : Bool) {l : List Bool} (hn : l.length = W * H) :
    Contract Tryd.prog 6 [GA W H b l] (.tuple [B (decide ((best W n l (n - 1)).length = n)), I 0]) := by
  have hF := apartP_c hN hW0 hH0 hn40 b hn
  obtain ⟨b1, b2⟩ := best_ok (W := W) (n := n) l (n - 1) (by omega)
  have hap : apt W n l = if (best W n l (n - 1)).length = n then [] else best W n l (n - 1) := rfl
  generalize best W n l (n - 1) = x at *
  generalize apt W n l = y at *
  refine Contract.intro (effS [] false) 6 follows Tryd.func6 rfl rfl (by kernel_rfl) (Nat.le_of_ble_eq_true rfl) ?_
  simp (disch := first | assumption | omega | rfl | simp only [RH]) only [↓RP, RG, FX, RQ, ↓reduceIte, Nat.reduceEqDiff, reduceCtorEq, Nat.reduceBEq, Nat.reduceAdd, Nat.reduceLeDiff, args0_1]
  refine callK_F 6 hF (by simp (disch := first | assumption | omega | rfl | simp only [RH]) only [↓RP, RG, FX, RQ, ↓reduceIte, Nat.reduceEqDiff, reduceCtorEq, Nat.reduceBEq, Nat.reduceAdd, Nat.reduceLeDiff, RA] <;> rfl) (.inl (by simp [allFresh, ints_fresh])) ?_
  by_cases c : x.length = n
  · rw [if_pos c] at hap
    have hy : y.length = 0 := by rw [hap]; rfl
    simp (disch := first | assumption | omega | rfl | simp only [RH]) only [↓RP, RG, FX, RQ, ↓reduceIte, Nat.reduceEqDiff, reduceCtorEq, Nat.reduceBEq, Nat.reduceAdd, Nat.reduceLeDiff]
    rw [resVal_2 rfl]; simp (disch := first | assumption | omega | rfl | simp only [RH]) only [↓RP, RG, FX, RQ, ↓reduceIte, Nat.reduceEqDiff, reduceCtorEq, Nat.reduceBEq, Nat.reduceAdd, Nat.reduceLeDiff, RS]
    first | done | simp [c]
  · rw [if_neg c] at hap
    have hy : 0 < y.length := by rw [hap]; exact b1
    simp (disch := first | assumption | omega | rfl | simp only [RH]) only [↓RP, RG, FX, RQ, ↓reduceIte, Nat.reduceEqDiff, reduceCtorEq, Nat.reduceBEq, Nat.reduceAdd, Nat.reduceLeDiff]
    rw [resVal_2 rfl]; simp (disch := first | assumption | omega | rfl | simp only [RH]) only [↓RP, RG, FX, RQ, ↓reduceIte, Nat.reduceEqDiff, reduceCtorEq, Nat.reduceBEq, Nat.reduceAdd, Nat.reduceLeDiff, RS]
    first | done | simp [c]
end Go.Proofs.YtmllhogaiahphaaDoor

/- A set of threads: is it one, and which are in it. -/
set_option linter.unusedSimpArgs false
set_option linter.unusedVariables false
set_option maxRecDepth 100000
namespace Go.Proofs.YtmllhogaiahphaaDoor
open Go Go.Proofs Go.AW

/-- The first k are threads, and each is more than the one ahead of it. -/
def okS (n : Nat) (s : List Int) (k : Nat) : Prop := ∀ i, i < k → (0 ≤ s.getD i 0 ∧ s.getD i 0 < n) ∧ (0 < i → s.getD (i - 1) 0 < s.getD i 0)
end Go.Proofs.YtmllhogaiahphaaDoor

/- Off, of both. -/
set_option linter.unusedSimpArgs false
set_option linter.unusedVariables false
set_option maxRecDepth 100000
namespace Go.Proofs.YtmllhogaiahphaaDoor
open Go Go.Proofs Go.AW

end Go.Proofs.YtmllhogaiahphaaDoor

/- Off, by the program. -/
set_option linter.unusedSimpArgs false
set_option linter.unusedVariables false
set_option maxRecDepth 100000
namespace Go.Proofs.YtmllhogaiahphaaDoor
open Go Go.Proofs Go.AW

end Go.Proofs.YtmllhogaiahphaaDoor

/- The law HangAsks. -/
set_option linter.unusedSimpArgs false
set_option linter.unusedVariables false
set_option maxRecDepth 100000
namespace Go.Proofs.YtmllhogaiahphaaDoor
open Go Go.Proofs Go.AW

theorem great10_a (w h : Int) (b : Bool) (l : List Bool) (hl : 200 < (l.length : Int)) : Contract Tryd.prog 13 [GA w h b l] (B true) := by
  refine Contract.intro (effS [] false) 6 follows Tryd.func13 rfl rfl (by kernel_rfl) (Nat.le_of_ble_eq_true rfl) ?_
  simp (disch := first | assumption | omega | rfl | simp only [RH]) only [↓RP, RG, FX, RQ, ↓reduceIte, Nat.reduceEqDiff, reduceCtorEq, Nat.reduceBEq, Nat.reduceAdd, Nat.reduceLeDiff, args0_1]
  rw [resVal_1 rfl]; simp (disch := first | assumption | omega | rfl | simp only [RH]) only [↓RP, RG, FX, RQ, ↓reduceIte, Nat.reduceEqDiff, reduceCtorEq, Nat.reduceBEq, Nat.reduceAdd, Nat.reduceLeDiff, RS]
theorem great10_b (w h : Int) (b : Bool) (l : List Bool) (hl : ¬ 200 < (l.length : Int)) (hz : gchk w h l.length ≠ 0) : Contract Tryd.prog 13 [GA w h b l] (B false) := by
  refine Contract.intro (effS [] false) 6 follows Tryd.func13 rfl rfl (by kernel_rfl) (Nat.le_of_ble_eq_true rfl) ?_
  simp (disch := first | assumption | omega | rfl | simp only [RH]) only [↓RP, RG, FX, RQ, ↓reduceIte, Nat.reduceEqDiff, reduceCtorEq, Nat.reduceBEq, Nat.reduceAdd, Nat.reduceLeDiff, args0_1]
  refine callK_F 6 (gcheckR_c w h b l) (by simp (disch := first | assumption | omega | rfl | simp only [RH]) only [↓RP, RG, FX, RQ, ↓reduceIte, Nat.reduceEqDiff, reduceCtorEq, Nat.reduceBEq, Nat.reduceAdd, Nat.reduceLeDiff, RA] <;> rfl) (.inl (by simp [allFresh, ints_fresh, bools_fresh])) ?_
  simp (disch := first | assumption | omega | rfl | simp only [RH]) only [↓RP, RG, FX, RQ, ↓reduceIte, Nat.reduceEqDiff, reduceCtorEq, Nat.reduceBEq, Nat.reduceAdd, Nat.reduceLeDiff]
  rw [resVal_1 rfl]; simp (disch := first | assumption | omega | rfl | simp only [RH]) only [↓RP, RG, FX, RQ, ↓reduceIte, Nat.reduceEqDiff, reduceCtorEq, Nat.reduceBEq, Nat.reduceAdd, Nat.reduceLeDiff, RS]
theorem great10_c (W H : Nat) (b : Bool) (l : List Bool) (hl : ¬ 200 < (l.length : Int)) (hz : gchk W H l.length = 0) (hW : W ≤ 64) (hH : H ≤ 64) : Contract Tryd.prog 13 [GA W H b l] (B (decide (24 < (W : Int) + H))) := by
  refine Contract.intro (effS [] false) 6 follows Tryd.func13 rfl rfl (by kernel_rfl) (Nat.le_of_ble_eq_true rfl) ?_
  simp (disch := first | assumption | omega | rfl | simp only [RH]) only [↓RP, RG, FX, RQ, ↓reduceIte, Nat.reduceEqDiff, reduceCtorEq, Nat.reduceBEq, Nat.reduceAdd, Nat.reduceLeDiff, args0_1]
  refine callK_F 6 (gcheckR_c W H b l) (by simp (disch := first | assumption | omega | rfl | simp only [RH]) only [↓RP, RG, FX, RQ, ↓reduceIte, Nat.reduceEqDiff, reduceCtorEq, Nat.reduceBEq, Nat.reduceAdd, Nat.reduceLeDiff, RA] <;> rfl) (.inl (by simp [allFresh, ints_fresh, bools_fresh])) ?_
  simp (disch := first | assumption | omega | rfl | simp only [RH]) only [↓RP, RG, FX, RQ, ↓reduceIte, Nat.reduceEqDiff, reduceCtorEq, Nat.reduceBEq, Nat.reduceAdd, Nat.reduceLeDiff, hz]
  refine callK_F 6 (threads_c W H b l hW hH) (by simp (disch := first | assumption | omega | rfl | simp only [RH]) only [↓RP, RG, FX, RQ, ↓reduceIte, Nat.reduceEqDiff, reduceCtorEq, Nat.reduceBEq, Nat.reduceAdd, Nat.reduceLeDiff, RA] <;> rfl) (.inl (by simp [allFresh, ints_fresh, bools_fresh])) ?_
  by_cases c : 24 < (W : Int) + H
  · simp (disch := first | assumption | omega | rfl | simp only [RH]) only [↓RP, RG, FX, RQ, ↓reduceIte, Nat.reduceEqDiff, reduceCtorEq, Nat.reduceBEq, Nat.reduceAdd, Nat.reduceLeDiff]
    rw [resVal_1 rfl]; simp (disch := first | assumption | omega | rfl | simp only [RH]) only [↓RP, RG, FX, RQ, ↓reduceIte, Nat.reduceEqDiff, reduceCtorEq, Nat.reduceBEq, Nat.reduceAdd, Nat.reduceLeDiff, RS]
    first | done | simp [c]
  · simp (disch := first | assumption | omega | rfl | simp only [RH]) only [↓RP, RG, FX, RQ, ↓reduceIte, Nat.reduceEqDiff, reduceCtorEq, Nat.reduceBEq, Nat.reduceAdd, Nat.reduceLeDiff]
    rw [resVal_1 rfl]; simp (disch := first | assumption | omega | rfl | simp only [RH]) only [↓RP, RG, FX, RQ, ↓reduceIte, Nat.reduceEqDiff, reduceCtorEq, Nat.reduceBEq, Nat.reduceAdd, Nat.reduceLeDiff, RS]
    first | done | simp [c]

end Go.Proofs.YtmllhogaiahphaaDoor

/- What the search says: each thread that is reached has a next one that is nearer. -/
set_option linter.unusedSimpArgs false
set_option linter.unusedVariables false
set_option maxRecDepth 100000
namespace Go.Proofs.YtmllhogaiahphaaDoor
open Go Go.Proofs Go.AW

/-- What holds all along, of the ways. -/
structure Near (n a : Nat) (adj : Nat → List Nat) (far : List Int) (q : List Nat) : Prop where
  q0 : ∀ c ∈ q, 0 ≤ far.getD c 0
  one : ∀ x, x < n → far.getD x 0 = 0 → x = a
  zero : far.getD a 0 = 0
  next : ∀ x, x < n → 0 < far.getD x 0 → ∃ c, c < n ∧ far.getD c 0 = far.getD x 0 - 1 ∧ x ∈ adj c
theorem Near.push {n a : Nat} {adj : Nat → List Nat} {far : List Int} {q : List Nat} (h : Near n a adj far q) (hs : far.length = n) {b c : Nat} (hb : b < n) (hc : c < n) (hc0 : 0 ≤ far.getD c 0) (hn : far.getD b 0 < 0) (hadj : b ∈ adj c) : Near n a adj (far.set b (far.getD c 0 + 1)) (q ++ [b]) := by
  have hbl : b < far.length := by omega
  refine ⟨fun x hx => ?_, fun x hx h0 => ?_, ?_, fun x hx h0 => ?_⟩
  · rw [getD_set' hbl]
    split
    · omega
    · rcases List.mem_append.1 hx with g | g
      · exact h.q0 x g
      · rename_i hne
        exact absurd (by simpa using g) hne
  · rw [getD_set' hbl] at h0
    split at h0
    · omega
    · exact h.one x hx h0
  · rw [getD_set' hbl]
    have := h.zero
    rw [if_neg (fun e => by subst e; omega)]
    exact this
  · rw [getD_set' hbl] at h0 ⊢
    by_cases e : x = b
    · subst e
      rw [if_pos rfl] at h0 ⊢
      refine ⟨c, hc, ?_, hadj⟩
      rw [getD_set' hbl, if_neg (fun e => by subst e; omega)]
      omega
    · rw [if_neg e] at h0 ⊢
      obtain ⟨d, h1, h2, h3⟩ := h.next x hx h0
      refine ⟨d, h1, ?_, h3⟩
      rw [getD_set' hbl, if_neg (fun e => by subst e; omega)]
      exact h2
theorem inner_near {n a : Nat} {adj : Nat → List Nat} {c : Nat} (hc : c < n) : ∀ (ds : List Nat) (far : List Int) (q : List Nat), (∀ b ∈ ds, b < n ∧ b ∈ adj c) → Sound n far q → 0 ≤ far.getD c 0 → Near n a adj far q → Near n a adj (inner c ds (far, q)).1 (inner c ds (far, q)).2
  | [], far, q, _, _, _, h => h
  | b :: r, far, q, hd, hs, hc0, h => by
    have hd' : ∀ x ∈ r, x < n ∧ x ∈ adj c := fun x hx => hd x (List.mem_cons_of_mem _ hx)
    obtain ⟨hb, hbc⟩ := hd b List.mem_cons_self
    simp only [inner]
    split
    · rename_i hneg
      obtain ⟨h1, h2⟩ := hs.push hb hc hneg
      refine inner_near hc r _ _ hd' h1 ?_ (h.push hs.len hb hc hc0 hneg hbc)
      rw [getD_set' (by rw [hs.len]; exact hb), if_neg (fun e => by subst e; omega)]
      exact hc0
    · exact inner_near hc r far q hd' hs hc0 h
theorem bfs_near {n a : Nat} {adj : Nat → List Nat} (ha : ∀ c, c < n → ∀ b ∈ adj c, b < n) : ∀ (k : Nat) (far : List Int) (q : List Nat), Sound n far q → Near n a adj far q → ∃ q', Near n a adj (bfs adj k far q) q'
  | 0, far, q, _, h => ⟨q, h⟩
  | k + 1, far, [], _, h => ⟨[], h⟩
  | k + 1, far, c :: q, hs, h =>
    have hc := hs.mem c List.mem_cons_self
    bfs_near ha k _ _ (inner_ok hc (adj c) far q (ha c hc) hs.tail).1
      (inner_near hc (adj c) far q (fun b hb => ⟨ha c hc b hb, hb⟩) hs.tail (h.q0 c List.mem_cons_self) ⟨fun x hx => h.q0 x (List.mem_cons_of_mem _ hx), h.one, h.zero, h.next⟩)
theorem srch_near {W n : Nat} (l : List Bool) {a : Nat} (ha : a < n) : ∃ q, Near n a (adjT W n l) (srch (adjT W n l) (far0 n a) [a]) q := by
  refine bfs_near (fun c hc x hx => adjT_lt hx) _ _ _ (far0_sound ha).1 ?_
  have hl : a < (List.replicate n (-1 : Int)).length := by simpa using ha
  have hrep : ∀ x, x < n → (List.replicate n (-1 : Int)).getD x 0 = -1 := fun x hx => by simp [List.getD_eq_getElem?_getD, List.getElem?_replicate, hx]
  unfold far0
  refine ⟨fun x hx => ?_, fun x hx h0 => ?_, ?_, fun x hx h0 => ?_⟩
  · rw [getD_set' hl, if_pos (by simpa using hx)]; omega
  · rw [getD_set' hl] at h0
    by_cases e : x = a
    · exact e
    · rw [if_neg e, hrep x hx] at h0; omega
  · rw [getD_set' hl, if_pos rfl]
  · rw [getD_set' hl] at h0
    by_cases e : x = a
    · rw [if_pos e] at h0; omega
    · rw [if_neg e, hrep x hx] at h0; omega
end Go.Proofs.YtmllhogaiahphaaDoor

/- The way, by the reference. -/
set_option linter.unusedSimpArgs false
set_option linter.unusedVariables false
set_option maxRecDepth 100000
namespace Go.Proofs.YtmllhogaiahphaaDoor
open Go Go.Proofs Go.AW

/-- What the distances to a are. -/
structure Dist (W n : Nat) (l : List Bool) (a : Nat) (far : List Int) : Prop where
  len : far.length = n
  low : ∀ i, i < n → -1 ≤ far.getD i 0
  high : ∀ i, i < n → far.getD i 0 ≤ n
  one : ∀ x, x < n → far.getD x 0 = 0 → x = a
  zero : far.getD a 0 = 0
  next : ∀ x, x < n → 0 < far.getD x 0 → ∃ c, c < n ∧ far.getD c 0 = far.getD x 0 - 1 ∧ ov W l x c = true
end Go.Proofs.YtmllhogaiahphaaDoor

/- A cloth that hangs together: every way is there. The walk, plain. -/
set_option linter.unusedSimpArgs false
set_option linter.unusedVariables false
set_option maxRecDepth 100000
namespace Go.Proofs.YtmllhogaiahphaaDoor
open Go Go.Proofs Go.AW

theorem upN_all {far : List Int} : ∀ {n : Nat}, (upN far n).length = n → ∀ i, i < n → 0 ≤ far.getD i 0 := by
  intro n
  induction n with
  | zero => intro _ i hi; omega
  | succ n ih =>
    intro h i hi
    have hle := upN_le far n
    simp only [upN] at h
    split at h
    · rename_i h0
      simp only [List.length_append, List.length_singleton] at h
      by_cases e : i = n
      · subst e; exact h0
      · exact ih (by omega) i (by omega)
    · omega
theorem best_least (W n : Nat) (l : List Bool) : ∀ k j, j ≤ k → (best W n l k).length ≤ (upon W n l j).length := by
  intro k
  induction k with
  | zero => intro j hj; obtain rfl : j = 0 := by omega
            exact Nat.le_refl _
  | succ k ih =>
    intro j hj
    simp only [best]
    by_cases e : j = k + 1
    · subst e
      split
      · exact Nat.le_refl _
      · rename_i h
        unfold less at h
        have := Classical.byContradiction fun hh => h (.inl (Nat.lt_of_not_le hh))
        exact this
    · have := ih j (by omega)
      split
      · rename_i h
        unfold less at h
        rcases h with h | h <;> omega
      · exact this
/-- Where the cloth hangs together, each thread is reached from each. -/
theorem all_near {W n : Nat} (l : List Bool) (hb : (best W n l (n - 1)).length = n) {a x : Nat} (ha : a < n) (hx : x < n) : 0 ≤ (srch (adjT W n l) (far0 n a) [a]).getD x 0 := by
  have h1 := best_least W n l (n - 1) a (by omega)
  have h2 := upon_le W n l a
  exact upN_all (show (upN (srch (adjT W n l) (far0 n a) [a]) n).length = n by show (upon W n l a).length = n; omega) x hx
end Go.Proofs.YtmllhogaiahphaaDoor

/- The next thread of the way, by the program. -/
set_option linter.unusedSimpArgs false
set_option linter.unusedVariables false
set_option maxRecDepth 100000
namespace Go.Proofs.YtmllhogaiahphaaDoor
open Go Go.Proofs Go.AW

end Go.Proofs.YtmllhogaiahphaaDoor

/- Accept, by the reference. -/
set_option linter.unusedSimpArgs false
set_option linter.unusedVariables false
set_option maxRecDepth 100000
namespace Go.Proofs.YtmllhogaiahphaaDoor
open Go Go.Proofs Go.AW

end Go.Proofs.YtmllhogaiahphaaDoor

/- The walk, by the reference. -/
set_option linter.unusedSimpArgs false
set_option linter.unusedVariables false
set_option maxRecDepth 100000
namespace Go.Proofs.YtmllhogaiahphaaDoor
open Go Go.Proofs Go.AW

end Go.Proofs.YtmllhogaiahphaaDoor

/- The walk, by the program. -/
set_option linter.unusedSimpArgs false
set_option linter.unusedVariables false
set_option maxRecDepth 100000
namespace Go.Proofs.YtmllhogaiahphaaDoor
open Go Go.Proofs Go.AW

/-- The walk as yet: the literal, or a row of its own at id. -/
def pv (id : Nat) (p : Bool) (o : List Int) : AVal := if p then .ref id 0 o.length o.length else .lit 1 (ints [0])
end Go.Proofs.YtmllhogaiahphaaDoor

/- The different numbers of a list: sequences of its values, sorted, compacted. -/
set_option linter.unusedSimpArgs false
set_option linter.unusedVariables false
set_option maxRecDepth 100000
namespace Go.Proofs.YtmllhogaiahphaaDoor
open Go Go.Proofs Go.AW

end Go.Proofs.YtmllhogaiahphaaDoor

/- The different numbers of a list, and its elements' places among them. -/
set_option linter.unusedSimpArgs false
set_option linter.unusedVariables false
set_option maxRecDepth 100000
namespace Go.Proofs.YtmllhogaiahphaaDoor
open Go Go.Proofs Go.AW

end Go.Proofs.YtmllhogaiahphaaDoor

/- Parts of Accept, by the program. -/
set_option linter.unusedSimpArgs false
set_option linter.unusedVariables false
set_option maxRecDepth 100000
namespace Go.Proofs.YtmllhogaiahphaaDoor
open Go Go.Proofs Go.AW

end Go.Proofs.YtmllhogaiahphaaDoor

/- Accept, by the program. -/
set_option linter.unusedSimpArgs false
set_option linter.unusedVariables false
set_option maxRecDepth 100000
namespace Go.Proofs.YtmllhogaiahphaaDoor
open Go Go.Proofs Go.AW

end Go.Proofs.YtmllhogaiahphaaDoor

/- What hanging together is: no closed set but all. Plain. -/
set_option linter.unusedSimpArgs false
set_option linter.unusedVariables false
set_option maxRecDepth 100000
namespace Go.Proofs.YtmllhogaiahphaaDoor
open Go Go.Proofs Go.AW

/-- With a thread, all that lie over it. -/
def Cl (W n : Nat) (l : List Bool) (M : Nat → Prop) : Prop := ∀ c, c < n → M c → ∀ a, a < n → ov W l a c = true → M a
theorem mem_adjT {W n : Nat} {l : List Bool} {c a : Nat} : a ∈ adjT W n l c ↔ a < n ∧ ov W l a c = true := by
  simp only [adjT, List.mem_filter, List.mem_range]
/-- What is reached from a is in each closed set that a is in. -/
theorem reach_in {W n : Nat} {l : List Bool} {a : Nat} (ha : a < n) {M : Nat → Prop} (hM : Cl W n l M) (h0 : M a) : ∀ (d x : Nat), x < n → (srch (adjT W n l) (far0 n a) [a]).getD x 0 = d → M x := by
  obtain ⟨q, hN⟩ := srch_near (W := W) l ha
  intro d
  induction d with
  | zero => intro x hx h; rw [hN.one x hx h]; exact h0
  | succ d ih =>
    intro x hx h
    obtain ⟨c, c1, c2, c3⟩ := hN.next x hx (by omega)
    exact hM c c1 (ih c c1 (by omega)) x hx (mem_adjT.1 c3).2
theorem inner_done {n c : Nat} (hc : c < n) : ∀ (ds : List Nat) (far : List Int) (q : List Nat), (∀ b ∈ ds, b < n) → Sound n far q → 0 ≤ far.getD c 0 →
    (∀ x, 0 ≤ far.getD x 0 → 0 ≤ (inner c ds (far, q)).1.getD x 0) ∧ (∀ b ∈ ds, 0 ≤ (inner c ds (far, q)).1.getD b 0) ∧ (∀ x, x < n → 0 ≤ (inner c ds (far, q)).1.getD x 0 → 0 ≤ far.getD x 0 ∨ x ∈ (inner c ds (far, q)).2) ∧ ∀ x ∈ q, x ∈ (inner c ds (far, q)).2
  | [], far, q, _, _, _ => ⟨fun x h => h, fun b hb => absurd hb (by simp), fun x hx h => Or.inl h, fun x h => h⟩
  | b :: r, far, q, hd, hs, hc0 => by
    have hd' : ∀ x ∈ r, x < n := fun x hx => hd x (List.mem_cons_of_mem _ hx)
    have hb := hd b List.mem_cons_self
    have hbl : b < far.length := by rw [hs.len]; exact hb
    simp only [inner]
    split
    · rename_i hneg
      obtain ⟨h1, h2⟩ := hs.push hb hc hneg
      have hc1 : 0 ≤ (far.set b (far.getD c 0 + 1)).getD c 0 := by
        rw [getD_set' hbl]; split <;> omega
      obtain ⟨i1, i2, i3, i4⟩ := inner_done hc r _ _ hd' h1 hc1
      refine ⟨fun x hx => i1 x ?_, fun x hx => ?_, fun x hx h => ?_, fun x hx => i4 x (List.mem_append_left _ hx)⟩
      · rw [getD_set' hbl]; split <;> omega
      · rcases List.mem_cons.1 hx with e | e
        · subst e
          refine i1 x ?_
          rw [getD_set' hbl, if_pos rfl]; omega
        · exact i2 x e
      · rcases i3 x hx h with g | g
        · rw [getD_set' hbl] at g
          by_cases e : x = b
          · exact .inr (i4 x (by simp [e]))
          · rw [if_neg e] at g; exact .inl g
        · exact .inr g
    · rename_i hneg
      obtain ⟨i1, i2, i3, i4⟩ := inner_done hc r far q hd' hs hc0
      refine ⟨i1, fun x hx => ?_, i3, i4⟩
      rcases List.mem_cons.1 hx with e | e
      · subst e; exact i1 x (by omega)
      · exact i2 x e
/-- Each one that is reached is in the queue, or all next to it are reached. -/
def Done (n : Nat) (adj : Nat → List Nat) (far : List Int) (q : List Nat) : Prop := (∀ c ∈ q, 0 ≤ far.getD c 0) ∧ ∀ c, c < n → 0 ≤ far.getD c 0 → c ∈ q ∨ ∀ b ∈ adj c, 0 ≤ far.getD b 0
theorem bfs_done {n : Nat} {adj : Nat → List Nat} (ha : ∀ c, c < n → ∀ b ∈ adj c, b < n) : ∀ (k : Nat) (far : List Int) (q : List Nat), Sound n far q → Done n adj far q → 2 * neg far + q.length ≤ k → Done n adj (bfs adj k far q) []
  | 0, far, q, _, h, hk => by
    have : q = [] := List.eq_nil_of_length_eq_zero (by omega)
    subst this; exact h
  | k + 1, far, [], _, h, _ => h
  | k + 1, far, c :: q, hs, h, hk => by
    have hc := hs.mem c List.mem_cons_self
    have hc0 := h.1 c List.mem_cons_self
    obtain ⟨h1, h2⟩ := inner_ok hc (adj c) far q (ha c hc) hs.tail
    obtain ⟨i1, i2, i3, i4⟩ := inner_done hc (adj c) far q (ha c hc) hs.tail hc0
    simp only [List.length_cons] at hk
    refine bfs_done ha k _ _ h1 ⟨fun x hx => ?_, fun x hx hx0 => ?_⟩ (by omega)
    · refine Classical.byContradiction fun hneg => ?_
      have hN : ∀ (ds : List Nat) (far : List Int) (q : List Nat), (∀ b ∈ ds, b < n) → Sound n far q → 0 ≤ far.getD c 0 → (∀ y ∈ q, 0 ≤ far.getD y 0) → ∀ y ∈ (inner c ds (far, q)).2, 0 ≤ (inner c ds (far, q)).1.getD y 0 := by
        intro ds
        induction ds with
        | nil => intro far q _ _ _ hq; exact hq
        | cons b r ih =>
          intro far q hd hs hc0 hq
          have hb := hd b List.mem_cons_self
          have hbl : b < far.length := by rw [hs.len]; exact hb
          simp only [inner]
          split
          · rename_i hneg
            refine ih _ _ (fun x hx => hd x (List.mem_cons_of_mem _ hx)) (hs.push hb hc hneg).1 ?_ (fun y hy => ?_)
            · rw [getD_set' hbl]; split <;> omega
            · rw [getD_set' hbl]
              split
              · omega
              · rename_i hne
                rcases List.mem_append.1 hy with g | g
                · exact hq y g
                · exact absurd (by simpa using g) hne
          · exact ih _ _ (fun x hx => hd x (List.mem_cons_of_mem _ hx)) hs hc0 hq
      exact hneg (hN (adj c) far q (ha c hc) hs.tail hc0 (fun y hy => h.1 y (List.mem_cons_of_mem _ hy)) x hx)
    · rcases i3 x hx hx0 with g | g
      · rcases h.2 x hx g with e | e
        · rcases List.mem_cons.1 e with e | e
          · subst e; exact .inr i2
          · exact .inl (i4 x e)
        · exact .inr fun b hb => i1 b (e b hb)
      · exact .inl g
/-- What is reached from a. -/
def Rch (W n : Nat) (l : List Bool) (a x : Nat) : Prop := 0 ≤ (srch (adjT W n l) (far0 n a) [a]).getD x 0
instance (W n : Nat) (l : List Bool) (a x : Nat) : Decidable (Rch W n l a x) := by unfold Rch; infer_instance
theorem rch_cl {W n : Nat} (l : List Bool) {a : Nat} (ha : a < n) : Cl W n l (Rch W n l a) := by
  have h : Done n (adjT W n l) (srch (adjT W n l) (far0 n a) [a]) [] := by
    refine bfs_done (fun c hc x hx => adjT_lt hx) _ _ _ (far0_sound ha).1 ⟨fun c hc => ?_, fun c hc hc0 => ?_⟩ (Nat.le_refl _)
    · obtain rfl : c = a := by simpa using hc
      unfold far0
      rw [getD_set' (by simpa using ha), if_pos rfl]; omega
    · by_cases e : c = a
      · exact .inl (by simp [e])
      · unfold far0 at hc0
        rw [getD_set' (by simpa using ha), if_neg e] at hc0
        simp [List.getD_eq_getElem?_getD, List.getElem?_replicate, hc] at hc0
  intro c hc hR x hx hov
  rcases h.2 c hc hR with g | g
  · cases g
  · exact g x (mem_adjT.2 ⟨hx, hov⟩)
theorem rch_self {W n : Nat} (l : List Bool) {a : Nat} (ha : a < n) : Rch W n l a a := srch_self l ha
theorem rch_in {W n : Nat} {l : List Bool} {a x : Nat} (ha : a < n) (hx : x < n) {M : Nat → Prop} (hM : Cl W n l M) (h0 : M a) (h : Rch W n l a x) : M x :=
  reach_in ha hM h0 ((srch (adjT W n l) (far0 n a) [a]).getD x 0).toNat x hx (by unfold Rch at h; omega)
/-- The numbers below k that are wanted: upN, upon. -/
theorem upN_eq (far : List Int) (k : Nat) : upN far k = nI ((List.range k).filter fun i => decide (0 ≤ far.getD i 0)) := by
  induction k with
  | zero => rfl
  | succ k ih =>
    simp only [upN]
    rw [List.range_succ, List.filter_append, ih]
    split
    · rename_i h
      rw [List.filter_cons_of_pos (by simpa using h), List.filter_nil, nI_app]
    · rename_i h
      rw [List.filter_cons_of_neg (by simpa using h), List.filter_nil, List.append_nil]
theorem upon_eq (W n : Nat) (l : List Bool) (a : Nat) : upon W n l a = nI ((List.range n).filter fun i => decide (Rch W n l a i)) := upN_eq _ _
theorem best_upon (W n : Nat) (l : List Bool) : ∀ k, ∃ j, j ≤ k ∧ best W n l k = upon W n l j := by
  intro k
  induction k with
  | zero => exact ⟨0, Nat.le_refl _, rfl⟩
  | succ k ih =>
    simp only [best]
    split
    · exact ⟨k + 1, Nat.le_refl _, rfl⟩
    · obtain ⟨j, h1, h2⟩ := ih; exact ⟨j, by omega, h2⟩
/-- The cloth hangs together. -/
def Hg (W n : Nat) (l : List Bool) : Prop := ∀ M : Nat → Prop, Cl W n l M → (∃ c, c < n ∧ M c) → ∀ x, x < n → M x
theorem hg_best {W n : Nat} {l : List Bool} (hn : 0 < n) : (best W n l (n - 1)).length = n ↔ Hg W n l := by
  constructor
  · rintro hb M hM ⟨c, hc, h0⟩ x hx
    exact rch_in hc hx hM h0 (all_near l hb hc hx)
  · intro h
    obtain ⟨j, h1, h2⟩ := best_upon W n l (n - 1)
    have hall : ∀ x, x < n → Rch W n l j x := h _ (rch_cl l (by omega)) ⟨j, by omega, rch_self l (by omega)⟩
    rw [h2, upon_eq, List.filter_eq_self.2 (fun x hx => decide_eq_true (hall x (List.mem_range.1 hx))), nI_len, List.length_range]
end Go.Proofs.YtmllhogaiahphaaDoor

/- Whole walks, and sets that come off. Plain. -/
set_option linter.unusedSimpArgs false
set_option linter.unusedVariables false
set_option maxRecDepth 100000
namespace Go.Proofs.YtmllhogaiahphaaDoor
open Go Go.Proofs Go.AW

end Go.Proofs.YtmllhogaiahphaaDoor

/- Sets told by their threads; the back. Plain. -/
set_option linter.unusedSimpArgs false
set_option linter.unusedVariables false
set_option maxRecDepth 100000
namespace Go.Proofs.YtmllhogaiahphaaDoor
open Go Go.Proofs Go.AW

/-- A thread over which nothing else counts: where the cloth hangs together, each thread lies over one. -/
theorem hg_over {W n : Nat} {l : List Bool} (h : Hg W n l) (hn : 2 ≤ n) {y : Nat} (hy : y < n) : ∃ c, c < n ∧ ov W l y c = true := by
  refine Classical.byContradiction fun hno => ?_
  have := h (fun x => x ≠ y) (fun c hc _ a ha hov e => hno ⟨c, hc, by rw [← e]; exact hov⟩) ?_ y hy
  · exact this rfl
  · by_cases e : y = 0
    · exact ⟨1, by omega, by omega⟩
    · exact ⟨0, by omega, by omega⟩
/-- Threads that stand for others. -/
theorem hg_sur {W n W' n' : Nat} {l l' : List Bool} (φ : Nat → Nat) (h1 : ∀ a, a < n' → φ a < n) (h2 : ∀ y, y < n → ∃ a, a < n' ∧ φ a = y) (hov : ∀ a, a < n' → ∀ c, c < n' → ov W' l' a c = ov W l (φ a) (φ c)) (hn : 2 ≤ n) : Hg W n l ↔ Hg W' n' l' := by
  constructor
  · rintro h M hM ⟨c0, hc0, m0⟩ x hx
    have hall : ∀ y, y < n → ∃ a, a < n' ∧ φ a = y ∧ M a := by
      refine h (fun y => ∃ a, a < n' ∧ φ a = y ∧ M a) (fun c hc hm a ha ho => ?_) ⟨φ c0, h1 c0 hc0, c0, hc0, rfl, m0⟩
      obtain ⟨c', g1, g2, g3⟩ := hm
      obtain ⟨a', g4, g5⟩ := h2 a ha
      exact ⟨a', g4, g5, hM c' g1 g3 a' g4 (by rw [hov a' g4 c' g1, g5, g2]; exact ho)⟩
    obtain ⟨c, hc, ho⟩ := hg_over h hn (h1 x hx)
    obtain ⟨c', g1, g2, g3⟩ := hall c hc
    exact hM c' g1 g3 x hx (by rw [hov x hx c' g1, g2]; exact ho)
  · rintro h M hM ⟨c0, hc0, m0⟩ x hx
    obtain ⟨c', g1, g2⟩ := h2 c0 hc0
    obtain ⟨x', g3, g4⟩ := h2 x hx
    have := h (fun a => M (φ a)) (fun c hc hm a ha ho => hM _ (h1 c hc) hm _ (h1 a ha) (by rw [← hov a ha c hc]; exact ho)) ⟨c', g1, by rw [g2]; exact m0⟩ x' g3
    rw [g4] at this; exact this
end Go.Proofs.YtmllhogaiahphaaDoor

/- The law HangWalks. -/
set_option linter.unusedSimpArgs false
set_option linter.unusedVariables false
set_option maxRecDepth 100000
namespace Go.Proofs.YtmllhogaiahphaaDoor
open Go Go.Proofs Go.AW

end Go.Proofs.YtmllhogaiahphaaDoor

/- The examples of chapters 10 and 12 hold. -/
set_option maxRecDepth 100000
namespace Go.Proofs.YtmllhogaiahphaaDoor
open Go Go.Proofs Go.AW
theorem hangAlive_c : Contract Tryd.prog 5 [] (B true) := Contract.run xGood 5000 (by kernel_rfl)
end Go.Proofs.YtmllhogaiahphaaDoor

/- The law HangExactly. -/
set_option linter.unusedSimpArgs false
set_option linter.unusedVariables false
set_option maxRecDepth 100000
namespace Go.Proofs.YtmllhogaiahphaaDoor
open Go Go.Proofs Go.AW

/-- A cloth that chapter 10's statements speak of. -/
def vld (w h : Int) (l : List Bool) : Prop := ¬ 200 < (l.length : Int) ∧ gchk w h l.length = 0 ∧ w + h ≤ 24
theorem vld_nat {w h : Int} {l : List Bool} (hv : vld w h l) : ∃ W H n : Nat, w = W ∧ h = H ∧ W + H = n ∧ 0 < W ∧ 0 < H ∧ n ≤ 24 ∧ l.length = W * H := by
  obtain ⟨h1, hz, h2⟩ := hv
  obtain ⟨g1, g2, g3, g4, g5⟩ := gchk_iff.1 hz
  refine ⟨w.toNat, h.toNat, w.toNat + h.toNat, by omega, by omega, rfl, by omega, by omega, by omega, ?_⟩
  have e1 : ((w.toNat * h.toNat : Nat) : Int) = (w.toNat : Int) * h.toNat := Int.natCast_mul _ _
  rw [show ((w.toNat : Nat) : Int) = w by omega, show ((h.toNat : Nat) : Int) = h by omega] at e1
  omega
theorem valid10_c (w h : Int) (b : Bool) (l : List Bool) (r : Bool) (hr : r = true ↔ vld w h l) : Contract Tryd.prog 4 [GA w h b l] (B r) := by
  have hno : ¬ vld w h l → r = false := fun hn => by
    cases r with
    | false => rfl
    | true => exact absurd (hr.1 rfl) hn
  by_cases c1 : 200 < (l.length : Int)
  · obtain rfl := hno fun hv => hv.1 c1
    refine Contract.intro (effS [] false) 6 follows Tryd.func4 rfl rfl (by kernel_rfl) (Nat.le_of_ble_eq_true rfl) ?_
    simp (disch := first | assumption | omega | rfl | simp only [RH]) only [↓RP, RG, FX, RQ, ↓reduceIte, Nat.reduceEqDiff, reduceCtorEq, Nat.reduceBEq, Nat.reduceAdd, Nat.reduceLeDiff, args0_1]
    refine callK_F 6 (great10_a w h b l c1) (by simp (disch := first | assumption | omega | rfl | simp only [RH]) only [↓RP, RG, FX, RQ, ↓reduceIte, Nat.reduceEqDiff, reduceCtorEq, Nat.reduceBEq, Nat.reduceAdd, Nat.reduceLeDiff, RA] <;> rfl) (.inl (by simp [allFresh, ints_fresh, bools_fresh])) ?_
    simp (disch := first | assumption | omega | rfl | simp only [RH]) only [↓RP, RG, FX, RQ, ↓reduceIte, Nat.reduceEqDiff, reduceCtorEq, Nat.reduceBEq, Nat.reduceAdd, Nat.reduceLeDiff]
    rw [resVal_1 rfl]; simp (disch := first | assumption | omega | rfl | simp only [RH]) only [↓RP, RG, FX, RQ, ↓reduceIte, Nat.reduceEqDiff, reduceCtorEq, Nat.reduceBEq, Nat.reduceAdd, Nat.reduceLeDiff, RS]
  by_cases hz : gchk w h l.length = 0
  · obtain ⟨g1, g2, g3, g4, g5⟩ := gchk_iff.1 hz
    obtain ⟨W, rfl⟩ : ∃ W : Nat, w = W := ⟨w.toNat, by omega⟩
    obtain ⟨H, rfl⟩ : ∃ H : Nat, h = H := ⟨h.toNat, by omega⟩
    have hG := great10_c W H b l c1 hz (by omega) (by omega)
    by_cases c3 : 24 < (W : Int) + H
    · rw [decide_eq_true c3] at hG
      obtain rfl := hno fun hv => by have := hv.2.2; omega
      refine Contract.intro (effS [] false) 6 follows Tryd.func4 rfl rfl (by kernel_rfl) (Nat.le_of_ble_eq_true rfl) ?_
      simp (disch := first | assumption | omega | rfl | simp only [RH]) only [↓RP, RG, FX, RQ, ↓reduceIte, Nat.reduceEqDiff, reduceCtorEq, Nat.reduceBEq, Nat.reduceAdd, Nat.reduceLeDiff, args0_1]
      refine callK_F 6 (hG) (by simp (disch := first | assumption | omega | rfl | simp only [RH]) only [↓RP, RG, FX, RQ, ↓reduceIte, Nat.reduceEqDiff, reduceCtorEq, Nat.reduceBEq, Nat.reduceAdd, Nat.reduceLeDiff, RA] <;> rfl) (.inl (by simp [allFresh, ints_fresh, bools_fresh])) ?_
      simp (disch := first | assumption | omega | rfl | simp only [RH]) only [↓RP, RG, FX, RQ, ↓reduceIte, Nat.reduceEqDiff, reduceCtorEq, Nat.reduceBEq, Nat.reduceAdd, Nat.reduceLeDiff]
      rw [resVal_1 rfl]; simp (disch := first | assumption | omega | rfl | simp only [RH]) only [↓RP, RG, FX, RQ, ↓reduceIte, Nat.reduceEqDiff, reduceCtorEq, Nat.reduceBEq, Nat.reduceAdd, Nat.reduceLeDiff, RS]
    · rw [decide_eq_false c3] at hG
      obtain rfl := hr.2 ⟨c1, hz, by omega⟩
      refine Contract.intro (effS [] false) 6 follows Tryd.func4 rfl rfl (by kernel_rfl) (Nat.le_of_ble_eq_true rfl) ?_
      simp (disch := first | assumption | omega | rfl | simp only [RH]) only [↓RP, RG, FX, RQ, ↓reduceIte, Nat.reduceEqDiff, reduceCtorEq, Nat.reduceBEq, Nat.reduceAdd, Nat.reduceLeDiff, args0_1]
      refine callK_F 6 (hG) (by simp (disch := first | assumption | omega | rfl | simp only [RH]) only [↓RP, RG, FX, RQ, ↓reduceIte, Nat.reduceEqDiff, reduceCtorEq, Nat.reduceBEq, Nat.reduceAdd, Nat.reduceLeDiff, RA] <;> rfl) (.inl (by simp [allFresh, ints_fresh, bools_fresh])) ?_
      simp (disch := first | assumption | omega | rfl | simp only [RH]) only [↓RP, RG, FX, RQ, ↓reduceIte, Nat.reduceEqDiff, reduceCtorEq, Nat.reduceBEq, Nat.reduceAdd, Nat.reduceLeDiff]
      refine callK_F 6 (gcheckR_c W H b l) (by simp (disch := first | assumption | omega | rfl | simp only [RH]) only [↓RP, RG, FX, RQ, ↓reduceIte, Nat.reduceEqDiff, reduceCtorEq, Nat.reduceBEq, Nat.reduceAdd, Nat.reduceLeDiff, RA] <;> rfl) (.inl (by simp [allFresh, ints_fresh, bools_fresh])) ?_
      simp (disch := first | assumption | omega | rfl | simp only [RH]) only [↓RP, RG, FX, RQ, ↓reduceIte, Nat.reduceEqDiff, reduceCtorEq, Nat.reduceBEq, Nat.reduceAdd, Nat.reduceLeDiff, hz]
      rw [resVal_1 rfl]; simp (disch := first | assumption | omega | rfl | simp only [RH]) only [↓RP, RG, FX, RQ, ↓reduceIte, Nat.reduceEqDiff, reduceCtorEq, Nat.reduceBEq, Nat.reduceAdd, Nat.reduceLeDiff, RS]
  · obtain rfl := hno fun hv => hz hv.2.1
    refine Contract.intro (effS [] false) 6 follows Tryd.func4 rfl rfl (by kernel_rfl) (Nat.le_of_ble_eq_true rfl) ?_
    simp (disch := first | assumption | omega | rfl | simp only [RH]) only [↓RP, RG, FX, RQ, ↓reduceIte, Nat.reduceEqDiff, reduceCtorEq, Nat.reduceBEq, Nat.reduceAdd, Nat.reduceLeDiff, args0_1]
    refine callK_F 6 (great10_b w h b l c1 hz) (by simp (disch := first | assumption | omega | rfl | simp only [RH]) only [↓RP, RG, FX, RQ, ↓reduceIte, Nat.reduceEqDiff, reduceCtorEq, Nat.reduceBEq, Nat.reduceAdd, Nat.reduceLeDiff, RA] <;> rfl) (.inl (by simp [allFresh, ints_fresh, bools_fresh])) ?_
    simp (disch := first | assumption | omega | rfl | simp only [RH]) only [↓RP, RG, FX, RQ, ↓reduceIte, Nat.reduceEqDiff, reduceCtorEq, Nat.reduceBEq, Nat.reduceAdd, Nat.reduceLeDiff]
    refine callK_F 6 (gcheckR_c w h b l) (by simp (disch := first | assumption | omega | rfl | simp only [RH]) only [↓RP, RG, FX, RQ, ↓reduceIte, Nat.reduceEqDiff, reduceCtorEq, Nat.reduceBEq, Nat.reduceAdd, Nat.reduceLeDiff, RA] <;> rfl) (.inl (by simp [allFresh, ints_fresh, bools_fresh])) ?_
    simp (disch := first | assumption | omega | rfl | simp only [RH]) only [↓RP, RG, FX, RQ, ↓reduceIte, Nat.reduceEqDiff, reduceCtorEq, Nat.reduceBEq, Nat.reduceAdd, Nat.reduceLeDiff]
    rw [resVal_1 rfl]; simp (disch := first | assumption | omega | rfl | simp only [RH]) only [↓RP, RG, FX, RQ, ↓reduceIte, Nat.reduceEqDiff, reduceCtorEq, Nat.reduceBEq, Nat.reduceAdd, Nat.reduceLeDiff, RS]
    first | done | exact okF (by simpa using hz)
end Go.Proofs.YtmllhogaiahphaaDoor

/- Grids: made cell by cell, turned. -/
set_option linter.unusedSimpArgs false
set_option linter.unusedVariables false
set_option maxRecDepth 100000
namespace Go.Proofs.YtmllhogaiahphaaDoor
open Go Go.Proofs Go.AW

theorem build_c (f : FuncId) (caps : List AVal) (W H : Nat) (u : Nat → Nat → Bool) (hw : W ≤ 10000) (hh : H ≤ 10000) (hcaps : ∀ r : List AObj, caps.map (argOf r 6) = caps) (hup : ∀ x y : Nat, x < W → y < H → Contract Tryd.prog f ([I x, I y] ++ caps) (B (u x y))) :
    Contract Tryd.prog 20 [I W, I H, .func (.func f) [] caps] (GR W H false (tabN W u (W * H))) := by
  have hm := mul_bd (W := W) (H := H) hw hh
  refine Contract.intro (effS [] false) 6 follows Tryd.func20 rfl rfl (by kernel_rfl) (Nat.le_of_ble_eq_true rfl) ?_
  simp (disch := first | assumption | omega | rfl | simp only [RH]) only [↓RP, RG, FX, RQ, ↓reduceIte, Nat.reduceEqDiff, reduceCtorEq, Nat.reduceBEq, Nat.reduceAdd, Nat.reduceLeDiff, args0_3, make_bool, Int.toNat_zero]
  refine loopK_I [0, 1, 2, 6, 7, 17, 18] (fun y : Nat => y ≤ H) (fun y => ⟨[(0, I W), (1, I H), (2, .func (.func f) [] caps), (6, .ptr 0 0 3), (7, .ptr 2 0 3), (17, I H), (18, I y)], [⟨24, 3, [I 0, I 0, .cap0 true]⟩, ⟨4, 1, bools (tabN W u (W * y))⟩, ⟨24, 3, [I W, I H, .ref 1 0 (W * y) (W * y)]⟩]⟩) (fun y => H - y) 0 (by omega) (by simp only [↓RP, RG, FX, RQ, ↓reduceIte, Nat.reduceEqDiff, reduceCtorEq, Nat.reduceBEq, Nat.reduceAdd, Nat.reduceLeDiff, List.replicate_zero, Nat.mul_zero]; rfl) ?_
  intro y hy
  by_cases hlt : y < H
  · simp (disch := first | assumption | omega | rfl | simp only [RH]) only [↓RP, RG, FX, RQ, ↓reduceIte, Nat.reduceEqDiff, reduceCtorEq, Nat.reduceBEq, Nat.reduceAdd, Nat.reduceLeDiff]
    refine loopK_I [0, 1, 2, 6, 7, 8, 17, 18, 21, 22] (fun x : Nat => x ≤ W) (fun x => ⟨[(0, I W), (1, I H), (2, .func (.func f) [] caps), (6, .ptr 0 0 3), (7, .ptr 2 0 3), (8, I y), (17, I H), (18, I y), (21, I W), (22, I x)], [⟨24, 3, [I 0, I 0, .cap0 true]⟩, ⟨4, 1, bools (tabN W u (W * y + x))⟩, ⟨24, 3, [I W, I H, .ref 1 0 (W * y + x) (W * y + x)]⟩]⟩) (fun x => W - x) 0 (by omega) (by simp only [↓RP, RG, FX, RQ, ↓reduceIte, Nat.reduceEqDiff, reduceCtorEq, Nat.reduceBEq, Nat.reduceAdd, Nat.reduceLeDiff]; rfl) ?_
    intro x hx
    by_cases hlt2 : x < W
    · have hl := tabN_len W u (W * y + x)
      have hb : W * y + x ≤ 1000000000 := by
        have : W * y ≤ 10000 * 10000 := Nat.mul_le_mul hw (by omega)
        omega
      simp (disch := first | assumption | omega | rfl | simp only [RH]) only [↓RP, RG, FX, RQ, ↓reduceIte, Nat.reduceEqDiff, reduceCtorEq, Nat.reduceBEq, Nat.reduceAdd, Nat.reduceLeDiff]
      refine callK_V 6 (hup x y hlt2 hlt) (by rw [List.nil_append, List.map_append, hcaps]; rfl) (.inl rfl) ?_
      simp (disch := first | assumption | omega | rfl | simp only [RH]) only [↓RP, RG, FX, RQ, ↓reduceIte, Nat.reduceEqDiff, reduceCtorEq, Nat.reduceBEq, Nat.reduceAdd, Nat.reduceLeDiff, append_refB, apRX_bools]
      exact ⟨x + 1, by omega, by rw [show W * y + (x + 1) = W * y + x + 1 from rfl, tabN_succ W u hlt2]; rfl, by omega⟩
    · obtain rfl : x = W := by omega
      simp (disch := first | assumption | omega | rfl | simp only [RH]) only [↓RP, RG, FX, RQ, ↓reduceIte, Nat.reduceEqDiff, reduceCtorEq, Nat.reduceBEq, Nat.reduceAdd, Nat.reduceLeDiff]
      exact ⟨y + 1, by omega, rfl, by omega⟩
  · obtain rfl : y = H := by omega
    have hl := tabN_len W u (W * y)
    simp (disch := first | assumption | omega | rfl | simp only [RH]) only [↓RP, RG, FX, RQ, ↓reduceIte, Nat.reduceEqDiff, reduceCtorEq, Nat.reduceBEq, Nat.reduceAdd, Nat.reduceLeDiff]
    rw [resVal_1 rfl]; simp (disch := first | assumption | omega | rfl | simp only [RH]) only [↓RP, RG, FX, RQ, ↓reduceIte, Nat.reduceEqDiff, reduceCtorEq, Nat.reduceBEq, Nat.reduceAdd, Nat.reduceLeDiff, RS]
    first | done | rw [hl]

/-- A grid turned. -/
def uT (W : Nat) (l : List Bool) (x y : Nat) : Bool := cell W l y x
theorem turnF_c {W H : Nat} (hW : W ≤ 64) (hH : H ≤ 64) (b : Bool) {l : List Bool} (hn : l.length = W * H) {x y : Nat} (hx : x < H) (hy : y < W) :
    Contract Tryd.prog 22 [I x, I y, .spot false [I W, I H, BA b l]] (B (uT W l x y)) := by
  have h1 := idx_lt (W := W) (H := H) (x := y) (y := x) hy hx
  have h2 := idx_nat W x y
  have h3 : W * H ≤ 64 * 64 := Nat.mul_le_mul hW hH
  have h4 : (x : Int) * (W : Int) = ((W * x : Nat) : Int) := by rw [Int.natCast_mul, Int.mul_comm]
  have h5 : W * x ≤ 64 * 64 := Nat.mul_le_mul hW (by omega)
  refine Contract.intro (effS [] false) 6 follows Tryd.func22 rfl rfl (by kernel_rfl) (Nat.le_of_ble_eq_true rfl) ?_
  simp (disch := first | assumption | omega | rfl | simp only [RH]) only [↓RP, RG, FX, RQ, ↓reduceIte, Nat.reduceEqDiff, reduceCtorEq, Nat.reduceBEq, Nat.reduceAdd, Nat.reduceLeDiff, args0_3]
  rw [resVal_1 rfl]; simp (disch := first | assumption | omega | rfl | simp only [RH]) only [↓RP, RG, FX, RQ, ↓reduceIte, Nat.reduceEqDiff, reduceCtorEq, Nat.reduceBEq, Nat.reduceAdd, Nat.reduceLeDiff, RS]
  first | done | (unfold uT cell; rfl)

theorem gturnP_c {W H : Nat} (hW0 : 0 < W) (hH0 : 0 < H) (hW : W ≤ 64) (hH : H ≤ 64) (b : Bool) {l : List Bool} (hn : l.length = W * H) :
    Contract Tryd.prog 8 [GA W H b l] (.tuple [GR H W false (tabN H (uT W l) (H * W)), I 0]) := by
  have hz : gchk W H l.length = 0 := gchk_ok ⟨by omega, by omega, by omega, by omega, by rw [hn, Int.natCast_mul]⟩
  refine Contract.intro (effS [] false) 6 follows Tryd.func8 rfl rfl (by kernel_rfl) (Nat.le_of_ble_eq_true rfl) ?_
  simp (disch := first | assumption | omega | rfl | simp only [RH]) only [↓RP, RG, FX, RQ, ↓reduceIte, Nat.reduceEqDiff, reduceCtorEq, Nat.reduceBEq, Nat.reduceAdd, Nat.reduceLeDiff, args0_1]
  refine callK_F 6 (gcheckP_c W H b l) (by simp (disch := first | assumption | omega | rfl | simp only [RH]) only [↓RP, RG, FX, RQ, ↓reduceIte, Nat.reduceEqDiff, reduceCtorEq, Nat.reduceBEq, Nat.reduceAdd, Nat.reduceLeDiff, RA] <;> rfl) (.inl (by simp [allFresh, ints_fresh, bools_fresh])) ?_
  simp (disch := first | assumption | omega | rfl | simp only [RH]) only [↓RP, RG, FX, RQ, ↓reduceIte, Nat.reduceEqDiff, reduceCtorEq, Nat.reduceBEq, Nat.reduceAdd, Nat.reduceLeDiff]
  refine callK_F 6 (build_c 22 [.spot false [I W, I H, BA b l]] H W (uT W l) (by omega) (by omega) (fun r => by simp [argOf]; exact bools_arg l r 3) (fun x y hx hy => turnF_c hW hH b hn hx hy)) (by simp (disch := first | assumption | omega | rfl | simp only [RH]) only [↓RP, RG, FX, RQ, ↓reduceIte, Nat.reduceEqDiff, reduceCtorEq, Nat.reduceBEq, Nat.reduceAdd, Nat.reduceLeDiff, RA] <;> rfl) (.inl (by simp [allFresh, ints_fresh, bools_fresh])) ?_
  simp (disch := first | assumption | omega | rfl | simp only [RH]) only [↓RP, RG, FX, RQ, ↓reduceIte, Nat.reduceEqDiff, reduceCtorEq, Nat.reduceBEq, Nat.reduceAdd, Nat.reduceLeDiff]
  rw [resVal_2 rfl]; simp (disch := first | assumption | omega | rfl | simp only [RH]) only [↓RP, RG, FX, RQ, ↓reduceIte, Nat.reduceEqDiff, reduceCtorEq, Nat.reduceBEq, Nat.reduceAdd, Nat.reduceLeDiff, RS]
end Go.Proofs.YtmllhogaiahphaaDoor

/- The back of a cloth, by the program; how threads lie there. -/
set_option linter.unusedSimpArgs false
set_option linter.unusedVariables false
set_option maxRecDepth 100000
namespace Go.Proofs.YtmllhogaiahphaaDoor
open Go Go.Proofs Go.AW

def uN (W : Nat) (l : List Bool) (x y : Nat) : Bool := !cell W l x y
theorem notF_c {W H : Nat} (hW : W ≤ 64) (hH : H ≤ 64) (b : Bool) {l : List Bool} (hn : l.length = W * H) {x y : Nat} (hx : x < W) (hy : y < H) :
    Contract Tryd.prog 21 [I x, I y, .spot false [I W, I H, BA b l]] (B (uN W l x y)) := by
  have h1 := idx_lt (W := W) (H := H) (x := x) (y := y) hx hy
  have h2 := idx_nat W y x
  have h3 : W * H ≤ 64 * 64 := Nat.mul_le_mul hW hH
  have h4 : (y : Int) * (W : Int) = ((W * y : Nat) : Int) := by rw [Int.natCast_mul, Int.mul_comm]
  have h5 : W * y ≤ 64 * 64 := Nat.mul_le_mul hW (by omega)
  refine Contract.intro (effS [] false) 6 follows Tryd.func21 rfl rfl (by kernel_rfl) (Nat.le_of_ble_eq_true rfl) ?_
  simp (disch := first | assumption | omega | rfl | simp only [RH]) only [↓RP, RG, FX, RQ, ↓reduceIte, Nat.reduceEqDiff, reduceCtorEq, Nat.reduceBEq, Nat.reduceAdd, Nat.reduceLeDiff, args0_3]
  rw [resVal_1 rfl]; simp (disch := first | assumption | omega | rfl | simp only [RH]) only [↓RP, RG, FX, RQ, ↓reduceIte, Nat.reduceEqDiff, reduceCtorEq, Nat.reduceBEq, Nat.reduceAdd, Nat.reduceLeDiff, RS]
  first | done | (unfold uN cell; rfl)
theorem notP_c {W H : Nat} (hW0 : 0 < W) (hH0 : 0 < H) (hW : W ≤ 64) (hH : H ≤ 64) (b : Bool) {l : List Bool} (hn : l.length = W * H) :
    Contract Tryd.prog 7 [GA W H b l] (.tuple [GR W H false (tabN W (uN W l) (W * H)), I 0]) := by
  have hz : gchk W H l.length = 0 := gchk_ok ⟨by omega, by omega, by omega, by omega, by rw [hn, Int.natCast_mul]⟩
  refine Contract.intro (effS [] false) 6 follows Tryd.func7 rfl rfl (by kernel_rfl) (Nat.le_of_ble_eq_true rfl) ?_
  simp (disch := first | assumption | omega | rfl | simp only [RH]) only [↓RP, RG, FX, RQ, ↓reduceIte, Nat.reduceEqDiff, reduceCtorEq, Nat.reduceBEq, Nat.reduceAdd, Nat.reduceLeDiff, args0_1]
  refine callK_F 6 (gcheckP_c W H b l) (by simp (disch := first | assumption | omega | rfl | simp only [RH]) only [↓RP, RG, FX, RQ, ↓reduceIte, Nat.reduceEqDiff, reduceCtorEq, Nat.reduceBEq, Nat.reduceAdd, Nat.reduceLeDiff, RA] <;> rfl) (.inl (by simp [allFresh, ints_fresh, bools_fresh])) ?_
  simp (disch := first | assumption | omega | rfl | simp only [RH]) only [↓RP, RG, FX, RQ, ↓reduceIte, Nat.reduceEqDiff, reduceCtorEq, Nat.reduceBEq, Nat.reduceAdd, Nat.reduceLeDiff]
  refine callK_F 6 (build_c 21 [.spot false [I W, I H, BA b l]] W H (uN W l) (by omega) (by omega) (fun r => by simp [argOf]; exact bools_arg l r 3) (fun x y hx hy => notF_c hW hH b hn hx hy)) (by simp (disch := first | assumption | omega | rfl | simp only [RH]) only [↓RP, RG, FX, RQ, ↓reduceIte, Nat.reduceEqDiff, reduceCtorEq, Nat.reduceBEq, Nat.reduceAdd, Nat.reduceLeDiff, RA] <;> rfl) (.inl (by simp [allFresh, ints_fresh, bools_fresh])) ?_
  simp (disch := first | assumption | omega | rfl | simp only [RH]) only [↓RP, RG, FX, RQ, ↓reduceIte, Nat.reduceEqDiff, reduceCtorEq, Nat.reduceBEq, Nat.reduceAdd, Nat.reduceLeDiff]
  rw [resVal_2 rfl]; simp (disch := first | assumption | omega | rfl | simp only [RH]) only [↓RP, RG, FX, RQ, ↓reduceIte, Nat.reduceEqDiff, reduceCtorEq, Nat.reduceBEq, Nat.reduceAdd, Nat.reduceLeDiff, RS]
theorem cellN (W : Nat) (l : List Bool) (x y : Nat) : cell W l x y = l.getD (W * y + x) false := by
  unfold cell; rw [idx_nat W y x]
theorem ov_not {W H n : Nat} (hN : W + H = n) {l : List Bool} : ∀ a, a < n → ∀ c, c < n → ov W (tabN W (uN W l) (W * H)) a c = ov W l c a := by
  intro a ha c hc
  unfold ov
  by_cases h1 : a < W <;> by_cases h2 : c < W
  · rw [if_pos h1, if_pos h2, if_pos h2, if_pos h1]
  · rw [if_pos h1, if_neg h2, if_neg h2, if_pos h1, tabN_get W _ h1 (idx_lt h1 (by omega))]
    unfold uN; rw [cellN]
  · rw [if_neg h1, if_pos h2, if_pos h2, if_neg h1, tabN_get W _ h2 (idx_lt h2 (by omega))]
    unfold uN; rw [cellN, Bool.not_not]
  · rw [if_neg h1, if_neg h2, if_neg h2, if_neg h1]
end Go.Proofs.YtmllhogaiahphaaDoor

/- Cloths that hang together alike. Plain. -/
set_option linter.unusedSimpArgs false
set_option linter.unusedVariables false
set_option maxRecDepth 100000
namespace Go.Proofs.YtmllhogaiahphaaDoor
open Go Go.Proofs Go.AW

/-- Each column and row of the one stands for one of the other. -/
theorem hg_like {W H W' H' n n' : Nat} (hN : W + H = n) (hN' : W' + H' = n') (hn : 2 ≤ n) {l l' : List Bool} (φ ψ : Nat → Nat) (f1 : ∀ x, x < W' → φ x < W) (f2 : ∀ x, x < W → ∃ a, a < W' ∧ φ a = x) (g1 : ∀ y, y < H' → ψ y < H) (g2 : ∀ y, y < H → ∃ a, a < H' ∧ ψ a = y)
    (h : ∀ x y, x < W' → y < H' → l'.getD (W' * y + x) false = l.getD (W * ψ y + φ x) false) : Hg W n l ↔ Hg W' n' l' := by
  refine hg_sur (fun a => if a < W' then φ a else W + ψ (a - W')) (fun a ha => ?_) (fun y hy => ?_) (fun a ha c hc => ?_) hn
  · show (if a < W' then φ a else W + ψ (a - W')) < n
    split
    · rename_i h1; have := f1 a h1; omega
    · rename_i h1; have := g1 (a - W') (by omega); omega
  · by_cases h1 : y < W
    · obtain ⟨a, h2, h3⟩ := f2 y h1
      refine ⟨a, by omega, ?_⟩
      show (if a < W' then φ a else W + ψ (a - W')) = y
      rw [if_pos h2, h3]
    · obtain ⟨a, h2, h3⟩ := g2 (y - W) (by omega)
      refine ⟨W' + a, by omega, ?_⟩
      show (if W' + a < W' then φ (W' + a) else W + ψ (W' + a - W')) = y
      rw [if_neg (by omega), show W' + a - W' = a by omega, h3]
      omega
  · show ov W' l' a c = ov W l (if a < W' then φ a else W + ψ (a - W')) (if c < W' then φ c else W + ψ (c - W'))
    unfold ov
    by_cases h1 : a < W' <;> by_cases h2 : c < W'
    · have q1 := f1 a h1
      have q2 := f1 c h2
      simp only [if_pos h1, if_pos h2, if_pos q1, if_pos q2]
    · have q1 := f1 a h1
      have q2 : ¬ W + ψ (c - W') < W := by omega
      simp only [if_pos h1, if_neg h2, if_pos q1, if_neg q2]
      rw [h a (c - W') h1 (by omega), show W + ψ (c - W') - W = ψ (c - W') by omega]
    · have q2 := f1 c h2
      have q1 : ¬ W + ψ (a - W') < W := by omega
      simp only [if_neg h1, if_pos h2, if_neg q1, if_pos q2]
      rw [h c (a - W') h2 (by omega), show W + ψ (a - W') - W = ψ (a - W') by omega]
    · have q1 : ¬ W + ψ (a - W') < W := by omega
      have q2 : ¬ W + ψ (c - W') < W := by omega
      simp only [if_neg h1, if_neg h2, if_neg q1, if_neg q2]
/-- What lies over what, turned round. -/
theorem hg_rev2 {W n W' : Nat} {l l' : List Bool} (φ ψ : Nat → Nat) (h1 : ∀ a, a < n → φ a < n) (h2 : ∀ a, a < n → ψ a < n) (h3 : ∀ a, a < n → φ (ψ a) = a) (h4 : ∀ a, a < n → ψ (φ a) = a) (hov : ∀ a, a < n → ∀ c, c < n → ov W' l' a c = ov W l (φ c) (φ a)) : Hg W n l → Hg W' n l' := by
  rintro h M hM ⟨c0, hc0, m0⟩ x hx
  refine Classical.byContradiction fun hx0 => ?_
  refine h (fun y => ¬ M (ψ y)) (fun c hc hm a ha ho hma => ?_) ⟨φ x, h1 x hx, by rw [h4 x hx]; exact hx0⟩ (φ c0) (h1 c0 hc0) (by rw [h4 c0 hc0]; exact m0)
  exact hm (hM (ψ a) (h2 a ha) hma (ψ c) (h2 c hc) (by rw [hov _ (h2 c hc) _ (h2 a ha), h3 a ha, h3 c hc]; exact ho))
theorem hg_not {W H n : Nat} (hN : W + H = n) {l : List Bool} (hn : l.length = W * H) : Hg W n l ↔ Hg W n (tabN W (uN W l) (W * H)) := by
  constructor
  · exact hg_rev2 id id (fun a h => h) (fun a h => h) (fun a _ => rfl) (fun a _ => rfl) (ov_not hN)
  · intro h
    refine hg_rev2 id id (fun a h => h) (fun a h => h) (fun a _ => rfl) (fun a _ => rfl) (fun a ha c hc => ?_) h
    exact (ov_not hN c hc a ha).symm
/-- A cloth, turned. -/
theorem ov_turn {W H n : Nat} (hN : W + H = n) {l l' : List Bool} (h : ∀ x y, x < H → y < W → l'.getD (H * y + x) false = l.getD (W * x + y) false) : ∀ a, a < n → ∀ c, c < n → ov H l' a c = ov W l (if c < H then W + c else c - H) (if a < H then W + a else a - H) := by
  intro a ha c hc
  unfold ov
  by_cases h1 : a < H <;> by_cases h2 : c < H
  · simp only [if_pos h1, if_pos h2, if_neg (show ¬ W + a < W by omega), if_neg (show ¬ W + c < W by omega)]
  · have q1 : c - H < W := by omega
    simp only [if_pos h1, if_neg h2, if_neg (show ¬ W + a < W by omega), if_pos q1]
    rw [h a (c - H) h1 q1, show W + a - W = a by omega]
  · have q1 : a - H < W := by omega
    simp only [if_neg h1, if_pos h2, if_neg (show ¬ W + c < W by omega), if_pos q1]
    rw [h c (a - H) h2 q1, show W + c - W = c by omega]
  · have q1 : c - H < W := by omega
    have q2 : a - H < W := by omega
    simp only [if_neg h1, if_neg h2, if_pos q1, if_pos q2]
theorem hg_turn {W H n : Nat} (hN : W + H = n) {l l' : List Bool} (h : ∀ x y, x < H → y < W → l'.getD (H * y + x) false = l.getD (W * x + y) false) : Hg W n l ↔ Hg H n l' := by
  have p1 : ∀ a, a < n → (if a < H then W + a else a - H) < n := fun a ha => by split <;> omega
  have p2 : ∀ a, a < n → (if a < W then H + a else a - W) < n := fun a ha => by split <;> omega
  have p3 : ∀ a, a < n → (if (if a < W then H + a else a - W) < H then W + (if a < W then H + a else a - W) else (if a < W then H + a else a - W) - H) = a := fun a ha => by
    by_cases c : a < W
    · rw [if_pos c, if_neg (by omega)]; omega
    · rw [if_neg c, if_pos (by omega)]; omega
  have p4 : ∀ a, a < n → (if (if a < H then W + a else a - H) < W then H + (if a < H then W + a else a - H) else (if a < H then W + a else a - H) - W) = a := fun a ha => by
    by_cases c : a < H
    · rw [if_pos c, if_neg (by omega)]; omega
    · rw [if_neg c, if_pos (by omega)]; omega
  constructor
  · exact hg_rev2 (fun a => if a < H then W + a else a - H) (fun a => if a < W then H + a else a - W) p1 p2 p3 p4 (ov_turn hN h)
  · refine hg_rev2 (fun a => if a < W then H + a else a - W) (fun a => if a < H then W + a else a - H) p2 p1 p4 p3 (fun a ha c hc => ?_)
    have := ov_turn hN h _ (p2 c hc) _ (p2 a ha)
    rw [p3 c hc, p3 a ha] at this
    exact this.symm
end Go.Proofs.YtmllhogaiahphaaDoor

/- Cloths shifted, mirrored, tiled. Plain. -/
set_option linter.unusedSimpArgs false
set_option linter.unusedVariables false
set_option maxRecDepth 100000
namespace Go.Proofs.YtmllhogaiahphaaDoor
open Go Go.Proofs Go.AW

/-- A number modulo another one. -/
def arM (a n : Int) : Int := if a.tmod n < 0 then a.tmod n + n else a.tmod n
theorem arM_bd (a : Int) {n : Int} (hn : 0 < n) : 0 ≤ arM a n ∧ arM a n < n := by
  have h1 := Int.tmod_lt_of_pos a hn
  have h2 : -n < a.tmod n := by
    have := Int.tmod_lt_of_pos (-a) hn
    rw [Int.neg_tmod] at this
    omega
  unfold arM
  split <;> omega
theorem arM_q (a n : Int) : ∃ q, arM a n = a - n * q := by
  have h := Int.tmod_add_mul_tdiv a n
  unfold arM
  split
  · exact ⟨a.tdiv n - 1, by rw [Int.mul_sub, Int.mul_one]; omega⟩
  · exact ⟨a.tdiv n, by omega⟩
theorem arM_inj {a b n : Int} (hn : 0 < n) (h1 : a - b < n) (h2 : b - a < n) (h : arM a n = arM b n) : a = b := by
  obtain ⟨q, hq⟩ := arM_q a n
  obtain ⟨r, hr⟩ := arM_q b n
  have e : a - b = n * (q - r) := by rw [Int.mul_sub]; omega
  by_cases c1 : 1 ≤ q - r
  · have := Int.mul_le_mul_of_nonneg_left c1 (show 0 ≤ n by omega)
    omega
  · by_cases c2 : q - r ≤ -1
    · have := Int.mul_le_mul_of_nonneg_left c2 (show 0 ≤ n by omega)
      omega
    · have : q - r = 0 := by omega
      rw [this] at e
      omega
/-- A map of the numbers below n that takes none twice takes all. -/
theorem inj_sur {n : Nat} {φ : Nat → Nat} (h1 : ∀ x, x < n → φ x < n) (h2 : ∀ x y, x < n → y < n → φ x = φ y → x = y) : ∀ y, y < n → ∃ x, x < n ∧ φ x = y := by
  intro y hy
  have hnd : ((List.range n).map φ).Nodup := by
    rw [List.nodup_iff_pairwise_ne, List.pairwise_iff_getElem]
    intro i j hi hj hij he
    simp only [List.length_map, List.length_range] at hi hj
    simp only [List.getElem_map, List.getElem_range] at he
    have := h2 i j hi hj he
    omega
  have hmem : y ∈ (List.range n).map φ := by
    refine Classical.byContradiction fun hno => ?_
    have := nodup_lt n (y :: (List.range n).map φ) (List.nodup_cons.2 ⟨hno, hnd⟩) (fun x hx => by
      rcases List.mem_cons.1 hx with rfl | hx
      · exact hy
      · obtain ⟨z, hz, rfl⟩ := List.mem_map.1 hx
        exact h1 z (by simpa using hz))
    simp at this
    omega
  obtain ⟨x, hx, e⟩ := List.mem_map.1 hmem
  exact ⟨x, by simpa using hx, e⟩
/-- Where a column of a shifted cloth was. -/
def shN (d : Int) (n x : Nat) : Nat := (arM ((x : Int) - d) n).toNat
theorem shN_lt {d : Int} {n : Nat} (hn : 0 < n) (x : Nat) : shN d n x < n := by
  have := arM_bd ((x : Int) - d) (n := n) (by omega)
  unfold shN; omega
theorem shN_sur {d : Int} {n : Nat} (hn : 0 < n) : ∀ y, y < n → ∃ x, x < n ∧ shN d n x = y :=
  inj_sur (fun x _ => shN_lt hn x) fun x y hx hy he => by
    have b1 := arM_bd ((x : Int) - d) (n := n) (by omega)
    have b2 := arM_bd ((y : Int) - d) (n := n) (by omega)
    unfold shN at he
    have := arM_inj (a := (x : Int) - d) (b := (y : Int) - d) (n := n) (by omega) (by omega) (by omega) (by omega)
    omega
/-- Tables that show a cloth's cells. -/
def uS (W H : Nat) (l : List Bool) (φ ψ : Nat → Nat) (x y : Nat) : Bool := l.getD (W * ψ y + φ x) false
theorem hg_tab {W H W' H' n n' : Nat} (hN : W + H = n) (hN' : W' + H' = n') (hn : 2 ≤ n) {l : List Bool} (φ ψ : Nat → Nat) (f1 : ∀ x, x < W' → φ x < W) (f2 : ∀ x, x < W → ∃ a, a < W' ∧ φ a = x) (g1 : ∀ y, y < H' → ψ y < H) (g2 : ∀ y, y < H → ∃ a, a < H' ∧ ψ a = y) : Hg W n l ↔ Hg W' n' (tabN W' (uS W H l φ ψ) (W' * H')) :=
  hg_like hN hN' hn φ ψ f1 f2 g1 g2 fun x y hx hy => by rw [tabN_get _ _ hx (idx_lt hx hy)]; rfl
end Go.Proofs.YtmllhogaiahphaaDoor

/- Grids shifted, mirrored, tiled: the walks. -/
set_option linter.unusedSimpArgs false
set_option linter.unusedVariables false
set_option maxRecDepth 100000
namespace Go.Proofs.YtmllhogaiahphaaDoor
open Go Go.Proofs Go.AW

theorem around_c (a : Int) {n : Nat} (hn : 0 < n) (hn64 : n ≤ 1000) : Contract Tryd.prog 23 [I a, I n] (I (arM a n)) := by
  have hb := arM_bd a (n := n) (by omega)
  have h1 := Int.tmod_lt_of_pos a (show (0 : Int) < n by omega)
  have hr : aInt .rem .i64 a (n : Int) = some (.val (.int .i64 (a.tmod n))) := by
    simp only [aInt]; rw [if_neg (by omega)]
  by_cases c : a.tmod n < 0
  · have e : arM a n = a.tmod n + n := by unfold arM; rw [if_pos c]
    rw [e] at hb
    rw [e]
    generalize a.tmod n = r at *
    refine Contract.intro (effS [] false) 6 follows Tryd.func23 rfl rfl (by kernel_rfl) (Nat.le_of_ble_eq_true rfl) ?_
    simp (disch := first | assumption | omega | rfl | simp only [RH]) only [↓RP, RG, FX, RQ, ↓reduceIte, Nat.reduceEqDiff, reduceCtorEq, Nat.reduceBEq, Nat.reduceAdd, Nat.reduceLeDiff, args0_2, hr]
    rw [resVal_1 rfl]; simp (disch := first | assumption | omega | rfl | simp only [RH]) only [↓RP, RG, FX, RQ, ↓reduceIte, Nat.reduceEqDiff, reduceCtorEq, Nat.reduceBEq, Nat.reduceAdd, Nat.reduceLeDiff, RS]
    first | done | rfl
  · have e : arM a n = a.tmod n := by unfold arM; rw [if_neg c]
    rw [e]
    generalize a.tmod n = r at *
    refine Contract.intro (effS [] false) 6 follows Tryd.func23 rfl rfl (by kernel_rfl) (Nat.le_of_ble_eq_true rfl) ?_
    simp (disch := first | assumption | omega | rfl | simp only [RH]) only [↓RP, RG, FX, RQ, ↓reduceIte, Nat.reduceEqDiff, reduceCtorEq, Nat.reduceBEq, Nat.reduceAdd, Nat.reduceLeDiff, args0_2, hr]
    rw [resVal_1 rfl]; simp (disch := first | assumption | omega | rfl | simp only [RH]) only [↓RP, RG, FX, RQ, ↓reduceIte, Nat.reduceEqDiff, reduceCtorEq, Nat.reduceBEq, Nat.reduceAdd, Nat.reduceLeDiff, RS]
    first | done | rfl
section
variable {W H : Nat} (hW0 : 0 < W) (hH0 : 0 < H) (hW : W ≤ 64) (hH : H ≤ 64) (b : Bool) {l : List Bool} (hn : l.length = W * H)
include hW0 hH0 hW hH hn
theorem shiftF_c {dx dy : Int} (d1 : 0 ≤ dx ∧ dx < W) (d2 : 0 ≤ dy ∧ dy < H) {x y : Nat} (hx : x < W) (hy : y < H) :
    Contract Tryd.prog 24 [I x, I y, .spot false [I W, I H, BA b l], .spot false [I dy], .spot false [I dx]] (B (uS W H l (shN dx W) (shN dy H) x y)) := by
  have a1 := around_c ((x : Int) - dx) hW0 (by omega)
  have a2 := around_c ((y : Int) - dy) hH0 (by omega)
  have s1 := shN_lt (d := dx) hW0 x
  have s2 := shN_lt (d := dy) hH0 y
  have b1 := arM_bd ((x : Int) - dx) (n := W) (by omega)
  have b2 := arM_bd ((y : Int) - dy) (n := H) (by omega)
  have e1 : arM ((x : Int) - dx) W = (shN dx W x : Int) := by unfold shN; omega
  have e2 : arM ((y : Int) - dy) H = (shN dy H y : Int) := by unfold shN; omega
  rw [e1] at a1
  rw [e2] at a2
  unfold uS
  generalize shN dx W x = p at *
  generalize shN dy H y = q at *
  have hil := idx_lt s1 s2
  have hWH : W * H ≤ 64 * 64 := Nat.mul_le_mul hW hH
  have m1 : (q : Int) * (W : Int) = ((W * q : Nat) : Int) := by rw [Int.natCast_mul, Int.mul_comm]
  have m2 : ((W * q : Nat) : Int) + (p : Int) = ((W * q + p : Nat) : Int) := by omega
  refine Contract.intro (effS [] false) 6 follows Tryd.func24 rfl rfl (by kernel_rfl) (Nat.le_of_ble_eq_true rfl) ?_
  simp (disch := first | assumption | omega | rfl | simp only [RH]) only [↓RP, RG, FX, RQ, ↓reduceIte, Nat.reduceEqDiff, reduceCtorEq, Nat.reduceBEq, Nat.reduceAdd, Nat.reduceLeDiff, args0_5]
  refine callK_F 6 (a2) (by simp (disch := first | assumption | omega | rfl | simp only [RH]) only [↓RP, RG, FX, RQ, ↓reduceIte, Nat.reduceEqDiff, reduceCtorEq, Nat.reduceBEq, Nat.reduceAdd, Nat.reduceLeDiff, RA] <;> rfl) (.inl (by simp [allFresh, ints_fresh, bools_fresh])) ?_
  simp (disch := first | assumption | omega | rfl | simp only [RH]) only [↓RP, RG, FX, RQ, ↓reduceIte, Nat.reduceEqDiff, reduceCtorEq, Nat.reduceBEq, Nat.reduceAdd, Nat.reduceLeDiff]
  refine callK_F 6 (a1) (by simp (disch := first | assumption | omega | rfl | simp only [RH]) only [↓RP, RG, FX, RQ, ↓reduceIte, Nat.reduceEqDiff, reduceCtorEq, Nat.reduceBEq, Nat.reduceAdd, Nat.reduceLeDiff, RA] <;> rfl) (.inl (by simp [allFresh, ints_fresh, bools_fresh])) ?_
  simp (disch := first | assumption | omega | rfl | simp only [RH]) only [↓RP, RG, FX, RQ, ↓reduceIte, Nat.reduceEqDiff, reduceCtorEq, Nat.reduceBEq, Nat.reduceAdd, Nat.reduceLeDiff, m1, m2, Int.toNat_natCast]
  rw [resVal_1 rfl]; simp (disch := first | assumption | omega | rfl | simp only [RH]) only [↓RP, RG, FX, RQ, ↓reduceIte, Nat.reduceEqDiff, reduceCtorEq, Nat.reduceBEq, Nat.reduceAdd, Nat.reduceLeDiff, RS]
  first | done | rfl
theorem shiftP_c (dx dy : Int) : Contract Tryd.prog 9 [GA W H b l, I dx, I dy] (.tuple [GR W H false (tabN W (uS W H l (shN (arM dx W) W) (shN (arM dy H) H)) (W * H)), I 0]) := by
  have hz : gchk W H l.length = 0 := gchk_ok ⟨by omega, by omega, by omega, by omega, by rw [hn, Int.natCast_mul]⟩
  have hck := gcheckP_c W H b l
  rw [hz] at hck
  have a1 := around_c dx hW0 (by omega)
  have a2 := around_c dy hH0 (by omega)
  have b1 := arM_bd dx (n := W) (by omega)
  have b2 := arM_bd dy (n := H) (by omega)
  have hF := fun x y hx hy => shiftF_c hW0 hH0 hW hH b hn b1 b2 (x := x) (y := y) hx hy
  generalize arM dx W = ex at *
  generalize arM dy H = ey at *
  refine Contract.intro (effS [] false) 6 follows Tryd.func9 rfl rfl (by kernel_rfl) (Nat.le_of_ble_eq_true rfl) ?_
  simp (disch := first | assumption | omega | rfl | simp only [RH]) only [↓RP, RG, FX, RQ, ↓reduceIte, Nat.reduceEqDiff, reduceCtorEq, Nat.reduceBEq, Nat.reduceAdd, Nat.reduceLeDiff, args0_3]
  refine callK_F 6 (hck) (by simp (disch := first | assumption | omega | rfl | simp only [RH]) only [↓RP, RG, FX, RQ, ↓reduceIte, Nat.reduceEqDiff, reduceCtorEq, Nat.reduceBEq, Nat.reduceAdd, Nat.reduceLeDiff, RA] <;> rfl) (.inl (by simp [allFresh, ints_fresh, bools_fresh])) ?_
  simp (disch := first | assumption | omega | rfl | simp only [RH]) only [↓RP, RG, FX, RQ, ↓reduceIte, Nat.reduceEqDiff, reduceCtorEq, Nat.reduceBEq, Nat.reduceAdd, Nat.reduceLeDiff]
  refine callK_F 6 (a1) (by simp (disch := first | assumption | omega | rfl | simp only [RH]) only [↓RP, RG, FX, RQ, ↓reduceIte, Nat.reduceEqDiff, reduceCtorEq, Nat.reduceBEq, Nat.reduceAdd, Nat.reduceLeDiff, RA] <;> rfl) (.inl (by simp [allFresh, ints_fresh, bools_fresh])) ?_
  simp (disch := first | assumption | omega | rfl | simp only [RH]) only [↓RP, RG, FX, RQ, ↓reduceIte, Nat.reduceEqDiff, reduceCtorEq, Nat.reduceBEq, Nat.reduceAdd, Nat.reduceLeDiff]
  refine callK_F 6 (a2) (by simp (disch := first | assumption | omega | rfl | simp only [RH]) only [↓RP, RG, FX, RQ, ↓reduceIte, Nat.reduceEqDiff, reduceCtorEq, Nat.reduceBEq, Nat.reduceAdd, Nat.reduceLeDiff, RA] <;> rfl) (.inl (by simp [allFresh, ints_fresh, bools_fresh])) ?_
  simp (disch := first | assumption | omega | rfl | simp only [RH]) only [↓RP, RG, FX, RQ, ↓reduceIte, Nat.reduceEqDiff, reduceCtorEq, Nat.reduceBEq, Nat.reduceAdd, Nat.reduceLeDiff]
  refine callK_F 6 (build_c 24 [.spot false [I W, I H, BA b l], .spot false [I ey], .spot false [I ex]] W H (uS W H l (shN ex W) (shN ey H)) (by omega) (by omega) (fun r => by simp [argOf]; exact bools_arg l r 3) hF) (by simp (disch := first | assumption | omega | rfl | simp only [RH]) only [↓RP, RG, FX, RQ, ↓reduceIte, Nat.reduceEqDiff, reduceCtorEq, Nat.reduceBEq, Nat.reduceAdd, Nat.reduceLeDiff, RA] <;> rfl) (.inl (by simp [allFresh, ints_fresh, bools_fresh])) ?_
  simp (disch := first | assumption | omega | rfl | simp only [RH]) only [↓RP, RG, FX, RQ, ↓reduceIte, Nat.reduceEqDiff, reduceCtorEq, Nat.reduceBEq, Nat.reduceAdd, Nat.reduceLeDiff]
  rw [resVal_2 rfl]; simp (disch := first | assumption | omega | rfl | simp only [RH]) only [↓RP, RG, FX, RQ, ↓reduceIte, Nat.reduceEqDiff, reduceCtorEq, Nat.reduceBEq, Nat.reduceAdd, Nat.reduceLeDiff, RS]
  first | done | rfl
theorem mirrorF0_c {x y : Nat} (hx : x < W) (hy : y < H) : Contract Tryd.prog 25 [I x, I y, .spot false [I W, I H, BA b l]] (B (uS W H l (fun x => W - 1 - x) id x y)) := by
  have hil := idx_lt (x := W - 1 - x) (W := W) (by omega) hy
  have _ := hH0
  have hWH : W * H ≤ 64 * 64 := Nat.mul_le_mul hW hH
  have m1 : (y : Int) * (W : Int) = ((W * y : Nat) : Int) := by rw [Int.natCast_mul, Int.mul_comm]
  have m2 : ((W * y : Nat) : Int) + (W : Int) = ((W * y + W : Nat) : Int) := by omega
  have m3 : ((W * y + W : Nat) : Int) - 1 - (x : Int) = ((W * y + (W - 1 - x) : Nat) : Int) := by omega
  have m4 : ((W * y : Nat) : Int) + (W : Int) - 1 - (x : Int) = ((W * y + (W - 1 - x) : Nat) : Int) := by omega
  unfold uS
  show Contract _ _ _ (B (l.getD (W * y + (W - 1 - x)) false))
  generalize W - 1 - x = p at *
  refine Contract.intro (effS [] false) 6 follows Tryd.func25 rfl rfl (by kernel_rfl) (Nat.le_of_ble_eq_true rfl) ?_
  simp (disch := first | assumption | omega | rfl | simp only [RH]) only [↓RP, RG, FX, RQ, ↓reduceIte, Nat.reduceEqDiff, reduceCtorEq, Nat.reduceBEq, Nat.reduceAdd, Nat.reduceLeDiff, args0_3, m1, m4, Int.toNat_natCast]
  rw [resVal_1 rfl]; simp (disch := first | assumption | omega | rfl | simp only [RH]) only [↓RP, RG, FX, RQ, ↓reduceIte, Nat.reduceEqDiff, reduceCtorEq, Nat.reduceBEq, Nat.reduceAdd, Nat.reduceLeDiff, RS]
  first | done | rfl
theorem mirrorF1_c {x y : Nat} (hx : x < W) (hy : y < H) : Contract Tryd.prog 26 [I x, I y, .spot false [I W, I H, BA b l]] (B (uS W H l id (fun y => H - 1 - y) x y)) := by
  have hil := idx_lt (y := H - 1 - y) hx (show H - 1 - y < H by omega)
  have hWH : W * H ≤ 64 * 64 := Nat.mul_le_mul hW hH
  have m0 : (H : Int) - 1 - (y : Int) = ((H - 1 - y : Nat) : Int) := by omega
  have m1 : ((H - 1 - y : Nat) : Int) * (W : Int) = ((W * (H - 1 - y) : Nat) : Int) := by rw [Int.natCast_mul, Int.mul_comm]
  have m2 : ((W * (H - 1 - y) : Nat) : Int) + (x : Int) = ((W * (H - 1 - y) + x : Nat) : Int) := by omega
  unfold uS
  show Contract _ _ _ (B (l.getD (W * (H - 1 - y) + x) false))
  generalize hp : H - 1 - y = p at *
  refine Contract.intro (effS [] false) 6 follows Tryd.func26 rfl rfl (by kernel_rfl) (Nat.le_of_ble_eq_true rfl) ?_
  simp (disch := first | assumption | omega | rfl | simp only [RH]) only [↓RP, RG, FX, RQ, ↓reduceIte, Nat.reduceEqDiff, reduceCtorEq, Nat.reduceBEq, Nat.reduceAdd, Nat.reduceLeDiff, args0_3, m0, m1, m2, Int.toNat_natCast]
  rw [resVal_1 rfl]; simp (disch := first | assumption | omega | rfl | simp only [RH]) only [↓RP, RG, FX, RQ, ↓reduceIte, Nat.reduceEqDiff, reduceCtorEq, Nat.reduceBEq, Nat.reduceAdd, Nat.reduceLeDiff, RS]
  first | done | rfl
/-- What a mirrored grid is; there are two axes. -/
theorem mirrorP_c (axis : Int) : Contract Tryd.prog 10 [GA W H b l, I axis] (.tuple (if axis = 0 then [GR W H false (tabN W (uS W H l (fun x => W - 1 - x) id) (W * H)), I 0] else if axis = 1 then [GR W H false (tabN W (uS W H l id (fun y => H - 1 - y)) (W * H)), I 0] else [GR 0 0 true [], I 2])) := by
  have hz : gchk W H l.length = 0 := gchk_ok ⟨by omega, by omega, by omega, by omega, by rw [hn, Int.natCast_mul]⟩
  have hck := gcheckP_c W H b l
  rw [hz] at hck
  have hF0 := fun x y hx hy => mirrorF0_c hW0 hH0 hW hH b hn (x := x) (y := y) hx hy
  have hF1 := fun x y hx hy => mirrorF1_c hW0 hH0 hW hH b hn (x := x) (y := y) hx hy
  by_cases c0 : axis = 0
  · subst c0
    rw [if_pos rfl]
    refine Contract.intro (effS [] false) 6 follows Tryd.func10 rfl rfl (by kernel_rfl) (Nat.le_of_ble_eq_true rfl) ?_
    simp (disch := first | assumption | omega | rfl | simp only [RH]) only [↓RP, RG, FX, RQ, ↓reduceIte, Nat.reduceEqDiff, reduceCtorEq, Nat.reduceBEq, Nat.reduceAdd, Nat.reduceLeDiff, args0_2]
    refine callK_F 6 (hck) (by simp (disch := first | assumption | omega | rfl | simp only [RH]) only [↓RP, RG, FX, RQ, ↓reduceIte, Nat.reduceEqDiff, reduceCtorEq, Nat.reduceBEq, Nat.reduceAdd, Nat.reduceLeDiff, RA] <;> rfl) (.inl (by simp [allFresh, ints_fresh, bools_fresh])) ?_
    simp (disch := first | assumption | omega | rfl | simp only [RH]) only [↓RP, RG, FX, RQ, ↓reduceIte, Nat.reduceEqDiff, reduceCtorEq, Nat.reduceBEq, Nat.reduceAdd, Nat.reduceLeDiff]
    refine callK_F 6 (build_c 25 [.spot false [I W, I H, BA b l]] W H (uS W H l (fun x => W - 1 - x) id) (by omega) (by omega) (fun r => by simp [argOf]; exact bools_arg l r 3) hF0) (by simp (disch := first | assumption | omega | rfl | simp only [RH]) only [↓RP, RG, FX, RQ, ↓reduceIte, Nat.reduceEqDiff, reduceCtorEq, Nat.reduceBEq, Nat.reduceAdd, Nat.reduceLeDiff, RA] <;> rfl) (.inl (by simp [allFresh, ints_fresh, bools_fresh])) ?_
    simp (disch := first | assumption | omega | rfl | simp only [RH]) only [↓RP, RG, FX, RQ, ↓reduceIte, Nat.reduceEqDiff, reduceCtorEq, Nat.reduceBEq, Nat.reduceAdd, Nat.reduceLeDiff]
    rw [resVal_2 rfl]; simp (disch := first | assumption | omega | rfl | simp only [RH]) only [↓RP, RG, FX, RQ, ↓reduceIte, Nat.reduceEqDiff, reduceCtorEq, Nat.reduceBEq, Nat.reduceAdd, Nat.reduceLeDiff, RS]
    first | done | rfl
  · rw [if_neg c0]
    by_cases c1 : axis = 1
    · subst c1
      rw [if_pos rfl]
      refine Contract.intro (effS [] false) 6 follows Tryd.func10 rfl rfl (by kernel_rfl) (Nat.le_of_ble_eq_true rfl) ?_
      simp (disch := first | assumption | omega | rfl | simp only [RH]) only [↓RP, RG, FX, RQ, ↓reduceIte, Nat.reduceEqDiff, reduceCtorEq, Nat.reduceBEq, Nat.reduceAdd, Nat.reduceLeDiff, args0_2]
      refine callK_F 6 (hck) (by simp (disch := first | assumption | omega | rfl | simp only [RH]) only [↓RP, RG, FX, RQ, ↓reduceIte, Nat.reduceEqDiff, reduceCtorEq, Nat.reduceBEq, Nat.reduceAdd, Nat.reduceLeDiff, RA] <;> rfl) (.inl (by simp [allFresh, ints_fresh, bools_fresh])) ?_
      simp (disch := first | assumption | omega | rfl | simp only [RH]) only [↓RP, RG, FX, RQ, ↓reduceIte, Nat.reduceEqDiff, reduceCtorEq, Nat.reduceBEq, Nat.reduceAdd, Nat.reduceLeDiff]
      refine callK_F 6 (build_c 26 [.spot false [I W, I H, BA b l]] W H (uS W H l id (fun y => H - 1 - y)) (by omega) (by omega) (fun r => by simp [argOf]; exact bools_arg l r 3) hF1) (by simp (disch := first | assumption | omega | rfl | simp only [RH]) only [↓RP, RG, FX, RQ, ↓reduceIte, Nat.reduceEqDiff, reduceCtorEq, Nat.reduceBEq, Nat.reduceAdd, Nat.reduceLeDiff, RA] <;> rfl) (.inl (by simp [allFresh, ints_fresh, bools_fresh])) ?_
      simp (disch := first | assumption | omega | rfl | simp only [RH]) only [↓RP, RG, FX, RQ, ↓reduceIte, Nat.reduceEqDiff, reduceCtorEq, Nat.reduceBEq, Nat.reduceAdd, Nat.reduceLeDiff]
      rw [resVal_2 rfl]; simp (disch := first | assumption | omega | rfl | simp only [RH]) only [↓RP, RG, FX, RQ, ↓reduceIte, Nat.reduceEqDiff, reduceCtorEq, Nat.reduceBEq, Nat.reduceAdd, Nat.reduceLeDiff, RS]
      first | done | rfl
    · rw [if_neg c1]
      refine Contract.intro (effS [] false) 6 follows Tryd.func10 rfl rfl (by kernel_rfl) (Nat.le_of_ble_eq_true rfl) ?_
      simp (disch := first | assumption | omega | rfl | simp only [RH]) only [↓RP, RG, FX, RQ, ↓reduceIte, Nat.reduceEqDiff, reduceCtorEq, Nat.reduceBEq, Nat.reduceAdd, Nat.reduceLeDiff, args0_2]
      refine callK_F 6 (hck) (by simp (disch := first | assumption | omega | rfl | simp only [RH]) only [↓RP, RG, FX, RQ, ↓reduceIte, Nat.reduceEqDiff, reduceCtorEq, Nat.reduceBEq, Nat.reduceAdd, Nat.reduceLeDiff, RA] <;> rfl) (.inl (by simp [allFresh, ints_fresh, bools_fresh])) ?_
      simp (disch := first | assumption | omega | rfl | simp only [RH]) only [↓RP, RG, FX, RQ, ↓reduceIte, Nat.reduceEqDiff, reduceCtorEq, Nat.reduceBEq, Nat.reduceAdd, Nat.reduceLeDiff]
      rw [resVal_2 rfl]; simp (disch := first | assumption | omega | rfl | simp only [RH]) only [↓RP, RG, FX, RQ, ↓reduceIte, Nat.reduceEqDiff, reduceCtorEq, Nat.reduceBEq, Nat.reduceAdd, Nat.reduceLeDiff, RS]
      first | done | rfl
end
end Go.Proofs.YtmllhogaiahphaaDoor

/- Grids tiled twice. -/
set_option linter.unusedSimpArgs false
set_option linter.unusedVariables false
set_option maxRecDepth 100000
namespace Go.Proofs.YtmllhogaiahphaaDoor
open Go Go.Proofs Go.AW

theorem rem_int' {a b : Int} (h0 : 0 ≤ a) (h1 : 0 < b) : aInt .rem .i64 a b = some (.val (.int .i64 ((a.toNat % b.toNat : Nat) : Int))) := rem_int .i64 h0 h1
theorem quo_int' {a b : Int} (h0 : 0 ≤ a) (h1 : 0 < b) (h2 : a ≤ 9223372036854775807) : aInt .quo .i64 a b = some (.val (.int .i64 ((a.toNat / b.toNat : Nat) : Int))) := quo_int h0 h1 h2
section
variable {W H : Nat} (hW0 : 0 < W) (hH0 : 0 < H) (hW : W ≤ 32) (hH : H ≤ 32) (b : Bool) {l : List Bool} (hn : l.length = W * H)
include hW0 hH0 hW hH hn
theorem tileF_c {x y : Nat} (hx : x < 64) (hy : y < 64) :
    Contract Tryd.prog 27 [I x, I y, .spot false [I W, I H, BA b l]] (B (uS W H l (fun x => x % W) (fun y => y % H) x y)) := by
  have e1 : aInt .rem .i64 (x : Int) (W : Int) = some (I ((x % W : Nat) : Int)) := rem_int' (by omega) (by omega)
  have e2 : aInt .rem .i64 (y : Int) (H : Int) = some (I ((y % H : Nat) : Int)) := rem_int' (by omega) (by omega)
  have s1 : x % W < W := Nat.mod_lt _ hW0
  have s2 : y % H < H := Nat.mod_lt _ hH0
  show Contract _ _ _ (B (l.getD (W * (y % H) + x % W) false))
  generalize x % W = p at *
  generalize y % H = q at *
  have hil := idx_lt s1 s2
  have hWH : W * H ≤ 32 * 32 := Nat.mul_le_mul hW hH
  have m1 : (q : Int) * (W : Int) = ((W * q : Nat) : Int) := by rw [Int.natCast_mul, Int.mul_comm]
  have m2 : ((W * q : Nat) : Int) + (p : Int) = ((W * q + p : Nat) : Int) := by omega
  refine Contract.intro (effS [] false) 6 follows Tryd.func27 rfl rfl (by kernel_rfl) (Nat.le_of_ble_eq_true rfl) ?_
  simp (disch := first | assumption | omega | rfl | simp only [RH]) only [↓RP, RG, FX, RQ, ↓reduceIte, Nat.reduceEqDiff, reduceCtorEq, Nat.reduceBEq, Nat.reduceAdd, Nat.reduceLeDiff, args0_3, e1, e2, m1, m2, Int.toNat_natCast]
  rw [resVal_1 rfl]; simp (disch := first | assumption | omega | rfl | simp only [RH]) only [↓RP, RG, FX, RQ, ↓reduceIte, Nat.reduceEqDiff, reduceCtorEq, Nat.reduceBEq, Nat.reduceAdd, Nat.reduceLeDiff, RS]
  first | done | rfl
/-- A grid twice beside itself. -/
theorem tileP_c : Contract Tryd.prog 11 [GA W H b l, I 2, I 1] (.tuple [GR (2 * W : Nat) H false (tabN (2 * W) (uS W H l (fun x => x % W) (fun y => y % H)) (2 * W * H)), I 0]) := by
  have hz : gchk W H l.length = 0 := gchk_ok ⟨by omega, by omega, by omega, by omega, by rw [hn, Int.natCast_mul]⟩
  have hck := gcheckP_c W H b l
  rw [hz] at hck
  have e1 : aInt .quo .i64 64 (W : Int) = some (I ((64 / W : Nat) : Int)) := quo_int' (by omega) (by omega) (by omega)
  have e2 : aInt .quo .i64 64 (H : Int) = some (I ((64 / H : Nat) : Int)) := quo_int' (by omega) (by omega) (by omega)
  have s1 : 2 ≤ 64 / W := (Nat.le_div_iff_mul_le hW0).2 (by omega)
  have s2 : 1 ≤ 64 / H := (Nat.le_div_iff_mul_le hH0).2 (by omega)
  have s3 : 64 / W ≤ 64 := Nat.div_le_self _ _
  have s4 : 64 / H ≤ 64 := Nat.div_le_self _ _
  generalize 64 / W = p at *
  generalize 64 / H = q at *
  have hF := fun x y (hx : x < 2 * W) (hy : y < H) => tileF_c hW0 hH0 hW hH b hn (x := x) (y := y) (by omega) (by omega)
  have m1 : 2 * (W : Int) = ((2 * W : Nat) : Int) := by omega
  have m2 : 1 * (H : Int) = (H : Int) := by omega
  refine Contract.intro (effS [] false) 6 follows Tryd.func11 rfl rfl (by kernel_rfl) (Nat.le_of_ble_eq_true rfl) ?_
  simp (disch := first | assumption | omega | rfl | simp only [RH]) only [↓RP, RG, FX, RQ, ↓reduceIte, Nat.reduceEqDiff, reduceCtorEq, Nat.reduceBEq, Nat.reduceAdd, Nat.reduceLeDiff, args0_3]
  refine callK_F 6 (hck) (by simp (disch := first | assumption | omega | rfl | simp only [RH]) only [↓RP, RG, FX, RQ, ↓reduceIte, Nat.reduceEqDiff, reduceCtorEq, Nat.reduceBEq, Nat.reduceAdd, Nat.reduceLeDiff, RA] <;> rfl) (.inl (by simp [allFresh, ints_fresh, bools_fresh])) ?_
  simp (disch := first | assumption | omega | rfl | simp only [RH]) only [↓RP, RG, FX, RQ, ↓reduceIte, Nat.reduceEqDiff, reduceCtorEq, Nat.reduceBEq, Nat.reduceAdd, Nat.reduceLeDiff, e1, e2, m1, m2]
  refine callK_F 6 (build_c 27 [.spot false [I W, I H, BA b l]] (2 * W) H (uS W H l (fun x => x % W) (fun y => y % H)) (by omega) (by omega) (fun r => by simp [argOf]; exact bools_arg l r 3) hF) (by simp (disch := first | assumption | omega | rfl | simp only [RH]) only [↓RP, RG, FX, RQ, ↓reduceIte, Nat.reduceEqDiff, reduceCtorEq, Nat.reduceBEq, Nat.reduceAdd, Nat.reduceLeDiff, RA] <;> rfl) (.inl (by simp [allFresh, ints_fresh, bools_fresh])) ?_
  simp (disch := first | assumption | omega | rfl | simp only [RH]) only [↓RP, RG, FX, RQ, ↓reduceIte, Nat.reduceEqDiff, reduceCtorEq, Nat.reduceBEq, Nat.reduceAdd, Nat.reduceLeDiff]
  rw [resVal_2 rfl]; simp (disch := first | assumption | omega | rfl | simp only [RH]) only [↓RP, RG, FX, RQ, ↓reduceIte, Nat.reduceEqDiff, reduceCtorEq, Nat.reduceBEq, Nat.reduceAdd, Nat.reduceLeDiff, RS]
  first | done | rfl
end
end Go.Proofs.YtmllhogaiahphaaDoor

/- The rows of a grid, each in an array of 64 cells with its length. -/
set_option linter.unusedSimpArgs false
set_option linter.unusedVariables false
set_option maxRecDepth 100000
namespace Go.Proofs.YtmllhogaiahphaaDoor
open Go Go.Proofs Go.AW

/-- Cell i of the table of lines when y lines are in. -/
def lnZ (W : Nat) (l : List Bool) (y i : Nat) : AVal :=
  if i / 65 < y then (if i % 65 < 64 then B (decide (i % 65 < W) && l.getD (W * (i / 65) + i % 65) false) else I W) else (if i % 65 < 64 then B false else I 0)
def lnC (W H : Nat) (l : List Bool) (y : Nat) : List AVal := (List.range (H * 65)).map (lnZ W l y)
theorem lnC_len (W H : Nat) (l : List Bool) (y : Nat) : (lnC W H l y).length = H * 65 := by simp [lnC]
theorem lnC_res (h : List AObj) (n W H : Nat) (l : List Bool) (y : Nat) : (lnC W H l y).map (resOf h (n + 1)) = lnC W H l y := by
  simp only [lnC, List.map_map]
  refine List.map_congr_left fun i _ => ?_
  simp only [Function.comp, lnZ]
  split <;> split <;> rfl
/-- A row of bools and its length, as a line. -/
def padR (W : Nat) (l : List Bool) (y : Nat) : List Bool := (List.range 64).map fun i => decide (i < W) && l.getD (W * y + i) false
theorem padR_len (W : Nat) (l : List Bool) (y : Nat) : (padR W l y).length = 64 := by simp [padR]
def lineA (W : Nat) (l : List Bool) (y : Nat) : List AVal := bools (padR W l y) ++ [I W]
theorem lineA_len (W : Nat) (l : List Bool) (y : Nat) : (lineA W l y).length = 65 := by simp [lineA, bools_length, padR_len]
theorem lineA_get (W : Nat) (l : List Bool) (y : Nat) {i : Nat} (hi : i < (lineA W l y).length) : (lineA W l y)[i] = if i < 64 then B (decide (i < W) && l.getD (W * y + i) false) else I W := by
  have hl := lineA_len W l y
  simp only [lineA, List.getElem_append, bools_length, padR_len]
  split
  · simp [bools, padR]
  · simp
theorem lnC_line (W H : Nat) (l : List Bool) {y : Nat} (hy : y < H) : ((lnC W H l H).drop (y * 65)).take 65 = lineA W l y := by
  refine List.ext_getElem (by rw [List.length_take, List.length_drop, lnC_len, lineA_len]; omega) fun i h1 h2 => ?_
  have hi : i < 65 := by rw [lineA_len] at h2; exact h2
  rw [lineA_get, List.getElem_take, List.getElem_drop]
  simp only [lnC, List.getElem_map, List.getElem_range, lnZ]
  have e1 : (y * 65 + i) / 65 = y := by omega
  have e2 : (y * 65 + i) % 65 = i := by omega
  rw [e1, e2, if_pos hy]
theorem lnC_zero (W H : Nat) (l : List Bool) : (List.range (H * 65)).map (fun j => (bools (List.replicate 64 false) ++ [I 0]).getD (j % 65) .undef) = lnC W H l 0 := by
  refine List.map_congr_left fun j _ => ?_
  have hm : j % 65 < 65 := Nat.mod_lt _ (by omega)
  simp only [lnZ, Nat.not_lt_zero, if_false, List.getD_eq_getElem?_getD, List.getElem?_append, bools_length, List.length_replicate]
  split
  · rename_i h
    rw [bools, List.getElem?_map, List.getElem?_replicate, if_pos h]; rfl
  · rename_i h
    have : j % 65 - 64 = 0 := by omega
    simp [this]
theorem cA_lnC {t s W H y m : Nat} {l : List Bool} (hm : m = H * 65) : cA (some ⟨t, s, lnC W H l y⟩) m = some (lnC W H l y) := by
  subst hm; simp [cA, lnC_len]
theorem cA_lenW {t s n : Nat} {cs : List AVal} (hn : cs.length = n) : cA (some ⟨t, s, cs⟩) n = some cs := by simp [cA, hn]
theorem lnC_step {W H : Nat} (hW1 : 1 ≤ W) (hW : W ≤ 64) {l : List Bool} (hn : l.length = W * H) {y : Nat} (hy : y < H) :
    splice (splice (lnC W H l y) (y * 65) (bools ((l.drop (W * y)).take W))) (y * 65 + 64) [I W] = lnC W H l (y + 1) := by
  have hin : W * y + W ≤ W * H := by rw [← Nat.mul_succ]; exact Nat.mul_le_mul_left _ hy
  have hl1 : (bools ((l.drop (W * y)).take W)).length = W := by rw [bools_length, List.length_take, List.length_drop]; omega
  have hc1 : y * 65 + (bools ((l.drop (W * y)).take W)).length ≤ (lnC W H l y).length := by rw [hl1, lnC_len]; omega
  have hs1 := splice_length _ _ _ hc1
  have hc2 : y * 65 + 64 + [I W].length ≤ (splice (lnC W H l y) (y * 65) (bools ((l.drop (W * y)).take W))).length := by rw [hs1, lnC_len]; simp; omega
  refine List.ext_getElem (by rw [splice_length _ _ _ hc2, hs1, lnC_len, lnC_len]) fun i h1 h2 => ?_
  have hi : i < H * 65 := by rw [lnC_len] at h2; exact h2
  rw [splice_get _ _ _ hc2 i h1]
  have hR : (lnC W H l (y + 1))[i] = lnZ W l (y + 1) i := by simp [lnC]
  rw [hR]
  by_cases c1 : i = y * 65 + 64
  · rw [dif_pos (by simp; omega)]
    subst c1
    have e1 : (y * 65 + 64) / 65 = y := by omega
    have e2 : (y * 65 + 64) % 65 = 64 := by omega
    simp [lnZ, e1, e2]
  · rw [dif_neg (by simp; omega), splice_get _ _ _ hc1 i (by rw [hs1, lnC_len]; exact hi)]
    by_cases c2 : y * 65 ≤ i ∧ i < y * 65 + W
    · rw [dif_pos (by rw [hl1]; exact c2)]
      have e1 : i / 65 = y := by omega
      have e2 : i % 65 = i - y * 65 := by omega
      have e3 : W * y + (i - y * 65) < l.length := by omega
      have e4 : i - y * 65 < W := by omega
      have e5 : i - y * 65 < 64 := by omega
      simp [lnZ, e1, e2, bools, List.getD_eq_getElem?_getD, e3, e4, e5]
    · rw [dif_neg (by rw [hl1]; exact c2)]
      simp only [lnC, List.getElem_map, List.getElem_range, lnZ]
      by_cases c3 : i / 65 < y
      · have c4 : i / 65 < y + 1 := by omega
        rw [if_pos c3, if_pos c4]
      · rw [if_neg c3]
        by_cases c4 : i / 65 = y
        · rw [if_pos (show i / 65 < y + 1 by omega), c4]
          have e2 : i % 65 < 64 := by omega
          have e3 : ¬ i % 65 < W := by omega
          simp [e2, e3]
        · have c5 : ¬ i / 65 < y + 1 := by omega
          rw [if_neg c5]
theorem lines_c {W H : Nat} (hW1 : 1 ≤ W) (hW : W ≤ 64) (hH1 : 1 ≤ H) (hH : H ≤ 64) (b : Bool) {l : List Bool} (hn : l.length = W * H) :
    Contract Tryd.prog 45 [GA W H b l] (.list true false H (lnC W H l H)) := by
  refine Contract.intro (effS [] false) 6 follows Tryd.func45 rfl rfl (by kernel_rfl) (Nat.le_of_ble_eq_true rfl) ?_
  simp (disch := first | assumption | omega | rfl | simp only [RH]) only [↓RP, RG, FX, RQ, ↓reduceIte, Nat.reduceEqDiff, reduceCtorEq, Nat.reduceBEq, Nat.reduceAdd, Nat.reduceLeDiff, args0_1, make_W zc77, lnC_zero W H l, cA_lnC]
  refine loopK_I [1, 3, 9, 10] (fun y : Nat => y ≤ H) (fun y : Nat => ⟨[(1, .ptr 0 0 3), (3, .ref 1 0 H (H * 65)), (9, I H), (10, I y)], [⟨24, 3, [I W, I H, BA b l]⟩, ⟨77, 65, lnC W H l y⟩]⟩) (fun y => H - y) 0 (by omega) (by simp only [↓RP, RG, FX, RQ, ↓reduceIte, Nat.reduceEqDiff, reduceCtorEq, Nat.reduceBEq, Nat.reduceAdd, Nat.reduceLeDiff]; rfl) ?_
  intro y hy
  by_cases hlt : y < H
  · have hin : W * y + W ≤ W * H := by rw [← Nat.mul_succ]; exact Nat.mul_le_mul_left _ hlt
    have hWH : W * H ≤ 64 * 64 := Nat.mul_le_mul hW hH
    have m1 : (y : Int) * W = ((W * y : Nat) : Int) := by rw [Nat.mul_comm]; simp
    have m2 : ((y : Int) + 1) * W = ((W * y + W : Nat) : Int) := by rw [Int.add_mul, m1]; simp
    have hl1 : ((l.drop (W * y)).take W).length = W := by rw [List.length_take, List.length_drop]; omega
    have hst := lnC_step hW1 hW hn hlt
    have e1 : (((W * y + W : Nat) : Int) - ((W * y : Nat) : Int)).toNat = W := by omega
    simp (disch := first | assumption | omega | rfl | simp only [RH]) only [↓RP, RG, FX, RQ, ↓reduceIte, Nat.reduceEqDiff, reduceCtorEq, Nat.reduceBEq, Nat.reduceAdd, Nat.reduceLeDiff, idxW_ref, cA_lnC, slF_ptr, slice_arr, m1, m2, slice_lohi, e1, Int.toNat_natCast]
    rw [opK_copy]
    simp (disch := first | assumption | omega | rfl | simp only [RH]) only [↓RP, RG, FX, RQ, ↓reduceIte, Nat.reduceEqDiff, reduceCtorEq, Nat.reduceBEq, Nat.reduceAdd, Nat.reduceLeDiff]
    rw [copy_part (S := S22) (ty := 77) (es := 65) (cells := lnC W H l y) (l := (l.drop (W * y)).take W) rfl rfl hl1.symm hW (by omega) (by decide) (lnC_len W H l y) (by omega)]
    have hc1 : y * 65 + (bools ((l.drop (W * y)).take W)).length ≤ (lnC W H l y).length := by rw [bools_length, hl1, lnC_len]; omega
    have hs1 := splice_length _ _ _ hc1
    rw [lnC_len] at hs1
    generalize splice (lnC W H l y) (y * 65) (bools ((l.drop (W * y)).take W)) = mid at *
    have e2 : y * 65 + 64 < H * 65 := by omega
    simp (disch := first | assumption | omega | rfl | simp only [RH]) only [↓RP, RG, FX, RQ, ↓reduceIte, Nat.reduceEqDiff, reduceCtorEq, Nat.reduceBEq, Nat.reduceAdd, Nat.reduceLeDiff, idxW_ref, cA_lenW]
    rw [sX_mk (by decide), if_pos ⟨hs1, rfl, by simp; omega, rfl⟩, hst]
    simp (disch := first | assumption | omega | rfl | simp only [RH]) only [↓RP, RG, FX, RQ, ↓reduceIte, Nat.reduceEqDiff, reduceCtorEq, Nat.reduceBEq, Nat.reduceAdd, Nat.reduceLeDiff]
    exact ⟨y + 1, by omega, rfl, by omega⟩
  · obtain rfl : y = H := by omega
    simp (disch := first | assumption | omega | rfl | simp only [RH]) only [↓RP, RG, FX, RQ, ↓reduceIte, Nat.reduceEqDiff, reduceCtorEq, Nat.reduceBEq, Nat.reduceAdd, Nat.reduceLeDiff]
    rw [resVal_1 rfl]; simp (disch := first | assumption | omega | rfl | simp only [RH]) only [↓RP, RG, FX, RQ, ↓reduceIte, Nat.reduceEqDiff, reduceCtorEq, Nat.reduceBEq, Nat.reduceAdd, Nat.reduceLeDiff, RS]
    simp only [rX, lnC_len, if_true, List.drop_zero]
    rw [List.take_of_length_le (by rw [lnC_len]; exact Nat.le_refl _), lnC_res]
end Go.Proofs.YtmllhogaiahphaaDoor

/- The kinds of rows, by the program. -/
set_option linter.unusedSimpArgs false
set_option linter.unusedVariables false
set_option maxRecDepth 100000
namespace Go.Proofs.YtmllhogaiahphaaDoor
open Go Go.Proofs Go.AW

theorem padR_eq {W : Nat} (hW : W ≤ 64) {l : List Bool} {a b : Nat} : padR W l a = padR W l b ↔ rowN W l a = rowN W l b := by
  rw [rowN_eq]
  constructor
  · intro h x hx
    have := congrArg (fun r : List Bool => r.getD x false) h
    simpa [padR, List.getD_eq_getElem?_getD, List.getElem?_range (show x < 64 by omega), hx] using this
  · intro h
    refine List.map_congr_left fun x hx => ?_
    by_cases hxW : x < W
    · rw [h x hxW]
    · simp [hxW]
theorem eq_line {W : Nat} (hW : W ≤ 64) (l : List Bool) (a b : Nat) : eqK (List.replicate 64 true ++ [false]) (lineA W l a) (lineA W l b) = some (decide (rowN W l a = rowN W l b)) := by
  have h := eqK_bools (padR W l a) (padR W l b) [false] [I W] [I W] (by rw [padR_len, padR_len])
  rw [padR_len] at h
  unfold lineA
  rw [h, eqK_int, eqK_nil]
  simp only [Option.map_some, beq_self_eq_true, Bool.and_true]
  congr 1
  rw [Bool.eq_iff_iff, beq_iff_eq, decide_eq_true_iff]
  exact padR_eq hW
/-- The lines of some rows, one after the other. -/
def seenC (W : Nat) (l : List Bool) (fs : List Nat) : List AVal := fs.flatMap (lineA W l)
theorem seenC_len (W : Nat) (l : List Bool) (fs : List Nat) : (seenC W l fs).length = fs.length * 65 := by
  induction fs with
  | nil => rfl
  | cons f fs ih => simp only [seenC, List.flatMap_cons, List.length_append, List.length_cons, lineA_len] at ih ⊢; omega
theorem seenC_app (W : Nat) (l : List Bool) (fs : List Nat) (y : Nat) : seenC W l (fs ++ [y]) = seenC W l fs ++ lineA W l y := by simp [seenC]
theorem seenC_at (W : Nat) (l : List Bool) : ∀ (fs : List Nat) (k : Nat), k < fs.length → ((seenC W l fs).drop (k * 65)).take 65 = lineA W l (fs.getD k 0)
  | [], k, h => by simp at h
  | f :: fs, 0, _ => by
    simp only [seenC, List.flatMap_cons, Nat.zero_mul, List.drop_zero, List.getD_cons_zero]
    rw [List.take_append_of_le_length (by rw [lineA_len]; exact Nat.le_refl _), List.take_of_length_le (by rw [lineA_len]; exact Nat.le_refl _)]
  | f :: fs, k + 1, h => by
    have ih := seenC_at W l fs k (by simpa using h)
    have e : (k + 1) * 65 = (lineA W l f).length + k * 65 := by rw [lineA_len]; omega
    simp only [seenC, List.flatMap_cons, List.getD_cons_succ] at ih ⊢
    rw [e, List.drop_append, List.drop_eq_nil_of_le (by omega), List.nil_append, Nat.add_sub_cancel_left]
    exact ih
theorem lineA_one (W : Nat) (l : List Bool) (y : Nat) : (lineA W l y).all AVal.one = true := by
  rw [lineA, List.all_append, bools_one]; rfl
theorem lineA_ren (f : Nat → Option Nat) (n : Nat) (W : Nat) (l : List Bool) (y : Nat) : (lineA W l y).map (ren f (n + 1)) = lineA W l y := by
  simp only [lineA, List.map_append, map_ren_bools]; rfl
theorem seenC_ren (f : Nat → Option Nat) (n : Nat) (W : Nat) (l : List Bool) (fs : List Nat) : (seenC W l fs).map (ren f (n + 1)) = seenC W l fs := by
  induction fs with
  | nil => rfl
  | cons g fs ih => simp only [seenC, List.flatMap_cons, List.map_append, lineA_ren] at ih ⊢; rw [ih]
theorem take_line (W : Nat) (l : List Bool) (y : Nat) : (lineA W l y).take 65 = lineA W l y := List.take_of_length_le (by rw [lineA_len]; exact Nat.le_refl _)
theorem lnC_fr (n W H : Nat) (l : List Bool) (y : Nat) : (lnC W H l y).all (allFresh (n + 1)) = true := by
  rw [List.all_eq_true]
  intro x hx
  simp only [lnC, List.mem_map] at hx
  obtain ⟨i, _, rfl⟩ := hx
  simp only [lnZ]
  split <;> split <;> rfl
theorem lnC_ren (f : Nat → Option Nat) (n W H : Nat) (l : List Bool) (y : Nat) : (lnC W H l y).map (ren f (n + 1)) = lnC W H l y := by
  simp only [lnC, List.map_map]
  refine List.map_congr_left fun i _ => ?_
  simp only [Function.comp, lnZ]
  split <;> split <;> rfl
theorem ren_gwW (f : Nat → Option Nat) (n s k m : Nat) (hk : f k = some k) : ren f (n + 1) (gwW s k m) = gwW s k m := by
  unfold gwW
  split
  · simp [ren, hk]
  · simp [ren, hk]
theorem renO_goW (f : Nat → Option Nat) (n e s : Nat) (xs : List AVal) (hx : xs.map (ren f n) = xs) : renO f n (goW e s xs) = goW e s xs := by
  cases xs with
  | nil => rfl
  | cons x xr =>
    show AObj.mk e s ((x :: xr).map (ren f n)) = _
    rw [hx]; rfl
theorem lnC_len65 (W H : Nat) (l : List Bool) {y : Nat} (hy : y < H) : 65 ≤ ((lnC W H l H).drop (y * 65)).length := by rw [List.length_drop, lnC_len]; omega
theorem seenC_len65 (W : Nat) (l : List Bool) (fs : List Nat) {k : Nat} (hk : k < fs.length) : 65 ≤ ((seenC W l fs).drop (k * 65)).length := by rw [List.length_drop, seenC_len]; omega
theorem spl_line {cs : List AVal} (W : Nat) (l : List Bool) (y : Nat) (hc : cs.length = 65) : splice cs 0 (lineA W l y) = lineA W l y := by
  have hl := splice_length cs 0 (lineA W l y) (by rw [lineA_len]; omega)
  refine List.ext_getElem (by rw [hl, lineA_len, hc]) fun i h1 h2 => ?_
  rw [splice_get cs 0 (lineA W l y) (by rw [lineA_len]; omega) i h1, dif_pos ⟨Nat.zero_le _, by omega⟩]
  rfl
theorem sX_line {g : Bool} {h : List AObj} {id ty es : Nat} {cs : List AVal} (W : Nat) (l : List Bool) (y : Nat) (hty : ty ≠ 1000003) (hc : cs.length = 65) : sX (some (g, 65)) h id 0 65 (some ⟨ty, es, cs⟩) (some (lineA W l y)) = some (h.set id ⟨ty, es, lineA W l y⟩) := by
  rw [sX_mk hty, if_pos ⟨hc, lineA_len W l y, by rw [lineA_len]; omega, lineA_one W l y⟩, spl_line W l y hc]
theorem kindsP_c {W H : Nat} (hW1 : 1 ≤ W) (hW : W ≤ 64) (hH1 : 1 ≤ H) (hH : H ≤ 64) (b : Bool) {l : List Bool} (hn : l.length = W * H) :
    Contract Tryd.prog 36 [GA W H b l] (.tuple [LR (nI (knd (rowN W l) H).1).isEmpty (nI (knd (rowN W l) H).1), LR (nI (knd (rowN W l) H).2).isEmpty (nI (knd (rowN W l) H).2)]) := by
  refine Contract.intro (effS [] false) 6 follows Tryd.func36 rfl rfl (by kernel_rfl) (Nat.le_of_ble_eq_true rfl) ?_
  simp (disch := first | assumption | omega | rfl | simp only [RH]) only [↓RP, RG, FX, RQ, ↓reduceIte, Nat.reduceEqDiff, reduceCtorEq, Nat.reduceBEq, Nat.reduceAdd, Nat.reduceLeDiff, args0_1]
  refine callK_F 6 (lines_c hW1 hW hH1 hH b hn) (by simp (disch := first | assumption | omega | rfl | simp only [RH]) only [↓RP, RG, FX, RQ, ↓reduceIte, Nat.reduceEqDiff, reduceCtorEq, Nat.reduceBEq, Nat.reduceAdd, Nat.reduceLeDiff, RA] <;> rfl) (.inl (by simp [allFresh, lnC_fr])) ?_
  simp (disch := first | assumption | omega | rfl | simp only [RH]) only [↓RP, RG, FX, RQ, ↓reduceIte, Nat.reduceEqDiff, reduceCtorEq, Nat.reduceBEq, Nat.reduceAdd, Nat.reduceLeDiff]
  refine loopK_WW [2, 3, 4, 9, 10, 11] (fun y : Nat => y ≤ H) (fun y : Nat => ⟨[(2, gw true 1 (ints (nI (knd (rowN W l) y).1))), (3, gw true 2 (ints (nI (knd (rowN W l) y).2))), (4, gwW 65 3 (knd (rowN W l) y).2.length), (9, .list true false H (lnC W H l H)), (10, I H), (11, I y)], [⟨24, 3, [I W, I H, BA b l]⟩, go 3 (ints (nI (knd (rowN W l) y).1)), go 3 (ints (nI (knd (rowN W l) y).2)), goW 77 65 (seenC W l (knd (rowN W l) y).2)]⟩) (fun y => H - y) 0 (by omega) ?_ ?_
  · simp only [↓RP, RG, FX, RQ, ↓reduceIte, Nat.reduceEqDiff, reduceCtorEq, Nat.reduceBEq, Nat.reduceAdd, Nat.reduceLeDiff]
    exact Wk.weak (WE.cons _ (.nil _) (WE.cons _ (.nil _) (WE.cons _ (.nil _) (WE.cons _ (.refl _) (WE.cons _ (.refl _) (WE.cons _ (.refl _) WE.nil)))))) (.cons _ _ _ _ (WL.refl _) (.nil _ (by simp [go, ints, nI, knd, goW, seenC])))
  intro y hy
  by_cases hy2 : y < H
  · have hl1 := knd_len (rowN W l) y
    have hl2 := knd_le (rowN W l) y
    have hfi := knd_first (rowN W l) y
    have hkn : knd (rowN W l) (y + 1) = ((knd (rowN W l) y).1 ++ [plc (rowN W l) (knd (rowN W l) y).2 y], if plc (rowN W l) (knd (rowN W l) y).2 y = (knd (rowN W l) y).2.length then (knd (rowN W l) y).2 ++ [y] else (knd (rowN W l) y).2) := rfl
    generalize (knd (rowN W l) y).1 = ks at *
    generalize (knd (rowN W l) y).2 = fs at *
    have hk1 := nI_len ks
    have hk2 := nI_len fs
    have hk3 : (ints (nI ks)).length = ks.length := by rw [ints_length, nI_len]
    have hk4 : (ints (nI fs)).length = fs.length := by rw [ints_length, nI_len]
    have hlc := lnC_line W H l hy2
    have hl65 := lnC_len65 W H l hy2
    have hsl := seenC_len W l fs
    have hz65 : (bools (List.replicate 64 false) ++ [I 0]).length = 65 := by simp [bools_length]
    simp (disch := first | assumption | omega | rfl | simp only [RH]) only [↓RP, RG, FX, RQ, ↓reduceIte, Nat.reduceEqDiff, reduceCtorEq, Nat.reduceBEq, Nat.reduceAdd, Nat.reduceLeDiff, idxM_list, Int.toNat_natCast, hlc, hl65, take_line, parts_agg, sX_line]
    refine loopK_I [2, 3, 4, 5, 6, 7, 9, 10, 11] (fun k : Nat => k ≤ fs.length ∧ ∀ j, j < k → rowN W l (fs.getD j 0) ≠ rowN W l y) (fun k : Nat => ⟨[(2, gw true 1 (ints (nI ks))), (3, gw true 2 (ints (nI fs))), (4, gwW 65 3 fs.length), (5, I y), (6, .ptr 4 0 65), (7, I k), (9, .list true false H (lnC W H l H)), (10, I H), (11, I y)], [⟨24, 3, [I W, I H, BA b l]⟩, go 3 (ints (nI ks)), go 3 (ints (nI fs)), goW 77 65 (seenC W l fs), ⟨77, 65, lineA W l y⟩]⟩) (fun k => fs.length - k) 0 ⟨by omega, fun j hj => by omega⟩ (by simp only [↓RP, RG, FX, RQ, ↓reduceIte, Nat.reduceEqDiff, reduceCtorEq, Nat.reduceBEq, Nat.reduceAdd, Nat.reduceLeDiff]; rfl) ?_
    rintro k ⟨hk, hne⟩
    have hll := lineA_len W l y
    have hone := lineA_one W l y
    by_cases hlt : k < fs.length
    · have hat := seenC_at W l fs k hlt
      have hs65 := seenC_len65 W l fs hlt
      have heq := eq_line hW l (fs.getD k 0) y
      by_cases he : rowN W l (fs.getD k 0) = rowN W l y
      · have hp := plc_eq (rowN W l) hk hne (fun _ => he)
        rw [hp, if_neg (by omega)] at hkn
        rw [decide_eq_true he] at heq
        simp (disch := first | assumption | omega | rfl | simp only [RH]) only [↓RP, RG, FX, RQ, ↓reduceIte, Nat.reduceEqDiff, reduceCtorEq, Nat.reduceBEq, Nat.reduceAdd, Nat.reduceLeDiff, sview_gwW, gSW_go, idxW_gw, cA_goW, cA_lenW, hat, hs65, take_line, hll, heq, neqKT, append_int, Int.toNat_natCast]
        exact ⟨y + 1, by omega, (Wk.drop (hb := []) (h1 := []) (gs := [_, _, _, _, _]) 8 [0, 1, 2, 3] rfl (by decide) (by simp) (by simp)).trans (Wk.of_eq (by simp (disch := omega) only [RK, List.idxOf?_cons, List.idxOf?_nil, Nat.reduceBEq, Option.map_some, Option.map_none, List.map_cons, List.map_nil, List.getD_cons_zero, List.getD_cons_succ, Bool.false_eq_true, ↓reduceIte, Nat.add_zero, List.append_nil, seenC_ren, lnC_ren, ren_gwW _ _ _ _ _ (show keepF ([] : List AObj).length [0, 1, 2, 3] 3 = some 3 from rfl), renO_goW _ _ _ _ _ (seenC_ren _ _ _ _ _)]; rw [hkn]; simp only [nI_app, seenC_app, List.length_append, List.length_singleton]; rfl)), by omega⟩
      · rw [decide_eq_false he] at heq
        simp (disch := first | assumption | omega | rfl | simp only [RH]) only [↓RP, RG, FX, RQ, ↓reduceIte, Nat.reduceEqDiff, reduceCtorEq, Nat.reduceBEq, Nat.reduceAdd, Nat.reduceLeDiff, sview_gwW, gSW_go, idxW_gw, cA_goW, cA_lenW, hat, hs65, take_line, hll, heq, neqKT, Int.toNat_natCast]
        refine ⟨k + 1, ⟨by omega, fun j hj => ?_⟩, rfl, by omega⟩
        by_cases hjk : j = k
        · subst hjk; exact he
        · exact hne j (by omega)
    · obtain rfl : k = fs.length := by omega
      have hp := plc_eq (rowN W l) (Nat.le_refl _) hne (fun h => absurd h (by omega))
      rw [hp, if_pos rfl] at hkn
      simp (disch := first | assumption | omega | rfl | simp only [RH]) only [↓RP, RG, FX, RQ, ↓reduceIte, Nat.reduceEqDiff, reduceCtorEq, Nat.reduceBEq, Nat.reduceAdd, Nat.reduceLeDiff, sview_gwW, gSW_go, cA_lenW, hll, take_line, append_int, List.length_replicate, spl_line]
      rw [append_W (xs := seenC W l fs) rfl hsl hll hone (by omega) (by omega), ← seenC_app]
      simp (disch := first | assumption | omega | rfl | simp only [RH]) only [↓RP, RG, FX, RQ, ↓reduceIte, Nat.reduceEqDiff, reduceCtorEq, Nat.reduceBEq, Nat.reduceAdd, Nat.reduceLeDiff, append_int]
      exact ⟨y + 1, by omega, (Wk.drop (hb := []) (h1 := []) (gs := [_, _, _, _, _]) 8 [0, 1, 2, 3] rfl (by decide) (by simp) (by simp)).trans (Wk.of_eq (by simp (disch := omega) only [RK, List.idxOf?_cons, List.idxOf?_nil, Nat.reduceBEq, Option.map_some, Option.map_none, List.map_cons, List.map_nil, List.getD_cons_zero, List.getD_cons_succ, Bool.false_eq_true, ↓reduceIte, Nat.add_zero, List.append_nil, seenC_ren, lnC_ren, ren_gwW _ _ _ _ _ (show keepF ([] : List AObj).length [0, 1, 2, 3] 3 = some 3 from rfl), renO_goW _ _ _ _ _ (seenC_ren _ _ _ _ _)]; rw [hkn]; simp only [nI_app, seenC_app, List.length_append, List.length_singleton]; rfl)), by omega⟩
  · obtain rfl : y = H := by omega
    simp (disch := first | assumption | omega | rfl | simp only [RH]) only [↓RP, RG, FX, RQ, ↓reduceIte, Nat.reduceEqDiff, reduceCtorEq, Nat.reduceBEq, Nat.reduceAdd, Nat.reduceLeDiff]
    rw [resVal_2 rfl]; simp (disch := first | assumption | omega | rfl | simp only [RH]) only [↓RP, RG, FX, RQ, ↓reduceIte, Nat.reduceEqDiff, reduceCtorEq, Nat.reduceBEq, Nat.reduceAdd, Nat.reduceLeDiff, RS]
    simp only [Bool.true_and, ints_isEmpty]
end Go.Proofs.YtmllhogaiahphaaDoor

/- The kinds of columns and rows, by both. -/
set_option linter.unusedSimpArgs false
set_option linter.unusedVariables false
set_option maxRecDepth 100000
namespace Go.Proofs.YtmllhogaiahphaaDoor
open Go Go.Proofs Go.AW

/-- Kinds of columns and their firsts; of rows. -/
def tgL (W H : Nat) (l : List Bool) : List Bool := tabN H (uT W l) (H * W)
theorem tgL_len (W H : Nat) (l : List Bool) : (tgL W H l).length = H * W := tabN_len _ _ _
def kC (W H : Nat) (l : List Bool) : List Nat := (knd (rowN H (tgL W H l)) W).1
def fC (W H : Nat) (l : List Bool) : List Nat := (knd (rowN H (tgL W H l)) W).2
def kR (W H : Nat) (l : List Bool) : List Nat := (knd (rowN W l) H).1
def fR (W H : Nat) (l : List Bool) : List Nat := (knd (rowN W l) H).2
abbrev LN (l : List Nat) : AVal := LR (nI l).isEmpty (nI l)
section
variable {W H : Nat} (hW1 : 1 ≤ W) (hW : W ≤ 64) (hH1 : 1 ≤ H) (hH : H ≤ 64) (b : Bool) {l : List Bool} (hn : l.length = W * H)
include hW1 hW hH1 hH hn
theorem both_c : Contract Tryd.prog 28 [GA W H b l] (.tuple [LN (kC W H l), LN (fC W H l), LN (kR W H l), LN (fR W H l), I 0]) := by
  have h1 := gturnP_c (by omega) (by omega) hW hH b hn
  have h2 := fun b' => kindsP_c (W := H) (H := W) hH1 hH hW1 hW b' (l := tgL W H l) (tgL_len W H l)
  have h3 := kindsP_c hW1 hW hH1 hH b hn
  have ht := tgL_len W H l
  rw [show tabN H (uT W l) (H * W) = tgL W H l from rfl] at h1
  simp only [show (knd (rowN H (tgL W H l)) W).1 = kC W H l from rfl, show (knd (rowN H (tgL W H l)) W).2 = fC W H l from rfl] at h2
  simp only [show (knd (rowN W l) H).1 = kR W H l from rfl, show (knd (rowN W l) H).2 = fR W H l from rfl] at h3
  generalize tgL W H l = tg at *
  generalize kC W H l = a1 at *
  generalize fC W H l = a2 at *
  generalize kR W H l = a3 at *
  generalize fR W H l = a4 at *
  refine Contract.intro (effS [] false) 6 follows Tryd.func28 rfl rfl (by kernel_rfl) (Nat.le_of_ble_eq_true rfl) ?_
  simp (disch := first | assumption | omega | rfl | simp only [RH]) only [↓RP, RG, FX, RQ, ↓reduceIte, Nat.reduceEqDiff, reduceCtorEq, Nat.reduceBEq, Nat.reduceAdd, Nat.reduceLeDiff, args0_1]
  refine callK_F 6 (h1) (by simp (disch := first | assumption | omega | rfl | simp only [RH]) only [↓RP, RG, FX, RQ, ↓reduceIte, Nat.reduceEqDiff, reduceCtorEq, Nat.reduceBEq, Nat.reduceAdd, Nat.reduceLeDiff, RA] <;> rfl) (.inl (by simp [allFresh, ints_fresh, bools_fresh])) ?_
  simp (disch := first | assumption | omega | rfl | simp only [RH]) only [↓RP, RG, FX, RQ, ↓reduceIte, Nat.reduceEqDiff, reduceCtorEq, Nat.reduceBEq, Nat.reduceAdd, Nat.reduceLeDiff]
  refine callK_F 6 (h2 _) (by simp (disch := first | assumption | omega | rfl | simp only [RH]) only [↓RP, RG, FX, RQ, ↓reduceIte, Nat.reduceEqDiff, reduceCtorEq, Nat.reduceBEq, Nat.reduceAdd, Nat.reduceLeDiff, RA] <;> rfl) (.inl (by simp [allFresh, ints_fresh])) ?_
  simp (disch := first | assumption | omega | rfl | simp only [RH]) only [↓RP, RG, FX, RQ, ↓reduceIte, Nat.reduceEqDiff, reduceCtorEq, Nat.reduceBEq, Nat.reduceAdd, Nat.reduceLeDiff]
  refine callK_F 6 h3 (by simp (disch := first | assumption | omega | rfl | simp only [RH]) only [↓RP, RG, FX, RQ, ↓reduceIte, Nat.reduceEqDiff, reduceCtorEq, Nat.reduceBEq, Nat.reduceAdd, Nat.reduceLeDiff, RA] <;> rfl) (.inl (by simp [allFresh, ints_fresh])) ?_
  simp (disch := first | assumption | omega | rfl | simp only [RH]) only [↓RP, RG, FX, RQ, ↓reduceIte, Nat.reduceEqDiff, reduceCtorEq, Nat.reduceBEq, Nat.reduceAdd, Nat.reduceLeDiff]
  rw [resVal_5 rfl]; simp (disch := first | assumption | omega | rfl | simp only [RH]) only [↓RP, RG, FX, RQ, ↓reduceIte, Nat.reduceEqDiff, reduceCtorEq, Nat.reduceBEq, Nat.reduceAdd, Nat.reduceLeDiff, RS]
  first | done | rfl
end
end Go.Proofs.YtmllhogaiahphaaDoor

/- Drafts: drawdowns and lifts, whole. -/
set_option linter.unusedSimpArgs false
set_option linter.unusedVariables false
set_option maxRecDepth 100000
namespace Go.Proofs.YtmllhogaiahphaaDoor
open Go Go.Proofs Go.AW

end Go.Proofs.YtmllhogaiahphaaDoor

/- Drafts: drawdowns and lifts, whole: the reference's, and lifts. -/
set_option linter.unusedSimpArgs false
set_option linter.unusedVariables false
set_option maxRecDepth 100000
namespace Go.Proofs.YtmllhogaiahphaaDoor
open Go Go.Proofs Go.AW

end Go.Proofs.YtmllhogaiahphaaDoor

/- Drafts: compared, copied; the law of drawdowns. -/
set_option linter.unusedSimpArgs false
set_option linter.unusedVariables false
set_option maxRecDepth 100000
namespace Go.Proofs.YtmllhogaiahphaaDoor
open Go Go.Proofs Go.AW

def dGreat (th td : List Int) (l : List Bool) : Prop := 70 < (th.length : Int) ∨ 70 < (td.length : Int) ∨ 4200 < (l.length : Int)
instance (th td : List Int) (l : List Bool) : Decidable (dGreat th td l) := by unfold dGreat; infer_instance

def dEq (s t : Int) (th td : List Int) (w h : Int) (l : List Bool) (s' t' : Int) (th' td' : List Int) (w' h' : Int) (l' : List Bool) : Prop := s = s' ∧ t = t' ∧ th = th' ∧ td = td' ∧ w = w' ∧ h = h' ∧ l = l'
instance (s t : Int) (th td : List Int) (w h : Int) (l : List Bool) (s' t' : Int) (th' td' : List Int) (w' h' : Int) (l' : List Bool) : Decidable (dEq s t th td w h l s' t' th' td' w' h' l') := by unfold dEq; infer_instance

end Go.Proofs.YtmllhogaiahphaaDoor

/- The least draft of a grid, by both; grids that are not valid. -/
set_option linter.unusedSimpArgs false
set_option linter.unusedVariables false
set_option maxRecDepth 100000
namespace Go.Proofs.YtmllhogaiahphaaDoor
open Go Go.Proofs Go.AW

theorem limE (env : List (Nat × AVal)) : ev env (.global 0) = .spot false [I 40, I 40] := rfl

section
variable (w h : Int) (b : Bool) (l : List Bool) (hz : gchk w h l.length ≠ 0)
include hz
end
end Go.Proofs.YtmllhogaiahphaaDoor
