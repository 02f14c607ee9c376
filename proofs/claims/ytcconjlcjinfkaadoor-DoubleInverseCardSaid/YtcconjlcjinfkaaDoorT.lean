/- Closed facts on the types. -/
import Derived.Test.YtcconjlcjinfkaaDoorProg
import Derived.Test.YtcconjlcjinfkaaDoorBw2
namespace Go.Proofs.YtcconjlcjinfkaaDoor
open Go Go.Proofs Go.AW
theorem follows : Tryd.prog.follows .mixedOrders = true := by kernel_rfl
-- 2: int64
theorem ag2 : agT Tryd.prog 2 = some (false, 1) := by kernel_rfl
theorem zc2 : zT Tryd.prog 2 = some ([I 0], 1) := by kernel_rfl
-- 3: int
theorem ag3 : agT Tryd.prog 3 = some (false, 1) := by kernel_rfl
theorem zc3 : zT Tryd.prog 3 = some ([I 0], 1) := by kernel_rfl
-- 4: bool
theorem ag4 : agT Tryd.prog 4 = some (false, 1) := by kernel_rfl
theorem zc4 : zT Tryd.prog 4 = some ([B false], 1) := by kernel_rfl
instance bo4 : BoT Tryd.prog 4 := ⟨by kernel_rfl⟩
-- 5: uint8
theorem ag5 : agT Tryd.prog 5 = some (false, 1) := by kernel_rfl
theorem zc5 : zT Tryd.prog 5 = some ([.val (.int .u8 0)], 1) := by kernel_rfl
-- 9: string
theorem ag9 : agT Tryd.prog 9 = some (false, 1) := by kernel_rfl
theorem zc9 : zT Tryd.prog 9 = some ([.val (.string ⟨#[]⟩)], 1) := by kernel_rfl
-- 21: int32
theorem ag21 : agT Tryd.prog 21 = some (false, 1) := by kernel_rfl
theorem zc21 : zT Tryd.prog 21 = some ([.val (.int .i32 0)], 1) := by kernel_rfl
-- 22: []bool
theorem ag22 : agT Tryd.prog 22 = some (false, 1) := by kernel_rfl
theorem zc22 : zT Tryd.prog 22 = some ([.cap0 true], 1) := by kernel_rfl
instance S22 : SlT Tryd.prog 22 4 1 (.bool false) := SlT.of (by kernel_rfl) (by kernel_rfl)
-- 24: api.Grid
theorem ag24 : agT Tryd.prog 24 = some (true, 3) := by kernel_rfl
theorem zc24 : zT Tryd.prog 24 = some ([I 0, I 0, .cap0 true], 3) := by kernel_rfl
theorem fo24_0 : fOff Tryd.prog 24 0 = some 0 := by kernel_rfl
theorem ft24_0 : fOT Tryd.prog 24 0 = some (0, 3) := by kernel_rfl
theorem fo24_1 : fOff Tryd.prog 24 1 = some 1 := by kernel_rfl
theorem ft24_1 : fOT Tryd.prog 24 1 = some (1, 3) := by kernel_rfl
theorem fo24_2 : fOff Tryd.prog 24 2 = some 2 := by kernel_rfl
theorem ft24_2 : fOT Tryd.prog 24 2 = some (2, 22) := by kernel_rfl
theorem fl24 : flT Tryd.prog 24 = some ([(0, 1), (1, 1), (2, 1)], [I 0, I 0, .cap0 true]) := by kernel_rfl
-- 26: api.Errno
theorem ag26 : agT Tryd.prog 26 = some (false, 1) := by kernel_rfl
theorem zc26 : zT Tryd.prog 26 = some ([I 0], 1) := by kernel_rfl
-- 41: []int
theorem ag41 : agT Tryd.prog 41 = some (false, 1) := by kernel_rfl
theorem zc41 : zT Tryd.prog 41 = some ([.cap0 true], 1) := by kernel_rfl
instance S41 : SlT Tryd.prog 41 3 8 (.int .i64 0) := SlT.of (by kernel_rfl) (by kernel_rfl)
-- 52: func(int, int) bool
theorem ag52 : agT Tryd.prog 52 = some (false, 1) := by kernel_rfl
theorem zc52 : zT Tryd.prog 52 = some ([.val .nilFunc], 1) := by kernel_rfl
-- 54: [2]int
theorem ag54 : agT Tryd.prog 54 = some (true, 2) := by kernel_rfl
theorem zc54 : zT Tryd.prog 54 = some ([I 0, I 0], 2) := by kernel_rfl
instance nc54 : NumT Tryd.prog 54 2 := ⟨by kernel_rfl⟩
theorem fl54 : flT Tryd.prog 54 = some ([(0, 1), (1, 1)], [I 0, I 0]) := by kernel_rfl
-- 61: [][]int
theorem ag61 : agT Tryd.prog 61 = some (false, 1) := by kernel_rfl
theorem zc61 : zT Tryd.prog 61 = some ([.cap0 true], 1) := by kernel_rfl
instance S61 : SlT Tryd.prog 61 41 24 (.slice none 0 0) := SlT.of (by kernel_rfl) (by kernel_rfl)
-- 63: hang.order
theorem ag63 : agT Tryd.prog 63 = some (true, 2) := by kernel_rfl
theorem zc63 : zT Tryd.prog 63 = some ([.cap0 true, .cap0 true], 2) := by kernel_rfl
theorem fo63_0 : fOff Tryd.prog 63 0 = some 0 := by kernel_rfl
theorem ft63_0 : fOT Tryd.prog 63 0 = some (0, 61) := by kernel_rfl
theorem fo63_1 : fOff Tryd.prog 63 1 = some 1 := by kernel_rfl
theorem ft63_1 : fOT Tryd.prog 63 1 = some (1, 61) := by kernel_rfl
theorem fl63 : flT Tryd.prog 63 = some ([(0, 1), (1, 1)], [.cap0 true, .cap0 true]) := by kernel_rfl
-- 66: func(int) bool
theorem ag66 : agT Tryd.prog 66 = some (false, 1) := by kernel_rfl
theorem zc66 : zT Tryd.prog 66 = some ([.val .nilFunc], 1) := by kernel_rfl
-- 68: api.Layer
theorem ag68 : agT Tryd.prog 68 = some (true, 2) := by kernel_rfl
theorem zc68 : zT Tryd.prog 68 = some ([.cap0 true, .cap0 true], 2) := by kernel_rfl
theorem fo68_0 : fOff Tryd.prog 68 0 = some 0 := by kernel_rfl
theorem ft68_0 : fOT Tryd.prog 68 0 = some (0, 41) := by kernel_rfl
theorem fo68_1 : fOff Tryd.prog 68 1 = some 1 := by kernel_rfl
theorem ft68_1 : fOT Tryd.prog 68 1 = some (1, 41) := by kernel_rfl
theorem fl68 : flT Tryd.prog 68 = some ([(0, 1), (1, 1)], [.cap0 true, .cap0 true]) := by kernel_rfl
-- 71: []api.Grid
theorem ag71 : agT Tryd.prog 71 = some (false, 1) := by kernel_rfl
theorem zc71 : zT Tryd.prog 71 = some ([.cap0 true], 1) := by kernel_rfl
instance SM71 : SlM Tryd.prog 71 3 := ⟨by kernel_rfl⟩
instance LT71_3 : LitT Tryd.prog 71 3 [(0, 3), (3, 3), (6, 3)] [I 0, I 0, .cap0 true, I 0, I 0, .cap0 true, I 0, I 0, .cap0 true] := ⟨by kernel_rfl⟩
instance LT71_1 : LitT Tryd.prog 71 1 [(0, 3)] [I 0, I 0, .cap0 true] := ⟨by kernel_rfl⟩
-- 75: []string
theorem ag75 : agT Tryd.prog 75 = some (false, 1) := by kernel_rfl
theorem zc75 : zT Tryd.prog 75 = some ([.cap0 true], 1) := by kernel_rfl
instance S75 : SlT Tryd.prog 75 9 16 (.string ⟨#[]⟩) := SlT.of (by kernel_rfl) (by kernel_rfl)
-- 78: *strings.Builder
theorem ag78 : agT Tryd.prog 78 = some (false, 1) := by kernel_rfl
theorem zc78 : zT Tryd.prog 78 = some ([.val (.pointer none)], 1) := by kernel_rfl
-- 79: []uint8
theorem ag79 : agT Tryd.prog 79 = some (false, 1) := by kernel_rfl
theorem zc79 : zT Tryd.prog 79 = some ([.cap0 true], 1) := by kernel_rfl
instance S79 : SlT Tryd.prog 79 5 1 (.int .u8 0) := SlT.of (by kernel_rfl) (by kernel_rfl)
-- 81: strings.Builder
theorem ag81 : agT Tryd.prog 81 = some (true, 2) := by kernel_rfl
theorem zc81 : zT Tryd.prog 81 = some ([.val (.pointer none), .cap0 true], 2) := by kernel_rfl
theorem fo81_0 : fOff Tryd.prog 81 0 = some 0 := by kernel_rfl
theorem ft81_0 : fOT Tryd.prog 81 0 = some (0, 78) := by kernel_rfl
theorem fo81_1 : fOff Tryd.prog 81 1 = some 1 := by kernel_rfl
theorem ft81_1 : fOT Tryd.prog 81 1 = some (1, 79) := by kernel_rfl
theorem fl81 : flT Tryd.prog 81 = some ([(0, 1), (1, 1)], [.val (.pointer none), .cap0 true]) := by kernel_rfl
-- 83: error
theorem ag83 : agT Tryd.prog 83 = some (false, 1) := by kernel_rfl
theorem zc83 : zT Tryd.prog 83 = some ([.val .nilIface], 1) := by kernel_rfl
-- 90: strings.asciiSet
theorem ag90 : agT Tryd.prog 90 = some (true, 256) := by kernel_rfl
theorem zc90 : zT Tryd.prog 90 = some (bools (List.replicate 256 false), 256) := by kernel_rfl
theorem fl90 : flT Tryd.prog 90 = some ([(0, 1), (1, 1), (2, 1), (3, 1), (4, 1), (5, 1), (6, 1), (7, 1), (8, 1), (9, 1), (10, 1), (11, 1), (12, 1), (13, 1), (14, 1), (15, 1), (16, 1), (17, 1), (18, 1), (19, 1), (20, 1), (21, 1), (22, 1), (23, 1), (24, 1), (25, 1), (26, 1), (27, 1), (28, 1), (29, 1), (30, 1), (31, 1), (32, 1), (33, 1), (34, 1), (35, 1), (36, 1), (37, 1), (38, 1), (39, 1), (40, 1), (41, 1), (42, 1), (43, 1), (44, 1), (45, 1), (46, 1), (47, 1), (48, 1), (49, 1), (50, 1), (51, 1), (52, 1), (53, 1), (54, 1), (55, 1), (56, 1), (57, 1), (58, 1), (59, 1), (60, 1), (61, 1), (62, 1), (63, 1), (64, 1), (65, 1), (66, 1), (67, 1), (68, 1), (69, 1), (70, 1), (71, 1), (72, 1), (73, 1), (74, 1), (75, 1), (76, 1), (77, 1), (78, 1), (79, 1), (80, 1), (81, 1), (82, 1), (83, 1), (84, 1), (85, 1), (86, 1), (87, 1), (88, 1), (89, 1), (90, 1), (91, 1), (92, 1), (93, 1), (94, 1), (95, 1), (96, 1), (97, 1), (98, 1), (99, 1), (100, 1), (101, 1), (102, 1), (103, 1), (104, 1), (105, 1), (106, 1), (107, 1), (108, 1), (109, 1), (110, 1), (111, 1), (112, 1), (113, 1), (114, 1), (115, 1), (116, 1), (117, 1), (118, 1), (119, 1), (120, 1), (121, 1), (122, 1), (123, 1), (124, 1), (125, 1), (126, 1), (127, 1), (128, 1), (129, 1), (130, 1), (131, 1), (132, 1), (133, 1), (134, 1), (135, 1), (136, 1), (137, 1), (138, 1), (139, 1), (140, 1), (141, 1), (142, 1), (143, 1), (144, 1), (145, 1), (146, 1), (147, 1), (148, 1), (149, 1), (150, 1), (151, 1), (152, 1), (153, 1), (154, 1), (155, 1), (156, 1), (157, 1), (158, 1), (159, 1), (160, 1), (161, 1), (162, 1), (163, 1), (164, 1), (165, 1), (166, 1), (167, 1), (168, 1), (169, 1), (170, 1), (171, 1), (172, 1), (173, 1), (174, 1), (175, 1), (176, 1), (177, 1), (178, 1), (179, 1), (180, 1), (181, 1), (182, 1), (183, 1), (184, 1), (185, 1), (186, 1), (187, 1), (188, 1), (189, 1), (190, 1), (191, 1), (192, 1), (193, 1), (194, 1), (195, 1), (196, 1), (197, 1), (198, 1), (199, 1), (200, 1), (201, 1), (202, 1), (203, 1), (204, 1), (205, 1), (206, 1), (207, 1), (208, 1), (209, 1), (210, 1), (211, 1), (212, 1), (213, 1), (214, 1), (215, 1), (216, 1), (217, 1), (218, 1), (219, 1), (220, 1), (221, 1), (222, 1), (223, 1), (224, 1), (225, 1), (226, 1), (227, 1), (228, 1), (229, 1), (230, 1), (231, 1), (232, 1), (233, 1), (234, 1), (235, 1), (236, 1), (237, 1), (238, 1), (239, 1), (240, 1), (241, 1), (242, 1), (243, 1), (244, 1), (245, 1), (246, 1), (247, 1), (248, 1), (249, 1), (250, 1), (251, 1), (252, 1), (253, 1), (254, 1), (255, 1)], bools (List.replicate 256 false)) := by kernel_rfl
-- 94: *strings.asciiSet
theorem ag94 : agT Tryd.prog 94 = some (false, 1) := by kernel_rfl
theorem zc94 : zT Tryd.prog 94 = some ([.val (.pointer none)], 1) := by kernel_rfl
-- 96: *uint8
theorem ag96 : agT Tryd.prog 96 = some (false, 1) := by kernel_rfl
theorem zc96 : zT Tryd.prog 96 = some ([.val (.pointer none)], 1) := by kernel_rfl
-- 99: uint
theorem ag99 : agT Tryd.prog 99 = some (false, 1) := by kernel_rfl
theorem zc99 : zT Tryd.prog 99 = some ([.val (.int .u64 0)], 1) := by kernel_rfl
-- 107: unsafe.Pointer
theorem ag107 : agT Tryd.prog 107 = some (false, 1) := by kernel_rfl
theorem zc107 : zT Tryd.prog 107 = some ([.val (.pointer none)], 1) := by kernel_rfl
-- 110: slices.sortedHint
theorem ag110 : agT Tryd.prog 110 = some (false, 1) := by kernel_rfl
theorem zc110 : zT Tryd.prog 110 = some ([I 0], 1) := by kernel_rfl
-- 120: uint64
theorem ag120 : agT Tryd.prog 120 = some (false, 1) := by kernel_rfl
theorem zc120 : zT Tryd.prog 120 = some ([.val (.int .u64 0)], 1) := by kernel_rfl
-- 124: slices.xorshift
theorem ag124 : agT Tryd.prog 124 = some (false, 1) := by kernel_rfl
theorem zc124 : zT Tryd.prog 124 = some ([.val (.int .u64 0)], 1) := by kernel_rfl
-- 128: *int
theorem ag128 : agT Tryd.prog 128 = some (false, 1) := by kernel_rfl
theorem zc128 : zT Tryd.prog 128 = some ([.val (.pointer none)], 1) := by kernel_rfl
-- 136: *slices.xorshift
theorem ag136 : agT Tryd.prog 136 = some (false, 1) := by kernel_rfl
theorem zc136 : zT Tryd.prog 136 = some ([.val (.pointer none)], 1) := by kernel_rfl

theorem FX : type_of% @ag2 ∧ type_of% @zc2 ∧ type_of% @ag3 ∧ type_of% @zc3 ∧ type_of% @ag4 ∧ type_of% @zc4 ∧ type_of% @ag5 ∧ type_of% @zc5 ∧ type_of% @ag9 ∧ type_of% @zc9 ∧ type_of% @ag21 ∧ type_of% @zc21 ∧ type_of% @ag22 ∧ type_of% @zc22 ∧ type_of% @ag24 ∧ type_of% @zc24 ∧ type_of% @fo24_0 ∧ type_of% @ft24_0 ∧ type_of% @fo24_1 ∧ type_of% @ft24_1 ∧ type_of% @fo24_2 ∧ type_of% @ft24_2 ∧ type_of% @fl24 ∧ type_of% @ag26 ∧ type_of% @zc26 ∧ type_of% @ag41 ∧ type_of% @zc41 ∧ type_of% @ag52 ∧ type_of% @zc52 ∧ type_of% @ag54 ∧ type_of% @zc54 ∧ type_of% @fl54 ∧ type_of% @ag61 ∧ type_of% @zc61 ∧ type_of% @ag63 ∧ type_of% @zc63 ∧ type_of% @fo63_0 ∧ type_of% @ft63_0 ∧ type_of% @fo63_1 ∧ type_of% @ft63_1 ∧ type_of% @fl63 ∧ type_of% @ag66 ∧ type_of% @zc66 ∧ type_of% @ag68 ∧ type_of% @zc68 ∧ type_of% @fo68_0 ∧ type_of% @ft68_0 ∧ type_of% @fo68_1 ∧ type_of% @ft68_1 ∧ type_of% @fl68 ∧ type_of% @ag71 ∧ type_of% @zc71 ∧ type_of% @ag75 ∧ type_of% @zc75 ∧ type_of% @ag78 ∧ type_of% @zc78 ∧ type_of% @ag79 ∧ type_of% @zc79 ∧ type_of% @ag81 ∧ type_of% @zc81 ∧ type_of% @fo81_0 ∧ type_of% @ft81_0 ∧ type_of% @fo81_1 ∧ type_of% @ft81_1 ∧ type_of% @fl81 ∧ type_of% @ag83 ∧ type_of% @zc83 ∧ type_of% @ag90 ∧ type_of% @zc90 ∧ type_of% @fl90 ∧ type_of% @ag94 ∧ type_of% @zc94 ∧ type_of% @ag96 ∧ type_of% @zc96 ∧ type_of% @ag99 ∧ type_of% @zc99 ∧ type_of% @ag107 ∧ type_of% @zc107 ∧ type_of% @ag110 ∧ type_of% @zc110 ∧ type_of% @ag120 ∧ type_of% @zc120 ∧ type_of% @ag124 ∧ type_of% @zc124 ∧ type_of% @ag128 ∧ type_of% @zc128 ∧ type_of% @ag136 ∧ type_of% @zc136 :=
  ⟨@ag2, @zc2, @ag3, @zc3, @ag4, @zc4, @ag5, @zc5, @ag9, @zc9, @ag21, @zc21, @ag22, @zc22, @ag24, @zc24, @fo24_0, @ft24_0, @fo24_1, @ft24_1, @fo24_2, @ft24_2, @fl24, @ag26, @zc26, @ag41, @zc41, @ag52, @zc52, @ag54, @zc54, @fl54, @ag61, @zc61, @ag63, @zc63, @fo63_0, @ft63_0, @fo63_1, @ft63_1, @fl63, @ag66, @zc66, @ag68, @zc68, @fo68_0, @ft68_0, @fo68_1, @ft68_1, @fl68, @ag71, @zc71, @ag75, @zc75, @ag78, @zc78, @ag79, @zc79, @ag81, @zc81, @fo81_0, @ft81_0, @fo81_1, @ft81_1, @fl81, @ag83, @zc83, @ag90, @zc90, @fl90, @ag94, @zc94, @ag96, @zc96, @ag99, @zc99, @ag107, @zc107, @ag110, @zc110, @ag120, @zc120, @ag124, @zc124, @ag128, @zc128, @ag136, @zc136⟩
end Go.Proofs.YtcconjlcjinfkaaDoor
