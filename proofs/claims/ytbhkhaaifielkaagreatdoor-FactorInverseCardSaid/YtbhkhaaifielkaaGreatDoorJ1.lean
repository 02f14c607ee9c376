/- Part 1 of the proof's own texts: the contracts of functions, and what they rest on. -/
import Derived.Test.YtbhkhaaifielkaaGreatDoorProg
import Derived.Test.YtbhkhaaifielkaaGreatDoorBw3
import Derived.Shelf.Sort.AssemblyIn
import Derived.Shelf.Slices.CompactI
import Derived.Test.YtbhkhaaifielkaaGreatDoorBw5
import Derived.Test.YtbhkhaaifielkaaGreatDoorBw4
/- Closed facts on the types. -/
namespace Go.Proofs.YtbhkhaaifielkaaGreatDoor
open Go Go.Proofs Go.AW
theorem follows : Tryz.prog.follows .mixedOrders = true := by kernel_rfl
-- 2: int64
theorem ag2 : agT Tryz.prog 2 = some (false, 1) := by kernel_rfl
theorem zc2 : zT Tryz.prog 2 = some ([I 0], 1) := by kernel_rfl
-- 3: int
theorem ag3 : agT Tryz.prog 3 = some (false, 1) := by kernel_rfl
theorem zc3 : zT Tryz.prog 3 = some ([I 0], 1) := by kernel_rfl
-- 4: bool
theorem ag4 : agT Tryz.prog 4 = some (false, 1) := by kernel_rfl
theorem zc4 : zT Tryz.prog 4 = some ([B false], 1) := by kernel_rfl
instance bo4 : BoT Tryz.prog 4 := ⟨by kernel_rfl⟩
-- 5: uint8
theorem ag5 : agT Tryz.prog 5 = some (false, 1) := by kernel_rfl
theorem zc5 : zT Tryz.prog 5 = some ([.val (.int .u8 0)], 1) := by kernel_rfl
-- 9: string
theorem ag9 : agT Tryz.prog 9 = some (false, 1) := by kernel_rfl
theorem zc9 : zT Tryz.prog 9 = some ([.val (.string ⟨#[]⟩)], 1) := by kernel_rfl
-- 21: int32
theorem ag21 : agT Tryz.prog 21 = some (false, 1) := by kernel_rfl
theorem zc21 : zT Tryz.prog 21 = some ([.val (.int .i32 0)], 1) := by kernel_rfl
-- 22: []int
theorem ag22 : agT Tryz.prog 22 = some (false, 1) := by kernel_rfl
theorem zc22 : zT Tryz.prog 22 = some ([.cap0 true], 1) := by kernel_rfl
instance S22 : SlT Tryz.prog 22 3 8 (.int .i64 0) := SlT.of (by kernel_rfl) (by kernel_rfl)
-- 23: []bool
theorem ag23 : agT Tryz.prog 23 = some (false, 1) := by kernel_rfl
theorem zc23 : zT Tryz.prog 23 = some ([.cap0 true], 1) := by kernel_rfl
instance S23 : SlT Tryz.prog 23 4 1 (.bool false) := SlT.of (by kernel_rfl) (by kernel_rfl)
-- 25: api.Grid
theorem ag25 : agT Tryz.prog 25 = some (true, 3) := by kernel_rfl
theorem zc25 : zT Tryz.prog 25 = some ([I 0, I 0, .cap0 true], 3) := by kernel_rfl
theorem fo25_0 : fOff Tryz.prog 25 0 = some 0 := by kernel_rfl
theorem ft25_0 : fOT Tryz.prog 25 0 = some (0, 3) := by kernel_rfl
theorem fo25_1 : fOff Tryz.prog 25 1 = some 1 := by kernel_rfl
theorem ft25_1 : fOT Tryz.prog 25 1 = some (1, 3) := by kernel_rfl
theorem fo25_2 : fOff Tryz.prog 25 2 = some 2 := by kernel_rfl
theorem ft25_2 : fOT Tryz.prog 25 2 = some (2, 23) := by kernel_rfl
theorem fl25 : flT Tryz.prog 25 = some ([(0, 1), (1, 1), (2, 1)], [I 0, I 0, .cap0 true]) := by kernel_rfl
-- 27: api.Draft
theorem ag27 : agT Tryz.prog 27 = some (true, 7) := by kernel_rfl
theorem zc27 : zT Tryz.prog 27 = some ([I 0, I 0, .cap0 true, .cap0 true, I 0, I 0, .cap0 true], 7) := by kernel_rfl
theorem fo27_0 : fOff Tryz.prog 27 0 = some 0 := by kernel_rfl
theorem ft27_0 : fOT Tryz.prog 27 0 = some (0, 3) := by kernel_rfl
theorem fo27_1 : fOff Tryz.prog 27 1 = some 1 := by kernel_rfl
theorem ft27_1 : fOT Tryz.prog 27 1 = some (1, 3) := by kernel_rfl
theorem fo27_2 : fOff Tryz.prog 27 2 = some 2 := by kernel_rfl
theorem ft27_2 : fOT Tryz.prog 27 2 = some (2, 22) := by kernel_rfl
theorem fo27_3 : fOff Tryz.prog 27 3 = some 3 := by kernel_rfl
theorem ft27_3 : fOT Tryz.prog 27 3 = some (3, 22) := by kernel_rfl
theorem fo27_4 : fOff Tryz.prog 27 4 = some 4 := by kernel_rfl
theorem ft27_4 : fOT Tryz.prog 27 4 = some (4, 25) := by kernel_rfl
theorem fl27 : flT Tryz.prog 27 = some ([(0, 1), (1, 1), (2, 1), (3, 1), (4, 3)], [I 0, I 0, .cap0 true, .cap0 true, I 0, I 0, .cap0 true]) := by kernel_rfl
-- 30: api.Errno
theorem ag30 : agT Tryz.prog 30 = some (false, 1) := by kernel_rfl
theorem zc30 : zT Tryz.prog 30 = some ([I 0], 1) := by kernel_rfl
-- 61: *api.Draft
theorem ag61 : agT Tryz.prog 61 = some (false, 1) := by kernel_rfl
theorem zc61 : zT Tryz.prog 61 = some ([.val (.pointer none)], 1) := by kernel_rfl
-- 62: func(int, int) bool
theorem ag62 : agT Tryz.prog 62 = some (false, 1) := by kernel_rfl
theorem zc62 : zT Tryz.prog 62 = some ([.val .nilFunc], 1) := by kernel_rfl
-- 64: ([]int, int)
theorem ag64 : agT Tryz.prog 64 = some (false, 1) := by kernel_rfl
-- 68: [2]int
theorem ag68 : agT Tryz.prog 68 = some (true, 2) := by kernel_rfl
theorem zc68 : zT Tryz.prog 68 = some ([I 0, I 0], 2) := by kernel_rfl
instance nc68 : NumT Tryz.prog 68 2 := ⟨by kernel_rfl⟩
instance AR68 : ArT Tryz.prog 68 2 := ⟨by kernel_rfl⟩
instance AE68 : ArE Tryz.prog 68 2 := ⟨by kernel_rfl⟩
theorem fl68 : flT Tryz.prog 68 = some ([(0, 1), (1, 1)], [I 0, I 0]) := by kernel_rfl
-- 73: *strings.Builder
theorem ag73 : agT Tryz.prog 73 = some (false, 1) := by kernel_rfl
theorem zc73 : zT Tryz.prog 73 = some ([.val (.pointer none)], 1) := by kernel_rfl
-- 74: []uint8
theorem ag74 : agT Tryz.prog 74 = some (false, 1) := by kernel_rfl
theorem zc74 : zT Tryz.prog 74 = some ([.cap0 true], 1) := by kernel_rfl
instance S74 : SlT Tryz.prog 74 5 1 (.int .u8 0) := SlT.of (by kernel_rfl) (by kernel_rfl)
-- 76: strings.Builder
theorem ag76 : agT Tryz.prog 76 = some (true, 2) := by kernel_rfl
theorem zc76 : zT Tryz.prog 76 = some ([.val (.pointer none), .cap0 true], 2) := by kernel_rfl
theorem fo76_0 : fOff Tryz.prog 76 0 = some 0 := by kernel_rfl
theorem ft76_0 : fOT Tryz.prog 76 0 = some (0, 73) := by kernel_rfl
theorem fo76_1 : fOff Tryz.prog 76 1 = some 1 := by kernel_rfl
theorem ft76_1 : fOT Tryz.prog 76 1 = some (1, 74) := by kernel_rfl
theorem fl76 : flT Tryz.prog 76 = some ([(0, 1), (1, 1)], [.val (.pointer none), .cap0 true]) := by kernel_rfl
-- 78: error
theorem ag78 : agT Tryz.prog 78 = some (false, 1) := by kernel_rfl
theorem zc78 : zT Tryz.prog 78 = some ([.val .nilIface], 1) := by kernel_rfl
-- 85: [400]bool
theorem ag85 : agT Tryz.prog 85 = some (true, 400) := by kernel_rfl
theorem zc85 : zT Tryz.prog 85 = some (bools (List.replicate 400 false), 400) := by kernel_rfl
instance kt85 : KT Tryz.prog 85 (List.replicate 400 true) := ⟨by kernel_rfl, by kernel_rfl, by kernel_rfl, by kernel_rfl⟩
instance AR85 : ArT Tryz.prog 85 400 := ⟨by kernel_rfl⟩
instance AE85 : ArE Tryz.prog 85 400 := ⟨by kernel_rfl⟩
theorem fl85 : flT Tryz.prog 85 = some ([(0, 1), (1, 1), (2, 1), (3, 1), (4, 1), (5, 1), (6, 1), (7, 1), (8, 1), (9, 1), (10, 1), (11, 1), (12, 1), (13, 1), (14, 1), (15, 1), (16, 1), (17, 1), (18, 1), (19, 1), (20, 1), (21, 1), (22, 1), (23, 1), (24, 1), (25, 1), (26, 1), (27, 1), (28, 1), (29, 1), (30, 1), (31, 1), (32, 1), (33, 1), (34, 1), (35, 1), (36, 1), (37, 1), (38, 1), (39, 1), (40, 1), (41, 1), (42, 1), (43, 1), (44, 1), (45, 1), (46, 1), (47, 1), (48, 1), (49, 1), (50, 1), (51, 1), (52, 1), (53, 1), (54, 1), (55, 1), (56, 1), (57, 1), (58, 1), (59, 1), (60, 1), (61, 1), (62, 1), (63, 1), (64, 1), (65, 1), (66, 1), (67, 1), (68, 1), (69, 1), (70, 1), (71, 1), (72, 1), (73, 1), (74, 1), (75, 1), (76, 1), (77, 1), (78, 1), (79, 1), (80, 1), (81, 1), (82, 1), (83, 1), (84, 1), (85, 1), (86, 1), (87, 1), (88, 1), (89, 1), (90, 1), (91, 1), (92, 1), (93, 1), (94, 1), (95, 1), (96, 1), (97, 1), (98, 1), (99, 1), (100, 1), (101, 1), (102, 1), (103, 1), (104, 1), (105, 1), (106, 1), (107, 1), (108, 1), (109, 1), (110, 1), (111, 1), (112, 1), (113, 1), (114, 1), (115, 1), (116, 1), (117, 1), (118, 1), (119, 1), (120, 1), (121, 1), (122, 1), (123, 1), (124, 1), (125, 1), (126, 1), (127, 1), (128, 1), (129, 1), (130, 1), (131, 1), (132, 1), (133, 1), (134, 1), (135, 1), (136, 1), (137, 1), (138, 1), (139, 1), (140, 1), (141, 1), (142, 1), (143, 1), (144, 1), (145, 1), (146, 1), (147, 1), (148, 1), (149, 1), (150, 1), (151, 1), (152, 1), (153, 1), (154, 1), (155, 1), (156, 1), (157, 1), (158, 1), (159, 1), (160, 1), (161, 1), (162, 1), (163, 1), (164, 1), (165, 1), (166, 1), (167, 1), (168, 1), (169, 1), (170, 1), (171, 1), (172, 1), (173, 1), (174, 1), (175, 1), (176, 1), (177, 1), (178, 1), (179, 1), (180, 1), (181, 1), (182, 1), (183, 1), (184, 1), (185, 1), (186, 1), (187, 1), (188, 1), (189, 1), (190, 1), (191, 1), (192, 1), (193, 1), (194, 1), (195, 1), (196, 1), (197, 1), (198, 1), (199, 1), (200, 1), (201, 1), (202, 1), (203, 1), (204, 1), (205, 1), (206, 1), (207, 1), (208, 1), (209, 1), (210, 1), (211, 1), (212, 1), (213, 1), (214, 1), (215, 1), (216, 1), (217, 1), (218, 1), (219, 1), (220, 1), (221, 1), (222, 1), (223, 1), (224, 1), (225, 1), (226, 1), (227, 1), (228, 1), (229, 1), (230, 1), (231, 1), (232, 1), (233, 1), (234, 1), (235, 1), (236, 1), (237, 1), (238, 1), (239, 1), (240, 1), (241, 1), (242, 1), (243, 1), (244, 1), (245, 1), (246, 1), (247, 1), (248, 1), (249, 1), (250, 1), (251, 1), (252, 1), (253, 1), (254, 1), (255, 1), (256, 1), (257, 1), (258, 1), (259, 1), (260, 1), (261, 1), (262, 1), (263, 1), (264, 1), (265, 1), (266, 1), (267, 1), (268, 1), (269, 1), (270, 1), (271, 1), (272, 1), (273, 1), (274, 1), (275, 1), (276, 1), (277, 1), (278, 1), (279, 1), (280, 1), (281, 1), (282, 1), (283, 1), (284, 1), (285, 1), (286, 1), (287, 1), (288, 1), (289, 1), (290, 1), (291, 1), (292, 1), (293, 1), (294, 1), (295, 1), (296, 1), (297, 1), (298, 1), (299, 1), (300, 1), (301, 1), (302, 1), (303, 1), (304, 1), (305, 1), (306, 1), (307, 1), (308, 1), (309, 1), (310, 1), (311, 1), (312, 1), (313, 1), (314, 1), (315, 1), (316, 1), (317, 1), (318, 1), (319, 1), (320, 1), (321, 1), (322, 1), (323, 1), (324, 1), (325, 1), (326, 1), (327, 1), (328, 1), (329, 1), (330, 1), (331, 1), (332, 1), (333, 1), (334, 1), (335, 1), (336, 1), (337, 1), (338, 1), (339, 1), (340, 1), (341, 1), (342, 1), (343, 1), (344, 1), (345, 1), (346, 1), (347, 1), (348, 1), (349, 1), (350, 1), (351, 1), (352, 1), (353, 1), (354, 1), (355, 1), (356, 1), (357, 1), (358, 1), (359, 1), (360, 1), (361, 1), (362, 1), (363, 1), (364, 1), (365, 1), (366, 1), (367, 1), (368, 1), (369, 1), (370, 1), (371, 1), (372, 1), (373, 1), (374, 1), (375, 1), (376, 1), (377, 1), (378, 1), (379, 1), (380, 1), (381, 1), (382, 1), (383, 1), (384, 1), (385, 1), (386, 1), (387, 1), (388, 1), (389, 1), (390, 1), (391, 1), (392, 1), (393, 1), (394, 1), (395, 1), (396, 1), (397, 1), (398, 1), (399, 1)], bools (List.replicate 400 false)) := by kernel_rfl
-- 93: []string
theorem ag93 : agT Tryz.prog 93 = some (false, 1) := by kernel_rfl
theorem zc93 : zT Tryz.prog 93 = some ([.cap0 true], 1) := by kernel_rfl
instance S93 : SlT Tryz.prog 93 9 16 (.string ⟨#[]⟩) := SlT.of (by kernel_rfl) (by kernel_rfl)
-- 96: *uint8
theorem ag96 : agT Tryz.prog 96 = some (false, 1) := by kernel_rfl
theorem zc96 : zT Tryz.prog 96 = some ([.val (.pointer none)], 1) := by kernel_rfl
-- 99: iter.Seq[int]
theorem ag99 : agT Tryz.prog 99 = some (false, 1) := by kernel_rfl
theorem zc99 : zT Tryz.prog 99 = some ([.val .nilFunc], 1) := by kernel_rfl
-- 102: [][]int
theorem ag102 : agT Tryz.prog 102 = some (false, 1) := by kernel_rfl
theorem zc102 : zT Tryz.prog 102 = some ([.cap0 true], 1) := by kernel_rfl
instance S102 : SlT Tryz.prog 102 22 24 (.slice none 0 0) := SlT.of (by kernel_rfl) (by kernel_rfl)
-- 104: uint
theorem ag104 : agT Tryz.prog 104 = some (false, 1) := by kernel_rfl
theorem zc104 : zT Tryz.prog 104 = some ([.val (.int .u64 0)], 1) := by kernel_rfl
-- 107: []factor.line
theorem ag107 : agT Tryz.prog 107 = some (false, 1) := by kernel_rfl
theorem zc107 : zT Tryz.prog 107 = some ([.cap0 true], 1) := by kernel_rfl
instance SM107 : SlM Tryz.prog 107 65 := ⟨by kernel_rfl⟩
instance SW107 : SlW Tryz.prog 107 111 65 72 := ⟨by kernel_rfl⟩
instance LT107_1 : LitT Tryz.prog 107 1 [(0, 65)] (bools (List.replicate 64 false) ++ [I 0]) := ⟨by kernel_rfl⟩
-- 109: [64]bool
theorem ag109 : agT Tryz.prog 109 = some (true, 64) := by kernel_rfl
theorem zc109 : zT Tryz.prog 109 = some (bools (List.replicate 64 false), 64) := by kernel_rfl
instance kt109 : KT Tryz.prog 109 (List.replicate 64 true) := ⟨by kernel_rfl, by kernel_rfl, by kernel_rfl, by kernel_rfl⟩
instance AR109 : ArT Tryz.prog 109 64 := ⟨by kernel_rfl⟩
instance AE109 : ArE Tryz.prog 109 64 := ⟨by kernel_rfl⟩
theorem fl109 : flT Tryz.prog 109 = some ([(0, 1), (1, 1), (2, 1), (3, 1), (4, 1), (5, 1), (6, 1), (7, 1), (8, 1), (9, 1), (10, 1), (11, 1), (12, 1), (13, 1), (14, 1), (15, 1), (16, 1), (17, 1), (18, 1), (19, 1), (20, 1), (21, 1), (22, 1), (23, 1), (24, 1), (25, 1), (26, 1), (27, 1), (28, 1), (29, 1), (30, 1), (31, 1), (32, 1), (33, 1), (34, 1), (35, 1), (36, 1), (37, 1), (38, 1), (39, 1), (40, 1), (41, 1), (42, 1), (43, 1), (44, 1), (45, 1), (46, 1), (47, 1), (48, 1), (49, 1), (50, 1), (51, 1), (52, 1), (53, 1), (54, 1), (55, 1), (56, 1), (57, 1), (58, 1), (59, 1), (60, 1), (61, 1), (62, 1), (63, 1)], bools (List.replicate 64 false)) := by kernel_rfl
-- 111: factor.line
theorem ag111 : agT Tryz.prog 111 = some (true, 65) := by kernel_rfl
theorem zc111 : zT Tryz.prog 111 = some (bools (List.replicate 64 false) ++ [I 0], 65) := by kernel_rfl
instance kt111 : KT Tryz.prog 111 (List.replicate 64 true ++ [false]) := ⟨by kernel_rfl, by kernel_rfl, by kernel_rfl, by kernel_rfl⟩
theorem fo111_0 : fOff Tryz.prog 111 0 = some 0 := by kernel_rfl
theorem ft111_0 : fOT Tryz.prog 111 0 = some (0, 109) := by kernel_rfl
theorem fo111_1 : fOff Tryz.prog 111 1 = some 64 := by kernel_rfl
theorem ft111_1 : fOT Tryz.prog 111 1 = some (64, 3) := by kernel_rfl
theorem fl111 : flT Tryz.prog 111 = some ([(0, 64), (64, 1)], bools (List.replicate 64 false) ++ [I 0]) := by kernel_rfl
-- 114: strings.asciiSet
theorem ag114 : agT Tryz.prog 114 = some (true, 256) := by kernel_rfl
theorem zc114 : zT Tryz.prog 114 = some (bools (List.replicate 256 false), 256) := by kernel_rfl
instance kt114 : KT Tryz.prog 114 (List.replicate 256 true) := ⟨by kernel_rfl, by kernel_rfl, by kernel_rfl, by kernel_rfl⟩
instance AR114 : ArT Tryz.prog 114 256 := ⟨by kernel_rfl⟩
instance AE114 : ArE Tryz.prog 114 256 := ⟨by kernel_rfl⟩
theorem fl114 : flT Tryz.prog 114 = some ([(0, 1), (1, 1), (2, 1), (3, 1), (4, 1), (5, 1), (6, 1), (7, 1), (8, 1), (9, 1), (10, 1), (11, 1), (12, 1), (13, 1), (14, 1), (15, 1), (16, 1), (17, 1), (18, 1), (19, 1), (20, 1), (21, 1), (22, 1), (23, 1), (24, 1), (25, 1), (26, 1), (27, 1), (28, 1), (29, 1), (30, 1), (31, 1), (32, 1), (33, 1), (34, 1), (35, 1), (36, 1), (37, 1), (38, 1), (39, 1), (40, 1), (41, 1), (42, 1), (43, 1), (44, 1), (45, 1), (46, 1), (47, 1), (48, 1), (49, 1), (50, 1), (51, 1), (52, 1), (53, 1), (54, 1), (55, 1), (56, 1), (57, 1), (58, 1), (59, 1), (60, 1), (61, 1), (62, 1), (63, 1), (64, 1), (65, 1), (66, 1), (67, 1), (68, 1), (69, 1), (70, 1), (71, 1), (72, 1), (73, 1), (74, 1), (75, 1), (76, 1), (77, 1), (78, 1), (79, 1), (80, 1), (81, 1), (82, 1), (83, 1), (84, 1), (85, 1), (86, 1), (87, 1), (88, 1), (89, 1), (90, 1), (91, 1), (92, 1), (93, 1), (94, 1), (95, 1), (96, 1), (97, 1), (98, 1), (99, 1), (100, 1), (101, 1), (102, 1), (103, 1), (104, 1), (105, 1), (106, 1), (107, 1), (108, 1), (109, 1), (110, 1), (111, 1), (112, 1), (113, 1), (114, 1), (115, 1), (116, 1), (117, 1), (118, 1), (119, 1), (120, 1), (121, 1), (122, 1), (123, 1), (124, 1), (125, 1), (126, 1), (127, 1), (128, 1), (129, 1), (130, 1), (131, 1), (132, 1), (133, 1), (134, 1), (135, 1), (136, 1), (137, 1), (138, 1), (139, 1), (140, 1), (141, 1), (142, 1), (143, 1), (144, 1), (145, 1), (146, 1), (147, 1), (148, 1), (149, 1), (150, 1), (151, 1), (152, 1), (153, 1), (154, 1), (155, 1), (156, 1), (157, 1), (158, 1), (159, 1), (160, 1), (161, 1), (162, 1), (163, 1), (164, 1), (165, 1), (166, 1), (167, 1), (168, 1), (169, 1), (170, 1), (171, 1), (172, 1), (173, 1), (174, 1), (175, 1), (176, 1), (177, 1), (178, 1), (179, 1), (180, 1), (181, 1), (182, 1), (183, 1), (184, 1), (185, 1), (186, 1), (187, 1), (188, 1), (189, 1), (190, 1), (191, 1), (192, 1), (193, 1), (194, 1), (195, 1), (196, 1), (197, 1), (198, 1), (199, 1), (200, 1), (201, 1), (202, 1), (203, 1), (204, 1), (205, 1), (206, 1), (207, 1), (208, 1), (209, 1), (210, 1), (211, 1), (212, 1), (213, 1), (214, 1), (215, 1), (216, 1), (217, 1), (218, 1), (219, 1), (220, 1), (221, 1), (222, 1), (223, 1), (224, 1), (225, 1), (226, 1), (227, 1), (228, 1), (229, 1), (230, 1), (231, 1), (232, 1), (233, 1), (234, 1), (235, 1), (236, 1), (237, 1), (238, 1), (239, 1), (240, 1), (241, 1), (242, 1), (243, 1), (244, 1), (245, 1), (246, 1), (247, 1), (248, 1), (249, 1), (250, 1), (251, 1), (252, 1), (253, 1), (254, 1), (255, 1)], bools (List.replicate 256 false)) := by kernel_rfl
-- 118: *strings.asciiSet
theorem ag118 : agT Tryz.prog 118 = some (false, 1) := by kernel_rfl
theorem zc118 : zT Tryz.prog 118 = some ([.val (.pointer none)], 1) := by kernel_rfl
-- 120: unsafe.Pointer
theorem ag120 : agT Tryz.prog 120 = some (false, 1) := by kernel_rfl
theorem zc120 : zT Tryz.prog 120 = some ([.val (.pointer none)], 1) := by kernel_rfl
-- 123: func(int) bool
theorem ag123 : agT Tryz.prog 123 = some (false, 1) := by kernel_rfl
theorem zc123 : zT Tryz.prog 123 = some ([.val .nilFunc], 1) := by kernel_rfl
-- 127: uint64
theorem ag127 : agT Tryz.prog 127 = some (false, 1) := by kernel_rfl
theorem zc127 : zT Tryz.prog 127 = some ([.val (.int .u64 0)], 1) := by kernel_rfl
-- 144: slices.sortedHint
theorem ag144 : agT Tryz.prog 144 = some (false, 1) := by kernel_rfl
theorem zc144 : zT Tryz.prog 144 = some ([I 0], 1) := by kernel_rfl
-- 159: slices.xorshift
theorem ag159 : agT Tryz.prog 159 = some (false, 1) := by kernel_rfl
theorem zc159 : zT Tryz.prog 159 = some ([.val (.int .u64 0)], 1) := by kernel_rfl
-- 163: *int
theorem ag163 : agT Tryz.prog 163 = some (false, 1) := by kernel_rfl
theorem zc163 : zT Tryz.prog 163 = some ([.val (.pointer none)], 1) := by kernel_rfl
-- 166: *slices.xorshift
theorem ag166 : agT Tryz.prog 166 = some (false, 1) := by kernel_rfl
theorem zc166 : zT Tryz.prog 166 = some ([.val (.pointer none)], 1) := by kernel_rfl

theorem FX : type_of% @ag2 ∧ type_of% @zc2 ∧ type_of% @ag3 ∧ type_of% @zc3 ∧ type_of% @ag4 ∧ type_of% @zc4 ∧ type_of% @ag5 ∧ type_of% @zc5 ∧ type_of% @ag9 ∧ type_of% @zc9 ∧ type_of% @ag21 ∧ type_of% @zc21 ∧ type_of% @ag22 ∧ type_of% @zc22 ∧ type_of% @ag23 ∧ type_of% @zc23 ∧ type_of% @ag25 ∧ type_of% @zc25 ∧ type_of% @fo25_0 ∧ type_of% @ft25_0 ∧ type_of% @fo25_1 ∧ type_of% @ft25_1 ∧ type_of% @fo25_2 ∧ type_of% @ft25_2 ∧ type_of% @fl25 ∧ type_of% @ag27 ∧ type_of% @zc27 ∧ type_of% @fo27_0 ∧ type_of% @ft27_0 ∧ type_of% @fo27_1 ∧ type_of% @ft27_1 ∧ type_of% @fo27_2 ∧ type_of% @ft27_2 ∧ type_of% @fo27_3 ∧ type_of% @ft27_3 ∧ type_of% @fo27_4 ∧ type_of% @ft27_4 ∧ type_of% @fl27 ∧ type_of% @ag30 ∧ type_of% @zc30 ∧ type_of% @ag61 ∧ type_of% @zc61 ∧ type_of% @ag62 ∧ type_of% @zc62 ∧ type_of% @ag64 ∧ type_of% @ag68 ∧ type_of% @zc68 ∧ type_of% @fl68 ∧ type_of% @ag73 ∧ type_of% @zc73 ∧ type_of% @ag74 ∧ type_of% @zc74 ∧ type_of% @ag76 ∧ type_of% @zc76 ∧ type_of% @fo76_0 ∧ type_of% @ft76_0 ∧ type_of% @fo76_1 ∧ type_of% @ft76_1 ∧ type_of% @fl76 ∧ type_of% @ag78 ∧ type_of% @zc78 ∧ type_of% @ag85 ∧ type_of% @zc85 ∧ type_of% @fl85 ∧ type_of% @ag93 ∧ type_of% @zc93 ∧ type_of% @ag96 ∧ type_of% @zc96 ∧ type_of% @ag99 ∧ type_of% @zc99 ∧ type_of% @ag102 ∧ type_of% @zc102 ∧ type_of% @ag104 ∧ type_of% @zc104 ∧ type_of% @ag107 ∧ type_of% @zc107 ∧ type_of% @ag109 ∧ type_of% @zc109 ∧ type_of% @fl109 ∧ type_of% @ag111 ∧ type_of% @zc111 ∧ type_of% @fo111_0 ∧ type_of% @ft111_0 ∧ type_of% @fo111_1 ∧ type_of% @ft111_1 ∧ type_of% @fl111 ∧ type_of% @ag114 ∧ type_of% @zc114 ∧ type_of% @fl114 ∧ type_of% @ag118 ∧ type_of% @zc118 ∧ type_of% @ag120 ∧ type_of% @zc120 ∧ type_of% @ag123 ∧ type_of% @zc123 ∧ type_of% @ag127 ∧ type_of% @zc127 ∧ type_of% @ag144 ∧ type_of% @zc144 ∧ type_of% @ag159 ∧ type_of% @zc159 ∧ type_of% @ag163 ∧ type_of% @zc163 ∧ type_of% @ag166 ∧ type_of% @zc166 :=
  ⟨@ag2, @zc2, @ag3, @zc3, @ag4, @zc4, @ag5, @zc5, @ag9, @zc9, @ag21, @zc21, @ag22, @zc22, @ag23, @zc23, @ag25, @zc25, @fo25_0, @ft25_0, @fo25_1, @ft25_1, @fo25_2, @ft25_2, @fl25, @ag27, @zc27, @fo27_0, @ft27_0, @fo27_1, @ft27_1, @fo27_2, @ft27_2, @fo27_3, @ft27_3, @fo27_4, @ft27_4, @fl27, @ag30, @zc30, @ag61, @zc61, @ag62, @zc62, @ag64, @ag68, @zc68, @fl68, @ag73, @zc73, @ag74, @zc74, @ag76, @zc76, @fo76_0, @ft76_0, @fo76_1, @ft76_1, @fl76, @ag78, @zc78, @ag85, @zc85, @fl85, @ag93, @zc93, @ag96, @zc96, @ag99, @zc99, @ag102, @zc102, @ag104, @zc104, @ag107, @zc107, @ag109, @zc109, @fl109, @ag111, @zc111, @fo111_0, @ft111_0, @fo111_1, @ft111_1, @fl111, @ag114, @zc114, @fl114, @ag118, @zc118, @ag120, @zc120, @ag123, @zc123, @ag127, @zc127, @ag144, @zc144, @ag159, @zc159, @ag163, @zc163, @ag166, @zc166⟩
end Go.Proofs.YtbhkhaaifielkaaGreatDoor

/- Grids: their checks. -/
set_option linter.unusedSimpArgs false
set_option linter.unusedVariables false
set_option maxRecDepth 100000
namespace Go.Proofs.YtbhkhaaifielkaaGreatDoor
open Go Go.Proofs Go.AW

abbrev LA (b : Bool) (l : List Int) : AVal := .list false b l.length (ints l)
abbrev LR (b : Bool) (l : List Int) : AVal := .list true b l.length (ints l)
abbrev BA (b : Bool) (l : List Bool) : AVal := .list false b l.length (bools l)
abbrev BR (b : Bool) (l : List Bool) : AVal := .list true b l.length (bools l)
abbrev GA (w h : Int) (b : Bool) (l : List Bool) : AVal := .agg [I w, I h, BA b l]
abbrev GR (w h : Int) (b : Bool) (l : List Bool) : AVal := .agg [I w, I h, BR b l]

theorem great_c (w h : Int) (b : Bool) (l : List Bool) : Contract Tryz.prog 15 [GA w h b l] (B (decide (4200 < (l.length : Int)))) := by
  refine Contract.intro (effS [] false) 6 follows Tryz.func15 rfl rfl (by kernel_rfl) (Nat.le_of_ble_eq_true rfl) ?_
  simp (disch := omega) only [↓RP, RG, FX, RQ, ↓reduceIte, Nat.reduceEqDiff, reduceCtorEq, Nat.reduceBEq, Nat.reduceAdd, Nat.reduceLeDiff, args0_1]
  rw [resVal_1 rfl]; simp (disch := first | assumption | omega | rfl | simp only [RH]) only [↓RP, RG, FX, RQ, ↓reduceIte, Nat.reduceEqDiff, reduceCtorEq, Nat.reduceBEq, Nat.reduceAdd, Nat.reduceLeDiff, RS]

/-- The error of a grid. -/
def gchk (w h n : Int) : Int := if 64 < w ∨ 64 < h then 4 else if w < 1 ∨ h < 1 ∨ n ≠ w * h then 8 else 0
def gOk (w h n : Int) : Prop := 1 ≤ w ∧ w ≤ 64 ∧ 1 ≤ h ∧ h ≤ 64 ∧ n = w * h
theorem gchk_ok {w h n : Int} (hg : gOk w h n) : gchk w h n = 0 := by
  obtain ⟨h1, h2, h3, h4, h5⟩ := hg
  unfold gchk
  rw [if_neg (by omega), if_neg (by omega)]
theorem gchk_iff {w h n : Int} : gchk w h n = 0 ↔ gOk w h n := by
  refine ⟨fun hz => ?_, gchk_ok⟩
  unfold gchk at hz
  unfold gOk
  split at hz
  · omega
  · split at hz
    · omega
    · omega
theorem prod64 {w h : Int} (h1 : 0 ≤ w) (h2 : w ≤ 64) (h3 : 0 ≤ h) (h4 : h ≤ 64) : 0 ≤ w * h ∧ w * h ≤ 4096 := by
  constructor
  · exact Int.mul_nonneg h1 h3
  · have := Int.mul_le_mul h2 h4 h3 (by omega); omega

theorem gcheckP_c (w h : Int) (b : Bool) (l : List Bool) : Contract Tryz.prog 42 [GA w h b l] (I (gchk w h l.length)) := by
  unfold gchk
  refine Contract.intro (effS [] false) 6 follows Tryz.func42 rfl rfl (by kernel_rfl) (Nat.le_of_ble_eq_true rfl) ?_
  by_cases c1 : 64 < w ∨ 64 < h
  · rw [if_pos c1]
    have : 64 < max w h := by omega
    simp (disch := omega) only [↓RP, RG, FX, RQ, ↓reduceIte, Nat.reduceEqDiff, reduceCtorEq, Nat.reduceBEq, Nat.reduceAdd, Nat.reduceLeDiff, args0_1]
    rw [resVal_1 rfl]; simp (disch := first | assumption | omega | rfl | simp only [RH]) only [↓RP, RG, FX, RQ, ↓reduceIte, Nat.reduceEqDiff, reduceCtorEq, Nat.reduceBEq, Nat.reduceAdd, Nat.reduceLeDiff, RS]
  rw [if_neg c1]
  have : ¬ 64 < max w h := by omega
  by_cases c2 : w < 1 ∨ h < 1
  · rw [if_pos (by omega)]
    have : min w h < 1 := by omega
    simp (disch := omega) only [↓RP, RG, FX, RQ, ↓reduceIte, Nat.reduceEqDiff, reduceCtorEq, Nat.reduceBEq, Nat.reduceAdd, Nat.reduceLeDiff, args0_1]
    rw [resVal_1 rfl]; simp (disch := first | assumption | omega | rfl | simp only [RH]) only [↓RP, RG, FX, RQ, ↓reduceIte, Nat.reduceEqDiff, reduceCtorEq, Nat.reduceBEq, Nat.reduceAdd, Nat.reduceLeDiff, RS]
  have : ¬ min w h < 1 := by omega
  have hp := prod64 (w := w) (h := h) (by omega) (by omega) (by omega) (by omega)
  by_cases c3 : (l.length : Int) = w * h
  · rw [if_neg (by omega)]
    simp (disch := omega) only [↓RP, RG, FX, RQ, ↓reduceIte, Nat.reduceEqDiff, reduceCtorEq, Nat.reduceBEq, Nat.reduceAdd, Nat.reduceLeDiff, args0_1]
    rw [resVal_1 rfl]; simp (disch := first | assumption | omega | rfl | simp only [RH]) only [↓RP, RG, FX, RQ, ↓reduceIte, Nat.reduceEqDiff, reduceCtorEq, Nat.reduceBEq, Nat.reduceAdd, Nat.reduceLeDiff, RS]
  · rw [if_pos (by omega)]
    simp (disch := omega) only [↓RP, RG, FX, RQ, ↓reduceIte, Nat.reduceEqDiff, reduceCtorEq, Nat.reduceBEq, Nat.reduceAdd, Nat.reduceLeDiff, args0_1]
    rw [resVal_1 rfl]; simp (disch := first | assumption | omega | rfl | simp only [RH]) only [↓RP, RG, FX, RQ, ↓reduceIte, Nat.reduceEqDiff, reduceCtorEq, Nat.reduceBEq, Nat.reduceAdd, Nat.reduceLeDiff, RS]

theorem gcheckR_c (w h : Int) (b : Bool) (l : List Bool) : Contract Tryz.prog 16 [GA w h b l] (I (gchk w h l.length)) := by
  unfold gchk
  refine Contract.intro (effS [] false) 6 follows Tryz.func16 rfl rfl (by kernel_rfl) (Nat.le_of_ble_eq_true rfl) ?_
  by_cases c0 : 64 < w
  · rw [if_pos (by omega)]
    simp (disch := omega) only [↓RP, RG, FX, RQ, ↓reduceIte, Nat.reduceEqDiff, reduceCtorEq, Nat.reduceBEq, Nat.reduceAdd, Nat.reduceLeDiff, args0_1]
    rw [resVal_1 rfl]; simp (disch := first | assumption | omega | rfl | simp only [RH]) only [↓RP, RG, FX, RQ, ↓reduceIte, Nat.reduceEqDiff, reduceCtorEq, Nat.reduceBEq, Nat.reduceAdd, Nat.reduceLeDiff, RS]
  by_cases c1 : 64 < h
  · rw [if_pos (by omega)]
    simp (disch := omega) only [↓RP, RG, FX, RQ, ↓reduceIte, Nat.reduceEqDiff, reduceCtorEq, Nat.reduceBEq, Nat.reduceAdd, Nat.reduceLeDiff, args0_1]
    rw [resVal_1 rfl]; simp (disch := first | assumption | omega | rfl | simp only [RH]) only [↓RP, RG, FX, RQ, ↓reduceIte, Nat.reduceEqDiff, reduceCtorEq, Nat.reduceBEq, Nat.reduceAdd, Nat.reduceLeDiff, RS]
  rw [if_neg (by omega)]
  by_cases c2 : w < 1
  · rw [if_pos (by omega)]
    simp (disch := omega) only [↓RP, RG, FX, RQ, ↓reduceIte, Nat.reduceEqDiff, reduceCtorEq, Nat.reduceBEq, Nat.reduceAdd, Nat.reduceLeDiff, args0_1]
    rw [resVal_1 rfl]; simp (disch := first | assumption | omega | rfl | simp only [RH]) only [↓RP, RG, FX, RQ, ↓reduceIte, Nat.reduceEqDiff, reduceCtorEq, Nat.reduceBEq, Nat.reduceAdd, Nat.reduceLeDiff, RS]
  by_cases c3 : h < 1
  · rw [if_pos (by omega)]
    simp (disch := omega) only [↓RP, RG, FX, RQ, ↓reduceIte, Nat.reduceEqDiff, reduceCtorEq, Nat.reduceBEq, Nat.reduceAdd, Nat.reduceLeDiff, args0_1]
    rw [resVal_1 rfl]; simp (disch := first | assumption | omega | rfl | simp only [RH]) only [↓RP, RG, FX, RQ, ↓reduceIte, Nat.reduceEqDiff, reduceCtorEq, Nat.reduceBEq, Nat.reduceAdd, Nat.reduceLeDiff, RS]
  have hp := prod64 (w := w) (h := h) (by omega) (by omega) (by omega) (by omega)
  by_cases c4 : (l.length : Int) = w * h
  · rw [if_neg (by omega)]
    simp (disch := omega) only [↓RP, RG, FX, RQ, ↓reduceIte, Nat.reduceEqDiff, reduceCtorEq, Nat.reduceBEq, Nat.reduceAdd, Nat.reduceLeDiff, args0_1]
    rw [resVal_1 rfl]; simp (disch := first | assumption | omega | rfl | simp only [RH]) only [↓RP, RG, FX, RQ, ↓reduceIte, Nat.reduceEqDiff, reduceCtorEq, Nat.reduceBEq, Nat.reduceAdd, Nat.reduceLeDiff, RS]
  · rw [if_pos (by omega)]
    simp (disch := omega) only [↓RP, RG, FX, RQ, ↓reduceIte, Nat.reduceEqDiff, reduceCtorEq, Nat.reduceBEq, Nat.reduceAdd, Nat.reduceLeDiff, args0_1]
    rw [resVal_1 rfl]; simp (disch := first | assumption | omega | rfl | simp only [RH]) only [↓RP, RG, FX, RQ, ↓reduceIte, Nat.reduceEqDiff, reduceCtorEq, Nat.reduceBEq, Nat.reduceAdd, Nat.reduceLeDiff, RS]
end Go.Proofs.YtbhkhaaifielkaaGreatDoor

/- Lists: compared. -/
set_option linter.unusedSimpArgs false
set_option linter.unusedVariables false
set_option maxRecDepth 100000
namespace Go.Proofs.YtbhkhaaifielkaaGreatDoor
open Go Go.Proofs Go.AW

theorem bneq {a b : Bool} (h : ¬ a = b) : (a == b) = false := by simpa using h

/-- Lists compared. -/
theorem same02_c (b1 b2 : Bool) (l m : List Int) (hl : l.length ≤ 9223372036854775807) : Contract Tryz.prog 14 [LA b1 l, LA b2 m] (B (decide (l = m))) := by
  refine Contract.intro (effS [] false) 6 follows Tryz.func14 rfl rfl (by kernel_rfl) (Nat.le_of_ble_eq_true rfl) ?_
  by_cases hlen : l.length = m.length
  · simp (disch := first | assumption | omega | rfl | simp only [RH]) only [↓RP, RG, FX, RQ, ↓reduceIte, Nat.reduceEqDiff, reduceCtorEq, Nat.reduceBEq, Nat.reduceAdd, Nat.reduceLeDiff, args0_2]
    refine loopK_I [0, 1, 5] (fun k : Nat => k ≤ l.length ∧ l.take k = m.take k) (fun k : Nat => ⟨[(0, LA b1 l), (1, LA b2 m), (5, I k)], []⟩) (fun k => l.length - k) 0 (by simp) (by simp only [↓RP, RG, FX, RQ, ↓reduceIte, Nat.reduceEqDiff, reduceCtorEq, Nat.reduceBEq, Nat.reduceAdd, Nat.reduceLeDiff]; rfl) ?_
    rintro k ⟨hk, htk⟩
    by_cases hlt : k < l.length
    · by_cases he : l.getD k 0 = m.getD k 0
      · simp (disch := first | assumption | omega | rfl | simp only [RH]) only [↓RP, RG, FX, RQ, ↓reduceIte, Nat.reduceEqDiff, reduceCtorEq, Nat.reduceBEq, Nat.reduceAdd, Nat.reduceLeDiff]
        refine ⟨k + 1, ⟨by omega, ?_⟩, rfl, by omega⟩
        rw [List.take_add_one, List.take_add_one, htk]
        simp [hlt, show k < m.length by omega] at he
        rw [List.getElem?_eq_getElem hlt, List.getElem?_eq_getElem (show k < m.length by omega), he]
      · simp (disch := first | assumption | omega | rfl | simp only [RH]) only [↓RP, RG, FX, RQ, ↓reduceIte, Nat.reduceEqDiff, reduceCtorEq, Nat.reduceBEq, Nat.reduceAdd, Nat.reduceLeDiff]
        rw [resVal_1 rfl]; simp (disch := first | assumption | omega | rfl | simp only [RH]) only [↓RP, RG, FX, RQ, ↓reduceIte, Nat.reduceEqDiff, reduceCtorEq, Nat.reduceBEq, Nat.reduceAdd, Nat.reduceLeDiff, RS]
        refine okF ?_
        rintro rfl; exact he rfl
    · simp (disch := first | assumption | omega | rfl | simp only [RH]) only [↓RP, RG, FX, RQ, ↓reduceIte, Nat.reduceEqDiff, reduceCtorEq, Nat.reduceBEq, Nat.reduceAdd, Nat.reduceLeDiff]
      rw [resVal_1 rfl]; simp (disch := first | assumption | omega | rfl | simp only [RH]) only [↓RP, RG, FX, RQ, ↓reduceIte, Nat.reduceEqDiff, reduceCtorEq, Nat.reduceBEq, Nat.reduceAdd, Nat.reduceLeDiff, RS]
      refine okT ?_
      have hk' : k = l.length := by omega
      rw [hk', List.take_length] at htk
      rw [htk, hlen, List.take_length]
  · simp (disch := first | assumption | omega | rfl | simp only [RH]) only [↓RP, RG, FX, RQ, ↓reduceIte, Nat.reduceEqDiff, reduceCtorEq, Nat.reduceBEq, Nat.reduceAdd, Nat.reduceLeDiff, args0_2]
    rw [resVal_1 rfl]; simp (disch := first | assumption | omega | rfl | simp only [RH]) only [↓RP, RG, FX, RQ, ↓reduceIte, Nat.reduceEqDiff, reduceCtorEq, Nat.reduceBEq, Nat.reduceAdd, Nat.reduceLeDiff, RS]
    refine okF ?_
    rintro rfl; exact hlen rfl

/-- Lists compared. -/
theorem equalI_c (b1 b2 : Bool) (l m : List Int) (hl : l.length ≤ 9223372036854775807) : Contract Tryz.prog 49 [LA b1 l, LA b2 m] (B (decide (l = m))) := by
  refine Contract.intro (effS [] false) 6 follows Tryz.func49 rfl rfl (by kernel_rfl) (Nat.le_of_ble_eq_true rfl) ?_
  by_cases hlen : l.length = m.length
  · simp (disch := first | assumption | omega | rfl | simp only [RH]) only [↓RP, RG, FX, RQ, ↓reduceIte, Nat.reduceEqDiff, reduceCtorEq, Nat.reduceBEq, Nat.reduceAdd, Nat.reduceLeDiff, args0_2]
    refine loopK_I [0, 1, 12, 13] (fun k : Nat => k ≤ l.length ∧ l.take k = m.take k) (fun k : Nat => ⟨[(0, LA b1 l), (1, LA b2 m), (12, I l.length), (13, I k)], []⟩) (fun k => l.length - k) 0 (by simp) (by simp only [↓RP, RG, FX, RQ, ↓reduceIte, Nat.reduceEqDiff, reduceCtorEq, Nat.reduceBEq, Nat.reduceAdd, Nat.reduceLeDiff]; rfl) ?_
    rintro k ⟨hk, htk⟩
    by_cases hlt : k < l.length
    · by_cases he : l.getD k 0 = m.getD k 0
      · simp (disch := first | assumption | omega | rfl | simp only [RH]) only [↓RP, RG, FX, RQ, ↓reduceIte, Nat.reduceEqDiff, reduceCtorEq, Nat.reduceBEq, Nat.reduceAdd, Nat.reduceLeDiff]
        refine ⟨k + 1, ⟨by omega, ?_⟩, rfl, by omega⟩
        rw [List.take_add_one, List.take_add_one, htk]
        simp [hlt, show k < m.length by omega] at he
        rw [List.getElem?_eq_getElem hlt, List.getElem?_eq_getElem (show k < m.length by omega), he]
      · simp (disch := first | assumption | omega | rfl | simp only [RH]) only [↓RP, RG, FX, RQ, ↓reduceIte, Nat.reduceEqDiff, reduceCtorEq, Nat.reduceBEq, Nat.reduceAdd, Nat.reduceLeDiff]
        rw [resVal_1 rfl]; simp (disch := first | assumption | omega | rfl | simp only [RH]) only [↓RP, RG, FX, RQ, ↓reduceIte, Nat.reduceEqDiff, reduceCtorEq, Nat.reduceBEq, Nat.reduceAdd, Nat.reduceLeDiff, RS]
        refine okF ?_
        rintro rfl; exact he rfl
    · simp (disch := first | assumption | omega | rfl | simp only [RH]) only [↓RP, RG, FX, RQ, ↓reduceIte, Nat.reduceEqDiff, reduceCtorEq, Nat.reduceBEq, Nat.reduceAdd, Nat.reduceLeDiff]
      rw [resVal_1 rfl]; simp (disch := first | assumption | omega | rfl | simp only [RH]) only [↓RP, RG, FX, RQ, ↓reduceIte, Nat.reduceEqDiff, reduceCtorEq, Nat.reduceBEq, Nat.reduceAdd, Nat.reduceLeDiff, RS]
      refine okT ?_
      have hk' : k = l.length := by omega
      rw [hk', List.take_length] at htk
      rw [htk, hlen, List.take_length]
  · simp (disch := first | assumption | omega | rfl | simp only [RH]) only [↓RP, RG, FX, RQ, ↓reduceIte, Nat.reduceEqDiff, reduceCtorEq, Nat.reduceBEq, Nat.reduceAdd, Nat.reduceLeDiff, args0_2]
    rw [resVal_1 rfl]; simp (disch := first | assumption | omega | rfl | simp only [RH]) only [↓RP, RG, FX, RQ, ↓reduceIte, Nat.reduceEqDiff, reduceCtorEq, Nat.reduceBEq, Nat.reduceAdd, Nat.reduceLeDiff, RS]
    refine okF ?_
    rintro rfl; exact hlen rfl

/-- Lists compared. -/
theorem equalB_c (b1 b2 : Bool) (l m : List Bool) (hl : l.length ≤ 9223372036854775807) : Contract Tryz.prog 64 [BA b1 l, BA b2 m] (B (decide (l = m))) := by
  refine Contract.intro (effS [] false) 6 follows Tryz.func64 rfl rfl (by kernel_rfl) (Nat.le_of_ble_eq_true rfl) ?_
  by_cases hlen : l.length = m.length
  · simp (disch := first | assumption | omega | rfl | simp only [RH]) only [↓RP, RG, FX, RQ, ↓reduceIte, Nat.reduceEqDiff, reduceCtorEq, Nat.reduceBEq, Nat.reduceAdd, Nat.reduceLeDiff, args0_2]
    refine loopK_I [0, 1, 12, 13] (fun k : Nat => k ≤ l.length ∧ l.take k = m.take k) (fun k : Nat => ⟨[(0, BA b1 l), (1, BA b2 m), (12, I l.length), (13, I k)], []⟩) (fun k => l.length - k) 0 (by simp) (by simp only [↓RP, RG, FX, RQ, ↓reduceIte, Nat.reduceEqDiff, reduceCtorEq, Nat.reduceBEq, Nat.reduceAdd, Nat.reduceLeDiff]; rfl) ?_
    rintro k ⟨hk, htk⟩
    by_cases hlt : k < l.length
    · by_cases he : l.getD k false = m.getD k false
      · simp (disch := first | assumption | omega | rfl | simp only [RH]) only [↓RP, RG, FX, RQ, ↓reduceIte, Nat.reduceEqDiff, reduceCtorEq, Nat.reduceBEq, Nat.reduceAdd, Nat.reduceLeDiff, he, beq_self_eq_true, Bool.not_true]
        refine ⟨k + 1, ⟨by omega, ?_⟩, rfl, by omega⟩
        rw [List.take_add_one, List.take_add_one, htk]
        simp [hlt, show k < m.length by omega] at he
        rw [List.getElem?_eq_getElem hlt, List.getElem?_eq_getElem (show k < m.length by omega), he]
      · simp (disch := first | assumption | omega | rfl | simp only [RH]) only [↓RP, RG, FX, RQ, ↓reduceIte, Nat.reduceEqDiff, reduceCtorEq, Nat.reduceBEq, Nat.reduceAdd, Nat.reduceLeDiff, bneq he]
        rw [resVal_1 rfl]; simp (disch := first | assumption | omega | rfl | simp only [RH]) only [↓RP, RG, FX, RQ, ↓reduceIte, Nat.reduceEqDiff, reduceCtorEq, Nat.reduceBEq, Nat.reduceAdd, Nat.reduceLeDiff, RS]
        refine okF ?_
        rintro rfl; exact he rfl
    · simp (disch := first | assumption | omega | rfl | simp only [RH]) only [↓RP, RG, FX, RQ, ↓reduceIte, Nat.reduceEqDiff, reduceCtorEq, Nat.reduceBEq, Nat.reduceAdd, Nat.reduceLeDiff]
      rw [resVal_1 rfl]; simp (disch := first | assumption | omega | rfl | simp only [RH]) only [↓RP, RG, FX, RQ, ↓reduceIte, Nat.reduceEqDiff, reduceCtorEq, Nat.reduceBEq, Nat.reduceAdd, Nat.reduceLeDiff, RS]
      refine okT ?_
      have hk' : k = l.length := by omega
      rw [hk', List.take_length] at htk
      rw [htk, hlen, List.take_length]
  · simp (disch := first | assumption | omega | rfl | simp only [RH]) only [↓RP, RG, FX, RQ, ↓reduceIte, Nat.reduceEqDiff, reduceCtorEq, Nat.reduceBEq, Nat.reduceAdd, Nat.reduceLeDiff, args0_2]
    rw [resVal_1 rfl]; simp (disch := first | assumption | omega | rfl | simp only [RH]) only [↓RP, RG, FX, RQ, ↓reduceIte, Nat.reduceEqDiff, reduceCtorEq, Nat.reduceBEq, Nat.reduceAdd, Nat.reduceLeDiff, RS]
    refine okF ?_
    rintro rfl; exact hlen rfl

end Go.Proofs.YtbhkhaaifielkaaGreatDoor

/- Lists: least and greatest element, within a range; cells of grids. -/
set_option linter.unusedSimpArgs false
set_option linter.unusedVariables false
set_option maxRecDepth 100000
namespace Go.Proofs.YtbhkhaaifielkaaGreatDoor
open Go Go.Proofs Go.AW

def mnl (l : List Int) : Nat → Int
  | 0 => l.getD 0 0
  | k + 1 => min (mnl l k) (l.getD (k + 1) 0)
def mxl (l : List Int) : Nat → Int
  | 0 => l.getD 0 0
  | k + 1 => max (mxl l k) (l.getD (k + 1) 0)
theorem mnl_le (l : List Int) (k : Nat) : ∀ j, j ≤ k → mnl l k ≤ l.getD j 0 := by
  induction k with
  | zero => intro j hj; obtain rfl : j = 0 := (by omega); exact Int.le_refl _
  | succ k ih =>
    intro j hj
    simp only [mnl]
    by_cases h : j = k + 1
    · subst h; omega
    · have := ih j (by omega); omega
theorem mnl_mem (l : List Int) (k : Nat) : ∃ j, j ≤ k ∧ mnl l k = l.getD j 0 := by
  induction k with
  | zero => exact ⟨0, Nat.le_refl _, rfl⟩
  | succ k ih =>
    obtain ⟨j, h1, h2⟩ := ih
    simp only [mnl]
    by_cases h : mnl l k ≤ l.getD (k + 1) 0
    · exact ⟨j, by omega, by omega⟩
    · exact ⟨k + 1, by omega, by omega⟩
theorem le_mxl (l : List Int) (k : Nat) : ∀ j, j ≤ k → l.getD j 0 ≤ mxl l k := by
  induction k with
  | zero => intro j hj; obtain rfl : j = 0 := (by omega); exact Int.le_refl _
  | succ k ih =>
    intro j hj
    simp only [mxl]
    by_cases h : j = k + 1
    · subst h; omega
    · have := ih j (by omega); omega
theorem mxl_mem (l : List Int) (k : Nat) : ∃ j, j ≤ k ∧ mxl l k = l.getD j 0 := by
  induction k with
  | zero => exact ⟨0, Nat.le_refl _, rfl⟩
  | succ k ih =>
    obtain ⟨j, h1, h2⟩ := ih
    simp only [mxl]
    by_cases h : mxl l k ≤ l.getD (k + 1) 0
    · exact ⟨k + 1, by omega, by omega⟩
    · exact ⟨j, by omega, by omega⟩

theorem min_c (b : Bool) (l : List Int) (h0 : 0 < l.length) (hl : l.length ≤ 1000000000000) : Contract Tryz.prog 60 [LA b l] (I (mnl l (l.length - 1))) := by
  refine Contract.intro (effS [] false) 6 follows Tryz.func60 rfl rfl (by kernel_rfl) (Nat.le_of_ble_eq_true rfl) ?_
  simp (disch := first | assumption | omega | rfl | simp only [RH]) only [↓RP, RG, FX, RQ, ↓reduceIte, Nat.reduceEqDiff, reduceCtorEq, Nat.reduceBEq, Nat.reduceAdd, Nat.reduceLeDiff, args0_1, Int.toNat_zero, List.drop_zero]
  refine loopK_I [0, 3, 4] (fun k : Nat => k + 1 ≤ l.length) (fun k : Nat => ⟨[(0, LA b l), (3, I (mnl l k)), (4, I ((k + 1 : Nat) : Int))], []⟩) (fun k => l.length - k) 0 (by omega) (by simp only [↓RP, RG, FX, RQ, ↓reduceIte, Nat.reduceEqDiff, reduceCtorEq, Nat.reduceBEq, Nat.reduceAdd, Nat.reduceLeDiff]; rfl) ?_
  intro k hk
  by_cases hlt : k + 1 < l.length
  · simp (disch := first | assumption | omega | rfl | simp only [RH]) only [↓RP, RG, FX, RQ, ↓reduceIte, Nat.reduceEqDiff, reduceCtorEq, Nat.reduceBEq, Nat.reduceAdd, Nat.reduceLeDiff]
    exact ⟨k + 1, by omega, rfl, by omega⟩
  · simp (disch := first | assumption | omega | rfl | simp only [RH]) only [↓RP, RG, FX, RQ, ↓reduceIte, Nat.reduceEqDiff, reduceCtorEq, Nat.reduceBEq, Nat.reduceAdd, Nat.reduceLeDiff]
    rw [resVal_1 rfl]; simp (disch := first | assumption | omega | rfl | simp only [RH]) only [↓RP, RG, FX, RQ, ↓reduceIte, Nat.reduceEqDiff, reduceCtorEq, Nat.reduceBEq, Nat.reduceAdd, Nat.reduceLeDiff, RS]
    rw [show k = l.length - 1 by omega]
theorem max_c (b : Bool) (l : List Int) (h0 : 0 < l.length) (hl : l.length ≤ 1000000000000) : Contract Tryz.prog 48 [LA b l] (I (mxl l (l.length - 1))) := by
  refine Contract.intro (effS [] false) 6 follows Tryz.func48 rfl rfl (by kernel_rfl) (Nat.le_of_ble_eq_true rfl) ?_
  simp (disch := first | assumption | omega | rfl | simp only [RH]) only [↓RP, RG, FX, RQ, ↓reduceIte, Nat.reduceEqDiff, reduceCtorEq, Nat.reduceBEq, Nat.reduceAdd, Nat.reduceLeDiff, args0_1, Int.toNat_zero, List.drop_zero]
  refine loopK_I [0, 3, 4] (fun k : Nat => k + 1 ≤ l.length) (fun k : Nat => ⟨[(0, LA b l), (3, I (mxl l k)), (4, I ((k + 1 : Nat) : Int))], []⟩) (fun k => l.length - k) 0 (by omega) (by simp only [↓RP, RG, FX, RQ, ↓reduceIte, Nat.reduceEqDiff, reduceCtorEq, Nat.reduceBEq, Nat.reduceAdd, Nat.reduceLeDiff]; rfl) ?_
  intro k hk
  by_cases hlt : k + 1 < l.length
  · simp (disch := first | assumption | omega | rfl | simp only [RH]) only [↓RP, RG, FX, RQ, ↓reduceIte, Nat.reduceEqDiff, reduceCtorEq, Nat.reduceBEq, Nat.reduceAdd, Nat.reduceLeDiff]
    exact ⟨k + 1, by omega, rfl, by omega⟩
  · simp (disch := first | assumption | omega | rfl | simp only [RH]) only [↓RP, RG, FX, RQ, ↓reduceIte, Nat.reduceEqDiff, reduceCtorEq, Nat.reduceBEq, Nat.reduceAdd, Nat.reduceLeDiff]
    rw [resVal_1 rfl]; simp (disch := first | assumption | omega | rfl | simp only [RH]) only [↓RP, RG, FX, RQ, ↓reduceIte, Nat.reduceEqDiff, reduceCtorEq, Nat.reduceBEq, Nat.reduceAdd, Nat.reduceLeDiff, RS]
    rw [show k = l.length - 1 by omega]

/-- It has elements, all of them from 0 to n - 1. -/
def wIn (l : List Int) (n : Int) : Prop := 0 < l.length ∧ ∀ j, j < l.length → 0 ≤ l.getD j 0 ∧ l.getD j 0 < n
instance (l : List Int) (n : Int) : Decidable (wIn l n) := by unfold wIn; infer_instance

/-- A grid's cell. -/
def cell (w : Int) (l : List Bool) (x y : Int) : Bool := l.getD (y * w + x).toNat false

end Go.Proofs.YtbhkhaaifielkaaGreatDoor

/- Grids: compared, copied. -/
set_option linter.unusedSimpArgs false
set_option linter.unusedVariables false
set_option maxRecDepth 100000
namespace Go.Proofs.YtbhkhaaifielkaaGreatDoor
open Go Go.Proofs Go.AW

theorem sameR_c (w1 h1 w2 h2 : Int) (b1 b2 : Bool) (l m : List Bool) (hl : l.length ≤ 9223372036854775807) : Contract Tryz.prog 12 [GA w1 h1 b1 l, GA w2 h2 b2 m] (B (decide (w1 = w2 ∧ h1 = h2 ∧ l = m))) := by
  refine Contract.intro (effS [] false) 6 follows Tryz.func12 rfl rfl (by kernel_rfl) (Nat.le_of_ble_eq_true rfl) ?_
  by_cases c1 : w1 = w2
  rotate_left
  · simp (disch := first | assumption | omega | rfl | simp only [RH]) only [↓RP, RG, FX, RQ, ↓reduceIte, Nat.reduceEqDiff, reduceCtorEq, Nat.reduceBEq, Nat.reduceAdd, Nat.reduceLeDiff, args0_2]
    rw [resVal_1 rfl]; simp (disch := first | assumption | omega | rfl | simp only [RH]) only [↓RP, RG, FX, RQ, ↓reduceIte, Nat.reduceEqDiff, reduceCtorEq, Nat.reduceBEq, Nat.reduceAdd, Nat.reduceLeDiff, RS]
    first | done | exact okF (fun h => c1 h.1)
  by_cases c2 : h1 = h2
  rotate_left
  · simp (disch := first | assumption | omega | rfl | simp only [RH]) only [↓RP, RG, FX, RQ, ↓reduceIte, Nat.reduceEqDiff, reduceCtorEq, Nat.reduceBEq, Nat.reduceAdd, Nat.reduceLeDiff, args0_2]
    rw [resVal_1 rfl]; simp (disch := first | assumption | omega | rfl | simp only [RH]) only [↓RP, RG, FX, RQ, ↓reduceIte, Nat.reduceEqDiff, reduceCtorEq, Nat.reduceBEq, Nat.reduceAdd, Nat.reduceLeDiff, RS]
    first | done | exact okF (fun h => c2 h.2.1)
  by_cases hlen : l.length = m.length
  rotate_left
  · simp (disch := first | assumption | omega | rfl | simp only [RH]) only [↓RP, RG, FX, RQ, ↓reduceIte, Nat.reduceEqDiff, reduceCtorEq, Nat.reduceBEq, Nat.reduceAdd, Nat.reduceLeDiff, args0_2]
    rw [resVal_1 rfl]; simp (disch := first | assumption | omega | rfl | simp only [RH]) only [↓RP, RG, FX, RQ, ↓reduceIte, Nat.reduceEqDiff, reduceCtorEq, Nat.reduceBEq, Nat.reduceAdd, Nat.reduceLeDiff, RS]
    first | done | exact okF (fun h => hlen (by rw [h.2.2]))
  simp (disch := first | assumption | omega | rfl | simp only [RH]) only [↓RP, RG, FX, RQ, ↓reduceIte, Nat.reduceEqDiff, reduceCtorEq, Nat.reduceBEq, Nat.reduceAdd, Nat.reduceLeDiff, args0_2]
  refine loopK_I [2, 3, 5] (fun k : Nat => k ≤ l.length ∧ l.take k = m.take k) (fun k : Nat => ⟨[(2, .ptr 0 0 3), (3, .ptr 1 0 3), (5, I k)], [⟨25, 3, [I w1, I h1, BA b1 l]⟩, ⟨25, 3, [I w2, I h2, BA b2 m]⟩]⟩) (fun k => l.length - k) 0 (by simp) (by simp only [↓RP, RG, FX, RQ, ↓reduceIte, Nat.reduceEqDiff, reduceCtorEq, Nat.reduceBEq, Nat.reduceAdd, Nat.reduceLeDiff]; rfl) ?_
  rintro k ⟨hk, htk⟩
  by_cases hlt : k < l.length
  · by_cases he : l.getD k false = m.getD k false
    · simp (disch := first | assumption | omega | rfl | simp only [RH]) only [↓RP, RG, FX, RQ, ↓reduceIte, Nat.reduceEqDiff, reduceCtorEq, Nat.reduceBEq, Nat.reduceAdd, Nat.reduceLeDiff, he, beq_self_eq_true, Bool.not_true]
      refine ⟨k + 1, ⟨by omega, ?_⟩, rfl, by omega⟩
      rw [List.take_add_one, List.take_add_one, htk]
      simp [hlt, show k < m.length by omega] at he
      rw [List.getElem?_eq_getElem hlt, List.getElem?_eq_getElem (show k < m.length by omega), he]
    · simp (disch := first | assumption | omega | rfl | simp only [RH]) only [↓RP, RG, FX, RQ, ↓reduceIte, Nat.reduceEqDiff, reduceCtorEq, Nat.reduceBEq, Nat.reduceAdd, Nat.reduceLeDiff, bneq he]
      rw [resVal_1 rfl]; simp (disch := first | assumption | omega | rfl | simp only [RH]) only [↓RP, RG, FX, RQ, ↓reduceIte, Nat.reduceEqDiff, reduceCtorEq, Nat.reduceBEq, Nat.reduceAdd, Nat.reduceLeDiff, RS]
      refine okF ?_
      rintro ⟨_, _, rfl⟩; exact he rfl
  · simp (disch := first | assumption | omega | rfl | simp only [RH]) only [↓RP, RG, FX, RQ, ↓reduceIte, Nat.reduceEqDiff, reduceCtorEq, Nat.reduceBEq, Nat.reduceAdd, Nat.reduceLeDiff]
    rw [resVal_1 rfl]; simp (disch := first | assumption | omega | rfl | simp only [RH]) only [↓RP, RG, FX, RQ, ↓reduceIte, Nat.reduceEqDiff, reduceCtorEq, Nat.reduceBEq, Nat.reduceAdd, Nat.reduceLeDiff, RS]
    refine okT ⟨c1, c2, ?_⟩
    have hk' : k = l.length := by omega
    rw [hk', List.take_length] at htk
    rw [htk, hlen, List.take_length]

theorem sameP_c (w1 h1 w2 h2 : Int) (b1 b2 : Bool) (l m : List Bool) (hl : l.length ≤ 9223372036854775807) : Contract Tryz.prog 50 [GA w1 h1 b1 l, GA w2 h2 b2 m] (B (decide (w1 = w2 ∧ h1 = h2 ∧ l = m))) := by
  refine Contract.intro (effS [] false) 6 follows Tryz.func50 rfl rfl (by kernel_rfl) (Nat.le_of_ble_eq_true rfl) ?_
  by_cases c1 : w1 = w2
  rotate_left
  · simp (disch := first | assumption | omega | rfl | simp only [RH]) only [↓RP, RG, FX, RQ, ↓reduceIte, Nat.reduceEqDiff, reduceCtorEq, Nat.reduceBEq, Nat.reduceAdd, Nat.reduceLeDiff, args0_2]
    rw [resVal_1 rfl]; simp (disch := first | assumption | omega | rfl | simp only [RH]) only [↓RP, RG, FX, RQ, ↓reduceIte, Nat.reduceEqDiff, reduceCtorEq, Nat.reduceBEq, Nat.reduceAdd, Nat.reduceLeDiff, RS]
    first | done | exact okF (fun h => c1 h.1)
  by_cases c2 : h1 = h2
  rotate_left
  · simp (disch := first | assumption | omega | rfl | simp only [RH]) only [↓RP, RG, FX, RQ, ↓reduceIte, Nat.reduceEqDiff, reduceCtorEq, Nat.reduceBEq, Nat.reduceAdd, Nat.reduceLeDiff, args0_2]
    rw [resVal_1 rfl]; simp (disch := first | assumption | omega | rfl | simp only [RH]) only [↓RP, RG, FX, RQ, ↓reduceIte, Nat.reduceEqDiff, reduceCtorEq, Nat.reduceBEq, Nat.reduceAdd, Nat.reduceLeDiff, RS]
    first | done | exact okF (fun h => c2 h.2.1)
  simp (disch := first | assumption | omega | rfl | simp only [RH]) only [↓RP, RG, FX, RQ, ↓reduceIte, Nat.reduceEqDiff, reduceCtorEq, Nat.reduceBEq, Nat.reduceAdd, Nat.reduceLeDiff, args0_2]
  refine callK_F 6 (equalB_c b1 b2 l m hl) (by simp (disch := first | assumption | omega | rfl | simp only [RH]) only [↓RP, RG, FX, RQ, ↓reduceIte, Nat.reduceEqDiff, reduceCtorEq, Nat.reduceBEq, Nat.reduceAdd, Nat.reduceLeDiff, RA] <;> rfl) (.inl (by simp [allFresh, ints_fresh, bools_fresh])) ?_
  simp (disch := first | assumption | omega | rfl | simp only [RH]) only [↓RP, RG, FX, RQ, ↓reduceIte, Nat.reduceEqDiff, reduceCtorEq, Nat.reduceBEq, Nat.reduceAdd, Nat.reduceLeDiff]
  rw [resVal_1 rfl]; simp (disch := first | assumption | omega | rfl | simp only [RH]) only [↓RP, RG, FX, RQ, ↓reduceIte, Nat.reduceEqDiff, reduceCtorEq, Nat.reduceBEq, Nat.reduceAdd, Nat.reduceLeDiff, RS]
  first | done | exact okD (by simp [c1, c2])

end Go.Proofs.YtbhkhaaifielkaaGreatDoor

/- Drafts: their checks. -/
set_option linter.unusedSimpArgs false
set_option linter.unusedVariables false
set_option maxRecDepth 100000
namespace Go.Proofs.YtbhkhaaifielkaaGreatDoor
open Go Go.Proofs Go.AW

abbrev DA (s t : Int) (b1 : Bool) (th : List Int) (b2 : Bool) (td : List Int) (w h : Int) (b3 : Bool) (l : List Bool) : AVal := .agg [I s, I t, LA b1 th, LA b2 td, I w, I h, BA b3 l]
abbrev DR (s t : Int) (b1 : Bool) (th : List Int) (b2 : Bool) (td : List Int) (w h : Int) (b3 : Bool) (l : List Bool) : AVal := .agg [I s, I t, LR b1 th, LR b2 td, I w, I h, BR b3 l]

theorem wIn_pos {l : List Int} {n : Int} (h : wIn l n) : 1 ≤ n := by
  have := h.2 0 h.1; omega

theorem withinP_c (b : Bool) (l : List Int) (n : Int) (hl : l.length ≤ 1000000000000) : Contract Tryz.prog 45 [LA b l, I n] (B (decide (wIn l n))) := by
  refine Contract.intro (effS [] false) 6 follows Tryz.func45 rfl rfl (by kernel_rfl) (Nat.le_of_ble_eq_true rfl) ?_
  by_cases h0 : 0 < l.length
  rotate_left
  · simp (disch := first | assumption | omega | rfl | simp only [RH]) only [↓RP, RG, FX, RQ, ↓reduceIte, Nat.reduceEqDiff, reduceCtorEq, Nat.reduceBEq, Nat.reduceAdd, Nat.reduceLeDiff, args0_2]
    rw [resVal_1 rfl]; simp (disch := first | assumption | omega | rfl | simp only [RH]) only [↓RP, RG, FX, RQ, ↓reduceIte, Nat.reduceEqDiff, reduceCtorEq, Nat.reduceBEq, Nat.reduceAdd, Nat.reduceLeDiff, RS]
    first | done | exact okF (fun h => h0 h.1)
  simp (disch := first | assumption | omega | rfl | simp only [RH]) only [↓RP, RG, FX, RQ, ↓reduceIte, Nat.reduceEqDiff, reduceCtorEq, Nat.reduceBEq, Nat.reduceAdd, Nat.reduceLeDiff, args0_2]
  refine callK_F 6 (min_c b l h0 hl) (by simp (disch := first | assumption | omega | rfl | simp only [RH]) only [↓RP, RG, FX, RQ, ↓reduceIte, Nat.reduceEqDiff, reduceCtorEq, Nat.reduceBEq, Nat.reduceAdd, Nat.reduceLeDiff, RA] <;> rfl) (.inl (by simp [allFresh, ints_fresh, bools_fresh])) ?_
  obtain ⟨j, j1, j2⟩ := mnl_mem l (l.length - 1)
  by_cases h1 : 0 ≤ mnl l (l.length - 1)
  rotate_left
  · simp (disch := first | assumption | omega | rfl | simp only [RH]) only [↓RP, RG, FX, RQ, ↓reduceIte, Nat.reduceEqDiff, reduceCtorEq, Nat.reduceBEq, Nat.reduceAdd, Nat.reduceLeDiff]
    rw [resVal_1 rfl]; simp (disch := first | assumption | omega | rfl | simp only [RH]) only [↓RP, RG, FX, RQ, ↓reduceIte, Nat.reduceEqDiff, reduceCtorEq, Nat.reduceBEq, Nat.reduceAdd, Nat.reduceLeDiff, RS]
    first | done | exact okF (fun h => by have := h.2 j (by omega); omega)
  simp (disch := first | assumption | omega | rfl | simp only [RH]) only [↓RP, RG, FX, RQ, ↓reduceIte, Nat.reduceEqDiff, reduceCtorEq, Nat.reduceBEq, Nat.reduceAdd, Nat.reduceLeDiff]
  refine callK_F 6 (max_c b l h0 hl) (by simp (disch := first | assumption | omega | rfl | simp only [RH]) only [↓RP, RG, FX, RQ, ↓reduceIte, Nat.reduceEqDiff, reduceCtorEq, Nat.reduceBEq, Nat.reduceAdd, Nat.reduceLeDiff, RA] <;> rfl) (.inl (by simp [allFresh, ints_fresh, bools_fresh])) ?_
  obtain ⟨i, i1, i2⟩ := mxl_mem l (l.length - 1)
  by_cases h2 : mxl l (l.length - 1) < n
  · simp (disch := first | assumption | omega | rfl | simp only [RH]) only [↓RP, RG, FX, RQ, ↓reduceIte, Nat.reduceEqDiff, reduceCtorEq, Nat.reduceBEq, Nat.reduceAdd, Nat.reduceLeDiff]
    rw [resVal_1 rfl]; simp (disch := first | assumption | omega | rfl | simp only [RH]) only [↓RP, RG, FX, RQ, ↓reduceIte, Nat.reduceEqDiff, reduceCtorEq, Nat.reduceBEq, Nat.reduceAdd, Nat.reduceLeDiff, RS]
    refine okT ⟨h0, fun k hk => ?_⟩
    have := mnl_le l (l.length - 1) k (by omega)
    have := le_mxl l (l.length - 1) k (by omega)
    omega
  · simp (disch := first | assumption | omega | rfl | simp only [RH]) only [↓RP, RG, FX, RQ, ↓reduceIte, Nat.reduceEqDiff, reduceCtorEq, Nat.reduceBEq, Nat.reduceAdd, Nat.reduceLeDiff]
    rw [resVal_1 rfl]; simp (disch := first | assumption | omega | rfl | simp only [RH]) only [↓RP, RG, FX, RQ, ↓reduceIte, Nat.reduceEqDiff, reduceCtorEq, Nat.reduceBEq, Nat.reduceAdd, Nat.reduceLeDiff, RS]
    first | done | exact okF (fun h => by have := h.2 i (by omega); omega)

theorem withinR_c (b : Bool) (l : List Int) (n : Int) (hl : l.length ≤ 1000000000000) : Contract Tryz.prog 41 [LA b l, I n] (B (decide (wIn l n))) := by
  refine Contract.intro (effS [] false) 6 follows Tryz.func41 rfl rfl (by kernel_rfl) (Nat.le_of_ble_eq_true rfl) ?_
  simp (disch := first | assumption | omega | rfl | simp only [RH]) only [↓RP, RG, FX, RQ, ↓reduceIte, Nat.reduceEqDiff, reduceCtorEq, Nat.reduceBEq, Nat.reduceAdd, Nat.reduceLeDiff, args0_2]
  refine loopK_I [0, 1, 5] (fun k : Nat => k ≤ l.length ∧ ∀ j, j < k → 0 ≤ l.getD j 0 ∧ l.getD j 0 < n) (fun k : Nat => ⟨[(0, LA b l), (1, I n), (5, I k)], []⟩) (fun k => l.length - k) 0 (by simp) (by simp only [↓RP, RG, FX, RQ, ↓reduceIte, Nat.reduceEqDiff, reduceCtorEq, Nat.reduceBEq, Nat.reduceAdd, Nat.reduceLeDiff]; rfl) ?_
  rintro k ⟨hk, hj⟩
  by_cases hlt : k < l.length
  · by_cases h1 : l.getD k 0 < 0
    · simp (disch := first | assumption | omega | rfl | simp only [RH]) only [↓RP, RG, FX, RQ, ↓reduceIte, Nat.reduceEqDiff, reduceCtorEq, Nat.reduceBEq, Nat.reduceAdd, Nat.reduceLeDiff]
      rw [resVal_1 rfl]; simp (disch := first | assumption | omega | rfl | simp only [RH]) only [↓RP, RG, FX, RQ, ↓reduceIte, Nat.reduceEqDiff, reduceCtorEq, Nat.reduceBEq, Nat.reduceAdd, Nat.reduceLeDiff, RS]
      first | done | exact okF (fun h => by have := h.2 k hlt; omega)
    · by_cases h2 : n ≤ l.getD k 0
      · simp (disch := first | assumption | omega | rfl | simp only [RH]) only [↓RP, RG, FX, RQ, ↓reduceIte, Nat.reduceEqDiff, reduceCtorEq, Nat.reduceBEq, Nat.reduceAdd, Nat.reduceLeDiff]
        rw [resVal_1 rfl]; simp (disch := first | assumption | omega | rfl | simp only [RH]) only [↓RP, RG, FX, RQ, ↓reduceIte, Nat.reduceEqDiff, reduceCtorEq, Nat.reduceBEq, Nat.reduceAdd, Nat.reduceLeDiff, RS]
        first | done | exact okF (fun h => by have := h.2 k hlt; omega)
      · simp (disch := first | assumption | omega | rfl | simp only [RH]) only [↓RP, RG, FX, RQ, ↓reduceIte, Nat.reduceEqDiff, reduceCtorEq, Nat.reduceBEq, Nat.reduceAdd, Nat.reduceLeDiff]
        refine ⟨k + 1, ⟨by omega, fun j hj' => ?_⟩, rfl, by omega⟩
        rcases Nat.lt_or_ge j k with h3 | h3
        · exact hj j h3
        · obtain rfl : j = k := by omega
          omega
  · obtain rfl : k = l.length := by omega
    simp (disch := first | assumption | omega | rfl | simp only [RH]) only [↓RP, RG, FX, RQ, ↓reduceIte, Nat.reduceEqDiff, reduceCtorEq, Nat.reduceBEq, Nat.reduceAdd, Nat.reduceLeDiff]
    rw [resVal_1 rfl]; simp (disch := first | assumption | omega | rfl | simp only [RH]) only [↓RP, RG, FX, RQ, ↓reduceIte, Nat.reduceEqDiff, reduceCtorEq, Nat.reduceBEq, Nat.reduceAdd, Nat.reduceLeDiff, RS]
    first | done | exact okD ⟨fun h => ⟨by omega, hj⟩, fun h => by have := h.1; omega⟩

/-- The error of a draft. -/
def dOk (s t : Int) (th td : List Int) (w h : Int) (n : Int) : Prop := s ≤ 40 ∧ t ≤ 40 ∧ (th.length : Int) ≤ 64 ∧ (td.length : Int) ≤ 64 ∧ wIn th s ∧ wIn td t ∧ gOk w h n ∧ w = t ∧ h = s
def dchk (s t : Int) (th td : List Int) (w h : Int) (n : Int) : Int := if 40 < s ∨ 40 < t ∨ 64 < (th.length : Int) ∨ 64 < (td.length : Int) then 4 else if wIn th s ∧ wIn td t ∧ gchk w h n = 0 ∧ w = t ∧ h = s then 0 else 8
theorem dchk_ok {s t : Int} {th td : List Int} {w h n : Int} (hd : dOk s t th td w h n) : dchk s t th td w h n = 0 := by
  obtain ⟨h1, h2, h3, h4, h5, h6, h7, h8, h9⟩ := hd
  unfold dchk
  rw [if_neg (by omega), if_pos ⟨h5, h6, gchk_ok h7, h8, h9⟩]
theorem dchk_iff {s t : Int} {th td : List Int} {w h n : Int} : dchk s t th td w h n = 0 ↔ dOk s t th td w h n := by
  refine ⟨fun hz => ?_, dchk_ok⟩
  unfold dchk at hz
  split at hz
  · omega
  · split at hz
    · rename_i h1 h2
      obtain ⟨a1, a2, a3, a4, a5⟩ := h2
      exact ⟨by omega, by omega, by omega, by omega, a1, a2, gchk_iff.1 a3, a4, a5⟩
    · omega

theorem dcheckP_c (s t : Int) (b1 : Bool) (th : List Int) (b2 : Bool) (td : List Int) (w h : Int) (b3 : Bool) (l : List Bool) (hl1 : th.length ≤ 1000000000000) (hl2 : td.length ≤ 1000000000000) :
    Contract Tryz.prog 27 [DA s t b1 th b2 td w h b3 l] (I (dchk s t th td w h l.length)) := by
  unfold dchk
  refine Contract.intro (effS [] false) 6 follows Tryz.func27 rfl rfl (by kernel_rfl) (Nat.le_of_ble_eq_true rfl) ?_
  by_cases c1 : 40 < s
  · rw [if_pos (by omega)]
    simp (disch := first | assumption | omega | rfl | simp only [RH]) only [↓RP, RG, FX, RQ, ↓reduceIte, Nat.reduceEqDiff, reduceCtorEq, Nat.reduceBEq, Nat.reduceAdd, Nat.reduceLeDiff, args0_1]
    rw [resVal_1 rfl]; simp (disch := first | assumption | omega | rfl | simp only [RH]) only [↓RP, RG, FX, RQ, ↓reduceIte, Nat.reduceEqDiff, reduceCtorEq, Nat.reduceBEq, Nat.reduceAdd, Nat.reduceLeDiff, RS]
  by_cases c2 : 40 < t
  · rw [if_pos (by omega)]
    simp (disch := first | assumption | omega | rfl | simp only [RH]) only [↓RP, RG, FX, RQ, ↓reduceIte, Nat.reduceEqDiff, reduceCtorEq, Nat.reduceBEq, Nat.reduceAdd, Nat.reduceLeDiff, args0_1]
    rw [resVal_1 rfl]; simp (disch := first | assumption | omega | rfl | simp only [RH]) only [↓RP, RG, FX, RQ, ↓reduceIte, Nat.reduceEqDiff, reduceCtorEq, Nat.reduceBEq, Nat.reduceAdd, Nat.reduceLeDiff, RS]
  by_cases c3 : 64 < max (th.length : Int) (td.length : Int)
  · rw [if_pos (by omega)]
    simp (disch := first | assumption | omega | rfl | simp only [RH]) only [↓RP, RG, FX, RQ, ↓reduceIte, Nat.reduceEqDiff, reduceCtorEq, Nat.reduceBEq, Nat.reduceAdd, Nat.reduceLeDiff, args0_1]
    rw [resVal_1 rfl]; simp (disch := first | assumption | omega | rfl | simp only [RH]) only [↓RP, RG, FX, RQ, ↓reduceIte, Nat.reduceEqDiff, reduceCtorEq, Nat.reduceBEq, Nat.reduceAdd, Nat.reduceLeDiff, RS]
  rw [if_neg (by omega)]
  simp (disch := first | assumption | omega | rfl | simp only [RH]) only [↓RP, RG, FX, RQ, ↓reduceIte, Nat.reduceEqDiff, reduceCtorEq, Nat.reduceBEq, Nat.reduceAdd, Nat.reduceLeDiff, args0_1]
  refine callK_F 6 (withinP_c b1 th s hl1) (by simp (disch := first | assumption | omega | rfl | simp only [RH]) only [↓RP, RG, FX, RQ, ↓reduceIte, Nat.reduceEqDiff, reduceCtorEq, Nat.reduceBEq, Nat.reduceAdd, Nat.reduceLeDiff, RA] <;> rfl) (.inl (by simp [allFresh, ints_fresh, bools_fresh])) ?_
  by_cases c4 : wIn th s
  rotate_left
  · rw [if_neg (fun hc => c4 hc.1)]
    simp (disch := first | assumption | omega | rfl | simp only [RH]) only [↓RP, RG, FX, RQ, ↓reduceIte, Nat.reduceEqDiff, reduceCtorEq, Nat.reduceBEq, Nat.reduceAdd, Nat.reduceLeDiff]
    rw [resVal_1 rfl]; simp (disch := first | assumption | omega | rfl | simp only [RH]) only [↓RP, RG, FX, RQ, ↓reduceIte, Nat.reduceEqDiff, reduceCtorEq, Nat.reduceBEq, Nat.reduceAdd, Nat.reduceLeDiff, RS]
  simp (disch := first | assumption | omega | rfl | simp only [RH]) only [↓RP, RG, FX, RQ, ↓reduceIte, Nat.reduceEqDiff, reduceCtorEq, Nat.reduceBEq, Nat.reduceAdd, Nat.reduceLeDiff]
  refine callK_F 6 (withinP_c b2 td t hl2) (by simp (disch := first | assumption | omega | rfl | simp only [RH]) only [↓RP, RG, FX, RQ, ↓reduceIte, Nat.reduceEqDiff, reduceCtorEq, Nat.reduceBEq, Nat.reduceAdd, Nat.reduceLeDiff, RA] <;> rfl) (.inl (by simp [allFresh, ints_fresh, bools_fresh])) ?_
  by_cases c5 : wIn td t
  rotate_left
  · rw [if_neg (fun hc => c5 hc.2.1)]
    simp (disch := first | assumption | omega | rfl | simp only [RH]) only [↓RP, RG, FX, RQ, ↓reduceIte, Nat.reduceEqDiff, reduceCtorEq, Nat.reduceBEq, Nat.reduceAdd, Nat.reduceLeDiff]
    rw [resVal_1 rfl]; simp (disch := first | assumption | omega | rfl | simp only [RH]) only [↓RP, RG, FX, RQ, ↓reduceIte, Nat.reduceEqDiff, reduceCtorEq, Nat.reduceBEq, Nat.reduceAdd, Nat.reduceLeDiff, RS]
  simp (disch := first | assumption | omega | rfl | simp only [RH]) only [↓RP, RG, FX, RQ, ↓reduceIte, Nat.reduceEqDiff, reduceCtorEq, Nat.reduceBEq, Nat.reduceAdd, Nat.reduceLeDiff]
  refine callK_F 6 (gcheckP_c w h b3 l) (by simp (disch := first | assumption | omega | rfl | simp only [RH]) only [↓RP, RG, FX, RQ, ↓reduceIte, Nat.reduceEqDiff, reduceCtorEq, Nat.reduceBEq, Nat.reduceAdd, Nat.reduceLeDiff, RA] <;> rfl) (.inl (by simp [allFresh, ints_fresh, bools_fresh])) ?_
  by_cases c6 : gchk w h l.length = 0
  rotate_left
  · rw [if_neg (fun hc => c6 hc.2.2.1)]
    simp (disch := first | assumption | omega | rfl | simp only [RH]) only [↓RP, RG, FX, RQ, ↓reduceIte, Nat.reduceEqDiff, reduceCtorEq, Nat.reduceBEq, Nat.reduceAdd, Nat.reduceLeDiff]
    rw [resVal_1 rfl]; simp (disch := first | assumption | omega | rfl | simp only [RH]) only [↓RP, RG, FX, RQ, ↓reduceIte, Nat.reduceEqDiff, reduceCtorEq, Nat.reduceBEq, Nat.reduceAdd, Nat.reduceLeDiff, RS]
  by_cases c7 : w = t
  rotate_left
  · rw [if_neg (fun hc => c7 hc.2.2.2.1)]
    simp (disch := first | assumption | omega | rfl | simp only [RH]) only [↓RP, RG, FX, RQ, ↓reduceIte, Nat.reduceEqDiff, reduceCtorEq, Nat.reduceBEq, Nat.reduceAdd, Nat.reduceLeDiff]
    rw [resVal_1 rfl]; simp (disch := first | assumption | omega | rfl | simp only [RH]) only [↓RP, RG, FX, RQ, ↓reduceIte, Nat.reduceEqDiff, reduceCtorEq, Nat.reduceBEq, Nat.reduceAdd, Nat.reduceLeDiff, RS]
  by_cases c8 : h = s
  · rw [if_pos ⟨c4, c5, c6, c7, c8⟩]
    simp (disch := first | assumption | omega | rfl | simp only [RH]) only [↓RP, RG, FX, RQ, ↓reduceIte, Nat.reduceEqDiff, reduceCtorEq, Nat.reduceBEq, Nat.reduceAdd, Nat.reduceLeDiff]
    rw [resVal_1 rfl]; simp (disch := first | assumption | omega | rfl | simp only [RH]) only [↓RP, RG, FX, RQ, ↓reduceIte, Nat.reduceEqDiff, reduceCtorEq, Nat.reduceBEq, Nat.reduceAdd, Nat.reduceLeDiff, RS]
  · rw [if_neg (fun hc => c8 hc.2.2.2.2)]
    simp (disch := first | assumption | omega | rfl | simp only [RH]) only [↓RP, RG, FX, RQ, ↓reduceIte, Nat.reduceEqDiff, reduceCtorEq, Nat.reduceBEq, Nat.reduceAdd, Nat.reduceLeDiff]
    rw [resVal_1 rfl]; simp (disch := first | assumption | omega | rfl | simp only [RH]) only [↓RP, RG, FX, RQ, ↓reduceIte, Nat.reduceEqDiff, reduceCtorEq, Nat.reduceBEq, Nat.reduceAdd, Nat.reduceLeDiff, RS]

theorem dcheckR_c (s t : Int) (b1 : Bool) (th : List Int) (b2 : Bool) (td : List Int) (w h : Int) (b3 : Bool) (l : List Bool) (hl1 : th.length ≤ 1000000000000) (hl2 : td.length ≤ 1000000000000) :
    Contract Tryz.prog 23 [DA s t b1 th b2 td w h b3 l] (I (dchk s t th td w h l.length)) := by
  unfold dchk
  refine Contract.intro (effS [] false) 6 follows Tryz.func23 rfl rfl (by kernel_rfl) (Nat.le_of_ble_eq_true rfl) ?_
  by_cases c1 : 40 < s
  · rw [if_pos (by omega)]
    simp (disch := first | assumption | omega | rfl | simp only [RH]) only [↓RP, RG, FX, RQ, ↓reduceIte, Nat.reduceEqDiff, reduceCtorEq, Nat.reduceBEq, Nat.reduceAdd, Nat.reduceLeDiff, args0_1]
    rw [resVal_1 rfl]; simp (disch := first | assumption | omega | rfl | simp only [RH]) only [↓RP, RG, FX, RQ, ↓reduceIte, Nat.reduceEqDiff, reduceCtorEq, Nat.reduceBEq, Nat.reduceAdd, Nat.reduceLeDiff, RS]
  by_cases c2 : 40 < t
  · rw [if_pos (by omega)]
    simp (disch := first | assumption | omega | rfl | simp only [RH]) only [↓RP, RG, FX, RQ, ↓reduceIte, Nat.reduceEqDiff, reduceCtorEq, Nat.reduceBEq, Nat.reduceAdd, Nat.reduceLeDiff, args0_1]
    rw [resVal_1 rfl]; simp (disch := first | assumption | omega | rfl | simp only [RH]) only [↓RP, RG, FX, RQ, ↓reduceIte, Nat.reduceEqDiff, reduceCtorEq, Nat.reduceBEq, Nat.reduceAdd, Nat.reduceLeDiff, RS]
  by_cases c3 : 64 < (th.length : Int)
  · rw [if_pos (by omega)]
    simp (disch := first | assumption | omega | rfl | simp only [RH]) only [↓RP, RG, FX, RQ, ↓reduceIte, Nat.reduceEqDiff, reduceCtorEq, Nat.reduceBEq, Nat.reduceAdd, Nat.reduceLeDiff, args0_1]
    rw [resVal_1 rfl]; simp (disch := first | assumption | omega | rfl | simp only [RH]) only [↓RP, RG, FX, RQ, ↓reduceIte, Nat.reduceEqDiff, reduceCtorEq, Nat.reduceBEq, Nat.reduceAdd, Nat.reduceLeDiff, RS]
  by_cases c3' : 64 < (td.length : Int)
  · rw [if_pos (by omega)]
    simp (disch := first | assumption | omega | rfl | simp only [RH]) only [↓RP, RG, FX, RQ, ↓reduceIte, Nat.reduceEqDiff, reduceCtorEq, Nat.reduceBEq, Nat.reduceAdd, Nat.reduceLeDiff, args0_1]
    rw [resVal_1 rfl]; simp (disch := first | assumption | omega | rfl | simp only [RH]) only [↓RP, RG, FX, RQ, ↓reduceIte, Nat.reduceEqDiff, reduceCtorEq, Nat.reduceBEq, Nat.reduceAdd, Nat.reduceLeDiff, RS]
  rw [if_neg (by omega)]
  by_cases d1 : s < 1
  · rw [if_neg (fun hc => by have := wIn_pos hc.1; omega)]
    simp (disch := first | assumption | omega | rfl | simp only [RH]) only [↓RP, RG, FX, RQ, ↓reduceIte, Nat.reduceEqDiff, reduceCtorEq, Nat.reduceBEq, Nat.reduceAdd, Nat.reduceLeDiff, args0_1]
    rw [resVal_1 rfl]; simp (disch := first | assumption | omega | rfl | simp only [RH]) only [↓RP, RG, FX, RQ, ↓reduceIte, Nat.reduceEqDiff, reduceCtorEq, Nat.reduceBEq, Nat.reduceAdd, Nat.reduceLeDiff, RS]
  by_cases d2 : t < 1
  · rw [if_neg (fun hc => by have := wIn_pos hc.2.1; omega)]
    simp (disch := first | assumption | omega | rfl | simp only [RH]) only [↓RP, RG, FX, RQ, ↓reduceIte, Nat.reduceEqDiff, reduceCtorEq, Nat.reduceBEq, Nat.reduceAdd, Nat.reduceLeDiff, args0_1]
    rw [resVal_1 rfl]; simp (disch := first | assumption | omega | rfl | simp only [RH]) only [↓RP, RG, FX, RQ, ↓reduceIte, Nat.reduceEqDiff, reduceCtorEq, Nat.reduceBEq, Nat.reduceAdd, Nat.reduceLeDiff, RS]
  simp (disch := first | assumption | omega | rfl | simp only [RH]) only [↓RP, RG, FX, RQ, ↓reduceIte, Nat.reduceEqDiff, reduceCtorEq, Nat.reduceBEq, Nat.reduceAdd, Nat.reduceLeDiff, args0_1]
  refine callK_F 6 (withinR_c b1 th s hl1) (by simp (disch := first | assumption | omega | rfl | simp only [RH]) only [↓RP, RG, FX, RQ, ↓reduceIte, Nat.reduceEqDiff, reduceCtorEq, Nat.reduceBEq, Nat.reduceAdd, Nat.reduceLeDiff, RA] <;> rfl) (.inl (by simp [allFresh, ints_fresh, bools_fresh])) ?_
  by_cases c4 : wIn th s
  rotate_left
  · rw [if_neg (fun hc => c4 hc.1)]
    simp (disch := first | assumption | omega | rfl | simp only [RH]) only [↓RP, RG, FX, RQ, ↓reduceIte, Nat.reduceEqDiff, reduceCtorEq, Nat.reduceBEq, Nat.reduceAdd, Nat.reduceLeDiff]
    rw [resVal_1 rfl]; simp (disch := first | assumption | omega | rfl | simp only [RH]) only [↓RP, RG, FX, RQ, ↓reduceIte, Nat.reduceEqDiff, reduceCtorEq, Nat.reduceBEq, Nat.reduceAdd, Nat.reduceLeDiff, RS]
  simp (disch := first | assumption | omega | rfl | simp only [RH]) only [↓RP, RG, FX, RQ, ↓reduceIte, Nat.reduceEqDiff, reduceCtorEq, Nat.reduceBEq, Nat.reduceAdd, Nat.reduceLeDiff]
  refine callK_F 6 (withinR_c b2 td t hl2) (by simp (disch := first | assumption | omega | rfl | simp only [RH]) only [↓RP, RG, FX, RQ, ↓reduceIte, Nat.reduceEqDiff, reduceCtorEq, Nat.reduceBEq, Nat.reduceAdd, Nat.reduceLeDiff, RA] <;> rfl) (.inl (by simp [allFresh, ints_fresh, bools_fresh])) ?_
  by_cases c5 : wIn td t
  rotate_left
  · rw [if_neg (fun hc => c5 hc.2.1)]
    simp (disch := first | assumption | omega | rfl | simp only [RH]) only [↓RP, RG, FX, RQ, ↓reduceIte, Nat.reduceEqDiff, reduceCtorEq, Nat.reduceBEq, Nat.reduceAdd, Nat.reduceLeDiff]
    rw [resVal_1 rfl]; simp (disch := first | assumption | omega | rfl | simp only [RH]) only [↓RP, RG, FX, RQ, ↓reduceIte, Nat.reduceEqDiff, reduceCtorEq, Nat.reduceBEq, Nat.reduceAdd, Nat.reduceLeDiff, RS]
  simp (disch := first | assumption | omega | rfl | simp only [RH]) only [↓RP, RG, FX, RQ, ↓reduceIte, Nat.reduceEqDiff, reduceCtorEq, Nat.reduceBEq, Nat.reduceAdd, Nat.reduceLeDiff]
  refine callK_F 6 (gcheckR_c w h b3 l) (by simp (disch := first | assumption | omega | rfl | simp only [RH]) only [↓RP, RG, FX, RQ, ↓reduceIte, Nat.reduceEqDiff, reduceCtorEq, Nat.reduceBEq, Nat.reduceAdd, Nat.reduceLeDiff, RA] <;> rfl) (.inl (by simp [allFresh, ints_fresh, bools_fresh])) ?_
  by_cases c6 : gchk w h l.length = 0
  rotate_left
  · rw [if_neg (fun hc => c6 hc.2.2.1)]
    simp (disch := first | assumption | omega | rfl | simp only [RH]) only [↓RP, RG, FX, RQ, ↓reduceIte, Nat.reduceEqDiff, reduceCtorEq, Nat.reduceBEq, Nat.reduceAdd, Nat.reduceLeDiff]
    rw [resVal_1 rfl]; simp (disch := first | assumption | omega | rfl | simp only [RH]) only [↓RP, RG, FX, RQ, ↓reduceIte, Nat.reduceEqDiff, reduceCtorEq, Nat.reduceBEq, Nat.reduceAdd, Nat.reduceLeDiff, RS]
  by_cases c7 : w = t
  rotate_left
  · rw [if_neg (fun hc => c7 hc.2.2.2.1)]
    simp (disch := first | assumption | omega | rfl | simp only [RH]) only [↓RP, RG, FX, RQ, ↓reduceIte, Nat.reduceEqDiff, reduceCtorEq, Nat.reduceBEq, Nat.reduceAdd, Nat.reduceLeDiff]
    rw [resVal_1 rfl]; simp (disch := first | assumption | omega | rfl | simp only [RH]) only [↓RP, RG, FX, RQ, ↓reduceIte, Nat.reduceEqDiff, reduceCtorEq, Nat.reduceBEq, Nat.reduceAdd, Nat.reduceLeDiff, RS]
  by_cases c8 : h = s
  · rw [if_pos ⟨c4, c5, c6, c7, c8⟩]
    simp (disch := first | assumption | omega | rfl | simp only [RH]) only [↓RP, RG, FX, RQ, ↓reduceIte, Nat.reduceEqDiff, reduceCtorEq, Nat.reduceBEq, Nat.reduceAdd, Nat.reduceLeDiff]
    rw [resVal_1 rfl]; simp (disch := first | assumption | omega | rfl | simp only [RH]) only [↓RP, RG, FX, RQ, ↓reduceIte, Nat.reduceEqDiff, reduceCtorEq, Nat.reduceBEq, Nat.reduceAdd, Nat.reduceLeDiff, RS]
  · rw [if_neg (fun hc => c8 hc.2.2.2.2)]
    simp (disch := first | assumption | omega | rfl | simp only [RH]) only [↓RP, RG, FX, RQ, ↓reduceIte, Nat.reduceEqDiff, reduceCtorEq, Nat.reduceBEq, Nat.reduceAdd, Nat.reduceLeDiff]
    rw [resVal_1 rfl]; simp (disch := first | assumption | omega | rfl | simp only [RH]) only [↓RP, RG, FX, RQ, ↓reduceIte, Nat.reduceEqDiff, reduceCtorEq, Nat.reduceBEq, Nat.reduceAdd, Nat.reduceLeDiff, RS]
end Go.Proofs.YtbhkhaaifielkaaGreatDoor

/- Drafts: tables, drawdowns, lifts. -/
set_option linter.unusedSimpArgs false
set_option linter.unusedVariables false
set_option maxRecDepth 100000
namespace Go.Proofs.YtbhkhaaifielkaaGreatDoor
open Go Go.Proofs Go.AW

/-- The first n cells of a table of W columns. -/
def tabN (W : Nat) (u : Nat → Nat → Bool) (n : Nat) : List Bool := (List.range n).map fun i => u (i % W) (i / W)
theorem tabN_len (W : Nat) (u : Nat → Nat → Bool) (n : Nat) : (tabN W u n).length = n := by simp [tabN]
theorem tabN_succ (W : Nat) (u : Nat → Nat → Bool) {y x : Nat} (hx : x < W) : tabN W u (W * y + x + 1) = tabN W u (W * y + x) ++ [u x y] := by
  have e1 : (W * y + x) % W = x := by rw [Nat.mul_add_mod]; exact Nat.mod_eq_of_lt hx
  have e2 : (W * y + x) / W = y := by rw [Nat.mul_add_div (by omega), Nat.div_eq_of_lt hx, Nat.add_zero]
  simp only [tabN, List.range_succ, List.map_append, List.map_cons, List.map_nil, e1, e2]
theorem tabN_get (W : Nat) (u : Nat → Nat → Bool) {n y x : Nat} (hx : x < W) (hn : W * y + x < n) : (tabN W u n).getD (W * y + x) false = u x y := by
  have e1 : (W * y + x) % W = x := by rw [Nat.mul_add_mod]; exact Nat.mod_eq_of_lt hx
  have e2 : (W * y + x) / W = y := by rw [Nat.mul_add_div (by omega), Nat.div_eq_of_lt hx, Nat.add_zero]
  simp [tabN, List.getD_eq_getElem?_getD, List.getElem?_range hn, e1, e2]
theorem tabN_congr {W : Nat} {u v : Nat → Nat → Bool} {H : Nat} (h : ∀ x y, x < W → y < H → u x y = v x y) : tabN W u (W * H) = tabN W v (W * H) := by
  apply List.map_congr_left
  intro i hi
  have hi' : i < W * H := by simpa using hi
  have hW : 0 < W := by
    rcases Nat.eq_zero_or_pos W with h0 | h0
    · subst h0; simp at hi'
    · exact h0
  exact h _ _ (Nat.mod_lt _ hW) (Nat.div_lt_of_lt_mul hi')
theorem tabN_pos {W H : Nat} (hw : 0 < W) (hh : 0 < H) (u : Nat → Nat → Bool) : 0 < (bools (tabN W u (W * H))).length := by
  rw [bools_length, tabN_len]; exact Nat.mul_pos hw hh
theorem bools_isEmpty (l : List Bool) : (bools l).isEmpty = l.isEmpty := by cases l <;> rfl
theorem ints_isEmpty (l : List Int) : (ints l).isEmpty = l.isEmpty := by cases l <;> rfl

theorem dtable_s (h0 : List AObj) (f : FuncId) (caps caps' : List AVal) (W H : Nat) (u : Nat → Nat → Bool) (hw : W ≤ 10000) (hh : H ≤ 10000) (hcaps : ∀ r : List AObj, caps.map (argOf (h0 ++ r) 6) = caps') (hup : ∀ x y : Nat, x < W → y < H → Contract Tryz.prog f ([I x, I y] ++ caps') (B (u x y))) :
    SpecTo Tryz.prog 32 [I W, I H, .func (.func f) [] caps] h0 (.agg [I W, I H, gw true h0.length (bools (tabN W u (W * H)))]) (h0 ++ [go 4 (bools (tabN W u (W * H)))]) := by
  refine SpecTo.intro (effS [] false) follows Tryz.func32 rfl rfl (by kernel_rfl) (Nat.le_of_ble_eq_true rfl) ?_
  simp (disch := first | assumption | omega | rfl | simp only [RH]) only [↓RP, RG, FX, RQ, ↓reduceIte, Nat.reduceEqDiff, reduceCtorEq, Nat.reduceBEq, Nat.reduceAdd, Nat.reduceLeDiff, args0_3]
  refine loopK_W [0, 1, 2, 6, 7, 13, 14] (fun y : Nat => y ≤ H) (fun y => ⟨[(0, I W), (1, I H), (2, .func (.func f) [] caps), (6, .ptr h0.length 0 3), (7, .ptr (h0.length + 1) 0 3), (13, I H), (14, I y)], h0 ++ [⟨25, 3, [I 0, I 0, .cap0 true]⟩, ⟨25, 3, [I W, I H, gw true (h0.length + 2) (bools (tabN W u (W * y)))]⟩, go 4 (bools (tabN W u (W * y)))]⟩) (fun y => H - y) 0 (by omega) ?_ ?_
  · simp only [↓RP, RG, FX, RQ, ↓reduceIte, Nat.reduceEqDiff, reduceCtorEq, Nat.reduceBEq, Nat.reduceAdd, Nat.reduceLeDiff]
    exact Wk.weak (fun t => .refl _) (.app h0 (.cons _ _ _ _ (WL.refl _) (.cons _ _ _ _ (.cons (.refl _) (.cons (.refl _) (.cons (.nil _) .nil))) (.nil _ (by simp [go, bools, tabN])))))
  intro y hy
  by_cases hlt : y < H
  · simp (disch := first | assumption | omega | rfl | simp only [RH]) only [↓RP, RG, FX, RQ, ↓reduceIte, Nat.reduceEqDiff, reduceCtorEq, Nat.reduceBEq, Nat.reduceAdd, Nat.reduceLeDiff]
    refine loopK_I [0, 1, 2, 6, 7, 8, 13, 14, 17, 18] (fun x : Nat => x ≤ W) (fun x => ⟨[(0, I W), (1, I H), (2, .func (.func f) [] caps), (6, .ptr h0.length 0 3), (7, .ptr (h0.length + 1) 0 3), (8, I y), (13, I H), (14, I y), (17, I W), (18, I x)], h0 ++ [⟨25, 3, [I 0, I 0, .cap0 true]⟩, ⟨25, 3, [I W, I H, gw true (h0.length + 2) (bools (tabN W u (W * y + x)))]⟩, go 4 (bools (tabN W u (W * y + x)))]⟩) (fun x => W - x) 0 (by omega) (by simp only [↓RP, RG, FX, RQ, ↓reduceIte, Nat.reduceEqDiff, reduceCtorEq, Nat.reduceBEq, Nat.reduceAdd, Nat.reduceLeDiff]; rfl) ?_
    intro x hx
    by_cases hlt2 : x < W
    · have hb : (tabN W u (W * y + x)).length ≤ 1000000000 := by
        rw [tabN_len]
        have : W * y ≤ 10000 * 10000 := Nat.mul_le_mul hw (by omega)
        omega
      simp (disch := first | assumption | omega | rfl | simp only [RH]) only [↓RP, RG, FX, RQ, ↓reduceIte, Nat.reduceEqDiff, reduceCtorEq, Nat.reduceBEq, Nat.reduceAdd, Nat.reduceLeDiff]
      refine callK_V 6 (hup x y hlt2 hlt) (by rw [List.nil_append, List.map_append, hcaps]; rfl) (.inl rfl) ?_
      simp (disch := first | assumption | omega | rfl | simp only [RH]) only [↓RP, RG, FX, RQ, ↓reduceIte, Nat.reduceEqDiff, reduceCtorEq, Nat.reduceBEq, Nat.reduceAdd, Nat.reduceLeDiff, append_bool]
      exact ⟨x + 1, by omega, by rw [show W * y + (x + 1) = W * y + x + 1 from rfl, tabN_succ W u hlt2]; rfl, by omega⟩
    · obtain rfl : x = W := by omega
      simp (disch := first | assumption | omega | rfl | simp only [RH]) only [↓RP, RG, FX, RQ, ↓reduceIte, Nat.reduceEqDiff, reduceCtorEq, Nat.reduceBEq, Nat.reduceAdd, Nat.reduceLeDiff]
      exact ⟨y + 1, by omega, rfl, by omega⟩
  · obtain rfl : y = H := by omega
    simp (disch := first | assumption | omega | rfl | simp only [RH]) only [↓RP, RG, FX, RQ, ↓reduceIte, Nat.reduceEqDiff, reduceCtorEq, Nat.reduceBEq, Nat.reduceAdd, Nat.reduceLeDiff]
    refine ⟨_, by rw [resVal_1 rfl]; simp (disch := first | assumption | omega | rfl | simp only [RH]) only [↓RP, RG, FX, RQ, ↓reduceIte, Nat.reduceEqDiff, reduceCtorEq, Nat.reduceBEq, Nat.reduceAdd, Nat.reduceLeDiff, raX_tmp, raX_cell, rvX_0, rvX_1, rvX_2, rvX_3, rvX_4, rvX_5]; rfl, (Wk.drop 8 [2] (by simp) (by decide) (by simp) (same_refl)).trans (Wk.of_eq (by simp (disch := omega) only [RK, List.idxOf?_cons, List.idxOf?_nil, Nat.reduceBEq, Option.map_some, Option.map_none, List.map_cons, List.map_nil, List.getD_cons_zero, List.getD_cons_succ, Bool.false_eq_true, ↓reduceIte, Nat.add_zero, List.append_nil]))⟩
end Go.Proofs.YtbhkhaaifielkaaGreatDoor

/- Drafts: drawdowns and lifts, of the program and the reference. -/
set_option linter.unusedSimpArgs false
set_option linter.unusedVariables false
set_option maxRecDepth 100000
namespace Go.Proofs.YtbhkhaaifielkaaGreatDoor
open Go Go.Proofs Go.AW

theorem idx_nat (W y x : Nat) : ((y : Int) * (W : Int) + (x : Int)).toNat = W * y + x := by
  rw [← Int.natCast_mul, ← Int.natCast_add, Int.toNat_natCast, Nat.mul_comm]
theorem mul_bd {W H : Nat} (hw : W ≤ 10000) (hh : H ≤ 10000) : 0 ≤ (W : Int) * (H : Int) ∧ (W : Int) * (H : Int) ≤ 100000000 := by
  have h1 : W * H ≤ 10000 * 10000 := Nat.mul_le_mul hw hh
  rw [← Int.natCast_mul]; omega
theorem idx_lt {W H x y : Nat} (hx : x < W) (hy : y < H) : W * y + x < W * H := by
  have : W * (y + 1) ≤ W * H := Nat.mul_le_mul_left W hy
  rw [Nat.mul_succ] at this; omega

/-- The place of a cell lies in the table. -/
theorem cell_bd {a b s t : Int} (h1 : 0 ≤ a) (h2 : a < s) (h3 : 0 ≤ b) (h4 : b < t) : 0 ≤ a * t ∧ a * t + b < s * t := by
  constructor
  · exact Int.mul_nonneg h1 (by omega)
  · have : (a + 1) * t ≤ s * t := Int.mul_le_mul_of_nonneg_right (by omega) (by omega)
    rw [Int.add_mul] at this; omega

abbrev DS (s t : Int) (b1 : Bool) (th : List Int) (b2 : Bool) (td : List Int) (w h : Int) (b3 : Bool) (l : List Bool) : AVal := .spot false [I s, I t, LA b1 th, LA b2 td, I w, I h, BA b3 l]

theorem lifts_c (s t : Int) (b1 : Bool) (th : List Int) (b2 : Bool) (td : List Int) (w h : Int) (b3 : Bool) (l : List Bool) (tr sh : Int) (p0 : 0 ≤ sh * t) (p1 : sh * t + tr < l.length) (p2 : l.length ≤ 100000000) (p3 : 0 ≤ tr) :
    Contract Tryz.prog 34 [DS s t b1 th b2 td w h b3 l, I tr, I sh] (B (cell t l tr sh)) := by
  refine Contract.intro (effS [] false) 6 follows Tryz.func34 rfl rfl (by kernel_rfl) (Nat.le_of_ble_eq_true rfl) ?_
  simp (disch := first | assumption | omega | rfl | simp only [RH]) only [↓RP, RG, FX, RQ, ↓reduceIte, Nat.reduceEqDiff, reduceCtorEq, Nat.reduceBEq, Nat.reduceAdd, Nat.reduceLeDiff, args0_3]
  rw [resVal_1 rfl]; simp (disch := first | assumption | omega | rfl | simp only [RH]) only [↓RP, RG, FX, RQ, ↓reduceIte, Nat.reduceEqDiff, reduceCtorEq, Nat.reduceBEq, Nat.reduceAdd, Nat.reduceLeDiff, RS]
  rfl

/-- What a valid draft tells of its numbers. -/
theorem dOk_cell {s t : Int} {th td : List Int} {w h n : Int} (hd : dOk s t th td w h n) {a b : Int} (h1 : 0 ≤ a) (h2 : a < s) (h3 : 0 ≤ b) (h4 : b < t) : 0 ≤ a * t ∧ a * t + b < n ∧ n ≤ 4096 := by
  obtain ⟨_, _, _, _, _, _, g, hw, hh⟩ := hd
  obtain ⟨g1, g2, g3, g4, g5⟩ := g
  have := cell_bd h1 h2 h3 h4
  have hp := prod64 (w := w) (h := h) (by omega) (by omega) (by omega) (by omega)
  subst hw; subst hh
  rw [Int.mul_comm h w] at this
  omega

/-- A cell of the drawdown. -/
def uW (t : Int) (th td : List Int) (l : List Bool) (x y : Nat) : Bool := cell t l (td.getD y 0) (th.getD x 0)
theorem weaveF_c {s t : Int} (b1 : Bool) {th : List Int} (b2 : Bool) {td : List Int} {w h : Int} (b3 : Bool) {l : List Bool} (hd : dOk s t th td w h l.length) {x y : Nat} (hx : x < th.length) (hy : y < td.length) :
    Contract Tryz.prog 36 [I x, I y, DS s t b1 th b2 td w h b3 l] (B (uW t th td l x y)) := by
  have g1 := hd.2.2.2.2.1.2 x hx
  have g2 := hd.2.2.2.2.2.1.2 y hy
  have hb := dOk_cell hd g1.1 g1.2 g2.1 g2.2
  refine Contract.intro (effS [] false) 6 follows Tryz.func36 rfl rfl (by kernel_rfl) (Nat.le_of_ble_eq_true rfl) ?_
  simp (disch := first | assumption | omega | rfl | simp only [RH]) only [↓RP, RG, FX, RQ, ↓reduceIte, Nat.reduceEqDiff, reduceCtorEq, Nat.reduceBEq, Nat.reduceAdd, Nat.reduceLeDiff, args0_3]
  refine callK_F 6 (lifts_c s t b1 th b2 td w h b3 l (td.getD y 0) (th.getD x 0) (by omega) (by omega) (by omega) (by omega)) (by simp (disch := first | assumption | omega | rfl | simp only [RH]) only [↓RP, RG, FX, RQ, ↓reduceIte, Nat.reduceEqDiff, reduceCtorEq, Nat.reduceBEq, Nat.reduceAdd, Nat.reduceLeDiff, RA] <;> rfl) (.inl (by simp [allFresh, ints_fresh, bools_fresh])) ?_
  simp (disch := first | assumption | omega | rfl | simp only [RH]) only [↓RP, RG, FX, RQ, ↓reduceIte, Nat.reduceEqDiff, reduceCtorEq, Nat.reduceBEq, Nat.reduceAdd, Nat.reduceLeDiff]
  rw [resVal_1 rfl]; simp (disch := first | assumption | omega | rfl | simp only [RH]) only [↓RP, RG, FX, RQ, ↓reduceIte, Nat.reduceEqDiff, reduceCtorEq, Nat.reduceBEq, Nat.reduceAdd, Nat.reduceLeDiff, RS]
  rfl

end Go.Proofs.YtbhkhaaifielkaaGreatDoor

/- Lists: the place of an element. -/
set_option linter.unusedSimpArgs false
set_option linter.unusedVariables false
set_option maxRecDepth 100000
namespace Go.Proofs.YtbhkhaaifielkaaGreatDoor
open Go Go.Proofs Go.AW

end Go.Proofs.YtbhkhaaifielkaaGreatDoor

/- Lists: do they have each number just once? -/
set_option linter.unusedSimpArgs false
set_option linter.unusedVariables false
set_option maxRecDepth 100000
namespace Go.Proofs.YtbhkhaaifielkaaGreatDoor
open Go Go.Proofs Go.AW

/-- It is among the elements. -/
def has (l : List Int) (x : Int) : Prop := ∃ i, i < l.length ∧ l.getD i 0 = x
instance (l : List Int) (x : Int) : Decidable (has l x) := by unfold has; infer_instance
/-- It has each number below n just once. -/
def eachL (l : List Int) (n : Nat) : Prop := l.length = n ∧ ∀ k : Nat, k < n → has l k
end Go.Proofs.YtbhkhaaifielkaaGreatDoor

/- Kinds: numbered by first occurrence. Plain. -/
set_option linter.unusedSimpArgs false
set_option linter.unusedVariables false
namespace Go.Proofs.YtbhkhaaifielkaaGreatDoor

/-- Different numbers below m: at most m. -/
theorem nodup_lt : ∀ (m : Nat) (l : List Nat), l.Nodup → (∀ x ∈ l, x < m) → l.length ≤ m := by
  intro m
  induction m with
  | zero =>
    intro l _ h
    cases l with
    | nil => exact Nat.le_refl _
    | cons x r => have := h x (by simp); omega
  | succ m ih =>
    intro l hn h
    by_cases hm : m ∈ l
    · have h1 := ih (l.erase m) (hn.erase m) (fun x hx => by
        have h2 := (hn.mem_erase_iff).1 hx
        have := h x h2.2
        have := h2.1
        omega)
      rw [List.length_erase_of_mem hm] at h1
      omega
    · have h1 := ih l hn (fun x hx => by
        have := h x hx
        have : x ≠ m := fun e => hm (e ▸ hx)
        omega)
      omega

section
variable {α : Type} [DecidableEq α] {β : Type} [DecidableEq β]

/-- The place of y's like among fs, or their number. -/
def plc (r : Nat → α) (fs : List Nat) (y : Nat) : Nat := fs.findIdx fun f => decide (r f = r y)
/-- Kinds and firsts of the first n. -/
def knd (r : Nat → α) : Nat → List Nat × List Nat
  | 0 => ([], [])
  | n + 1 => ((knd r n).1 ++ [plc r (knd r n).2 n], if plc r (knd r n).2 n = (knd r n).2.length then (knd r n).2 ++ [n] else (knd r n).2)
theorem knd_len (r : Nat → α) (n : Nat) : (knd r n).1.length = n := by
  induction n with
  | zero => rfl
  | succ n ih => simp [knd, ih]
theorem knd_le (r : Nat → α) (n : Nat) : (knd r n).2.length ≤ n := by
  induction n with
  | zero => exact Nat.le_refl _
  | succ n ih =>
    simp only [knd]
    split
    · simp only [List.length_append, List.length_singleton]; omega
    · omega
theorem knd_first (r : Nat → α) (n : Nat) : ∀ f ∈ (knd r n).2, f < n := by
  induction n with
  | zero => intro f hf; simp [knd] at hf
  | succ n ih =>
    intro f hf
    simp only [knd] at hf
    split at hf
    · rcases List.mem_append.1 hf with h | h
      · have := ih f h; omega
      · simp at h; omega
    · have := ih f hf; omega
theorem plc_le (r : Nat → α) (fs : List Nat) (y : Nat) : plc r fs y ≤ fs.length := List.findIdx_le_length
theorem plc_eq (r : Nat → α) {fs : List Nat} {y k : Nat} (hk : k ≤ fs.length) (h1 : ∀ j, j < k → r (fs.getD j 0) ≠ r y) (h2 : k < fs.length → r (fs.getD k 0) = r y) : plc r fs y = k := by
  unfold plc
  rcases Nat.lt_or_ge k fs.length with hlt | hge
  · rw [List.findIdx_eq hlt]
    refine ⟨by have := h2 hlt; simp [List.getD_eq_getElem?_getD, hlt] at this; simp [this], fun j hj => ?_⟩
    have := h1 j hj
    simp [List.getD_eq_getElem?_getD, show j < fs.length by omega] at this
    simpa using this
  · obtain rfl : k = fs.length := by omega
    rw [List.findIdx_eq_length]
    intro x hx
    obtain ⟨j, hj, rfl⟩ := List.getElem_of_mem hx
    have := h1 j hj
    simp [List.getD_eq_getElem?_getD, hj] at this
    simpa using this
theorem plc_at (r : Nat → α) {fs : List Nat} {y : Nat} (h : plc r fs y < fs.length) : r (fs.getD (plc r fs y) 0) = r y := by
  unfold plc at h ⊢
  have h1 := List.findIdx_getElem (w := h)
  simpa [List.getD_eq_getElem?_getD, h] using h1
theorem plc_ne (r : Nat → α) {fs : List Nat} {y j : Nat} (hj : j < plc r fs y) : r (fs.getD j 0) ≠ r y := by
  have hl := plc_le r fs y
  unfold plc at hj
  have h1 := List.not_of_lt_findIdx hj
  have h2 : j < fs.length := by unfold plc at hl; omega
  simpa [List.getD_eq_getElem?_getD, h2] using h1

theorem getD_app {γ : Type} (l m : List γ) (j : Nat) (d : γ) : (l ++ m).getD j d = if j < l.length then l.getD j d else m.getD (j - l.length) d := by
  split
  · rename_i h; simp [List.getD_eq_getElem?_getD, List.getElem?_append_left h]
  · rename_i h
    have h' : l.length ≤ j := by omega
    simp [List.getD_eq_getElem?_getD, List.getElem?_append_right h']

/-- Each has the kind whose first is like it. -/
theorem knd_like (r : Nat → α) (n : Nat) : ∀ y, y < n → (knd r n).1.getD y 0 < (knd r n).2.length ∧ r ((knd r n).2.getD ((knd r n).1.getD y 0) 0) = r y := by
  induction n with
  | zero => intro y hy; omega
  | succ n ih =>
    intro y hy
    have hl := knd_len r n
    have hp := plc_le r (knd r n).2 n
    simp only [knd]
    rw [getD_app, hl]
    by_cases hyn : y < n
    · rw [if_pos hyn]
      obtain ⟨h1, h2⟩ := ih y hyn
      split
      · rw [getD_app, if_pos h1]
        exact ⟨by simp only [List.length_append, List.length_singleton]; omega, h2⟩
      · exact ⟨h1, h2⟩
    · obtain rfl : y = n := by omega
      rw [if_neg hyn, Nat.sub_self]
      simp only [List.getD_cons_zero]
      split
      · rename_i he
        rw [getD_app, if_neg (by omega), he, Nat.sub_self]
        exact ⟨by simp, rfl⟩
      · rename_i he
        exact ⟨by omega, plc_at r (by omega)⟩

/-- Firsts are not alike. -/
theorem knd_diff (r : Nat → α) (n : Nat) : ∀ i j, i < j → j < (knd r n).2.length → r ((knd r n).2.getD i 0) ≠ r ((knd r n).2.getD j 0) := by
  induction n with
  | zero => intro i j _ hj; simp [knd] at hj
  | succ n ih =>
    intro i j hij hj
    simp only [knd] at hj ⊢
    split at hj
    · rename_i he
      rw [if_pos he]
      simp only [List.length_append, List.length_singleton] at hj
      rw [getD_app, getD_app, if_pos (by omega)]
      by_cases hjl : j < (knd r n).2.length
      · rw [if_pos hjl]; exact ih i j hij hjl
      · rw [if_neg hjl]
        obtain rfl : j = (knd r n).2.length := by omega
        rw [Nat.sub_self]
        simp only [List.getD_cons_zero]
        exact plc_ne r (by omega)
    · rename_i he
      rw [if_neg he]
      exact ih i j hij hj

/-- Of the same kind just if they are alike. -/
theorem knd_iff (r : Nat → α) (n : Nat) {a b : Nat} (ha : a < n) (hb : b < n) : (knd r n).1.getD a 0 = (knd r n).1.getD b 0 ↔ r a = r b := by
  obtain ⟨a1, a2⟩ := knd_like r n a ha
  obtain ⟨b1, b2⟩ := knd_like r n b hb
  constructor
  · intro h; rw [← a2, ← b2, h]
  · intro h
    rcases Nat.lt_trichotomy ((knd r n).1.getD a 0) ((knd r n).1.getD b 0) with h1 | h1 | h1
    · exact absurd (by rw [a2, b2, h]) (knd_diff r n _ _ h1 b1)
    · exact h1
    · exact absurd (by rw [a2, b2, h]) (knd_diff r n _ _ h1 a1)

theorem knd_new (r : Nat → α) (n : Nat) {y : Nat} (h : ∀ j, j < n → r j ≠ r y) : plc r (knd r n).2 y = (knd r n).2.length := by
  refine plc_eq r (Nat.le_refl _) (fun j hj => ?_) (fun h => absurd h (by omega))
  exact h _ (knd_first r n _ (by rw [List.getD_eq_getElem?_getD, List.getElem?_eq_getElem hj]; exact List.getElem_mem hj))

/-- Kinds hang on what is alike alone. -/
theorem knd_congr (r : Nat → α) (r' : Nat → β) (n : Nat) (h : ∀ a b, a < n → b < n → (r a = r b ↔ r' a = r' b)) : knd r n = knd r' n := by
  induction n with
  | zero => rfl
  | succ n ih =>
    have e := ih fun a b ha hb => h a b (by omega) (by omega)
    have hp : plc r (knd r n).2 n = plc r' (knd r n).2 n := by
      unfold plc
      have hf := knd_first r n
      generalize (knd r n).2 = fs at hf
      induction fs with
      | nil => rfl
      | cons f fs ihf =>
        have h1 : decide (r f = r n) = decide (r' f = r' n) := by
          have := h f n (by have := hf f (by simp); omega) (by omega)
          simp only [this]
        rw [List.findIdx_cons, List.findIdx_cons, h1, ihf fun x hx => hf x (by simp [hx])]
    simp only [knd, ← e, hp]

/-- No more kinds than values. -/
theorem knd_card (r : Nat → α) (n : Nat) (c : Nat → Nat) (m : Nat) (hc : ∀ y, y < n → c y < m) (hr : ∀ a b, a < n → b < n → c a = c b → r a = r b) : (knd r n).2.length ≤ m := by
  have h1 : ((knd r n).2.map c).Nodup := by
    rw [List.nodup_iff_pairwise_ne, List.pairwise_iff_getElem]
    intro i j hi hj hij he
    simp only [List.length_map] at hi hj
    simp only [List.getElem_map] at he
    have hd := knd_diff r n i j hij hj
    simp only [List.getD_eq_getElem?_getD, List.getElem?_eq_getElem hi, List.getElem?_eq_getElem hj, Option.getD_some] at hd
    exact hd (hr _ _ (knd_first r n _ (List.getElem_mem hi)) (knd_first r n _ (List.getElem_mem hj)) he)
  have h2 : ∀ x ∈ (knd r n).2.map c, x < m := by
    intro x hx
    obtain ⟨f, hf, rfl⟩ := List.mem_map.1 hx
    exact hc f (knd_first r n f hf)
  have h3 := nodup_lt m _ h1 h2
  simpa using h3

end
end Go.Proofs.YtbhkhaaifielkaaGreatDoor

/- The kinds of rows. -/
set_option linter.unusedSimpArgs false
set_option linter.unusedVariables false
set_option maxRecDepth 100000
namespace Go.Proofs.YtbhkhaaifielkaaGreatDoor
open Go Go.Proofs Go.AW

/-- A row. -/
def rowN (W : Nat) (l : List Bool) (y : Nat) : List Bool := (List.range W).map fun x => l.getD (W * y + x) false
theorem rowN_eq {W : Nat} {l : List Bool} {a b : Nat} : rowN W l a = rowN W l b ↔ ∀ x, x < W → l.getD (W * a + x) false = l.getD (W * b + x) false := by
  constructor
  · intro h x hx
    have := congrArg (fun r : List Bool => r.getD x false) h
    simpa [rowN, List.getD_eq_getElem?_getD, List.getElem?_range hx] using this
  · intro h
    apply List.map_congr_left
    intro x hx
    exact h x (by simpa using hx)

end Go.Proofs.YtbhkhaaifielkaaGreatDoor

/- The kinds of rows, by the reference. -/
set_option linter.unusedSimpArgs false
set_option linter.unusedVariables false
set_option maxRecDepth 100000
namespace Go.Proofs.YtbhkhaaifielkaaGreatDoor
open Go Go.Proofs Go.AW

def nI (l : List Nat) : List Int := l.map fun n : Nat => (n : Int)
theorem nI_len (l : List Nat) : (nI l).length = l.length := by simp [nI]
theorem nI_app (l : List Nat) (n : Nat) : nI (l ++ [n]) = nI l ++ [(n : Int)] := by simp [nI]
theorem nI_get (l : List Nat) (k : Nat) : (nI l).getD k 0 = ((l.getD k 0 : Nat) : Int) := by
  simp only [nI, List.getD_eq_getElem?_getD, List.getElem?_map]
  cases l[k]? <;> rfl
end Go.Proofs.YtbhkhaaifielkaaGreatDoor

/- Lists numbered by first occurrence, by the reference. -/
set_option linter.unusedSimpArgs false
set_option linter.unusedVariables false
set_option maxRecDepth 100000
namespace Go.Proofs.YtbhkhaaifielkaaGreatDoor
open Go Go.Proofs Go.AW

abbrev rI (l : List Int) (i : Nat) : Int := l.getD i 0
end Go.Proofs.YtbhkhaaifielkaaGreatDoor

/- Lists that are matched. Plain. -/
set_option linter.unusedSimpArgs false
set_option linter.unusedVariables false
namespace Go.Proofs.YtbhkhaaifielkaaGreatDoor
open Go Go.Proofs Go.AW

/-- The first k elements of two lists pair off. -/
def pairs (a b : List Int) (k : Nat) : Prop := ∀ i j, i < k → j < k → (a.getD i 0 = a.getD j 0 ↔ b.getD i 0 = b.getD j 0)
theorem pairs_le {a b : List Int} {k m : Nat} (h : pairs a b k) (hm : m ≤ k) : pairs a b m := fun i j hi hj => h i j (by omega) (by omega)
/-- The match as it stands after k elements. -/
def mtO (a b : List Int) (N : Nat) : Nat → List Int
  | 0 => List.replicate N (-1)
  | k + 1 => (mtO a b N k).set (a.getD k 0).toNat (b.getD k 0)
theorem mtO_len (a b : List Int) (N k : Nat) : (mtO a b N k).length = N := by
  induction k with
  | zero => simp [mtO]
  | succ k ih => simp [mtO, ih]
theorem set_getI {l : List Int} {i j : Nat} {x : Int} (hi : i < l.length) : (l.set i x).getD j 0 = if i = j then x else l.getD j 0 := by
  simp only [List.getD_eq_getElem?_getD, List.getElem?_set]
  by_cases h : i = j
  · subst h; simp [hi]
  · simp [h]
theorem mtO_at {a b : List Int} {N : Nat} : ∀ (k : Nat), pairs a b k → (∀ j, j < k → 0 ≤ a.getD j 0 ∧ a.getD j 0 < (N : Int)) → ∀ j, j < k → (mtO a b N k).getD (a.getD j 0).toNat 0 = b.getD j 0 := by
  intro k
  induction k with
  | zero => intro _ _ j hj; omega
  | succ k ih =>
    intro hp ha j hj
    have hk := ha k (by omega)
    have hj2 := ha j hj
    rw [mtO, set_getI (by rw [mtO_len]; omega)]
    split
    · rename_i he
      have : a.getD k 0 = a.getD j 0 := by omega
      exact (hp k j (by omega) hj).1 this
    · rename_i he
      have : j ≠ k := by rintro rfl; exact he rfl
      exact ih (pairs_le hp (by omega)) (fun j hj => ha j (by omega)) j (by omega)
theorem mtO_none {a b : List Int} {N : Nat} {x : Nat} (hx : x < N) : ∀ (k : Nat), (∀ j, j < k → 0 ≤ a.getD j 0 ∧ a.getD j 0 < (N : Int)) → (∀ j, j < k → a.getD j 0 ≠ (x : Int)) → (mtO a b N k).getD x 0 = -1 := by
  intro k
  induction k with
  | zero => intro _ _; simp [mtO, List.getD_eq_getElem?_getD, hx]
  | succ k ih =>
    intro ha hn
    have hk := ha k (by omega)
    have hk2 := hn k (by omega)
    rw [mtO, set_getI (by rw [mtO_len]; omega), if_neg (by omega)]
    exact ih (fun j hj => ha j (by omega)) (fun j hj => hn j (by omega))
theorem pairs_succ {a b : List Int} {k : Nat} (h : pairs a b k) (hk : ∀ j, j < k → (a.getD k 0 = a.getD j 0 ↔ b.getD k 0 = b.getD j 0)) : pairs a b (k + 1) := by
  intro i j hi hj
  by_cases e1 : i = k
  · subst e1
    by_cases e2 : j = i
    · subst e2; simp
    · exact hk j (by omega)
  · by_cases e2 : j = k
    · subst e2
      rw [eq_comm, hk i (by omega), eq_comm]
    · exact h i j (by omega) (by omega)
/-- Nothing changes where the same is set again. -/
theorem mtO_same {a b : List Int} {N k : Nat} (hp : pairs a b k) (ha : ∀ j, j < k + 1 → 0 ≤ a.getD j 0 ∧ a.getD j 0 < (N : Int)) {j : Nat} (hj : j < k) (h1 : a.getD j 0 = a.getD k 0) (h2 : b.getD j 0 = b.getD k 0) : mtO a b N (k + 1) = mtO a b N k := by
  have hl := mtO_len a b N k
  have hat := mtO_at k hp (fun j hj => ha j (by omega)) j hj
  rw [h1, h2] at hat
  rw [mtO]
  have hk := ha k (by omega)
  have hlt : (a.getD k 0).toNat < (mtO a b N k).length := by rw [hl]; omega
  rw [List.getD_eq_getElem?_getD, List.getElem?_eq_getElem hlt] at hat
  have hat' : (mtO a b N k)[(a.getD k 0).toNat] = b.getD k 0 := hat
  rw [← hat', List.set_getElem_self]
/-- So many different elements. -/
def nK (l : List Int) : Nat := (knd (rI l) l.length).2.length
end Go.Proofs.YtbhkhaaifielkaaGreatDoor

/- The library's sort and compaction, as this program bears them. -/
set_option linter.unusedVariables false
namespace Go.Proofs
open Go.Shelf
def Tryz.lays189_ren : Go.Shelf.Ren := ⟨fun | 189 => 80 | 125 => 94 | 257 => 93 | 128 => 110 | 129 => 111 | 294 => 101 | 295 => 102 | 296 => 103 | 297 => 104 | 298 => 105 | 299 => 106 | 216 => 107 | 300 => 108 | 301 => 109 | 328 => 118 | 329 => 119 | 330 => 120 | 331 => 121 | 332 => 122 | 215 => 123 | 343 => 126 | n => n, fun | 28 => 22 | 3 => 3 | 46 => 104 | 0 => 0 | 51 => 124 | 53 => 127 | 4 => 4 | 183 => 145 | 182 => 144 | 131 => 149 | 5 => 5 | 9 => 9 | 218 => 159 | 222 => 163 | 228 => 166 | 229 => 167 | n => n, fun | n => n⟩
theorem Tryz.lays189 : Go.Proofs.Lays.n189 Tryz.prog Tryz.lays189_ren := {
  mixed := by kernel_rfl
  f125 := Tryz.func94.trans (congrArg some (by kernel_rfl))
  f128 := Tryz.func110.trans (congrArg some (by kernel_rfl))
  f129 := Tryz.func111.trans (congrArg some (by kernel_rfl))
  f189 := Tryz.func80.trans (congrArg some (by kernel_rfl))
  f215 := Tryz.func123.trans (congrArg some (by kernel_rfl))
  f216 := Tryz.func107.trans (congrArg some (by kernel_rfl))
  f257 := Tryz.func93.trans (congrArg some (by kernel_rfl))
  f294 := Tryz.func101.trans (congrArg some (by kernel_rfl))
  f295 := Tryz.func102.trans (congrArg some (by kernel_rfl))
  f296 := Tryz.func103.trans (congrArg some (by kernel_rfl))
  f297 := Tryz.func104.trans (congrArg some (by kernel_rfl))
  f298 := Tryz.func105.trans (congrArg some (by kernel_rfl))
  f299 := Tryz.func106.trans (congrArg some (by kernel_rfl))
  f300 := Tryz.func108.trans (congrArg some (by kernel_rfl))
  f301 := Tryz.func109.trans (congrArg some (by kernel_rfl))
  f328 := Tryz.func118.trans (congrArg some (by kernel_rfl))
  f329 := Tryz.func119.trans (congrArg some (by kernel_rfl))
  f330 := Tryz.func120.trans (congrArg some (by kernel_rfl))
  f331 := Tryz.func121.trans (congrArg some (by kernel_rfl))
  f332 := Tryz.func122.trans (congrArg some (by kernel_rfl))
  f343 := Tryz.func126.trans (congrArg some (by kernel_rfl))
  t0 := Tryz.underlying0
  a0 := Tryz.isAgg0
  z0 := Tryz.sizeOf0
  v0 := Tryz.zeroValue0
  t3 := Tryz.underlying3
  a3 := Tryz.isAgg3
  z3 := Tryz.sizeOf3
  v3 := Tryz.zeroValue3
  t4 := Tryz.underlying4
  a4 := Tryz.isAgg4
  z4 := Tryz.sizeOf4
  v4 := Tryz.zeroValue4
  t5 := Tryz.underlying5
  a5 := Tryz.isAgg5
  z5 := Tryz.sizeOf5
  v5 := Tryz.zeroValue5
  t9 := Tryz.underlying9
  a9 := Tryz.isAgg9
  z9 := Tryz.sizeOf9
  v9 := Tryz.zeroValue9
  t28 := Tryz.underlying22
  a28 := Tryz.isAgg22
  z28 := Tryz.sizeOf22
  v28 := Tryz.zeroValue22
  t46 := Tryz.underlying104
  a46 := Tryz.isAgg104
  z46 := Tryz.sizeOf104
  v46 := Tryz.zeroValue104
  t51 := Tryz.underlying124
  a51 := Tryz.isAgg124
  z51 := Tryz.sizeOf124
  v51 := Tryz.zeroValue124
  t53 := Tryz.underlying127
  a53 := Tryz.isAgg127
  z53 := Tryz.sizeOf127
  v53 := Tryz.zeroValue127
  t131 := Tryz.underlying149
  a131 := Tryz.isAgg149
  z131 := Tryz.sizeOf149
  v131 := Tryz.zeroValue149
  t182 := Tryz.underlying144
  a182 := Tryz.isAgg144
  z182 := Tryz.sizeOf144
  v182 := Tryz.zeroValue144
  t183 := Tryz.underlying145
  a183 := Tryz.isAgg145
  z183 := Tryz.sizeOf145
  v183 := Tryz.zeroValue145
  t218 := Tryz.underlying159
  a218 := Tryz.isAgg159
  z218 := Tryz.sizeOf159
  v218 := Tryz.zeroValue159
  t222 := Tryz.underlying163
  a222 := Tryz.isAgg163
  z222 := Tryz.sizeOf163
  v222 := Tryz.zeroValue163
  t228 := Tryz.underlying166
  a228 := Tryz.isAgg166
  z228 := Tryz.sizeOf166
  v228 := Tryz.zeroValue166
  t229 := Tryz.underlying167
  a229 := Tryz.isAgg167
  z229 := Tryz.sizeOf167
  v229 := Tryz.zeroValue167 }
def Tryz.lays2_20_ren : Go.Shelf.Ren := ⟨fun | 20 => 63 | n => n, fun | 22 => 22 | 3 => 3 | 4 => 4 | 0 => 0 | n => n, fun | n => n⟩
theorem Tryz.lays2_20 : Go.Proofs.Lays2.n20 Tryz.prog Tryz.lays2_20_ren := {
  mixed := by kernel_rfl
  f20 := Tryz.func63.trans (congrArg some (by kernel_rfl))
  t0 := Tryz.underlying0
  a0 := Tryz.isAgg0
  z0 := Tryz.sizeOf0
  v0 := Tryz.zeroValue0
  t3 := Tryz.underlying3
  a3 := Tryz.isAgg3
  z3 := Tryz.sizeOf3
  v3 := Tryz.zeroValue3
  t4 := Tryz.underlying4
  a4 := Tryz.isAgg4
  z4 := Tryz.sizeOf4
  v4 := Tryz.zeroValue4
  t22 := Tryz.underlying22
  a22 := Tryz.isAgg22
  z22 := Tryz.sizeOf22
  v22 := Tryz.zeroValue22
  i3 := by kernel_rfl }
end Go.Proofs

/- The different numbers of a list: sequences of its values, sorted, compacted. -/
set_option linter.unusedSimpArgs false
set_option linter.unusedVariables false
set_option maxRecDepth 100000
namespace Go.Proofs.YtbhkhaaifielkaaGreatDoor
open Go Go.Proofs Go.AW

theorem ints_getD_undef {l : List Int} {i : Nat} (hi : i < l.length) : (ints l).getD i .undef = I (l.getD i 0) := by
  simp [ints, List.getD_eq_getElem?_getD, hi]

theorem values_c (b : Bool) (l : List Int) : Contract Tryz.prog 62 [LA b l] (.func (.func 81) [] [.spot true [LA b l]]) := by
  refine Contract.intro (effS [] false [] [0]) 6 follows Tryz.func62 rfl rfl (by kernel_rfl) (Nat.le_of_ble_eq_true rfl) ?_
  simp (disch := first | assumption | omega | rfl | simp only [RH]) only [↓RP, RG, FX, RQ, ↓reduceIte, Nat.reduceEqDiff, reduceCtorEq, Nat.reduceBEq, Nat.reduceAdd, Nat.reduceLeDiff, args0_1]
  rw [resVal_1 rfl]; simp (disch := first | assumption | omega | rfl | simp only [RH]) only [↓RP, RG, FX, RQ, ↓reduceIte, Nat.reduceEqDiff, reduceCtorEq, Nat.reduceBEq, Nat.reduceAdd, Nat.reduceLeDiff, RS]
  first | done | simp [resOf, resOf_list, ints_res]

theorem valuesF_y (p b : Bool) (l : List Int) (hl : l.length ≤ 1000000000) : Gives Tryz.prog 81 [.spot p [LA b l]] (ints l) := by
  intro hs
  have hlen : (ints l).length = l.length := ints_length l
  refine SpecY.intro (effS [] false) follows Tryz.func81 rfl rfl (by kernel_rfl) (Nat.le_of_ble_eq_true rfl) rfl (fun yv => ?_)
  simp (disch := first | assumption | omega | rfl | simp only [RH]) only [↓RP, RG, FX, RQ, ↓reduceIte, Nat.reduceEqDiff, reduceCtorEq, Nat.reduceBEq, Nat.reduceAdd, Nat.reduceLeDiff, args0_2]
  refine loopK_I [0, 5, 6, 7] (fun k : Nat => k ≤ l.length) (fun k : Nat => ⟨[(0, .val yv), (5, LA b l), (6, I l.length), (7, I k)], hs k⟩) (fun k => l.length - k) 0 (by omega) (by simp only [↓RP, RG, FX, RQ, ↓reduceIte, Nat.reduceEqDiff, reduceCtorEq, Nat.reduceBEq, Nat.reduceAdd, Nat.reduceLeDiff]; rfl) ?_
  intro k hk
  by_cases hlt : k < l.length
  · simp (disch := first | assumption | omega | rfl | simp only [RH]) only [↓RP, RG, FX, RQ, ↓reduceIte, Nat.reduceEqDiff, reduceCtorEq, Nat.reduceBEq, Nat.reduceAdd, Nat.reduceLeDiff]
    refine callK_Y rfl (stepsY_at k (by omega) (ints_getD_undef hlt)) ?_
    simp (disch := first | assumption | omega | rfl | simp only [RH]) only [↓RP, RG, FX, RQ, ↓reduceIte, Nat.reduceEqDiff, reduceCtorEq, Nat.reduceBEq, Nat.reduceAdd, Nat.reduceLeDiff]
    exact ⟨k + 1, by omega, rfl, by omega⟩
  · obtain rfl : k = l.length := by omega
    simp (disch := first | assumption | omega | rfl | simp only [RH]) only [↓RP, RG, FX, RQ, ↓reduceIte, Nat.reduceEqDiff, reduceCtorEq, Nat.reduceBEq, Nat.reduceAdd, Nat.reduceLeDiff]
    exact Wk.refl _ _

/-- A sequence of at least one value, appended to nothing: a row of its own. -/
theorem appendSeq_s (h0 : List AObj) {f : FuncId} {cs : List AVal} {xs : List Int} {n : Nat} (hn : xs.length = n) (h1 : 0 < n) (hg : Gives Tryz.prog f cs (ints xs)) (hx : n ≤ 1000000000) : SpecTo Tryz.prog 92 [.cap0 true, .func (.func f) [] cs] h0 (.ref h0.length 0 n n) (h0 ++ [⟨3, 1, ints xs⟩]) := by
  refine SpecTo.intro (effS [] false) follows Tryz.func92 rfl rfl (by kernel_rfl) (Nat.le_of_ble_eq_true rfl) ?_
  simp (disch := first | assumption | omega | rfl | simp only [RH]) only [↓RP, RG, FX, RQ, ↓reduceIte, Nat.reduceEqDiff, reduceCtorEq, Nat.reduceBEq, Nat.reduceAdd, Nat.reduceLeDiff, args0_2]
  have hxl := ints_length xs
  refine rangeK_S (s := ⟨[(2, .ptr h0.length 0 1), (6, .func (.func f) [] cs)], h0 ++ [⟨22, 1, [gw true (h0.length + 1) (ints (xs.take 0))]⟩, go 3 (ints (xs.take 0))]⟩) [2, 6] (ints xs) (fun k => h0 ++ [⟨22, 1, [gw true (h0.length + 1) (ints (xs.take k))]⟩, go 3 (ints (xs.take k))]) ?_ rfl rfl (hg _) (fun i hi => ?_) ?_
  · simp only [↓RP, RG, FX, RQ, ↓reduceIte, Nat.reduceEqDiff, reduceCtorEq, Nat.reduceBEq, Nat.reduceAdd, Nat.reduceLeDiff]
    exact Wk.weak (fun t => .refl _) (.app h0 (.cons _ _ _ _ (.cons (.nil _) .nil) (.nil _ (by simp [go, ints]))))
  · rw [hxl] at hi
    have htk : (xs.take i).length ≤ 1000000000 := by rw [List.length_take]; omega
    rw [ints_getD_undef hi]
    simp (disch := first | assumption | omega | rfl | simp only [RH]) only [↓RP, RG, FX, RQ, ↓reduceIte, Nat.reduceEqDiff, reduceCtorEq, Nat.reduceBEq, Nat.reduceAdd, Nat.reduceLeDiff, append_int]
    refine Wk.of_eq ?_
    rw [List.take_add_one]
    simp [hi, List.getD_eq_getElem?_getD]
  · have hp : 0 < (ints xs).length := by rw [hxl]; omega
    rw [hxl, List.take_length]
    simp (disch := first | assumption | omega | rfl | simp only [RH]) only [↓RP, RG, FX, RQ, ↓reduceIte, Nat.reduceEqDiff, reduceCtorEq, Nat.reduceBEq, Nat.reduceAdd, Nat.reduceLeDiff, gw_pos hp, go_pos hp, hxl, hn]
    refine ⟨_, by rw [resVal_1 rfl]; simp (disch := first | assumption | omega | rfl | simp only [RH]) only [↓RP, RG, FX, RQ, ↓reduceIte, Nat.reduceEqDiff, reduceCtorEq, Nat.reduceBEq, Nat.reduceAdd, Nat.reduceLeDiff, raX_tmp, raX_cell, rvX_0, rvX_1, rvX_2, rvX_3, rvX_4, rvX_5]; rfl, (Wk.drop 8 [1] (by simp) (by decide) (by simp) (same_refl)).trans (Wk.of_eq (by simp (disch := omega) only [RK, List.idxOf?_cons, List.idxOf?_nil, Nat.reduceBEq, Option.map_some, Option.map_none, List.map_cons, List.map_nil, List.getD_cons_zero, List.getD_cons_succ, Bool.false_eq_true, ↓reduceIte, Nat.add_zero, List.append_nil]))⟩

theorem collect_s (h0 : List AObj) {f : FuncId} {cs : List AVal} {xs : List Int} {n : Nat} (hn : xs.length = n) (h1 : 0 < n) (hg : Gives Tryz.prog f cs (ints xs)) (hx : n ≤ 1000000000) : SpecTo Tryz.prog 79 [.func (.func f) [] cs] h0 (.ref h0.length 0 n n) (h0 ++ [⟨3, 1, ints xs⟩]) := by
  refine SpecTo.intro (effS [92] false) follows Tryz.func79 rfl rfl (by kernel_rfl) (Nat.le_of_ble_eq_true rfl) ?_
  simp (disch := first | assumption | omega | rfl | simp only [RH]) only [↓RP, RG, FX, RQ, ↓reduceIte, Nat.reduceEqDiff, reduceCtorEq, Nat.reduceBEq, Nat.reduceAdd, Nat.reduceLeDiff, args0_1]
  refine callK_T rfl (appendSeq_s _ hn h1 hg hx) ?_
  simp (disch := first | assumption | omega | rfl | simp only [RH]) only [↓RP, RG, FX, RQ, ↓reduceIte, Nat.reduceEqDiff, reduceCtorEq, Nat.reduceBEq, Nat.reduceAdd, Nat.reduceLeDiff]
  refine ⟨_, by rw [resVal_1 rfl]; simp (disch := first | assumption | omega | rfl | simp only [RH]) only [↓RP, RG, FX, RQ, ↓reduceIte, Nat.reduceEqDiff, reduceCtorEq, Nat.reduceBEq, Nat.reduceAdd, Nat.reduceLeDiff, raX_tmp, raX_cell, rvX_0, rvX_1, rvX_2, rvX_3, rvX_4, rvX_5]; rfl, (Wk.drop 8 [0] (by simp) (by decide) (by simp) (same_refl)).trans (Wk.of_eq (by simp (disch := omega) only [RK, List.idxOf?_cons, List.idxOf?_nil, Nat.reduceBEq, Option.map_some, Option.map_none, List.map_cons, List.map_nil, List.getD_cons_zero, List.getD_cons_succ, Bool.false_eq_true, ↓reduceIte, Nat.add_zero, List.append_nil]))⟩

/-- A sequence, sorted. -/
theorem sorted_s (h0 : List AObj) {f : FuncId} {cs : List AVal} {xs : List Int} {n : Nat} (hn : xs.length = n) (h1 : 0 < n) (hg : Gives Tryz.prog f cs (ints xs)) (hx : n ≤ 1000000000) : SpecTo Tryz.prog 61 [.func (.func f) [] cs] h0 (.ref h0.length 0 n n) (h0 ++ [⟨3, 1, ints (srt xs)⟩]) := by
  refine SpecTo.intro (effS [79, 80] false) follows Tryz.func61 rfl rfl (by kernel_rfl) (Nat.le_of_ble_eq_true rfl) ?_
  simp (disch := first | assumption | omega | rfl | simp only [RH]) only [↓RP, RG, FX, RQ, ↓reduceIte, Nat.reduceEqDiff, reduceCtorEq, Nat.reduceBEq, Nat.reduceAdd, Nat.reduceLeDiff, args0_1]
  refine callK_T rfl (collect_s _ hn h1 hg hx) ?_
  simp (disch := first | assumption | omega | rfl | simp only [RH]) only [↓RP, RG, FX, RQ, ↓reduceIte, Nat.reduceEqDiff, reduceCtorEq, Nat.reduceBEq, Nat.reduceAdd, Nat.reduceLeDiff]
  refine callK_T rfl (sort_spec (ρ := Tryz.lays189_ren) Tryz.lays189 (by kernel_rfl) (id := h0.length) (by rw [hAt_app0]; rfl) (by decide) hn (by omega)) ?_
  simp (disch := first | assumption | omega | rfl | simp only [RH]) only [↓RP, RG, FX, RQ, ↓reduceIte, Nat.reduceEqDiff, reduceCtorEq, Nat.reduceBEq, Nat.reduceAdd, Nat.reduceLeDiff, List.set_append_right, Nat.sub_self]
  refine ⟨_, by rw [resVal_1 rfl]; simp (disch := first | assumption | omega | rfl | simp only [RH]) only [↓RP, RG, FX, RQ, ↓reduceIte, Nat.reduceEqDiff, reduceCtorEq, Nat.reduceBEq, Nat.reduceAdd, Nat.reduceLeDiff, raX_tmp, raX_cell, rvX_0, rvX_1, rvX_2, rvX_3, rvX_4, rvX_5]; rfl, (Wk.drop 8 [0] (by simp) (by decide) (by simp) (same_refl)).trans (Wk.of_eq (by simp (disch := omega) only [RK, List.idxOf?_cons, List.idxOf?_nil, Nat.reduceBEq, Option.map_some, Option.map_none, List.map_cons, List.map_nil, List.getD_cons_zero, List.getD_cons_succ, Bool.false_eq_true, ↓reduceIte, Nat.add_zero, List.append_nil]))⟩
end Go.Proofs.YtbhkhaaifielkaaGreatDoor

/- Used and Match of lists, by both. -/
set_option linter.unusedSimpArgs false
set_option linter.unusedVariables false
set_option maxRecDepth 100000
namespace Go.Proofs.YtbhkhaaifielkaaGreatDoor
open Go Go.Proofs Go.AW

/-- A list of numbers that are allowed. -/
def thV (l : List Int) : Prop := l.length ≤ 400 ∧ ∀ j, j < l.length → 0 ≤ l.getD j 0 ∧ l.getD j 0 < 400
theorem thV_of {l : List Int} {n : Int} (h : wIn l n) (hl : l.length ≤ 400) (hn : n ≤ 400) : thV l := ⟨hl, fun j hj => by have := h.2 j hj; omega⟩
theorem chk1_c (b : Bool) {l : List Int} (hv : thV l) : Contract Tryz.prog 47 [.list false false 1 [LA b l]] (I 0) := by
  obtain ⟨h1, h2⟩ := hv
  refine Contract.intro (effS [] false) 6 follows Tryz.func47 rfl rfl (by kernel_rfl) (Nat.le_of_ble_eq_true rfl) ?_
  simp (disch := first | assumption | omega | rfl | simp only [RH]) only [↓RP, RG, FX, RQ, ↓reduceIte, Nat.reduceEqDiff, reduceCtorEq, Nat.reduceBEq, Nat.reduceAdd, Nat.reduceLeDiff, args0_1]
  refine loopK_I [7, 8, 9] (fun k : Nat => k ≤ 1) (fun k : Nat => ⟨[(7, .list false false 1 [LA b l]), (8, I 1), (9, I k)], []⟩) (fun k => 1 - k) 0 (by simp) (by simp only [↓RP, RG, FX, RQ, ↓reduceIte, Nat.reduceEqDiff, reduceCtorEq, Nat.reduceBEq, Nat.reduceAdd, Nat.reduceLeDiff]; rfl) ?_
  intro k hk
  obtain rfl | rfl : k = 0 ∨ k = 1 := by omega
  rotate_left
  · simp (disch := first | assumption | omega | rfl | simp only [RH]) only [↓RP, RG, FX, RQ, ↓reduceIte, Nat.reduceEqDiff, reduceCtorEq, Nat.reduceBEq, Nat.reduceAdd, Nat.reduceLeDiff, Int.natCast_zero, Int.natCast_one]
    rw [resVal_1 rfl]; simp (disch := first | assumption | omega | rfl | simp only [RH]) only [↓RP, RG, FX, RQ, ↓reduceIte, Nat.reduceEqDiff, reduceCtorEq, Nat.reduceBEq, Nat.reduceAdd, Nat.reduceLeDiff, RS]
  simp (disch := first | assumption | omega | rfl | simp only [RH]) only [↓RP, RG, FX, RQ, ↓reduceIte, Nat.reduceEqDiff, reduceCtorEq, Nat.reduceBEq, Nat.reduceAdd, Nat.reduceLeDiff, Int.natCast_zero, Int.natCast_one, Int.toNat_zero, Nat.zero_mul]
  refine loopK_I [7, 8, 9, 16, 17, 18] (fun k : Nat => k ≤ l.length) (fun k : Nat => ⟨[(7, .list false false 1 [LA b l]), (8, I 1), (9, I 0), (16, LA b l), (17, I l.length), (18, I k)], []⟩) (fun k => l.length - k) 0 (by simp) (by simp only [↓RP, RG, FX, RQ, ↓reduceIte, Nat.reduceEqDiff, reduceCtorEq, Nat.reduceBEq, Nat.reduceAdd, Nat.reduceLeDiff]; rfl) ?_
  intro k hk
  by_cases hlt : k < l.length
  · have := h2 k hlt
    simp (disch := first | assumption | omega | rfl | simp only [RH]) only [↓RP, RG, FX, RQ, ↓reduceIte, Nat.reduceEqDiff, reduceCtorEq, Nat.reduceBEq, Nat.reduceAdd, Nat.reduceLeDiff]
    exact ⟨k + 1, by omega, rfl, by omega⟩
  · obtain rfl : k = l.length := by omega
    simp (disch := first | assumption | omega | rfl | simp only [RH]) only [↓RP, RG, FX, RQ, ↓reduceIte, Nat.reduceEqDiff, reduceCtorEq, Nat.reduceBEq, Nat.reduceAdd, Nat.reduceLeDiff]
    exact ⟨1, by omega, rfl, by omega⟩
theorem chk2_c (b1 b2 : Bool) {l m : List Int} (hl : thV l) (hm : thV m) : Contract Tryz.prog 47 [.list false false 2 [LA b1 l, LA b2 m]] (I 0) := by
  obtain ⟨h1, h2⟩ := hl
  obtain ⟨h3, h4⟩ := hm
  refine Contract.intro (effS [] false) 6 follows Tryz.func47 rfl rfl (by kernel_rfl) (Nat.le_of_ble_eq_true rfl) ?_
  simp (disch := first | assumption | omega | rfl | simp only [RH]) only [↓RP, RG, FX, RQ, ↓reduceIte, Nat.reduceEqDiff, reduceCtorEq, Nat.reduceBEq, Nat.reduceAdd, Nat.reduceLeDiff, args0_1]
  refine loopK_I [7, 8, 9] (fun k : Nat => k ≤ 2) (fun k : Nat => ⟨[(7, .list false false 2 [LA b1 l, LA b2 m]), (8, I 2), (9, I k)], []⟩) (fun k => 2 - k) 0 (by simp) (by simp only [↓RP, RG, FX, RQ, ↓reduceIte, Nat.reduceEqDiff, reduceCtorEq, Nat.reduceBEq, Nat.reduceAdd, Nat.reduceLeDiff]; rfl) ?_
  intro k hk
  obtain rfl | rfl | rfl : k = 0 ∨ k = 1 ∨ k = 2 := by omega
  · simp (disch := first | assumption | omega | rfl | simp only [RH]) only [↓RP, RG, FX, RQ, ↓reduceIte, Nat.reduceEqDiff, reduceCtorEq, Nat.reduceBEq, Nat.reduceAdd, Nat.reduceLeDiff, Int.natCast_zero, Int.natCast_one, Int.toNat_zero, Nat.zero_mul]
    refine loopK_I [7, 8, 9, 16, 17, 18] (fun k : Nat => k ≤ l.length) (fun k : Nat => ⟨[(7, .list false false 2 [LA b1 l, LA b2 m]), (8, I 2), (9, I 0), (16, LA b1 l), (17, I l.length), (18, I k)], []⟩) (fun k => l.length - k) 0 (by simp) (by simp only [↓RP, RG, FX, RQ, ↓reduceIte, Nat.reduceEqDiff, reduceCtorEq, Nat.reduceBEq, Nat.reduceAdd, Nat.reduceLeDiff]; rfl) ?_
    intro k hk
    by_cases hlt : k < l.length
    · have := h2 k hlt
      simp (disch := first | assumption | omega | rfl | simp only [RH]) only [↓RP, RG, FX, RQ, ↓reduceIte, Nat.reduceEqDiff, reduceCtorEq, Nat.reduceBEq, Nat.reduceAdd, Nat.reduceLeDiff]
      exact ⟨k + 1, by omega, rfl, by omega⟩
    · obtain rfl : k = l.length := by omega
      simp (disch := first | assumption | omega | rfl | simp only [RH]) only [↓RP, RG, FX, RQ, ↓reduceIte, Nat.reduceEqDiff, reduceCtorEq, Nat.reduceBEq, Nat.reduceAdd, Nat.reduceLeDiff]
      exact ⟨1, by omega, rfl, by omega⟩
  · simp (disch := first | assumption | omega | rfl | simp only [RH]) only [↓RP, RG, FX, RQ, ↓reduceIte, Nat.reduceEqDiff, reduceCtorEq, Nat.reduceBEq, Nat.reduceAdd, Nat.reduceLeDiff, Int.natCast_zero, Int.natCast_one, Int.toNat_zero, Nat.zero_mul, Int.toNat_one, Nat.one_mul]
    refine loopK_I [7, 8, 9, 16, 17, 18] (fun k : Nat => k ≤ m.length) (fun k : Nat => ⟨[(7, .list false false 2 [LA b1 l, LA b2 m]), (8, I 2), (9, I 1), (16, LA b2 m), (17, I m.length), (18, I k)], []⟩) (fun k => m.length - k) 0 (by simp) (by simp only [↓RP, RG, FX, RQ, ↓reduceIte, Nat.reduceEqDiff, reduceCtorEq, Nat.reduceBEq, Nat.reduceAdd, Nat.reduceLeDiff]; rfl) ?_
    intro k hk
    by_cases hlt : k < m.length
    · have := h4 k hlt
      simp (disch := first | assumption | omega | rfl | simp only [RH]) only [↓RP, RG, FX, RQ, ↓reduceIte, Nat.reduceEqDiff, reduceCtorEq, Nat.reduceBEq, Nat.reduceAdd, Nat.reduceLeDiff]
      exact ⟨k + 1, by omega, rfl, by omega⟩
    · obtain rfl : k = m.length := by omega
      simp (disch := first | assumption | omega | rfl | simp only [RH]) only [↓RP, RG, FX, RQ, ↓reduceIte, Nat.reduceEqDiff, reduceCtorEq, Nat.reduceBEq, Nat.reduceAdd, Nat.reduceLeDiff]
      exact ⟨2, by omega, rfl, by omega⟩
  · simp (disch := first | assumption | omega | rfl | simp only [RH]) only [↓RP, RG, FX, RQ, ↓reduceIte, Nat.reduceEqDiff, reduceCtorEq, Nat.reduceBEq, Nat.reduceAdd, Nat.reduceLeDiff]
    rw [resVal_1 rfl]; simp (disch := first | assumption | omega | rfl | simp only [RH]) only [↓RP, RG, FX, RQ, ↓reduceIte, Nat.reduceEqDiff, reduceCtorEq, Nat.reduceBEq, Nat.reduceAdd, Nat.reduceLeDiff, RS]
theorem nodup_len {α : Type} [DecidableEq α] : ∀ {l m : List α}, l.Nodup → m.Nodup → (∀ x, x ∈ l ↔ x ∈ m) → l.length = m.length := by
  intro l m hl hm h
  exact (List.perm_ext_iff_of_nodup hl hm |>.2 h).length_eq
theorem nK_uniq (l : List Int) : nK l = (uniq l).length := by
  obtain ⟨hp, hm⟩ := uniq_spec l
  have hnd : ((knd (rI l) l.length).2.map (rI l)).Nodup := by
    rw [List.nodup_iff_pairwise_ne, List.pairwise_iff_getElem]
    intro i j hi hj hij he
    simp only [List.length_map] at hi hj
    simp only [List.getElem_map] at he
    have hd := knd_diff (rI l) l.length i j hij hj
    simp only [List.getD_eq_getElem?_getD, List.getElem?_eq_getElem hi, List.getElem?_eq_getElem hj, Option.getD_some] at hd
    exact hd he
  have hnu : (uniq l).Nodup := by
    rw [List.nodup_iff_pairwise_ne]
    exact hp.imp fun h => by omega
  have := nodup_len hnd hnu (fun x => by
    rw [hm x, List.mem_map]
    constructor
    · rintro ⟨f, hf, rfl⟩
      have := knd_first (rI l) l.length f hf
      show l.getD f 0 ∈ l
      rw [List.getD_eq_getElem?_getD, List.getElem?_eq_getElem this]
      exact List.getElem_mem this
    · intro hx
      obtain ⟨i, hi, rfl⟩ := List.mem_iff_getElem.1 hx
      obtain ⟨h1, h2⟩ := knd_like (rI l) l.length i hi
      refine ⟨_, ?_, h2.trans ?_⟩
      · rw [List.getD_eq_getElem?_getD (l := (knd (rI l) l.length).2), List.getElem?_eq_getElem h1]; exact List.getElem_mem h1
      · show l.getD i 0 = l[i]
        rw [List.getD_eq_getElem?_getD, List.getElem?_eq_getElem hi]; rfl)
  rw [List.length_map] at this
  exact this
end Go.Proofs.YtbhkhaaifielkaaGreatDoor

/- The different numbers of a list, and its elements' places among them. -/
set_option linter.unusedSimpArgs false
set_option linter.unusedVariables false
set_option maxRecDepth 100000
namespace Go.Proofs.YtbhkhaaifielkaaGreatDoor
open Go Go.Proofs Go.AW

end Go.Proofs.YtbhkhaaifielkaaGreatDoor

/- Drafts: drawdowns and lifts, whole. -/
set_option linter.unusedSimpArgs false
set_option linter.unusedVariables false
set_option maxRecDepth 100000
namespace Go.Proofs.YtbhkhaaifielkaaGreatDoor
open Go Go.Proofs Go.AW

theorem weaveP_g (h0 : List AObj) {s t : Int} (b1 : Bool) {th : List Int} (b2 : Bool) {td : List Int} {w h : Int} (b3 : Bool) {l : List Bool} (hd : dOk s t th td w h l.length) :
    SpecTo Tryz.prog 10 [DA s t b1 th b2 td w h b3 l] h0 (.tuple [.agg [I th.length, I td.length, gw true h0.length (bools (tabN th.length (uW t th td l) (th.length * td.length)))], I 0]) (h0 ++ [go 4 (bools (tabN th.length (uW t th td l) (th.length * td.length)))]) := by
  have e1 := hd.2.2.1
  have e2 := hd.2.2.2.1
  refine SpecTo.intro (effS [] false) follows Tryz.func10 rfl rfl (by kernel_rfl) (Nat.le_of_ble_eq_true rfl) ?_
  simp (disch := first | assumption | omega | rfl | simp only [RH]) only [↓RP, RG, FX, RQ, ↓reduceIte, Nat.reduceEqDiff, reduceCtorEq, Nat.reduceBEq, Nat.reduceAdd, Nat.reduceLeDiff, args0_1]
  refine callK_F 6 (dcheckP_c s t b1 th b2 td w h b3 l (by omega) (by omega)) (by simp (disch := first | assumption | omega | rfl | simp only [RH]) only [↓RP, RG, FX, RQ, ↓reduceIte, Nat.reduceEqDiff, reduceCtorEq, Nat.reduceBEq, Nat.reduceAdd, Nat.reduceLeDiff, RA] <;> rfl) (.inl (by simp [allFresh, ints_fresh, bools_fresh])) ?_
  simp (disch := first | assumption | omega | rfl | simp only [RH]) only [↓RP, RG, FX, RQ, ↓reduceIte, Nat.reduceEqDiff, reduceCtorEq, Nat.reduceBEq, Nat.reduceAdd, Nat.reduceLeDiff, dchk_ok hd]
  refine callK_T rfl (dtable_s _ 36 _ [DS s t b1 th b2 td w h b3 l] th.length td.length (uW t th td l) (by omega) (by omega) (fun r => ?_) (fun x y hx hy => weaveF_c b1 b2 b3 hd hx hy)) ?_
  · simp (disch := omega) only [↓RP, RG, FX, RQ, ↓reduceIte, Nat.reduceEqDiff, reduceCtorEq, Nat.reduceBEq, Nat.reduceAdd, Nat.reduceLeDiff, RA]
  simp (disch := first | assumption | omega | rfl | simp only [RH]) only [↓RP, RG, FX, RQ, ↓reduceIte, Nat.reduceEqDiff, reduceCtorEq, Nat.reduceBEq, Nat.reduceAdd, Nat.reduceLeDiff]
  refine ⟨_, by rw [resVal_2 rfl]; simp (disch := first | assumption | omega | rfl | simp only [RH]) only [↓RP, RG, FX, RQ, ↓reduceIte, Nat.reduceEqDiff, reduceCtorEq, Nat.reduceBEq, Nat.reduceAdd, Nat.reduceLeDiff, raX_tmp, raX_cell, rvX_0, rvX_1, rvX_2, rvX_3, rvX_4, rvX_5]; rfl, (Wk.drop 8 [2] (by simp) (by decide) (by simp) (same_refl)).trans (Wk.of_eq (by simp (disch := omega) only [RK, List.idxOf?_cons, List.idxOf?_nil, Nat.reduceBEq, Option.map_some, Option.map_none, List.map_cons, List.map_nil, List.getD_cons_zero, List.getD_cons_succ, Bool.false_eq_true, ↓reduceIte, Nat.add_zero, List.append_nil]))⟩

theorem weaveP_s (h0 : List AObj) {s t : Int} (b1 : Bool) {th : List Int} (b2 : Bool) {td : List Int} {w h : Int} (b3 : Bool) {l : List Bool} (hd : dOk s t th td w h l.length) :
    SpecTo Tryz.prog 10 [DA s t b1 th b2 td w h b3 l] h0 (.tuple [.agg [I th.length, I td.length, .ref h0.length 0 (th.length * td.length) (th.length * td.length)], I 0]) (h0 ++ [⟨4, 1, bools (tabN th.length (uW t th td l) (th.length * td.length))⟩]) := by
  have := weaveP_g h0 b1 b2 b3 hd
  have hp := tabN_pos hd.2.2.2.2.1.1 hd.2.2.2.2.2.1.1 (uW t th td l)
  rwa [gw_pos hp, go_pos hp, bools_length, tabN_len] at this

end Go.Proofs.YtbhkhaaifielkaaGreatDoor

/- Drafts: drawdowns and lifts, whole: the reference's, and lifts. -/
set_option linter.unusedSimpArgs false
set_option linter.unusedVariables false
set_option maxRecDepth 100000
namespace Go.Proofs.YtbhkhaaifielkaaGreatDoor
open Go Go.Proofs Go.AW

end Go.Proofs.YtbhkhaaifielkaaGreatDoor

/- Drafts: compared, copied; the law of drawdowns. -/
set_option linter.unusedSimpArgs false
set_option linter.unusedVariables false
set_option maxRecDepth 100000
namespace Go.Proofs.YtbhkhaaifielkaaGreatDoor
open Go Go.Proofs Go.AW

def dGreat (th td : List Int) (l : List Bool) : Prop := 70 < (th.length : Int) ∨ 70 < (td.length : Int) ∨ 4200 < (l.length : Int)
instance (th td : List Int) (l : List Bool) : Decidable (dGreat th td l) := by unfold dGreat; infer_instance

theorem great03_c (s t : Int) (b1 : Bool) (th : List Int) (b2 : Bool) (td : List Int) (w h : Int) (b3 : Bool) (l : List Bool) : Contract Tryz.prog 22 [DA s t b1 th b2 td w h b3 l] (B (decide (dGreat th td l))) := by
  refine Contract.intro (effS [] false) 6 follows Tryz.func22 rfl rfl (by kernel_rfl) (Nat.le_of_ble_eq_true rfl) ?_
  by_cases c1 : 70 < (th.length : Int)
  · simp (disch := first | assumption | omega | rfl | simp only [RH]) only [↓RP, RG, FX, RQ, ↓reduceIte, Nat.reduceEqDiff, reduceCtorEq, Nat.reduceBEq, Nat.reduceAdd, Nat.reduceLeDiff, args0_1]
    rw [resVal_1 rfl]; simp (disch := first | assumption | omega | rfl | simp only [RH]) only [↓RP, RG, FX, RQ, ↓reduceIte, Nat.reduceEqDiff, reduceCtorEq, Nat.reduceBEq, Nat.reduceAdd, Nat.reduceLeDiff, RS]
    first | done | exact okT (.inl c1)
  by_cases c2 : 70 < (td.length : Int)
  · simp (disch := first | assumption | omega | rfl | simp only [RH]) only [↓RP, RG, FX, RQ, ↓reduceIte, Nat.reduceEqDiff, reduceCtorEq, Nat.reduceBEq, Nat.reduceAdd, Nat.reduceLeDiff, args0_1]
    rw [resVal_1 rfl]; simp (disch := first | assumption | omega | rfl | simp only [RH]) only [↓RP, RG, FX, RQ, ↓reduceIte, Nat.reduceEqDiff, reduceCtorEq, Nat.reduceBEq, Nat.reduceAdd, Nat.reduceLeDiff, RS]
    first | done | exact okT (.inr (.inl c2))
  simp (disch := first | assumption | omega | rfl | simp only [RH]) only [↓RP, RG, FX, RQ, ↓reduceIte, Nat.reduceEqDiff, reduceCtorEq, Nat.reduceBEq, Nat.reduceAdd, Nat.reduceLeDiff, args0_1]
  refine callK_F 6 (great_c w h b3 l) (by simp (disch := first | assumption | omega | rfl | simp only [RH]) only [↓RP, RG, FX, RQ, ↓reduceIte, Nat.reduceEqDiff, reduceCtorEq, Nat.reduceBEq, Nat.reduceAdd, Nat.reduceLeDiff, RA] <;> rfl) (.inl (by simp [allFresh, ints_fresh, bools_fresh])) ?_
  simp (disch := first | assumption | omega | rfl | simp only [RH]) only [↓RP, RG, FX, RQ, ↓reduceIte, Nat.reduceEqDiff, reduceCtorEq, Nat.reduceBEq, Nat.reduceAdd, Nat.reduceLeDiff]
  rw [resVal_1 rfl]; simp (disch := first | assumption | omega | rfl | simp only [RH]) only [↓RP, RG, FX, RQ, ↓reduceIte, Nat.reduceEqDiff, reduceCtorEq, Nat.reduceBEq, Nat.reduceAdd, Nat.reduceLeDiff, RS]
  first | done | exact okD (by unfold dGreat; omega)

def dEq (s t : Int) (th td : List Int) (w h : Int) (l : List Bool) (s' t' : Int) (th' td' : List Int) (w' h' : Int) (l' : List Bool) : Prop := s = s' ∧ t = t' ∧ th = th' ∧ td = td' ∧ w = w' ∧ h = h' ∧ l = l'
instance (s t : Int) (th td : List Int) (w h : Int) (l : List Bool) (s' t' : Int) (th' td' : List Int) (w' h' : Int) (l' : List Bool) : Decidable (dEq s t th td w h l s' t' th' td' w' h' l') := by unfold dEq; infer_instance

theorem dsameP_c (s t : Int) (b1 : Bool) (th : List Int) (b2 : Bool) (td : List Int) (w h : Int) (b3 : Bool) (l : List Bool) (s' t' : Int) (b1' : Bool) (th' : List Int) (b2' : Bool) (td' : List Int) (w' h' : Int) (b3' : Bool) (l' : List Bool) (hl1 : th.length ≤ 1000000000000) (hl2 : td.length ≤ 1000000000000) (hl3 : l.length ≤ 1000000000000) :
    Contract Tryz.prog 30 [DA s t b1 th b2 td w h b3 l, DA s' t' b1' th' b2' td' w' h' b3' l'] (B (decide (dEq s t th td w h l s' t' th' td' w' h' l'))) := by
  refine Contract.intro (effS [] false) 6 follows Tryz.func30 rfl rfl (by kernel_rfl) (Nat.le_of_ble_eq_true rfl) ?_
  by_cases c1 : s = s'
  rotate_left
  · simp (disch := first | assumption | omega | rfl | simp only [RH]) only [↓RP, RG, FX, RQ, ↓reduceIte, Nat.reduceEqDiff, reduceCtorEq, Nat.reduceBEq, Nat.reduceAdd, Nat.reduceLeDiff, args0_2]
    rw [resVal_1 rfl]; simp (disch := first | assumption | omega | rfl | simp only [RH]) only [↓RP, RG, FX, RQ, ↓reduceIte, Nat.reduceEqDiff, reduceCtorEq, Nat.reduceBEq, Nat.reduceAdd, Nat.reduceLeDiff, RS]
    first | done | exact okF (fun h => c1 h.1)
  by_cases c2 : t = t'
  rotate_left
  · simp (disch := first | assumption | omega | rfl | simp only [RH]) only [↓RP, RG, FX, RQ, ↓reduceIte, Nat.reduceEqDiff, reduceCtorEq, Nat.reduceBEq, Nat.reduceAdd, Nat.reduceLeDiff, args0_2]
    rw [resVal_1 rfl]; simp (disch := first | assumption | omega | rfl | simp only [RH]) only [↓RP, RG, FX, RQ, ↓reduceIte, Nat.reduceEqDiff, reduceCtorEq, Nat.reduceBEq, Nat.reduceAdd, Nat.reduceLeDiff, RS]
    first | done | exact okF (fun h => c2 h.2.1)
  simp (disch := first | assumption | omega | rfl | simp only [RH]) only [↓RP, RG, FX, RQ, ↓reduceIte, Nat.reduceEqDiff, reduceCtorEq, Nat.reduceBEq, Nat.reduceAdd, Nat.reduceLeDiff, args0_2]
  refine callK_F 6 (equalI_c b1 b1' th th' (by omega)) (by simp (disch := first | assumption | omega | rfl | simp only [RH]) only [↓RP, RG, FX, RQ, ↓reduceIte, Nat.reduceEqDiff, reduceCtorEq, Nat.reduceBEq, Nat.reduceAdd, Nat.reduceLeDiff, RA] <;> rfl) (.inl (by simp [allFresh, ints_fresh, bools_fresh])) ?_
  by_cases c3 : th = th'
  rotate_left
  · simp (disch := first | assumption | omega | rfl | simp only [RH]) only [↓RP, RG, FX, RQ, ↓reduceIte, Nat.reduceEqDiff, reduceCtorEq, Nat.reduceBEq, Nat.reduceAdd, Nat.reduceLeDiff]
    rw [resVal_1 rfl]; simp (disch := first | assumption | omega | rfl | simp only [RH]) only [↓RP, RG, FX, RQ, ↓reduceIte, Nat.reduceEqDiff, reduceCtorEq, Nat.reduceBEq, Nat.reduceAdd, Nat.reduceLeDiff, RS]
    first | done | exact okF (fun h => c3 h.2.2.1)
  simp (disch := first | assumption | omega | rfl | simp only [RH]) only [↓RP, RG, FX, RQ, ↓reduceIte, Nat.reduceEqDiff, reduceCtorEq, Nat.reduceBEq, Nat.reduceAdd, Nat.reduceLeDiff]
  refine callK_F 6 (equalI_c b2 b2' td td' (by omega)) (by simp (disch := first | assumption | omega | rfl | simp only [RH]) only [↓RP, RG, FX, RQ, ↓reduceIte, Nat.reduceEqDiff, reduceCtorEq, Nat.reduceBEq, Nat.reduceAdd, Nat.reduceLeDiff, RA] <;> rfl) (.inl (by simp [allFresh, ints_fresh, bools_fresh])) ?_
  by_cases c4 : td = td'
  rotate_left
  · simp (disch := first | assumption | omega | rfl | simp only [RH]) only [↓RP, RG, FX, RQ, ↓reduceIte, Nat.reduceEqDiff, reduceCtorEq, Nat.reduceBEq, Nat.reduceAdd, Nat.reduceLeDiff]
    rw [resVal_1 rfl]; simp (disch := first | assumption | omega | rfl | simp only [RH]) only [↓RP, RG, FX, RQ, ↓reduceIte, Nat.reduceEqDiff, reduceCtorEq, Nat.reduceBEq, Nat.reduceAdd, Nat.reduceLeDiff, RS]
    first | done | exact okF (fun h => c4 h.2.2.2.1)
  simp (disch := first | assumption | omega | rfl | simp only [RH]) only [↓RP, RG, FX, RQ, ↓reduceIte, Nat.reduceEqDiff, reduceCtorEq, Nat.reduceBEq, Nat.reduceAdd, Nat.reduceLeDiff]
  refine callK_F 6 (sameP_c w h w' h' b3 b3' l l' (by omega)) (by simp (disch := first | assumption | omega | rfl | simp only [RH]) only [↓RP, RG, FX, RQ, ↓reduceIte, Nat.reduceEqDiff, reduceCtorEq, Nat.reduceBEq, Nat.reduceAdd, Nat.reduceLeDiff, RA] <;> rfl) (.inl (by simp [allFresh, ints_fresh, bools_fresh])) ?_
  simp (disch := first | assumption | omega | rfl | simp only [RH]) only [↓RP, RG, FX, RQ, ↓reduceIte, Nat.reduceEqDiff, reduceCtorEq, Nat.reduceBEq, Nat.reduceAdd, Nat.reduceLeDiff]
  rw [resVal_1 rfl]; simp (disch := first | assumption | omega | rfl | simp only [RH]) only [↓RP, RG, FX, RQ, ↓reduceIte, Nat.reduceEqDiff, reduceCtorEq, Nat.reduceBEq, Nat.reduceAdd, Nat.reduceLeDiff, RS]
  first | done | exact okD (by unfold dEq; simp [c1, c2, c3, c4])

theorem dsameR_c (s t : Int) (b1 : Bool) (th : List Int) (b2 : Bool) (td : List Int) (w h : Int) (b3 : Bool) (l : List Bool) (s' t' : Int) (b1' : Bool) (th' : List Int) (b2' : Bool) (td' : List Int) (w' h' : Int) (b3' : Bool) (l' : List Bool) (hl1 : th.length ≤ 1000000000000) (hl2 : td.length ≤ 1000000000000) (hl3 : l.length ≤ 1000000000000) :
    Contract Tryz.prog 11 [DA s t b1 th b2 td w h b3 l, DA s' t' b1' th' b2' td' w' h' b3' l'] (B (decide (dEq s t th td w h l s' t' th' td' w' h' l'))) := by
  refine Contract.intro (effS [] false) 6 follows Tryz.func11 rfl rfl (by kernel_rfl) (Nat.le_of_ble_eq_true rfl) ?_
  by_cases c1 : s = s'
  rotate_left
  · simp (disch := first | assumption | omega | rfl | simp only [RH]) only [↓RP, RG, FX, RQ, ↓reduceIte, Nat.reduceEqDiff, reduceCtorEq, Nat.reduceBEq, Nat.reduceAdd, Nat.reduceLeDiff, args0_2]
    rw [resVal_1 rfl]; simp (disch := first | assumption | omega | rfl | simp only [RH]) only [↓RP, RG, FX, RQ, ↓reduceIte, Nat.reduceEqDiff, reduceCtorEq, Nat.reduceBEq, Nat.reduceAdd, Nat.reduceLeDiff, RS]
    first | done | exact okF (fun h => c1 h.1)
  by_cases c2 : t = t'
  rotate_left
  · simp (disch := first | assumption | omega | rfl | simp only [RH]) only [↓RP, RG, FX, RQ, ↓reduceIte, Nat.reduceEqDiff, reduceCtorEq, Nat.reduceBEq, Nat.reduceAdd, Nat.reduceLeDiff, args0_2]
    rw [resVal_1 rfl]; simp (disch := first | assumption | omega | rfl | simp only [RH]) only [↓RP, RG, FX, RQ, ↓reduceIte, Nat.reduceEqDiff, reduceCtorEq, Nat.reduceBEq, Nat.reduceAdd, Nat.reduceLeDiff, RS]
    first | done | exact okF (fun h => c2 h.2.1)
  simp (disch := first | assumption | omega | rfl | simp only [RH]) only [↓RP, RG, FX, RQ, ↓reduceIte, Nat.reduceEqDiff, reduceCtorEq, Nat.reduceBEq, Nat.reduceAdd, Nat.reduceLeDiff, args0_2]
  refine callK_F 6 (same02_c b1 b1' th th' (by omega)) (by simp (disch := first | assumption | omega | rfl | simp only [RH]) only [↓RP, RG, FX, RQ, ↓reduceIte, Nat.reduceEqDiff, reduceCtorEq, Nat.reduceBEq, Nat.reduceAdd, Nat.reduceLeDiff, RA] <;> rfl) (.inl (by simp [allFresh, ints_fresh, bools_fresh])) ?_
  by_cases c3 : th = th'
  rotate_left
  · simp (disch := first | assumption | omega | rfl | simp only [RH]) only [↓RP, RG, FX, RQ, ↓reduceIte, Nat.reduceEqDiff, reduceCtorEq, Nat.reduceBEq, Nat.reduceAdd, Nat.reduceLeDiff]
    rw [resVal_1 rfl]; simp (disch := first | assumption | omega | rfl | simp only [RH]) only [↓RP, RG, FX, RQ, ↓reduceIte, Nat.reduceEqDiff, reduceCtorEq, Nat.reduceBEq, Nat.reduceAdd, Nat.reduceLeDiff, RS]
    first | done | exact okF (fun h => c3 h.2.2.1)
  simp (disch := first | assumption | omega | rfl | simp only [RH]) only [↓RP, RG, FX, RQ, ↓reduceIte, Nat.reduceEqDiff, reduceCtorEq, Nat.reduceBEq, Nat.reduceAdd, Nat.reduceLeDiff]
  refine callK_F 6 (same02_c b2 b2' td td' (by omega)) (by simp (disch := first | assumption | omega | rfl | simp only [RH]) only [↓RP, RG, FX, RQ, ↓reduceIte, Nat.reduceEqDiff, reduceCtorEq, Nat.reduceBEq, Nat.reduceAdd, Nat.reduceLeDiff, RA] <;> rfl) (.inl (by simp [allFresh, ints_fresh, bools_fresh])) ?_
  by_cases c4 : td = td'
  rotate_left
  · simp (disch := first | assumption | omega | rfl | simp only [RH]) only [↓RP, RG, FX, RQ, ↓reduceIte, Nat.reduceEqDiff, reduceCtorEq, Nat.reduceBEq, Nat.reduceAdd, Nat.reduceLeDiff]
    rw [resVal_1 rfl]; simp (disch := first | assumption | omega | rfl | simp only [RH]) only [↓RP, RG, FX, RQ, ↓reduceIte, Nat.reduceEqDiff, reduceCtorEq, Nat.reduceBEq, Nat.reduceAdd, Nat.reduceLeDiff, RS]
    first | done | exact okF (fun h => c4 h.2.2.2.1)
  simp (disch := first | assumption | omega | rfl | simp only [RH]) only [↓RP, RG, FX, RQ, ↓reduceIte, Nat.reduceEqDiff, reduceCtorEq, Nat.reduceBEq, Nat.reduceAdd, Nat.reduceLeDiff]
  refine callK_F 6 (sameR_c w h w' h' b3 b3' l l' (by omega)) (by simp (disch := first | assumption | omega | rfl | simp only [RH]) only [↓RP, RG, FX, RQ, ↓reduceIte, Nat.reduceEqDiff, reduceCtorEq, Nat.reduceBEq, Nat.reduceAdd, Nat.reduceLeDiff, RA] <;> rfl) (.inl (by simp [allFresh, ints_fresh, bools_fresh])) ?_
  simp (disch := first | assumption | omega | rfl | simp only [RH]) only [↓RP, RG, FX, RQ, ↓reduceIte, Nat.reduceEqDiff, reduceCtorEq, Nat.reduceBEq, Nat.reduceAdd, Nat.reduceLeDiff]
  rw [resVal_1 rfl]; simp (disch := first | assumption | omega | rfl | simp only [RH]) only [↓RP, RG, FX, RQ, ↓reduceIte, Nat.reduceEqDiff, reduceCtorEq, Nat.reduceBEq, Nat.reduceAdd, Nat.reduceLeDiff, RS]
  first | done | exact okD (by unfold dEq; simp [c1, c2, c3, c4])
end Go.Proofs.YtbhkhaaifielkaaGreatDoor

/- Drafts pruned, by the program. -/
set_option linter.unusedSimpArgs false
set_option linter.unusedVariables false
set_option maxRecDepth 100000
namespace Go.Proofs.YtbhkhaaifielkaaGreatDoor
open Go Go.Proofs Go.AW

end Go.Proofs.YtbhkhaaifielkaaGreatDoor

/- Drafts pruned: they are valid, have the same cloth, and are their own. -/
set_option linter.unusedSimpArgs false
set_option linter.unusedVariables false
set_option maxRecDepth 100000
namespace Go.Proofs.YtbhkhaaifielkaaGreatDoor
open Go Go.Proofs Go.AW

theorem tab_own {W H : Nat} {l : List Bool} (hn : l.length = W * H) : tabN W (fun x y => l.getD (W * y + x) false) (W * H) = l := by
  apply List.ext_getElem
  · rw [tabN_len, hn]
  intro i h1 h2
  rw [tabN_len] at h1
  have hT : 0 < W := by rcases Nat.eq_zero_or_pos W with h | h; · subst h; simp at h1
                        · exact h
  have hi : W * (i / W) + i % W = i := Nat.div_add_mod i W
  simp only [tabN, List.getElem_map, List.getElem_range, hi]
  rw [List.getD_eq_getElem?_getD, List.getElem?_eq_getElem h2]; rfl

section
variable {S T : Nat} {th td : List Int} {l : List Bool}

end
end Go.Proofs.YtbhkhaaifielkaaGreatDoor

/- Tables for the run of closed code. -/
set_option maxRecDepth 100000
set_option linter.unusedSimpArgs false
namespace Go.Proofs.YtbhkhaaifielkaaGreatDoor
open Go Go.Proofs Go.AW
noncomputable def tabE : List (Nat × EffF) := [] ++ [7, 14, 17, 19, 20, 24, 25, 26, 38, 39, 42, 43, 44, 53, 54, 55, 56, 57, 58, 59, 65, 66, 67, 68, 69, 70, 71, 72, 73, 74, 75, 76, 77, 82, 83, 84, 85, 86, 87, 88, 89, 90, 91, 95, 96, 97, 98, 100, 112, 113, 114, 116, 117, 125].map fun f => (f, effS [] false)
theorem tabE_ok : tabE.all (chkE Tryz.prog) = true := by kernel_rfl
noncomputable def tabS : List (Nat × (Array Value → Sem Value)) := [(99, Extern.BytealgCount.count), (124, Extern.BytealgIndexByte.indexByte)]
noncomputable def xT : XT := ⟨lookE tabE, hasN [43, 44, 57, 58, 59, 77], extE Tryz.prog [78] tabS, noOrc⟩
theorem xExt : ∀ f avs v, extE Tryz.prog [78] tabS f avs = some v → ExtOk Tryz.prog f avs v := extE_ok (fun f hf => by
  simp only [List.mem_cons, List.not_mem_nil, or_false] at hf
  rcases hf with rfl
  · exact ⟨_, Tryz.func78, by kernel_rfl, by kernel_rfl, by kernel_rfl, by kernel_rfl⟩
  ) (fun p hp => by
  simp only [tabS, List.mem_cons, List.not_mem_nil, or_false] at hp
  rcases hp with rfl | rfl
  · exact ⟨_, Tryz.func99, by kernel_rfl, by kernel_rfl, by kernel_rfl, by kernel_rfl⟩
  · exact ⟨_, Tryz.func124, by kernel_rfl, by kernel_rfl, by kernel_rfl, by kernel_rfl⟩
  )
theorem xGood : xT.Good Tryz.prog := XT.good follows tabE_ok xExt noOrc_ok
end Go.Proofs.YtbhkhaaifielkaaGreatDoor

/- A product of small numbers, by the run of closed code. -/
set_option linter.unusedSimpArgs false
set_option linter.unusedVariables false
set_option maxRecDepth 100000
namespace Go.Proofs.YtbhkhaaifielkaaGreatDoor
open Go Go.Proofs Go.AW

noncomputable def mulOk (n : Nat) : Bool := match xCall Tryz.prog xT 100 65 [.val (.int .u64 1), .val (.int .u64 n)] with
  | some (.tuple [.val (.int .u64 a), .val (.int .u64 b)]) => a == 0 && b == (n : Int)
  | _ => false
theorem mul_all : (List.range 65).all mulOk = true := by kernel_rfl
theorem mul_c {n : Nat} (hn : n ≤ 64) : Contract Tryz.prog 65 [.val (.int .u64 1), .val (.int .u64 n)] (.tuple [.val (.int .u64 0), .val (.int .u64 n)]) := by
  have h := List.all_eq_true.1 mul_all n (by simp; omega)
  unfold mulOk at h
  split at h
  · rename_i a b hx
    simp only [Bool.and_eq_true, beq_iff_eq] at h
    obtain ⟨rfl, rfl⟩ := h
    exact Contract.run xGood 100 hx
  · cases h
end Go.Proofs.YtbhkhaaifielkaaGreatDoor

/- A number, repeated; the inverse of a numbering. -/
set_option linter.unusedSimpArgs false
set_option linter.unusedVariables false
set_option maxRecDepth 100000
namespace Go.Proofs.YtbhkhaaifielkaaGreatDoor
open Go Go.Proofs Go.AW

/-- k times -1, and 0 behind. -/
def rep (n k : Nat) : List Int := List.replicate k (-1) ++ List.replicate (n - k) 0
theorem rep_len {n k : Nat} (hk : k ≤ n) : (rep n k).length = n := by simp [rep]; omega
theorem rep_more {n k : Nat} (hk : 0 < k) (hn : k < n) : over (rep n k) k ((rep n k).take (Nat.min k (n - k))) = rep n (k + Nat.min k (n - k)) := by
  have hm : Nat.min k (n - k) ≤ k := Nat.min_le_left _ _
  have hm2 : Nat.min k (n - k) ≤ n - k := Nat.min_le_right _ _
  generalize Nat.min k (n - k) = m at *
  have e1 : (rep n k).take m = List.replicate m (-1) := by
    rw [rep, List.take_append_of_le_length (by simp; omega), List.take_replicate, Nat.min_eq_left hm]
  have e2 : (rep n k).take k = List.replicate k (-1) := by rw [rep, List.take_left' (by simp)]
  have e3 : (rep n k).drop (k + m) = List.replicate (n - (k + m)) 0 := by
    rw [rep, List.drop_append, List.drop_eq_nil_of_le (by simp), List.nil_append, List.drop_replicate]
    congr 1
    simp; omega
  rw [over, e1, e2, List.length_replicate, e3, rep, List.replicate_append_replicate]

theorem ki3 : ∃ T, tyI Tryz.prog 3 = some T ∧ T.kind = some .i64 := by
  have h : (tyI Tryz.prog 3).any (fun T => T.kind == some .i64) = true := by kernel_rfl
  revert h
  cases tyI Tryz.prog 3 with
  | none => intro h; cases h
  | some T => intro h; exact ⟨T, rfl, by simpa using h⟩
theorem ki99 : ∃ T, tyI Tryz.prog 104 = some T ∧ T.kind = some .u64 := by
  have h : (tyI Tryz.prog 104).any (fun T => T.kind == some .u64) = true := by kernel_rfl
  revert h
  cases tyI Tryz.prog 104 with
  | none => intro h; cases h
  | some T => intro h; exact ⟨T, rfl, by simpa using h⟩
theorem wrap_u64 {n : Int} (h1 : 0 ≤ n) (h2 : n ≤ 9223372036854775807) : IntKind.u64.wrap n = n := by
  have e1 : IntKind.u64.bits = 64 := rfl
  have e2 : IntKind.u64.signed = false := rfl
  simp only [IntKind.wrap, e1, e2]
  simp
  omega

theorem repeat_s (h0 : List AObj) {n : Nat} (hn0 : 0 < n) (hn : n ≤ 40) : SpecTo Tryz.prog 51 [.lit 1 [I (-1)], I n] h0 (.ref h0.length 0 n n) (h0 ++ [⟨3, 1, ints (List.replicate n (-1))⟩]) := by
  obtain ⟨T3, hT3, hk3⟩ := ki3
  obtain ⟨T9, hT9, hk9⟩ := ki99
  refine SpecTo.intro (effS [] false) follows Tryz.func51 rfl rfl (by kernel_rfl) (Nat.le_of_ble_eq_true rfl) ?_
  simp (disch := first | assumption | omega | rfl | simp only [RH]) only [↓RP, RG, FX, RQ, ↓reduceIte, Nat.reduceEqDiff, reduceCtorEq, Nat.reduceBEq, Nat.reduceAdd, Nat.reduceLeDiff, args0_2, hT3, hT9, hk3, hk9, wrap_u64, wrap_id]
  refine callK_F 6 (mul_c (n := n) (by omega)) (by simp (disch := first | assumption | omega | rfl | simp only [RH]) only [↓RP, RG, FX, RQ, ↓reduceIte, Nat.reduceEqDiff, reduceCtorEq, Nat.reduceBEq, Nat.reduceAdd, Nat.reduceLeDiff, RA] <;> rfl) (.inl (by simp [allFresh, ints_fresh, bools_fresh])) ?_
  simp (disch := first | assumption | omega | rfl | simp only [RH]) only [↓RP, RG, FX, RQ, ↓reduceIte, Nat.reduceEqDiff, reduceCtorEq, Nat.reduceBEq, Nat.reduceAdd, Nat.reduceLeDiff, hT3, hT9, hk3, hk9, wrap_u64, wrap_id]
  simp (disch := first | assumption | omega | rfl | simp only [RH]) only [↓RP, RG, FX, RQ, ↓reduceIte, Nat.reduceEqDiff, reduceCtorEq, Nat.reduceBEq, Nat.reduceAdd, Nat.reduceLeDiff, make_int, Int.toNat_natCast]
  have hc : ∀ h : List AObj, h[h0.length]? = some ⟨3, 1, ints (List.replicate n 0)⟩ → aCopy Tryz.prog 22 h (.ref h0.length 0 n n) (.lit 1 [I (-1)]) = some (I 1, h.set h0.length ⟨3, 1, ints (rep n 1)⟩) := by
    intro h hh
    have e1 : Nat.min 1 n = 1 := by have := Nat.min_eq_left (show 1 ≤ n by omega); exact this
    have := copy_ints_at (P := Tryz.prog) (t := 22) (h := h) (off := 0) (n := n) (ext := n) (m := 1) (x := .lit 1 [I (-1)]) (l := [-1]) hh (by decide) (by simp) rfl (by simp) (by rw [e1]; decide) (by rw [e1]; omega)
    rw [this, e1]
    simp [over, rep, List.drop_replicate]
  simp (disch := simp) only [↓RP, RG, FX, RQ, ↓reduceIte, Nat.reduceEqDiff, reduceCtorEq, Nat.reduceBEq, Nat.reduceAdd, Nat.reduceLeDiff, opK_copy, hc, List.set_append_right, Nat.sub_self, List.set_cons_zero, Nat.le_refl]
  have hq : ∀ (h : List AObj) (k : Nat), h[h0.length]? = some ⟨3, 1, ints (rep n k)⟩ → 0 < k → k < n → aCopy Tryz.prog 22 h (.ref h0.length k (n - k) n) (.ref h0.length 0 k n) = some (I (Nat.min k (n - k) : Nat), h.set h0.length ⟨3, 1, ints (rep n (k + Nat.min k (n - k)))⟩) := by
    intro h k hh h1 h2
    have e1 : Nat.min k (n - k) ≤ n - k := Nat.min_le_right _ _
    have e2 : 0 < Nat.min k (n - k) := by have : Nat.min k (n - k) = min k (n - k) := rfl; omega
    have hl := rep_len (n := n) (k := k) (by omega)
    have := copy_ints_at (P := Tryz.prog) (t := 22) (h := h) (id := h0.length) (off := k) (n := n - k) (ext := n) (m := k) (x := .ref h0.length 0 k n) (l := rep n k) hh (by decide) hl (by simp [sview, cellsAt, hh, hl, ints_length]) (by omega) (by omega) (by omega)
    rw [this, rep_more h1 h2]
  refine loopK_I [7, 8] (fun k : Nat => 0 < k ∧ k ≤ n) (fun k => ⟨[(7, .ref h0.length 0 n n), (8, I k)], h0 ++ [⟨3, 1, ints (rep n k)⟩]⟩) (fun k => n - k) 1 (by omega) (by simp only [↓RP, RG, FX, RQ, ↓reduceIte, Nat.reduceEqDiff, reduceCtorEq, Nat.reduceBEq, Nat.reduceAdd, Nat.reduceLeDiff]; rfl) ?_
  intro k ⟨hk0, hk⟩
  have hl := rep_len (n := n) (k := k) (by omega)
  by_cases hlt : k < n
  · have e1 : Nat.min k (n - k) ≤ n - k := Nat.min_le_right _ _
    have e2 : 0 < Nat.min k (n - k) := by have : Nat.min k (n - k) = min k (n - k) := rfl; omega
    simp (disch := first | omega | simp) only [↓RP, RG, FX, RQ, ↓reduceIte, Nat.reduceEqDiff, reduceCtorEq, Nat.reduceBEq, Nat.reduceAdd, Nat.reduceLeDiff, opK_copy, hq, sl_ref_lo, sl_ref_hi, List.set_append_right, Nat.sub_self, List.set_cons_zero, Nat.le_refl]
    exact ⟨k + Nat.min k (n - k), ⟨by omega, by omega⟩, by simp, by omega⟩
  · obtain rfl : k = n := by omega
    simp (disch := first | assumption | omega | rfl | simp only [RH]) only [↓RP, RG, FX, RQ, ↓reduceIte, Nat.reduceEqDiff, reduceCtorEq, Nat.reduceBEq, Nat.reduceAdd, Nat.reduceLeDiff]
    refine ⟨_, rfl, ?_⟩
    rw [show rep k k = List.replicate k (-1) by simp [rep]]
    exact Wk.of_eq rfl
end Go.Proofs.YtbhkhaaifielkaaGreatDoor

/- The inverse of a numbering. -/
set_option linter.unusedSimpArgs false
set_option linter.unusedVariables false
set_option maxRecDepth 100000
namespace Go.Proofs.YtbhkhaaifielkaaGreatDoor
open Go Go.Proofs Go.AW

/-- Where each number stands among the first k; -1: nowhere. -/
def invL (l : List Int) (n : Nat) : Nat → List Int
  | 0 => List.replicate n (-1)
  | k + 1 => (invL l n k).set (l.getD k 0).toNat (k : Int)
theorem invL_len (l : List Int) (n k : Nat) : (invL l n k).length = n := by
  induction k with
  | zero => simp [invL]
  | succ k ih => simp [invL, ih]
/-- The first k are numbers below n, each of them once. -/
def once (l : List Int) (n k : Nat) : Prop := ∀ i, i < k → 0 ≤ l.getD i 0 ∧ l.getD i 0 < n ∧ ∀ j, j < i → l.getD j 0 ≠ l.getD i 0
theorem invL_at {l : List Int} {n : Nat} : ∀ {k : Nat}, once l n k → ∀ v : Nat, v < n → ((∃ i, i < k ∧ l.getD i 0 = (v : Int) ∧ (invL l n k).getD v 0 = (i : Int)) ∨ ((∀ i, i < k → l.getD i 0 ≠ (v : Int)) ∧ (invL l n k).getD v 0 = -1)) := by
  intro k
  induction k with
  | zero => intro _ v hv; exact .inr ⟨fun i hi => by omega, by simp [invL, List.getD_eq_getElem?_getD, hv]⟩
  | succ k ih =>
    intro ho v hv
    obtain ⟨a1, a2, a3⟩ := ho k (by omega)
    have hlen := invL_len l n k
    have hs : (invL l n (k + 1)).getD v 0 = if (l.getD k 0).toNat = v then (k : Int) else (invL l n k).getD v 0 := by
      simp only [invL, List.getD_eq_getElem?_getD, List.getElem?_set, hlen]
      by_cases h : (l[k]?.getD 0).toNat = v
      · have hv2 : (l[k]?.getD 0).toNat < n := by omega
        simp [h, hv]
      · simp [h]
    by_cases h : (l.getD k 0).toNat = v
    · exact .inl ⟨k, by omega, by omega, by rw [hs, if_pos h]⟩
    · rw [hs, if_neg h]
      rcases ih (fun i hi => ho i (by omega)) v hv with ⟨i, h1, h2, h3⟩ | ⟨h1, h2⟩
      · exact .inl ⟨i, by omega, h2, h3⟩
      · refine .inr ⟨fun i hi e => ?_, h2⟩
        by_cases hik : i = k
        · subst hik; omega
        · exact h1 i (by omega) e

theorem inverse_c (b : Bool) (l : List Int) (n : Nat) (hn0 : 0 < n) (hn : n ≤ 40) (hl : l.length ≤ 100000) :
    (l.length = n ∧ once l n n → Contract Tryz.prog 31 [LA b l, I n] (LR false (invL l n n))) ∧
    (¬ (l.length = n ∧ once l n n) → Contract Tryz.prog 31 [LA b l, I n] (LR true [])) := by
  by_cases hln : l.length = n
  rotate_left
  · refine ⟨fun h => absurd h.1 hln, fun _ => ?_⟩
    refine Contract.intro (effS [] false) 6 follows Tryz.func31 rfl rfl (by kernel_rfl) (Nat.le_of_ble_eq_true rfl) ?_
    simp (disch := first | assumption | omega | rfl | simp only [RH]) only [↓RP, RG, FX, RQ, ↓reduceIte, Nat.reduceEqDiff, reduceCtorEq, Nat.reduceBEq, Nat.reduceAdd, Nat.reduceLeDiff, args0_2]
    rw [resVal_1 rfl]; simp (disch := first | assumption | omega | rfl | simp only [RH]) only [↓RP, RG, FX, RQ, ↓reduceIte, Nat.reduceEqDiff, reduceCtorEq, Nat.reduceBEq, Nat.reduceAdd, Nat.reduceLeDiff, RS]
    first | done | rfl
  · have key : ∀ r : AVal, (once l n n → r = LR false (invL l n n)) → (¬ once l n n → r = LR true []) → Contract Tryz.prog 31 [LA b l, I n] r := by
      intro r hr1 hr2
      refine Contract.intro (effS [] false) 6 follows Tryz.func31 rfl rfl (by kernel_rfl) (Nat.le_of_ble_eq_true rfl) ?_
      simp (disch := first | assumption | omega | rfl | simp only [RH]) only [↓RP, RG, FX, RQ, ↓reduceIte, Nat.reduceEqDiff, reduceCtorEq, Nat.reduceBEq, Nat.reduceAdd, Nat.reduceLeDiff, args0_2]
      refine callK_T rfl (repeat_s _ hn0 hn) ?_
      simp (disch := first | assumption | omega | rfl | simp only [RH]) only [↓RP, RG, FX, RQ, ↓reduceIte, Nat.reduceEqDiff, reduceCtorEq, Nat.reduceBEq, Nat.reduceAdd, Nat.reduceLeDiff]
      refine loopK_I [1, 4, 5, 15, 16, 17] (fun k : Nat => k ≤ l.length ∧ once l n k) (fun k => ⟨[(1, I n), (4, .cap0 true), (5, .ref 0 0 n n), (15, LA b l), (16, I l.length), (17, I k)], [⟨3, 1, ints (invL l n k)⟩]⟩) (fun k => l.length - k) 0 ⟨by omega, fun i hi => by omega⟩ (by simp only [↓RP, RG, FX, RQ, ↓reduceIte, Nat.reduceEqDiff, reduceCtorEq, Nat.reduceBEq, Nat.reduceAdd, Nat.reduceLeDiff]; rfl) ?_
      rintro k ⟨hk, ho⟩
      have hlen := invL_len l n k
      by_cases hlt : k < l.length
      rotate_left
      · obtain rfl : k = l.length := by omega
        simp (disch := first | assumption | omega | rfl | simp only [RH]) only [↓RP, RG, FX, RQ, ↓reduceIte, Nat.reduceEqDiff, reduceCtorEq, Nat.reduceBEq, Nat.reduceAdd, Nat.reduceLeDiff]
        rw [resVal_1 rfl]; simp (disch := first | assumption | omega | rfl | simp only [RH]) only [↓RP, RG, FX, RQ, ↓reduceIte, Nat.reduceEqDiff, reduceCtorEq, Nat.reduceBEq, Nat.reduceAdd, Nat.reduceLeDiff, RS]
        first | done | (rw [hr1 (hln ▸ ho)]; simp [hln])
      have hbad : ¬ once l n (k + 1) → r = LR true [] := fun h => hr2 fun h2 => h fun i hi => h2 i (by omega)
      by_cases c1 : l.getD k 0 < 0
      · simp (disch := first | assumption | omega | rfl | simp only [RH]) only [↓RP, RG, FX, RQ, ↓reduceIte, Nat.reduceEqDiff, reduceCtorEq, Nat.reduceBEq, Nat.reduceAdd, Nat.reduceLeDiff]
        rw [resVal_1 rfl]; simp (disch := first | assumption | omega | rfl | simp only [RH]) only [↓RP, RG, FX, RQ, ↓reduceIte, Nat.reduceEqDiff, reduceCtorEq, Nat.reduceBEq, Nat.reduceAdd, Nat.reduceLeDiff, RS]
        first | done | (rw [hbad fun h => by have := (h k (by omega)).1; omega]; rfl)
      by_cases c2 : (n : Int) ≤ l.getD k 0
      · simp (disch := first | assumption | omega | rfl | simp only [RH]) only [↓RP, RG, FX, RQ, ↓reduceIte, Nat.reduceEqDiff, reduceCtorEq, Nat.reduceBEq, Nat.reduceAdd, Nat.reduceLeDiff]
        rw [resVal_1 rfl]; simp (disch := first | assumption | omega | rfl | simp only [RH]) only [↓RP, RG, FX, RQ, ↓reduceIte, Nat.reduceEqDiff, reduceCtorEq, Nat.reduceBEq, Nat.reduceAdd, Nat.reduceLeDiff, RS]
        first | done | (rw [hbad fun h => by have := (h k (by omega)).2.1; omega]; rfl)
      obtain ⟨v, hv⟩ : ∃ v : Nat, l.getD k 0 = v := ⟨(l.getD k 0).toNat, by omega⟩
      have hvn : v < n := by omega
      have hat := invL_at ho v hvn
      by_cases c3 : 0 ≤ (invL l n k).getD v 0
      · have hno : ¬ once l n (k + 1) := fun h => by
          rcases hat with ⟨i, h1, h2, _⟩ | ⟨_, h2⟩
          · exact (h k (by omega)).2.2 i h1 (by rw [h2, hv])
          · omega
        simp (disch := first | assumption | omega | rfl | simp only [RH]) only [↓RP, RG, FX, RQ, ↓reduceIte, Nat.reduceEqDiff, reduceCtorEq, Nat.reduceBEq, Nat.reduceAdd, Nat.reduceLeDiff, hv, Int.toNat_natCast]
        rw [resVal_1 rfl]; simp (disch := first | assumption | omega | rfl | simp only [RH]) only [↓RP, RG, FX, RQ, ↓reduceIte, Nat.reduceEqDiff, reduceCtorEq, Nat.reduceBEq, Nat.reduceAdd, Nat.reduceLeDiff, RS]
        first | done | (rw [hbad hno]; rfl)
      · simp (disch := first | assumption | omega | rfl | simp only [RH]) only [↓RP, RG, FX, RQ, ↓reduceIte, Nat.reduceEqDiff, reduceCtorEq, Nat.reduceBEq, Nat.reduceAdd, Nat.reduceLeDiff, hv, Int.toNat_natCast]
        refine ⟨k + 1, ⟨by omega, fun i hi => ?_⟩, ?_, by omega⟩
        · by_cases hik : i = k
          · subst hik
            refine ⟨by omega, by omega, fun j hj => ?_⟩
            rcases hat with ⟨i2, h1, h2, h3⟩ | ⟨h1, _⟩
            · omega
            · rw [hv]; exact h1 j hj
          · exact ho i (by omega)
        · simp only [invL, hv, Int.toNat_natCast]
          rfl
    exact ⟨fun h => key _ (fun _ => rfl) (fun h1 => absurd h.2 h1), fun h => key _ (fun h1 => absurd ⟨hln, h1⟩ h) (fun _ => rfl)⟩
end Go.Proofs.YtbhkhaaifielkaaGreatDoor

/- Each number once: two ways to say it. -/
set_option linter.unusedSimpArgs false
set_option linter.unusedVariables false
namespace Go.Proofs.YtbhkhaaifielkaaGreatDoor
open Go Go.Proofs Go.AW

theorem nodup_all {n : Nat} {f : Nat → Nat} (hf : ∀ i, i < n → f i < n) (hi : ∀ i j, i < n → j < n → f i = f j → i = j) {k : Nat} (hk : k < n) : ∃ i, i < n ∧ f i = k := by
  by_cases h : ∃ i, i < n ∧ f i = k
  · exact h
  exfalso
  have h1 : (k :: (List.range n).map f).Nodup := by
    refine List.nodup_cons.2 ⟨fun hm => ?_, ?_⟩
    · obtain ⟨i, hi1, hi2⟩ := List.mem_map.1 hm
      exact h ⟨i, by simpa using hi1, hi2⟩
    · rw [List.nodup_iff_pairwise_ne, List.pairwise_map]
      refine List.Pairwise.imp_of_mem ?_ (List.nodup_iff_pairwise_ne.1 List.nodup_range)
      intro a b ha hb hab e
      exact hab (hi a b (by simpa using ha) (by simpa using hb) e)
  have h2 := nodup_lt n _ h1 (fun x hx => by
    rcases List.mem_cons.1 hx with rfl | hm
    · exact hk
    · obtain ⟨i, hi1, rfl⟩ := List.mem_map.1 hm
      exact hf i (by simpa using hi1))
  simp at h2
  omega

theorem each_once {l : List Int} {n : Nat} : eachL l n ↔ (l.length = n ∧ once l n n) := by
  constructor
  · rintro ⟨hl, he⟩
    refine ⟨hl, ?_⟩
    have hc : ∃ f : Nat → Nat, ∀ k, k < n → f k < n ∧ l.getD (f k) 0 = k := by
      refine ⟨fun k => if h : k < n then Classical.choose (he k h) else 0, fun k hk => ?_⟩
      simp only [dif_pos hk]
      have := Classical.choose_spec (he k hk)
      exact ⟨by omega, this.2⟩
    obtain ⟨f, hf⟩ := hc
    have hs : ∀ i, i < n → ∃ k, k < n ∧ f k = i := fun i hi =>
      nodup_all (fun k hk => (hf k hk).1) (fun a b ha hb e => by
        have h1 := (hf a ha).2
        have h2 := (hf b hb).2
        rw [e] at h1
        omega) hi
    intro i hi
    obtain ⟨k, hk, rfl⟩ := hs i hi
    have h1 := (hf k hk).2
    refine ⟨by omega, by omega, fun j hj e => ?_⟩
    obtain ⟨k2, hk2, rfl⟩ := hs j (by omega)
    have h2 := (hf k2 hk2).2
    have : k2 = k := by omega
    subst this
    omega
  · rintro ⟨hl, ho⟩
    refine ⟨hl, fun k hk => ?_⟩
    obtain ⟨i, hi, e⟩ := nodup_all (n := n) (f := fun i => (l.getD i 0).toNat) (fun i hi => by have := ho i hi; omega) (fun i j hi hj e => by
      have h1 := ho i hi
      have h2 := ho j hj
      rcases Nat.lt_trichotomy i j with h | h | h
      · exact absurd (show l.getD i 0 = l.getD j 0 by omega) (h2.2.2 i h)
      · exact h
      · exact absurd (show l.getD j 0 = l.getD i 0 by omega) (h1.2.2 j h)) hk
    exact ⟨i, by omega, by have := (ho i hi).1; omega⟩
end Go.Proofs.YtbhkhaaifielkaaGreatDoor

/- Drafts renumbered: lists mapped. -/
set_option linter.unusedSimpArgs false
set_option linter.unusedVariables false
set_option maxRecDepth 100000
namespace Go.Proofs.YtbhkhaaifielkaaGreatDoor
open Go Go.Proofs Go.AW

def mapd (l by' : List Int) (k : Nat) : List Int := (List.range k).map fun i => by'.getD (l.getD i 0).toNat 0
theorem mapd_len (l by' : List Int) (k : Nat) : (mapd l by' k).length = k := by simp [mapd]
theorem mapd_succ (l by' : List Int) (k : Nat) : mapd l by' (k + 1) = mapd l by' k ++ [by'.getD (l.getD k 0).toNat 0] := by simp [mapd, List.range_succ]

theorem mapped_c (b1 b2 : Bool) (l by' : List Int) (hl : l.length ≤ 100000) (hb : by'.length ≤ 100000) (hin : ∀ i, i < l.length → 0 ≤ l.getD i 0 ∧ l.getD i 0 < by'.length) :
    Contract Tryz.prog 35 [LA b1 l, LA b2 by'] (LR false (mapd l by' l.length)) := by
  refine Contract.intro (effS [] false) 6 follows Tryz.func35 rfl rfl (by kernel_rfl) (Nat.le_of_ble_eq_true rfl) ?_
  simp (disch := first | assumption | omega | rfl | simp only [RH]) only [↓RP, RG, FX, RQ, ↓reduceIte, Nat.reduceEqDiff, reduceCtorEq, Nat.reduceBEq, Nat.reduceAdd, Nat.reduceLeDiff, args0_2, make_int, Int.toNat_zero]
  refine loopK_I [1, 5, 11, 12, 13] (fun k : Nat => k ≤ l.length) (fun k => ⟨[(1, LA b2 by'), (5, .ref 0 0 k k), (11, LA b1 l), (12, I l.length), (13, I k)], [⟨3, 1, ints (mapd l by' k)⟩]⟩) (fun k => l.length - k) 0 (by omega) (by simp only [↓RP, RG, FX, RQ, ↓reduceIte, Nat.reduceEqDiff, reduceCtorEq, Nat.reduceBEq, Nat.reduceAdd, Nat.reduceLeDiff]; rfl) ?_
  intro k hk
  have hml := mapd_len l by' k
  by_cases hlt : k < l.length
  · have hi := hin k hlt
    simp (disch := first | assumption | omega | rfl | simp only [RH]) only [↓RP, RG, FX, RQ, ↓reduceIte, Nat.reduceEqDiff, reduceCtorEq, Nat.reduceBEq, Nat.reduceAdd, Nat.reduceLeDiff, append_ref1, apRI_ints]
    exact ⟨k + 1, by omega, by rw [mapd_succ]; rfl, by omega⟩
  · obtain rfl : k = l.length := by omega
    simp (disch := first | assumption | omega | rfl | simp only [RH]) only [↓RP, RG, FX, RQ, ↓reduceIte, Nat.reduceEqDiff, reduceCtorEq, Nat.reduceBEq, Nat.reduceAdd, Nat.reduceLeDiff]
    rw [resVal_1 rfl]; simp (disch := first | assumption | omega | rfl | simp only [RH]) only [↓RP, RG, FX, RQ, ↓reduceIte, Nat.reduceEqDiff, reduceCtorEq, Nat.reduceBEq, Nat.reduceAdd, Nat.reduceLeDiff, RS]
    first | done | rw [hml]
end Go.Proofs.YtbhkhaaifielkaaGreatDoor

/- Drafts renumbered, by the program. -/
set_option linter.unusedSimpArgs false
set_option linter.unusedVariables false
set_option maxRecDepth 100000
namespace Go.Proofs.YtbhkhaaifielkaaGreatDoor
open Go Go.Proofs Go.AW

/-- A cell of the table, numbered anew. -/
def uN (t : Int) (l : List Bool) (i1 i2 : List Int) (x y : Nat) : Bool := cell t l (i2.getD x 0) (i1.getD y 0)

theorem invL_in {l : List Int} {n k : Nat} (hl : l.length = n) (ho : once l n n) (hk : k < n) : 0 ≤ (invL l n n).getD k 0 ∧ (invL l n n).getD k 0 < n := by
  rcases invL_at ho k hk with ⟨i, h1, h2, h3⟩ | ⟨h1, _⟩
  · omega
  · obtain ⟨i, hi, e⟩ := (each_once.2 ⟨hl, ho⟩).2 k hk
    exact absurd e (h1 i (by omega))

theorem renF_c {S T : Nat} (b1 : Bool) {th : List Int} (b2 : Bool) {td : List Int} {w h : Int} (b3 : Bool) {l : List Bool} (hd : dOk S T th td w h l.length) {m1 m2 : List Int} (n1 : m1.length = S) (n2 : m2.length = T) (o1 : once m1 S S) (o2 : once m2 T T) {x y : Nat} (hx : x < T) (hy : y < S) :
    Contract Tryz.prog 33 [I x, I y, DS S T b1 th b2 td w h b3 l, .spot false [LA false (invL m2 T T)], .spot false [LA false (invL m1 S S)]] (B (uN T l (invL m1 S S) (invL m2 T T) x y)) := by
  have i1 := invL_in n1 o1 hy
  have i2 := invL_in n2 o2 hx
  have q1 := invL_len m1 S S
  have q2 := invL_len m2 T T
  have hc := dOk_cell hd i1.1 i1.2 i2.1 i2.2
  have hb := cell_bd i1.1 i1.2 i2.1 i2.2
  unfold uN
  generalize invL m1 S S = v1 at *
  generalize invL m2 T T = v2 at *
  refine Contract.intro (effS [] false) 6 follows Tryz.func33 rfl rfl (by kernel_rfl) (Nat.le_of_ble_eq_true rfl) ?_
  simp (disch := first | assumption | omega | rfl | simp only [RH]) only [↓RP, RG, FX, RQ, ↓reduceIte, Nat.reduceEqDiff, reduceCtorEq, Nat.reduceBEq, Nat.reduceAdd, Nat.reduceLeDiff, args0_5, Int.toNat_natCast]
  refine callK_F 6 (lifts_c S T b1 th b2 td w h b3 l (v2.getD x 0) (v1.getD y 0) (by omega) (by omega) (by omega) (by omega)) (by simp (disch := first | assumption | omega | rfl | simp only [RH]) only [↓RP, RG, FX, RQ, ↓reduceIte, Nat.reduceEqDiff, reduceCtorEq, Nat.reduceBEq, Nat.reduceAdd, Nat.reduceLeDiff, RA] <;> rfl) (.inl (by simp [allFresh, ints_fresh, bools_fresh])) ?_
  simp (disch := first | assumption | omega | rfl | simp only [RH]) only [↓RP, RG, FX, RQ, ↓reduceIte, Nat.reduceEqDiff, reduceCtorEq, Nat.reduceBEq, Nat.reduceAdd, Nat.reduceLeDiff]
  rw [resVal_1 rfl]; simp (disch := first | assumption | omega | rfl | simp only [RH]) only [↓RP, RG, FX, RQ, ↓reduceIte, Nat.reduceEqDiff, reduceCtorEq, Nat.reduceBEq, Nat.reduceAdd, Nat.reduceLeDiff, RS]
  first | done | rfl
theorem renP_ok {S T : Nat} (b1 : Bool) {th : List Int} (b2 : Bool) {td : List Int} {w h : Int} (b3 : Bool) {l : List Bool} (hd : dOk S T th td w h l.length) (c1 c2 : Bool) {m1 m2 : List Int} (n1 : m1.length = S) (n2 : m2.length = T) (o1 : once m1 S S) (o2 : once m2 T T) :
    Contract Tryz.prog 9 [DA S T b1 th b2 td w h b3 l, LA c1 m1, LA c2 m2] (.tuple [DR S T false (mapd th m1 th.length) false (mapd td m2 td.length) T S false (tabN T (uN T l (invL m1 S S) (invL m2 T T)) (T * S)), I 0]) := by
  have e1 := hd.1
  have e2 := hd.2.1
  have p1 := hd.2.2.1
  have p2 := hd.2.2.2.1
  have w1 := hd.2.2.2.2.1
  have w2 := hd.2.2.2.2.2.1
  have hS := wIn_pos w1
  have hT := wIn_pos w2
  have z1 := (inverse_c c1 m1 S (by omega) (by omega) (by omega)).1 ⟨n1, o1⟩
  have z2 := (inverse_c c2 m2 T (by omega) (by omega) (by omega)).1 ⟨n2, o2⟩
  have f1 := mapped_c b1 c1 th m1 (by omega) (by omega) (fun i hi => by have := w1.2 i hi; omega)
  have f2 := mapped_c b2 c2 td m2 (by omega) (by omega) (fun i hi => by have := w2.2 i hi; omega)
  have hF : ∀ x y : Nat, x < T → y < S → _ := fun x y hx hy => renF_c b1 b2 b3 hd n1 n2 o1 o2 hx hy
  refine Contract.intro (effS [] false) 6 follows Tryz.func9 rfl rfl (by kernel_rfl) (Nat.le_of_ble_eq_true rfl) ?_
  simp (disch := first | assumption | omega | rfl | simp only [RH]) only [↓RP, RG, FX, RQ, ↓reduceIte, Nat.reduceEqDiff, reduceCtorEq, Nat.reduceBEq, Nat.reduceAdd, Nat.reduceLeDiff, args0_3]
  refine callK_F 6 (dcheckP_c S T b1 th b2 td w h b3 l (by omega) (by omega)) (by simp (disch := first | assumption | omega | rfl | simp only [RH]) only [↓RP, RG, FX, RQ, ↓reduceIte, Nat.reduceEqDiff, reduceCtorEq, Nat.reduceBEq, Nat.reduceAdd, Nat.reduceLeDiff, RA] <;> rfl) (.inl (by simp [allFresh, ints_fresh, bools_fresh])) ?_
  simp (disch := first | assumption | omega | rfl | simp only [RH]) only [↓RP, RG, FX, RQ, ↓reduceIte, Nat.reduceEqDiff, reduceCtorEq, Nat.reduceBEq, Nat.reduceAdd, Nat.reduceLeDiff, dchk_ok hd]
  refine callK_F 6 (z1) (by simp (disch := first | assumption | omega | rfl | simp only [RH]) only [↓RP, RG, FX, RQ, ↓reduceIte, Nat.reduceEqDiff, reduceCtorEq, Nat.reduceBEq, Nat.reduceAdd, Nat.reduceLeDiff, RA] <;> rfl) (.inl (by simp [allFresh, ints_fresh, bools_fresh])) ?_
  simp (disch := first | assumption | omega | rfl | simp only [RH]) only [↓RP, RG, FX, RQ, ↓reduceIte, Nat.reduceEqDiff, reduceCtorEq, Nat.reduceBEq, Nat.reduceAdd, Nat.reduceLeDiff]
  refine callK_F 6 (z2) (by simp (disch := first | assumption | omega | rfl | simp only [RH]) only [↓RP, RG, FX, RQ, ↓reduceIte, Nat.reduceEqDiff, reduceCtorEq, Nat.reduceBEq, Nat.reduceAdd, Nat.reduceLeDiff, RA] <;> rfl) (.inl (by simp [allFresh, ints_fresh, bools_fresh])) ?_
  have q1 := invL_len m1 S S
  have q2 := invL_len m2 T T
  generalize invL m1 S S = v1 at *
  generalize invL m2 T T = v2 at *
  simp (disch := first | assumption | omega | rfl | simp only [RH]) only [↓RP, RG, FX, RQ, ↓reduceIte, Nat.reduceEqDiff, reduceCtorEq, Nat.reduceBEq, Nat.reduceAdd, Nat.reduceLeDiff]
  refine callK_T rfl (dtable_s _ 33 _ [DS S T b1 th b2 td w h b3 l, .spot false [LA false v2], .spot false [LA false v1]] T S (uN T l v1 v2) (by omega) (by omega) (fun r => ?_) hF) ?_
  · simp (disch := omega) only [↓RP, RG, FX, RQ, ↓reduceIte, Nat.reduceEqDiff, reduceCtorEq, Nat.reduceBEq, Nat.reduceAdd, Nat.reduceLeDiff, RA]
  simp (disch := first | assumption | omega | rfl | simp only [RH]) only [↓RP, RG, FX, RQ, ↓reduceIte, Nat.reduceEqDiff, reduceCtorEq, Nat.reduceBEq, Nat.reduceAdd, Nat.reduceLeDiff]
  have hp := tabN_pos (show 0 < T by omega) (show 0 < S by omega) (uN T l v1 v2)
  have hM1 := mapd_len th m1 th.length
  have hM2 := mapd_len td m2 td.length
  generalize mapd th m1 th.length = a1 at *
  generalize mapd td m2 td.length = a2 at *
  refine callK_F 6 (f1) (by simp (disch := first | assumption | omega | rfl | simp only [RH]) only [↓RP, RG, FX, RQ, ↓reduceIte, Nat.reduceEqDiff, reduceCtorEq, Nat.reduceBEq, Nat.reduceAdd, Nat.reduceLeDiff, RA] <;> rfl) (.inl (by simp [allFresh, ints_fresh, bools_fresh])) ?_
  simp (disch := first | assumption | omega | rfl | simp only [RH]) only [↓RP, RG, FX, RQ, ↓reduceIte, Nat.reduceEqDiff, reduceCtorEq, Nat.reduceBEq, Nat.reduceAdd, Nat.reduceLeDiff]
  refine callK_F 6 (f2) (by simp (disch := first | assumption | omega | rfl | simp only [RH]) only [↓RP, RG, FX, RQ, ↓reduceIte, Nat.reduceEqDiff, reduceCtorEq, Nat.reduceBEq, Nat.reduceAdd, Nat.reduceLeDiff, RA] <;> rfl) (.inl (by simp [allFresh, ints_fresh, bools_fresh])) ?_
  simp (disch := first | assumption | omega | rfl | simp only [RH]) only [↓RP, RG, FX, RQ, ↓reduceIte, Nat.reduceEqDiff, reduceCtorEq, Nat.reduceBEq, Nat.reduceAdd, Nat.reduceLeDiff]
  rw [resVal_2 rfl]; simp (disch := first | assumption | omega | rfl | simp only [RH]) only [↓RP, RG, FX, RQ, ↓reduceIte, Nat.reduceEqDiff, reduceCtorEq, Nat.reduceBEq, Nat.reduceAdd, Nat.reduceLeDiff, RS]
  have he : (bools (tabN T (uN T l v1 v2) (T * S))).isEmpty = false := by
    rw [List.isEmpty_eq_false_iff]
    intro e
    rw [e] at hp
    simp at hp
  rw [he]
  rfl

end Go.Proofs.YtbhkhaaifielkaaGreatDoor

/- Drafts renumbered there and back. -/
set_option linter.unusedSimpArgs false
set_option linter.unusedVariables false
set_option maxRecDepth 100000
namespace Go.Proofs.YtbhkhaaifielkaaGreatDoor
open Go Go.Proofs Go.AW

theorem inv_of {l : List Int} {n : Nat} (hl : l.length = n) (ho : once l n n) {v : Nat} (hv : v < n) : ∃ i, i < n ∧ l.getD i 0 = (v : Int) ∧ (invL l n n).getD v 0 = (i : Int) := by
  rcases invL_at ho v hv with h | ⟨h1, _⟩
  · exact h
  · obtain ⟨i, hi, e⟩ := (each_once.2 ⟨hl, ho⟩).2 v hv
    exact absurd e (h1 i (by omega))
theorem mapd_get {l m : List Int} {k i : Nat} (h : i < k) : (mapd l m k).getD i 0 = m.getD (l.getD i 0).toNat 0 := by
  simp [mapd, List.getD_eq_getElem?_getD, List.getElem?_range h]
section
variable {S T : Nat} {th td s t : List Int} {l : List Bool}
/-- The tie-up, numbered anew. -/
def rnT (S T : Nat) (s t : List Int) (l : List Bool) : List Bool := tabN T (uN T l (invL s S S) (invL t T T)) (T * S)
end

end Go.Proofs.YtbhkhaaifielkaaGreatDoor

/- Matches of threadings that use all their numbers. Plain. -/
set_option linter.unusedSimpArgs false
set_option linter.unusedVariables false
namespace Go.Proofs.YtbhkhaaifielkaaGreatDoor
open Go Go.Proofs Go.AW

/-- As many different numbers below m as there can be: each comes. -/
theorem nodup_every {m : Nat} {l : List Nat} (hn : l.Nodup) (h : ∀ x ∈ l, x < m) (hl : l.length = m) : ∀ v, v < m → v ∈ l := by
  intro v hv
  refine Classical.byContradiction fun hno => ?_
  have := nodup_lt m (v :: l) (List.nodup_cons.2 ⟨hno, hn⟩) (fun x hx => by
    rcases List.mem_cons.1 hx with rfl | hx
    · exact hv
    · exact h x hx)
  simp at this
  omega
/-- Where all are used, each comes. -/
theorem use_all {l : List Int} {S : Nat} (hw : wIn l S) (hu : nK l = S) : ∀ v : Nat, v < S → ∃ j, j < l.length ∧ l.getD j 0 = (v : Int) := by
  have hnd : ((knd (rI l) l.length).2.map fun f => (rI l f).toNat).Nodup := by
    rw [List.nodup_iff_pairwise_ne, List.pairwise_iff_getElem]
    intro i j hi hj hij he
    simp only [List.length_map] at hi hj
    simp only [List.getElem_map] at he
    have hd := knd_diff (rI l) l.length i j hij hj
    simp only [List.getD_eq_getElem?_getD, List.getElem?_eq_getElem hi, List.getElem?_eq_getElem hj, Option.getD_some] at hd
    have f1 := hw.2 _ (knd_first (rI l) l.length _ (List.getElem_mem hi))
    have f2 := hw.2 _ (knd_first (rI l) l.length _ (List.getElem_mem hj))
    apply hd
    show l.getD _ 0 = l.getD _ 0
    have he' : (l.getD (knd (rI l) l.length).2[i] 0).toNat = (l.getD (knd (rI l) l.length).2[j] 0).toNat := he
    omega
  have hlt : ∀ x ∈ (knd (rI l) l.length).2.map fun f => (rI l f).toNat, x < S := by
    intro x hx
    obtain ⟨f, hf, rfl⟩ := List.mem_map.1 hx
    have := hw.2 f (knd_first (rI l) l.length f hf)
    show (l.getD f 0).toNat < S
    omega
  intro v hv
  have := nodup_every hnd hlt (by rw [List.length_map]; exact hu) v hv
  obtain ⟨f, hf, he⟩ := List.mem_map.1 this
  have f1 := hw.2 f (knd_first (rI l) l.length f hf)
  have he' : (l.getD f 0).toNat = v := he
  exact ⟨f, knd_first (rI l) l.length f hf, by omega⟩
theorem use_max {l : List Int} {S : Nat} (hw : wIn l S) (hu : nK l = S) : mxl l (l.length - 1) + 1 = (S : Int) := by
  have h0 := hw.1
  obtain ⟨j, h1, h2⟩ := mxl_mem l (l.length - 1)
  have h3 := hw.2 j (by omega)
  have hS : 0 < S := by omega
  obtain ⟨i, h4, h5⟩ := use_all hw hu (S - 1) (by omega)
  have h6 := le_mxl l (l.length - 1) i (by omega)
  omega
/-- What the match of two threadings that use all gives. -/
theorem mt_at {a b : List Int} {S : Nat} (hw : wIn a S) (hu : nK a = S) (hp : pairs a b a.length) {v : Nat} (hv : v < S) : ∃ j, j < a.length ∧ a.getD j 0 = (v : Int) ∧ (mtO a b S a.length).getD v 0 = b.getD j 0 := by
  obtain ⟨j, h1, h2⟩ := use_all hw hu v hv
  refine ⟨j, h1, h2, ?_⟩
  have := mtO_at a.length hp (fun j hj => hw.2 j hj) j h1
  rw [h2, Int.toNat_natCast] at this
  exact this
theorem mt_once {a b : List Int} {S : Nat} (hw : wIn a S) (hu : nK a = S) (hwb : wIn b S) (hl : a.length = b.length) (hp : pairs a b a.length) : once (mtO a b S a.length) S S := by
  intro i hi
  obtain ⟨j, h1, h2, h3⟩ := mt_at hw hu hp hi
  have hb := hwb.2 j (by omega)
  refine ⟨by omega, by omega, fun k hk he => ?_⟩
  obtain ⟨j2, g1, g2, g3⟩ := mt_at hw hu hp (show k < S by omega)
  have : a.getD j2 0 = a.getD j 0 := (hp j2 j g1 h1).2 (by omega)
  omega
/-- The match leads from the one to the other. -/
theorem mt_map {a b : List Int} {S : Nat} (hw : wIn a S) (hl : a.length = b.length) (hp : pairs a b a.length) : mapd a (mtO a b S a.length) a.length = b := by
  apply List.ext_getElem (by rw [mapd_len]; exact hl)
  intro i h1 h2
  rw [mapd_len] at h1
  have h3 := mapd_get (l := a) (m := mtO a b S a.length) h1
  rw [mtO_at a.length hp (fun j hj => hw.2 j hj) i h1] at h3
  simpa only [List.getD_eq_getElem?_getD, List.getElem?_eq_getElem (show i < (mapd a (mtO a b S a.length) a.length).length by rw [mapd_len]; exact h1), List.getElem?_eq_getElem h2, Option.getD_some] using h3
end Go.Proofs.YtbhkhaaifielkaaGreatDoor

/- Used and Match of lists, by both: the walks. -/
set_option linter.unusedSimpArgs false
set_option linter.unusedVariables false
set_option maxRecDepth 100000
namespace Go.Proofs.YtbhkhaaifielkaaGreatDoor
open Go Go.Proofs Go.AW

theorem usedT_c (b : Bool) {l : List Int} (hv : thV l) (h0 : 0 < l.length) : Contract Tryz.prog 46 [LA b l] (.tuple [I (nK l), I 0]) := by
  have hul : (uniq l).length ≤ l.length := by have := uniq_len l; rw [ms_len] at this; omega
  have hsl := ms_len l
  have h1 := hv.1
  rw [nK_uniq]
  refine Contract.intro (effS [61, 63] false) 6 follows Tryz.func46 rfl rfl (by kernel_rfl) (Nat.le_of_ble_eq_true rfl) ?_
  simp (disch := first | assumption | omega | rfl | simp only [RH]) only [↓RP, RG, FX, RQ, ↓reduceIte, Nat.reduceEqDiff, reduceCtorEq, Nat.reduceBEq, Nat.reduceAdd, Nat.reduceLeDiff, args0_1]
  refine callK_F 6 (chk1_c b hv) (by simp (disch := first | assumption | omega | rfl | simp only [RH]) only [↓RP, RG, FX, RQ, ↓reduceIte, Nat.reduceEqDiff, reduceCtorEq, Nat.reduceBEq, Nat.reduceAdd, Nat.reduceLeDiff, RA] <;> rfl) (.inl rfl) ?_
  simp (disch := first | assumption | omega | rfl | simp only [RH]) only [↓RP, RG, FX, RQ, ↓reduceIte, Nat.reduceEqDiff, reduceCtorEq, Nat.reduceBEq, Nat.reduceAdd, Nat.reduceLeDiff]
  refine callK_F 6 (values_c b l) (by simp (disch := first | assumption | omega | rfl | simp only [RH]) only [↓RP, RG, FX, RQ, ↓reduceIte, Nat.reduceEqDiff, reduceCtorEq, Nat.reduceBEq, Nat.reduceAdd, Nat.reduceLeDiff, RA] <;> rfl) (.inr (by simp [noRef, ints_noRef])) ?_
  simp (disch := first | assumption | omega | rfl | simp only [RH]) only [↓RP, RG, FX, RQ, ↓reduceIte, Nat.reduceEqDiff, reduceCtorEq, Nat.reduceBEq, Nat.reduceAdd, Nat.reduceLeDiff]
  refine callK_T rfl (sorted_s _ rfl h0 (valuesF_y true b l (by omega)) (by omega)) ?_
  simp (disch := first | assumption | omega | rfl | simp only [RH]) only [↓RP, RG, FX, RQ, ↓reduceIte, Nat.reduceEqDiff, reduceCtorEq, Nat.reduceBEq, Nat.reduceAdd, Nat.reduceLeDiff]
  refine callK_T rfl (compact_spec (ρ := Tryz.lays2_20_ren) Tryz.lays2_20 (by kernel_rfl) (id := 0) (by rfl) (by decide) (hsl.trans rfl) (by omega)) ?_
  have hu : Lib.compact (srt l) = uniq l := rfl
  rw [hu]
  have hzl : (uniq l ++ List.replicate (l.length - (uniq l).length) (0 : Int)).length = l.length := by rw [List.length_append, List.length_replicate]; omega
  generalize uniq l ++ List.replicate (l.length - (uniq l).length) (0 : Int) = z at *
  generalize (uniq l).length = u at *
  simp (disch := first | assumption | omega | rfl | simp only [RH]) only [↓RP, RG, FX, RQ, ↓reduceIte, Nat.reduceEqDiff, reduceCtorEq, Nat.reduceBEq, Nat.reduceAdd, Nat.reduceLeDiff, sview_ref]
  rw [resVal_2 rfl]; simp (disch := first | assumption | omega | rfl | simp only [RH]) only [↓RP, RG, FX, RQ, ↓reduceIte, Nat.reduceEqDiff, reduceCtorEq, Nat.reduceBEq, Nat.reduceAdd, Nat.reduceLeDiff, RS]
  first | done | rfl
/-- The numbers that the first k take. -/
def tkM (b : List Int) (k : Nat) : List Bool := (List.range 400).map fun y => decide (∃ j, j < k ∧ b.getD j 0 = ((y : Nat) : Int))
theorem tkM_len (b : List Int) (k : Nat) : (tkM b k).length = 400 := by simp [tkM]
theorem tkM_get (b : List Int) (k : Nat) {y : Nat} (hy : y < 400) : (tkM b k).getD y false = decide (∃ j, j < k ∧ b.getD j 0 = ((y : Nat) : Int)) := by
  simp [tkM, List.getD_eq_getElem?_getD, List.getElem?_range hy]
theorem tkM_zero (b : List Int) : tkM b 0 = List.replicate 400 false := by
  rw [List.eq_replicate_iff]
  refine ⟨tkM_len b 0, fun x hx => ?_⟩
  obtain ⟨y, _, rfl⟩ := List.mem_map.1 hx
  simp
theorem tkM_set {b : List Int} {k : Nat} (h0 : 0 ≤ b.getD k 0) (h1 : b.getD k 0 < 400) : (tkM b k).set (b.getD k 0).toNat true = tkM b (k + 1) := by
  refine List.ext_getElem (by simp [tkM]) fun y h2 h3 => ?_
  have hy : y < 400 := by rw [tkM_len] at h3; exact h3
  rw [List.getElem_set]
  simp only [tkM, List.getElem_map, List.getElem_range]
  split
  · rename_i he
    symm
    rw [decide_eq_true_iff]
    exact ⟨k, by omega, by omega⟩
  · rename_i he
    rw [Bool.eq_iff_iff, decide_eq_true_iff, decide_eq_true_iff]
    constructor
    · rintro ⟨j, hj, e⟩; exact ⟨j, by omega, e⟩
    · rintro ⟨j, hj, e⟩
      refine ⟨j, ?_, e⟩
      rcases Nat.lt_or_ge j k with h | h
      · exact h
      · obtain rfl : j = k := by omega
        omega
theorem tkM_same {b : List Int} {k j : Nat} (hj : j < k) (he : b.getD j 0 = b.getD k 0) : tkM b (k + 1) = tkM b k := by
  refine List.map_congr_left fun y _ => ?_
  rw [Bool.eq_iff_iff, decide_eq_true_iff, decide_eq_true_iff]
  constructor
  · rintro ⟨i, hi, e⟩
    rcases Nat.lt_or_ge i k with h | h
    · exact ⟨i, h, e⟩
    · obtain rfl : i = k := by omega
      exact ⟨j, hj, by rw [he]; exact e⟩
  · rintro ⟨i, hi, e⟩; exact ⟨i, by omega, e⟩
/-- Zeros, the first x of them filled. -/
def fillM (N x : Nat) : List Int := (List.range N).map fun i => if i < x then -1 else 0
theorem fillM_len (N x : Nat) : (fillM N x).length = N := by simp [fillM]
theorem fillM_zero (N : Nat) : fillM N 0 = List.replicate N 0 := by
  rw [List.eq_replicate_iff]
  refine ⟨fillM_len N 0, fun y hy => ?_⟩
  obtain ⟨i, _, rfl⟩ := List.mem_map.1 hy
  simp
theorem fillM_end (N : Nat) : fillM N N = List.replicate N (-1) := by
  rw [List.eq_replicate_iff]
  refine ⟨fillM_len N N, fun y hy => ?_⟩
  obtain ⟨i, hi, rfl⟩ := List.mem_map.1 hy
  have : i < N := by simpa using hi
  simp [this]
theorem fillM_set {N x : Nat} (hx : x < N) : (fillM N x).set x (-1) = fillM N (x + 1) := by
  refine List.ext_getElem (by simp [fillM]) fun i h1 h2 => ?_
  rw [List.getElem_set]
  simp only [fillM, List.getElem_map, List.getElem_range]
  split
  · rename_i he; subst he; simp
  · rename_i he
    by_cases h : i < x
    · rw [if_pos h, if_pos (by omega)]
    · rw [if_neg h, if_neg (by omega)]
section
variable {a b : List Int} (b1 b2 : Bool) (ha : thV a) (hb : thV b)
include ha hb
theorem matchP_c (hl : a.length = b.length) (h0 : 0 < a.length) {N : Nat} (hN : (N : Int) = mxl a (a.length - 1) + 1) (e : Int) (out : List Int) (nb : Bool) (hp : pairs a b a.length → e = 0 ∧ out = mtO a b N a.length ∧ nb = false) (hn : ¬ pairs a b a.length → e = 6 ∧ out = [] ∧ nb = true) :
    Contract Tryz.prog 29 [LA b1 a, LA b2 b] (.tuple [LR nb out, I e]) := by
  have hmx := max_c b1 a h0 (by have := ha.1; omega)
  have hle := le_mxl a (a.length - 1)
  obtain ⟨jm, hjm, hme⟩ := mxl_mem a (a.length - 1)
  have hmb := ha.2 jm (by omega)
  have haN : ∀ j, j < a.length → 0 ≤ a.getD j 0 ∧ a.getD j 0 < (N : Int) := fun j hj => by
    have := hle j (by omega)
    have := (ha.2 j hj).1
    omega
  have hN1 : mxl a (a.length - 1) = (N : Int) - 1 := by omega
  rw [hN1] at hmx
  have hNn : N ≤ 400 := by omega
  have a400 := ha.1
  refine Contract.intro (effS [] false) 6 follows Tryz.func29 rfl rfl (by kernel_rfl) (Nat.le_of_ble_eq_true rfl) ?_
  simp (disch := first | assumption | omega | rfl | simp only [RH]) only [↓RP, RG, FX, RQ, ↓reduceIte, Nat.reduceEqDiff, reduceCtorEq, Nat.reduceBEq, Nat.reduceAdd, Nat.reduceLeDiff, args0_2]
  refine callK_F 6 (chk2_c b1 b2 ha hb) (by simp (disch := first | assumption | omega | rfl | simp only [RH]) only [↓RP, RG, FX, RQ, ↓reduceIte, Nat.reduceEqDiff, reduceCtorEq, Nat.reduceBEq, Nat.reduceAdd, Nat.reduceLeDiff, RA] <;> rfl) (.inl rfl) ?_
  simp (disch := first | assumption | omega | rfl | simp only [RH]) only [↓RP, RG, FX, RQ, ↓reduceIte, Nat.reduceEqDiff, reduceCtorEq, Nat.reduceBEq, Nat.reduceAdd, Nat.reduceLeDiff]
  refine callK_F 6 (hmx) (by simp (disch := first | assumption | omega | rfl | simp only [RH]) only [↓RP, RG, FX, RQ, ↓reduceIte, Nat.reduceEqDiff, reduceCtorEq, Nat.reduceBEq, Nat.reduceAdd, Nat.reduceLeDiff, RA] <;> rfl) (.inl (by simp [allFresh, ints_fresh, bools_fresh])) ?_
  have e1 : (N : Int) - 1 + 1 = N := by omega
  have hrl : (List.replicate N (0 : Int)).length = N := by simp
  have hrl2 : (List.replicate N (-1 : Int)).length = N := by simp
  simp (disch := first | assumption | omega | rfl | simp only [RH]) only [↓RP, RG, FX, RQ, ↓reduceIte, Nat.reduceEqDiff, reduceCtorEq, Nat.reduceBEq, Nat.reduceAdd, Nat.reduceLeDiff, e1, make_int, Int.toNat_natCast]
  refine loopK_I [0, 1, 4, 5, 7, 32, 33] (fun x : Nat => x ≤ N) (fun x : Nat => ⟨[(0, LA b1 a), (1, LA b2 b), (4, .cap0 true), (5, I 0), (7, .ref 0 0 N N), (32, I N), (33, I x)], [⟨3, 1, ints (fillM N x)⟩]⟩) (fun x => N - x) 0 (by omega) (by simp only [↓RP, RG, FX, RQ, ↓reduceIte, Nat.reduceEqDiff, reduceCtorEq, Nat.reduceBEq, Nat.reduceAdd, Nat.reduceLeDiff, fillM_zero]; rfl) ?_
  intro x hx
  by_cases hx2 : x < N
  · have hfl := fillM_len N x
    simp (disch := first | assumption | omega | rfl | simp only [RH]) only [↓RP, RG, FX, RQ, ↓reduceIte, Nat.reduceEqDiff, reduceCtorEq, Nat.reduceBEq, Nat.reduceAdd, Nat.reduceLeDiff, idx_own, Int.toNat_natCast, sX_int, fillM_set]
    exact ⟨x + 1, by omega, rfl, by omega⟩
  obtain rfl : x = N := by omega
  rw [fillM_end]
  simp (disch := first | assumption | omega | rfl | simp only [RH]) only [↓RP, RG, FX, RQ, ↓reduceIte, Nat.reduceEqDiff, reduceCtorEq, Nat.reduceBEq, Nat.reduceAdd, Nat.reduceLeDiff]
  refine loopK_I [0, 1, 4, 5, 7, 9, 40, 41, 42] (fun k : Nat => k ≤ a.length ∧ pairs a b k) (fun k : Nat => ⟨[(0, LA b1 a), (1, LA b2 b), (4, .cap0 true), (5, I 0), (7, .ref 0 0 x x), (9, .ptr 1 0 400), (40, LA b1 a), (41, I a.length), (42, I k)], [⟨3, 1, ints (mtO a b x k)⟩, ⟨85, 400, bools (tkM b k)⟩]⟩) (fun k => a.length - k) 0 ⟨by omega, fun i j hi => by omega⟩ (by simp only [↓RP, RG, FX, RQ, ↓reduceIte, Nat.reduceEqDiff, reduceCtorEq, Nat.reduceBEq, Nat.reduceAdd, Nat.reduceLeDiff, tkM_zero]; rfl) ?_
  rintro k ⟨hk, hpk⟩
  by_cases hlt : k < a.length
  · have hak := haN k hlt
    have hbk := hb.2 k (by omega)
    have hml := mtO_len a b x k
    have htl := tkM_len b k
    by_cases hex : ∃ j, j < k ∧ a.getD j 0 = a.getD k 0
    · obtain ⟨j, hj, hje⟩ := hex
      have hat := mtO_at k hpk (fun j hj => haN j (by omega)) j hj
      rw [hje] at hat
      by_cases hbe : b.getD j 0 = b.getD k 0
      · rw [hbe] at hat
        simp (disch := first | assumption | omega | rfl | simp only [RH]) only [↓RP, RG, FX, RQ, ↓reduceIte, Nat.reduceEqDiff, reduceCtorEq, Nat.reduceBEq, Nat.reduceAdd, Nat.reduceLeDiff, idx_own, Int.toNat_natCast, hat, beq_self_eq_true]
        refine ⟨k + 1, ⟨by omega, pairs_succ hpk fun i hi => ?_⟩, by rw [mtO_same hpk (fun j hj => haN j (by omega)) hj hje hbe, tkM_same hj hbe]; rfl, by omega⟩
        rw [← hje, ← hbe]
        exact hpk j i hj hi
      · have hbj := hb.2 j (by omega)
        obtain ⟨rfl, rfl, rfl⟩ := hn fun hpp => hbe ((hpp j k (by omega) hlt).1 hje)
        simp (disch := first | assumption | omega | rfl | simp only [RH]) only [↓RP, RG, FX, RQ, ↓reduceIte, Nat.reduceEqDiff, reduceCtorEq, Nat.reduceBEq, Nat.reduceAdd, Nat.reduceLeDiff, idx_own, Int.toNat_natCast, hat]
        rw [resVal_2 rfl]; simp (disch := first | assumption | omega | rfl | simp only [RH]) only [↓RP, RG, FX, RQ, ↓reduceIte, Nat.reduceEqDiff, reduceCtorEq, Nat.reduceBEq, Nat.reduceAdd, Nat.reduceLeDiff, RS]
        first | done | rfl
    · have hat := mtO_none (b := b) (x := (a.getD k 0).toNat) (by omega) k (fun j hj => haN j (by omega)) (fun j hj he => hex ⟨j, hj, by omega⟩)
      have htg := tkM_get b k (y := (b.getD k 0).toNat) (by omega)
      by_cases htk : ∃ j, j < k ∧ b.getD j 0 = (((b.getD k 0).toNat : Nat) : Int)
      · obtain ⟨j, hj, hje⟩ := htk
        rw [decide_eq_true ⟨j, hj, hje⟩] at htg
        obtain ⟨rfl, rfl, rfl⟩ := hn fun hpp => hex ⟨j, hj, (hpp j k (by omega) hlt).2 (by omega)⟩
        simp (disch := first | assumption | omega | rfl | simp only [RH]) only [↓RP, RG, FX, RQ, ↓reduceIte, Nat.reduceEqDiff, reduceCtorEq, Nat.reduceBEq, Nat.reduceAdd, Nat.reduceLeDiff, idx_own, idxA_ptr, Int.toNat_natCast, hat, htg]
        rw [resVal_2 rfl]; simp (disch := first | assumption | omega | rfl | simp only [RH]) only [↓RP, RG, FX, RQ, ↓reduceIte, Nat.reduceEqDiff, reduceCtorEq, Nat.reduceBEq, Nat.reduceAdd, Nat.reduceLeDiff, RS]
        first | done | rfl
      · rw [decide_eq_false htk] at htg
        simp (disch := first | assumption | omega | rfl | simp only [RH]) only [↓RP, RG, FX, RQ, ↓reduceIte, Nat.reduceEqDiff, reduceCtorEq, Nat.reduceBEq, Nat.reduceAdd, Nat.reduceLeDiff, idx_own, idxA_ptr, Int.toNat_natCast, hat, htg, sX_int, sX_bool]
        refine ⟨k + 1, ⟨by omega, pairs_succ hpk fun i hi => ⟨fun h => absurd ⟨i, hi, h.symm⟩ hex, fun h => absurd ⟨i, hi, by omega⟩ htk⟩⟩, by rw [tkM_set hbk.1 hbk.2]; rfl, by omega⟩
  · obtain rfl : k = a.length := by omega
    obtain ⟨rfl, rfl, rfl⟩ := hp hpk
    have hml := mtO_len a b x a.length
    simp (disch := first | assumption | omega | rfl | simp only [RH]) only [↓RP, RG, FX, RQ, ↓reduceIte, Nat.reduceEqDiff, reduceCtorEq, Nat.reduceBEq, Nat.reduceAdd, Nat.reduceLeDiff]
    rw [resVal_2 rfl]; simp (disch := first | assumption | omega | rfl | simp only [RH]) only [↓RP, RG, FX, RQ, ↓reduceIte, Nat.reduceEqDiff, reduceCtorEq, Nat.reduceBEq, Nat.reduceAdd, Nat.reduceLeDiff, RS]
    first | done | rfl
end
end Go.Proofs.YtbhkhaaifielkaaGreatDoor

/- Match of lists by the reference; drafts that use all, by both. -/
set_option linter.unusedSimpArgs false
set_option linter.unusedVariables false
set_option maxRecDepth 100000
namespace Go.Proofs.YtbhkhaaifielkaaGreatDoor
open Go Go.Proofs Go.AW

section
variable {a b : List Int} (b1 b2 : Bool) (ha : thV a) (hb : thV b)
include ha hb
end
theorem usesP_c (s t : Int) (b1 : Bool) {th : List Int} (b2 : Bool) {td : List Int} (w h : Int) (b3 : Bool) (l : List Bool) (h1 : thV th) (h2 : thV td) (p1 : 0 < th.length) (p2 : 0 < td.length) :
    Contract Tryz.prog 28 [DA s t b1 th b2 td w h b3 l] (B (decide ((nK th : Int) = s ∧ (nK td : Int) = t))) := by
  have k1 := usedT_c b1 h1 p1
  have k2 := usedT_c b2 h2 p2
  generalize nK th = n1 at *
  generalize nK td = n2 at *
  by_cases c1 : (n1 : Int) = s
  · refine Contract.intro (effS [] false) 6 follows Tryz.func28 rfl rfl (by kernel_rfl) (Nat.le_of_ble_eq_true rfl) ?_
    simp (disch := first | assumption | omega | rfl | simp only [RH]) only [↓RP, RG, FX, RQ, ↓reduceIte, Nat.reduceEqDiff, reduceCtorEq, Nat.reduceBEq, Nat.reduceAdd, Nat.reduceLeDiff, args0_1]
    refine callK_F 6 (k1) (by simp (disch := first | assumption | omega | rfl | simp only [RH]) only [↓RP, RG, FX, RQ, ↓reduceIte, Nat.reduceEqDiff, reduceCtorEq, Nat.reduceBEq, Nat.reduceAdd, Nat.reduceLeDiff, RA] <;> rfl) (.inl (by simp [allFresh, ints_fresh, bools_fresh])) ?_
    simp (disch := first | assumption | omega | rfl | simp only [RH]) only [↓RP, RG, FX, RQ, ↓reduceIte, Nat.reduceEqDiff, reduceCtorEq, Nat.reduceBEq, Nat.reduceAdd, Nat.reduceLeDiff]
    refine callK_F 6 (k2) (by simp (disch := first | assumption | omega | rfl | simp only [RH]) only [↓RP, RG, FX, RQ, ↓reduceIte, Nat.reduceEqDiff, reduceCtorEq, Nat.reduceBEq, Nat.reduceAdd, Nat.reduceLeDiff, RA] <;> rfl) (.inl (by simp [allFresh, ints_fresh, bools_fresh])) ?_
    simp (disch := first | assumption | omega | rfl | simp only [RH]) only [↓RP, RG, FX, RQ, ↓reduceIte, Nat.reduceEqDiff, reduceCtorEq, Nat.reduceBEq, Nat.reduceAdd, Nat.reduceLeDiff, c1, beq_self_eq_true]
    rw [resVal_1 rfl]; simp (disch := first | assumption | omega | rfl | simp only [RH]) only [↓RP, RG, FX, RQ, ↓reduceIte, Nat.reduceEqDiff, reduceCtorEq, Nat.reduceBEq, Nat.reduceAdd, Nat.reduceLeDiff, RS]
    first | done | (by_cases c2 : (n2 : Int) = t <;> simp [c1, c2])
  · refine Contract.intro (effS [] false) 6 follows Tryz.func28 rfl rfl (by kernel_rfl) (Nat.le_of_ble_eq_true rfl) ?_
    simp (disch := first | assumption | omega | rfl | simp only [RH]) only [↓RP, RG, FX, RQ, ↓reduceIte, Nat.reduceEqDiff, reduceCtorEq, Nat.reduceBEq, Nat.reduceAdd, Nat.reduceLeDiff, args0_1]
    refine callK_F 6 (k1) (by simp (disch := first | assumption | omega | rfl | simp only [RH]) only [↓RP, RG, FX, RQ, ↓reduceIte, Nat.reduceEqDiff, reduceCtorEq, Nat.reduceBEq, Nat.reduceAdd, Nat.reduceLeDiff, RA] <;> rfl) (.inl (by simp [allFresh, ints_fresh, bools_fresh])) ?_
    simp (disch := first | assumption | omega | rfl | simp only [RH]) only [↓RP, RG, FX, RQ, ↓reduceIte, Nat.reduceEqDiff, reduceCtorEq, Nat.reduceBEq, Nat.reduceAdd, Nat.reduceLeDiff]
    refine callK_F 6 (k2) (by simp (disch := first | assumption | omega | rfl | simp only [RH]) only [↓RP, RG, FX, RQ, ↓reduceIte, Nat.reduceEqDiff, reduceCtorEq, Nat.reduceBEq, Nat.reduceAdd, Nat.reduceLeDiff, RA] <;> rfl) (.inl (by simp [allFresh, ints_fresh, bools_fresh])) ?_
    simp (disch := first | assumption | omega | rfl | simp only [RH]) only [↓RP, RG, FX, RQ, ↓reduceIte, Nat.reduceEqDiff, reduceCtorEq, Nat.reduceBEq, Nat.reduceAdd, Nat.reduceLeDiff]
    rw [resVal_1 rfl]; simp (disch := first | assumption | omega | rfl | simp only [RH]) only [↓RP, RG, FX, RQ, ↓reduceIte, Nat.reduceEqDiff, reduceCtorEq, Nat.reduceBEq, Nat.reduceAdd, Nat.reduceLeDiff, RS]
    first | done | simp [c1]
end Go.Proofs.YtbhkhaaifielkaaGreatDoor

/- The rows of a grid, each in an array of 64 cells with its length. -/
set_option linter.unusedSimpArgs false
set_option linter.unusedVariables false
set_option maxRecDepth 100000
namespace Go.Proofs.YtbhkhaaifielkaaGreatDoor
open Go Go.Proofs Go.AW

/-- Cell i of the table of lines when y lines are in. -/
def lnZ (W : Nat) (l : List Bool) (y i : Nat) : AVal :=
  if i / 65 < y then (if i % 65 < 64 then B (decide (i % 65 < W) && l.getD (W * (i / 65) + i % 65) false) else I W) else (if i % 65 < 64 then B false else I 0)
def lnC (W H : Nat) (l : List Bool) (y : Nat) : List AVal := (List.range (H * 65)).map (lnZ W l y)
theorem lnC_len (W H : Nat) (l : List Bool) (y : Nat) : (lnC W H l y).length = H * 65 := by simp [lnC]
theorem lnC_res (h : List AObj) (n W H : Nat) (l : List Bool) (y : Nat) : (lnC W H l y).map (resOf h (n + 1)) = lnC W H l y := by
  simp only [lnC, List.map_map]
  refine List.map_congr_left fun i _ => ?_
  simp only [Function.comp, lnZ]
  split <;> split <;> rfl
/-- A row of bools and its length, as a line. -/
def padR (W : Nat) (l : List Bool) (y : Nat) : List Bool := (List.range 64).map fun i => decide (i < W) && l.getD (W * y + i) false
theorem padR_len (W : Nat) (l : List Bool) (y : Nat) : (padR W l y).length = 64 := by simp [padR]
def lineA (W : Nat) (l : List Bool) (y : Nat) : List AVal := bools (padR W l y) ++ [I W]
theorem lineA_len (W : Nat) (l : List Bool) (y : Nat) : (lineA W l y).length = 65 := by simp [lineA, bools_length, padR_len]
theorem lineA_get (W : Nat) (l : List Bool) (y : Nat) {i : Nat} (hi : i < (lineA W l y).length) : (lineA W l y)[i] = if i < 64 then B (decide (i < W) && l.getD (W * y + i) false) else I W := by
  have hl := lineA_len W l y
  simp only [lineA, List.getElem_append, bools_length, padR_len]
  split
  · simp [bools, padR]
  · simp
theorem lnC_line (W H : Nat) (l : List Bool) {y : Nat} (hy : y < H) : ((lnC W H l H).drop (y * 65)).take 65 = lineA W l y := by
  refine List.ext_getElem (by rw [List.length_take, List.length_drop, lnC_len, lineA_len]; omega) fun i h1 h2 => ?_
  have hi : i < 65 := by rw [lineA_len] at h2; exact h2
  rw [lineA_get, List.getElem_take, List.getElem_drop]
  simp only [lnC, List.getElem_map, List.getElem_range, lnZ]
  have e1 : (y * 65 + i) / 65 = y := by omega
  have e2 : (y * 65 + i) % 65 = i := by omega
  rw [e1, e2, if_pos hy]
theorem lnC_zero (W H : Nat) (l : List Bool) : (List.range (H * 65)).map (fun j => (bools (List.replicate 64 false) ++ [I 0]).getD (j % 65) .undef) = lnC W H l 0 := by
  refine List.map_congr_left fun j _ => ?_
  have hm : j % 65 < 65 := Nat.mod_lt _ (by omega)
  simp only [lnZ, Nat.not_lt_zero, if_false, List.getD_eq_getElem?_getD, List.getElem?_append, bools_length, List.length_replicate]
  split
  · rename_i h
    rw [bools, List.getElem?_map, List.getElem?_replicate, if_pos h]; rfl
  · rename_i h
    have : j % 65 - 64 = 0 := by omega
    simp [this]
theorem cA_lnC {t s W H y m : Nat} {l : List Bool} (hm : m = H * 65) : cA (some ⟨t, s, lnC W H l y⟩) m = some (lnC W H l y) := by
  subst hm; simp [cA, lnC_len]
theorem cA_lenW {t s n : Nat} {cs : List AVal} (hn : cs.length = n) : cA (some ⟨t, s, cs⟩) n = some cs := by simp [cA, hn]
theorem lnC_step {W H : Nat} (hW1 : 1 ≤ W) (hW : W ≤ 64) {l : List Bool} (hn : l.length = W * H) {y : Nat} (hy : y < H) :
    splice (splice (lnC W H l y) (y * 65) (bools ((l.drop (W * y)).take W))) (y * 65 + 64) [I W] = lnC W H l (y + 1) := by
  have hin : W * y + W ≤ W * H := by rw [← Nat.mul_succ]; exact Nat.mul_le_mul_left _ hy
  have hl1 : (bools ((l.drop (W * y)).take W)).length = W := by rw [bools_length, List.length_take, List.length_drop]; omega
  have hc1 : y * 65 + (bools ((l.drop (W * y)).take W)).length ≤ (lnC W H l y).length := by rw [hl1, lnC_len]; omega
  have hs1 := splice_length _ _ _ hc1
  have hc2 : y * 65 + 64 + [I W].length ≤ (splice (lnC W H l y) (y * 65) (bools ((l.drop (W * y)).take W))).length := by rw [hs1, lnC_len]; simp; omega
  refine List.ext_getElem (by rw [splice_length _ _ _ hc2, hs1, lnC_len, lnC_len]) fun i h1 h2 => ?_
  have hi : i < H * 65 := by rw [lnC_len] at h2; exact h2
  rw [splice_get _ _ _ hc2 i h1]
  have hR : (lnC W H l (y + 1))[i] = lnZ W l (y + 1) i := by simp [lnC]
  rw [hR]
  by_cases c1 : i = y * 65 + 64
  · rw [dif_pos (by simp; omega)]
    subst c1
    have e1 : (y * 65 + 64) / 65 = y := by omega
    have e2 : (y * 65 + 64) % 65 = 64 := by omega
    simp [lnZ, e1, e2]
  · rw [dif_neg (by simp; omega), splice_get _ _ _ hc1 i (by rw [hs1, lnC_len]; exact hi)]
    by_cases c2 : y * 65 ≤ i ∧ i < y * 65 + W
    · rw [dif_pos (by rw [hl1]; exact c2)]
      have e1 : i / 65 = y := by omega
      have e2 : i % 65 = i - y * 65 := by omega
      have e3 : W * y + (i - y * 65) < l.length := by omega
      have e4 : i - y * 65 < W := by omega
      have e5 : i - y * 65 < 64 := by omega
      simp [lnZ, e1, e2, bools, List.getD_eq_getElem?_getD, e3, e4, e5]
    · rw [dif_neg (by rw [hl1]; exact c2)]
      simp only [lnC, List.getElem_map, List.getElem_range, lnZ]
      by_cases c3 : i / 65 < y
      · have c4 : i / 65 < y + 1 := by omega
        rw [if_pos c3, if_pos c4]
      · rw [if_neg c3]
        by_cases c4 : i / 65 = y
        · rw [if_pos (show i / 65 < y + 1 by omega), c4]
          have e2 : i % 65 < 64 := by omega
          have e3 : ¬ i % 65 < W := by omega
          simp [e2, e3]
        · have c5 : ¬ i / 65 < y + 1 := by omega
          rw [if_neg c5]
theorem lines_c {W H : Nat} (hW1 : 1 ≤ W) (hW : W ≤ 64) (hH1 : 1 ≤ H) (hH : H ≤ 64) (b : Bool) {l : List Bool} (hn : l.length = W * H) :
    Contract Tryz.prog 68 [GA W H b l] (.list true false H (lnC W H l H)) := by
  refine Contract.intro (effS [] false) 6 follows Tryz.func68 rfl rfl (by kernel_rfl) (Nat.le_of_ble_eq_true rfl) ?_
  simp (disch := first | assumption | omega | rfl | simp only [RH]) only [↓RP, RG, FX, RQ, ↓reduceIte, Nat.reduceEqDiff, reduceCtorEq, Nat.reduceBEq, Nat.reduceAdd, Nat.reduceLeDiff, args0_1, make_W zc111, lnC_zero W H l, cA_lnC]
  refine loopK_I [1, 3, 9, 10] (fun y : Nat => y ≤ H) (fun y : Nat => ⟨[(1, .ptr 0 0 3), (3, .ref 1 0 H (H * 65)), (9, I H), (10, I y)], [⟨25, 3, [I W, I H, BA b l]⟩, ⟨111, 65, lnC W H l y⟩]⟩) (fun y => H - y) 0 (by omega) (by simp only [↓RP, RG, FX, RQ, ↓reduceIte, Nat.reduceEqDiff, reduceCtorEq, Nat.reduceBEq, Nat.reduceAdd, Nat.reduceLeDiff]; rfl) ?_
  intro y hy
  by_cases hlt : y < H
  · have hin : W * y + W ≤ W * H := by rw [← Nat.mul_succ]; exact Nat.mul_le_mul_left _ hlt
    have hWH : W * H ≤ 64 * 64 := Nat.mul_le_mul hW hH
    have m1 : (y : Int) * W = ((W * y : Nat) : Int) := by rw [Nat.mul_comm]; simp
    have m2 : ((y : Int) + 1) * W = ((W * y + W : Nat) : Int) := by rw [Int.add_mul, m1]; simp
    have hl1 : ((l.drop (W * y)).take W).length = W := by rw [List.length_take, List.length_drop]; omega
    have hst := lnC_step hW1 hW hn hlt
    have e1 : (((W * y + W : Nat) : Int) - ((W * y : Nat) : Int)).toNat = W := by omega
    simp (disch := first | assumption | omega | rfl | simp only [RH]) only [↓RP, RG, FX, RQ, ↓reduceIte, Nat.reduceEqDiff, reduceCtorEq, Nat.reduceBEq, Nat.reduceAdd, Nat.reduceLeDiff, idxW_ref, cA_lnC, slF_ptr, slice_arr, m1, m2, slice_lohi, e1, Int.toNat_natCast]
    rw [opK_copy]
    simp (disch := first | assumption | omega | rfl | simp only [RH]) only [↓RP, RG, FX, RQ, ↓reduceIte, Nat.reduceEqDiff, reduceCtorEq, Nat.reduceBEq, Nat.reduceAdd, Nat.reduceLeDiff]
    rw [copy_part (S := S23) (ty := 111) (es := 65) (cells := lnC W H l y) (l := (l.drop (W * y)).take W) rfl rfl hl1.symm hW (by omega) (by decide) (lnC_len W H l y) (by omega)]
    have hc1 : y * 65 + (bools ((l.drop (W * y)).take W)).length ≤ (lnC W H l y).length := by rw [bools_length, hl1, lnC_len]; omega
    have hs1 := splice_length _ _ _ hc1
    rw [lnC_len] at hs1
    generalize splice (lnC W H l y) (y * 65) (bools ((l.drop (W * y)).take W)) = mid at *
    have e2 : y * 65 + 64 < H * 65 := by omega
    simp (disch := first | assumption | omega | rfl | simp only [RH]) only [↓RP, RG, FX, RQ, ↓reduceIte, Nat.reduceEqDiff, reduceCtorEq, Nat.reduceBEq, Nat.reduceAdd, Nat.reduceLeDiff, idxW_ref, cA_lenW]
    rw [sX_mk (by decide), if_pos ⟨hs1, rfl, by simp; omega, rfl⟩, hst]
    simp (disch := first | assumption | omega | rfl | simp only [RH]) only [↓RP, RG, FX, RQ, ↓reduceIte, Nat.reduceEqDiff, reduceCtorEq, Nat.reduceBEq, Nat.reduceAdd, Nat.reduceLeDiff]
    exact ⟨y + 1, by omega, rfl, by omega⟩
  · obtain rfl : y = H := by omega
    simp (disch := first | assumption | omega | rfl | simp only [RH]) only [↓RP, RG, FX, RQ, ↓reduceIte, Nat.reduceEqDiff, reduceCtorEq, Nat.reduceBEq, Nat.reduceAdd, Nat.reduceLeDiff]
    rw [resVal_1 rfl]; simp (disch := first | assumption | omega | rfl | simp only [RH]) only [↓RP, RG, FX, RQ, ↓reduceIte, Nat.reduceEqDiff, reduceCtorEq, Nat.reduceBEq, Nat.reduceAdd, Nat.reduceLeDiff, RS]
    simp only [rX, lnC_len, if_true, List.drop_zero]
    rw [List.take_of_length_le (by rw [lnC_len]; exact Nat.le_refl _), lnC_res]
end Go.Proofs.YtbhkhaaifielkaaGreatDoor

/- The kinds of rows, by the program. -/
set_option linter.unusedSimpArgs false
set_option linter.unusedVariables false
set_option maxRecDepth 100000
namespace Go.Proofs.YtbhkhaaifielkaaGreatDoor
open Go Go.Proofs Go.AW

theorem padR_eq {W : Nat} (hW : W ≤ 64) {l : List Bool} {a b : Nat} : padR W l a = padR W l b ↔ rowN W l a = rowN W l b := by
  rw [rowN_eq]
  constructor
  · intro h x hx
    have := congrArg (fun r : List Bool => r.getD x false) h
    simpa [padR, List.getD_eq_getElem?_getD, List.getElem?_range (show x < 64 by omega), hx] using this
  · intro h
    refine List.map_congr_left fun x hx => ?_
    by_cases hxW : x < W
    · rw [h x hxW]
    · simp [hxW]
theorem eq_line {W : Nat} (hW : W ≤ 64) (l : List Bool) (a b : Nat) : eqK (List.replicate 64 true ++ [false]) (lineA W l a) (lineA W l b) = some (decide (rowN W l a = rowN W l b)) := by
  have h := eqK_bools (padR W l a) (padR W l b) [false] [I W] [I W] (by rw [padR_len, padR_len])
  rw [padR_len] at h
  unfold lineA
  rw [h, eqK_int, eqK_nil]
  simp only [Option.map_some, beq_self_eq_true, Bool.and_true]
  congr 1
  rw [Bool.eq_iff_iff, beq_iff_eq, decide_eq_true_iff]
  exact padR_eq hW
/-- The lines of some rows, one after the other. -/
def seenC (W : Nat) (l : List Bool) (fs : List Nat) : List AVal := fs.flatMap (lineA W l)
theorem seenC_len (W : Nat) (l : List Bool) (fs : List Nat) : (seenC W l fs).length = fs.length * 65 := by
  induction fs with
  | nil => rfl
  | cons f fs ih => simp only [seenC, List.flatMap_cons, List.length_append, List.length_cons, lineA_len] at ih ⊢; omega
theorem seenC_app (W : Nat) (l : List Bool) (fs : List Nat) (y : Nat) : seenC W l (fs ++ [y]) = seenC W l fs ++ lineA W l y := by simp [seenC]
theorem seenC_at (W : Nat) (l : List Bool) : ∀ (fs : List Nat) (k : Nat), k < fs.length → ((seenC W l fs).drop (k * 65)).take 65 = lineA W l (fs.getD k 0)
  | [], k, h => by simp at h
  | f :: fs, 0, _ => by
    simp only [seenC, List.flatMap_cons, Nat.zero_mul, List.drop_zero, List.getD_cons_zero]
    rw [List.take_append_of_le_length (by rw [lineA_len]; exact Nat.le_refl _), List.take_of_length_le (by rw [lineA_len]; exact Nat.le_refl _)]
  | f :: fs, k + 1, h => by
    have ih := seenC_at W l fs k (by simpa using h)
    have e : (k + 1) * 65 = (lineA W l f).length + k * 65 := by rw [lineA_len]; omega
    simp only [seenC, List.flatMap_cons, List.getD_cons_succ] at ih ⊢
    rw [e, List.drop_append, List.drop_eq_nil_of_le (by omega), List.nil_append, Nat.add_sub_cancel_left]
    exact ih
theorem lineA_one (W : Nat) (l : List Bool) (y : Nat) : (lineA W l y).all AVal.one = true := by
  rw [lineA, List.all_append, bools_one]; rfl
theorem lineA_ren (f : Nat → Option Nat) (n : Nat) (W : Nat) (l : List Bool) (y : Nat) : (lineA W l y).map (ren f (n + 1)) = lineA W l y := by
  simp only [lineA, List.map_append, map_ren_bools]; rfl
theorem seenC_ren (f : Nat → Option Nat) (n : Nat) (W : Nat) (l : List Bool) (fs : List Nat) : (seenC W l fs).map (ren f (n + 1)) = seenC W l fs := by
  induction fs with
  | nil => rfl
  | cons g fs ih => simp only [seenC, List.flatMap_cons, List.map_append, lineA_ren] at ih ⊢; rw [ih]
theorem take_line (W : Nat) (l : List Bool) (y : Nat) : (lineA W l y).take 65 = lineA W l y := List.take_of_length_le (by rw [lineA_len]; exact Nat.le_refl _)
theorem lnC_fr (n W H : Nat) (l : List Bool) (y : Nat) : (lnC W H l y).all (allFresh (n + 1)) = true := by
  rw [List.all_eq_true]
  intro x hx
  simp only [lnC, List.mem_map] at hx
  obtain ⟨i, _, rfl⟩ := hx
  simp only [lnZ]
  split <;> split <;> rfl
theorem lnC_ren (f : Nat → Option Nat) (n W H : Nat) (l : List Bool) (y : Nat) : (lnC W H l y).map (ren f (n + 1)) = lnC W H l y := by
  simp only [lnC, List.map_map]
  refine List.map_congr_left fun i _ => ?_
  simp only [Function.comp, lnZ]
  split <;> split <;> rfl
theorem ren_gwW (f : Nat → Option Nat) (n s k m : Nat) (hk : f k = some k) : ren f (n + 1) (gwW s k m) = gwW s k m := by
  unfold gwW
  split
  · simp [ren, hk]
  · simp [ren, hk]
theorem renO_goW (f : Nat → Option Nat) (n e s : Nat) (xs : List AVal) (hx : xs.map (ren f n) = xs) : renO f n (goW e s xs) = goW e s xs := by
  cases xs with
  | nil => rfl
  | cons x xr =>
    show AObj.mk e s ((x :: xr).map (ren f n)) = _
    rw [hx]; rfl
theorem lnC_len65 (W H : Nat) (l : List Bool) {y : Nat} (hy : y < H) : 65 ≤ ((lnC W H l H).drop (y * 65)).length := by rw [List.length_drop, lnC_len]; omega
theorem seenC_len65 (W : Nat) (l : List Bool) (fs : List Nat) {k : Nat} (hk : k < fs.length) : 65 ≤ ((seenC W l fs).drop (k * 65)).length := by rw [List.length_drop, seenC_len]; omega
theorem spl_line {cs : List AVal} (W : Nat) (l : List Bool) (y : Nat) (hc : cs.length = 65) : splice cs 0 (lineA W l y) = lineA W l y := by
  have hl := splice_length cs 0 (lineA W l y) (by rw [lineA_len]; omega)
  refine List.ext_getElem (by rw [hl, lineA_len, hc]) fun i h1 h2 => ?_
  rw [splice_get cs 0 (lineA W l y) (by rw [lineA_len]; omega) i h1, dif_pos ⟨Nat.zero_le _, by omega⟩]
  rfl
theorem sX_line {g : Bool} {h : List AObj} {id ty es : Nat} {cs : List AVal} (W : Nat) (l : List Bool) (y : Nat) (hty : ty ≠ 1000003) (hc : cs.length = 65) : sX (some (g, 65)) h id 0 65 (some ⟨ty, es, cs⟩) (some (lineA W l y)) = some (h.set id ⟨ty, es, lineA W l y⟩) := by
  rw [sX_mk hty, if_pos ⟨hc, lineA_len W l y, by rw [lineA_len]; omega, lineA_one W l y⟩, spl_line W l y hc]
theorem kindsP_c {W H : Nat} (hW1 : 1 ≤ W) (hW : W ≤ 64) (hH1 : 1 ≤ H) (hH : H ≤ 64) (b : Bool) {l : List Bool} (hn : l.length = W * H) :
    Contract Tryz.prog 54 [GA W H b l] (.tuple [LR (nI (knd (rowN W l) H).1).isEmpty (nI (knd (rowN W l) H).1), LR (nI (knd (rowN W l) H).2).isEmpty (nI (knd (rowN W l) H).2)]) := by
  refine Contract.intro (effS [] false) 6 follows Tryz.func54 rfl rfl (by kernel_rfl) (Nat.le_of_ble_eq_true rfl) ?_
  simp (disch := first | assumption | omega | rfl | simp only [RH]) only [↓RP, RG, FX, RQ, ↓reduceIte, Nat.reduceEqDiff, reduceCtorEq, Nat.reduceBEq, Nat.reduceAdd, Nat.reduceLeDiff, args0_1]
  refine callK_F 6 (lines_c hW1 hW hH1 hH b hn) (by simp (disch := first | assumption | omega | rfl | simp only [RH]) only [↓RP, RG, FX, RQ, ↓reduceIte, Nat.reduceEqDiff, reduceCtorEq, Nat.reduceBEq, Nat.reduceAdd, Nat.reduceLeDiff, RA] <;> rfl) (.inl (by simp [allFresh, lnC_fr])) ?_
  simp (disch := first | assumption | omega | rfl | simp only [RH]) only [↓RP, RG, FX, RQ, ↓reduceIte, Nat.reduceEqDiff, reduceCtorEq, Nat.reduceBEq, Nat.reduceAdd, Nat.reduceLeDiff]
  refine loopK_WW [2, 3, 4, 9, 10, 11] (fun y : Nat => y ≤ H) (fun y : Nat => ⟨[(2, gw true 1 (ints (nI (knd (rowN W l) y).1))), (3, gw true 2 (ints (nI (knd (rowN W l) y).2))), (4, gwW 65 3 (knd (rowN W l) y).2.length), (9, .list true false H (lnC W H l H)), (10, I H), (11, I y)], [⟨25, 3, [I W, I H, BA b l]⟩, go 3 (ints (nI (knd (rowN W l) y).1)), go 3 (ints (nI (knd (rowN W l) y).2)), goW 111 65 (seenC W l (knd (rowN W l) y).2)]⟩) (fun y => H - y) 0 (by omega) ?_ ?_
  · simp only [↓RP, RG, FX, RQ, ↓reduceIte, Nat.reduceEqDiff, reduceCtorEq, Nat.reduceBEq, Nat.reduceAdd, Nat.reduceLeDiff]
    exact Wk.weak (WE.cons _ (.nil _) (WE.cons _ (.nil _) (WE.cons _ (.nil _) (WE.cons _ (.refl _) (WE.cons _ (.refl _) (WE.cons _ (.refl _) WE.nil)))))) (.cons _ _ _ _ (WL.refl _) (.nil _ (by simp [go, ints, nI, knd, goW, seenC])))
  intro y hy
  by_cases hy2 : y < H
  · have hl1 := knd_len (rowN W l) y
    have hl2 := knd_le (rowN W l) y
    have hfi := knd_first (rowN W l) y
    have hkn : knd (rowN W l) (y + 1) = ((knd (rowN W l) y).1 ++ [plc (rowN W l) (knd (rowN W l) y).2 y], if plc (rowN W l) (knd (rowN W l) y).2 y = (knd (rowN W l) y).2.length then (knd (rowN W l) y).2 ++ [y] else (knd (rowN W l) y).2) := rfl
    generalize (knd (rowN W l) y).1 = ks at *
    generalize (knd (rowN W l) y).2 = fs at *
    have hk1 := nI_len ks
    have hk2 := nI_len fs
    have hk3 : (ints (nI ks)).length = ks.length := by rw [ints_length, nI_len]
    have hk4 : (ints (nI fs)).length = fs.length := by rw [ints_length, nI_len]
    have hlc := lnC_line W H l hy2
    have hl65 := lnC_len65 W H l hy2
    have hsl := seenC_len W l fs
    have hz65 : (bools (List.replicate 64 false) ++ [I 0]).length = 65 := by simp [bools_length]
    simp (disch := first | assumption | omega | rfl | simp only [RH]) only [↓RP, RG, FX, RQ, ↓reduceIte, Nat.reduceEqDiff, reduceCtorEq, Nat.reduceBEq, Nat.reduceAdd, Nat.reduceLeDiff, idxM_list, Int.toNat_natCast, hlc, hl65, take_line, parts_agg, sX_line]
    refine loopK_I [2, 3, 4, 5, 6, 7, 9, 10, 11] (fun k : Nat => k ≤ fs.length ∧ ∀ j, j < k → rowN W l (fs.getD j 0) ≠ rowN W l y) (fun k : Nat => ⟨[(2, gw true 1 (ints (nI ks))), (3, gw true 2 (ints (nI fs))), (4, gwW 65 3 fs.length), (5, I y), (6, .ptr 4 0 65), (7, I k), (9, .list true false H (lnC W H l H)), (10, I H), (11, I y)], [⟨25, 3, [I W, I H, BA b l]⟩, go 3 (ints (nI ks)), go 3 (ints (nI fs)), goW 111 65 (seenC W l fs), ⟨111, 65, lineA W l y⟩]⟩) (fun k => fs.length - k) 0 ⟨by omega, fun j hj => by omega⟩ (by simp only [↓RP, RG, FX, RQ, ↓reduceIte, Nat.reduceEqDiff, reduceCtorEq, Nat.reduceBEq, Nat.reduceAdd, Nat.reduceLeDiff]; rfl) ?_
    rintro k ⟨hk, hne⟩
    have hll := lineA_len W l y
    have hone := lineA_one W l y
    by_cases hlt : k < fs.length
    · have hat := seenC_at W l fs k hlt
      have hs65 := seenC_len65 W l fs hlt
      have heq := eq_line hW l (fs.getD k 0) y
      by_cases he : rowN W l (fs.getD k 0) = rowN W l y
      · have hp := plc_eq (rowN W l) hk hne (fun _ => he)
        rw [hp, if_neg (by omega)] at hkn
        rw [decide_eq_true he] at heq
        simp (disch := first | assumption | omega | rfl | simp only [RH]) only [↓RP, RG, FX, RQ, ↓reduceIte, Nat.reduceEqDiff, reduceCtorEq, Nat.reduceBEq, Nat.reduceAdd, Nat.reduceLeDiff, sview_gwW, gSW_go, idxW_gw, cA_goW, cA_lenW, hat, hs65, take_line, hll, heq, neqKT, append_int, Int.toNat_natCast]
        exact ⟨y + 1, by omega, (Wk.drop (hb := []) (h1 := []) (gs := [_, _, _, _, _]) 8 [0, 1, 2, 3] rfl (by decide) (by simp) (by simp)).trans (Wk.of_eq (by simp (disch := omega) only [RK, List.idxOf?_cons, List.idxOf?_nil, Nat.reduceBEq, Option.map_some, Option.map_none, List.map_cons, List.map_nil, List.getD_cons_zero, List.getD_cons_succ, Bool.false_eq_true, ↓reduceIte, Nat.add_zero, List.append_nil, seenC_ren, lnC_ren, ren_gwW _ _ _ _ _ (show keepF ([] : List AObj).length [0, 1, 2, 3] 3 = some 3 from rfl), renO_goW _ _ _ _ _ (seenC_ren _ _ _ _ _)]; rw [hkn]; simp only [nI_app, seenC_app, List.length_append, List.length_singleton]; rfl)), by omega⟩
      · rw [decide_eq_false he] at heq
        simp (disch := first | assumption | omega | rfl | simp only [RH]) only [↓RP, RG, FX, RQ, ↓reduceIte, Nat.reduceEqDiff, reduceCtorEq, Nat.reduceBEq, Nat.reduceAdd, Nat.reduceLeDiff, sview_gwW, gSW_go, idxW_gw, cA_goW, cA_lenW, hat, hs65, take_line, hll, heq, neqKT, Int.toNat_natCast]
        refine ⟨k + 1, ⟨by omega, fun j hj => ?_⟩, rfl, by omega⟩
        by_cases hjk : j = k
        · subst hjk; exact he
        · exact hne j (by omega)
    · obtain rfl : k = fs.length := by omega
      have hp := plc_eq (rowN W l) (Nat.le_refl _) hne (fun h => absurd h (by omega))
      rw [hp, if_pos rfl] at hkn
      simp (disch := first | assumption | omega | rfl | simp only [RH]) only [↓RP, RG, FX, RQ, ↓reduceIte, Nat.reduceEqDiff, reduceCtorEq, Nat.reduceBEq, Nat.reduceAdd, Nat.reduceLeDiff, sview_gwW, gSW_go, cA_lenW, hll, take_line, append_int, List.length_replicate, spl_line]
      rw [append_W (xs := seenC W l fs) rfl hsl hll hone (by omega) (by omega), ← seenC_app]
      simp (disch := first | assumption | omega | rfl | simp only [RH]) only [↓RP, RG, FX, RQ, ↓reduceIte, Nat.reduceEqDiff, reduceCtorEq, Nat.reduceBEq, Nat.reduceAdd, Nat.reduceLeDiff, append_int]
      exact ⟨y + 1, by omega, (Wk.drop (hb := []) (h1 := []) (gs := [_, _, _, _, _]) 8 [0, 1, 2, 3] rfl (by decide) (by simp) (by simp)).trans (Wk.of_eq (by simp (disch := omega) only [RK, List.idxOf?_cons, List.idxOf?_nil, Nat.reduceBEq, Option.map_some, Option.map_none, List.map_cons, List.map_nil, List.getD_cons_zero, List.getD_cons_succ, Bool.false_eq_true, ↓reduceIte, Nat.add_zero, List.append_nil, seenC_ren, lnC_ren, ren_gwW _ _ _ _ _ (show keepF ([] : List AObj).length [0, 1, 2, 3] 3 = some 3 from rfl), renO_goW _ _ _ _ _ (seenC_ren _ _ _ _ _)]; rw [hkn]; simp only [nI_app, seenC_app, List.length_append, List.length_singleton]; rfl)), by omega⟩
  · obtain rfl : y = H := by omega
    simp (disch := first | assumption | omega | rfl | simp only [RH]) only [↓RP, RG, FX, RQ, ↓reduceIte, Nat.reduceEqDiff, reduceCtorEq, Nat.reduceBEq, Nat.reduceAdd, Nat.reduceLeDiff]
    rw [resVal_2 rfl]; simp (disch := first | assumption | omega | rfl | simp only [RH]) only [↓RP, RG, FX, RQ, ↓reduceIte, Nat.reduceEqDiff, reduceCtorEq, Nat.reduceBEq, Nat.reduceAdd, Nat.reduceLeDiff, RS]
    simp only [Bool.true_and, ints_isEmpty]
end Go.Proofs.YtbhkhaaifielkaaGreatDoor

/- Grids: made cell by cell, turned. -/
set_option linter.unusedSimpArgs false
set_option linter.unusedVariables false
set_option maxRecDepth 100000
namespace Go.Proofs.YtbhkhaaifielkaaGreatDoor
open Go Go.Proofs Go.AW

theorem build_c (f : FuncId) (caps : List AVal) (W H : Nat) (u : Nat → Nat → Bool) (hw : W ≤ 10000) (hh : H ≤ 10000) (hcaps : ∀ r : List AObj, caps.map (argOf r 6) = caps) (hup : ∀ x y : Nat, x < W → y < H → Contract Tryz.prog f ([I x, I y] ++ caps) (B (u x y))) :
    Contract Tryz.prog 66 [I W, I H, .func (.func f) [] caps] (GR W H false (tabN W u (W * H))) := by
  have hm := mul_bd (W := W) (H := H) hw hh
  refine Contract.intro (effS [] false) 6 follows Tryz.func66 rfl rfl (by kernel_rfl) (Nat.le_of_ble_eq_true rfl) ?_
  simp (disch := first | assumption | omega | rfl | simp only [RH]) only [↓RP, RG, FX, RQ, ↓reduceIte, Nat.reduceEqDiff, reduceCtorEq, Nat.reduceBEq, Nat.reduceAdd, Nat.reduceLeDiff, args0_3, make_bool, Int.toNat_zero]
  refine loopK_I [0, 1, 2, 6, 7, 17, 18] (fun y : Nat => y ≤ H) (fun y => ⟨[(0, I W), (1, I H), (2, .func (.func f) [] caps), (6, .ptr 0 0 3), (7, .ptr 2 0 3), (17, I H), (18, I y)], [⟨25, 3, [I 0, I 0, .cap0 true]⟩, ⟨4, 1, bools (tabN W u (W * y))⟩, ⟨25, 3, [I W, I H, .ref 1 0 (W * y) (W * y)]⟩]⟩) (fun y => H - y) 0 (by omega) (by simp only [↓RP, RG, FX, RQ, ↓reduceIte, Nat.reduceEqDiff, reduceCtorEq, Nat.reduceBEq, Nat.reduceAdd, Nat.reduceLeDiff, List.replicate_zero, Nat.mul_zero]; rfl) ?_
  intro y hy
  by_cases hlt : y < H
  · simp (disch := first | assumption | omega | rfl | simp only [RH]) only [↓RP, RG, FX, RQ, ↓reduceIte, Nat.reduceEqDiff, reduceCtorEq, Nat.reduceBEq, Nat.reduceAdd, Nat.reduceLeDiff]
    refine loopK_I [0, 1, 2, 6, 7, 8, 17, 18, 21, 22] (fun x : Nat => x ≤ W) (fun x => ⟨[(0, I W), (1, I H), (2, .func (.func f) [] caps), (6, .ptr 0 0 3), (7, .ptr 2 0 3), (8, I y), (17, I H), (18, I y), (21, I W), (22, I x)], [⟨25, 3, [I 0, I 0, .cap0 true]⟩, ⟨4, 1, bools (tabN W u (W * y + x))⟩, ⟨25, 3, [I W, I H, .ref 1 0 (W * y + x) (W * y + x)]⟩]⟩) (fun x => W - x) 0 (by omega) (by simp only [↓RP, RG, FX, RQ, ↓reduceIte, Nat.reduceEqDiff, reduceCtorEq, Nat.reduceBEq, Nat.reduceAdd, Nat.reduceLeDiff]; rfl) ?_
    intro x hx
    by_cases hlt2 : x < W
    · have hl := tabN_len W u (W * y + x)
      have hb : W * y + x ≤ 1000000000 := by
        have : W * y ≤ 10000 * 10000 := Nat.mul_le_mul hw (by omega)
        omega
      simp (disch := first | assumption | omega | rfl | simp only [RH]) only [↓RP, RG, FX, RQ, ↓reduceIte, Nat.reduceEqDiff, reduceCtorEq, Nat.reduceBEq, Nat.reduceAdd, Nat.reduceLeDiff]
      refine callK_V 6 (hup x y hlt2 hlt) (by rw [List.nil_append, List.map_append, hcaps]; rfl) (.inl rfl) ?_
      simp (disch := first | assumption | omega | rfl | simp only [RH]) only [↓RP, RG, FX, RQ, ↓reduceIte, Nat.reduceEqDiff, reduceCtorEq, Nat.reduceBEq, Nat.reduceAdd, Nat.reduceLeDiff, append_refB, apRX_bools]
      exact ⟨x + 1, by omega, by rw [show W * y + (x + 1) = W * y + x + 1 from rfl, tabN_succ W u hlt2]; rfl, by omega⟩
    · obtain rfl : x = W := by omega
      simp (disch := first | assumption | omega | rfl | simp only [RH]) only [↓RP, RG, FX, RQ, ↓reduceIte, Nat.reduceEqDiff, reduceCtorEq, Nat.reduceBEq, Nat.reduceAdd, Nat.reduceLeDiff]
      exact ⟨y + 1, by omega, rfl, by omega⟩
  · obtain rfl : y = H := by omega
    have hl := tabN_len W u (W * y)
    simp (disch := first | assumption | omega | rfl | simp only [RH]) only [↓RP, RG, FX, RQ, ↓reduceIte, Nat.reduceEqDiff, reduceCtorEq, Nat.reduceBEq, Nat.reduceAdd, Nat.reduceLeDiff]
    rw [resVal_1 rfl]; simp (disch := first | assumption | omega | rfl | simp only [RH]) only [↓RP, RG, FX, RQ, ↓reduceIte, Nat.reduceEqDiff, reduceCtorEq, Nat.reduceBEq, Nat.reduceAdd, Nat.reduceLeDiff, RS]
    first | done | rw [hl]

/-- A grid turned. -/
def uT (W : Nat) (l : List Bool) (x y : Nat) : Bool := cell W l y x
theorem turnF_c {W H : Nat} (hW : W ≤ 64) (hH : H ≤ 64) (b : Bool) {l : List Bool} (hn : l.length = W * H) {x y : Nat} (hx : x < H) (hy : y < W) :
    Contract Tryz.prog 67 [I x, I y, .spot false [I W, I H, BA b l]] (B (uT W l x y)) := by
  have h1 := idx_lt (W := W) (H := H) (x := y) (y := x) hy hx
  have h2 := idx_nat W x y
  have h3 : W * H ≤ 64 * 64 := Nat.mul_le_mul hW hH
  have h4 : (x : Int) * (W : Int) = ((W * x : Nat) : Int) := by rw [Int.natCast_mul, Int.mul_comm]
  have h5 : W * x ≤ 64 * 64 := Nat.mul_le_mul hW (by omega)
  refine Contract.intro (effS [] false) 6 follows Tryz.func67 rfl rfl (by kernel_rfl) (Nat.le_of_ble_eq_true rfl) ?_
  simp (disch := first | assumption | omega | rfl | simp only [RH]) only [↓RP, RG, FX, RQ, ↓reduceIte, Nat.reduceEqDiff, reduceCtorEq, Nat.reduceBEq, Nat.reduceAdd, Nat.reduceLeDiff, args0_3]
  rw [resVal_1 rfl]; simp (disch := first | assumption | omega | rfl | simp only [RH]) only [↓RP, RG, FX, RQ, ↓reduceIte, Nat.reduceEqDiff, reduceCtorEq, Nat.reduceBEq, Nat.reduceAdd, Nat.reduceLeDiff, RS]
  first | done | (unfold uT cell; rfl)

theorem gturnP_c {W H : Nat} (hW0 : 0 < W) (hH0 : 0 < H) (hW : W ≤ 64) (hH : H ≤ 64) (b : Bool) {l : List Bool} (hn : l.length = W * H) :
    Contract Tryz.prog 53 [GA W H b l] (.tuple [GR H W false (tabN H (uT W l) (H * W)), I 0]) := by
  have hz : gchk W H l.length = 0 := gchk_ok ⟨by omega, by omega, by omega, by omega, by rw [hn, Int.natCast_mul]⟩
  refine Contract.intro (effS [] false) 6 follows Tryz.func53 rfl rfl (by kernel_rfl) (Nat.le_of_ble_eq_true rfl) ?_
  simp (disch := first | assumption | omega | rfl | simp only [RH]) only [↓RP, RG, FX, RQ, ↓reduceIte, Nat.reduceEqDiff, reduceCtorEq, Nat.reduceBEq, Nat.reduceAdd, Nat.reduceLeDiff, args0_1]
  refine callK_F 6 (gcheckP_c W H b l) (by simp (disch := first | assumption | omega | rfl | simp only [RH]) only [↓RP, RG, FX, RQ, ↓reduceIte, Nat.reduceEqDiff, reduceCtorEq, Nat.reduceBEq, Nat.reduceAdd, Nat.reduceLeDiff, RA] <;> rfl) (.inl (by simp [allFresh, ints_fresh, bools_fresh])) ?_
  simp (disch := first | assumption | omega | rfl | simp only [RH]) only [↓RP, RG, FX, RQ, ↓reduceIte, Nat.reduceEqDiff, reduceCtorEq, Nat.reduceBEq, Nat.reduceAdd, Nat.reduceLeDiff]
  refine callK_F 6 (build_c 67 [.spot false [I W, I H, BA b l]] H W (uT W l) (by omega) (by omega) (fun r => by simp [argOf]; exact bools_arg l r 3) (fun x y hx hy => turnF_c hW hH b hn hx hy)) (by simp (disch := first | assumption | omega | rfl | simp only [RH]) only [↓RP, RG, FX, RQ, ↓reduceIte, Nat.reduceEqDiff, reduceCtorEq, Nat.reduceBEq, Nat.reduceAdd, Nat.reduceLeDiff, RA] <;> rfl) (.inl (by simp [allFresh, ints_fresh, bools_fresh])) ?_
  simp (disch := first | assumption | omega | rfl | simp only [RH]) only [↓RP, RG, FX, RQ, ↓reduceIte, Nat.reduceEqDiff, reduceCtorEq, Nat.reduceBEq, Nat.reduceAdd, Nat.reduceLeDiff]
  rw [resVal_2 rfl]; simp (disch := first | assumption | omega | rfl | simp only [RH]) only [↓RP, RG, FX, RQ, ↓reduceIte, Nat.reduceEqDiff, reduceCtorEq, Nat.reduceBEq, Nat.reduceAdd, Nat.reduceLeDiff, RS]
end Go.Proofs.YtbhkhaaifielkaaGreatDoor

/- The kinds of columns and rows, by both. -/
set_option linter.unusedSimpArgs false
set_option linter.unusedVariables false
set_option maxRecDepth 100000
namespace Go.Proofs.YtbhkhaaifielkaaGreatDoor
open Go Go.Proofs Go.AW

/-- Kinds of columns and their firsts; of rows. -/
def tgL (W H : Nat) (l : List Bool) : List Bool := tabN H (uT W l) (H * W)
theorem tgL_len (W H : Nat) (l : List Bool) : (tgL W H l).length = H * W := tabN_len _ _ _
def kC (W H : Nat) (l : List Bool) : List Nat := (knd (rowN H (tgL W H l)) W).1
def fC (W H : Nat) (l : List Bool) : List Nat := (knd (rowN H (tgL W H l)) W).2
def kR (W H : Nat) (l : List Bool) : List Nat := (knd (rowN W l) H).1
def fR (W H : Nat) (l : List Bool) : List Nat := (knd (rowN W l) H).2
abbrev LN (l : List Nat) : AVal := LR (nI l).isEmpty (nI l)
section
variable {W H : Nat} (hW1 : 1 ≤ W) (hW : W ≤ 64) (hH1 : 1 ≤ H) (hH : H ≤ 64) (b : Bool) {l : List Bool} (hn : l.length = W * H)
include hW1 hW hH1 hH hn
theorem both_c : Contract Tryz.prog 38 [GA W H b l] (.tuple [LN (kC W H l), LN (fC W H l), LN (kR W H l), LN (fR W H l), I 0]) := by
  have h1 := gturnP_c (by omega) (by omega) hW hH b hn
  have h2 := fun b' => kindsP_c (W := H) (H := W) hH1 hH hW1 hW b' (l := tgL W H l) (tgL_len W H l)
  have h3 := kindsP_c hW1 hW hH1 hH b hn
  have ht := tgL_len W H l
  rw [show tabN H (uT W l) (H * W) = tgL W H l from rfl] at h1
  simp only [show (knd (rowN H (tgL W H l)) W).1 = kC W H l from rfl, show (knd (rowN H (tgL W H l)) W).2 = fC W H l from rfl] at h2
  simp only [show (knd (rowN W l) H).1 = kR W H l from rfl, show (knd (rowN W l) H).2 = fR W H l from rfl] at h3
  generalize tgL W H l = tg at *
  generalize kC W H l = a1 at *
  generalize fC W H l = a2 at *
  generalize kR W H l = a3 at *
  generalize fR W H l = a4 at *
  refine Contract.intro (effS [] false) 6 follows Tryz.func38 rfl rfl (by kernel_rfl) (Nat.le_of_ble_eq_true rfl) ?_
  simp (disch := first | assumption | omega | rfl | simp only [RH]) only [↓RP, RG, FX, RQ, ↓reduceIte, Nat.reduceEqDiff, reduceCtorEq, Nat.reduceBEq, Nat.reduceAdd, Nat.reduceLeDiff, args0_1]
  refine callK_F 6 (h1) (by simp (disch := first | assumption | omega | rfl | simp only [RH]) only [↓RP, RG, FX, RQ, ↓reduceIte, Nat.reduceEqDiff, reduceCtorEq, Nat.reduceBEq, Nat.reduceAdd, Nat.reduceLeDiff, RA] <;> rfl) (.inl (by simp [allFresh, ints_fresh, bools_fresh])) ?_
  simp (disch := first | assumption | omega | rfl | simp only [RH]) only [↓RP, RG, FX, RQ, ↓reduceIte, Nat.reduceEqDiff, reduceCtorEq, Nat.reduceBEq, Nat.reduceAdd, Nat.reduceLeDiff]
  refine callK_F 6 (h2 _) (by simp (disch := first | assumption | omega | rfl | simp only [RH]) only [↓RP, RG, FX, RQ, ↓reduceIte, Nat.reduceEqDiff, reduceCtorEq, Nat.reduceBEq, Nat.reduceAdd, Nat.reduceLeDiff, RA] <;> rfl) (.inl (by simp [allFresh, ints_fresh])) ?_
  simp (disch := first | assumption | omega | rfl | simp only [RH]) only [↓RP, RG, FX, RQ, ↓reduceIte, Nat.reduceEqDiff, reduceCtorEq, Nat.reduceBEq, Nat.reduceAdd, Nat.reduceLeDiff]
  refine callK_F 6 h3 (by simp (disch := first | assumption | omega | rfl | simp only [RH]) only [↓RP, RG, FX, RQ, ↓reduceIte, Nat.reduceEqDiff, reduceCtorEq, Nat.reduceBEq, Nat.reduceAdd, Nat.reduceLeDiff, RA] <;> rfl) (.inl (by simp [allFresh, ints_fresh])) ?_
  simp (disch := first | assumption | omega | rfl | simp only [RH]) only [↓RP, RG, FX, RQ, ↓reduceIte, Nat.reduceEqDiff, reduceCtorEq, Nat.reduceBEq, Nat.reduceAdd, Nat.reduceLeDiff]
  rw [resVal_5 rfl]; simp (disch := first | assumption | omega | rfl | simp only [RH]) only [↓RP, RG, FX, RQ, ↓reduceIte, Nat.reduceEqDiff, reduceCtorEq, Nat.reduceBEq, Nat.reduceAdd, Nat.reduceLeDiff, RS]
  first | done | rfl
theorem countP_c : Contract Tryz.prog 19 [GA W H b l] (.tuple [I (fC W H l).length, I (fR W H l).length, I 0]) := by
  have h1 := both_c hW1 hW hH1 hH b hn
  have n1 := nI_len (fC W H l)
  have n2 := nI_len (fR W H l)
  generalize kC W H l = a1 at *
  generalize fC W H l = a2 at *
  generalize kR W H l = a3 at *
  generalize fR W H l = a4 at *
  refine Contract.intro (effS [] false) 6 follows Tryz.func19 rfl rfl (by kernel_rfl) (Nat.le_of_ble_eq_true rfl) ?_
  simp (disch := first | assumption | omega | rfl | simp only [RH]) only [↓RP, RG, FX, RQ, ↓reduceIte, Nat.reduceEqDiff, reduceCtorEq, Nat.reduceBEq, Nat.reduceAdd, Nat.reduceLeDiff, args0_1]
  refine callK_F 6 h1 (by simp (disch := first | assumption | omega | rfl | simp only [RH]) only [↓RP, RG, FX, RQ, ↓reduceIte, Nat.reduceEqDiff, reduceCtorEq, Nat.reduceBEq, Nat.reduceAdd, Nat.reduceLeDiff, RA] <;> rfl) (.inl (by simp [allFresh, ints_fresh])) ?_
  simp (disch := first | assumption | omega | rfl | simp only [RH]) only [↓RP, RG, FX, RQ, ↓reduceIte, Nat.reduceEqDiff, reduceCtorEq, Nat.reduceBEq, Nat.reduceAdd, Nat.reduceLeDiff, n1, n2]
  rw [resVal_3 rfl]; simp (disch := first | assumption | omega | rfl | simp only [RH]) only [↓RP, RG, FX, RQ, ↓reduceIte, Nat.reduceEqDiff, reduceCtorEq, Nat.reduceBEq, Nat.reduceAdd, Nat.reduceLeDiff, RS]
  first | done | rfl
end
end Go.Proofs.YtbhkhaaifielkaaGreatDoor

/- The least draft of a grid, by both; grids that are not valid. -/
set_option linter.unusedSimpArgs false
set_option linter.unusedVariables false
set_option maxRecDepth 100000
namespace Go.Proofs.YtbhkhaaifielkaaGreatDoor
open Go Go.Proofs Go.AW

theorem limE (env : List (Nat × AVal)) : ev env (.global 0) = .spot false [I 40, I 40] := rfl

section
variable (w h : Int) (b : Bool) (l : List Bool) (hz : gchk w h l.length ≠ 0)
include hz
end
end Go.Proofs.YtbhkhaaifielkaaGreatDoor

/- A table filled in another order. -/
set_option linter.unusedSimpArgs false
set_option linter.unusedVariables false
set_option maxRecDepth 100000
namespace Go.Proofs.YtbhkhaaifielkaaGreatDoor
open Go Go.Proofs Go.AW

end Go.Proofs.YtbhkhaaifielkaaGreatDoor

/- Drafts renumbered, by the reference. -/
set_option linter.unusedSimpArgs false
set_option linter.unusedVariables false
set_option maxRecDepth 100000
namespace Go.Proofs.YtbhkhaaifielkaaGreatDoor
open Go Go.Proofs Go.AW

end Go.Proofs.YtbhkhaaifielkaaGreatDoor

/- Least and Match of drafts, by both. -/
set_option linter.unusedSimpArgs false
set_option linter.unusedVariables false
set_option maxRecDepth 100000
namespace Go.Proofs.YtbhkhaaifielkaaGreatDoor
open Go Go.Proofs Go.AW

section
variable {s t : Int} {b1 : Bool} {th : List Int} {b2 : Bool} {td : List Int} {w h : Int} {b3 : Bool} {l : List Bool}
/-- All is used, and no two shafts or treadles are alike. -/
def lst4 (S T : Int) (th td : List Int) (l : List Bool) : Prop := ((nK th : Int) = S ∧ (nK td : Int) = T) ∧ ((fR T.toNat S.toNat l).length : Int) = S ∧ ((fC T.toNat S.toNat l).length : Int) = T
theorem leastP_ok (b1 b2 b3 : Bool) (hd : dOk s t th td w h l.length) (r : Bool) (hr : r = true ↔ lst4 s t th td l) : Contract Tryz.prog 18 [DA s t b1 th b2 td w h b3 l] (.tuple [B r, I 0]) := by
  have e1 := hd.2.2.1
  have e2 := hd.2.2.2.1
  have p1 := hd.2.2.2.2.1.1
  have p2 := hd.2.2.2.2.2.1.1
  obtain ⟨g1, g2, g3, g4, g5⟩ := hd.2.2.2.2.2.2.1
  obtain rfl : w = t := hd.2.2.2.2.2.2.2.1
  obtain rfl : h = s := hd.2.2.2.2.2.2.2.2
  obtain ⟨T, rfl⟩ : ∃ T : Nat, w = T := ⟨w.toNat, by omega⟩
  obtain ⟨S, rfl⟩ : ∃ S : Nat, h = S := ⟨h.toNat, by omega⟩
  have hn : l.length = T * S := by rw [← Int.natCast_mul] at g5; omega
  have hc := dcheckP_c S T b1 th b2 td T S b3 l (by omega) (by omega)
  rw [dchk_ok hd] at hc
  have hb := both_c (W := T) (H := S) (by omega) (by omega) (by omega) (by omega) b3 hn
  have hu := usesP_c S T b1 b2 T S b3 l (thV_of hd.2.2.2.2.1 (by omega) (by omega)) (thV_of hd.2.2.2.2.2.1 (by omega) (by omega)) p1 p2
  have n1 := nI_len (fC T S l)
  have n2 := nI_len (fR T S l)
  unfold lst4 at hr
  rw [Int.toNat_natCast, Int.toNat_natCast] at hr
  simp only [LN] at hb
  generalize nI (kC T S l) = a1 at *
  generalize nI (fC T S l) = a2 at *
  generalize nI (kR T S l) = a3 at *
  generalize nI (fR T S l) = a4 at *
  rw [← n1, ← n2] at hr
  have hno : ¬ (((nK th : Int) = S ∧ (nK td : Int) = T) ∧ (a4.length : Int) = S ∧ (a2.length : Int) = T) → r = false := fun h => by cases r with | false => rfl | true => exact absurd (hr.1 rfl) h
  by_cases c1 : (nK th : Int) = S ∧ (nK td : Int) = T
  · rw [decide_eq_true c1] at hu
    by_cases c2 : (a4.length : Int) = S
    · by_cases c3 : (a2.length : Int) = T
      · skip
        obtain rfl := hr.2 ⟨c1, c2, c3⟩
        refine Contract.intro (effS [] false) 6 follows Tryz.func18 rfl rfl (by kernel_rfl) (Nat.le_of_ble_eq_true rfl) ?_
        simp (disch := first | assumption | omega | rfl | simp only [RH]) only [↓RP, RG, FX, RQ, ↓reduceIte, Nat.reduceEqDiff, reduceCtorEq, Nat.reduceBEq, Nat.reduceAdd, Nat.reduceLeDiff, args0_1]
        refine callK_F 6 (hc) (by simp (disch := first | assumption | omega | rfl | simp only [RH]) only [↓RP, RG, FX, RQ, ↓reduceIte, Nat.reduceEqDiff, reduceCtorEq, Nat.reduceBEq, Nat.reduceAdd, Nat.reduceLeDiff, RA] <;> rfl) (.inl (by simp [allFresh, ints_fresh, bools_fresh])) ?_
        simp (disch := first | assumption | omega | rfl | simp only [RH]) only [↓RP, RG, FX, RQ, ↓reduceIte, Nat.reduceEqDiff, reduceCtorEq, Nat.reduceBEq, Nat.reduceAdd, Nat.reduceLeDiff]
        refine callK_F 6 hb (by simp (disch := first | assumption | omega | rfl | simp only [RH]) only [↓RP, RG, FX, RQ, ↓reduceIte, Nat.reduceEqDiff, reduceCtorEq, Nat.reduceBEq, Nat.reduceAdd, Nat.reduceLeDiff, RA] <;> rfl) (.inl (by simp [allFresh, ints_fresh])) ?_
        simp (disch := first | assumption | omega | rfl | simp only [RH]) only [↓RP, RG, FX, RQ, ↓reduceIte, Nat.reduceEqDiff, reduceCtorEq, Nat.reduceBEq, Nat.reduceAdd, Nat.reduceLeDiff]
        refine callK_F 6 (hu) (by simp (disch := first | assumption | omega | rfl | simp only [RH]) only [↓RP, RG, FX, RQ, ↓reduceIte, Nat.reduceEqDiff, reduceCtorEq, Nat.reduceBEq, Nat.reduceAdd, Nat.reduceLeDiff, RA] <;> rfl) (.inl (by simp [allFresh, ints_fresh, bools_fresh])) ?_
        simp (disch := first | assumption | omega | rfl | simp only [RH]) only [↓RP, RG, FX, RQ, ↓reduceIte, Nat.reduceEqDiff, reduceCtorEq, Nat.reduceBEq, Nat.reduceAdd, Nat.reduceLeDiff, c2, c3, beq_self_eq_true]
        rw [resVal_2 rfl]; simp (disch := first | assumption | omega | rfl | simp only [RH]) only [↓RP, RG, FX, RQ, ↓reduceIte, Nat.reduceEqDiff, reduceCtorEq, Nat.reduceBEq, Nat.reduceAdd, Nat.reduceLeDiff, RS]
        first | done | rfl
      · skip
        obtain rfl := hno fun h => c3 h.2.2
        refine Contract.intro (effS [] false) 6 follows Tryz.func18 rfl rfl (by kernel_rfl) (Nat.le_of_ble_eq_true rfl) ?_
        simp (disch := first | assumption | omega | rfl | simp only [RH]) only [↓RP, RG, FX, RQ, ↓reduceIte, Nat.reduceEqDiff, reduceCtorEq, Nat.reduceBEq, Nat.reduceAdd, Nat.reduceLeDiff, args0_1]
        refine callK_F 6 (hc) (by simp (disch := first | assumption | omega | rfl | simp only [RH]) only [↓RP, RG, FX, RQ, ↓reduceIte, Nat.reduceEqDiff, reduceCtorEq, Nat.reduceBEq, Nat.reduceAdd, Nat.reduceLeDiff, RA] <;> rfl) (.inl (by simp [allFresh, ints_fresh, bools_fresh])) ?_
        simp (disch := first | assumption | omega | rfl | simp only [RH]) only [↓RP, RG, FX, RQ, ↓reduceIte, Nat.reduceEqDiff, reduceCtorEq, Nat.reduceBEq, Nat.reduceAdd, Nat.reduceLeDiff]
        refine callK_F 6 hb (by simp (disch := first | assumption | omega | rfl | simp only [RH]) only [↓RP, RG, FX, RQ, ↓reduceIte, Nat.reduceEqDiff, reduceCtorEq, Nat.reduceBEq, Nat.reduceAdd, Nat.reduceLeDiff, RA] <;> rfl) (.inl (by simp [allFresh, ints_fresh])) ?_
        simp (disch := first | assumption | omega | rfl | simp only [RH]) only [↓RP, RG, FX, RQ, ↓reduceIte, Nat.reduceEqDiff, reduceCtorEq, Nat.reduceBEq, Nat.reduceAdd, Nat.reduceLeDiff]
        refine callK_F 6 (hu) (by simp (disch := first | assumption | omega | rfl | simp only [RH]) only [↓RP, RG, FX, RQ, ↓reduceIte, Nat.reduceEqDiff, reduceCtorEq, Nat.reduceBEq, Nat.reduceAdd, Nat.reduceLeDiff, RA] <;> rfl) (.inl (by simp [allFresh, ints_fresh, bools_fresh])) ?_
        simp (disch := first | assumption | omega | rfl | simp only [RH]) only [↓RP, RG, FX, RQ, ↓reduceIte, Nat.reduceEqDiff, reduceCtorEq, Nat.reduceBEq, Nat.reduceAdd, Nat.reduceLeDiff, c2, beq_self_eq_true]
        rw [resVal_2 rfl]; simp (disch := first | assumption | omega | rfl | simp only [RH]) only [↓RP, RG, FX, RQ, ↓reduceIte, Nat.reduceEqDiff, reduceCtorEq, Nat.reduceBEq, Nat.reduceAdd, Nat.reduceLeDiff, RS]
        first | done | rfl
    · obtain rfl := hno fun h => c2 h.2.1
      refine Contract.intro (effS [] false) 6 follows Tryz.func18 rfl rfl (by kernel_rfl) (Nat.le_of_ble_eq_true rfl) ?_
      simp (disch := first | assumption | omega | rfl | simp only [RH]) only [↓RP, RG, FX, RQ, ↓reduceIte, Nat.reduceEqDiff, reduceCtorEq, Nat.reduceBEq, Nat.reduceAdd, Nat.reduceLeDiff, args0_1]
      refine callK_F 6 (hc) (by simp (disch := first | assumption | omega | rfl | simp only [RH]) only [↓RP, RG, FX, RQ, ↓reduceIte, Nat.reduceEqDiff, reduceCtorEq, Nat.reduceBEq, Nat.reduceAdd, Nat.reduceLeDiff, RA] <;> rfl) (.inl (by simp [allFresh, ints_fresh, bools_fresh])) ?_
      simp (disch := first | assumption | omega | rfl | simp only [RH]) only [↓RP, RG, FX, RQ, ↓reduceIte, Nat.reduceEqDiff, reduceCtorEq, Nat.reduceBEq, Nat.reduceAdd, Nat.reduceLeDiff]
      refine callK_F 6 hb (by simp (disch := first | assumption | omega | rfl | simp only [RH]) only [↓RP, RG, FX, RQ, ↓reduceIte, Nat.reduceEqDiff, reduceCtorEq, Nat.reduceBEq, Nat.reduceAdd, Nat.reduceLeDiff, RA] <;> rfl) (.inl (by simp [allFresh, ints_fresh])) ?_
      simp (disch := first | assumption | omega | rfl | simp only [RH]) only [↓RP, RG, FX, RQ, ↓reduceIte, Nat.reduceEqDiff, reduceCtorEq, Nat.reduceBEq, Nat.reduceAdd, Nat.reduceLeDiff]
      refine callK_F 6 (hu) (by simp (disch := first | assumption | omega | rfl | simp only [RH]) only [↓RP, RG, FX, RQ, ↓reduceIte, Nat.reduceEqDiff, reduceCtorEq, Nat.reduceBEq, Nat.reduceAdd, Nat.reduceLeDiff, RA] <;> rfl) (.inl (by simp [allFresh, ints_fresh, bools_fresh])) ?_
      simp (disch := first | assumption | omega | rfl | simp only [RH]) only [↓RP, RG, FX, RQ, ↓reduceIte, Nat.reduceEqDiff, reduceCtorEq, Nat.reduceBEq, Nat.reduceAdd, Nat.reduceLeDiff]
      rw [resVal_2 rfl]; simp (disch := first | assumption | omega | rfl | simp only [RH]) only [↓RP, RG, FX, RQ, ↓reduceIte, Nat.reduceEqDiff, reduceCtorEq, Nat.reduceBEq, Nat.reduceAdd, Nat.reduceLeDiff, RS]
      first | done | rfl
  · rw [decide_eq_false c1] at hu
    obtain rfl := hno fun h => c1 h.1
    refine Contract.intro (effS [] false) 6 follows Tryz.func18 rfl rfl (by kernel_rfl) (Nat.le_of_ble_eq_true rfl) ?_
    simp (disch := first | assumption | omega | rfl | simp only [RH]) only [↓RP, RG, FX, RQ, ↓reduceIte, Nat.reduceEqDiff, reduceCtorEq, Nat.reduceBEq, Nat.reduceAdd, Nat.reduceLeDiff, args0_1]
    refine callK_F 6 (hc) (by simp (disch := first | assumption | omega | rfl | simp only [RH]) only [↓RP, RG, FX, RQ, ↓reduceIte, Nat.reduceEqDiff, reduceCtorEq, Nat.reduceBEq, Nat.reduceAdd, Nat.reduceLeDiff, RA] <;> rfl) (.inl (by simp [allFresh, ints_fresh, bools_fresh])) ?_
    simp (disch := first | assumption | omega | rfl | simp only [RH]) only [↓RP, RG, FX, RQ, ↓reduceIte, Nat.reduceEqDiff, reduceCtorEq, Nat.reduceBEq, Nat.reduceAdd, Nat.reduceLeDiff]
    refine callK_F 6 hb (by simp (disch := first | assumption | omega | rfl | simp only [RH]) only [↓RP, RG, FX, RQ, ↓reduceIte, Nat.reduceEqDiff, reduceCtorEq, Nat.reduceBEq, Nat.reduceAdd, Nat.reduceLeDiff, RA] <;> rfl) (.inl (by simp [allFresh, ints_fresh])) ?_
    simp (disch := first | assumption | omega | rfl | simp only [RH]) only [↓RP, RG, FX, RQ, ↓reduceIte, Nat.reduceEqDiff, reduceCtorEq, Nat.reduceBEq, Nat.reduceAdd, Nat.reduceLeDiff]
    refine callK_F 6 (hu) (by simp (disch := first | assumption | omega | rfl | simp only [RH]) only [↓RP, RG, FX, RQ, ↓reduceIte, Nat.reduceEqDiff, reduceCtorEq, Nat.reduceBEq, Nat.reduceAdd, Nat.reduceLeDiff, RA] <;> rfl) (.inl (by simp [allFresh, ints_fresh, bools_fresh])) ?_
    simp (disch := first | assumption | omega | rfl | simp only [RH]) only [↓RP, RG, FX, RQ, ↓reduceIte, Nat.reduceEqDiff, reduceCtorEq, Nat.reduceBEq, Nat.reduceAdd, Nat.reduceLeDiff]
    rw [resVal_2 rfl]; simp (disch := first | assumption | omega | rfl | simp only [RH]) only [↓RP, RG, FX, RQ, ↓reduceIte, Nat.reduceEqDiff, reduceCtorEq, Nat.reduceBEq, Nat.reduceAdd, Nat.reduceLeDiff, RS]
    first | done | rfl
end
end Go.Proofs.YtbhkhaaifielkaaGreatDoor
