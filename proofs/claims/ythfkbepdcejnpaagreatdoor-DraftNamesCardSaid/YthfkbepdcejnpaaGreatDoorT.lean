/- Closed facts on the types. -/
import Derived.Test.YthfkbepdcejnpaaGreatDoorProg
import Derived.Test.YthfkbepdcejnpaaGreatDoorBw3
namespace Go.Proofs.YthfkbepdcejnpaaGreatDoor
open Go Go.Proofs Go.AW
theorem follows : Tryz.prog.follows .mixedOrders = true := by kernel_rfl
-- 2: int64
theorem ag2 : agT Tryz.prog 2 = some (false, 1) := by kernel_rfl
theorem zc2 : zT Tryz.prog 2 = some ([I 0], 1) := by kernel_rfl
-- 3: int
theorem ag3 : agT Tryz.prog 3 = some (false, 1) := by kernel_rfl
theorem zc3 : zT Tryz.prog 3 = some ([I 0], 1) := by kernel_rfl
-- 4: bool
theorem ag4 : agT Tryz.prog 4 = some (false, 1) := by kernel_rfl
theorem zc4 : zT Tryz.prog 4 = some ([B false], 1) := by kernel_rfl
instance bo4 : BoT Tryz.prog 4 := ⟨by kernel_rfl⟩
-- 5: uint8
theorem ag5 : agT Tryz.prog 5 = some (false, 1) := by kernel_rfl
theorem zc5 : zT Tryz.prog 5 = some ([.val (.int .u8 0)], 1) := by kernel_rfl
-- 9: string
theorem ag9 : agT Tryz.prog 9 = some (false, 1) := by kernel_rfl
theorem zc9 : zT Tryz.prog 9 = some ([.val (.string ⟨#[]⟩)], 1) := by kernel_rfl
-- 21: int32
theorem ag21 : agT Tryz.prog 21 = some (false, 1) := by kernel_rfl
theorem zc21 : zT Tryz.prog 21 = some ([.val (.int .i32 0)], 1) := by kernel_rfl
-- 22: []int
theorem ag22 : agT Tryz.prog 22 = some (false, 1) := by kernel_rfl
theorem zc22 : zT Tryz.prog 22 = some ([.cap0 true], 1) := by kernel_rfl
instance S22 : SlT Tryz.prog 22 3 8 (.int .i64 0) := SlT.of (by kernel_rfl) (by kernel_rfl)
-- 23: []bool
theorem ag23 : agT Tryz.prog 23 = some (false, 1) := by kernel_rfl
theorem zc23 : zT Tryz.prog 23 = some ([.cap0 true], 1) := by kernel_rfl
instance S23 : SlT Tryz.prog 23 4 1 (.bool false) := SlT.of (by kernel_rfl) (by kernel_rfl)
-- 25: api.Grid
theorem ag25 : agT Tryz.prog 25 = some (true, 3) := by kernel_rfl
theorem zc25 : zT Tryz.prog 25 = some ([I 0, I 0, .cap0 true], 3) := by kernel_rfl
theorem fo25_0 : fOff Tryz.prog 25 0 = some 0 := by kernel_rfl
theorem ft25_0 : fOT Tryz.prog 25 0 = some (0, 3) := by kernel_rfl
theorem fo25_1 : fOff Tryz.prog 25 1 = some 1 := by kernel_rfl
theorem ft25_1 : fOT Tryz.prog 25 1 = some (1, 3) := by kernel_rfl
theorem fo25_2 : fOff Tryz.prog 25 2 = some 2 := by kernel_rfl
theorem ft25_2 : fOT Tryz.prog 25 2 = some (2, 23) := by kernel_rfl
theorem fl25 : flT Tryz.prog 25 = some ([(0, 1), (1, 1), (2, 1)], [I 0, I 0, .cap0 true]) := by kernel_rfl
-- 27: api.Draft
theorem ag27 : agT Tryz.prog 27 = some (true, 7) := by kernel_rfl
theorem zc27 : zT Tryz.prog 27 = some ([I 0, I 0, .cap0 true, .cap0 true, I 0, I 0, .cap0 true], 7) := by kernel_rfl
theorem fo27_0 : fOff Tryz.prog 27 0 = some 0 := by kernel_rfl
theorem ft27_0 : fOT Tryz.prog 27 0 = some (0, 3) := by kernel_rfl
theorem fo27_1 : fOff Tryz.prog 27 1 = some 1 := by kernel_rfl
theorem ft27_1 : fOT Tryz.prog 27 1 = some (1, 3) := by kernel_rfl
theorem fo27_2 : fOff Tryz.prog 27 2 = some 2 := by kernel_rfl
theorem ft27_2 : fOT Tryz.prog 27 2 = some (2, 22) := by kernel_rfl
theorem fo27_3 : fOff Tryz.prog 27 3 = some 3 := by kernel_rfl
theorem ft27_3 : fOT Tryz.prog 27 3 = some (3, 22) := by kernel_rfl
theorem fo27_4 : fOff Tryz.prog 27 4 = some 4 := by kernel_rfl
theorem ft27_4 : fOT Tryz.prog 27 4 = some (4, 25) := by kernel_rfl
theorem fl27 : flT Tryz.prog 27 = some ([(0, 1), (1, 1), (2, 1), (3, 1), (4, 3)], [I 0, I 0, .cap0 true, .cap0 true, I 0, I 0, .cap0 true]) := by kernel_rfl
-- 28: api.Errno
theorem ag28 : agT Tryz.prog 28 = some (false, 1) := by kernel_rfl
theorem zc28 : zT Tryz.prog 28 = some ([I 0], 1) := by kernel_rfl
-- 53: [2]int
theorem ag53 : agT Tryz.prog 53 = some (true, 2) := by kernel_rfl
theorem zc53 : zT Tryz.prog 53 = some ([I 0, I 0], 2) := by kernel_rfl
instance nc53 : NumT Tryz.prog 53 2 := ⟨by kernel_rfl⟩
theorem fl53 : flT Tryz.prog 53 = some ([(0, 1), (1, 1)], [I 0, I 0]) := by kernel_rfl
-- 57: *api.Draft
theorem ag57 : agT Tryz.prog 57 = some (false, 1) := by kernel_rfl
theorem zc57 : zT Tryz.prog 57 = some ([.val (.pointer none)], 1) := by kernel_rfl
-- 58: func(int, int) bool
theorem ag58 : agT Tryz.prog 58 = some (false, 1) := by kernel_rfl
theorem zc58 : zT Tryz.prog 58 = some ([.val .nilFunc], 1) := by kernel_rfl
-- 64: func(api.Grid) ([]int, api.Errno)
theorem ag64 : agT Tryz.prog 64 = some (false, 1) := by kernel_rfl
theorem zc64 : zT Tryz.prog 64 = some ([.val .nilFunc], 1) := by kernel_rfl
-- 70: []string
theorem ag70 : agT Tryz.prog 70 = some (false, 1) := by kernel_rfl
theorem zc70 : zT Tryz.prog 70 = some ([.cap0 true], 1) := by kernel_rfl
instance S70 : SlT Tryz.prog 70 9 16 (.string ⟨#[]⟩) := SlT.of (by kernel_rfl) (by kernel_rfl)
-- 74: func(int) []bool
theorem ag74 : agT Tryz.prog 74 = some (false, 1) := by kernel_rfl
theorem zc74 : zT Tryz.prog 74 = some ([.val .nilFunc], 1) := by kernel_rfl
-- 76: [][]bool
theorem ag76 : agT Tryz.prog 76 = some (false, 1) := by kernel_rfl
theorem zc76 : zT Tryz.prog 76 = some ([.cap0 true], 1) := by kernel_rfl
instance S76 : SlT Tryz.prog 76 23 24 (.slice none 0 0) := SlT.of (by kernel_rfl) (by kernel_rfl)
-- 79: func([]bool) bool
theorem ag79 : agT Tryz.prog 79 = some (false, 1) := by kernel_rfl
theorem zc79 : zT Tryz.prog 79 = some ([.val .nilFunc], 1) := by kernel_rfl
-- 90: [400]bool
theorem ag90 : agT Tryz.prog 90 = some (true, 400) := by kernel_rfl
theorem zc90 : zT Tryz.prog 90 = some (bools (List.replicate 400 false), 400) := by kernel_rfl
theorem fl90 : flT Tryz.prog 90 = some ([(0, 1), (1, 1), (2, 1), (3, 1), (4, 1), (5, 1), (6, 1), (7, 1), (8, 1), (9, 1), (10, 1), (11, 1), (12, 1), (13, 1), (14, 1), (15, 1), (16, 1), (17, 1), (18, 1), (19, 1), (20, 1), (21, 1), (22, 1), (23, 1), (24, 1), (25, 1), (26, 1), (27, 1), (28, 1), (29, 1), (30, 1), (31, 1), (32, 1), (33, 1), (34, 1), (35, 1), (36, 1), (37, 1), (38, 1), (39, 1), (40, 1), (41, 1), (42, 1), (43, 1), (44, 1), (45, 1), (46, 1), (47, 1), (48, 1), (49, 1), (50, 1), (51, 1), (52, 1), (53, 1), (54, 1), (55, 1), (56, 1), (57, 1), (58, 1), (59, 1), (60, 1), (61, 1), (62, 1), (63, 1), (64, 1), (65, 1), (66, 1), (67, 1), (68, 1), (69, 1), (70, 1), (71, 1), (72, 1), (73, 1), (74, 1), (75, 1), (76, 1), (77, 1), (78, 1), (79, 1), (80, 1), (81, 1), (82, 1), (83, 1), (84, 1), (85, 1), (86, 1), (87, 1), (88, 1), (89, 1), (90, 1), (91, 1), (92, 1), (93, 1), (94, 1), (95, 1), (96, 1), (97, 1), (98, 1), (99, 1), (100, 1), (101, 1), (102, 1), (103, 1), (104, 1), (105, 1), (106, 1), (107, 1), (108, 1), (109, 1), (110, 1), (111, 1), (112, 1), (113, 1), (114, 1), (115, 1), (116, 1), (117, 1), (118, 1), (119, 1), (120, 1), (121, 1), (122, 1), (123, 1), (124, 1), (125, 1), (126, 1), (127, 1), (128, 1), (129, 1), (130, 1), (131, 1), (132, 1), (133, 1), (134, 1), (135, 1), (136, 1), (137, 1), (138, 1), (139, 1), (140, 1), (141, 1), (142, 1), (143, 1), (144, 1), (145, 1), (146, 1), (147, 1), (148, 1), (149, 1), (150, 1), (151, 1), (152, 1), (153, 1), (154, 1), (155, 1), (156, 1), (157, 1), (158, 1), (159, 1), (160, 1), (161, 1), (162, 1), (163, 1), (164, 1), (165, 1), (166, 1), (167, 1), (168, 1), (169, 1), (170, 1), (171, 1), (172, 1), (173, 1), (174, 1), (175, 1), (176, 1), (177, 1), (178, 1), (179, 1), (180, 1), (181, 1), (182, 1), (183, 1), (184, 1), (185, 1), (186, 1), (187, 1), (188, 1), (189, 1), (190, 1), (191, 1), (192, 1), (193, 1), (194, 1), (195, 1), (196, 1), (197, 1), (198, 1), (199, 1), (200, 1), (201, 1), (202, 1), (203, 1), (204, 1), (205, 1), (206, 1), (207, 1), (208, 1), (209, 1), (210, 1), (211, 1), (212, 1), (213, 1), (214, 1), (215, 1), (216, 1), (217, 1), (218, 1), (219, 1), (220, 1), (221, 1), (222, 1), (223, 1), (224, 1), (225, 1), (226, 1), (227, 1), (228, 1), (229, 1), (230, 1), (231, 1), (232, 1), (233, 1), (234, 1), (235, 1), (236, 1), (237, 1), (238, 1), (239, 1), (240, 1), (241, 1), (242, 1), (243, 1), (244, 1), (245, 1), (246, 1), (247, 1), (248, 1), (249, 1), (250, 1), (251, 1), (252, 1), (253, 1), (254, 1), (255, 1), (256, 1), (257, 1), (258, 1), (259, 1), (260, 1), (261, 1), (262, 1), (263, 1), (264, 1), (265, 1), (266, 1), (267, 1), (268, 1), (269, 1), (270, 1), (271, 1), (272, 1), (273, 1), (274, 1), (275, 1), (276, 1), (277, 1), (278, 1), (279, 1), (280, 1), (281, 1), (282, 1), (283, 1), (284, 1), (285, 1), (286, 1), (287, 1), (288, 1), (289, 1), (290, 1), (291, 1), (292, 1), (293, 1), (294, 1), (295, 1), (296, 1), (297, 1), (298, 1), (299, 1), (300, 1), (301, 1), (302, 1), (303, 1), (304, 1), (305, 1), (306, 1), (307, 1), (308, 1), (309, 1), (310, 1), (311, 1), (312, 1), (313, 1), (314, 1), (315, 1), (316, 1), (317, 1), (318, 1), (319, 1), (320, 1), (321, 1), (322, 1), (323, 1), (324, 1), (325, 1), (326, 1), (327, 1), (328, 1), (329, 1), (330, 1), (331, 1), (332, 1), (333, 1), (334, 1), (335, 1), (336, 1), (337, 1), (338, 1), (339, 1), (340, 1), (341, 1), (342, 1), (343, 1), (344, 1), (345, 1), (346, 1), (347, 1), (348, 1), (349, 1), (350, 1), (351, 1), (352, 1), (353, 1), (354, 1), (355, 1), (356, 1), (357, 1), (358, 1), (359, 1), (360, 1), (361, 1), (362, 1), (363, 1), (364, 1), (365, 1), (366, 1), (367, 1), (368, 1), (369, 1), (370, 1), (371, 1), (372, 1), (373, 1), (374, 1), (375, 1), (376, 1), (377, 1), (378, 1), (379, 1), (380, 1), (381, 1), (382, 1), (383, 1), (384, 1), (385, 1), (386, 1), (387, 1), (388, 1), (389, 1), (390, 1), (391, 1), (392, 1), (393, 1), (394, 1), (395, 1), (396, 1), (397, 1), (398, 1), (399, 1)], bools (List.replicate 400 false)) := by kernel_rfl
-- 91: *strings.Builder
theorem ag91 : agT Tryz.prog 91 = some (false, 1) := by kernel_rfl
theorem zc91 : zT Tryz.prog 91 = some ([.val (.pointer none)], 1) := by kernel_rfl
-- 92: []uint8
theorem ag92 : agT Tryz.prog 92 = some (false, 1) := by kernel_rfl
theorem zc92 : zT Tryz.prog 92 = some ([.cap0 true], 1) := by kernel_rfl
instance S92 : SlT Tryz.prog 92 5 1 (.int .u8 0) := SlT.of (by kernel_rfl) (by kernel_rfl)
-- 94: strings.Builder
theorem ag94 : agT Tryz.prog 94 = some (true, 2) := by kernel_rfl
theorem zc94 : zT Tryz.prog 94 = some ([.val (.pointer none), .cap0 true], 2) := by kernel_rfl
theorem fo94_0 : fOff Tryz.prog 94 0 = some 0 := by kernel_rfl
theorem ft94_0 : fOT Tryz.prog 94 0 = some (0, 91) := by kernel_rfl
theorem fo94_1 : fOff Tryz.prog 94 1 = some 1 := by kernel_rfl
theorem ft94_1 : fOT Tryz.prog 94 1 = some (1, 92) := by kernel_rfl
theorem fl94 : flT Tryz.prog 94 = some ([(0, 1), (1, 1)], [.val (.pointer none), .cap0 true]) := by kernel_rfl
-- 96: error
theorem ag96 : agT Tryz.prog 96 = some (false, 1) := by kernel_rfl
theorem zc96 : zT Tryz.prog 96 = some ([.val .nilIface], 1) := by kernel_rfl
-- 101: strings.asciiSet
theorem ag101 : agT Tryz.prog 101 = some (true, 256) := by kernel_rfl
theorem zc101 : zT Tryz.prog 101 = some (bools (List.replicate 256 false), 256) := by kernel_rfl
theorem fl101 : flT Tryz.prog 101 = some ([(0, 1), (1, 1), (2, 1), (3, 1), (4, 1), (5, 1), (6, 1), (7, 1), (8, 1), (9, 1), (10, 1), (11, 1), (12, 1), (13, 1), (14, 1), (15, 1), (16, 1), (17, 1), (18, 1), (19, 1), (20, 1), (21, 1), (22, 1), (23, 1), (24, 1), (25, 1), (26, 1), (27, 1), (28, 1), (29, 1), (30, 1), (31, 1), (32, 1), (33, 1), (34, 1), (35, 1), (36, 1), (37, 1), (38, 1), (39, 1), (40, 1), (41, 1), (42, 1), (43, 1), (44, 1), (45, 1), (46, 1), (47, 1), (48, 1), (49, 1), (50, 1), (51, 1), (52, 1), (53, 1), (54, 1), (55, 1), (56, 1), (57, 1), (58, 1), (59, 1), (60, 1), (61, 1), (62, 1), (63, 1), (64, 1), (65, 1), (66, 1), (67, 1), (68, 1), (69, 1), (70, 1), (71, 1), (72, 1), (73, 1), (74, 1), (75, 1), (76, 1), (77, 1), (78, 1), (79, 1), (80, 1), (81, 1), (82, 1), (83, 1), (84, 1), (85, 1), (86, 1), (87, 1), (88, 1), (89, 1), (90, 1), (91, 1), (92, 1), (93, 1), (94, 1), (95, 1), (96, 1), (97, 1), (98, 1), (99, 1), (100, 1), (101, 1), (102, 1), (103, 1), (104, 1), (105, 1), (106, 1), (107, 1), (108, 1), (109, 1), (110, 1), (111, 1), (112, 1), (113, 1), (114, 1), (115, 1), (116, 1), (117, 1), (118, 1), (119, 1), (120, 1), (121, 1), (122, 1), (123, 1), (124, 1), (125, 1), (126, 1), (127, 1), (128, 1), (129, 1), (130, 1), (131, 1), (132, 1), (133, 1), (134, 1), (135, 1), (136, 1), (137, 1), (138, 1), (139, 1), (140, 1), (141, 1), (142, 1), (143, 1), (144, 1), (145, 1), (146, 1), (147, 1), (148, 1), (149, 1), (150, 1), (151, 1), (152, 1), (153, 1), (154, 1), (155, 1), (156, 1), (157, 1), (158, 1), (159, 1), (160, 1), (161, 1), (162, 1), (163, 1), (164, 1), (165, 1), (166, 1), (167, 1), (168, 1), (169, 1), (170, 1), (171, 1), (172, 1), (173, 1), (174, 1), (175, 1), (176, 1), (177, 1), (178, 1), (179, 1), (180, 1), (181, 1), (182, 1), (183, 1), (184, 1), (185, 1), (186, 1), (187, 1), (188, 1), (189, 1), (190, 1), (191, 1), (192, 1), (193, 1), (194, 1), (195, 1), (196, 1), (197, 1), (198, 1), (199, 1), (200, 1), (201, 1), (202, 1), (203, 1), (204, 1), (205, 1), (206, 1), (207, 1), (208, 1), (209, 1), (210, 1), (211, 1), (212, 1), (213, 1), (214, 1), (215, 1), (216, 1), (217, 1), (218, 1), (219, 1), (220, 1), (221, 1), (222, 1), (223, 1), (224, 1), (225, 1), (226, 1), (227, 1), (228, 1), (229, 1), (230, 1), (231, 1), (232, 1), (233, 1), (234, 1), (235, 1), (236, 1), (237, 1), (238, 1), (239, 1), (240, 1), (241, 1), (242, 1), (243, 1), (244, 1), (245, 1), (246, 1), (247, 1), (248, 1), (249, 1), (250, 1), (251, 1), (252, 1), (253, 1), (254, 1), (255, 1)], bools (List.replicate 256 false)) := by kernel_rfl
-- 105: *strings.asciiSet
theorem ag105 : agT Tryz.prog 105 = some (false, 1) := by kernel_rfl
theorem zc105 : zT Tryz.prog 105 = some ([.val (.pointer none)], 1) := by kernel_rfl
-- 109: iter.Seq[int]
theorem ag109 : agT Tryz.prog 109 = some (false, 1) := by kernel_rfl
theorem zc109 : zT Tryz.prog 109 = some ([.val .nilFunc], 1) := by kernel_rfl
-- 113: []factor.line
theorem ag113 : agT Tryz.prog 113 = some (false, 1) := by kernel_rfl
theorem zc113 : zT Tryz.prog 113 = some ([.cap0 true], 1) := by kernel_rfl
instance SM113 : SlM Tryz.prog 113 65 := ⟨by kernel_rfl⟩
instance LT113_1 : LitT Tryz.prog 113 1 [(0, 65)] [B false, B false, B false, B false, B false, B false, B false, B false, B false, B false, B false, B false, B false, B false, B false, B false, B false, B false, B false, B false, B false, B false, B false, B false, B false, B false, B false, B false, B false, B false, B false, B false, B false, B false, B false, B false, B false, B false, B false, B false, B false, B false, B false, B false, B false, B false, B false, B false, B false, B false, B false, B false, B false, B false, B false, B false, B false, B false, B false, B false, B false, B false, B false, B false, I 0] := ⟨by kernel_rfl⟩
-- 115: [64]bool
theorem ag115 : agT Tryz.prog 115 = some (true, 64) := by kernel_rfl
theorem zc115 : zT Tryz.prog 115 = some (bools (List.replicate 64 false), 64) := by kernel_rfl
theorem fl115 : flT Tryz.prog 115 = some ([(0, 1), (1, 1), (2, 1), (3, 1), (4, 1), (5, 1), (6, 1), (7, 1), (8, 1), (9, 1), (10, 1), (11, 1), (12, 1), (13, 1), (14, 1), (15, 1), (16, 1), (17, 1), (18, 1), (19, 1), (20, 1), (21, 1), (22, 1), (23, 1), (24, 1), (25, 1), (26, 1), (27, 1), (28, 1), (29, 1), (30, 1), (31, 1), (32, 1), (33, 1), (34, 1), (35, 1), (36, 1), (37, 1), (38, 1), (39, 1), (40, 1), (41, 1), (42, 1), (43, 1), (44, 1), (45, 1), (46, 1), (47, 1), (48, 1), (49, 1), (50, 1), (51, 1), (52, 1), (53, 1), (54, 1), (55, 1), (56, 1), (57, 1), (58, 1), (59, 1), (60, 1), (61, 1), (62, 1), (63, 1)], bools (List.replicate 64 false)) := by kernel_rfl
-- 117: factor.line
theorem ag117 : agT Tryz.prog 117 = some (true, 65) := by kernel_rfl
theorem fo117_0 : fOff Tryz.prog 117 0 = some 0 := by kernel_rfl
theorem ft117_0 : fOT Tryz.prog 117 0 = some (0, 115) := by kernel_rfl
theorem fo117_1 : fOff Tryz.prog 117 1 = some 64 := by kernel_rfl
theorem ft117_1 : fOT Tryz.prog 117 1 = some (64, 3) := by kernel_rfl
-- 118: uint
theorem ag118 : agT Tryz.prog 118 = some (false, 1) := by kernel_rfl
theorem zc118 : zT Tryz.prog 118 = some ([.val (.int .u64 0)], 1) := by kernel_rfl
-- 121: [][]int
theorem ag121 : agT Tryz.prog 121 = some (false, 1) := by kernel_rfl
theorem zc121 : zT Tryz.prog 121 = some ([.cap0 true], 1) := by kernel_rfl
instance S121 : SlT Tryz.prog 121 22 24 (.slice none 0 0) := SlT.of (by kernel_rfl) (by kernel_rfl)
-- 122: *uint8
theorem ag122 : agT Tryz.prog 122 = some (false, 1) := by kernel_rfl
theorem zc122 : zT Tryz.prog 122 = some ([.val (.pointer none)], 1) := by kernel_rfl
-- 131: func(int) bool
theorem ag131 : agT Tryz.prog 131 = some (false, 1) := by kernel_rfl
theorem zc131 : zT Tryz.prog 131 = some ([.val .nilFunc], 1) := by kernel_rfl
-- 135: uint64
theorem ag135 : agT Tryz.prog 135 = some (false, 1) := by kernel_rfl
theorem zc135 : zT Tryz.prog 135 = some ([.val (.int .u64 0)], 1) := by kernel_rfl
-- 138: unsafe.Pointer
theorem ag138 : agT Tryz.prog 138 = some (false, 1) := by kernel_rfl
theorem zc138 : zT Tryz.prog 138 = some ([.val (.pointer none)], 1) := by kernel_rfl
-- 153: slices.sortedHint
theorem ag153 : agT Tryz.prog 153 = some (false, 1) := by kernel_rfl
theorem zc153 : zT Tryz.prog 153 = some ([I 0], 1) := by kernel_rfl
-- 162: slices.xorshift
theorem ag162 : agT Tryz.prog 162 = some (false, 1) := by kernel_rfl
theorem zc162 : zT Tryz.prog 162 = some ([.val (.int .u64 0)], 1) := by kernel_rfl
-- 166: *int
theorem ag166 : agT Tryz.prog 166 = some (false, 1) := by kernel_rfl
theorem zc166 : zT Tryz.prog 166 = some ([.val (.pointer none)], 1) := by kernel_rfl
-- 168: *slices.xorshift
theorem ag168 : agT Tryz.prog 168 = some (false, 1) := by kernel_rfl
theorem zc168 : zT Tryz.prog 168 = some ([.val (.pointer none)], 1) := by kernel_rfl

theorem FX : type_of% @ag2 ∧ type_of% @zc2 ∧ type_of% @ag3 ∧ type_of% @zc3 ∧ type_of% @ag4 ∧ type_of% @zc4 ∧ type_of% @ag5 ∧ type_of% @zc5 ∧ type_of% @ag9 ∧ type_of% @zc9 ∧ type_of% @ag21 ∧ type_of% @zc21 ∧ type_of% @ag22 ∧ type_of% @zc22 ∧ type_of% @ag23 ∧ type_of% @zc23 ∧ type_of% @ag25 ∧ type_of% @zc25 ∧ type_of% @fo25_0 ∧ type_of% @ft25_0 ∧ type_of% @fo25_1 ∧ type_of% @ft25_1 ∧ type_of% @fo25_2 ∧ type_of% @ft25_2 ∧ type_of% @fl25 ∧ type_of% @ag27 ∧ type_of% @zc27 ∧ type_of% @fo27_0 ∧ type_of% @ft27_0 ∧ type_of% @fo27_1 ∧ type_of% @ft27_1 ∧ type_of% @fo27_2 ∧ type_of% @ft27_2 ∧ type_of% @fo27_3 ∧ type_of% @ft27_3 ∧ type_of% @fo27_4 ∧ type_of% @ft27_4 ∧ type_of% @fl27 ∧ type_of% @ag28 ∧ type_of% @zc28 ∧ type_of% @ag53 ∧ type_of% @zc53 ∧ type_of% @fl53 ∧ type_of% @ag57 ∧ type_of% @zc57 ∧ type_of% @ag58 ∧ type_of% @zc58 ∧ type_of% @ag64 ∧ type_of% @zc64 ∧ type_of% @ag70 ∧ type_of% @zc70 ∧ type_of% @ag74 ∧ type_of% @zc74 ∧ type_of% @ag76 ∧ type_of% @zc76 ∧ type_of% @ag79 ∧ type_of% @zc79 ∧ type_of% @ag90 ∧ type_of% @zc90 ∧ type_of% @fl90 ∧ type_of% @ag91 ∧ type_of% @zc91 ∧ type_of% @ag92 ∧ type_of% @zc92 ∧ type_of% @ag94 ∧ type_of% @zc94 ∧ type_of% @fo94_0 ∧ type_of% @ft94_0 ∧ type_of% @fo94_1 ∧ type_of% @ft94_1 ∧ type_of% @fl94 ∧ type_of% @ag96 ∧ type_of% @zc96 ∧ type_of% @ag101 ∧ type_of% @zc101 ∧ type_of% @fl101 ∧ type_of% @ag105 ∧ type_of% @zc105 ∧ type_of% @ag109 ∧ type_of% @zc109 ∧ type_of% @ag113 ∧ type_of% @zc113 ∧ type_of% @ag115 ∧ type_of% @zc115 ∧ type_of% @fl115 ∧ type_of% @ag117 ∧ type_of% @fo117_0 ∧ type_of% @ft117_0 ∧ type_of% @fo117_1 ∧ type_of% @ft117_1 ∧ type_of% @ag118 ∧ type_of% @zc118 ∧ type_of% @ag121 ∧ type_of% @zc121 ∧ type_of% @ag122 ∧ type_of% @zc122 ∧ type_of% @ag131 ∧ type_of% @zc131 ∧ type_of% @ag135 ∧ type_of% @zc135 ∧ type_of% @ag138 ∧ type_of% @zc138 ∧ type_of% @ag153 ∧ type_of% @zc153 ∧ type_of% @ag162 ∧ type_of% @zc162 ∧ type_of% @ag166 ∧ type_of% @zc166 ∧ type_of% @ag168 ∧ type_of% @zc168 :=
  ⟨@ag2, @zc2, @ag3, @zc3, @ag4, @zc4, @ag5, @zc5, @ag9, @zc9, @ag21, @zc21, @ag22, @zc22, @ag23, @zc23, @ag25, @zc25, @fo25_0, @ft25_0, @fo25_1, @ft25_1, @fo25_2, @ft25_2, @fl25, @ag27, @zc27, @fo27_0, @ft27_0, @fo27_1, @ft27_1, @fo27_2, @ft27_2, @fo27_3, @ft27_3, @fo27_4, @ft27_4, @fl27, @ag28, @zc28, @ag53, @zc53, @fl53, @ag57, @zc57, @ag58, @zc58, @ag64, @zc64, @ag70, @zc70, @ag74, @zc74, @ag76, @zc76, @ag79, @zc79, @ag90, @zc90, @fl90, @ag91, @zc91, @ag92, @zc92, @ag94, @zc94, @fo94_0, @ft94_0, @fo94_1, @ft94_1, @fl94, @ag96, @zc96, @ag101, @zc101, @fl101, @ag105, @zc105, @ag109, @zc109, @ag113, @zc113, @ag115, @zc115, @fl115, @ag117, @fo117_0, @ft117_0, @fo117_1, @ft117_1, @ag118, @zc118, @ag121, @zc121, @ag122, @zc122, @ag131, @zc131, @ag135, @zc135, @ag138, @zc138, @ag153, @zc153, @ag162, @zc162, @ag166, @zc166, @ag168, @zc168⟩
end Go.Proofs.YthfkbepdcejnpaaGreatDoor
