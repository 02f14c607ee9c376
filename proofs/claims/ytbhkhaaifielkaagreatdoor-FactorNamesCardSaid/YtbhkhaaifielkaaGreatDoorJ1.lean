/- Part 1 of the proof's own texts: the contracts of functions, and what they rest on. -/
import Derived.Test.YtbhkhaaifielkaaGreatDoorProg
import Derived.Test.YtbhkhaaifielkaaGreatDoorBw3
import Derived.Test.YtbhkhaaifielkaaGreatDoorBw4
/- Closed facts on the types. -/
namespace Go.Proofs.YtbhkhaaifielkaaGreatDoor
open Go Go.Proofs Go.AW
theorem follows : Tryz.prog.follows .mixedOrders = true := by kernel_rfl
-- 2: int64
theorem ag2 : agT Tryz.prog 2 = some (false, 1) := by kernel_rfl
theorem zc2 : zT Tryz.prog 2 = some ([I 0], 1) := by kernel_rfl
-- 3: int
theorem ag3 : agT Tryz.prog 3 = some (false, 1) := by kernel_rfl
theorem zc3 : zT Tryz.prog 3 = some ([I 0], 1) := by kernel_rfl
-- 4: bool
theorem ag4 : agT Tryz.prog 4 = some (false, 1) := by kernel_rfl
theorem zc4 : zT Tryz.prog 4 = some ([B false], 1) := by kernel_rfl
instance bo4 : BoT Tryz.prog 4 := ⟨by kernel_rfl⟩
-- 5: uint8
theorem ag5 : agT Tryz.prog 5 = some (false, 1) := by kernel_rfl
theorem zc5 : zT Tryz.prog 5 = some ([.val (.int .u8 0)], 1) := by kernel_rfl
-- 9: string
theorem ag9 : agT Tryz.prog 9 = some (false, 1) := by kernel_rfl
theorem zc9 : zT Tryz.prog 9 = some ([.val (.string ⟨#[]⟩)], 1) := by kernel_rfl
-- 21: int32
theorem ag21 : agT Tryz.prog 21 = some (false, 1) := by kernel_rfl
theorem zc21 : zT Tryz.prog 21 = some ([.val (.int .i32 0)], 1) := by kernel_rfl
-- 22: []int
theorem ag22 : agT Tryz.prog 22 = some (false, 1) := by kernel_rfl
theorem zc22 : zT Tryz.prog 22 = some ([.cap0 true], 1) := by kernel_rfl
instance S22 : SlT Tryz.prog 22 3 8 (.int .i64 0) := SlT.of (by kernel_rfl) (by kernel_rfl)
-- 23: []bool
theorem ag23 : agT Tryz.prog 23 = some (false, 1) := by kernel_rfl
theorem zc23 : zT Tryz.prog 23 = some ([.cap0 true], 1) := by kernel_rfl
instance S23 : SlT Tryz.prog 23 4 1 (.bool false) := SlT.of (by kernel_rfl) (by kernel_rfl)
-- 25: api.Grid
theorem ag25 : agT Tryz.prog 25 = some (true, 3) := by kernel_rfl
theorem zc25 : zT Tryz.prog 25 = some ([I 0, I 0, .cap0 true], 3) := by kernel_rfl
theorem fo25_0 : fOff Tryz.prog 25 0 = some 0 := by kernel_rfl
theorem ft25_0 : fOT Tryz.prog 25 0 = some (0, 3) := by kernel_rfl
theorem fo25_1 : fOff Tryz.prog 25 1 = some 1 := by kernel_rfl
theorem ft25_1 : fOT Tryz.prog 25 1 = some (1, 3) := by kernel_rfl
theorem fo25_2 : fOff Tryz.prog 25 2 = some 2 := by kernel_rfl
theorem ft25_2 : fOT Tryz.prog 25 2 = some (2, 23) := by kernel_rfl
theorem fl25 : flT Tryz.prog 25 = some ([(0, 1), (1, 1), (2, 1)], [I 0, I 0, .cap0 true]) := by kernel_rfl
-- 27: api.Draft
theorem ag27 : agT Tryz.prog 27 = some (true, 7) := by kernel_rfl
theorem zc27 : zT Tryz.prog 27 = some ([I 0, I 0, .cap0 true, .cap0 true, I 0, I 0, .cap0 true], 7) := by kernel_rfl
theorem fo27_0 : fOff Tryz.prog 27 0 = some 0 := by kernel_rfl
theorem ft27_0 : fOT Tryz.prog 27 0 = some (0, 3) := by kernel_rfl
theorem fo27_1 : fOff Tryz.prog 27 1 = some 1 := by kernel_rfl
theorem ft27_1 : fOT Tryz.prog 27 1 = some (1, 3) := by kernel_rfl
theorem fo27_2 : fOff Tryz.prog 27 2 = some 2 := by kernel_rfl
theorem ft27_2 : fOT Tryz.prog 27 2 = some (2, 22) := by kernel_rfl
theorem fo27_3 : fOff Tryz.prog 27 3 = some 3 := by kernel_rfl
theorem ft27_3 : fOT Tryz.prog 27 3 = some (3, 22) := by kernel_rfl
theorem fo27_4 : fOff Tryz.prog 27 4 = some 4 := by kernel_rfl
theorem ft27_4 : fOT Tryz.prog 27 4 = some (4, 25) := by kernel_rfl
theorem fl27 : flT Tryz.prog 27 = some ([(0, 1), (1, 1), (2, 1), (3, 1), (4, 3)], [I 0, I 0, .cap0 true, .cap0 true, I 0, I 0, .cap0 true]) := by kernel_rfl
-- 30: api.Errno
theorem ag30 : agT Tryz.prog 30 = some (false, 1) := by kernel_rfl
theorem zc30 : zT Tryz.prog 30 = some ([I 0], 1) := by kernel_rfl
-- 61: *api.Draft
theorem ag61 : agT Tryz.prog 61 = some (false, 1) := by kernel_rfl
theorem zc61 : zT Tryz.prog 61 = some ([.val (.pointer none)], 1) := by kernel_rfl
-- 62: func(int, int) bool
theorem ag62 : agT Tryz.prog 62 = some (false, 1) := by kernel_rfl
theorem zc62 : zT Tryz.prog 62 = some ([.val .nilFunc], 1) := by kernel_rfl
-- 64: ([]int, int)
theorem ag64 : agT Tryz.prog 64 = some (false, 1) := by kernel_rfl
-- 68: [2]int
theorem ag68 : agT Tryz.prog 68 = some (true, 2) := by kernel_rfl
theorem zc68 : zT Tryz.prog 68 = some ([I 0, I 0], 2) := by kernel_rfl
instance nc68 : NumT Tryz.prog 68 2 := ⟨by kernel_rfl⟩
instance AR68 : ArT Tryz.prog 68 2 := ⟨by kernel_rfl⟩
instance AE68 : ArE Tryz.prog 68 2 := ⟨by kernel_rfl⟩
theorem fl68 : flT Tryz.prog 68 = some ([(0, 1), (1, 1)], [I 0, I 0]) := by kernel_rfl
-- 73: *strings.Builder
theorem ag73 : agT Tryz.prog 73 = some (false, 1) := by kernel_rfl
theorem zc73 : zT Tryz.prog 73 = some ([.val (.pointer none)], 1) := by kernel_rfl
-- 74: []uint8
theorem ag74 : agT Tryz.prog 74 = some (false, 1) := by kernel_rfl
theorem zc74 : zT Tryz.prog 74 = some ([.cap0 true], 1) := by kernel_rfl
instance S74 : SlT Tryz.prog 74 5 1 (.int .u8 0) := SlT.of (by kernel_rfl) (by kernel_rfl)
-- 76: strings.Builder
theorem ag76 : agT Tryz.prog 76 = some (true, 2) := by kernel_rfl
theorem zc76 : zT Tryz.prog 76 = some ([.val (.pointer none), .cap0 true], 2) := by kernel_rfl
theorem fo76_0 : fOff Tryz.prog 76 0 = some 0 := by kernel_rfl
theorem ft76_0 : fOT Tryz.prog 76 0 = some (0, 73) := by kernel_rfl
theorem fo76_1 : fOff Tryz.prog 76 1 = some 1 := by kernel_rfl
theorem ft76_1 : fOT Tryz.prog 76 1 = some (1, 74) := by kernel_rfl
theorem fl76 : flT Tryz.prog 76 = some ([(0, 1), (1, 1)], [.val (.pointer none), .cap0 true]) := by kernel_rfl
-- 78: error
theorem ag78 : agT Tryz.prog 78 = some (false, 1) := by kernel_rfl
theorem zc78 : zT Tryz.prog 78 = some ([.val .nilIface], 1) := by kernel_rfl
-- 85: [400]bool
theorem ag85 : agT Tryz.prog 85 = some (true, 400) := by kernel_rfl
theorem zc85 : zT Tryz.prog 85 = some (bools (List.replicate 400 false), 400) := by kernel_rfl
instance kt85 : KT Tryz.prog 85 (List.replicate 400 true) := ⟨by kernel_rfl, by kernel_rfl, by kernel_rfl, by kernel_rfl⟩
instance AR85 : ArT Tryz.prog 85 400 := ⟨by kernel_rfl⟩
instance AE85 : ArE Tryz.prog 85 400 := ⟨by kernel_rfl⟩
theorem fl85 : flT Tryz.prog 85 = some ([(0, 1), (1, 1), (2, 1), (3, 1), (4, 1), (5, 1), (6, 1), (7, 1), (8, 1), (9, 1), (10, 1), (11, 1), (12, 1), (13, 1), (14, 1), (15, 1), (16, 1), (17, 1), (18, 1), (19, 1), (20, 1), (21, 1), (22, 1), (23, 1), (24, 1), (25, 1), (26, 1), (27, 1), (28, 1), (29, 1), (30, 1), (31, 1), (32, 1), (33, 1), (34, 1), (35, 1), (36, 1), (37, 1), (38, 1), (39, 1), (40, 1), (41, 1), (42, 1), (43, 1), (44, 1), (45, 1), (46, 1), (47, 1), (48, 1), (49, 1), (50, 1), (51, 1), (52, 1), (53, 1), (54, 1), (55, 1), (56, 1), (57, 1), (58, 1), (59, 1), (60, 1), (61, 1), (62, 1), (63, 1), (64, 1), (65, 1), (66, 1), (67, 1), (68, 1), (69, 1), (70, 1), (71, 1), (72, 1), (73, 1), (74, 1), (75, 1), (76, 1), (77, 1), (78, 1), (79, 1), (80, 1), (81, 1), (82, 1), (83, 1), (84, 1), (85, 1), (86, 1), (87, 1), (88, 1), (89, 1), (90, 1), (91, 1), (92, 1), (93, 1), (94, 1), (95, 1), (96, 1), (97, 1), (98, 1), (99, 1), (100, 1), (101, 1), (102, 1), (103, 1), (104, 1), (105, 1), (106, 1), (107, 1), (108, 1), (109, 1), (110, 1), (111, 1), (112, 1), (113, 1), (114, 1), (115, 1), (116, 1), (117, 1), (118, 1), (119, 1), (120, 1), (121, 1), (122, 1), (123, 1), (124, 1), (125, 1), (126, 1), (127, 1), (128, 1), (129, 1), (130, 1), (131, 1), (132, 1), (133, 1), (134, 1), (135, 1), (136, 1), (137, 1), (138, 1), (139, 1), (140, 1), (141, 1), (142, 1), (143, 1), (144, 1), (145, 1), (146, 1), (147, 1), (148, 1), (149, 1), (150, 1), (151, 1), (152, 1), (153, 1), (154, 1), (155, 1), (156, 1), (157, 1), (158, 1), (159, 1), (160, 1), (161, 1), (162, 1), (163, 1), (164, 1), (165, 1), (166, 1), (167, 1), (168, 1), (169, 1), (170, 1), (171, 1), (172, 1), (173, 1), (174, 1), (175, 1), (176, 1), (177, 1), (178, 1), (179, 1), (180, 1), (181, 1), (182, 1), (183, 1), (184, 1), (185, 1), (186, 1), (187, 1), (188, 1), (189, 1), (190, 1), (191, 1), (192, 1), (193, 1), (194, 1), (195, 1), (196, 1), (197, 1), (198, 1), (199, 1), (200, 1), (201, 1), (202, 1), (203, 1), (204, 1), (205, 1), (206, 1), (207, 1), (208, 1), (209, 1), (210, 1), (211, 1), (212, 1), (213, 1), (214, 1), (215, 1), (216, 1), (217, 1), (218, 1), (219, 1), (220, 1), (221, 1), (222, 1), (223, 1), (224, 1), (225, 1), (226, 1), (227, 1), (228, 1), (229, 1), (230, 1), (231, 1), (232, 1), (233, 1), (234, 1), (235, 1), (236, 1), (237, 1), (238, 1), (239, 1), (240, 1), (241, 1), (242, 1), (243, 1), (244, 1), (245, 1), (246, 1), (247, 1), (248, 1), (249, 1), (250, 1), (251, 1), (252, 1), (253, 1), (254, 1), (255, 1), (256, 1), (257, 1), (258, 1), (259, 1), (260, 1), (261, 1), (262, 1), (263, 1), (264, 1), (265, 1), (266, 1), (267, 1), (268, 1), (269, 1), (270, 1), (271, 1), (272, 1), (273, 1), (274, 1), (275, 1), (276, 1), (277, 1), (278, 1), (279, 1), (280, 1), (281, 1), (282, 1), (283, 1), (284, 1), (285, 1), (286, 1), (287, 1), (288, 1), (289, 1), (290, 1), (291, 1), (292, 1), (293, 1), (294, 1), (295, 1), (296, 1), (297, 1), (298, 1), (299, 1), (300, 1), (301, 1), (302, 1), (303, 1), (304, 1), (305, 1), (306, 1), (307, 1), (308, 1), (309, 1), (310, 1), (311, 1), (312, 1), (313, 1), (314, 1), (315, 1), (316, 1), (317, 1), (318, 1), (319, 1), (320, 1), (321, 1), (322, 1), (323, 1), (324, 1), (325, 1), (326, 1), (327, 1), (328, 1), (329, 1), (330, 1), (331, 1), (332, 1), (333, 1), (334, 1), (335, 1), (336, 1), (337, 1), (338, 1), (339, 1), (340, 1), (341, 1), (342, 1), (343, 1), (344, 1), (345, 1), (346, 1), (347, 1), (348, 1), (349, 1), (350, 1), (351, 1), (352, 1), (353, 1), (354, 1), (355, 1), (356, 1), (357, 1), (358, 1), (359, 1), (360, 1), (361, 1), (362, 1), (363, 1), (364, 1), (365, 1), (366, 1), (367, 1), (368, 1), (369, 1), (370, 1), (371, 1), (372, 1), (373, 1), (374, 1), (375, 1), (376, 1), (377, 1), (378, 1), (379, 1), (380, 1), (381, 1), (382, 1), (383, 1), (384, 1), (385, 1), (386, 1), (387, 1), (388, 1), (389, 1), (390, 1), (391, 1), (392, 1), (393, 1), (394, 1), (395, 1), (396, 1), (397, 1), (398, 1), (399, 1)], bools (List.replicate 400 false)) := by kernel_rfl
-- 93: []string
theorem ag93 : agT Tryz.prog 93 = some (false, 1) := by kernel_rfl
theorem zc93 : zT Tryz.prog 93 = some ([.cap0 true], 1) := by kernel_rfl
instance S93 : SlT Tryz.prog 93 9 16 (.string ⟨#[]⟩) := SlT.of (by kernel_rfl) (by kernel_rfl)
-- 96: *uint8
theorem ag96 : agT Tryz.prog 96 = some (false, 1) := by kernel_rfl
theorem zc96 : zT Tryz.prog 96 = some ([.val (.pointer none)], 1) := by kernel_rfl
-- 99: iter.Seq[int]
theorem ag99 : agT Tryz.prog 99 = some (false, 1) := by kernel_rfl
theorem zc99 : zT Tryz.prog 99 = some ([.val .nilFunc], 1) := by kernel_rfl
-- 102: [][]int
theorem ag102 : agT Tryz.prog 102 = some (false, 1) := by kernel_rfl
theorem zc102 : zT Tryz.prog 102 = some ([.cap0 true], 1) := by kernel_rfl
instance S102 : SlT Tryz.prog 102 22 24 (.slice none 0 0) := SlT.of (by kernel_rfl) (by kernel_rfl)
-- 104: uint
theorem ag104 : agT Tryz.prog 104 = some (false, 1) := by kernel_rfl
theorem zc104 : zT Tryz.prog 104 = some ([.val (.int .u64 0)], 1) := by kernel_rfl
-- 107: []factor.line
theorem ag107 : agT Tryz.prog 107 = some (false, 1) := by kernel_rfl
theorem zc107 : zT Tryz.prog 107 = some ([.cap0 true], 1) := by kernel_rfl
instance SM107 : SlM Tryz.prog 107 65 := ⟨by kernel_rfl⟩
instance SW107 : SlW Tryz.prog 107 111 65 72 := ⟨by kernel_rfl⟩
instance LT107_1 : LitT Tryz.prog 107 1 [(0, 65)] (bools (List.replicate 64 false) ++ [I 0]) := ⟨by kernel_rfl⟩
-- 109: [64]bool
theorem ag109 : agT Tryz.prog 109 = some (true, 64) := by kernel_rfl
theorem zc109 : zT Tryz.prog 109 = some (bools (List.replicate 64 false), 64) := by kernel_rfl
instance kt109 : KT Tryz.prog 109 (List.replicate 64 true) := ⟨by kernel_rfl, by kernel_rfl, by kernel_rfl, by kernel_rfl⟩
instance AR109 : ArT Tryz.prog 109 64 := ⟨by kernel_rfl⟩
instance AE109 : ArE Tryz.prog 109 64 := ⟨by kernel_rfl⟩
theorem fl109 : flT Tryz.prog 109 = some ([(0, 1), (1, 1), (2, 1), (3, 1), (4, 1), (5, 1), (6, 1), (7, 1), (8, 1), (9, 1), (10, 1), (11, 1), (12, 1), (13, 1), (14, 1), (15, 1), (16, 1), (17, 1), (18, 1), (19, 1), (20, 1), (21, 1), (22, 1), (23, 1), (24, 1), (25, 1), (26, 1), (27, 1), (28, 1), (29, 1), (30, 1), (31, 1), (32, 1), (33, 1), (34, 1), (35, 1), (36, 1), (37, 1), (38, 1), (39, 1), (40, 1), (41, 1), (42, 1), (43, 1), (44, 1), (45, 1), (46, 1), (47, 1), (48, 1), (49, 1), (50, 1), (51, 1), (52, 1), (53, 1), (54, 1), (55, 1), (56, 1), (57, 1), (58, 1), (59, 1), (60, 1), (61, 1), (62, 1), (63, 1)], bools (List.replicate 64 false)) := by kernel_rfl
-- 111: factor.line
theorem ag111 : agT Tryz.prog 111 = some (true, 65) := by kernel_rfl
theorem zc111 : zT Tryz.prog 111 = some (bools (List.replicate 64 false) ++ [I 0], 65) := by kernel_rfl
instance kt111 : KT Tryz.prog 111 (List.replicate 64 true ++ [false]) := ⟨by kernel_rfl, by kernel_rfl, by kernel_rfl, by kernel_rfl⟩
theorem fo111_0 : fOff Tryz.prog 111 0 = some 0 := by kernel_rfl
theorem ft111_0 : fOT Tryz.prog 111 0 = some (0, 109) := by kernel_rfl
theorem fo111_1 : fOff Tryz.prog 111 1 = some 64 := by kernel_rfl
theorem ft111_1 : fOT Tryz.prog 111 1 = some (64, 3) := by kernel_rfl
theorem fl111 : flT Tryz.prog 111 = some ([(0, 64), (64, 1)], bools (List.replicate 64 false) ++ [I 0]) := by kernel_rfl
-- 114: strings.asciiSet
theorem ag114 : agT Tryz.prog 114 = some (true, 256) := by kernel_rfl
theorem zc114 : zT Tryz.prog 114 = some (bools (List.replicate 256 false), 256) := by kernel_rfl
instance kt114 : KT Tryz.prog 114 (List.replicate 256 true) := ⟨by kernel_rfl, by kernel_rfl, by kernel_rfl, by kernel_rfl⟩
instance AR114 : ArT Tryz.prog 114 256 := ⟨by kernel_rfl⟩
instance AE114 : ArE Tryz.prog 114 256 := ⟨by kernel_rfl⟩
theorem fl114 : flT Tryz.prog 114 = some ([(0, 1), (1, 1), (2, 1), (3, 1), (4, 1), (5, 1), (6, 1), (7, 1), (8, 1), (9, 1), (10, 1), (11, 1), (12, 1), (13, 1), (14, 1), (15, 1), (16, 1), (17, 1), (18, 1), (19, 1), (20, 1), (21, 1), (22, 1), (23, 1), (24, 1), (25, 1), (26, 1), (27, 1), (28, 1), (29, 1), (30, 1), (31, 1), (32, 1), (33, 1), (34, 1), (35, 1), (36, 1), (37, 1), (38, 1), (39, 1), (40, 1), (41, 1), (42, 1), (43, 1), (44, 1), (45, 1), (46, 1), (47, 1), (48, 1), (49, 1), (50, 1), (51, 1), (52, 1), (53, 1), (54, 1), (55, 1), (56, 1), (57, 1), (58, 1), (59, 1), (60, 1), (61, 1), (62, 1), (63, 1), (64, 1), (65, 1), (66, 1), (67, 1), (68, 1), (69, 1), (70, 1), (71, 1), (72, 1), (73, 1), (74, 1), (75, 1), (76, 1), (77, 1), (78, 1), (79, 1), (80, 1), (81, 1), (82, 1), (83, 1), (84, 1), (85, 1), (86, 1), (87, 1), (88, 1), (89, 1), (90, 1), (91, 1), (92, 1), (93, 1), (94, 1), (95, 1), (96, 1), (97, 1), (98, 1), (99, 1), (100, 1), (101, 1), (102, 1), (103, 1), (104, 1), (105, 1), (106, 1), (107, 1), (108, 1), (109, 1), (110, 1), (111, 1), (112, 1), (113, 1), (114, 1), (115, 1), (116, 1), (117, 1), (118, 1), (119, 1), (120, 1), (121, 1), (122, 1), (123, 1), (124, 1), (125, 1), (126, 1), (127, 1), (128, 1), (129, 1), (130, 1), (131, 1), (132, 1), (133, 1), (134, 1), (135, 1), (136, 1), (137, 1), (138, 1), (139, 1), (140, 1), (141, 1), (142, 1), (143, 1), (144, 1), (145, 1), (146, 1), (147, 1), (148, 1), (149, 1), (150, 1), (151, 1), (152, 1), (153, 1), (154, 1), (155, 1), (156, 1), (157, 1), (158, 1), (159, 1), (160, 1), (161, 1), (162, 1), (163, 1), (164, 1), (165, 1), (166, 1), (167, 1), (168, 1), (169, 1), (170, 1), (171, 1), (172, 1), (173, 1), (174, 1), (175, 1), (176, 1), (177, 1), (178, 1), (179, 1), (180, 1), (181, 1), (182, 1), (183, 1), (184, 1), (185, 1), (186, 1), (187, 1), (188, 1), (189, 1), (190, 1), (191, 1), (192, 1), (193, 1), (194, 1), (195, 1), (196, 1), (197, 1), (198, 1), (199, 1), (200, 1), (201, 1), (202, 1), (203, 1), (204, 1), (205, 1), (206, 1), (207, 1), (208, 1), (209, 1), (210, 1), (211, 1), (212, 1), (213, 1), (214, 1), (215, 1), (216, 1), (217, 1), (218, 1), (219, 1), (220, 1), (221, 1), (222, 1), (223, 1), (224, 1), (225, 1), (226, 1), (227, 1), (228, 1), (229, 1), (230, 1), (231, 1), (232, 1), (233, 1), (234, 1), (235, 1), (236, 1), (237, 1), (238, 1), (239, 1), (240, 1), (241, 1), (242, 1), (243, 1), (244, 1), (245, 1), (246, 1), (247, 1), (248, 1), (249, 1), (250, 1), (251, 1), (252, 1), (253, 1), (254, 1), (255, 1)], bools (List.replicate 256 false)) := by kernel_rfl
-- 118: *strings.asciiSet
theorem ag118 : agT Tryz.prog 118 = some (false, 1) := by kernel_rfl
theorem zc118 : zT Tryz.prog 118 = some ([.val (.pointer none)], 1) := by kernel_rfl
-- 120: unsafe.Pointer
theorem ag120 : agT Tryz.prog 120 = some (false, 1) := by kernel_rfl
theorem zc120 : zT Tryz.prog 120 = some ([.val (.pointer none)], 1) := by kernel_rfl
-- 123: func(int) bool
theorem ag123 : agT Tryz.prog 123 = some (false, 1) := by kernel_rfl
theorem zc123 : zT Tryz.prog 123 = some ([.val .nilFunc], 1) := by kernel_rfl
-- 127: uint64
theorem ag127 : agT Tryz.prog 127 = some (false, 1) := by kernel_rfl
theorem zc127 : zT Tryz.prog 127 = some ([.val (.int .u64 0)], 1) := by kernel_rfl
-- 144: slices.sortedHint
theorem ag144 : agT Tryz.prog 144 = some (false, 1) := by kernel_rfl
theorem zc144 : zT Tryz.prog 144 = some ([I 0], 1) := by kernel_rfl
-- 159: slices.xorshift
theorem ag159 : agT Tryz.prog 159 = some (false, 1) := by kernel_rfl
theorem zc159 : zT Tryz.prog 159 = some ([.val (.int .u64 0)], 1) := by kernel_rfl
-- 163: *int
theorem ag163 : agT Tryz.prog 163 = some (false, 1) := by kernel_rfl
theorem zc163 : zT Tryz.prog 163 = some ([.val (.pointer none)], 1) := by kernel_rfl
-- 166: *slices.xorshift
theorem ag166 : agT Tryz.prog 166 = some (false, 1) := by kernel_rfl
theorem zc166 : zT Tryz.prog 166 = some ([.val (.pointer none)], 1) := by kernel_rfl

theorem FX : type_of% @ag2 ∧ type_of% @zc2 ∧ type_of% @ag3 ∧ type_of% @zc3 ∧ type_of% @ag4 ∧ type_of% @zc4 ∧ type_of% @ag5 ∧ type_of% @zc5 ∧ type_of% @ag9 ∧ type_of% @zc9 ∧ type_of% @ag21 ∧ type_of% @zc21 ∧ type_of% @ag22 ∧ type_of% @zc22 ∧ type_of% @ag23 ∧ type_of% @zc23 ∧ type_of% @ag25 ∧ type_of% @zc25 ∧ type_of% @fo25_0 ∧ type_of% @ft25_0 ∧ type_of% @fo25_1 ∧ type_of% @ft25_1 ∧ type_of% @fo25_2 ∧ type_of% @ft25_2 ∧ type_of% @fl25 ∧ type_of% @ag27 ∧ type_of% @zc27 ∧ type_of% @fo27_0 ∧ type_of% @ft27_0 ∧ type_of% @fo27_1 ∧ type_of% @ft27_1 ∧ type_of% @fo27_2 ∧ type_of% @ft27_2 ∧ type_of% @fo27_3 ∧ type_of% @ft27_3 ∧ type_of% @fo27_4 ∧ type_of% @ft27_4 ∧ type_of% @fl27 ∧ type_of% @ag30 ∧ type_of% @zc30 ∧ type_of% @ag61 ∧ type_of% @zc61 ∧ type_of% @ag62 ∧ type_of% @zc62 ∧ type_of% @ag64 ∧ type_of% @ag68 ∧ type_of% @zc68 ∧ type_of% @fl68 ∧ type_of% @ag73 ∧ type_of% @zc73 ∧ type_of% @ag74 ∧ type_of% @zc74 ∧ type_of% @ag76 ∧ type_of% @zc76 ∧ type_of% @fo76_0 ∧ type_of% @ft76_0 ∧ type_of% @fo76_1 ∧ type_of% @ft76_1 ∧ type_of% @fl76 ∧ type_of% @ag78 ∧ type_of% @zc78 ∧ type_of% @ag85 ∧ type_of% @zc85 ∧ type_of% @fl85 ∧ type_of% @ag93 ∧ type_of% @zc93 ∧ type_of% @ag96 ∧ type_of% @zc96 ∧ type_of% @ag99 ∧ type_of% @zc99 ∧ type_of% @ag102 ∧ type_of% @zc102 ∧ type_of% @ag104 ∧ type_of% @zc104 ∧ type_of% @ag107 ∧ type_of% @zc107 ∧ type_of% @ag109 ∧ type_of% @zc109 ∧ type_of% @fl109 ∧ type_of% @ag111 ∧ type_of% @zc111 ∧ type_of% @fo111_0 ∧ type_of% @ft111_0 ∧ type_of% @fo111_1 ∧ type_of% @ft111_1 ∧ type_of% @fl111 ∧ type_of% @ag114 ∧ type_of% @zc114 ∧ type_of% @fl114 ∧ type_of% @ag118 ∧ type_of% @zc118 ∧ type_of% @ag120 ∧ type_of% @zc120 ∧ type_of% @ag123 ∧ type_of% @zc123 ∧ type_of% @ag127 ∧ type_of% @zc127 ∧ type_of% @ag144 ∧ type_of% @zc144 ∧ type_of% @ag159 ∧ type_of% @zc159 ∧ type_of% @ag163 ∧ type_of% @zc163 ∧ type_of% @ag166 ∧ type_of% @zc166 :=
  ⟨@ag2, @zc2, @ag3, @zc3, @ag4, @zc4, @ag5, @zc5, @ag9, @zc9, @ag21, @zc21, @ag22, @zc22, @ag23, @zc23, @ag25, @zc25, @fo25_0, @ft25_0, @fo25_1, @ft25_1, @fo25_2, @ft25_2, @fl25, @ag27, @zc27, @fo27_0, @ft27_0, @fo27_1, @ft27_1, @fo27_2, @ft27_2, @fo27_3, @ft27_3, @fo27_4, @ft27_4, @fl27, @ag30, @zc30, @ag61, @zc61, @ag62, @zc62, @ag64, @ag68, @zc68, @fl68, @ag73, @zc73, @ag74, @zc74, @ag76, @zc76, @fo76_0, @ft76_0, @fo76_1, @ft76_1, @fl76, @ag78, @zc78, @ag85, @zc85, @fl85, @ag93, @zc93, @ag96, @zc96, @ag99, @zc99, @ag102, @zc102, @ag104, @zc104, @ag107, @zc107, @ag109, @zc109, @fl109, @ag111, @zc111, @fo111_0, @ft111_0, @fo111_1, @ft111_1, @fl111, @ag114, @zc114, @fl114, @ag118, @zc118, @ag120, @zc120, @ag123, @zc123, @ag127, @zc127, @ag144, @zc144, @ag159, @zc159, @ag163, @zc163, @ag166, @zc166⟩
end Go.Proofs.YtbhkhaaifielkaaGreatDoor

/- Grids: their checks. -/
set_option linter.unusedSimpArgs false
set_option linter.unusedVariables false
set_option maxRecDepth 100000
namespace Go.Proofs.YtbhkhaaifielkaaGreatDoor
open Go Go.Proofs Go.AW

abbrev LR (b : Bool) (l : List Int) : AVal := .list true b l.length (ints l)
abbrev BA (b : Bool) (l : List Bool) : AVal := .list false b l.length (bools l)
abbrev BR (b : Bool) (l : List Bool) : AVal := .list true b l.length (bools l)
abbrev GA (w h : Int) (b : Bool) (l : List Bool) : AVal := .agg [I w, I h, BA b l]
abbrev GR (w h : Int) (b : Bool) (l : List Bool) : AVal := .agg [I w, I h, BR b l]

/-- The error of a grid. -/
def gchk (w h n : Int) : Int := if 64 < w ∨ 64 < h then 4 else if w < 1 ∨ h < 1 ∨ n ≠ w * h then 8 else 0
def gOk (w h n : Int) : Prop := 1 ≤ w ∧ w ≤ 64 ∧ 1 ≤ h ∧ h ≤ 64 ∧ n = w * h
theorem gchk_ok {w h n : Int} (hg : gOk w h n) : gchk w h n = 0 := by
  obtain ⟨h1, h2, h3, h4, h5⟩ := hg
  unfold gchk
  rw [if_neg (by omega), if_neg (by omega)]
theorem prod64 {w h : Int} (h1 : 0 ≤ w) (h2 : w ≤ 64) (h3 : 0 ≤ h) (h4 : h ≤ 64) : 0 ≤ w * h ∧ w * h ≤ 4096 := by
  constructor
  · exact Int.mul_nonneg h1 h3
  · have := Int.mul_le_mul h2 h4 h3 (by omega); omega

theorem gcheckP_c (w h : Int) (b : Bool) (l : List Bool) : Contract Tryz.prog 42 [GA w h b l] (I (gchk w h l.length)) := by
  unfold gchk
  refine Contract.intro (effS [] false) 6 follows Tryz.func42 rfl rfl (by kernel_rfl) (Nat.le_of_ble_eq_true rfl) ?_
  by_cases c1 : 64 < w ∨ 64 < h
  · rw [if_pos c1]
    have : 64 < max w h := by omega
    simp (disch := omega) only [↓RP, RG, FX, RQ, ↓reduceIte, Nat.reduceEqDiff, reduceCtorEq, Nat.reduceBEq, Nat.reduceAdd, Nat.reduceLeDiff, args0_1]
    rw [resVal_1 rfl]; simp (disch := first | assumption | omega | rfl | simp only [RH]) only [↓RP, RG, FX, RQ, ↓reduceIte, Nat.reduceEqDiff, reduceCtorEq, Nat.reduceBEq, Nat.reduceAdd, Nat.reduceLeDiff, RS]
  rw [if_neg c1]
  have : ¬ 64 < max w h := by omega
  by_cases c2 : w < 1 ∨ h < 1
  · rw [if_pos (by omega)]
    have : min w h < 1 := by omega
    simp (disch := omega) only [↓RP, RG, FX, RQ, ↓reduceIte, Nat.reduceEqDiff, reduceCtorEq, Nat.reduceBEq, Nat.reduceAdd, Nat.reduceLeDiff, args0_1]
    rw [resVal_1 rfl]; simp (disch := first | assumption | omega | rfl | simp only [RH]) only [↓RP, RG, FX, RQ, ↓reduceIte, Nat.reduceEqDiff, reduceCtorEq, Nat.reduceBEq, Nat.reduceAdd, Nat.reduceLeDiff, RS]
  have : ¬ min w h < 1 := by omega
  have hp := prod64 (w := w) (h := h) (by omega) (by omega) (by omega) (by omega)
  by_cases c3 : (l.length : Int) = w * h
  · rw [if_neg (by omega)]
    simp (disch := omega) only [↓RP, RG, FX, RQ, ↓reduceIte, Nat.reduceEqDiff, reduceCtorEq, Nat.reduceBEq, Nat.reduceAdd, Nat.reduceLeDiff, args0_1]
    rw [resVal_1 rfl]; simp (disch := first | assumption | omega | rfl | simp only [RH]) only [↓RP, RG, FX, RQ, ↓reduceIte, Nat.reduceEqDiff, reduceCtorEq, Nat.reduceBEq, Nat.reduceAdd, Nat.reduceLeDiff, RS]
  · rw [if_pos (by omega)]
    simp (disch := omega) only [↓RP, RG, FX, RQ, ↓reduceIte, Nat.reduceEqDiff, reduceCtorEq, Nat.reduceBEq, Nat.reduceAdd, Nat.reduceLeDiff, args0_1]
    rw [resVal_1 rfl]; simp (disch := first | assumption | omega | rfl | simp only [RH]) only [↓RP, RG, FX, RQ, ↓reduceIte, Nat.reduceEqDiff, reduceCtorEq, Nat.reduceBEq, Nat.reduceAdd, Nat.reduceLeDiff, RS]

end Go.Proofs.YtbhkhaaifielkaaGreatDoor

/- Lists: compared. -/
set_option linter.unusedSimpArgs false
set_option linter.unusedVariables false
set_option maxRecDepth 100000
namespace Go.Proofs.YtbhkhaaifielkaaGreatDoor
open Go Go.Proofs Go.AW

end Go.Proofs.YtbhkhaaifielkaaGreatDoor

/- Lists: least and greatest element, within a range; cells of grids. -/
set_option linter.unusedSimpArgs false
set_option linter.unusedVariables false
set_option maxRecDepth 100000
namespace Go.Proofs.YtbhkhaaifielkaaGreatDoor
open Go Go.Proofs Go.AW

/-- It has elements, all of them from 0 to n - 1. -/
def wIn (l : List Int) (n : Int) : Prop := 0 < l.length ∧ ∀ j, j < l.length → 0 ≤ l.getD j 0 ∧ l.getD j 0 < n
instance (l : List Int) (n : Int) : Decidable (wIn l n) := by unfold wIn; infer_instance

/-- A grid's cell. -/
def cell (w : Int) (l : List Bool) (x y : Int) : Bool := l.getD (y * w + x).toNat false

end Go.Proofs.YtbhkhaaifielkaaGreatDoor

/- Grids: compared, copied. -/
set_option linter.unusedSimpArgs false
set_option linter.unusedVariables false
set_option maxRecDepth 100000
namespace Go.Proofs.YtbhkhaaifielkaaGreatDoor
open Go Go.Proofs Go.AW

end Go.Proofs.YtbhkhaaifielkaaGreatDoor

/- Drafts: their checks. -/
set_option linter.unusedSimpArgs false
set_option linter.unusedVariables false
set_option maxRecDepth 100000
namespace Go.Proofs.YtbhkhaaifielkaaGreatDoor
open Go Go.Proofs Go.AW

abbrev DR (s t : Int) (b1 : Bool) (th : List Int) (b2 : Bool) (td : List Int) (w h : Int) (b3 : Bool) (l : List Bool) : AVal := .agg [I s, I t, LR b1 th, LR b2 td, I w, I h, BR b3 l]

end Go.Proofs.YtbhkhaaifielkaaGreatDoor

/- Drafts: tables, drawdowns, lifts. -/
set_option linter.unusedSimpArgs false
set_option linter.unusedVariables false
set_option maxRecDepth 100000
namespace Go.Proofs.YtbhkhaaifielkaaGreatDoor
open Go Go.Proofs Go.AW

/-- The first n cells of a table of W columns. -/
def tabN (W : Nat) (u : Nat → Nat → Bool) (n : Nat) : List Bool := (List.range n).map fun i => u (i % W) (i / W)
theorem tabN_len (W : Nat) (u : Nat → Nat → Bool) (n : Nat) : (tabN W u n).length = n := by simp [tabN]
theorem tabN_succ (W : Nat) (u : Nat → Nat → Bool) {y x : Nat} (hx : x < W) : tabN W u (W * y + x + 1) = tabN W u (W * y + x) ++ [u x y] := by
  have e1 : (W * y + x) % W = x := by rw [Nat.mul_add_mod]; exact Nat.mod_eq_of_lt hx
  have e2 : (W * y + x) / W = y := by rw [Nat.mul_add_div (by omega), Nat.div_eq_of_lt hx, Nat.add_zero]
  simp only [tabN, List.range_succ, List.map_append, List.map_cons, List.map_nil, e1, e2]
theorem ints_isEmpty (l : List Int) : (ints l).isEmpty = l.isEmpty := by cases l <;> rfl

end Go.Proofs.YtbhkhaaifielkaaGreatDoor

/- Drafts: drawdowns and lifts, of the program and the reference. -/
set_option linter.unusedSimpArgs false
set_option linter.unusedVariables false
set_option maxRecDepth 100000
namespace Go.Proofs.YtbhkhaaifielkaaGreatDoor
open Go Go.Proofs Go.AW

theorem idx_nat (W y x : Nat) : ((y : Int) * (W : Int) + (x : Int)).toNat = W * y + x := by
  rw [← Int.natCast_mul, ← Int.natCast_add, Int.toNat_natCast, Nat.mul_comm]
theorem mul_bd {W H : Nat} (hw : W ≤ 10000) (hh : H ≤ 10000) : 0 ≤ (W : Int) * (H : Int) ∧ (W : Int) * (H : Int) ≤ 100000000 := by
  have h1 : W * H ≤ 10000 * 10000 := Nat.mul_le_mul hw hh
  rw [← Int.natCast_mul]; omega
theorem idx_lt {W H x y : Nat} (hx : x < W) (hy : y < H) : W * y + x < W * H := by
  have : W * (y + 1) ≤ W * H := Nat.mul_le_mul_left W hy
  rw [Nat.mul_succ] at this; omega

end Go.Proofs.YtbhkhaaifielkaaGreatDoor

/- Kinds: numbered by first occurrence. Plain. -/
set_option linter.unusedSimpArgs false
set_option linter.unusedVariables false
namespace Go.Proofs.YtbhkhaaifielkaaGreatDoor

section
variable {α : Type} [DecidableEq α] {β : Type} [DecidableEq β]

/-- The place of y's like among fs, or their number. -/
def plc (r : Nat → α) (fs : List Nat) (y : Nat) : Nat := fs.findIdx fun f => decide (r f = r y)
/-- Kinds and firsts of the first n. -/
def knd (r : Nat → α) : Nat → List Nat × List Nat
  | 0 => ([], [])
  | n + 1 => ((knd r n).1 ++ [plc r (knd r n).2 n], if plc r (knd r n).2 n = (knd r n).2.length then (knd r n).2 ++ [n] else (knd r n).2)
theorem knd_len (r : Nat → α) (n : Nat) : (knd r n).1.length = n := by
  induction n with
  | zero => rfl
  | succ n ih => simp [knd, ih]
theorem knd_le (r : Nat → α) (n : Nat) : (knd r n).2.length ≤ n := by
  induction n with
  | zero => exact Nat.le_refl _
  | succ n ih =>
    simp only [knd]
    split
    · simp only [List.length_append, List.length_singleton]; omega
    · omega
theorem knd_first (r : Nat → α) (n : Nat) : ∀ f ∈ (knd r n).2, f < n := by
  induction n with
  | zero => intro f hf; simp [knd] at hf
  | succ n ih =>
    intro f hf
    simp only [knd] at hf
    split at hf
    · rcases List.mem_append.1 hf with h | h
      · have := ih f h; omega
      · simp at h; omega
    · have := ih f hf; omega
theorem plc_eq (r : Nat → α) {fs : List Nat} {y k : Nat} (hk : k ≤ fs.length) (h1 : ∀ j, j < k → r (fs.getD j 0) ≠ r y) (h2 : k < fs.length → r (fs.getD k 0) = r y) : plc r fs y = k := by
  unfold plc
  rcases Nat.lt_or_ge k fs.length with hlt | hge
  · rw [List.findIdx_eq hlt]
    refine ⟨by have := h2 hlt; simp [List.getD_eq_getElem?_getD, hlt] at this; simp [this], fun j hj => ?_⟩
    have := h1 j hj
    simp [List.getD_eq_getElem?_getD, show j < fs.length by omega] at this
    simpa using this
  · obtain rfl : k = fs.length := by omega
    rw [List.findIdx_eq_length]
    intro x hx
    obtain ⟨j, hj, rfl⟩ := List.getElem_of_mem hx
    have := h1 j hj
    simp [List.getD_eq_getElem?_getD, hj] at this
    simpa using this
end
end Go.Proofs.YtbhkhaaifielkaaGreatDoor

/- The kinds of rows. -/
set_option linter.unusedSimpArgs false
set_option linter.unusedVariables false
set_option maxRecDepth 100000
namespace Go.Proofs.YtbhkhaaifielkaaGreatDoor
open Go Go.Proofs Go.AW

/-- A row. -/
def rowN (W : Nat) (l : List Bool) (y : Nat) : List Bool := (List.range W).map fun x => l.getD (W * y + x) false
theorem rowN_eq {W : Nat} {l : List Bool} {a b : Nat} : rowN W l a = rowN W l b ↔ ∀ x, x < W → l.getD (W * a + x) false = l.getD (W * b + x) false := by
  constructor
  · intro h x hx
    have := congrArg (fun r : List Bool => r.getD x false) h
    simpa [rowN, List.getD_eq_getElem?_getD, List.getElem?_range hx] using this
  · intro h
    apply List.map_congr_left
    intro x hx
    exact h x (by simpa using hx)

end Go.Proofs.YtbhkhaaifielkaaGreatDoor

/- The kinds of rows, by the reference. -/
set_option linter.unusedSimpArgs false
set_option linter.unusedVariables false
set_option maxRecDepth 100000
namespace Go.Proofs.YtbhkhaaifielkaaGreatDoor
open Go Go.Proofs Go.AW

def nI (l : List Nat) : List Int := l.map fun n : Nat => (n : Int)
theorem nI_len (l : List Nat) : (nI l).length = l.length := by simp [nI]
theorem nI_app (l : List Nat) (n : Nat) : nI (l ++ [n]) = nI l ++ [(n : Int)] := by simp [nI]
end Go.Proofs.YtbhkhaaifielkaaGreatDoor

/- The rows of a grid, each in an array of 64 cells with its length. -/
set_option linter.unusedSimpArgs false
set_option linter.unusedVariables false
set_option maxRecDepth 100000
namespace Go.Proofs.YtbhkhaaifielkaaGreatDoor
open Go Go.Proofs Go.AW

/-- Cell i of the table of lines when y lines are in. -/
def lnZ (W : Nat) (l : List Bool) (y i : Nat) : AVal :=
  if i / 65 < y then (if i % 65 < 64 then B (decide (i % 65 < W) && l.getD (W * (i / 65) + i % 65) false) else I W) else (if i % 65 < 64 then B false else I 0)
def lnC (W H : Nat) (l : List Bool) (y : Nat) : List AVal := (List.range (H * 65)).map (lnZ W l y)
theorem lnC_len (W H : Nat) (l : List Bool) (y : Nat) : (lnC W H l y).length = H * 65 := by simp [lnC]
theorem lnC_res (h : List AObj) (n W H : Nat) (l : List Bool) (y : Nat) : (lnC W H l y).map (resOf h (n + 1)) = lnC W H l y := by
  simp only [lnC, List.map_map]
  refine List.map_congr_left fun i _ => ?_
  simp only [Function.comp, lnZ]
  split <;> split <;> rfl
/-- A row of bools and its length, as a line. -/
def padR (W : Nat) (l : List Bool) (y : Nat) : List Bool := (List.range 64).map fun i => decide (i < W) && l.getD (W * y + i) false
theorem padR_len (W : Nat) (l : List Bool) (y : Nat) : (padR W l y).length = 64 := by simp [padR]
def lineA (W : Nat) (l : List Bool) (y : Nat) : List AVal := bools (padR W l y) ++ [I W]
theorem lineA_len (W : Nat) (l : List Bool) (y : Nat) : (lineA W l y).length = 65 := by simp [lineA, bools_length, padR_len]
theorem lineA_get (W : Nat) (l : List Bool) (y : Nat) {i : Nat} (hi : i < (lineA W l y).length) : (lineA W l y)[i] = if i < 64 then B (decide (i < W) && l.getD (W * y + i) false) else I W := by
  have hl := lineA_len W l y
  simp only [lineA, List.getElem_append, bools_length, padR_len]
  split
  · simp [bools, padR]
  · simp
theorem lnC_line (W H : Nat) (l : List Bool) {y : Nat} (hy : y < H) : ((lnC W H l H).drop (y * 65)).take 65 = lineA W l y := by
  refine List.ext_getElem (by rw [List.length_take, List.length_drop, lnC_len, lineA_len]; omega) fun i h1 h2 => ?_
  have hi : i < 65 := by rw [lineA_len] at h2; exact h2
  rw [lineA_get, List.getElem_take, List.getElem_drop]
  simp only [lnC, List.getElem_map, List.getElem_range, lnZ]
  have e1 : (y * 65 + i) / 65 = y := by omega
  have e2 : (y * 65 + i) % 65 = i := by omega
  rw [e1, e2, if_pos hy]
theorem lnC_zero (W H : Nat) (l : List Bool) : (List.range (H * 65)).map (fun j => (bools (List.replicate 64 false) ++ [I 0]).getD (j % 65) .undef) = lnC W H l 0 := by
  refine List.map_congr_left fun j _ => ?_
  have hm : j % 65 < 65 := Nat.mod_lt _ (by omega)
  simp only [lnZ, Nat.not_lt_zero, if_false, List.getD_eq_getElem?_getD, List.getElem?_append, bools_length, List.length_replicate]
  split
  · rename_i h
    rw [bools, List.getElem?_map, List.getElem?_replicate, if_pos h]; rfl
  · rename_i h
    have : j % 65 - 64 = 0 := by omega
    simp [this]
theorem cA_lnC {t s W H y m : Nat} {l : List Bool} (hm : m = H * 65) : cA (some ⟨t, s, lnC W H l y⟩) m = some (lnC W H l y) := by
  subst hm; simp [cA, lnC_len]
theorem cA_lenW {t s n : Nat} {cs : List AVal} (hn : cs.length = n) : cA (some ⟨t, s, cs⟩) n = some cs := by simp [cA, hn]
theorem lnC_step {W H : Nat} (hW1 : 1 ≤ W) (hW : W ≤ 64) {l : List Bool} (hn : l.length = W * H) {y : Nat} (hy : y < H) :
    splice (splice (lnC W H l y) (y * 65) (bools ((l.drop (W * y)).take W))) (y * 65 + 64) [I W] = lnC W H l (y + 1) := by
  have hin : W * y + W ≤ W * H := by rw [← Nat.mul_succ]; exact Nat.mul_le_mul_left _ hy
  have hl1 : (bools ((l.drop (W * y)).take W)).length = W := by rw [bools_length, List.length_take, List.length_drop]; omega
  have hc1 : y * 65 + (bools ((l.drop (W * y)).take W)).length ≤ (lnC W H l y).length := by rw [hl1, lnC_len]; omega
  have hs1 := splice_length _ _ _ hc1
  have hc2 : y * 65 + 64 + [I W].length ≤ (splice (lnC W H l y) (y * 65) (bools ((l.drop (W * y)).take W))).length := by rw [hs1, lnC_len]; simp; omega
  refine List.ext_getElem (by rw [splice_length _ _ _ hc2, hs1, lnC_len, lnC_len]) fun i h1 h2 => ?_
  have hi : i < H * 65 := by rw [lnC_len] at h2; exact h2
  rw [splice_get _ _ _ hc2 i h1]
  have hR : (lnC W H l (y + 1))[i] = lnZ W l (y + 1) i := by simp [lnC]
  rw [hR]
  by_cases c1 : i = y * 65 + 64
  · rw [dif_pos (by simp; omega)]
    subst c1
    have e1 : (y * 65 + 64) / 65 = y := by omega
    have e2 : (y * 65 + 64) % 65 = 64 := by omega
    simp [lnZ, e1, e2]
  · rw [dif_neg (by simp; omega), splice_get _ _ _ hc1 i (by rw [hs1, lnC_len]; exact hi)]
    by_cases c2 : y * 65 ≤ i ∧ i < y * 65 + W
    · rw [dif_pos (by rw [hl1]; exact c2)]
      have e1 : i / 65 = y := by omega
      have e2 : i % 65 = i - y * 65 := by omega
      have e3 : W * y + (i - y * 65) < l.length := by omega
      have e4 : i - y * 65 < W := by omega
      have e5 : i - y * 65 < 64 := by omega
      simp [lnZ, e1, e2, bools, List.getD_eq_getElem?_getD, e3, e4, e5]
    · rw [dif_neg (by rw [hl1]; exact c2)]
      simp only [lnC, List.getElem_map, List.getElem_range, lnZ]
      by_cases c3 : i / 65 < y
      · have c4 : i / 65 < y + 1 := by omega
        rw [if_pos c3, if_pos c4]
      · rw [if_neg c3]
        by_cases c4 : i / 65 = y
        · rw [if_pos (show i / 65 < y + 1 by omega), c4]
          have e2 : i % 65 < 64 := by omega
          have e3 : ¬ i % 65 < W := by omega
          simp [e2, e3]
        · have c5 : ¬ i / 65 < y + 1 := by omega
          rw [if_neg c5]
theorem lines_c {W H : Nat} (hW1 : 1 ≤ W) (hW : W ≤ 64) (hH1 : 1 ≤ H) (hH : H ≤ 64) (b : Bool) {l : List Bool} (hn : l.length = W * H) :
    Contract Tryz.prog 68 [GA W H b l] (.list true false H (lnC W H l H)) := by
  refine Contract.intro (effS [] false) 6 follows Tryz.func68 rfl rfl (by kernel_rfl) (Nat.le_of_ble_eq_true rfl) ?_
  simp (disch := first | assumption | omega | rfl | simp only [RH]) only [↓RP, RG, FX, RQ, ↓reduceIte, Nat.reduceEqDiff, reduceCtorEq, Nat.reduceBEq, Nat.reduceAdd, Nat.reduceLeDiff, args0_1, make_W zc111, lnC_zero W H l, cA_lnC]
  refine loopK_I [1, 3, 9, 10] (fun y : Nat => y ≤ H) (fun y : Nat => ⟨[(1, .ptr 0 0 3), (3, .ref 1 0 H (H * 65)), (9, I H), (10, I y)], [⟨25, 3, [I W, I H, BA b l]⟩, ⟨111, 65, lnC W H l y⟩]⟩) (fun y => H - y) 0 (by omega) (by simp only [↓RP, RG, FX, RQ, ↓reduceIte, Nat.reduceEqDiff, reduceCtorEq, Nat.reduceBEq, Nat.reduceAdd, Nat.reduceLeDiff]; rfl) ?_
  intro y hy
  by_cases hlt : y < H
  · have hin : W * y + W ≤ W * H := by rw [← Nat.mul_succ]; exact Nat.mul_le_mul_left _ hlt
    have hWH : W * H ≤ 64 * 64 := Nat.mul_le_mul hW hH
    have m1 : (y : Int) * W = ((W * y : Nat) : Int) := by rw [Nat.mul_comm]; simp
    have m2 : ((y : Int) + 1) * W = ((W * y + W : Nat) : Int) := by rw [Int.add_mul, m1]; simp
    have hl1 : ((l.drop (W * y)).take W).length = W := by rw [List.length_take, List.length_drop]; omega
    have hst := lnC_step hW1 hW hn hlt
    have e1 : (((W * y + W : Nat) : Int) - ((W * y : Nat) : Int)).toNat = W := by omega
    simp (disch := first | assumption | omega | rfl | simp only [RH]) only [↓RP, RG, FX, RQ, ↓reduceIte, Nat.reduceEqDiff, reduceCtorEq, Nat.reduceBEq, Nat.reduceAdd, Nat.reduceLeDiff, idxW_ref, cA_lnC, slF_ptr, slice_arr, m1, m2, slice_lohi, e1, Int.toNat_natCast]
    rw [opK_copy]
    simp (disch := first | assumption | omega | rfl | simp only [RH]) only [↓RP, RG, FX, RQ, ↓reduceIte, Nat.reduceEqDiff, reduceCtorEq, Nat.reduceBEq, Nat.reduceAdd, Nat.reduceLeDiff]
    rw [copy_part (S := S23) (ty := 111) (es := 65) (cells := lnC W H l y) (l := (l.drop (W * y)).take W) rfl rfl hl1.symm hW (by omega) (by decide) (lnC_len W H l y) (by omega)]
    have hc1 : y * 65 + (bools ((l.drop (W * y)).take W)).length ≤ (lnC W H l y).length := by rw [bools_length, hl1, lnC_len]; omega
    have hs1 := splice_length _ _ _ hc1
    rw [lnC_len] at hs1
    generalize splice (lnC W H l y) (y * 65) (bools ((l.drop (W * y)).take W)) = mid at *
    have e2 : y * 65 + 64 < H * 65 := by omega
    simp (disch := first | assumption | omega | rfl | simp only [RH]) only [↓RP, RG, FX, RQ, ↓reduceIte, Nat.reduceEqDiff, reduceCtorEq, Nat.reduceBEq, Nat.reduceAdd, Nat.reduceLeDiff, idxW_ref, cA_lenW]
    rw [sX_mk (by decide), if_pos ⟨hs1, rfl, by simp; omega, rfl⟩, hst]
    simp (disch := first | assumption | omega | rfl | simp only [RH]) only [↓RP, RG, FX, RQ, ↓reduceIte, Nat.reduceEqDiff, reduceCtorEq, Nat.reduceBEq, Nat.reduceAdd, Nat.reduceLeDiff]
    exact ⟨y + 1, by omega, rfl, by omega⟩
  · obtain rfl : y = H := by omega
    simp (disch := first | assumption | omega | rfl | simp only [RH]) only [↓RP, RG, FX, RQ, ↓reduceIte, Nat.reduceEqDiff, reduceCtorEq, Nat.reduceBEq, Nat.reduceAdd, Nat.reduceLeDiff]
    rw [resVal_1 rfl]; simp (disch := first | assumption | omega | rfl | simp only [RH]) only [↓RP, RG, FX, RQ, ↓reduceIte, Nat.reduceEqDiff, reduceCtorEq, Nat.reduceBEq, Nat.reduceAdd, Nat.reduceLeDiff, RS]
    simp only [rX, lnC_len, if_true, List.drop_zero]
    rw [List.take_of_length_le (by rw [lnC_len]; exact Nat.le_refl _), lnC_res]
end Go.Proofs.YtbhkhaaifielkaaGreatDoor

/- The kinds of rows, by the program. -/
set_option linter.unusedSimpArgs false
set_option linter.unusedVariables false
set_option maxRecDepth 100000
namespace Go.Proofs.YtbhkhaaifielkaaGreatDoor
open Go Go.Proofs Go.AW

theorem padR_eq {W : Nat} (hW : W ≤ 64) {l : List Bool} {a b : Nat} : padR W l a = padR W l b ↔ rowN W l a = rowN W l b := by
  rw [rowN_eq]
  constructor
  · intro h x hx
    have := congrArg (fun r : List Bool => r.getD x false) h
    simpa [padR, List.getD_eq_getElem?_getD, List.getElem?_range (show x < 64 by omega), hx] using this
  · intro h
    refine List.map_congr_left fun x hx => ?_
    by_cases hxW : x < W
    · rw [h x hxW]
    · simp [hxW]
theorem eq_line {W : Nat} (hW : W ≤ 64) (l : List Bool) (a b : Nat) : eqK (List.replicate 64 true ++ [false]) (lineA W l a) (lineA W l b) = some (decide (rowN W l a = rowN W l b)) := by
  have h := eqK_bools (padR W l a) (padR W l b) [false] [I W] [I W] (by rw [padR_len, padR_len])
  rw [padR_len] at h
  unfold lineA
  rw [h, eqK_int, eqK_nil]
  simp only [Option.map_some, beq_self_eq_true, Bool.and_true]
  congr 1
  rw [Bool.eq_iff_iff, beq_iff_eq, decide_eq_true_iff]
  exact padR_eq hW
/-- The lines of some rows, one after the other. -/
def seenC (W : Nat) (l : List Bool) (fs : List Nat) : List AVal := fs.flatMap (lineA W l)
theorem seenC_len (W : Nat) (l : List Bool) (fs : List Nat) : (seenC W l fs).length = fs.length * 65 := by
  induction fs with
  | nil => rfl
  | cons f fs ih => simp only [seenC, List.flatMap_cons, List.length_append, List.length_cons, lineA_len] at ih ⊢; omega
theorem seenC_app (W : Nat) (l : List Bool) (fs : List Nat) (y : Nat) : seenC W l (fs ++ [y]) = seenC W l fs ++ lineA W l y := by simp [seenC]
theorem seenC_at (W : Nat) (l : List Bool) : ∀ (fs : List Nat) (k : Nat), k < fs.length → ((seenC W l fs).drop (k * 65)).take 65 = lineA W l (fs.getD k 0)
  | [], k, h => by simp at h
  | f :: fs, 0, _ => by
    simp only [seenC, List.flatMap_cons, Nat.zero_mul, List.drop_zero, List.getD_cons_zero]
    rw [List.take_append_of_le_length (by rw [lineA_len]; exact Nat.le_refl _), List.take_of_length_le (by rw [lineA_len]; exact Nat.le_refl _)]
  | f :: fs, k + 1, h => by
    have ih := seenC_at W l fs k (by simpa using h)
    have e : (k + 1) * 65 = (lineA W l f).length + k * 65 := by rw [lineA_len]; omega
    simp only [seenC, List.flatMap_cons, List.getD_cons_succ] at ih ⊢
    rw [e, List.drop_append, List.drop_eq_nil_of_le (by omega), List.nil_append, Nat.add_sub_cancel_left]
    exact ih
theorem lineA_one (W : Nat) (l : List Bool) (y : Nat) : (lineA W l y).all AVal.one = true := by
  rw [lineA, List.all_append, bools_one]; rfl
theorem lineA_ren (f : Nat → Option Nat) (n : Nat) (W : Nat) (l : List Bool) (y : Nat) : (lineA W l y).map (ren f (n + 1)) = lineA W l y := by
  simp only [lineA, List.map_append, map_ren_bools]; rfl
theorem seenC_ren (f : Nat → Option Nat) (n : Nat) (W : Nat) (l : List Bool) (fs : List Nat) : (seenC W l fs).map (ren f (n + 1)) = seenC W l fs := by
  induction fs with
  | nil => rfl
  | cons g fs ih => simp only [seenC, List.flatMap_cons, List.map_append, lineA_ren] at ih ⊢; rw [ih]
theorem take_line (W : Nat) (l : List Bool) (y : Nat) : (lineA W l y).take 65 = lineA W l y := List.take_of_length_le (by rw [lineA_len]; exact Nat.le_refl _)
theorem lnC_fr (n W H : Nat) (l : List Bool) (y : Nat) : (lnC W H l y).all (allFresh (n + 1)) = true := by
  rw [List.all_eq_true]
  intro x hx
  simp only [lnC, List.mem_map] at hx
  obtain ⟨i, _, rfl⟩ := hx
  simp only [lnZ]
  split <;> split <;> rfl
theorem lnC_ren (f : Nat → Option Nat) (n W H : Nat) (l : List Bool) (y : Nat) : (lnC W H l y).map (ren f (n + 1)) = lnC W H l y := by
  simp only [lnC, List.map_map]
  refine List.map_congr_left fun i _ => ?_
  simp only [Function.comp, lnZ]
  split <;> split <;> rfl
theorem ren_gwW (f : Nat → Option Nat) (n s k m : Nat) (hk : f k = some k) : ren f (n + 1) (gwW s k m) = gwW s k m := by
  unfold gwW
  split
  · simp [ren, hk]
  · simp [ren, hk]
theorem renO_goW (f : Nat → Option Nat) (n e s : Nat) (xs : List AVal) (hx : xs.map (ren f n) = xs) : renO f n (goW e s xs) = goW e s xs := by
  cases xs with
  | nil => rfl
  | cons x xr =>
    show AObj.mk e s ((x :: xr).map (ren f n)) = _
    rw [hx]; rfl
theorem lnC_len65 (W H : Nat) (l : List Bool) {y : Nat} (hy : y < H) : 65 ≤ ((lnC W H l H).drop (y * 65)).length := by rw [List.length_drop, lnC_len]; omega
theorem seenC_len65 (W : Nat) (l : List Bool) (fs : List Nat) {k : Nat} (hk : k < fs.length) : 65 ≤ ((seenC W l fs).drop (k * 65)).length := by rw [List.length_drop, seenC_len]; omega
theorem spl_line {cs : List AVal} (W : Nat) (l : List Bool) (y : Nat) (hc : cs.length = 65) : splice cs 0 (lineA W l y) = lineA W l y := by
  have hl := splice_length cs 0 (lineA W l y) (by rw [lineA_len]; omega)
  refine List.ext_getElem (by rw [hl, lineA_len, hc]) fun i h1 h2 => ?_
  rw [splice_get cs 0 (lineA W l y) (by rw [lineA_len]; omega) i h1, dif_pos ⟨Nat.zero_le _, by omega⟩]
  rfl
theorem sX_line {g : Bool} {h : List AObj} {id ty es : Nat} {cs : List AVal} (W : Nat) (l : List Bool) (y : Nat) (hty : ty ≠ 1000003) (hc : cs.length = 65) : sX (some (g, 65)) h id 0 65 (some ⟨ty, es, cs⟩) (some (lineA W l y)) = some (h.set id ⟨ty, es, lineA W l y⟩) := by
  rw [sX_mk hty, if_pos ⟨hc, lineA_len W l y, by rw [lineA_len]; omega, lineA_one W l y⟩, spl_line W l y hc]
theorem kindsP_c {W H : Nat} (hW1 : 1 ≤ W) (hW : W ≤ 64) (hH1 : 1 ≤ H) (hH : H ≤ 64) (b : Bool) {l : List Bool} (hn : l.length = W * H) :
    Contract Tryz.prog 54 [GA W H b l] (.tuple [LR (nI (knd (rowN W l) H).1).isEmpty (nI (knd (rowN W l) H).1), LR (nI (knd (rowN W l) H).2).isEmpty (nI (knd (rowN W l) H).2)]) := by
  refine Contract.intro (effS [] false) 6 follows Tryz.func54 rfl rfl (by kernel_rfl) (Nat.le_of_ble_eq_true rfl) ?_
  simp (disch := first | assumption | omega | rfl | simp only [RH]) only [↓RP, RG, FX, RQ, ↓reduceIte, Nat.reduceEqDiff, reduceCtorEq, Nat.reduceBEq, Nat.reduceAdd, Nat.reduceLeDiff, args0_1]
  refine callK_F 6 (lines_c hW1 hW hH1 hH b hn) (by simp (disch := first | assumption | omega | rfl | simp only [RH]) only [↓RP, RG, FX, RQ, ↓reduceIte, Nat.reduceEqDiff, reduceCtorEq, Nat.reduceBEq, Nat.reduceAdd, Nat.reduceLeDiff, RA] <;> rfl) (.inl (by simp [allFresh, lnC_fr])) ?_
  simp (disch := first | assumption | omega | rfl | simp only [RH]) only [↓RP, RG, FX, RQ, ↓reduceIte, Nat.reduceEqDiff, reduceCtorEq, Nat.reduceBEq, Nat.reduceAdd, Nat.reduceLeDiff]
  refine loopK_WW [2, 3, 4, 9, 10, 11] (fun y : Nat => y ≤ H) (fun y : Nat => ⟨[(2, gw true 1 (ints (nI (knd (rowN W l) y).1))), (3, gw true 2 (ints (nI (knd (rowN W l) y).2))), (4, gwW 65 3 (knd (rowN W l) y).2.length), (9, .list true false H (lnC W H l H)), (10, I H), (11, I y)], [⟨25, 3, [I W, I H, BA b l]⟩, go 3 (ints (nI (knd (rowN W l) y).1)), go 3 (ints (nI (knd (rowN W l) y).2)), goW 111 65 (seenC W l (knd (rowN W l) y).2)]⟩) (fun y => H - y) 0 (by omega) ?_ ?_
  · simp only [↓RP, RG, FX, RQ, ↓reduceIte, Nat.reduceEqDiff, reduceCtorEq, Nat.reduceBEq, Nat.reduceAdd, Nat.reduceLeDiff]
    exact Wk.weak (WE.cons _ (.nil _) (WE.cons _ (.nil _) (WE.cons _ (.nil _) (WE.cons _ (.refl _) (WE.cons _ (.refl _) (WE.cons _ (.refl _) WE.nil)))))) (.cons _ _ _ _ (WL.refl _) (.nil _ (by simp [go, ints, nI, knd, goW, seenC])))
  intro y hy
  by_cases hy2 : y < H
  · have hl1 := knd_len (rowN W l) y
    have hl2 := knd_le (rowN W l) y
    have hfi := knd_first (rowN W l) y
    have hkn : knd (rowN W l) (y + 1) = ((knd (rowN W l) y).1 ++ [plc (rowN W l) (knd (rowN W l) y).2 y], if plc (rowN W l) (knd (rowN W l) y).2 y = (knd (rowN W l) y).2.length then (knd (rowN W l) y).2 ++ [y] else (knd (rowN W l) y).2) := rfl
    generalize (knd (rowN W l) y).1 = ks at *
    generalize (knd (rowN W l) y).2 = fs at *
    have hk1 := nI_len ks
    have hk2 := nI_len fs
    have hk3 : (ints (nI ks)).length = ks.length := by rw [ints_length, nI_len]
    have hk4 : (ints (nI fs)).length = fs.length := by rw [ints_length, nI_len]
    have hlc := lnC_line W H l hy2
    have hl65 := lnC_len65 W H l hy2
    have hsl := seenC_len W l fs
    have hz65 : (bools (List.replicate 64 false) ++ [I 0]).length = 65 := by simp [bools_length]
    simp (disch := first | assumption | omega | rfl | simp only [RH]) only [↓RP, RG, FX, RQ, ↓reduceIte, Nat.reduceEqDiff, reduceCtorEq, Nat.reduceBEq, Nat.reduceAdd, Nat.reduceLeDiff, idxM_list, Int.toNat_natCast, hlc, hl65, take_line, parts_agg, sX_line]
    refine loopK_I [2, 3, 4, 5, 6, 7, 9, 10, 11] (fun k : Nat => k ≤ fs.length ∧ ∀ j, j < k → rowN W l (fs.getD j 0) ≠ rowN W l y) (fun k : Nat => ⟨[(2, gw true 1 (ints (nI ks))), (3, gw true 2 (ints (nI fs))), (4, gwW 65 3 fs.length), (5, I y), (6, .ptr 4 0 65), (7, I k), (9, .list true false H (lnC W H l H)), (10, I H), (11, I y)], [⟨25, 3, [I W, I H, BA b l]⟩, go 3 (ints (nI ks)), go 3 (ints (nI fs)), goW 111 65 (seenC W l fs), ⟨111, 65, lineA W l y⟩]⟩) (fun k => fs.length - k) 0 ⟨by omega, fun j hj => by omega⟩ (by simp only [↓RP, RG, FX, RQ, ↓reduceIte, Nat.reduceEqDiff, reduceCtorEq, Nat.reduceBEq, Nat.reduceAdd, Nat.reduceLeDiff]; rfl) ?_
    rintro k ⟨hk, hne⟩
    have hll := lineA_len W l y
    have hone := lineA_one W l y
    by_cases hlt : k < fs.length
    · have hat := seenC_at W l fs k hlt
      have hs65 := seenC_len65 W l fs hlt
      have heq := eq_line hW l (fs.getD k 0) y
      by_cases he : rowN W l (fs.getD k 0) = rowN W l y
      · have hp := plc_eq (rowN W l) hk hne (fun _ => he)
        rw [hp, if_neg (by omega)] at hkn
        rw [decide_eq_true he] at heq
        simp (disch := first | assumption | omega | rfl | simp only [RH]) only [↓RP, RG, FX, RQ, ↓reduceIte, Nat.reduceEqDiff, reduceCtorEq, Nat.reduceBEq, Nat.reduceAdd, Nat.reduceLeDiff, sview_gwW, gSW_go, idxW_gw, cA_goW, cA_lenW, hat, hs65, take_line, hll, heq, neqKT, append_int, Int.toNat_natCast]
        exact ⟨y + 1, by omega, (Wk.drop (hb := []) (h1 := []) (gs := [_, _, _, _, _]) 8 [0, 1, 2, 3] rfl (by decide) (by simp) (by simp)).trans (Wk.of_eq (by simp (disch := omega) only [RK, List.idxOf?_cons, List.idxOf?_nil, Nat.reduceBEq, Option.map_some, Option.map_none, List.map_cons, List.map_nil, List.getD_cons_zero, List.getD_cons_succ, Bool.false_eq_true, ↓reduceIte, Nat.add_zero, List.append_nil, seenC_ren, lnC_ren, ren_gwW _ _ _ _ _ (show keepF ([] : List AObj).length [0, 1, 2, 3] 3 = some 3 from rfl), renO_goW _ _ _ _ _ (seenC_ren _ _ _ _ _)]; rw [hkn]; simp only [nI_app, seenC_app, List.length_append, List.length_singleton]; rfl)), by omega⟩
      · rw [decide_eq_false he] at heq
        simp (disch := first | assumption | omega | rfl | simp only [RH]) only [↓RP, RG, FX, RQ, ↓reduceIte, Nat.reduceEqDiff, reduceCtorEq, Nat.reduceBEq, Nat.reduceAdd, Nat.reduceLeDiff, sview_gwW, gSW_go, idxW_gw, cA_goW, cA_lenW, hat, hs65, take_line, hll, heq, neqKT, Int.toNat_natCast]
        refine ⟨k + 1, ⟨by omega, fun j hj => ?_⟩, rfl, by omega⟩
        by_cases hjk : j = k
        · subst hjk; exact he
        · exact hne j (by omega)
    · obtain rfl : k = fs.length := by omega
      have hp := plc_eq (rowN W l) (Nat.le_refl _) hne (fun h => absurd h (by omega))
      rw [hp, if_pos rfl] at hkn
      simp (disch := first | assumption | omega | rfl | simp only [RH]) only [↓RP, RG, FX, RQ, ↓reduceIte, Nat.reduceEqDiff, reduceCtorEq, Nat.reduceBEq, Nat.reduceAdd, Nat.reduceLeDiff, sview_gwW, gSW_go, cA_lenW, hll, take_line, append_int, List.length_replicate, spl_line]
      rw [append_W (xs := seenC W l fs) rfl hsl hll hone (by omega) (by omega), ← seenC_app]
      simp (disch := first | assumption | omega | rfl | simp only [RH]) only [↓RP, RG, FX, RQ, ↓reduceIte, Nat.reduceEqDiff, reduceCtorEq, Nat.reduceBEq, Nat.reduceAdd, Nat.reduceLeDiff, append_int]
      exact ⟨y + 1, by omega, (Wk.drop (hb := []) (h1 := []) (gs := [_, _, _, _, _]) 8 [0, 1, 2, 3] rfl (by decide) (by simp) (by simp)).trans (Wk.of_eq (by simp (disch := omega) only [RK, List.idxOf?_cons, List.idxOf?_nil, Nat.reduceBEq, Option.map_some, Option.map_none, List.map_cons, List.map_nil, List.getD_cons_zero, List.getD_cons_succ, Bool.false_eq_true, ↓reduceIte, Nat.add_zero, List.append_nil, seenC_ren, lnC_ren, ren_gwW _ _ _ _ _ (show keepF ([] : List AObj).length [0, 1, 2, 3] 3 = some 3 from rfl), renO_goW _ _ _ _ _ (seenC_ren _ _ _ _ _)]; rw [hkn]; simp only [nI_app, seenC_app, List.length_append, List.length_singleton]; rfl)), by omega⟩
  · obtain rfl : y = H := by omega
    simp (disch := first | assumption | omega | rfl | simp only [RH]) only [↓RP, RG, FX, RQ, ↓reduceIte, Nat.reduceEqDiff, reduceCtorEq, Nat.reduceBEq, Nat.reduceAdd, Nat.reduceLeDiff]
    rw [resVal_2 rfl]; simp (disch := first | assumption | omega | rfl | simp only [RH]) only [↓RP, RG, FX, RQ, ↓reduceIte, Nat.reduceEqDiff, reduceCtorEq, Nat.reduceBEq, Nat.reduceAdd, Nat.reduceLeDiff, RS]
    simp only [Bool.true_and, ints_isEmpty]
end Go.Proofs.YtbhkhaaifielkaaGreatDoor

/- Grids: made cell by cell, turned. -/
set_option linter.unusedSimpArgs false
set_option linter.unusedVariables false
set_option maxRecDepth 100000
namespace Go.Proofs.YtbhkhaaifielkaaGreatDoor
open Go Go.Proofs Go.AW

theorem build_c (f : FuncId) (caps : List AVal) (W H : Nat) (u : Nat → Nat → Bool) (hw : W ≤ 10000) (hh : H ≤ 10000) (hcaps : ∀ r : List AObj, caps.map (argOf r 6) = caps) (hup : ∀ x y : Nat, x < W → y < H → Contract Tryz.prog f ([I x, I y] ++ caps) (B (u x y))) :
    Contract Tryz.prog 66 [I W, I H, .func (.func f) [] caps] (GR W H false (tabN W u (W * H))) := by
  have hm := mul_bd (W := W) (H := H) hw hh
  refine Contract.intro (effS [] false) 6 follows Tryz.func66 rfl rfl (by kernel_rfl) (Nat.le_of_ble_eq_true rfl) ?_
  simp (disch := first | assumption | omega | rfl | simp only [RH]) only [↓RP, RG, FX, RQ, ↓reduceIte, Nat.reduceEqDiff, reduceCtorEq, Nat.reduceBEq, Nat.reduceAdd, Nat.reduceLeDiff, args0_3, make_bool, Int.toNat_zero]
  refine loopK_I [0, 1, 2, 6, 7, 17, 18] (fun y : Nat => y ≤ H) (fun y => ⟨[(0, I W), (1, I H), (2, .func (.func f) [] caps), (6, .ptr 0 0 3), (7, .ptr 2 0 3), (17, I H), (18, I y)], [⟨25, 3, [I 0, I 0, .cap0 true]⟩, ⟨4, 1, bools (tabN W u (W * y))⟩, ⟨25, 3, [I W, I H, .ref 1 0 (W * y) (W * y)]⟩]⟩) (fun y => H - y) 0 (by omega) (by simp only [↓RP, RG, FX, RQ, ↓reduceIte, Nat.reduceEqDiff, reduceCtorEq, Nat.reduceBEq, Nat.reduceAdd, Nat.reduceLeDiff, List.replicate_zero, Nat.mul_zero]; rfl) ?_
  intro y hy
  by_cases hlt : y < H
  · simp (disch := first | assumption | omega | rfl | simp only [RH]) only [↓RP, RG, FX, RQ, ↓reduceIte, Nat.reduceEqDiff, reduceCtorEq, Nat.reduceBEq, Nat.reduceAdd, Nat.reduceLeDiff]
    refine loopK_I [0, 1, 2, 6, 7, 8, 17, 18, 21, 22] (fun x : Nat => x ≤ W) (fun x => ⟨[(0, I W), (1, I H), (2, .func (.func f) [] caps), (6, .ptr 0 0 3), (7, .ptr 2 0 3), (8, I y), (17, I H), (18, I y), (21, I W), (22, I x)], [⟨25, 3, [I 0, I 0, .cap0 true]⟩, ⟨4, 1, bools (tabN W u (W * y + x))⟩, ⟨25, 3, [I W, I H, .ref 1 0 (W * y + x) (W * y + x)]⟩]⟩) (fun x => W - x) 0 (by omega) (by simp only [↓RP, RG, FX, RQ, ↓reduceIte, Nat.reduceEqDiff, reduceCtorEq, Nat.reduceBEq, Nat.reduceAdd, Nat.reduceLeDiff]; rfl) ?_
    intro x hx
    by_cases hlt2 : x < W
    · have hl := tabN_len W u (W * y + x)
      have hb : W * y + x ≤ 1000000000 := by
        have : W * y ≤ 10000 * 10000 := Nat.mul_le_mul hw (by omega)
        omega
      simp (disch := first | assumption | omega | rfl | simp only [RH]) only [↓RP, RG, FX, RQ, ↓reduceIte, Nat.reduceEqDiff, reduceCtorEq, Nat.reduceBEq, Nat.reduceAdd, Nat.reduceLeDiff]
      refine callK_V 6 (hup x y hlt2 hlt) (by rw [List.nil_append, List.map_append, hcaps]; rfl) (.inl rfl) ?_
      simp (disch := first | assumption | omega | rfl | simp only [RH]) only [↓RP, RG, FX, RQ, ↓reduceIte, Nat.reduceEqDiff, reduceCtorEq, Nat.reduceBEq, Nat.reduceAdd, Nat.reduceLeDiff, append_refB, apRX_bools]
      exact ⟨x + 1, by omega, by rw [show W * y + (x + 1) = W * y + x + 1 from rfl, tabN_succ W u hlt2]; rfl, by omega⟩
    · obtain rfl : x = W := by omega
      simp (disch := first | assumption | omega | rfl | simp only [RH]) only [↓RP, RG, FX, RQ, ↓reduceIte, Nat.reduceEqDiff, reduceCtorEq, Nat.reduceBEq, Nat.reduceAdd, Nat.reduceLeDiff]
      exact ⟨y + 1, by omega, rfl, by omega⟩
  · obtain rfl : y = H := by omega
    have hl := tabN_len W u (W * y)
    simp (disch := first | assumption | omega | rfl | simp only [RH]) only [↓RP, RG, FX, RQ, ↓reduceIte, Nat.reduceEqDiff, reduceCtorEq, Nat.reduceBEq, Nat.reduceAdd, Nat.reduceLeDiff]
    rw [resVal_1 rfl]; simp (disch := first | assumption | omega | rfl | simp only [RH]) only [↓RP, RG, FX, RQ, ↓reduceIte, Nat.reduceEqDiff, reduceCtorEq, Nat.reduceBEq, Nat.reduceAdd, Nat.reduceLeDiff, RS]
    first | done | rw [hl]

/-- A grid turned. -/
def uT (W : Nat) (l : List Bool) (x y : Nat) : Bool := cell W l y x
theorem turnF_c {W H : Nat} (hW : W ≤ 64) (hH : H ≤ 64) (b : Bool) {l : List Bool} (hn : l.length = W * H) {x y : Nat} (hx : x < H) (hy : y < W) :
    Contract Tryz.prog 67 [I x, I y, .spot false [I W, I H, BA b l]] (B (uT W l x y)) := by
  have h1 := idx_lt (W := W) (H := H) (x := y) (y := x) hy hx
  have h2 := idx_nat W x y
  have h3 : W * H ≤ 64 * 64 := Nat.mul_le_mul hW hH
  have h4 : (x : Int) * (W : Int) = ((W * x : Nat) : Int) := by rw [Int.natCast_mul, Int.mul_comm]
  have h5 : W * x ≤ 64 * 64 := Nat.mul_le_mul hW (by omega)
  refine Contract.intro (effS [] false) 6 follows Tryz.func67 rfl rfl (by kernel_rfl) (Nat.le_of_ble_eq_true rfl) ?_
  simp (disch := first | assumption | omega | rfl | simp only [RH]) only [↓RP, RG, FX, RQ, ↓reduceIte, Nat.reduceEqDiff, reduceCtorEq, Nat.reduceBEq, Nat.reduceAdd, Nat.reduceLeDiff, args0_3]
  rw [resVal_1 rfl]; simp (disch := first | assumption | omega | rfl | simp only [RH]) only [↓RP, RG, FX, RQ, ↓reduceIte, Nat.reduceEqDiff, reduceCtorEq, Nat.reduceBEq, Nat.reduceAdd, Nat.reduceLeDiff, RS]
  first | done | (unfold uT cell; rfl)

theorem gturnP_c {W H : Nat} (hW0 : 0 < W) (hH0 : 0 < H) (hW : W ≤ 64) (hH : H ≤ 64) (b : Bool) {l : List Bool} (hn : l.length = W * H) :
    Contract Tryz.prog 53 [GA W H b l] (.tuple [GR H W false (tabN H (uT W l) (H * W)), I 0]) := by
  have hz : gchk W H l.length = 0 := gchk_ok ⟨by omega, by omega, by omega, by omega, by rw [hn, Int.natCast_mul]⟩
  refine Contract.intro (effS [] false) 6 follows Tryz.func53 rfl rfl (by kernel_rfl) (Nat.le_of_ble_eq_true rfl) ?_
  simp (disch := first | assumption | omega | rfl | simp only [RH]) only [↓RP, RG, FX, RQ, ↓reduceIte, Nat.reduceEqDiff, reduceCtorEq, Nat.reduceBEq, Nat.reduceAdd, Nat.reduceLeDiff, args0_1]
  refine callK_F 6 (gcheckP_c W H b l) (by simp (disch := first | assumption | omega | rfl | simp only [RH]) only [↓RP, RG, FX, RQ, ↓reduceIte, Nat.reduceEqDiff, reduceCtorEq, Nat.reduceBEq, Nat.reduceAdd, Nat.reduceLeDiff, RA] <;> rfl) (.inl (by simp [allFresh, ints_fresh, bools_fresh])) ?_
  simp (disch := first | assumption | omega | rfl | simp only [RH]) only [↓RP, RG, FX, RQ, ↓reduceIte, Nat.reduceEqDiff, reduceCtorEq, Nat.reduceBEq, Nat.reduceAdd, Nat.reduceLeDiff]
  refine callK_F 6 (build_c 67 [.spot false [I W, I H, BA b l]] H W (uT W l) (by omega) (by omega) (fun r => by simp [argOf]; exact bools_arg l r 3) (fun x y hx hy => turnF_c hW hH b hn hx hy)) (by simp (disch := first | assumption | omega | rfl | simp only [RH]) only [↓RP, RG, FX, RQ, ↓reduceIte, Nat.reduceEqDiff, reduceCtorEq, Nat.reduceBEq, Nat.reduceAdd, Nat.reduceLeDiff, RA] <;> rfl) (.inl (by simp [allFresh, ints_fresh, bools_fresh])) ?_
  simp (disch := first | assumption | omega | rfl | simp only [RH]) only [↓RP, RG, FX, RQ, ↓reduceIte, Nat.reduceEqDiff, reduceCtorEq, Nat.reduceBEq, Nat.reduceAdd, Nat.reduceLeDiff]
  rw [resVal_2 rfl]; simp (disch := first | assumption | omega | rfl | simp only [RH]) only [↓RP, RG, FX, RQ, ↓reduceIte, Nat.reduceEqDiff, reduceCtorEq, Nat.reduceBEq, Nat.reduceAdd, Nat.reduceLeDiff, RS]
end Go.Proofs.YtbhkhaaifielkaaGreatDoor

/- The kinds of columns and rows, by both. -/
set_option linter.unusedSimpArgs false
set_option linter.unusedVariables false
set_option maxRecDepth 100000
namespace Go.Proofs.YtbhkhaaifielkaaGreatDoor
open Go Go.Proofs Go.AW

/-- Kinds of columns and their firsts; of rows. -/
def tgL (W H : Nat) (l : List Bool) : List Bool := tabN H (uT W l) (H * W)
theorem tgL_len (W H : Nat) (l : List Bool) : (tgL W H l).length = H * W := tabN_len _ _ _
def kC (W H : Nat) (l : List Bool) : List Nat := (knd (rowN H (tgL W H l)) W).1
def fC (W H : Nat) (l : List Bool) : List Nat := (knd (rowN H (tgL W H l)) W).2
def kR (W H : Nat) (l : List Bool) : List Nat := (knd (rowN W l) H).1
def fR (W H : Nat) (l : List Bool) : List Nat := (knd (rowN W l) H).2
abbrev LN (l : List Nat) : AVal := LR (nI l).isEmpty (nI l)
section
variable {W H : Nat} (hW1 : 1 ≤ W) (hW : W ≤ 64) (hH1 : 1 ≤ H) (hH : H ≤ 64) (b : Bool) {l : List Bool} (hn : l.length = W * H)
include hW1 hW hH1 hH hn
theorem both_c : Contract Tryz.prog 38 [GA W H b l] (.tuple [LN (kC W H l), LN (fC W H l), LN (kR W H l), LN (fR W H l), I 0]) := by
  have h1 := gturnP_c (by omega) (by omega) hW hH b hn
  have h2 := fun b' => kindsP_c (W := H) (H := W) hH1 hH hW1 hW b' (l := tgL W H l) (tgL_len W H l)
  have h3 := kindsP_c hW1 hW hH1 hH b hn
  have ht := tgL_len W H l
  rw [show tabN H (uT W l) (H * W) = tgL W H l from rfl] at h1
  simp only [show (knd (rowN H (tgL W H l)) W).1 = kC W H l from rfl, show (knd (rowN H (tgL W H l)) W).2 = fC W H l from rfl] at h2
  simp only [show (knd (rowN W l) H).1 = kR W H l from rfl, show (knd (rowN W l) H).2 = fR W H l from rfl] at h3
  generalize tgL W H l = tg at *
  generalize kC W H l = a1 at *
  generalize fC W H l = a2 at *
  generalize kR W H l = a3 at *
  generalize fR W H l = a4 at *
  refine Contract.intro (effS [] false) 6 follows Tryz.func38 rfl rfl (by kernel_rfl) (Nat.le_of_ble_eq_true rfl) ?_
  simp (disch := first | assumption | omega | rfl | simp only [RH]) only [↓RP, RG, FX, RQ, ↓reduceIte, Nat.reduceEqDiff, reduceCtorEq, Nat.reduceBEq, Nat.reduceAdd, Nat.reduceLeDiff, args0_1]
  refine callK_F 6 (h1) (by simp (disch := first | assumption | omega | rfl | simp only [RH]) only [↓RP, RG, FX, RQ, ↓reduceIte, Nat.reduceEqDiff, reduceCtorEq, Nat.reduceBEq, Nat.reduceAdd, Nat.reduceLeDiff, RA] <;> rfl) (.inl (by simp [allFresh, ints_fresh, bools_fresh])) ?_
  simp (disch := first | assumption | omega | rfl | simp only [RH]) only [↓RP, RG, FX, RQ, ↓reduceIte, Nat.reduceEqDiff, reduceCtorEq, Nat.reduceBEq, Nat.reduceAdd, Nat.reduceLeDiff]
  refine callK_F 6 (h2 _) (by simp (disch := first | assumption | omega | rfl | simp only [RH]) only [↓RP, RG, FX, RQ, ↓reduceIte, Nat.reduceEqDiff, reduceCtorEq, Nat.reduceBEq, Nat.reduceAdd, Nat.reduceLeDiff, RA] <;> rfl) (.inl (by simp [allFresh, ints_fresh])) ?_
  simp (disch := first | assumption | omega | rfl | simp only [RH]) only [↓RP, RG, FX, RQ, ↓reduceIte, Nat.reduceEqDiff, reduceCtorEq, Nat.reduceBEq, Nat.reduceAdd, Nat.reduceLeDiff]
  refine callK_F 6 h3 (by simp (disch := first | assumption | omega | rfl | simp only [RH]) only [↓RP, RG, FX, RQ, ↓reduceIte, Nat.reduceEqDiff, reduceCtorEq, Nat.reduceBEq, Nat.reduceAdd, Nat.reduceLeDiff, RA] <;> rfl) (.inl (by simp [allFresh, ints_fresh])) ?_
  simp (disch := first | assumption | omega | rfl | simp only [RH]) only [↓RP, RG, FX, RQ, ↓reduceIte, Nat.reduceEqDiff, reduceCtorEq, Nat.reduceBEq, Nat.reduceAdd, Nat.reduceLeDiff]
  rw [resVal_5 rfl]; simp (disch := first | assumption | omega | rfl | simp only [RH]) only [↓RP, RG, FX, RQ, ↓reduceIte, Nat.reduceEqDiff, reduceCtorEq, Nat.reduceBEq, Nat.reduceAdd, Nat.reduceLeDiff, RS]
  first | done | rfl
theorem countP_c : Contract Tryz.prog 19 [GA W H b l] (.tuple [I (fC W H l).length, I (fR W H l).length, I 0]) := by
  have h1 := both_c hW1 hW hH1 hH b hn
  have n1 := nI_len (fC W H l)
  have n2 := nI_len (fR W H l)
  generalize kC W H l = a1 at *
  generalize fC W H l = a2 at *
  generalize kR W H l = a3 at *
  generalize fR W H l = a4 at *
  refine Contract.intro (effS [] false) 6 follows Tryz.func19 rfl rfl (by kernel_rfl) (Nat.le_of_ble_eq_true rfl) ?_
  simp (disch := first | assumption | omega | rfl | simp only [RH]) only [↓RP, RG, FX, RQ, ↓reduceIte, Nat.reduceEqDiff, reduceCtorEq, Nat.reduceBEq, Nat.reduceAdd, Nat.reduceLeDiff, args0_1]
  refine callK_F 6 h1 (by simp (disch := first | assumption | omega | rfl | simp only [RH]) only [↓RP, RG, FX, RQ, ↓reduceIte, Nat.reduceEqDiff, reduceCtorEq, Nat.reduceBEq, Nat.reduceAdd, Nat.reduceLeDiff, RA] <;> rfl) (.inl (by simp [allFresh, ints_fresh])) ?_
  simp (disch := first | assumption | omega | rfl | simp only [RH]) only [↓RP, RG, FX, RQ, ↓reduceIte, Nat.reduceEqDiff, reduceCtorEq, Nat.reduceBEq, Nat.reduceAdd, Nat.reduceLeDiff, n1, n2]
  rw [resVal_3 rfl]; simp (disch := first | assumption | omega | rfl | simp only [RH]) only [↓RP, RG, FX, RQ, ↓reduceIte, Nat.reduceEqDiff, reduceCtorEq, Nat.reduceBEq, Nat.reduceAdd, Nat.reduceLeDiff, RS]
  first | done | rfl
end
end Go.Proofs.YtbhkhaaifielkaaGreatDoor

/- Drafts: drawdowns and lifts, whole. -/
set_option linter.unusedSimpArgs false
set_option linter.unusedVariables false
set_option maxRecDepth 100000
namespace Go.Proofs.YtbhkhaaifielkaaGreatDoor
open Go Go.Proofs Go.AW

end Go.Proofs.YtbhkhaaifielkaaGreatDoor

/- Drafts: drawdowns and lifts, whole: the reference's, and lifts. -/
set_option linter.unusedSimpArgs false
set_option linter.unusedVariables false
set_option maxRecDepth 100000
namespace Go.Proofs.YtbhkhaaifielkaaGreatDoor
open Go Go.Proofs Go.AW

end Go.Proofs.YtbhkhaaifielkaaGreatDoor

/- Drafts: compared, copied; the law of drawdowns. -/
set_option linter.unusedSimpArgs false
set_option linter.unusedVariables false
set_option maxRecDepth 100000
namespace Go.Proofs.YtbhkhaaifielkaaGreatDoor
open Go Go.Proofs Go.AW

def dGreat (th td : List Int) (l : List Bool) : Prop := 70 < (th.length : Int) ∨ 70 < (td.length : Int) ∨ 4200 < (l.length : Int)
instance (th td : List Int) (l : List Bool) : Decidable (dGreat th td l) := by unfold dGreat; infer_instance

def dEq (s t : Int) (th td : List Int) (w h : Int) (l : List Bool) (s' t' : Int) (th' td' : List Int) (w' h' : Int) (l' : List Bool) : Prop := s = s' ∧ t = t' ∧ th = th' ∧ td = td' ∧ w = w' ∧ h = h' ∧ l = l'
instance (s t : Int) (th td : List Int) (w h : Int) (l : List Bool) (s' t' : Int) (th' td' : List Int) (w' h' : Int) (l' : List Bool) : Decidable (dEq s t th td w h l s' t' th' td' w' h' l') := by unfold dEq; infer_instance

end Go.Proofs.YtbhkhaaifielkaaGreatDoor

/- The least draft of a grid, by both; grids that are not valid. -/
set_option linter.unusedSimpArgs false
set_option linter.unusedVariables false
set_option maxRecDepth 100000
namespace Go.Proofs.YtbhkhaaifielkaaGreatDoor
open Go Go.Proofs Go.AW

theorem limE (env : List (Nat × AVal)) : ev env (.global 0) = .spot false [I 40, I 40] := rfl

section
variable (w h : Int) (b : Bool) (l : List Bool) (hz : gchk w h l.length ≠ 0)
include hz
end
end Go.Proofs.YtbhkhaaifielkaaGreatDoor

/- The least draft of a valid grid, by both. -/
set_option linter.unusedSimpArgs false
set_option linter.unusedVariables false
set_option maxRecDepth 100000
namespace Go.Proofs.YtbhkhaaifielkaaGreatDoor
open Go Go.Proofs Go.AW

section
variable {W H : Nat} (hW1 : 1 ≤ W) (hW : W ≤ 64) (hH1 : 1 ≤ H) (hH : H ≤ 64) (b : Bool) {l : List Bool} (hn : l.length = W * H)
include hW1 hW hH1 hH hn
theorem ofP_many (hm : 40 < (fC W H l).length ∨ 40 < (fR W H l).length) : Contract Tryz.prog 17 [GA W H b l] (.tuple [DR 0 0 true [] true [] 0 0 true [], I 4]) := by
  have h1 := both_c hW1 hW hH1 hH b hn
  have n1 := nI_len (fC W H l)
  have n2 := nI_len (fR W H l)
  generalize kC W H l = a1 at *
  generalize fC W H l = a2 at *
  generalize kR W H l = a3 at *
  generalize fR W H l = a4 at *
  refine Contract.intro (effS [] false) 6 follows Tryz.func17 rfl rfl (by kernel_rfl) (Nat.le_of_ble_eq_true rfl) ?_
  simp (disch := first | assumption | omega | rfl | simp only [RH]) only [↓RP, RG, FX, RQ, ↓reduceIte, Nat.reduceEqDiff, reduceCtorEq, Nat.reduceBEq, Nat.reduceAdd, Nat.reduceLeDiff, args0_1]
  refine callK_F 6 h1 (by simp (disch := first | assumption | omega | rfl | simp only [RH]) only [↓RP, RG, FX, RQ, ↓reduceIte, Nat.reduceEqDiff, reduceCtorEq, Nat.reduceBEq, Nat.reduceAdd, Nat.reduceLeDiff, RA] <;> rfl) (.inl (by simp [allFresh, ints_fresh])) ?_
  simp (disch := first | assumption | omega | rfl | simp only [RH]) only [↓RP, RG, FX, RQ, ↓reduceIte, Nat.reduceEqDiff, reduceCtorEq, Nat.reduceBEq, Nat.reduceAdd, Nat.reduceLeDiff, n1, n2]
  refine loopK_I [1, 2, 3, 4, 5, 6, 7, 32, 33] (fun z : Nat => z ≤ 2 ∧ (0 < z → a2.length ≤ 40) ∧ (1 < z → a4.length ≤ 40)) (fun z : Nat => ⟨[(1, .ptr 0 0 3), (2, .ptr 1 0 7), (3, I 0), (4, LN a1), (5, LN a2), (6, LN a3), (7, LN a4), (32, .agg [I a2.length, I a4.length]), (33, I z)], [⟨25, 3, [I W, I H, BA b l]⟩, ⟨27, 7, [I 0, I 0, .cap0 true, .cap0 true, I 0, I 0, .cap0 true]⟩]⟩) (fun z => 2 - z) 0 ⟨by omega, by omega, by omega⟩ (by simp only [↓RP, RG, FX, RQ, ↓reduceIte, Nat.reduceEqDiff, reduceCtorEq, Nat.reduceBEq, Nat.reduceAdd, Nat.reduceLeDiff]; rfl) ?_
  rintro z ⟨hz, hz1, hz2⟩
  have hc : z = 0 ∨ z = 1 ∨ z = 2 := by omega
  rcases hc with rfl | rfl | rfl
  · by_cases c1 : 40 < (a2.length : Int)
    · simp (disch := first | assumption | omega | rfl | simp only [RH]) only [↓RP, RG, FX, RQ, ↓reduceIte, Nat.reduceEqDiff, reduceCtorEq, Nat.reduceBEq, Nat.reduceAdd, Nat.reduceLeDiff, opK_index, idxA_agg, idxA_spot, limE]
      rw [resVal_2 rfl]; simp (disch := first | assumption | omega | rfl | simp only [RH]) only [↓RP, RG, FX, RQ, ↓reduceIte, Nat.reduceEqDiff, reduceCtorEq, Nat.reduceBEq, Nat.reduceAdd, Nat.reduceLeDiff, RS]
      first | done | rfl
    · simp (disch := first | assumption | omega | rfl | simp only [RH]) only [↓RP, RG, FX, RQ, ↓reduceIte, Nat.reduceEqDiff, reduceCtorEq, Nat.reduceBEq, Nat.reduceAdd, Nat.reduceLeDiff, opK_index, idxA_agg, idxA_spot, limE]
      exact ⟨1, ⟨by omega, by omega, by omega⟩, rfl, by omega⟩
  · have := hz1 (by omega)
    simp (disch := first | assumption | omega | rfl | simp only [RH]) only [↓RP, RG, FX, RQ, ↓reduceIte, Nat.reduceEqDiff, reduceCtorEq, Nat.reduceBEq, Nat.reduceAdd, Nat.reduceLeDiff, opK_index, idxA_agg, idxA_spot, limE]
    rw [resVal_2 rfl]; simp (disch := first | assumption | omega | rfl | simp only [RH]) only [↓RP, RG, FX, RQ, ↓reduceIte, Nat.reduceEqDiff, reduceCtorEq, Nat.reduceBEq, Nat.reduceAdd, Nat.reduceLeDiff, RS]
    first | done | rfl
  · exfalso
    have := hz1 (by omega)
    have := hz2 (by omega)
    omega
end
end Go.Proofs.YtbhkhaaifielkaaGreatDoor

/- The least draft of a valid grid, by the reference. -/
set_option linter.unusedSimpArgs false
set_option linter.unusedVariables false
set_option maxRecDepth 100000
namespace Go.Proofs.YtbhkhaaifielkaaGreatDoor
open Go Go.Proofs Go.AW

section
variable {W H : Nat} (hW1 : 1 ≤ W) (hW : W ≤ 64) (hH1 : 1 ≤ H) (hH : H ≤ 64) (b : Bool) {l : List Bool} (hn : l.length = W * H)
include hW1 hW hH1 hH hn
end
end Go.Proofs.YtbhkhaaifielkaaGreatDoor

/- Both give the same kinds and drafts: the law FactorKinds. -/
set_option linter.unusedSimpArgs false
set_option linter.unusedVariables false
set_option maxRecDepth 100000
namespace Go.Proofs.YtbhkhaaifielkaaGreatDoor
open Go Go.Proofs Go.AW

section
variable (w h : Int) (b : Bool) (l : List Bool)
end
end Go.Proofs.YtbhkhaaifielkaaGreatDoor

/- Tables for the run of closed code. -/
set_option maxRecDepth 100000
set_option linter.unusedSimpArgs false
namespace Go.Proofs.YtbhkhaaifielkaaGreatDoor
open Go Go.Proofs Go.AW
noncomputable def tabE : List (Nat × EffF) := [(81, effY (effS [] false) undef (fun _ _ _ => False)), (40, effS [] false [7]), (21, effS [40] false [1, 3, 5, 8, 12, 15] [0, 7, 11])] ++ [5, 7, 8, 9, 14, 17, 18, 19, 20, 24, 25, 26, 27, 28, 29, 30, 31, 32, 33, 34, 35, 38, 39, 42, 43, 44, 45, 46, 47, 48, 49, 50, 51, 53, 54, 55, 56, 57, 58, 59, 60, 61, 62, 63, 64, 65, 66, 67, 68, 69, 70, 71, 72, 73, 74, 75, 76, 77, 79, 80, 81, 82, 83, 84, 85, 86, 87, 88, 89, 90, 91, 92, 93, 94, 95, 96, 97, 98, 100, 101, 102, 103, 104, 105, 106, 107, 108, 109, 110, 111, 112, 113, 114, 116, 117, 118, 119, 120, 121, 122, 123, 125, 126].map fun f => (f, effS [] false)
theorem tabE_ok : tabE.all (chkE Tryz.prog) = true := by kernel_rfl
noncomputable def tabS : List (Nat × (Array Value → Sem Value)) := [(99, Extern.BytealgCount.count), (124, Extern.BytealgIndexByte.indexByte)]
noncomputable def xT : XT := ⟨lookE tabE, hasN [43, 44, 51, 57, 58, 59, 61, 63, 77, 79, 80, 92, 93, 101, 102, 103, 104, 108, 109, 118, 40, 21], extE Tryz.prog [78] tabS, noOrc⟩
theorem xExt : ∀ f avs v, extE Tryz.prog [78] tabS f avs = some v → ExtOk Tryz.prog f avs v := extE_ok (fun f hf => by
  simp only [List.mem_cons, List.not_mem_nil, or_false] at hf
  rcases hf with rfl
  · exact ⟨_, Tryz.func78, by kernel_rfl, by kernel_rfl, by kernel_rfl, by kernel_rfl⟩
  ) (fun p hp => by
  simp only [tabS, List.mem_cons, List.not_mem_nil, or_false] at hp
  rcases hp with rfl | rfl
  · exact ⟨_, Tryz.func99, by kernel_rfl, by kernel_rfl, by kernel_rfl, by kernel_rfl⟩
  · exact ⟨_, Tryz.func124, by kernel_rfl, by kernel_rfl, by kernel_rfl, by kernel_rfl⟩
  )
theorem xGood : xT.Good Tryz.prog := XT.good follows tabE_ok xExt noOrc_ok
end Go.Proofs.YtbhkhaaifielkaaGreatDoor

/- Drafts: drawdowns and lifts as values; turned. -/
set_option linter.unusedSimpArgs false
set_option linter.unusedVariables false
set_option maxRecDepth 100000
namespace Go.Proofs.YtbhkhaaifielkaaGreatDoor
open Go Go.Proofs Go.AW

end Go.Proofs.YtbhkhaaifielkaaGreatDoor

/- Lists: the place of an element. -/
set_option linter.unusedSimpArgs false
set_option linter.unusedVariables false
set_option maxRecDepth 100000
namespace Go.Proofs.YtbhkhaaifielkaaGreatDoor
open Go Go.Proofs Go.AW

end Go.Proofs.YtbhkhaaifielkaaGreatDoor

/- Lists: do they have each number just once? -/
set_option linter.unusedSimpArgs false
set_option linter.unusedVariables false
set_option maxRecDepth 100000
namespace Go.Proofs.YtbhkhaaifielkaaGreatDoor
open Go Go.Proofs Go.AW

/-- It is among the elements. -/
def has (l : List Int) (x : Int) : Prop := ∃ i, i < l.length ∧ l.getD i 0 = x
instance (l : List Int) (x : Int) : Decidable (has l x) := by unfold has; infer_instance
end Go.Proofs.YtbhkhaaifielkaaGreatDoor

/- Lists numbered by first occurrence, by the reference. -/
set_option linter.unusedSimpArgs false
set_option linter.unusedVariables false
set_option maxRecDepth 100000
namespace Go.Proofs.YtbhkhaaifielkaaGreatDoor
open Go Go.Proofs Go.AW

end Go.Proofs.YtbhkhaaifielkaaGreatDoor

/- No draft has fewer shafts or treadles: the law FactorFewest. -/
set_option linter.unusedSimpArgs false
set_option linter.unusedVariables false
set_option maxRecDepth 100000
namespace Go.Proofs.YtbhkhaaifielkaaGreatDoor
open Go Go.Proofs Go.AW

theorem alive4_c : Contract Tryz.prog 7 [] (B true) := Contract.run xGood 1000 (by kernel_rfl)
end Go.Proofs.YtbhkhaaifielkaaGreatDoor

/- The law FactorNames: calls that are run by themselves. -/
set_option linter.unusedSimpArgs false
set_option maxRecDepth 100000
namespace Go.Proofs.YtbhkhaaifielkaaGreatDoor
open Go Go.Proofs Go.AW
theorem call0 : Contract Tryz.prog 17 [(.agg [I (4), I (3), (.list false false 12 (bools [true, true, false, false, false, false, true, true, true, true, false, false]))])] (.tuple [(.agg [I (2), I (2), (.list true false 4 (ints [0, 0, 1, 1])), (.list true false 3 (ints [0, 1, 0])), I (2), I (2), (.list true false 4 (bools [true, false, false, true]))]), I (0)]) := Contract.run xGood 5000 (by kernel_rfl)
theorem call1 : Contract Tryz.prog 9 [(.agg [I (2), I (2), (.list false false 4 (ints [0, 0, 1, 1])), (.list false false 3 (ints [0, 1, 0])), I (2), I (2), (.list false false 4 (bools [true, false, false, true]))]), (.list false false 2 (ints [1, 0])), (.list false false 2 (ints [1, 0]))] (.tuple [(.agg [I (2), I (2), (.list true false 4 (ints [1, 1, 0, 0])), (.list true false 3 (ints [1, 0, 1])), I (2), I (2), (.list true false 4 (bools [true, false, false, true]))]), I (0)]) := Contract.run xGood 5000 (by kernel_rfl)
theorem call2 : Contract Tryz.prog 8 [(.agg [I (2), I (2), (.list false false 4 (ints [0, 0, 1, 1])), (.list false false 3 (ints [0, 1, 0])), I (2), I (2), (.list false false 4 (bools [true, false, false, true]))]), (.agg [I (2), I (2), (.list false false 4 (ints [1, 1, 0, 0])), (.list false false 3 (ints [1, 0, 1])), I (2), I (2), (.list false false 4 (bools [true, false, false, true]))])] (.tuple [(.list true false 2 (ints [1, 0])), (.list true false 2 (ints [1, 0])), I (0)]) := Contract.run xGood 5000 (by kernel_rfl)
theorem call3 : Contract Tryz.prog 18 [(.agg [I (2), I (2), (.list false false 4 (ints [0, 0, 1, 1])), (.list false false 3 (ints [0, 1, 0])), I (2), I (2), (.list false false 4 (bools [true, false, false, true]))])] (.tuple [B true, I (0)]) := Contract.run xGood 5000 (by kernel_rfl)
theorem call4 : Contract Tryz.prog 18 [(.agg [I (2), I (1), (.list false false 2 (ints [0, 1])), (.list false false 1 (ints [0])), I (1), I (2), (.list false false 2 (bools [true, true]))])] (.tuple [B false, I (0)]) := Contract.run xGood 5000 (by kernel_rfl)
theorem call5 : Contract Tryz.prog 18 [(.agg [I (2), I (1), (.list false false 2 (ints [0, 0])), (.list false false 1 (ints [0])), I (1), I (2), (.list false false 2 (bools [true, true]))])] (.tuple [B false, I (0)]) := Contract.run xGood 5000 (by kernel_rfl)
theorem call6 : Contract Tryz.prog 8 [(.agg [I (2), I (1), (.list false false 2 (ints [0, 1])), (.list false false 1 (ints [0])), I (1), I (2), (.list false false 2 (bools [true, true]))]), (.agg [I (2), I (1), (.list false false 2 (ints [0, 0])), (.list false false 1 (ints [0])), I (1), I (2), (.list false false 2 (bools [true, true]))])] (.tuple [(.list true true 0 []), (.list true true 0 []), I (2)]) := Contract.run xGood 5000 (by kernel_rfl)
theorem call7 : Contract Tryz.prog 8 [(.agg [I (2), I (2), (.list false false 4 (ints [0, 0, 1, 1])), (.list false false 3 (ints [0, 1, 0])), I (2), I (2), (.list false false 4 (bools [true, false, false, true]))]), (.agg [I (2), I (1), (.list false false 2 (ints [0, 1])), (.list false false 1 (ints [0])), I (1), I (2), (.list false false 2 (bools [true, true]))])] (.tuple [(.list true true 0 []), (.list true true 0 []), I (6)]) := Contract.run xGood 5000 (by kernel_rfl)
theorem call8 : Contract Tryz.prog 9 [(.agg [I (2), I (2), (.list false false 4 (ints [0, 0, 1, 1])), (.list false false 3 (ints [0, 1, 0])), I (2), I (2), (.list false false 4 (bools [true, false, false, true]))]), (.list false false 2 (ints [0, 1])), (.list false false 2 (ints [0, 1]))] (.tuple [(.agg [I (2), I (2), (.list true false 4 (ints [0, 0, 1, 1])), (.list true false 3 (ints [0, 1, 0])), I (2), I (2), (.list true false 4 (bools [true, false, false, true]))]), I (0)]) := Contract.run xGood 5000 (by kernel_rfl)
theorem call9 : Contract Tryz.prog 8 [(.agg [I (2), I (2), (.list false false 4 (ints [0, 0, 1, 1])), (.list false false 3 (ints [0, 1, 0])), I (2), I (2), (.list false false 4 (bools [true, false, false, true]))]), (.agg [I (2), I (2), (.list false false 4 (ints [0, 0, 1, 1])), (.list false false 3 (ints [0, 1, 0])), I (2), I (2), (.list false false 4 (bools [false, false, false, true]))])] (.tuple [(.list true true 0 []), (.list true true 0 []), I (6)]) := Contract.run xGood 5000 (by kernel_rfl)
theorem call10 : Contract Tryz.prog 8 [(.agg [I (0), I (0), (.list false true 0 []), (.list false true 0 []), I (0), I (0), (.list false true 0 [])]), (.agg [I (2), I (2), (.list false false 4 (ints [0, 0, 1, 1])), (.list false false 3 (ints [0, 1, 0])), I (2), I (2), (.list false false 4 (bools [true, false, false, true]))])] (.tuple [(.list true true 0 []), (.list true true 0 []), I (8)]) := Contract.run xGood 5000 (by kernel_rfl)
theorem call11 : Contract Tryz.prog 17 [(.agg [I (0), I (0), (.list false true 0 [])])] (.tuple [(.agg [I (0), I (0), (.list true true 0 []), (.list true true 0 []), I (0), I (0), (.list true true 0 [])]), I (8)]) := Contract.run xGood 5000 (by kernel_rfl)
theorem call12 : Contract Tryz.prog 17 [(.agg [I (3), I (2), (.list false false 6 (bools [false, true, false, true, false, true]))])] (.tuple [(.agg [I (2), I (2), (.list true false 3 (ints [0, 1, 0])), (.list true false 2 (ints [0, 1])), I (2), I (2), (.list true false 4 (bools [false, true, true, false]))]), I (0)]) := Contract.run xGood 5000 (by kernel_rfl)
noncomputable def orcC : List (Nat × List AVal × AVal) := [(17, [(.agg [I (4), I (3), (.list false false 12 (bools [true, true, false, false, false, false, true, true, true, true, false, false]))])], (.tuple [(.agg [I (2), I (2), (.list true false 4 (ints [0, 0, 1, 1])), (.list true false 3 (ints [0, 1, 0])), I (2), I (2), (.list true false 4 (bools [true, false, false, true]))]), I (0)])), (9, [(.agg [I (2), I (2), (.list false false 4 (ints [0, 0, 1, 1])), (.list false false 3 (ints [0, 1, 0])), I (2), I (2), (.list false false 4 (bools [true, false, false, true]))]), (.list false false 2 (ints [1, 0])), (.list false false 2 (ints [1, 0]))], (.tuple [(.agg [I (2), I (2), (.list true false 4 (ints [1, 1, 0, 0])), (.list true false 3 (ints [1, 0, 1])), I (2), I (2), (.list true false 4 (bools [true, false, false, true]))]), I (0)])), (8, [(.agg [I (2), I (2), (.list false false 4 (ints [0, 0, 1, 1])), (.list false false 3 (ints [0, 1, 0])), I (2), I (2), (.list false false 4 (bools [true, false, false, true]))]), (.agg [I (2), I (2), (.list false false 4 (ints [1, 1, 0, 0])), (.list false false 3 (ints [1, 0, 1])), I (2), I (2), (.list false false 4 (bools [true, false, false, true]))])], (.tuple [(.list true false 2 (ints [1, 0])), (.list true false 2 (ints [1, 0])), I (0)])), (18, [(.agg [I (2), I (2), (.list false false 4 (ints [0, 0, 1, 1])), (.list false false 3 (ints [0, 1, 0])), I (2), I (2), (.list false false 4 (bools [true, false, false, true]))])], (.tuple [B true, I (0)])), (18, [(.agg [I (2), I (1), (.list false false 2 (ints [0, 1])), (.list false false 1 (ints [0])), I (1), I (2), (.list false false 2 (bools [true, true]))])], (.tuple [B false, I (0)])), (18, [(.agg [I (2), I (1), (.list false false 2 (ints [0, 0])), (.list false false 1 (ints [0])), I (1), I (2), (.list false false 2 (bools [true, true]))])], (.tuple [B false, I (0)])), (8, [(.agg [I (2), I (1), (.list false false 2 (ints [0, 1])), (.list false false 1 (ints [0])), I (1), I (2), (.list false false 2 (bools [true, true]))]), (.agg [I (2), I (1), (.list false false 2 (ints [0, 0])), (.list false false 1 (ints [0])), I (1), I (2), (.list false false 2 (bools [true, true]))])], (.tuple [(.list true true 0 []), (.list true true 0 []), I (2)])), (8, [(.agg [I (2), I (2), (.list false false 4 (ints [0, 0, 1, 1])), (.list false false 3 (ints [0, 1, 0])), I (2), I (2), (.list false false 4 (bools [true, false, false, true]))]), (.agg [I (2), I (1), (.list false false 2 (ints [0, 1])), (.list false false 1 (ints [0])), I (1), I (2), (.list false false 2 (bools [true, true]))])], (.tuple [(.list true true 0 []), (.list true true 0 []), I (6)])), (9, [(.agg [I (2), I (2), (.list false false 4 (ints [0, 0, 1, 1])), (.list false false 3 (ints [0, 1, 0])), I (2), I (2), (.list false false 4 (bools [true, false, false, true]))]), (.list false false 2 (ints [0, 1])), (.list false false 2 (ints [0, 1]))], (.tuple [(.agg [I (2), I (2), (.list true false 4 (ints [0, 0, 1, 1])), (.list true false 3 (ints [0, 1, 0])), I (2), I (2), (.list true false 4 (bools [true, false, false, true]))]), I (0)])), (8, [(.agg [I (2), I (2), (.list false false 4 (ints [0, 0, 1, 1])), (.list false false 3 (ints [0, 1, 0])), I (2), I (2), (.list false false 4 (bools [true, false, false, true]))]), (.agg [I (2), I (2), (.list false false 4 (ints [0, 0, 1, 1])), (.list false false 3 (ints [0, 1, 0])), I (2), I (2), (.list false false 4 (bools [false, false, false, true]))])], (.tuple [(.list true true 0 []), (.list true true 0 []), I (6)])), (8, [(.agg [I (0), I (0), (.list false true 0 []), (.list false true 0 []), I (0), I (0), (.list false true 0 [])]), (.agg [I (2), I (2), (.list false false 4 (ints [0, 0, 1, 1])), (.list false false 3 (ints [0, 1, 0])), I (2), I (2), (.list false false 4 (bools [true, false, false, true]))])], (.tuple [(.list true true 0 []), (.list true true 0 []), I (8)])), (17, [(.agg [I (0), I (0), (.list false true 0 [])])], (.tuple [(.agg [I (0), I (0), (.list true true 0 []), (.list true true 0 []), I (0), I (0), (.list true true 0 [])]), I (8)])), (17, [(.agg [I (3), I (2), (.list false false 6 (bools [false, true, false, true, false, true]))])], (.tuple [(.agg [I (2), I (2), (.list true false 3 (ints [0, 1, 0])), (.list true false 2 (ints [0, 1])), I (2), I (2), (.list true false 4 (bools [false, true, true, false]))]), I (0)]))]
theorem orcC_ok : ∀ p ∈ orcC, Contract Tryz.prog p.1 p.2.1 p.2.2 := by
  intro p hp
  simp only [orcC, List.mem_cons, List.not_mem_nil, or_false] at hp
  rcases hp with rfl | rfl | rfl | rfl | rfl | rfl | rfl | rfl | rfl | rfl | rfl | rfl | rfl
  · exact call0
  · exact call1
  · exact call2
  · exact call3
  · exact call4
  · exact call5
  · exact call6
  · exact call7
  · exact call8
  · exact call9
  · exact call10
  · exact call11
  · exact call12
end Go.Proofs.YtbhkhaaifielkaaGreatDoor

/- The law FactorNames, run, with some calls known. -/
set_option linter.unusedSimpArgs false
set_option maxRecDepth 100000
namespace Go.Proofs.YtbhkhaaifielkaaGreatDoor
open Go Go.Proofs Go.AW

/-- The grid of 41 ends of different kinds. -/
def manyL : List Bool := (List.range 246).map fun i => (i % 41).testBit (i / 41)
theorem many_fC : (fC 41 6 manyL).length = 41 := by kernel_rfl
theorem many_fR : (fR 41 6 manyL).length = 6 := by kernel_rfl
theorem many_of : Contract Tryz.prog 17 [GA 41 6 false manyL] (.tuple [DR 0 0 true [] true [] 0 0 true [], I 4]) :=
  ofP_many (W := 41) (H := 6) (by omega) (by omega) (by omega) (by omega) false (by kernel_rfl) (.inl (by rw [many_fC]; omega))
theorem many_count : Contract Tryz.prog 19 [GA 41 6 false manyL] (.tuple [I 41, I 6, I 0]) := by
  have h := countP_c (W := 41) (H := 6) (by omega) (by omega) (by omega) (by omega) false (l := manyL) (by kernel_rfl)
  rw [many_fC, many_fR] at h
  exact h
noncomputable def orcF : List (Nat × List AVal × AVal) := [(7, [], B true), (17, [GA 41 6 false manyL], .tuple [DR 0 0 true [] true [] 0 0 true [], I 4]), (19, [GA 41 6 false manyL], .tuple [I 41, I 6, I 0])] ++ orcC
theorem xGoodF : XT.Good Tryz.prog { xT with orc := lookO orcF } := XT.withO xGood (by
  intro p hp
  rcases List.mem_append.1 hp with hp | hp
  · simp only [List.mem_cons, List.not_mem_nil, or_false] at hp
    rcases hp with rfl | rfl | rfl
    · exact alive4_c
    · exact many_of
    · exact many_count
  · exact orcC_ok p hp)
theorem factorNames_c : Contract Tryz.prog 5 [] (B true) := Contract.run xGoodF 5000 (by kernel_rfl)
end Go.Proofs.YtbhkhaaifielkaaGreatDoor
