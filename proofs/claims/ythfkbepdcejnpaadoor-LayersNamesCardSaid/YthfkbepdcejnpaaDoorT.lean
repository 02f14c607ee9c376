/- Closed facts on the types. -/
import Derived.Test.YthfkbepdcejnpaaDoorProg
import Derived.Test.YthfkbepdcejnpaaDoorBw3
namespace Go.Proofs.YthfkbepdcejnpaaDoor
open Go Go.Proofs Go.AW
theorem follows : Tryd.prog.follows .mixedOrders = true := by kernel_rfl
-- 3: int
theorem ag3 : agT Tryd.prog 3 = some (false, 1) := by kernel_rfl
theorem zc3 : zT Tryd.prog 3 = some ([I 0], 1) := by kernel_rfl
-- 4: bool
theorem ag4 : agT Tryd.prog 4 = some (false, 1) := by kernel_rfl
theorem zc4 : zT Tryd.prog 4 = some ([B false], 1) := by kernel_rfl
instance bo4 : BoT Tryd.prog 4 := ⟨by kernel_rfl⟩
-- 5: uint8
theorem ag5 : agT Tryd.prog 5 = some (false, 1) := by kernel_rfl
theorem zc5 : zT Tryd.prog 5 = some ([.val (.int .u8 0)], 1) := by kernel_rfl
-- 9: string
theorem ag9 : agT Tryd.prog 9 = some (false, 1) := by kernel_rfl
theorem zc9 : zT Tryd.prog 9 = some ([.val (.string ⟨#[]⟩)], 1) := by kernel_rfl
-- 21: int32
theorem ag21 : agT Tryd.prog 21 = some (false, 1) := by kernel_rfl
theorem zc21 : zT Tryd.prog 21 = some ([.val (.int .i32 0)], 1) := by kernel_rfl
-- 22: api.Errno
theorem ag22 : agT Tryd.prog 22 = some (false, 1) := by kernel_rfl
theorem zc22 : zT Tryd.prog 22 = some ([I 0], 1) := by kernel_rfl
-- 25: []bool
theorem ag25 : agT Tryd.prog 25 = some (false, 1) := by kernel_rfl
theorem zc25 : zT Tryd.prog 25 = some ([.cap0 true], 1) := by kernel_rfl
instance S25 : SlT Tryd.prog 25 4 1 (.bool false) := SlT.of (by kernel_rfl) (by kernel_rfl)
-- 27: api.Grid
theorem ag27 : agT Tryd.prog 27 = some (true, 3) := by kernel_rfl
theorem zc27 : zT Tryd.prog 27 = some ([I 0, I 0, .cap0 true], 3) := by kernel_rfl
theorem fo27_0 : fOff Tryd.prog 27 0 = some 0 := by kernel_rfl
theorem ft27_0 : fOT Tryd.prog 27 0 = some (0, 3) := by kernel_rfl
theorem fo27_1 : fOff Tryd.prog 27 1 = some 1 := by kernel_rfl
theorem ft27_1 : fOT Tryd.prog 27 1 = some (1, 3) := by kernel_rfl
theorem fo27_2 : fOff Tryd.prog 27 2 = some 2 := by kernel_rfl
theorem ft27_2 : fOT Tryd.prog 27 2 = some (2, 25) := by kernel_rfl
theorem fl27 : flT Tryd.prog 27 = some ([(0, 1), (1, 1), (2, 1)], [I 0, I 0, .cap0 true]) := by kernel_rfl
-- 29: []int
theorem ag29 : agT Tryd.prog 29 = some (false, 1) := by kernel_rfl
theorem zc29 : zT Tryd.prog 29 = some ([.cap0 true], 1) := by kernel_rfl
instance S29 : SlT Tryd.prog 29 3 8 (.int .i64 0) := SlT.of (by kernel_rfl) (by kernel_rfl)
-- 36: [][]int
theorem ag36 : agT Tryd.prog 36 = some (false, 1) := by kernel_rfl
theorem zc36 : zT Tryd.prog 36 = some ([.cap0 true], 1) := by kernel_rfl
instance S36 : SlT Tryd.prog 36 29 24 (.slice none 0 0) := SlT.of (by kernel_rfl) (by kernel_rfl)
-- 47: []api.Layer
theorem ag47 : agT Tryd.prog 47 = some (false, 1) := by kernel_rfl
theorem zc47 : zT Tryd.prog 47 = some ([.cap0 true], 1) := by kernel_rfl
instance SM47 : SlM Tryd.prog 47 2 := ⟨by kernel_rfl⟩
instance LT47_1 : LitT Tryd.prog 47 1 [(0, 2)] [.cap0 true, .cap0 true] := ⟨by kernel_rfl⟩
instance LT47_2 : LitT Tryd.prog 47 2 [(0, 2), (2, 2)] [.cap0 true, .cap0 true, .cap0 true, .cap0 true] := ⟨by kernel_rfl⟩
-- 50: []api.Float
theorem ag50 : agT Tryd.prog 50 = some (false, 1) := by kernel_rfl
theorem zc50 : zT Tryd.prog 50 = some ([.cap0 true], 1) := by kernel_rfl
instance SM50 : SlM Tryd.prog 50 5 := ⟨by kernel_rfl⟩
instance LT50_8 : LitT Tryd.prog 50 8 [(0, 5), (5, 5), (10, 5), (15, 5), (20, 5), (25, 5), (30, 5), (35, 5)] [B false, I 0, I 0, I 0, B false, B false, I 0, I 0, I 0, B false, B false, I 0, I 0, I 0, B false, B false, I 0, I 0, I 0, B false, B false, I 0, I 0, I 0, B false, B false, I 0, I 0, I 0, B false, B false, I 0, I 0, I 0, B false, B false, I 0, I 0, I 0, B false] := ⟨by kernel_rfl⟩
instance LT50_2 : LitT Tryd.prog 50 2 [(0, 5), (5, 5)] [B false, I 0, I 0, I 0, B false, B false, I 0, I 0, I 0, B false] := ⟨by kernel_rfl⟩
instance LT50_1 : LitT Tryd.prog 50 1 [(0, 5)] [B false, I 0, I 0, I 0, B false] := ⟨by kernel_rfl⟩
-- 56: api.Float
theorem ag56 : agT Tryd.prog 56 = some (true, 5) := by kernel_rfl
theorem zc56 : zT Tryd.prog 56 = some ([B false, I 0, I 0, I 0, B false], 5) := by kernel_rfl
theorem fo56_0 : fOff Tryd.prog 56 0 = some 0 := by kernel_rfl
theorem ft56_0 : fOT Tryd.prog 56 0 = some (0, 4) := by kernel_rfl
theorem fo56_1 : fOff Tryd.prog 56 1 = some 1 := by kernel_rfl
theorem ft56_1 : fOT Tryd.prog 56 1 = some (1, 3) := by kernel_rfl
theorem fo56_2 : fOff Tryd.prog 56 2 = some 2 := by kernel_rfl
theorem ft56_2 : fOT Tryd.prog 56 2 = some (2, 3) := by kernel_rfl
theorem fo56_3 : fOff Tryd.prog 56 3 = some 3 := by kernel_rfl
theorem ft56_3 : fOT Tryd.prog 56 3 = some (3, 3) := by kernel_rfl
theorem fo56_4 : fOff Tryd.prog 56 4 = some 4 := by kernel_rfl
theorem ft56_4 : fOT Tryd.prog 56 4 = some (4, 4) := by kernel_rfl
theorem fl56 : flT Tryd.prog 56 = some ([(0, 1), (1, 1), (2, 1), (3, 1), (4, 1)], [B false, I 0, I 0, I 0, B false]) := by kernel_rfl
-- 70: hang.order
theorem ag70 : agT Tryd.prog 70 = some (true, 2) := by kernel_rfl
theorem zc70 : zT Tryd.prog 70 = some ([.cap0 true, .cap0 true], 2) := by kernel_rfl
theorem fo70_0 : fOff Tryd.prog 70 0 = some 0 := by kernel_rfl
theorem ft70_0 : fOT Tryd.prog 70 0 = some (0, 36) := by kernel_rfl
theorem fo70_1 : fOff Tryd.prog 70 1 = some 1 := by kernel_rfl
theorem ft70_1 : fOT Tryd.prog 70 1 = some (1, 36) := by kernel_rfl
theorem fl70 : flT Tryd.prog 70 = some ([(0, 1), (1, 1)], [.cap0 true, .cap0 true]) := by kernel_rfl
-- 75: func(int) bool
theorem ag75 : agT Tryd.prog 75 = some (false, 1) := by kernel_rfl
theorem zc75 : zT Tryd.prog 75 = some ([.val .nilFunc], 1) := by kernel_rfl
-- 84: iter.Seq[int]
theorem ag84 : agT Tryd.prog 84 = some (false, 1) := by kernel_rfl
theorem zc84 : zT Tryd.prog 84 = some ([.val .nilFunc], 1) := by kernel_rfl
-- 88: api.Layer
theorem ag88 : agT Tryd.prog 88 = some (true, 2) := by kernel_rfl
theorem zc88 : zT Tryd.prog 88 = some ([.cap0 true, .cap0 true], 2) := by kernel_rfl
theorem fo88_0 : fOff Tryd.prog 88 0 = some 0 := by kernel_rfl
theorem ft88_0 : fOT Tryd.prog 88 0 = some (0, 29) := by kernel_rfl
theorem fo88_1 : fOff Tryd.prog 88 1 = some 1 := by kernel_rfl
theorem ft88_1 : fOT Tryd.prog 88 1 = some (1, 29) := by kernel_rfl
theorem fl88 : flT Tryd.prog 88 = some ([(0, 1), (1, 1)], [.cap0 true, .cap0 true]) := by kernel_rfl
-- 90: *strings.Builder
theorem ag90 : agT Tryd.prog 90 = some (false, 1) := by kernel_rfl
theorem zc90 : zT Tryd.prog 90 = some ([.val (.pointer none)], 1) := by kernel_rfl
-- 91: []uint8
theorem ag91 : agT Tryd.prog 91 = some (false, 1) := by kernel_rfl
theorem zc91 : zT Tryd.prog 91 = some ([.cap0 true], 1) := by kernel_rfl
instance S91 : SlT Tryd.prog 91 5 1 (.int .u8 0) := SlT.of (by kernel_rfl) (by kernel_rfl)
-- 93: strings.Builder
theorem ag93 : agT Tryd.prog 93 = some (true, 2) := by kernel_rfl
theorem zc93 : zT Tryd.prog 93 = some ([.val (.pointer none), .cap0 true], 2) := by kernel_rfl
theorem fo93_0 : fOff Tryd.prog 93 0 = some 0 := by kernel_rfl
theorem ft93_0 : fOT Tryd.prog 93 0 = some (0, 90) := by kernel_rfl
theorem fo93_1 : fOff Tryd.prog 93 1 = some 1 := by kernel_rfl
theorem ft93_1 : fOT Tryd.prog 93 1 = some (1, 91) := by kernel_rfl
theorem fl93 : flT Tryd.prog 93 = some ([(0, 1), (1, 1)], [.val (.pointer none), .cap0 true]) := by kernel_rfl
-- 95: error
theorem ag95 : agT Tryd.prog 95 = some (false, 1) := by kernel_rfl
theorem zc95 : zT Tryd.prog 95 = some ([.val .nilIface], 1) := by kernel_rfl
-- 102: func(api.Float) bool
theorem ag102 : agT Tryd.prog 102 = some (false, 1) := by kernel_rfl
theorem zc102 : zT Tryd.prog 102 = some ([.val .nilFunc], 1) := by kernel_rfl
-- 104: iter.Seq[raddle/float.line]
theorem ag104 : agT Tryd.prog 104 = some (false, 1) := by kernel_rfl
theorem zc104 : zT Tryd.prog 104 = some ([.val .nilFunc], 1) := by kernel_rfl
-- 107: float.line
theorem ag107 : agT Tryd.prog 107 = some (true, 3) := by kernel_rfl
theorem zc107 : zT Tryd.prog 107 = some ([B false, I 0, .cap0 true], 3) := by kernel_rfl
theorem fo107_0 : fOff Tryd.prog 107 0 = some 0 := by kernel_rfl
theorem ft107_0 : fOT Tryd.prog 107 0 = some (0, 4) := by kernel_rfl
theorem fo107_1 : fOff Tryd.prog 107 1 = some 1 := by kernel_rfl
theorem ft107_1 : fOT Tryd.prog 107 1 = some (1, 3) := by kernel_rfl
theorem fo107_2 : fOff Tryd.prog 107 2 = some 2 := by kernel_rfl
theorem ft107_2 : fOT Tryd.prog 107 2 = some (2, 25) := by kernel_rfl
theorem fl107 : flT Tryd.prog 107 = some ([(0, 1), (1, 1), (2, 1)], [B false, I 0, .cap0 true]) := by kernel_rfl
-- 112: []string
theorem ag112 : agT Tryd.prog 112 = some (false, 1) := by kernel_rfl
theorem zc112 : zT Tryd.prog 112 = some ([.cap0 true], 1) := by kernel_rfl
instance S112 : SlT Tryd.prog 112 9 16 (.string ⟨#[]⟩) := SlT.of (by kernel_rfl) (by kernel_rfl)
-- 120: uint16
theorem ag120 : agT Tryd.prog 120 = some (false, 1) := by kernel_rfl
theorem zc120 : zT Tryd.prog 120 = some ([.val (.int .u16 0)], 1) := by kernel_rfl
-- 121: skeleton.family
theorem ag121 : agT Tryd.prog 121 = some (false, 1) := by kernel_rfl
theorem zc121 : zT Tryd.prog 121 = some ([.val (.int .u16 0)], 1) := by kernel_rfl
-- 123: uint
theorem ag123 : agT Tryd.prog 123 = some (false, 1) := by kernel_rfl
theorem zc123 : zT Tryd.prog 123 = some ([.val (.int .u64 0)], 1) := by kernel_rfl
-- 133: layers.search
theorem ag133 : agT Tryd.prog 133 = some (true, 7) := by kernel_rfl
theorem zc133 : zT Tryd.prog 133 = some ([.cap0 true, .cap0 true, .cap0 true, .cap0 true, .cap0 true, I 0, .cap0 true], 7) := by kernel_rfl
theorem fo133_0 : fOff Tryd.prog 133 0 = some 0 := by kernel_rfl
theorem ft133_0 : fOT Tryd.prog 133 0 = some (0, 36) := by kernel_rfl
theorem fo133_1 : fOff Tryd.prog 133 1 = some 1 := by kernel_rfl
theorem ft133_1 : fOT Tryd.prog 133 1 = some (1, 29) := by kernel_rfl
theorem fo133_2 : fOff Tryd.prog 133 2 = some 2 := by kernel_rfl
theorem ft133_2 : fOT Tryd.prog 133 2 = some (2, 29) := by kernel_rfl
theorem fo133_3 : fOff Tryd.prog 133 3 = some 3 := by kernel_rfl
theorem ft133_3 : fOT Tryd.prog 133 3 = some (3, 29) := by kernel_rfl
theorem fo133_4 : fOff Tryd.prog 133 4 = some 4 := by kernel_rfl
theorem ft133_4 : fOT Tryd.prog 133 4 = some (4, 29) := by kernel_rfl
theorem fo133_5 : fOff Tryd.prog 133 5 = some 5 := by kernel_rfl
theorem ft133_5 : fOT Tryd.prog 133 5 = some (5, 3) := by kernel_rfl
theorem fo133_6 : fOff Tryd.prog 133 6 = some 6 := by kernel_rfl
theorem ft133_6 : fOT Tryd.prog 133 6 = some (6, 36) := by kernel_rfl
theorem fl133 : flT Tryd.prog 133 = some ([(0, 1), (1, 1), (2, 1), (3, 1), (4, 1), (5, 1), (6, 1)], [.cap0 true, .cap0 true, .cap0 true, .cap0 true, .cap0 true, I 0, .cap0 true]) := by kernel_rfl
-- 135: *uint8
theorem ag135 : agT Tryd.prog 135 = some (false, 1) := by kernel_rfl
theorem zc135 : zT Tryd.prog 135 = some ([.val (.pointer none)], 1) := by kernel_rfl
-- 139: iter.Seq[raddle/api.Float]
theorem ag139 : agT Tryd.prog 139 = some (false, 1) := by kernel_rfl
theorem zc139 : zT Tryd.prog 139 = some ([.val .nilFunc], 1) := by kernel_rfl
-- 141: func(float.line) bool
theorem ag141 : agT Tryd.prog 141 = some (false, 1) := by kernel_rfl
theorem zc141 : zT Tryd.prog 141 = some ([.val .nilFunc], 1) := by kernel_rfl
-- 144: strings.asciiSet
theorem ag144 : agT Tryd.prog 144 = some (true, 256) := by kernel_rfl
theorem zc144 : zT Tryd.prog 144 = some (bools (List.replicate 256 false), 256) := by kernel_rfl
theorem fl144 : flT Tryd.prog 144 = some ([(0, 1), (1, 1), (2, 1), (3, 1), (4, 1), (5, 1), (6, 1), (7, 1), (8, 1), (9, 1), (10, 1), (11, 1), (12, 1), (13, 1), (14, 1), (15, 1), (16, 1), (17, 1), (18, 1), (19, 1), (20, 1), (21, 1), (22, 1), (23, 1), (24, 1), (25, 1), (26, 1), (27, 1), (28, 1), (29, 1), (30, 1), (31, 1), (32, 1), (33, 1), (34, 1), (35, 1), (36, 1), (37, 1), (38, 1), (39, 1), (40, 1), (41, 1), (42, 1), (43, 1), (44, 1), (45, 1), (46, 1), (47, 1), (48, 1), (49, 1), (50, 1), (51, 1), (52, 1), (53, 1), (54, 1), (55, 1), (56, 1), (57, 1), (58, 1), (59, 1), (60, 1), (61, 1), (62, 1), (63, 1), (64, 1), (65, 1), (66, 1), (67, 1), (68, 1), (69, 1), (70, 1), (71, 1), (72, 1), (73, 1), (74, 1), (75, 1), (76, 1), (77, 1), (78, 1), (79, 1), (80, 1), (81, 1), (82, 1), (83, 1), (84, 1), (85, 1), (86, 1), (87, 1), (88, 1), (89, 1), (90, 1), (91, 1), (92, 1), (93, 1), (94, 1), (95, 1), (96, 1), (97, 1), (98, 1), (99, 1), (100, 1), (101, 1), (102, 1), (103, 1), (104, 1), (105, 1), (106, 1), (107, 1), (108, 1), (109, 1), (110, 1), (111, 1), (112, 1), (113, 1), (114, 1), (115, 1), (116, 1), (117, 1), (118, 1), (119, 1), (120, 1), (121, 1), (122, 1), (123, 1), (124, 1), (125, 1), (126, 1), (127, 1), (128, 1), (129, 1), (130, 1), (131, 1), (132, 1), (133, 1), (134, 1), (135, 1), (136, 1), (137, 1), (138, 1), (139, 1), (140, 1), (141, 1), (142, 1), (143, 1), (144, 1), (145, 1), (146, 1), (147, 1), (148, 1), (149, 1), (150, 1), (151, 1), (152, 1), (153, 1), (154, 1), (155, 1), (156, 1), (157, 1), (158, 1), (159, 1), (160, 1), (161, 1), (162, 1), (163, 1), (164, 1), (165, 1), (166, 1), (167, 1), (168, 1), (169, 1), (170, 1), (171, 1), (172, 1), (173, 1), (174, 1), (175, 1), (176, 1), (177, 1), (178, 1), (179, 1), (180, 1), (181, 1), (182, 1), (183, 1), (184, 1), (185, 1), (186, 1), (187, 1), (188, 1), (189, 1), (190, 1), (191, 1), (192, 1), (193, 1), (194, 1), (195, 1), (196, 1), (197, 1), (198, 1), (199, 1), (200, 1), (201, 1), (202, 1), (203, 1), (204, 1), (205, 1), (206, 1), (207, 1), (208, 1), (209, 1), (210, 1), (211, 1), (212, 1), (213, 1), (214, 1), (215, 1), (216, 1), (217, 1), (218, 1), (219, 1), (220, 1), (221, 1), (222, 1), (223, 1), (224, 1), (225, 1), (226, 1), (227, 1), (228, 1), (229, 1), (230, 1), (231, 1), (232, 1), (233, 1), (234, 1), (235, 1), (236, 1), (237, 1), (238, 1), (239, 1), (240, 1), (241, 1), (242, 1), (243, 1), (244, 1), (245, 1), (246, 1), (247, 1), (248, 1), (249, 1), (250, 1), (251, 1), (252, 1), (253, 1), (254, 1), (255, 1)], bools (List.replicate 256 false)) := by kernel_rfl
-- 148: *strings.asciiSet
theorem ag148 : agT Tryd.prog 148 = some (false, 1) := by kernel_rfl
theorem zc148 : zT Tryd.prog 148 = some ([.val (.pointer none)], 1) := by kernel_rfl
-- 151: iter.Seq[[]bool]
theorem ag151 : agT Tryd.prog 151 = some (false, 1) := by kernel_rfl
theorem zc151 : zT Tryd.prog 151 = some ([.val .nilFunc], 1) := by kernel_rfl
-- 158: *layers.search
theorem ag158 : agT Tryd.prog 158 = some (false, 1) := by kernel_rfl
theorem zc158 : zT Tryd.prog 158 = some ([.val (.pointer none)], 1) := by kernel_rfl
-- 159: unsafe.Pointer
theorem ag159 : agT Tryd.prog 159 = some (false, 1) := by kernel_rfl
theorem zc159 : zT Tryd.prog 159 = some ([.val (.pointer none)], 1) := by kernel_rfl
-- 162: slices.sortedHint
theorem ag162 : agT Tryd.prog 162 = some (false, 1) := by kernel_rfl
theorem zc162 : zT Tryd.prog 162 = some ([I 0], 1) := by kernel_rfl
-- 171: uint64
theorem ag171 : agT Tryd.prog 171 = some (false, 1) := by kernel_rfl
theorem zc171 : zT Tryd.prog 171 = some ([.val (.int .u64 0)], 1) := by kernel_rfl
-- 174: func(api.Float, api.Float) int
theorem ag174 : agT Tryd.prog 174 = some (false, 1) := by kernel_rfl
theorem zc174 : zT Tryd.prog 174 = some ([.val .nilFunc], 1) := by kernel_rfl
-- 182: func([]bool) bool
theorem ag182 : agT Tryd.prog 182 = some (false, 1) := by kernel_rfl
theorem zc182 : zT Tryd.prog 182 = some ([.val .nilFunc], 1) := by kernel_rfl
-- 188: slices.xorshift
theorem ag188 : agT Tryd.prog 188 = some (false, 1) := by kernel_rfl
theorem zc188 : zT Tryd.prog 188 = some ([.val (.int .u64 0)], 1) := by kernel_rfl
-- 192: *int
theorem ag192 : agT Tryd.prog 192 = some (false, 1) := by kernel_rfl
theorem zc192 : zT Tryd.prog 192 = some ([.val (.pointer none)], 1) := by kernel_rfl
-- 198: *slices.xorshift
theorem ag198 : agT Tryd.prog 198 = some (false, 1) := by kernel_rfl
theorem zc198 : zT Tryd.prog 198 = some ([.val (.pointer none)], 1) := by kernel_rfl

theorem FX : type_of% @ag3 ∧ type_of% @zc3 ∧ type_of% @ag4 ∧ type_of% @zc4 ∧ type_of% @ag5 ∧ type_of% @zc5 ∧ type_of% @ag9 ∧ type_of% @zc9 ∧ type_of% @ag21 ∧ type_of% @zc21 ∧ type_of% @ag22 ∧ type_of% @zc22 ∧ type_of% @ag25 ∧ type_of% @zc25 ∧ type_of% @ag27 ∧ type_of% @zc27 ∧ type_of% @fo27_0 ∧ type_of% @ft27_0 ∧ type_of% @fo27_1 ∧ type_of% @ft27_1 ∧ type_of% @fo27_2 ∧ type_of% @ft27_2 ∧ type_of% @fl27 ∧ type_of% @ag29 ∧ type_of% @zc29 ∧ type_of% @ag36 ∧ type_of% @zc36 ∧ type_of% @ag47 ∧ type_of% @zc47 ∧ type_of% @ag50 ∧ type_of% @zc50 ∧ type_of% @ag56 ∧ type_of% @zc56 ∧ type_of% @fo56_0 ∧ type_of% @ft56_0 ∧ type_of% @fo56_1 ∧ type_of% @ft56_1 ∧ type_of% @fo56_2 ∧ type_of% @ft56_2 ∧ type_of% @fo56_3 ∧ type_of% @ft56_3 ∧ type_of% @fo56_4 ∧ type_of% @ft56_4 ∧ type_of% @fl56 ∧ type_of% @ag70 ∧ type_of% @zc70 ∧ type_of% @fo70_0 ∧ type_of% @ft70_0 ∧ type_of% @fo70_1 ∧ type_of% @ft70_1 ∧ type_of% @fl70 ∧ type_of% @ag75 ∧ type_of% @zc75 ∧ type_of% @ag84 ∧ type_of% @zc84 ∧ type_of% @ag88 ∧ type_of% @zc88 ∧ type_of% @fo88_0 ∧ type_of% @ft88_0 ∧ type_of% @fo88_1 ∧ type_of% @ft88_1 ∧ type_of% @fl88 ∧ type_of% @ag90 ∧ type_of% @zc90 ∧ type_of% @ag91 ∧ type_of% @zc91 ∧ type_of% @ag93 ∧ type_of% @zc93 ∧ type_of% @fo93_0 ∧ type_of% @ft93_0 ∧ type_of% @fo93_1 ∧ type_of% @ft93_1 ∧ type_of% @fl93 ∧ type_of% @ag95 ∧ type_of% @zc95 ∧ type_of% @ag102 ∧ type_of% @zc102 ∧ type_of% @ag104 ∧ type_of% @zc104 ∧ type_of% @ag107 ∧ type_of% @zc107 ∧ type_of% @fo107_0 ∧ type_of% @ft107_0 ∧ type_of% @fo107_1 ∧ type_of% @ft107_1 ∧ type_of% @fo107_2 ∧ type_of% @ft107_2 ∧ type_of% @fl107 ∧ type_of% @ag112 ∧ type_of% @zc112 ∧ type_of% @ag120 ∧ type_of% @zc120 ∧ type_of% @ag121 ∧ type_of% @zc121 ∧ type_of% @ag123 ∧ type_of% @zc123 ∧ type_of% @ag133 ∧ type_of% @zc133 ∧ type_of% @fo133_0 ∧ type_of% @ft133_0 ∧ type_of% @fo133_1 ∧ type_of% @ft133_1 ∧ type_of% @fo133_2 ∧ type_of% @ft133_2 ∧ type_of% @fo133_3 ∧ type_of% @ft133_3 ∧ type_of% @fo133_4 ∧ type_of% @ft133_4 ∧ type_of% @fo133_5 ∧ type_of% @ft133_5 ∧ type_of% @fo133_6 ∧ type_of% @ft133_6 ∧ type_of% @fl133 ∧ type_of% @ag135 ∧ type_of% @zc135 ∧ type_of% @ag139 ∧ type_of% @zc139 ∧ type_of% @ag141 ∧ type_of% @zc141 ∧ type_of% @ag144 ∧ type_of% @zc144 ∧ type_of% @fl144 ∧ type_of% @ag148 ∧ type_of% @zc148 ∧ type_of% @ag151 ∧ type_of% @zc151 ∧ type_of% @ag158 ∧ type_of% @zc158 ∧ type_of% @ag159 ∧ type_of% @zc159 ∧ type_of% @ag162 ∧ type_of% @zc162 ∧ type_of% @ag171 ∧ type_of% @zc171 ∧ type_of% @ag174 ∧ type_of% @zc174 ∧ type_of% @ag182 ∧ type_of% @zc182 ∧ type_of% @ag188 ∧ type_of% @zc188 ∧ type_of% @ag192 ∧ type_of% @zc192 ∧ type_of% @ag198 ∧ type_of% @zc198 :=
  ⟨@ag3, @zc3, @ag4, @zc4, @ag5, @zc5, @ag9, @zc9, @ag21, @zc21, @ag22, @zc22, @ag25, @zc25, @ag27, @zc27, @fo27_0, @ft27_0, @fo27_1, @ft27_1, @fo27_2, @ft27_2, @fl27, @ag29, @zc29, @ag36, @zc36, @ag47, @zc47, @ag50, @zc50, @ag56, @zc56, @fo56_0, @ft56_0, @fo56_1, @ft56_1, @fo56_2, @ft56_2, @fo56_3, @ft56_3, @fo56_4, @ft56_4, @fl56, @ag70, @zc70, @fo70_0, @ft70_0, @fo70_1, @ft70_1, @fl70, @ag75, @zc75, @ag84, @zc84, @ag88, @zc88, @fo88_0, @ft88_0, @fo88_1, @ft88_1, @fl88, @ag90, @zc90, @ag91, @zc91, @ag93, @zc93, @fo93_0, @ft93_0, @fo93_1, @ft93_1, @fl93, @ag95, @zc95, @ag102, @zc102, @ag104, @zc104, @ag107, @zc107, @fo107_0, @ft107_0, @fo107_1, @ft107_1, @fo107_2, @ft107_2, @fl107, @ag112, @zc112, @ag120, @zc120, @ag121, @zc121, @ag123, @zc123, @ag133, @zc133, @fo133_0, @ft133_0, @fo133_1, @ft133_1, @fo133_2, @ft133_2, @fo133_3, @ft133_3, @fo133_4, @ft133_4, @fo133_5, @ft133_5, @fo133_6, @ft133_6, @fl133, @ag135, @zc135, @ag139, @zc139, @ag141, @zc141, @ag144, @zc144, @fl144, @ag148, @zc148, @ag151, @zc151, @ag158, @zc158, @ag159, @zc159, @ag162, @zc162, @ag171, @zc171, @ag174, @zc174, @ag182, @zc182, @ag188, @zc188, @ag192, @zc192, @ag198, @zc198⟩
end Go.Proofs.YthfkbepdcejnpaaDoor
