/- Part 1 of the proof's own texts: the contracts of functions, and what they rest on. -/
import Derived.Test.YtdbpkjanlafajaaGreatDoorProg
import Derived.Test.YtdbpkjanlafajaaGreatDoorBw3
import Derived.Test.YtdbpkjanlafajaaGreatDoorBw5
import Derived.Shelf.Sort.AssemblyIn
import Derived.Shelf.Slices.CompactI
import Derived.Test.YtdbpkjanlafajaaGreatDoorBw4
/- Closed facts on the types. -/
namespace Go.Proofs.YtdbpkjanlafajaaGreatDoor
open Go Go.Proofs Go.AW
theorem follows : Tryz.prog.follows .mixedOrders = true := by kernel_rfl
-- 2: int64
theorem ag2 : agT Tryz.prog 2 = some (false, 1) := by kernel_rfl
theorem zc2 : zT Tryz.prog 2 = some ([I 0], 1) := by kernel_rfl
-- 3: int
theorem ag3 : agT Tryz.prog 3 = some (false, 1) := by kernel_rfl
theorem zc3 : zT Tryz.prog 3 = some ([I 0], 1) := by kernel_rfl
-- 4: bool
theorem ag4 : agT Tryz.prog 4 = some (false, 1) := by kernel_rfl
theorem zc4 : zT Tryz.prog 4 = some ([B false], 1) := by kernel_rfl
instance bo4 : BoT Tryz.prog 4 := ⟨by kernel_rfl⟩
-- 5: uint8
theorem ag5 : agT Tryz.prog 5 = some (false, 1) := by kernel_rfl
theorem zc5 : zT Tryz.prog 5 = some ([.val (.int .u8 0)], 1) := by kernel_rfl
-- 9: string
theorem ag9 : agT Tryz.prog 9 = some (false, 1) := by kernel_rfl
theorem zc9 : zT Tryz.prog 9 = some ([.val (.string ⟨#[]⟩)], 1) := by kernel_rfl
-- 21: int32
theorem ag21 : agT Tryz.prog 21 = some (false, 1) := by kernel_rfl
theorem zc21 : zT Tryz.prog 21 = some ([.val (.int .i32 0)], 1) := by kernel_rfl
-- 22: []bool
theorem ag22 : agT Tryz.prog 22 = some (false, 1) := by kernel_rfl
theorem zc22 : zT Tryz.prog 22 = some ([.cap0 true], 1) := by kernel_rfl
instance S22 : SlT Tryz.prog 22 4 1 (.bool false) := SlT.of (by kernel_rfl) (by kernel_rfl)
-- 24: api.Grid
theorem ag24 : agT Tryz.prog 24 = some (true, 3) := by kernel_rfl
theorem zc24 : zT Tryz.prog 24 = some ([I 0, I 0, .cap0 true], 3) := by kernel_rfl
theorem fo24_0 : fOff Tryz.prog 24 0 = some 0 := by kernel_rfl
theorem ft24_0 : fOT Tryz.prog 24 0 = some (0, 3) := by kernel_rfl
theorem fo24_1 : fOff Tryz.prog 24 1 = some 1 := by kernel_rfl
theorem ft24_1 : fOT Tryz.prog 24 1 = some (1, 3) := by kernel_rfl
theorem fo24_2 : fOff Tryz.prog 24 2 = some 2 := by kernel_rfl
theorem ft24_2 : fOT Tryz.prog 24 2 = some (2, 22) := by kernel_rfl
theorem fl24 : flT Tryz.prog 24 = some ([(0, 1), (1, 1), (2, 1)], [I 0, I 0, .cap0 true]) := by kernel_rfl
-- 25: []int
theorem ag25 : agT Tryz.prog 25 = some (false, 1) := by kernel_rfl
theorem zc25 : zT Tryz.prog 25 = some ([.cap0 true], 1) := by kernel_rfl
instance S25 : SlT Tryz.prog 25 3 8 (.int .i64 0) := SlT.of (by kernel_rfl) (by kernel_rfl)
-- 28: [][]int
theorem ag28 : agT Tryz.prog 28 = some (false, 1) := by kernel_rfl
theorem zc28 : zT Tryz.prog 28 = some ([.cap0 true], 1) := by kernel_rfl
instance S28 : SlT Tryz.prog 28 25 24 (.slice none 0 0) := SlT.of (by kernel_rfl) (by kernel_rfl)
-- 29: api.Errno
theorem ag29 : agT Tryz.prog 29 = some (false, 1) := by kernel_rfl
theorem zc29 : zT Tryz.prog 29 = some ([I 0], 1) := by kernel_rfl
-- 45: []api.Layer
theorem ag45 : agT Tryz.prog 45 = some (false, 1) := by kernel_rfl
theorem zc45 : zT Tryz.prog 45 = some ([.cap0 true], 1) := by kernel_rfl
instance SM45 : SlM Tryz.prog 45 2 := ⟨by kernel_rfl⟩
instance SW45 : SlW Tryz.prog 45 50 2 48 := ⟨by kernel_rfl⟩
instance LT45_2 : LitT Tryz.prog 45 2 [(0, 2), (2, 2)] ([.cap0 true, .cap0 true, .cap0 true, .cap0 true]) := ⟨by kernel_rfl⟩
instance LT45_1 : LitT Tryz.prog 45 1 [(0, 2)] ([.cap0 true, .cap0 true]) := ⟨by kernel_rfl⟩
-- 50: api.Layer
theorem ag50 : agT Tryz.prog 50 = some (true, 2) := by kernel_rfl
theorem zc50 : zT Tryz.prog 50 = some ([.cap0 true, .cap0 true], 2) := by kernel_rfl
theorem fo50_0 : fOff Tryz.prog 50 0 = some 0 := by kernel_rfl
theorem ft50_0 : fOT Tryz.prog 50 0 = some (0, 25) := by kernel_rfl
theorem fo50_1 : fOff Tryz.prog 50 1 = some 1 := by kernel_rfl
theorem ft50_1 : fOT Tryz.prog 50 1 = some (1, 25) := by kernel_rfl
theorem fl50 : flT Tryz.prog 50 = some ([(0, 1), (1, 1)], [.cap0 true, .cap0 true]) := by kernel_rfl
-- 63: hang.order
theorem ag63 : agT Tryz.prog 63 = some (true, 2) := by kernel_rfl
theorem zc63 : zT Tryz.prog 63 = some ([.cap0 true, .cap0 true], 2) := by kernel_rfl
theorem fo63_0 : fOff Tryz.prog 63 0 = some 0 := by kernel_rfl
theorem ft63_0 : fOT Tryz.prog 63 0 = some (0, 28) := by kernel_rfl
theorem fo63_1 : fOff Tryz.prog 63 1 = some 1 := by kernel_rfl
theorem ft63_1 : fOT Tryz.prog 63 1 = some (1, 28) := by kernel_rfl
theorem fl63 : flT Tryz.prog 63 = some ([(0, 1), (1, 1)], [.cap0 true, .cap0 true]) := by kernel_rfl
-- 66: func(int) bool
theorem ag66 : agT Tryz.prog 66 = some (false, 1) := by kernel_rfl
theorem zc66 : zT Tryz.prog 66 = some ([.val .nilFunc], 1) := by kernel_rfl
-- 79: layers.search
theorem ag79 : agT Tryz.prog 79 = some (true, 7) := by kernel_rfl
theorem zc79 : zT Tryz.prog 79 = some ([.cap0 true, .cap0 true, .cap0 true, .cap0 true, .cap0 true, I 0, .cap0 true], 7) := by kernel_rfl
theorem fo79_0 : fOff Tryz.prog 79 0 = some 0 := by kernel_rfl
theorem ft79_0 : fOT Tryz.prog 79 0 = some (0, 28) := by kernel_rfl
theorem fo79_1 : fOff Tryz.prog 79 1 = some 1 := by kernel_rfl
theorem ft79_1 : fOT Tryz.prog 79 1 = some (1, 25) := by kernel_rfl
theorem fo79_2 : fOff Tryz.prog 79 2 = some 2 := by kernel_rfl
theorem ft79_2 : fOT Tryz.prog 79 2 = some (2, 25) := by kernel_rfl
theorem fo79_3 : fOff Tryz.prog 79 3 = some 3 := by kernel_rfl
theorem ft79_3 : fOT Tryz.prog 79 3 = some (3, 25) := by kernel_rfl
theorem fo79_4 : fOff Tryz.prog 79 4 = some 4 := by kernel_rfl
theorem ft79_4 : fOT Tryz.prog 79 4 = some (4, 25) := by kernel_rfl
theorem fo79_5 : fOff Tryz.prog 79 5 = some 5 := by kernel_rfl
theorem ft79_5 : fOT Tryz.prog 79 5 = some (5, 3) := by kernel_rfl
theorem fo79_6 : fOff Tryz.prog 79 6 = some 6 := by kernel_rfl
theorem ft79_6 : fOT Tryz.prog 79 6 = some (6, 28) := by kernel_rfl
theorem fl79 : flT Tryz.prog 79 = some ([(0, 1), (1, 1), (2, 1), (3, 1), (4, 1), (5, 1), (6, 1)], [.cap0 true, .cap0 true, .cap0 true, .cap0 true, .cap0 true, I 0, .cap0 true]) := by kernel_rfl
-- 86: uint
theorem ag86 : agT Tryz.prog 86 = some (false, 1) := by kernel_rfl
theorem zc86 : zT Tryz.prog 86 = some ([.val (.int .u64 0)], 1) := by kernel_rfl
-- 90: func(int, int) bool
theorem ag90 : agT Tryz.prog 90 = some (false, 1) := by kernel_rfl
theorem zc90 : zT Tryz.prog 90 = some ([.val .nilFunc], 1) := by kernel_rfl
-- 92: [2]int
theorem ag92 : agT Tryz.prog 92 = some (true, 2) := by kernel_rfl
theorem zc92 : zT Tryz.prog 92 = some ([I 0, I 0], 2) := by kernel_rfl
instance nc92 : NumT Tryz.prog 92 2 := ⟨by kernel_rfl⟩
instance AR92 : ArT Tryz.prog 92 2 := ⟨by kernel_rfl⟩
instance AE92 : ArE Tryz.prog 92 2 := ⟨by kernel_rfl⟩
theorem fl92 : flT Tryz.prog 92 = some ([(0, 1), (1, 1)], [I 0, I 0]) := by kernel_rfl
-- 96: []api.Grid
theorem ag96 : agT Tryz.prog 96 = some (false, 1) := by kernel_rfl
theorem zc96 : zT Tryz.prog 96 = some ([.cap0 true], 1) := by kernel_rfl
instance SM96 : SlM Tryz.prog 96 3 := ⟨by kernel_rfl⟩
instance SW96 : SlW Tryz.prog 96 24 3 40 := ⟨by kernel_rfl⟩
instance LT96_3 : LitT Tryz.prog 96 3 [(0, 3), (3, 3), (6, 3)] ([I 0, I 0] ++ [.cap0 true] ++ [I 0, I 0] ++ [.cap0 true] ++ [I 0, I 0] ++ [.cap0 true]) := ⟨by kernel_rfl⟩
instance LT96_1 : LitT Tryz.prog 96 1 [(0, 3)] ([I 0, I 0, .cap0 true]) := ⟨by kernel_rfl⟩
-- 100: []string
theorem ag100 : agT Tryz.prog 100 = some (false, 1) := by kernel_rfl
theorem zc100 : zT Tryz.prog 100 = some ([.cap0 true], 1) := by kernel_rfl
instance S100 : SlT Tryz.prog 100 9 16 (.string ⟨#[]⟩) := SlT.of (by kernel_rfl) (by kernel_rfl)
-- 105: *layers.search
theorem ag105 : agT Tryz.prog 105 = some (false, 1) := by kernel_rfl
theorem zc105 : zT Tryz.prog 105 = some ([.val (.pointer none)], 1) := by kernel_rfl
-- 109: iter.Seq[int]
theorem ag109 : agT Tryz.prog 109 = some (false, 1) := by kernel_rfl
theorem zc109 : zT Tryz.prog 109 = some ([.val .nilFunc], 1) := by kernel_rfl
-- 114: slices.sortedHint
theorem ag114 : agT Tryz.prog 114 = some (false, 1) := by kernel_rfl
theorem zc114 : zT Tryz.prog 114 = some ([I 0], 1) := by kernel_rfl
-- 124: uint64
theorem ag124 : agT Tryz.prog 124 = some (false, 1) := by kernel_rfl
theorem zc124 : zT Tryz.prog 124 = some ([.val (.int .u64 0)], 1) := by kernel_rfl
-- 125: *strings.Builder
theorem ag125 : agT Tryz.prog 125 = some (false, 1) := by kernel_rfl
theorem zc125 : zT Tryz.prog 125 = some ([.val (.pointer none)], 1) := by kernel_rfl
-- 126: []uint8
theorem ag126 : agT Tryz.prog 126 = some (false, 1) := by kernel_rfl
theorem zc126 : zT Tryz.prog 126 = some ([.cap0 true], 1) := by kernel_rfl
instance S126 : SlT Tryz.prog 126 5 1 (.int .u8 0) := SlT.of (by kernel_rfl) (by kernel_rfl)
-- 128: strings.Builder
theorem ag128 : agT Tryz.prog 128 = some (true, 2) := by kernel_rfl
theorem zc128 : zT Tryz.prog 128 = some ([.val (.pointer none), .cap0 true], 2) := by kernel_rfl
theorem fo128_0 : fOff Tryz.prog 128 0 = some 0 := by kernel_rfl
theorem ft128_0 : fOT Tryz.prog 128 0 = some (0, 125) := by kernel_rfl
theorem fo128_1 : fOff Tryz.prog 128 1 = some 1 := by kernel_rfl
theorem ft128_1 : fOT Tryz.prog 128 1 = some (1, 126) := by kernel_rfl
theorem fl128 : flT Tryz.prog 128 = some ([(0, 1), (1, 1)], [.val (.pointer none), .cap0 true]) := by kernel_rfl
-- 130: error
theorem ag130 : agT Tryz.prog 130 = some (false, 1) := by kernel_rfl
theorem zc130 : zT Tryz.prog 130 = some ([.val .nilIface], 1) := by kernel_rfl
-- 135: strings.asciiSet
theorem ag135 : agT Tryz.prog 135 = some (true, 256) := by kernel_rfl
theorem zc135 : zT Tryz.prog 135 = some (bools (List.replicate 256 false), 256) := by kernel_rfl
instance kt135 : KT Tryz.prog 135 (List.replicate 256 true) := ⟨by kernel_rfl, by kernel_rfl, by kernel_rfl, by kernel_rfl⟩
instance AR135 : ArT Tryz.prog 135 256 := ⟨by kernel_rfl⟩
instance AE135 : ArE Tryz.prog 135 256 := ⟨by kernel_rfl⟩
theorem fl135 : flT Tryz.prog 135 = some ([(0, 1), (1, 1), (2, 1), (3, 1), (4, 1), (5, 1), (6, 1), (7, 1), (8, 1), (9, 1), (10, 1), (11, 1), (12, 1), (13, 1), (14, 1), (15, 1), (16, 1), (17, 1), (18, 1), (19, 1), (20, 1), (21, 1), (22, 1), (23, 1), (24, 1), (25, 1), (26, 1), (27, 1), (28, 1), (29, 1), (30, 1), (31, 1), (32, 1), (33, 1), (34, 1), (35, 1), (36, 1), (37, 1), (38, 1), (39, 1), (40, 1), (41, 1), (42, 1), (43, 1), (44, 1), (45, 1), (46, 1), (47, 1), (48, 1), (49, 1), (50, 1), (51, 1), (52, 1), (53, 1), (54, 1), (55, 1), (56, 1), (57, 1), (58, 1), (59, 1), (60, 1), (61, 1), (62, 1), (63, 1), (64, 1), (65, 1), (66, 1), (67, 1), (68, 1), (69, 1), (70, 1), (71, 1), (72, 1), (73, 1), (74, 1), (75, 1), (76, 1), (77, 1), (78, 1), (79, 1), (80, 1), (81, 1), (82, 1), (83, 1), (84, 1), (85, 1), (86, 1), (87, 1), (88, 1), (89, 1), (90, 1), (91, 1), (92, 1), (93, 1), (94, 1), (95, 1), (96, 1), (97, 1), (98, 1), (99, 1), (100, 1), (101, 1), (102, 1), (103, 1), (104, 1), (105, 1), (106, 1), (107, 1), (108, 1), (109, 1), (110, 1), (111, 1), (112, 1), (113, 1), (114, 1), (115, 1), (116, 1), (117, 1), (118, 1), (119, 1), (120, 1), (121, 1), (122, 1), (123, 1), (124, 1), (125, 1), (126, 1), (127, 1), (128, 1), (129, 1), (130, 1), (131, 1), (132, 1), (133, 1), (134, 1), (135, 1), (136, 1), (137, 1), (138, 1), (139, 1), (140, 1), (141, 1), (142, 1), (143, 1), (144, 1), (145, 1), (146, 1), (147, 1), (148, 1), (149, 1), (150, 1), (151, 1), (152, 1), (153, 1), (154, 1), (155, 1), (156, 1), (157, 1), (158, 1), (159, 1), (160, 1), (161, 1), (162, 1), (163, 1), (164, 1), (165, 1), (166, 1), (167, 1), (168, 1), (169, 1), (170, 1), (171, 1), (172, 1), (173, 1), (174, 1), (175, 1), (176, 1), (177, 1), (178, 1), (179, 1), (180, 1), (181, 1), (182, 1), (183, 1), (184, 1), (185, 1), (186, 1), (187, 1), (188, 1), (189, 1), (190, 1), (191, 1), (192, 1), (193, 1), (194, 1), (195, 1), (196, 1), (197, 1), (198, 1), (199, 1), (200, 1), (201, 1), (202, 1), (203, 1), (204, 1), (205, 1), (206, 1), (207, 1), (208, 1), (209, 1), (210, 1), (211, 1), (212, 1), (213, 1), (214, 1), (215, 1), (216, 1), (217, 1), (218, 1), (219, 1), (220, 1), (221, 1), (222, 1), (223, 1), (224, 1), (225, 1), (226, 1), (227, 1), (228, 1), (229, 1), (230, 1), (231, 1), (232, 1), (233, 1), (234, 1), (235, 1), (236, 1), (237, 1), (238, 1), (239, 1), (240, 1), (241, 1), (242, 1), (243, 1), (244, 1), (245, 1), (246, 1), (247, 1), (248, 1), (249, 1), (250, 1), (251, 1), (252, 1), (253, 1), (254, 1), (255, 1)], bools (List.replicate 256 false)) := by kernel_rfl
-- 139: *strings.asciiSet
theorem ag139 : agT Tryz.prog 139 = some (false, 1) := by kernel_rfl
theorem zc139 : zT Tryz.prog 139 = some ([.val (.pointer none)], 1) := by kernel_rfl
-- 145: slices.xorshift
theorem ag145 : agT Tryz.prog 145 = some (false, 1) := by kernel_rfl
theorem zc145 : zT Tryz.prog 145 = some ([.val (.int .u64 0)], 1) := by kernel_rfl
-- 149: *int
theorem ag149 : agT Tryz.prog 149 = some (false, 1) := by kernel_rfl
theorem zc149 : zT Tryz.prog 149 = some ([.val (.pointer none)], 1) := by kernel_rfl
-- 151: *uint8
theorem ag151 : agT Tryz.prog 151 = some (false, 1) := by kernel_rfl
theorem zc151 : zT Tryz.prog 151 = some ([.val (.pointer none)], 1) := by kernel_rfl
-- 160: *slices.xorshift
theorem ag160 : agT Tryz.prog 160 = some (false, 1) := by kernel_rfl
theorem zc160 : zT Tryz.prog 160 = some ([.val (.pointer none)], 1) := by kernel_rfl
-- 163: unsafe.Pointer
theorem ag163 : agT Tryz.prog 163 = some (false, 1) := by kernel_rfl
theorem zc163 : zT Tryz.prog 163 = some ([.val (.pointer none)], 1) := by kernel_rfl

theorem FX : type_of% @ag2 ∧ type_of% @zc2 ∧ type_of% @ag3 ∧ type_of% @zc3 ∧ type_of% @ag4 ∧ type_of% @zc4 ∧ type_of% @ag5 ∧ type_of% @zc5 ∧ type_of% @ag9 ∧ type_of% @zc9 ∧ type_of% @ag21 ∧ type_of% @zc21 ∧ type_of% @ag22 ∧ type_of% @zc22 ∧ type_of% @ag24 ∧ type_of% @zc24 ∧ type_of% @fo24_0 ∧ type_of% @ft24_0 ∧ type_of% @fo24_1 ∧ type_of% @ft24_1 ∧ type_of% @fo24_2 ∧ type_of% @ft24_2 ∧ type_of% @fl24 ∧ type_of% @ag25 ∧ type_of% @zc25 ∧ type_of% @ag28 ∧ type_of% @zc28 ∧ type_of% @ag29 ∧ type_of% @zc29 ∧ type_of% @ag45 ∧ type_of% @zc45 ∧ type_of% @ag50 ∧ type_of% @zc50 ∧ type_of% @fo50_0 ∧ type_of% @ft50_0 ∧ type_of% @fo50_1 ∧ type_of% @ft50_1 ∧ type_of% @fl50 ∧ type_of% @ag63 ∧ type_of% @zc63 ∧ type_of% @fo63_0 ∧ type_of% @ft63_0 ∧ type_of% @fo63_1 ∧ type_of% @ft63_1 ∧ type_of% @fl63 ∧ type_of% @ag66 ∧ type_of% @zc66 ∧ type_of% @ag79 ∧ type_of% @zc79 ∧ type_of% @fo79_0 ∧ type_of% @ft79_0 ∧ type_of% @fo79_1 ∧ type_of% @ft79_1 ∧ type_of% @fo79_2 ∧ type_of% @ft79_2 ∧ type_of% @fo79_3 ∧ type_of% @ft79_3 ∧ type_of% @fo79_4 ∧ type_of% @ft79_4 ∧ type_of% @fo79_5 ∧ type_of% @ft79_5 ∧ type_of% @fo79_6 ∧ type_of% @ft79_6 ∧ type_of% @fl79 ∧ type_of% @ag86 ∧ type_of% @zc86 ∧ type_of% @ag90 ∧ type_of% @zc90 ∧ type_of% @ag92 ∧ type_of% @zc92 ∧ type_of% @fl92 ∧ type_of% @ag96 ∧ type_of% @zc96 ∧ type_of% @ag100 ∧ type_of% @zc100 ∧ type_of% @ag105 ∧ type_of% @zc105 ∧ type_of% @ag109 ∧ type_of% @zc109 ∧ type_of% @ag114 ∧ type_of% @zc114 ∧ type_of% @ag124 ∧ type_of% @zc124 ∧ type_of% @ag125 ∧ type_of% @zc125 ∧ type_of% @ag126 ∧ type_of% @zc126 ∧ type_of% @ag128 ∧ type_of% @zc128 ∧ type_of% @fo128_0 ∧ type_of% @ft128_0 ∧ type_of% @fo128_1 ∧ type_of% @ft128_1 ∧ type_of% @fl128 ∧ type_of% @ag130 ∧ type_of% @zc130 ∧ type_of% @ag135 ∧ type_of% @zc135 ∧ type_of% @fl135 ∧ type_of% @ag139 ∧ type_of% @zc139 ∧ type_of% @ag145 ∧ type_of% @zc145 ∧ type_of% @ag149 ∧ type_of% @zc149 ∧ type_of% @ag151 ∧ type_of% @zc151 ∧ type_of% @ag160 ∧ type_of% @zc160 ∧ type_of% @ag163 ∧ type_of% @zc163 :=
  ⟨@ag2, @zc2, @ag3, @zc3, @ag4, @zc4, @ag5, @zc5, @ag9, @zc9, @ag21, @zc21, @ag22, @zc22, @ag24, @zc24, @fo24_0, @ft24_0, @fo24_1, @ft24_1, @fo24_2, @ft24_2, @fl24, @ag25, @zc25, @ag28, @zc28, @ag29, @zc29, @ag45, @zc45, @ag50, @zc50, @fo50_0, @ft50_0, @fo50_1, @ft50_1, @fl50, @ag63, @zc63, @fo63_0, @ft63_0, @fo63_1, @ft63_1, @fl63, @ag66, @zc66, @ag79, @zc79, @fo79_0, @ft79_0, @fo79_1, @ft79_1, @fo79_2, @ft79_2, @fo79_3, @ft79_3, @fo79_4, @ft79_4, @fo79_5, @ft79_5, @fo79_6, @ft79_6, @fl79, @ag86, @zc86, @ag90, @zc90, @ag92, @zc92, @fl92, @ag96, @zc96, @ag100, @zc100, @ag105, @zc105, @ag109, @zc109, @ag114, @zc114, @ag124, @zc124, @ag125, @zc125, @ag126, @zc126, @ag128, @zc128, @fo128_0, @ft128_0, @fo128_1, @ft128_1, @fl128, @ag130, @zc130, @ag135, @zc135, @fl135, @ag139, @zc139, @ag145, @zc145, @ag149, @zc149, @ag151, @zc151, @ag160, @zc160, @ag163, @zc163⟩
end Go.Proofs.YtdbpkjanlafajaaGreatDoor

/- Grids: their checks. -/
set_option linter.unusedSimpArgs false
set_option linter.unusedVariables false
set_option maxRecDepth 100000
namespace Go.Proofs.YtdbpkjanlafajaaGreatDoor
open Go Go.Proofs Go.AW

abbrev LA (b : Bool) (l : List Int) : AVal := .list false b l.length (ints l)
abbrev LR (b : Bool) (l : List Int) : AVal := .list true b l.length (ints l)
abbrev BA (b : Bool) (l : List Bool) : AVal := .list false b l.length (bools l)
abbrev BR (b : Bool) (l : List Bool) : AVal := .list true b l.length (bools l)
abbrev GA (w h : Int) (b : Bool) (l : List Bool) : AVal := .agg [I w, I h, BA b l]
abbrev GR (w h : Int) (b : Bool) (l : List Bool) : AVal := .agg [I w, I h, BR b l]

/-- The error of a grid. -/
def gchk (w h n : Int) : Int := if 64 < w ∨ 64 < h then 4 else if w < 1 ∨ h < 1 ∨ n ≠ w * h then 8 else 0
def gOk (w h n : Int) : Prop := 1 ≤ w ∧ w ≤ 64 ∧ 1 ≤ h ∧ h ≤ 64 ∧ n = w * h
theorem gchk_ok {w h n : Int} (hg : gOk w h n) : gchk w h n = 0 := by
  obtain ⟨h1, h2, h3, h4, h5⟩ := hg
  unfold gchk
  rw [if_neg (by omega), if_neg (by omega)]
theorem gchk_iff {w h n : Int} : gchk w h n = 0 ↔ gOk w h n := by
  refine ⟨fun hz => ?_, gchk_ok⟩
  unfold gchk at hz
  unfold gOk
  split at hz
  · omega
  · split at hz
    · omega
    · omega
theorem prod64 {w h : Int} (h1 : 0 ≤ w) (h2 : w ≤ 64) (h3 : 0 ≤ h) (h4 : h ≤ 64) : 0 ≤ w * h ∧ w * h ≤ 4096 := by
  constructor
  · exact Int.mul_nonneg h1 h3
  · have := Int.mul_le_mul h2 h4 h3 (by omega); omega

theorem gcheckP_c (w h : Int) (b : Bool) (l : List Bool) : Contract Tryz.prog 27 [GA w h b l] (I (gchk w h l.length)) := by
  unfold gchk
  refine Contract.intro (effS [] false) 6 follows Tryz.func27 rfl rfl (by kernel_rfl) (Nat.le_of_ble_eq_true rfl) ?_
  by_cases c1 : 64 < w ∨ 64 < h
  · rw [if_pos c1]
    have : 64 < max w h := by omega
    simp (disch := omega) only [↓RP, RG, FX, RQ, ↓reduceIte, Nat.reduceEqDiff, reduceCtorEq, Nat.reduceBEq, Nat.reduceAdd, Nat.reduceLeDiff, args0_1]
    rw [resVal_1 rfl]; simp (disch := first | assumption | omega | rfl | simp only [RH]) only [↓RP, RG, FX, RQ, ↓reduceIte, Nat.reduceEqDiff, reduceCtorEq, Nat.reduceBEq, Nat.reduceAdd, Nat.reduceLeDiff, RS]
  rw [if_neg c1]
  have : ¬ 64 < max w h := by omega
  by_cases c2 : w < 1 ∨ h < 1
  · rw [if_pos (by omega)]
    have : min w h < 1 := by omega
    simp (disch := omega) only [↓RP, RG, FX, RQ, ↓reduceIte, Nat.reduceEqDiff, reduceCtorEq, Nat.reduceBEq, Nat.reduceAdd, Nat.reduceLeDiff, args0_1]
    rw [resVal_1 rfl]; simp (disch := first | assumption | omega | rfl | simp only [RH]) only [↓RP, RG, FX, RQ, ↓reduceIte, Nat.reduceEqDiff, reduceCtorEq, Nat.reduceBEq, Nat.reduceAdd, Nat.reduceLeDiff, RS]
  have : ¬ min w h < 1 := by omega
  have hp := prod64 (w := w) (h := h) (by omega) (by omega) (by omega) (by omega)
  by_cases c3 : (l.length : Int) = w * h
  · rw [if_neg (by omega)]
    simp (disch := omega) only [↓RP, RG, FX, RQ, ↓reduceIte, Nat.reduceEqDiff, reduceCtorEq, Nat.reduceBEq, Nat.reduceAdd, Nat.reduceLeDiff, args0_1]
    rw [resVal_1 rfl]; simp (disch := first | assumption | omega | rfl | simp only [RH]) only [↓RP, RG, FX, RQ, ↓reduceIte, Nat.reduceEqDiff, reduceCtorEq, Nat.reduceBEq, Nat.reduceAdd, Nat.reduceLeDiff, RS]
  · rw [if_pos (by omega)]
    simp (disch := omega) only [↓RP, RG, FX, RQ, ↓reduceIte, Nat.reduceEqDiff, reduceCtorEq, Nat.reduceBEq, Nat.reduceAdd, Nat.reduceLeDiff, args0_1]
    rw [resVal_1 rfl]; simp (disch := first | assumption | omega | rfl | simp only [RH]) only [↓RP, RG, FX, RQ, ↓reduceIte, Nat.reduceEqDiff, reduceCtorEq, Nat.reduceBEq, Nat.reduceAdd, Nat.reduceLeDiff, RS]

theorem gcheckR_c (w h : Int) (b : Bool) (l : List Bool) : Contract Tryz.prog 22 [GA w h b l] (I (gchk w h l.length)) := by
  unfold gchk
  refine Contract.intro (effS [] false) 6 follows Tryz.func22 rfl rfl (by kernel_rfl) (Nat.le_of_ble_eq_true rfl) ?_
  by_cases c0 : 64 < w
  · rw [if_pos (by omega)]
    simp (disch := omega) only [↓RP, RG, FX, RQ, ↓reduceIte, Nat.reduceEqDiff, reduceCtorEq, Nat.reduceBEq, Nat.reduceAdd, Nat.reduceLeDiff, args0_1]
    rw [resVal_1 rfl]; simp (disch := first | assumption | omega | rfl | simp only [RH]) only [↓RP, RG, FX, RQ, ↓reduceIte, Nat.reduceEqDiff, reduceCtorEq, Nat.reduceBEq, Nat.reduceAdd, Nat.reduceLeDiff, RS]
  by_cases c1 : 64 < h
  · rw [if_pos (by omega)]
    simp (disch := omega) only [↓RP, RG, FX, RQ, ↓reduceIte, Nat.reduceEqDiff, reduceCtorEq, Nat.reduceBEq, Nat.reduceAdd, Nat.reduceLeDiff, args0_1]
    rw [resVal_1 rfl]; simp (disch := first | assumption | omega | rfl | simp only [RH]) only [↓RP, RG, FX, RQ, ↓reduceIte, Nat.reduceEqDiff, reduceCtorEq, Nat.reduceBEq, Nat.reduceAdd, Nat.reduceLeDiff, RS]
  rw [if_neg (by omega)]
  by_cases c2 : w < 1
  · rw [if_pos (by omega)]
    simp (disch := omega) only [↓RP, RG, FX, RQ, ↓reduceIte, Nat.reduceEqDiff, reduceCtorEq, Nat.reduceBEq, Nat.reduceAdd, Nat.reduceLeDiff, args0_1]
    rw [resVal_1 rfl]; simp (disch := first | assumption | omega | rfl | simp only [RH]) only [↓RP, RG, FX, RQ, ↓reduceIte, Nat.reduceEqDiff, reduceCtorEq, Nat.reduceBEq, Nat.reduceAdd, Nat.reduceLeDiff, RS]
  by_cases c3 : h < 1
  · rw [if_pos (by omega)]
    simp (disch := omega) only [↓RP, RG, FX, RQ, ↓reduceIte, Nat.reduceEqDiff, reduceCtorEq, Nat.reduceBEq, Nat.reduceAdd, Nat.reduceLeDiff, args0_1]
    rw [resVal_1 rfl]; simp (disch := first | assumption | omega | rfl | simp only [RH]) only [↓RP, RG, FX, RQ, ↓reduceIte, Nat.reduceEqDiff, reduceCtorEq, Nat.reduceBEq, Nat.reduceAdd, Nat.reduceLeDiff, RS]
  have hp := prod64 (w := w) (h := h) (by omega) (by omega) (by omega) (by omega)
  by_cases c4 : (l.length : Int) = w * h
  · rw [if_neg (by omega)]
    simp (disch := omega) only [↓RP, RG, FX, RQ, ↓reduceIte, Nat.reduceEqDiff, reduceCtorEq, Nat.reduceBEq, Nat.reduceAdd, Nat.reduceLeDiff, args0_1]
    rw [resVal_1 rfl]; simp (disch := first | assumption | omega | rfl | simp only [RH]) only [↓RP, RG, FX, RQ, ↓reduceIte, Nat.reduceEqDiff, reduceCtorEq, Nat.reduceBEq, Nat.reduceAdd, Nat.reduceLeDiff, RS]
  · rw [if_pos (by omega)]
    simp (disch := omega) only [↓RP, RG, FX, RQ, ↓reduceIte, Nat.reduceEqDiff, reduceCtorEq, Nat.reduceBEq, Nat.reduceAdd, Nat.reduceLeDiff, args0_1]
    rw [resVal_1 rfl]; simp (disch := first | assumption | omega | rfl | simp only [RH]) only [↓RP, RG, FX, RQ, ↓reduceIte, Nat.reduceEqDiff, reduceCtorEq, Nat.reduceBEq, Nat.reduceAdd, Nat.reduceLeDiff, RS]
end Go.Proofs.YtdbpkjanlafajaaGreatDoor

/- Lists: compared. -/
set_option linter.unusedSimpArgs false
set_option linter.unusedVariables false
set_option maxRecDepth 100000
namespace Go.Proofs.YtdbpkjanlafajaaGreatDoor
open Go Go.Proofs Go.AW

/-- Lists compared. -/
theorem same02_c (b1 b2 : Bool) (l m : List Int) (hl : l.length ≤ 9223372036854775807) : Contract Tryz.prog 19 [LA b1 l, LA b2 m] (B (decide (l = m))) := by
  refine Contract.intro (effS [] false) 6 follows Tryz.func19 rfl rfl (by kernel_rfl) (Nat.le_of_ble_eq_true rfl) ?_
  by_cases hlen : l.length = m.length
  · simp (disch := first | assumption | omega | rfl | simp only [RH]) only [↓RP, RG, FX, RQ, ↓reduceIte, Nat.reduceEqDiff, reduceCtorEq, Nat.reduceBEq, Nat.reduceAdd, Nat.reduceLeDiff, args0_2]
    refine loopK_I [0, 1, 5] (fun k : Nat => k ≤ l.length ∧ l.take k = m.take k) (fun k : Nat => ⟨[(0, LA b1 l), (1, LA b2 m), (5, I k)], []⟩) (fun k => l.length - k) 0 (by simp) (by simp only [↓RP, RG, FX, RQ, ↓reduceIte, Nat.reduceEqDiff, reduceCtorEq, Nat.reduceBEq, Nat.reduceAdd, Nat.reduceLeDiff]; rfl) ?_
    rintro k ⟨hk, htk⟩
    by_cases hlt : k < l.length
    · by_cases he : l.getD k 0 = m.getD k 0
      · simp (disch := first | assumption | omega | rfl | simp only [RH]) only [↓RP, RG, FX, RQ, ↓reduceIte, Nat.reduceEqDiff, reduceCtorEq, Nat.reduceBEq, Nat.reduceAdd, Nat.reduceLeDiff]
        refine ⟨k + 1, ⟨by omega, ?_⟩, rfl, by omega⟩
        rw [List.take_add_one, List.take_add_one, htk]
        simp [hlt, show k < m.length by omega] at he
        rw [List.getElem?_eq_getElem hlt, List.getElem?_eq_getElem (show k < m.length by omega), he]
      · simp (disch := first | assumption | omega | rfl | simp only [RH]) only [↓RP, RG, FX, RQ, ↓reduceIte, Nat.reduceEqDiff, reduceCtorEq, Nat.reduceBEq, Nat.reduceAdd, Nat.reduceLeDiff]
        rw [resVal_1 rfl]; simp (disch := first | assumption | omega | rfl | simp only [RH]) only [↓RP, RG, FX, RQ, ↓reduceIte, Nat.reduceEqDiff, reduceCtorEq, Nat.reduceBEq, Nat.reduceAdd, Nat.reduceLeDiff, RS]
        refine okF ?_
        rintro rfl; exact he rfl
    · simp (disch := first | assumption | omega | rfl | simp only [RH]) only [↓RP, RG, FX, RQ, ↓reduceIte, Nat.reduceEqDiff, reduceCtorEq, Nat.reduceBEq, Nat.reduceAdd, Nat.reduceLeDiff]
      rw [resVal_1 rfl]; simp (disch := first | assumption | omega | rfl | simp only [RH]) only [↓RP, RG, FX, RQ, ↓reduceIte, Nat.reduceEqDiff, reduceCtorEq, Nat.reduceBEq, Nat.reduceAdd, Nat.reduceLeDiff, RS]
      refine okT ?_
      have hk' : k = l.length := by omega
      rw [hk', List.take_length] at htk
      rw [htk, hlen, List.take_length]
  · simp (disch := first | assumption | omega | rfl | simp only [RH]) only [↓RP, RG, FX, RQ, ↓reduceIte, Nat.reduceEqDiff, reduceCtorEq, Nat.reduceBEq, Nat.reduceAdd, Nat.reduceLeDiff, args0_2]
    rw [resVal_1 rfl]; simp (disch := first | assumption | omega | rfl | simp only [RH]) only [↓RP, RG, FX, RQ, ↓reduceIte, Nat.reduceEqDiff, reduceCtorEq, Nat.reduceBEq, Nat.reduceAdd, Nat.reduceLeDiff, RS]
    refine okF ?_
    rintro rfl; exact hlen rfl

end Go.Proofs.YtdbpkjanlafajaaGreatDoor

/- Lists: least and greatest element, within a range; cells of grids. -/
set_option linter.unusedSimpArgs false
set_option linter.unusedVariables false
set_option maxRecDepth 100000
namespace Go.Proofs.YtdbpkjanlafajaaGreatDoor
open Go Go.Proofs Go.AW

/-- It has elements, all of them from 0 to n - 1. -/
def wIn (l : List Int) (n : Int) : Prop := 0 < l.length ∧ ∀ j, j < l.length → 0 ≤ l.getD j 0 ∧ l.getD j 0 < n
instance (l : List Int) (n : Int) : Decidable (wIn l n) := by unfold wIn; infer_instance

/-- A grid's cell. -/
def cell (w : Int) (l : List Bool) (x y : Int) : Bool := l.getD (y * w + x).toNat false

end Go.Proofs.YtdbpkjanlafajaaGreatDoor

/- Grids: compared, copied. -/
set_option linter.unusedSimpArgs false
set_option linter.unusedVariables false
set_option maxRecDepth 100000
namespace Go.Proofs.YtdbpkjanlafajaaGreatDoor
open Go Go.Proofs Go.AW

end Go.Proofs.YtdbpkjanlafajaaGreatDoor

/- Drafts: their checks. -/
set_option linter.unusedSimpArgs false
set_option linter.unusedVariables false
set_option maxRecDepth 100000
namespace Go.Proofs.YtdbpkjanlafajaaGreatDoor
open Go Go.Proofs Go.AW

end Go.Proofs.YtdbpkjanlafajaaGreatDoor

/- Drafts: tables, drawdowns, lifts. -/
set_option linter.unusedSimpArgs false
set_option linter.unusedVariables false
set_option maxRecDepth 100000
namespace Go.Proofs.YtdbpkjanlafajaaGreatDoor
open Go Go.Proofs Go.AW

/-- The first n cells of a table of W columns. -/
def tabN (W : Nat) (u : Nat → Nat → Bool) (n : Nat) : List Bool := (List.range n).map fun i => u (i % W) (i / W)
theorem tabN_len (W : Nat) (u : Nat → Nat → Bool) (n : Nat) : (tabN W u n).length = n := by simp [tabN]
theorem tabN_succ (W : Nat) (u : Nat → Nat → Bool) {y x : Nat} (hx : x < W) : tabN W u (W * y + x + 1) = tabN W u (W * y + x) ++ [u x y] := by
  have e1 : (W * y + x) % W = x := by rw [Nat.mul_add_mod]; exact Nat.mod_eq_of_lt hx
  have e2 : (W * y + x) / W = y := by rw [Nat.mul_add_div (by omega), Nat.div_eq_of_lt hx, Nat.add_zero]
  simp only [tabN, List.range_succ, List.map_append, List.map_cons, List.map_nil, e1, e2]
theorem tabN_get (W : Nat) (u : Nat → Nat → Bool) {n y x : Nat} (hx : x < W) (hn : W * y + x < n) : (tabN W u n).getD (W * y + x) false = u x y := by
  have e1 : (W * y + x) % W = x := by rw [Nat.mul_add_mod]; exact Nat.mod_eq_of_lt hx
  have e2 : (W * y + x) / W = y := by rw [Nat.mul_add_div (by omega), Nat.div_eq_of_lt hx, Nat.add_zero]
  simp [tabN, List.getD_eq_getElem?_getD, List.getElem?_range hn, e1, e2]
theorem tabN_pos {W H : Nat} (hw : 0 < W) (hh : 0 < H) (u : Nat → Nat → Bool) : 0 < (bools (tabN W u (W * H))).length := by
  rw [bools_length, tabN_len]; exact Nat.mul_pos hw hh
theorem bools_isEmpty (l : List Bool) : (bools l).isEmpty = l.isEmpty := by cases l <;> rfl
theorem ints_isEmpty (l : List Int) : (ints l).isEmpty = l.isEmpty := by cases l <;> rfl

end Go.Proofs.YtdbpkjanlafajaaGreatDoor

/- Drafts: drawdowns and lifts, of the program and the reference. -/
set_option linter.unusedSimpArgs false
set_option linter.unusedVariables false
set_option maxRecDepth 100000
namespace Go.Proofs.YtdbpkjanlafajaaGreatDoor
open Go Go.Proofs Go.AW

theorem idx_nat (W y x : Nat) : ((y : Int) * (W : Int) + (x : Int)).toNat = W * y + x := by
  rw [← Int.natCast_mul, ← Int.natCast_add, Int.toNat_natCast, Nat.mul_comm]
theorem idx_lt {W H x y : Nat} (hx : x < W) (hy : y < H) : W * y + x < W * H := by
  have : W * (y + 1) ≤ W * H := Nat.mul_le_mul_left W hy
  rw [Nat.mul_succ] at this; omega

end Go.Proofs.YtdbpkjanlafajaaGreatDoor

/- Chapter 11: the parts of an order, by one search. Plain. -/
set_option linter.unusedSimpArgs false
set_option linter.unusedVariables false
set_option maxRecDepth 100000
namespace Go.Proofs.YtdbpkjanlafajaaGreatDoor
open Go Go.Proofs Go.AW

/-- Ways along an order. -/
inductive Wy (ov : Nat → List Nat) : Nat → Nat → Prop
  | refl (a : Nat) : Wy ov a a
  | step {a b c : Nat} (h : b ∈ ov a) (hr : Wy ov b c) : Wy ov a c
theorem Wy.trans {ov : Nat → List Nat} {a b c : Nat} (h1 : Wy ov a b) (h2 : Wy ov b c) : Wy ov a c := by
  induction h1 with
  | refl a => exact h2
  | step h _ ih => exact .step h (ih h2)
theorem Wy.one {ov : Nat → List Nat} {a b : Nat} (h : b ∈ ov a) : Wy ov a b := .step h (.refl b)
/-- What is closed under the order is not left. -/
theorem Wy.closed {ov : Nat → List Nat} {p : Nat → Prop} (hp : ∀ x y, p x → y ∈ ov x → p y) {a b : Nat} (h : Wy ov a b) (ha : p a) : p b := by
  induction h with
  | refl a => exact ha
  | step h _ ih => exact ih (hp _ _ ha h)

def updN {α : Type} (f : Nat → α) (a : Nat) (v : α) : Nat → α := fun x => if x = a then v else f x
theorem updN_same {α : Type} (f : Nat → α) (a : Nat) (v : α) : updN f a v a = v := if_pos rfl
theorem updN_other {α : Type} (f : Nat → α) {a x : Nat} (v : α) (h : x ≠ a) : updN f a v x = f x := if_neg h
/-- The search's state: when each thread was met (0: not yet), the lowest, the part (or -1), the stack, what lies behind it, how many were met, the parts. -/
structure TS where
  ix : Nat → Nat
  lo : Nat → Nat
  pt : Nat → Int
  st : List Nat
  jk : List Nat
  mt : Nat
  ps : List (List Nat)
abbrev srtN (l : List Nat) : List Nat := l.mergeSort fun x y => decide (x ≤ y)
def tEnter (s : TS) (a : Nat) : TS := { s with ix := updN s.ix a (s.mt + 1), lo := updN s.lo a (s.mt + 1), st := s.st ++ [a], jk := s.jk.drop 1, mt := s.mt + 1 }
def tSeg (a : Nat) (s : TS) : List Nat := s.st.drop (s.st.idxOf a)
def tPop (a : Nat) (s : TS) : TS := { s with st := s.st.take (s.st.idxOf a), jk := tSeg a s ++ s.jk, pt := fun x => if x ∈ tSeg a s then (s.ps.length : Int) else s.pt x, ps := s.ps ++ [srtN (tSeg a s)] }
def tFin (a : Nat) (s : TS) : TS := if s.lo a = s.ix a then tPop a s else s
def tEdge (v : TS → Nat → TS) (a : Nat) (s : TS) (b : Nat) : TS :=
  if s.ix b = 0 then { v s b with lo := updN (v s b).lo a (min ((v s b).lo a) ((v s b).lo b)) }
  else if s.pt b < 0 then { s with lo := updN s.lo a (min (s.lo a) (s.ix b)) } else s
def tVis (ov : Nat → List Nat) : Nat → TS → Nat → TS
  | 0, s, _ => s
  | k + 1, s, a => tFin a ((ov a).foldl (tEdge (tVis ov k) a) (tEnter s a))

/-- How many were not met yet. -/
def unvT (n : Nat) (s : TS) : Nat := (List.range n).countP fun x => decide (s.ix x = 0)
theorem unv_mono {n : Nat} {s s' : TS} (h : ∀ x, s.ix x ≠ 0 → s'.ix x ≠ 0) : unvT n s' ≤ unvT n s := by
  refine List.countP_mono_left fun x _ hx => ?_
  simp only [decide_eq_true_eq] at hx ⊢
  exact Classical.byContradiction fun h0 => h x h0 hx
theorem countP_lt {p q : Nat → Bool} {a : Nat} : ∀ {l : List Nat}, a ∈ l → (∀ x, p x = true → q x = true) → p a = false → q a = true → l.countP p < l.countP q
  | x :: l, h, hpq, h1, h2 => by
    have hm : l.countP p ≤ l.countP q := List.countP_mono_left fun x _ hx => hpq x hx
    rw [List.countP_cons, List.countP_cons]
    rcases List.mem_cons.1 h with rfl | h'
    · rw [h1, h2]; simp; omega
    · have := countP_lt h' hpq h1 h2
      have h3 : (if p x = true then 1 else 0) ≤ (if q x = true then 1 else 0) := by
        split
        · rename_i hx; rw [if_pos (hpq x hx)]; omega
        · omega
      omega
theorem countP_one {m q : Nat} (hq : q < m) {f g : Nat → Bool} (h1 : ∀ x, x ≠ q → f x = g x) (h2 : f q = false) (h3 : g q = true) : (List.range m).countP g = (List.range m).countP f + 1 := by
  induction m with
  | zero => omega
  | succ m ih =>
    rw [List.range_succ, List.countP_append, List.countP_append]
    by_cases hqm : q = m
    · subst hqm
      have : (List.range q).countP g = (List.range q).countP f := List.countP_congr fun x hx => by
        rw [h1 x (by have := List.mem_range.1 hx; omega)]
      rw [this]; simp [h2, h3]
    · rw [ih (by omega)]
      have : f m = g m := h1 m (by omega)
      simp only [List.countP_cons, List.countP_nil, this]; omega
/-- What stands of the search's state; G: the threads that are being looked at. -/
structure TInv (ov : Nat → List Nat) (n : Nat) (s : TS) (G : List Nat) : Prop where
  srt : s.st.Pairwise fun x y => s.ix x < s.ix y
  mem : ∀ x, x ∈ s.st ↔ s.ix x ≠ 0 ∧ s.pt x < 0
  ixle : ∀ x, s.ix x ≤ s.mt
  vin : ∀ x, s.ix x ≠ 0 → x < n
  ptw : ∀ x, 0 ≤ s.pt x → s.ix x ≠ 0
  dn : ∀ x y, 0 ≤ s.pt x → y ∈ ov x → 0 ≤ s.pt y ∧ s.pt y ≤ s.pt x
  gr : ∀ g, g ∈ G → g ∈ s.st
  bl : ∀ x y, s.ix x ≠ 0 → ¬ x ∈ G → y ∈ ov x → s.ix y ≠ 0
  up : ∀ x, x ∈ s.st → ∃ g, g ∈ G ∧ s.ix g ≤ s.ix x ∧ Wy ov x g
  dw : ∀ g x, g ∈ G → x ∈ s.st → s.ix g ≤ s.ix x → Wy ov g x
  p1 : ∀ x (k : Nat), s.pt x = (k : Int) ↔ ∃ l, s.ps[k]? = some l ∧ x ∈ l
  p2 : ∀ l, l ∈ s.ps → l ≠ [] ∧ l.Pairwise (· < ·)
  p3 : ∀ x y, 0 ≤ s.pt x → (s.pt y = s.pt x ↔ Wy ov x y ∧ Wy ov y x)
  mtc : s.mt + unvT n s = n
  sj : s.st.length + s.jk.length ≤ s.mt
  pl : s.ps.length + s.st.length ≤ s.mt
/-- What a search leaves as it was. -/
structure TExt (s s' : TS) : Prop where
  e1 : ∀ x, s.ix x ≠ 0 → s'.ix x = s.ix x ∧ s'.lo x = s.lo x
  e2 : ∀ x, 0 ≤ s.pt x → s'.pt x = s.pt x
  e3 : ∃ new, s'.st = s.st ++ new ∧ ∀ x, x ∈ new → s.ix x = 0
  e4 : s.mt ≤ s'.mt
  e5 : ∀ x, s.ix x = 0 → s'.ix x ≠ 0 → s.mt < s'.ix x
theorem TExt.refl (s : TS) : TExt s s := ⟨fun _ _ => ⟨rfl, rfl⟩, fun _ _ => rfl, ⟨[], by simp, fun _ h => by cases h⟩, Nat.le_refl _, fun _ h1 h2 => absurd h1 h2⟩
theorem unv_enter1 {n a : Nat} {s : TS} (ha : a < n) (h0 : s.ix a = 0) : unvT n s = unvT n (tEnter s a) + 1 := by
  refine countP_one ha (fun x hx => ?_) ?_ ?_
  · rw [show (tEnter s a).ix x = s.ix x from updN_other _ _ hx]
  · simp [tEnter, updN]
  · simpa using h0
theorem unv_enter {n a : Nat} {s : TS} (ha : a < n) (h0 : s.ix a = 0) : unvT n (tEnter s a) < unvT n s := by
  refine countP_lt (a := a) (List.mem_range.2 ha) (fun x hx => ?_) ?_ ?_
  · have h1 : (tEnter s a).ix x = 0 := by simpa using hx
    by_cases hxa : x = a
    · subst hxa; rw [show (tEnter s x).ix x = s.mt + 1 from updN_same _ _ _] at h1; omega
    · rw [show (tEnter s a).ix x = s.ix x from updN_other _ _ hxa] at h1
      simpa using h1
  · simp [tEnter, updN]
  · simpa using h0
section
variable {ov : Nat → List Nat} {n : Nat}
theorem TInv.pt_of_mem {s : TS} {G : List Nat} (h : TInv ov n s G) {x : Nat} (hx : x ∈ s.st) : s.pt x < 0 := ((h.mem x).1 hx).2
theorem enter_inv {s : TS} {G : List Nat} (h : TInv ov n s G) {a : Nat} (ha : a < n) (h0 : s.ix a = 0) (hG : ∀ g, g ∈ G → Wy ov g a) : TInv ov n (tEnter s a) (a :: G) := by
  have hna : ¬ a ∈ s.st := fun hm => ((h.mem a).1 hm).1 h0
  have hne : ∀ x, x ∈ s.st → x ≠ a := fun x hx he => hna (he ▸ hx)
  have hix : ∀ x, x ≠ a → (tEnter s a).ix x = s.ix x := fun x hx => updN_other _ _ hx
  have hia : (tEnter s a).ix a = s.mt + 1 := updN_same _ _ _
  have hpa : s.pt a < 0 := Classical.byContradiction fun hn => h.ptw a (by omega) h0
  have hst : ∀ x, x ∈ (tEnter s a).st ↔ x ∈ s.st ∨ x = a := fun x => by simp [tEnter]
  refine ⟨?_, fun x => ?_, fun x => ?_, fun x hx => ?_, fun x hx => ?_, h.dn, fun g hg => ?_, fun x y hx hxG hy => ?_, fun x hx => ?_, fun g x hg hx hle => ?_, h.p1, h.p2, h.p3, ?_, ?_, ?_⟩
  · refine List.pairwise_append.2 ⟨?_, by simp, fun x hx y hy => ?_⟩
    · refine List.Pairwise.imp_of_mem (fun {x y} hx hy hlt => ?_) h.srt
      rw [hix x (hne x hx), hix y (hne y hy)]; exact hlt
    · simp only [List.mem_singleton] at hy
      subst hy
      rw [hix x (hne x hx), hia]
      have := h.ixle x; omega
  · rw [hst]
    constructor
    · rintro (hx | rfl)
      · rw [hix x (hne x hx)]; exact (h.mem x).1 hx
      · exact ⟨by rw [hia]; omega, hpa⟩
    · rintro ⟨h1, h2⟩
      by_cases hxa : x = a
      · exact .inr hxa
      · rw [hix x hxa] at h1; exact .inl ((h.mem x).2 ⟨h1, h2⟩)
  · show (tEnter s a).ix x ≤ s.mt + 1
    by_cases hxa : x = a
    · subst hxa; rw [hia]; exact Nat.le_refl _
    · rw [hix x hxa]; have := h.ixle x; omega
  · by_cases hxa : x = a
    · subst hxa; exact ha
    · rw [hix x hxa] at hx; exact h.vin x hx
  · by_cases hxa : x = a
    · subst hxa; rw [hia]; omega
    · rw [hix x hxa]; exact h.ptw x hx
  · rw [hst]
    rcases List.mem_cons.1 hg with rfl | hg
    · exact .inr rfl
    · exact .inl (h.gr g hg)
  · have hxa : x ≠ a := fun he => hxG (List.mem_cons.2 (.inl he))
    rw [hix x hxa] at hx
    have h1 := h.bl x y hx (fun hm => hxG (List.mem_cons.2 (.inr hm))) hy
    by_cases hya : y = a
    · subst hya; rw [hia]; omega
    · rw [hix y hya]; exact h1
  · rcases (hst x).1 hx with hx | rfl
    · obtain ⟨g, g1, g2, g3⟩ := h.up x hx
      refine ⟨g, List.mem_cons.2 (.inr g1), ?_, g3⟩
      rw [hix x (hne x hx), hix g (hne g (h.gr g g1))]; exact g2
    · exact ⟨x, List.mem_cons.2 (.inl rfl), Nat.le_refl _, .refl x⟩
  · rcases (hst x).1 hx with hx' | rfl
    · rcases List.mem_cons.1 hg with hga | hg
      · exfalso
        rw [hga, hia, hix x (hne x hx')] at hle
        have := h.ixle x; omega
      · rw [hix x (hne x hx'), hix g (hne g (h.gr g hg))] at hle
        exact h.dw g x hg hx' hle
    · rcases List.mem_cons.1 hg with rfl | hg
      · exact .refl _
      · exact hG g hg

  · have h1 := unv_enter1 ha h0
    have h2 := h.mtc
    show s.mt + 1 + unvT n (tEnter s a) = n
    omega
  · have h1 := h.sj
    show (s.st ++ [a]).length + (s.jk.drop 1).length ≤ s.mt + 1
    simp only [List.length_append, List.length_singleton, List.length_drop]; omega
  · have h1 := h.pl
    show s.ps.length + (s.st ++ [a]).length ≤ s.mt + 1
    simp only [List.length_append, List.length_singleton]; omega

/-- What holds while the threads over a are gone through; D: those that are through. -/
structure TMid (ov : Nat → List Nat) (n : Nat) (s : TS) (G : List Nat) (a : Nat) (D : List Nat) (t : TS) : Prop where
  inv : TInv ov n t (a :: G)
  ext : TExt s t
  ia : t.ix a = s.mt + 1
  st : ∃ new, t.st = s.st ++ a :: new
  low : ∃ y, (y ∈ s.st ∨ y = a) ∧ t.lo a = t.ix y ∧ Wy ov a y
  dd : ∀ y, y ∈ D → t.ix y ≠ 0
  cr : ∀ x y, x ∈ t.st → ¬ x ∈ s.st → y ∈ ov x → y ∈ s.st → (x = a → y ∈ D) → t.lo a ≤ s.ix y
/-- What a search from a leaves. -/
structure TPost (ov : Nat → List Nat) (n : Nat) (s : TS) (G : List Nat) (a : Nat) (t : TS) : Prop where
  inv : TInv ov n t G
  ext : TExt s t
  ia : t.ix a = s.mt + 1
  low : (0 ≤ t.pt a ∧ t.lo a = t.ix a) ∨ (∃ y, y ∈ s.st ∧ t.lo a = s.ix y ∧ Wy ov a y)
  cr : ∀ x y, x ∈ t.st → ¬ x ∈ s.st → y ∈ ov x → y ∈ s.st → t.lo a ≤ s.ix y
theorem mid_start {s : TS} {G : List Nat} (h : TInv ov n s G) {a : Nat} (ha : a < n) (h0 : s.ix a = 0) (hG : ∀ g, g ∈ G → Wy ov g a) : TMid ov n s G a [] (tEnter s a) := by
  have hna : ¬ a ∈ s.st := fun hm => ((h.mem a).1 hm).1 h0
  have hia : (tEnter s a).ix a = s.mt + 1 := updN_same _ _ _
  have hla : (tEnter s a).lo a = s.mt + 1 := updN_same _ _ _
  refine ⟨enter_inv h ha h0 hG, ⟨fun x hx => ?_, fun _ _ => rfl, ⟨[a], rfl, fun x hx => ?_⟩, ?_, fun x h1 h2 => ?_⟩, hia, ⟨[], rfl⟩, ⟨a, .inr rfl, by rw [hla, hia], .refl a⟩, (fun y hy => by cases hy), fun x y hx hxs hy hys hD => ?_⟩
  · have hxa : x ≠ a := fun he => hx (he ▸ h0)
    exact ⟨updN_other _ _ hxa, updN_other _ _ hxa⟩
  · simp only [List.mem_singleton] at hx; subst hx; exact h0
  · show s.mt ≤ s.mt + 1; omega
  · by_cases hxa : x = a
    · subst hxa; rw [hia]; omega
    · exact absurd ((updN_other _ _ hxa : (tEnter s a).ix x = s.ix x).trans h1) h2
  · have : x = a := by
      have h1 : x ∈ s.st ++ [a] := hx
      rw [List.mem_append] at h1
      rcases h1 with h1 | h1
      · exact absurd h1 hxs
      · simpa using h1
    exact absurd (hD this) (by simp)
end
end Go.Proofs.YtdbpkjanlafajaaGreatDoor

/- Chapter 11: the search, one edge and its end. Plain. -/
set_option linter.unusedSimpArgs false
set_option linter.unusedVariables false
set_option maxRecDepth 100000
namespace Go.Proofs.YtdbpkjanlafajaaGreatDoor
open Go Go.Proofs Go.AW

theorem TExt.trans {s t u : TS} (h1 : TExt s t) (h2 : TExt t u) : TExt s u := by
  refine ⟨fun x hx => ?_, fun x hx => ?_, ?_, Nat.le_trans h1.e4 h2.e4, fun x h0 hu => ?_⟩
  · obtain ⟨a1, a2⟩ := h1.e1 x hx
    obtain ⟨b1, b2⟩ := h2.e1 x (by rw [a1]; exact hx)
    exact ⟨b1.trans a1, b2.trans a2⟩
  · have a1 := h1.e2 x hx
    rw [h2.e2 x (by rw [a1]; exact hx), a1]
  · obtain ⟨n1, a1, a2⟩ := h1.e3
    obtain ⟨n2, b1, b2⟩ := h2.e3
    refine ⟨n1 ++ n2, by rw [b1, a1, List.append_assoc], fun x hx => ?_⟩
    rcases List.mem_append.1 hx with hx | hx
    · exact a2 x hx
    · refine Classical.byContradiction fun h0 => ?_
      have := (h1.e1 x h0).1
      rw [b2 x hx] at this
      exact h0 this.symm
  · by_cases ht : t.ix x = 0
    · have := h2.e5 x ht hu; have := h1.e4; omega
    · have := h1.e5 x h0 ht
      have := (h2.e1 x ht).1
      omega
section
variable {ov : Nat → List Nat} {n : Nat}
theorem TInv.with_lo {s : TS} {G : List Nat} (h : TInv ov n s G) (f : Nat → Nat) : TInv ov n { s with lo := f } G :=
  ⟨h.srt, h.mem, h.ixle, h.vin, h.ptw, h.dn, h.gr, h.bl, h.up, h.dw, h.p1, h.p2, h.p3, h.mtc, h.sj, h.pl⟩
theorem TExt.with_lo {s t : TS} (h : TExt s t) {a : Nat} (h0 : s.ix a = 0) (v : Nat) : TExt s { t with lo := updN t.lo a v } := by
  refine ⟨fun x hx => ⟨(h.e1 x hx).1, ?_⟩, h.e2, h.e3, h.e4, h.e5⟩
  show updN t.lo a v x = s.lo x
  have hxa : x ≠ a := fun he => hx (by rw [he]; exact h0)
  rw [updN_other _ _ hxa]; exact (h.e1 x hx).2
/-- Old threads, new threads. -/
theorem mid_old {s t : TS} {G : List Nat} {a : Nat} {D : List Nat} (hs : TInv ov n s G) (hm : TMid ov n s G a D t) {x : Nat} (hx : x ∈ s.st) : t.ix x = s.ix x ∧ t.ix x < t.ix a ∧ x ∈ t.st := by
  have h1 := ((hs.mem x).1 hx).1
  have h2 := (hm.ext.e1 x h1).1
  have h3 := hs.ixle x
  obtain ⟨new, h4, _⟩ := hm.ext.e3
  exact ⟨h2, by rw [h2, hm.ia]; omega, by rw [h4, List.mem_append]; exact .inl hx⟩
theorem mid_new {s t : TS} {G : List Nat} {a : Nat} {D : List Nat} (hm : TMid ov n s G a D t) {x : Nat} (hx : x ∈ t.st) (hn : ¬ x ∈ s.st) : t.ix a ≤ t.ix x := by
  obtain ⟨new, h4, h5⟩ := hm.ext.e3
  rw [h4, List.mem_append] at hx
  rcases hx with hx | hx
  · exact absurd hx hn
  · have h6 := h5 x hx
    have h7 := ((hm.inv.mem x).1 (by rw [h4, List.mem_append]; exact .inr hx)).1
    have h8 := hm.ext.e5 x h6 h7
    rw [hm.ia]; omega
theorem mid_low {s t : TS} {G : List Nat} {a : Nat} {D : List Nat} (hs : TInv ov n s G) (hm : TMid ov n s G a D t) : t.lo a ≤ t.ix a := by
  obtain ⟨y, hy, h1, _⟩ := hm.low
  rw [h1]
  rcases hy with hy | rfl
  · exact Nat.le_of_lt (mid_old hs hm hy).2.1
  · exact Nat.le_refl _
/-- A thread below a on the stack is an old one. -/
theorem mid_below {s t : TS} {G : List Nat} {a : Nat} {D : List Nat} (hm : TMid ov n s G a D t) {x : Nat} (hx : x ∈ t.st) (hlt : t.ix x < t.ix a) : x ∈ s.st :=
  Classical.byContradiction fun hn => by have := mid_new hm hx hn; omega
theorem mid_edge {s t : TS} {G : List Nat} {a : Nat} {D : List Nat} {v : TS → Nat → TS} (hs : TInv ov n s G) (h0 : s.ix a = 0) (hm : TMid ov n s G a D t) {b : Nat} (hb : b ∈ ov a) (hv : t.ix b = 0 → TPost ov n t (a :: G) b (v t b)) : TMid ov n s G a (D ++ [b]) (tEdge v a t b) := by
  have hia0 : t.ix a ≠ 0 := by rw [hm.ia]; omega
  have hat : a ∈ t.st := by obtain ⟨new, h⟩ := hm.st; rw [h]; simp
  have has : ¬ a ∈ s.st := fun h => ((hs.mem a).1 h).1 h0
  have hll := mid_low hs hm
  unfold tEdge
  by_cases hb0 : t.ix b = 0
  · rw [if_pos hb0]
    have P := hv hb0
    generalize v t b = t1 at P
    have hla : t1.lo a = t.lo a := (P.ext.e1 a hia0).2
    have hia1 : t1.ix a = t.ix a := (P.ext.e1 a hia0).1
    refine ⟨P.inv.with_lo _, (hm.ext.trans P.ext).with_lo h0 _, ?_, ?_, ?_, fun y hy => ?_, fun x y hx hxs hy hys hD => ?_⟩
    · show t1.ix a = s.mt + 1
      rw [hia1, hm.ia]
    · obtain ⟨n1, k1⟩ := hm.st
      obtain ⟨n2, k2, _⟩ := P.ext.e3
      exact ⟨n1 ++ n2, by show t1.st = _; rw [k2, k1]; simp⟩
    · show ∃ y, (y ∈ s.st ∨ y = a) ∧ updN t1.lo a (min (t1.lo a) (t1.lo b)) a = t1.ix y ∧ Wy ov a y
      rw [updN_same, hla]
      by_cases hmin : t.lo a ≤ t1.lo b
      · rw [Nat.min_eq_left hmin]
        obtain ⟨y, hy, k1, k2⟩ := hm.low
        refine ⟨y, hy, ?_, k2⟩
        rw [k1]
        have : t.ix y ≠ 0 := by
          rcases hy with hy | rfl
          · rw [(mid_old hs hm hy).1]; exact ((hs.mem y).1 hy).1
          · exact hia0
        exact (P.ext.e1 y this).1.symm
      · rw [Nat.min_eq_right (by omega)]
        rcases P.low with ⟨_, k2⟩ | ⟨y, hy, k1, k2⟩
        · exfalso
          have h1 := hm.inv.ixle a
          have h2 := P.ia
          omega
        · have hys : y ∈ s.st := mid_below hm hy (by omega)
          exact ⟨y, .inl hys, by rw [k1]; exact (P.ext.e1 y ((hm.inv.mem y).1 hy).1).1.symm, .step hb k2⟩
    · show t1.ix y ≠ 0
      rcases List.mem_append.1 hy with hy | hy
      · have := hm.dd y hy
        rw [(P.ext.e1 y this).1]; exact this
      · simp only [List.mem_singleton] at hy
        subst hy
        rw [P.ia]; omega
    · show updN t1.lo a (min (t1.lo a) (t1.lo b)) a ≤ s.ix y
      rw [updN_same, hla]
      have hyt := mid_old hs hm hys
      by_cases hxt : x ∈ t.st
      · have : t.lo a ≤ s.ix y := hm.cr x y hxt hxs hy hys fun hxa => by
          have := hD hxa
          rcases List.mem_append.1 this with h1 | h1
          · exact h1
          · simp only [List.mem_singleton] at h1
            subst h1
            exfalso
            rw [hyt.1] at hb0
            exact ((hs.mem y).1 hys).1 hb0
        omega
      · have := P.cr x y hx hxt hy hyt.2.2
        rw [hyt.1] at this
        omega
  · rw [if_neg hb0]
    by_cases hp : t.pt b < 0
    · rw [if_pos hp]
      have hbt : b ∈ t.st := (hm.inv.mem b).2 ⟨hb0, hp⟩
      refine ⟨hm.inv.with_lo _, hm.ext.with_lo h0 _, hm.ia, hm.st, ?_, fun y hy => ?_, fun x y hx hxs hy hys hD => ?_⟩
      · show ∃ y, (y ∈ s.st ∨ y = a) ∧ updN t.lo a (min (t.lo a) (t.ix b)) a = t.ix y ∧ Wy ov a y
        rw [updN_same]
        by_cases hmin : t.lo a ≤ t.ix b
        · rw [Nat.min_eq_left hmin]; exact hm.low
        · rw [Nat.min_eq_right (by omega)]
          exact ⟨b, .inl (mid_below hm hbt (by omega)), rfl, .one hb⟩
      · rcases List.mem_append.1 hy with hy | hy
        · exact hm.dd y hy
        · simp only [List.mem_singleton] at hy
          subst hy; exact hb0
      · show updN t.lo a (min (t.lo a) (t.ix b)) a ≤ s.ix y
        rw [updN_same]
        have hyt := mid_old hs hm hys
        by_cases hyb : x = a ∧ y = b
        · obtain ⟨rfl, rfl⟩ := hyb
          rw [hyt.1]; omega
        · have : t.lo a ≤ s.ix y := hm.cr x y hx hxs hy hys fun hxa => by
            rcases List.mem_append.1 (hD hxa) with h1 | h1
            · exact h1
            · simp only [List.mem_singleton] at h1
              exact absurd ⟨hxa, h1⟩ hyb
          omega
    · rw [if_neg hp]
      refine ⟨hm.inv, hm.ext, hm.ia, hm.st, hm.low, fun y hy => ?_, fun x y hx hxs hy hys hD => hm.cr x y hx hxs hy hys fun hxa => ?_⟩
      · rcases List.mem_append.1 hy with hy | hy
        · exact hm.dd y hy
        · simp only [List.mem_singleton] at hy
          subst hy; exact hb0
      · rcases List.mem_append.1 (hD hxa) with h1 | h1
        · exact h1
        · simp only [List.mem_singleton] at h1
          subst h1
          exact absurd (hm.inv.pt_of_mem (mid_old hs hm hys).2.2) hp
end
end Go.Proofs.YtdbpkjanlafajaaGreatDoor

/- Chapter 11: the search from one thread. Plain. -/
set_option linter.unusedSimpArgs false
set_option linter.unusedVariables false
set_option maxRecDepth 100000
namespace Go.Proofs.YtdbpkjanlafajaaGreatDoor
open Go Go.Proofs Go.AW

theorem idxOf_at {s : List Nat} {a : Nat} (h : ¬ a ∈ s) (r : List Nat) : (s ++ a :: r).idxOf a = s.length := by
  rw [List.idxOf_append, if_neg h, List.idxOf_cons_self, Nat.zero_add]
theorem srtN_mem {l : List Nat} {x : Nat} : x ∈ srtN l ↔ x ∈ l := (List.mergeSort_perm l _).mem_iff
theorem srtN_sorted (l : List Nat) : (srtN l).Pairwise (· ≤ ·) := by
  have := List.pairwise_mergeSort (le := fun x y : Nat => decide (x ≤ y)) (fun a b c h1 h2 => by simp at *; omega) (fun a b => by simp; omega) l
  exact this.imp fun h => by simpa using h
theorem srtN_strict {l : List Nat} (hn : l.Nodup) : (srtN l).Pairwise (· < ·) := by
  have h1 := srtN_sorted l
  have h2 : (srtN l).Nodup := (List.mergeSort_perm l _).nodup_iff.2 hn
  refine (h1.and h2).imp fun ⟨a, b⟩ => by omega
section
variable {ov : Nat → List Nat} {n : Nat}
theorem mid_fin {s t : TS} {G : List Nat} {a : Nat} (hs : TInv ov n s G) (h0 : s.ix a = 0) (hm : TMid ov n s G a (ov a) t) : TPost ov n s G a (tFin a t) := by
  have has : ¬ a ∈ s.st := fun h => ((hs.mem a).1 h).1 h0
  obtain ⟨new, hnew⟩ := hm.st
  have hia0 : t.ix a ≠ 0 := by rw [hm.ia]; omega
  have hnd : t.st.Nodup := hm.inv.srt.imp fun h => by rintro rfl; omega
  have hidx : t.st.idxOf a = s.st.length := by rw [hnew, idxOf_at has]
  have hseg : tSeg a t = a :: new := by unfold tSeg; rw [hidx, hnew]; simp
  have hin : ∀ x, x ∈ t.st ↔ x ∈ s.st ∨ x ∈ a :: new := fun x => by rw [hnew, List.mem_append]
  have hdis : ∀ x, x ∈ s.st → ¬ x ∈ a :: new := fun x hx hx2 => by
    rw [hnew] at hnd
    exact (List.nodup_append.1 hnd).2.2 x hx x hx2 rfl
  have hsegst : ∀ x, x ∈ a :: new → x ∈ t.st := fun x hx => (hin x).2 (.inr hx)
  have hGs : ∀ g, g ∈ G → g ∈ s.st := hs.gr
  have hvis : ∀ x y, x ∈ a :: new → y ∈ ov x → t.ix y ≠ 0 := fun x y hx hy => by
    by_cases hxa : x = a
    · subst hxa; exact hm.dd y hy
    · refine hm.inv.bl x y ((hm.inv.mem x).1 (hsegst x hx)).1 (fun hg => ?_) hy
      rcases List.mem_cons.1 hg with h1 | h1
      · exact hxa h1
      · exact hdis x (hGs x h1) hx
  have hlow := mid_low hs hm
  unfold tFin
  by_cases hla : t.lo a = t.ix a
  · rw [if_pos hla]
    -- the segment is a part
    have hK : ∀ x y, (x ∈ a :: new ∨ 0 ≤ t.pt x) → y ∈ ov x → (y ∈ a :: new ∨ 0 ≤ t.pt y) := fun x y hx hy => by
      rcases hx with hx | hx
      · have h1 := hvis x y hx hy
        by_cases hp : t.pt y < 0
        · have hyt : y ∈ t.st := (hm.inv.mem y).2 ⟨h1, hp⟩
          rcases (hin y).1 hyt with h2 | h2
          · exfalso
            have h3 := hm.cr x y (hsegst x hx) (fun h => hdis x h hx) hy h2 (fun hxa => hxa ▸ hy)
            have h4 := mid_old hs hm h2
            omega
          · exact .inl h2
        · exact .inr (by omega)
      · exact .inr (hm.inv.dn x y hx hy).1
    have hKr : ∀ x y, x ∈ a :: new → Wy ov x y → (y ∈ a :: new ∨ 0 ≤ t.pt y) := fun x y hx hr => hr.closed (p := fun x => x ∈ a :: new ∨ 0 ≤ t.pt x) hK (.inl hx)
    have hdr : ∀ x y, 0 ≤ t.pt x → Wy ov x y → 0 ≤ t.pt y := fun x y hx hr => hr.closed (p := fun x => 0 ≤ t.pt x) (fun x y h1 h2 => (hm.inv.dn x y h1 h2).1) hx
    have hax : ∀ x, x ∈ a :: new → Wy ov a x := fun x hx => hm.inv.dw a x (by simp) (hsegst x hx) (mid_new hm (hsegst x hx) (fun h => hdis x h hx))
    have hxa : ∀ x, x ∈ a :: new → Wy ov x a := fun x hx => by
      obtain ⟨g, g1, g2, g3⟩ := hm.inv.up x (hsegst x hx)
      rcases List.mem_cons.1 g1 with rfl | g1
      · exact g3
      · exfalso
        have hgs := hGs g g1
        rcases hKr x g hx g3 with h1 | h1
        · exact hdis g hgs h1
        · have := hm.inv.pt_of_mem (mid_old hs hm hgs).2.2; omega
    have hpneg : ∀ x, x ∈ a :: new → t.pt x < 0 := fun x hx => hm.inv.pt_of_mem (hsegst x hx)
    have hps : ∀ x (k : Nat), t.pt x = (k : Int) → k < t.ps.length := fun x k hk => by
      obtain ⟨l, h1, _⟩ := (hm.inv.p1 x k).1 hk
      exact (List.getElem?_eq_some_iff.1 h1).1
    have hpt : ∀ x, (tPop a t).pt x = if x ∈ a :: new then (t.ps.length : Int) else t.pt x := fun x => by show (if x ∈ tSeg a t then _ else _) = _; rw [hseg]
    have hst : (tPop a t).st = s.st := by show t.st.take _ = _; rw [hidx, hnew]; simp
    have hpp : (tPop a t).ps = t.ps ++ [srtN (a :: new)] := by show t.ps ++ [srtN (tSeg a t)] = _; rw [hseg]
    have hpos : ∀ x, 0 ≤ (tPop a t).pt x ↔ x ∈ a :: new ∨ 0 ≤ t.pt x := fun x => by
      rw [hpt]
      split
      · rename_i h; exact ⟨fun _ => .inl h, fun _ => by omega⟩
      · rename_i h; exact ⟨fun h1 => .inr h1, fun h1 => by rcases h1 with h1 | h1; exact absurd h1 h; exact h1⟩
    refine ⟨⟨?_, fun x => ?_, hm.inv.ixle, hm.inv.vin, fun x hx => ?_, fun x y hx hy => ?_, fun g hg => ?_, fun x y hx hxG hy => ?_, fun x hx => ?_, fun g x hg hx hle => ?_, fun x k => ?_, fun l hl => ?_, fun x y hx => ?_, hm.inv.mtc, ?_, ?_⟩, ⟨hm.ext.e1, fun x hx => ?_, ⟨[], by rw [hst]; simp, fun x hx => by cases hx⟩, hm.ext.e4, hm.ext.e5⟩, hm.ia, .inl ⟨?_, hla⟩, fun x y hx hxs => ?_⟩
    · rw [hst]
      refine List.Pairwise.imp_of_mem (fun {x y} hx hy hlt => ?_) hs.srt
      show t.ix x < t.ix y
      rw [(mid_old hs hm hx).1, (mid_old hs hm hy).1]; exact hlt
    · rw [hst]
      show x ∈ s.st ↔ t.ix x ≠ 0 ∧ (tPop a t).pt x < 0
      constructor
      · intro hx
        have h1 := (hm.inv.mem x).1 (mid_old hs hm hx).2.2
        refine ⟨h1.1, ?_⟩
        rw [hpt, if_neg (hdis x hx)]; exact h1.2
      · rintro ⟨h1, h2⟩
        have h3 : ¬ (x ∈ a :: new ∨ 0 ≤ t.pt x) := fun h => by have := (hpos x).2 h; omega
        have h4 : x ∈ t.st := (hm.inv.mem x).2 ⟨h1, Classical.byContradiction fun h => h3 (.inr (by omega))⟩
        rcases (hin x).1 h4 with h5 | h5
        · exact h5
        · exact absurd (.inl h5) h3
    · rcases (hpos x).1 hx with h1 | h1
      · exact ((hm.inv.mem x).1 (hsegst x h1)).1
      · exact hm.inv.ptw x h1
    · have h1 := hK x y ((hpos x).1 hx) hy
      refine ⟨(hpos y).2 h1, ?_⟩
      rw [hpt x, hpt y]
      by_cases hys : y ∈ a :: new
      · rw [if_pos hys]
        by_cases hxs : x ∈ a :: new
        · rw [if_pos hxs]; exact Int.le_refl _
        · exfalso
          rcases (hpos x).1 hx with h2 | h2
          · exact hxs h2
          · have := (hm.inv.dn x y h2 hy).1
            have := hpneg y hys; omega
      · rw [if_neg hys]
        have hy0 : 0 ≤ t.pt y := by rcases h1 with h1 | h1; exact absurd h1 hys; exact h1
        by_cases hxs : x ∈ a :: new
        · rw [if_pos hxs]
          have := hps y (t.pt y).toNat (by omega)
          omega
        · rw [if_neg hxs]
          rcases (hpos x).1 hx with h2 | h2
          · exact absurd h2 hxs
          · exact (hm.inv.dn x y h2 hy).2
    · rw [hst]; exact hGs g hg
    · by_cases hxa : x = a
      · subst hxa; exact hm.dd y hy
      · exact hm.inv.bl x y hx (fun h => by rcases List.mem_cons.1 h with h1 | h1; exact hxa h1; exact hxG h1) hy
    · rw [hst] at hx
      obtain ⟨g, g1, g2, g3⟩ := hs.up x hx
      refine ⟨g, g1, ?_, g3⟩
      show t.ix g ≤ t.ix x
      rw [(mid_old hs hm hx).1, (mid_old hs hm (hGs g g1)).1]; exact g2
    · rw [hst] at hx
      have hle' : t.ix g ≤ t.ix x := hle
      rw [(mid_old hs hm hx).1, (mid_old hs hm (hGs g hg)).1] at hle'
      exact hs.dw g x hg hx hle'
    · rw [hpt, hpp]
      split
      · rename_i h
        constructor
        · intro hk
          have : k = t.ps.length := by omega
          subst this
          exact ⟨_, by rw [List.getElem?_append_right (Nat.le_refl _)]; simp, srtN_mem.2 h⟩
        · rintro ⟨l, h1, h2⟩
          by_cases hk : k < t.ps.length
          · rw [List.getElem?_append_left hk] at h1
            have := (hm.inv.p1 x k).2 ⟨l, h1, h2⟩
            have := hpneg x h; omega
          · have := (List.getElem?_eq_some_iff.1 h1).1
            simp at this; omega
      · rename_i h
        rw [hm.inv.p1]
        constructor
        · rintro ⟨l, h1, h2⟩
          exact ⟨l, by rw [List.getElem?_append_left (List.getElem?_eq_some_iff.1 h1).1]; exact h1, h2⟩
        · rintro ⟨l, h1, h2⟩
          by_cases hk : k < t.ps.length
          · rw [List.getElem?_append_left hk] at h1; exact ⟨l, h1, h2⟩
          · rw [List.getElem?_append_right (by omega)] at h1
            have h3 := (List.getElem?_eq_some_iff.1 h1).1
            have h4 : k - t.ps.length = 0 := by simp at h3; omega
            rw [h4] at h1
            simp at h1
            subst h1
            exact absurd (srtN_mem.1 h2) h
    · rw [hpp, List.mem_append] at hl
      rcases hl with hl | hl
      · exact hm.inv.p2 l hl
      · simp only [List.mem_singleton] at hl
        subst hl
        refine ⟨fun h => ?_, srtN_strict ?_⟩
        · have : a ∈ srtN (a :: new) := srtN_mem.2 (by simp)
          rw [h] at this; cases this
        · rw [hnew] at hnd; exact (List.nodup_append.1 hnd).2.1
    · rcases (hpos x).1 hx with hxs | hxd
      · rw [hpt x, if_pos hxs, hpt y]
        constructor
        · intro h1
          have hys : y ∈ a :: new := by
            refine Classical.byContradiction fun h => ?_
            rw [if_neg h] at h1
            have := hps y _ h1; omega
          exact ⟨(hxa x hxs).trans (hax y hys), (hxa y hys).trans (hax x hxs)⟩
        · rintro ⟨h1, h2⟩
          rcases hKr x y hxs h1 with h3 | h3
          · rw [if_pos h3]
          · have := hdr y x h3 h2
            have := hpneg x hxs; omega
      · have hxn : ¬ x ∈ a :: new := fun h => by have := hpneg x h; omega
        rw [hpt x, if_neg hxn, hpt y]
        obtain ⟨k, hk⟩ : ∃ k : Nat, t.pt x = k := ⟨(t.pt x).toNat, by omega⟩
        have hk2 := hps x k hk
        constructor
        · intro h1
          by_cases hys : y ∈ a :: new
          · rw [if_pos hys] at h1; omega
          · rw [if_neg hys] at h1
            exact (hm.inv.p3 x y hxd).1 h1
        · intro h1
          have h2 := (hm.inv.p3 x y hxd).2 h1
          have hys : ¬ y ∈ a :: new := fun h => by have := hpneg y h; omega
          rw [if_neg hys]; exact h2
    · have h1 := hm.inv.sj
      show ((tPop a t).st).length + (tSeg a t ++ t.jk).length ≤ t.mt
      rw [hst, hseg, List.length_append]
      have h2 : t.st.length = s.st.length + (a :: new).length := by rw [hnew, List.length_append]
      omega
    · have h1 := hm.inv.pl
      show ((tPop a t).ps).length + ((tPop a t).st).length ≤ t.mt
      rw [hst, hpp, List.length_append, List.length_singleton]
      have h2 : t.st.length = s.st.length + (a :: new).length := by rw [hnew, List.length_append]
      have h3 : (a :: new).length = new.length + 1 := List.length_cons
      omega
    · have h1 := hm.ext.e2 x hx
      rw [hpt, if_neg (fun h => by have := hpneg x h; omega)]; exact h1
    · exact (hpos a).2 (.inl (by simp))
    · rw [hst] at hx; exact absurd hx hxs
  · rw [if_neg hla]
    obtain ⟨y, hy, l1, l2⟩ := hm.low
    have hys : y ∈ s.st := by
      rcases hy with hy | rfl
      · exact hy
      · exact absurd l1 hla
    have hyt := mid_old hs hm hys
    refine ⟨⟨hm.inv.srt, hm.inv.mem, hm.inv.ixle, hm.inv.vin, hm.inv.ptw, hm.inv.dn, fun g hg => hm.inv.gr g (by simp [hg]), fun x z hx hxG hz => ?_, fun x hx => ?_, fun g x hg => hm.inv.dw g x (by simp [hg]), hm.inv.p1, hm.inv.p2, hm.inv.p3, hm.inv.mtc, hm.inv.sj, hm.inv.pl⟩, hm.ext, hm.ia, .inr ⟨y, hys, by rw [l1, hyt.1], l2⟩, fun x z hx hxs hz hzs => hm.cr x z hx hxs hz hzs fun hxa => hxa ▸ hz⟩
    · by_cases hxa : x = a
      · subst hxa; exact hm.dd z hz
      · exact hm.inv.bl x z hx (fun h => by rcases List.mem_cons.1 h with h1 | h1; exact hxa h1; exact hxG h1) hz
    · obtain ⟨g, g1, g2, g3⟩ := hm.inv.up x hx
      rcases List.mem_cons.1 g1 with rfl | g1
      · obtain ⟨g', k1, k2, k3⟩ := hs.up y hys
        refine ⟨g', k1, ?_, (g3.trans l2).trans k3⟩
        rw [(mid_old hs hm (hGs g' k1)).1]
        have := hyt.2.1
        have := hyt.1
        omega
      · exact ⟨g, g1, g2, g3⟩
/-- The search from a, when j of the threads over it are through. -/
def tAt (ov : Nat → List Nat) (k a : Nat) (s : TS) (j : Nat) : TS := ((ov a).take j).foldl (tEdge (tVis ov k) a) (tEnter s a)
theorem tAt_succ {ov : Nat → List Nat} {k a : Nat} {s : TS} {j b : Nat} (h : (ov a)[j]? = some b) : tAt ov k a s (j + 1) = tEdge (tVis ov k) a (tAt ov k a s j) b := by
  unfold tAt
  rw [List.take_add_one, h, Option.toList_some, List.foldl_append]; rfl
theorem tAt_all (ov : Nat → List Nat) (k a : Nat) (s : TS) : tAt ov k a s (ov a).length = (ov a).foldl (tEdge (tVis ov k) a) (tEnter s a) := by unfold tAt; rw [List.take_length]
theorem mid_at {k : Nat} (hV : ∀ x y, x < n → y ∈ ov x → y < n) (ih : ∀ (s : TS) (G : List Nat) (a : Nat), TInv ov n s G → a < n → s.ix a = 0 → (∀ g, g ∈ G → Wy ov g a) → unvT n s ≤ k → TPost ov n s G a (tVis ov k s a))
    {s : TS} {G : List Nat} {a : Nat} (hs : TInv ov n s G) (ha : a < n) (h0 : s.ix a = 0) (hG : ∀ g, g ∈ G → Wy ov g a) (hk : unvT n s ≤ k + 1) : ∀ j, j ≤ (ov a).length → TMid ov n s G a ((ov a).take j) (tAt ov k a s j) ∧ unvT n (tAt ov k a s j) ≤ k
  | 0, _ => by
    have := unv_enter ha h0
    exact ⟨mid_start hs ha h0 hG, by show unvT n (tEnter s a) ≤ k; omega⟩
  | j + 1, hj => by
    obtain ⟨h2, h3⟩ := mid_at hV ih hs ha h0 hG hk j (by omega)
    have hb' : (ov a)[j]? = some (ov a)[j] := List.getElem?_eq_getElem (by omega)
    have hb : (ov a)[j] ∈ ov a := List.getElem_mem _
    have hv : (tAt ov k a s j).ix (ov a)[j] = 0 → TPost ov n (tAt ov k a s j) (a :: G) (ov a)[j] (tVis ov k (tAt ov k a s j) (ov a)[j]) := fun hb0 => ih _ (a :: G) _ h2.inv (hV a _ ha hb) hb0 (fun g hg => by
      rcases List.mem_cons.1 hg with rfl | hg
      · exact .one hb
      · exact (hG g hg).trans (.one hb)) h3
    rw [tAt_succ hb', List.take_add_one, hb', Option.toList_some]
    refine ⟨mid_edge hs h0 h2 hb hv, ?_⟩
    unfold tEdge
    split
    · rename_i hb0
      exact Nat.le_trans (unv_mono (s := tAt ov k a s j) fun x hx => by
        show (tVis ov k (tAt ov k a s j) (ov a)[j]).ix x ≠ 0
        rw [((hv hb0).ext.e1 x hx).1]; exact hx) h3
    · split
      · exact h3
      · exact h3
theorem tVis_post (hV : ∀ x y, x < n → y ∈ ov x → y < n) : ∀ (k : Nat) (s : TS) (G : List Nat) (a : Nat), TInv ov n s G → a < n → s.ix a = 0 → (∀ g, g ∈ G → Wy ov g a) → unvT n s ≤ k → TPost ov n s G a (tVis ov k s a)
  | 0, s, G, a, hs, ha, h0, hG, hk => by have := unv_enter ha h0; omega
  | k + 1, s, G, a, hs, ha, h0, hG, hk => by
    have := (mid_at hV (fun s G a => tVis_post hV k s G a) hs ha h0 hG hk (ov a).length (Nat.le_refl _)).1
    rw [List.take_length, tAt_all] at this
    exact mid_fin hs h0 this
end
end Go.Proofs.YtdbpkjanlafajaaGreatDoor

/- Chapter 11: all parts, and their order. Plain. -/
set_option linter.unusedSimpArgs false
set_option linter.unusedVariables false
set_option maxRecDepth 100000
namespace Go.Proofs.YtdbpkjanlafajaaGreatDoor
open Go Go.Proofs Go.AW

theorem incN_ext (a b : List Nat) (ha : a.Pairwise (· < ·)) (hb : b.Pairwise (· < ·)) (h : ∀ x, x ∈ a ↔ x ∈ b) : a = b := by
  have hm : a.map (fun n : Nat => (n : Int)) = b.map (fun n : Nat => (n : Int)) := by
    refine sinc_ext _ _ (List.pairwise_map.2 (ha.imp (fun h => by omega))) (List.pairwise_map.2 (hb.imp (fun h => by omega))) fun x => ?_
    rw [List.mem_map, List.mem_map]
    exact ⟨fun ⟨y, h1, h2⟩ => ⟨y, (h y).1 h1, h2⟩, fun ⟨y, h1, h2⟩ => ⟨y, (h y).2 h1, h2⟩⟩
  have := congrArg (List.map Int.toNat) hm
  simpa [List.map_map, Function.comp_def] using this
def tZero : TS := ⟨fun _ => 0, fun _ => 0, fun _ => -1, [], [], 0, []⟩
/-- The search from the first i threads. -/
def tAll (ov : Nat → List Nat) (n : Nat) : Nat → TS
  | 0 => tZero
  | i + 1 => if (tAll ov n i).ix i = 0 then tVis ov n (tAll ov n i) i else tAll ov n i
section
variable {ov : Nat → List Nat} {n : Nat}
theorem tZero_inv : TInv ov n tZero [] := by
  refine ⟨List.Pairwise.nil, fun x => ⟨(fun h => by cases h), fun h => absurd rfl h.1⟩, fun x => Nat.le_refl _, fun x h => absurd rfl h, fun x h => ?_, fun x y h => ?_, (fun g h => by cases h), fun x y h => absurd rfl h, (fun x h => by cases h), (fun g x h => by cases h), fun x k => ?_, (fun l h => by cases h), fun x y h => ?_, ?_, Nat.le_refl _, Nat.le_refl _⟩
  · simp [tZero] at h
  · simp [tZero] at h
  · constructor
    · intro h
      have : (-1 : Int) = (k : Int) := h
      omega
    · rintro ⟨l, h, _⟩
      simp [tZero] at h
  · simp [tZero] at h
  · show 0 + (List.range n).countP (fun x => decide ((0 : Nat) = 0)) = n
    simp
theorem tAll_inv (hV : ∀ x y, x < n → y ∈ ov x → y < n) : ∀ i, i ≤ n → TInv ov n (tAll ov n i) [] ∧ ∀ x, x < i → (tAll ov n i).ix x ≠ 0
  | 0, _ => ⟨tZero_inv, fun x h => by omega⟩
  | i + 1, hi => by
    obtain ⟨h1, h2⟩ := tAll_inv hV i (by omega)
    unfold tAll
    split
    · rename_i h0
      have hP := tVis_post hV n (tAll ov n i) [] i h1 (by omega) h0 (fun g hg => by cases hg) (by unfold unvT; exact Nat.le_trans List.countP_le_length (by simp))
      refine ⟨hP.inv, fun x hx => ?_⟩
      by_cases hxi : x = i
      · subst hxi; rw [hP.ia]; omega
      · rw [(hP.ext.e1 x (h2 x (by omega))).1]; exact h2 x (by omega)
    · rename_i h0
      refine ⟨h1, fun x hx => ?_⟩
      by_cases hxi : x = i
      · subst hxi; exact h0
      · exact h2 x (by omega)
end
/-- What the search tells: parts, and the part of each thread. -/
structure Scc (ov : Nat → List Nat) (n : Nat) (ps : List (List Nat)) (pt : Nat → Int) : Prop where
  all : ∀ x, x < n → 0 ≤ pt x
  p1 : ∀ x (k : Nat), pt x = (k : Int) ↔ ∃ l, ps[k]? = some l ∧ x ∈ l
  p2 : ∀ l, l ∈ ps → l ≠ [] ∧ l.Pairwise (· < ·)
  p3 : ∀ x y, 0 ≤ pt x → (pt y = pt x ↔ Wy ov x y ∧ Wy ov y x)
  dn : ∀ x y, 0 ≤ pt x → y ∈ ov x → 0 ≤ pt y ∧ pt y ≤ pt x
  lt : ∀ x, 0 ≤ pt x → x < n
theorem tAll_scc {ov : Nat → List Nat} {n : Nat} (hV : ∀ x y, x < n → y ∈ ov x → y < n) : Scc ov n (tAll ov n n).ps (tAll ov n n).pt := by
  obtain ⟨h1, h2⟩ := tAll_inv hV n (Nat.le_refl _)
  refine ⟨fun x hx => ?_, h1.p1, h1.p2, h1.p3, h1.dn, fun x hx => h1.vin x (h1.ptw x hx)⟩
  refine Classical.byContradiction fun hn => ?_
  obtain ⟨g, hg, _⟩ := h1.up x ((h1.mem x).2 ⟨h2 x hx, by omega⟩)
  cases hg

/-! ### the order of the parts -/
section
variable {n : Nat} (hd : Nat → Nat → Bool)
/-- A thread that may come next: none that holds it is left, but those of its part. -/
def cnd (n : Nat) (L : Nat → Bool) (a : Nat) : Bool := !L a && (List.range n).all fun b => !hd a b || L b || hd b a
def mtl (n : Nat) (a : Nat) : List Nat := (List.range n).filter fun b => hd a b && hd b a
/-- The parts, as the reference lists them. -/
def lsP (n : Nat) : Nat → (Nat → Bool) → List (List Nat)
  | 0, _ => []
  | k + 1, L => match (List.range n).find? (cnd hd n L) with
    | none => []
    | some a => mtl hd n a :: lsP n k fun b => L b || (hd a b && hd b a)
end
/-- The first element. -/
def hdL (l : List Nat) : Nat := l.getD 0 0
/-- The best of the first i. -/
def btr (ps : List (List Nat)) (o : Option Nat) (i : Nat) : Bool := match o with
  | none => true
  | some p => decide (hdL (ps.getD i []) < hdL (ps.getD p []))
def bstP (ps : List (List Nat)) (cd : Nat → Bool) : Nat → Option Nat
  | 0 => none
  | i + 1 => if (cd i && btr ps (bstP ps cd i) i) = true then some i else bstP ps cd i
theorem bstP_none {ps : List (List Nat)} {cd : Nat → Bool} : ∀ {i : Nat}, bstP ps cd i = none → ∀ p, p < i → cd p = false
  | 0, _, p, h => by omega
  | i + 1, h, p, hp => by
    unfold bstP at h
    by_cases hc : (cd i && btr ps (bstP ps cd i) i) = true
    · rw [if_pos hc] at h; cases h
    · rw [if_neg hc] at h
      have ih := bstP_none h
      rw [h] at hc
      by_cases hpi : p = i
      · subst hpi; simpa [btr] using hc
      · exact ih p (by omega)
theorem bstP_some {ps : List (List Nat)} {cd : Nat → Bool} : ∀ {i p : Nat}, bstP ps cd i = some p → p < i ∧ cd p = true ∧ ∀ q, q < i → cd q = true → hdL (ps.getD p []) ≤ hdL (ps.getD q [])
  | 0, p, h => by cases h
  | i + 1, p, h => by
    unfold bstP at h
    by_cases hc : (cd i && btr ps (bstP ps cd i) i) = true
    · rw [if_pos hc] at h
      simp only [Option.some.injEq] at h
      subst h
      rw [Bool.and_eq_true] at hc
      refine ⟨by omega, hc.1, fun q hq hcq => ?_⟩
      by_cases hqi : q = i
      · subst hqi; exact Nat.le_refl _
      · cases hb : bstP ps cd i with
        | none =>
          have := bstP_none hb q (by omega)
          rw [hcq] at this; cases this
        | some r =>
          have h2 := hc.2
          rw [hb] at h2
          have h2' : hdL (ps.getD i []) < hdL (ps.getD r []) := by simpa [btr] using h2
          have := (bstP_some hb).2.2 q (by omega) hcq
          omega
    · rw [if_neg hc] at h
      obtain ⟨h1, h2, h3⟩ := bstP_some h
      refine ⟨by omega, h2, fun q hq hcq => ?_⟩
      by_cases hqi : q = i
      · subst hqi
        rw [hcq, h] at hc
        have : ¬ hdL (ps.getD q []) < hdL (ps.getD p []) := by simpa [btr] using hc
        omega
      · exact h3 q (by omega) hcq
/-- One of the other part lies over one of this part. -/
def lies (ov : Nat → List Nat) (pt : Nat → Int) (p q : Nat) : Prop := p ≠ q ∧ ∃ x y, pt x = (p : Int) ∧ pt y = (q : Int) ∧ y ∈ ov x
section
variable {ov : Nat → List Nat} {n : Nat} {ps : List (List Nat)} {pt : Nat → Int} (S : Scc ov n ps pt) {hd : Nat → Nat → Bool} (hhd : ∀ a b, a < n → b < n → (hd a b = true ↔ Wy ov a b))
include S hhd
theorem Scc.part_is {p : Nat} {a : Nat} (ha : a < n) (hp : pt a = (p : Int)) : ps.getD p [] = mtl hd n a := by
  obtain ⟨l, h1, h2⟩ := (S.p1 a p).1 hp
  have hl := S.p2 l (List.mem_of_getElem? h1)
  rw [List.getD_eq_getElem?_getD, h1, Option.getD_some]
  refine incN_ext _ _ hl.2 (List.Pairwise.filter _ List.pairwise_lt_range) fun x => ?_
  rw [mtl, List.mem_filter, List.mem_range, Bool.and_eq_true]
  constructor
  · intro hx
    have hpx : pt x = (p : Int) := (S.p1 x p).2 ⟨l, h1, hx⟩
    have hxn : x < n := S.lt x (by omega)
    have := (S.p3 a x (by omega)).1 (by rw [hpx, hp])
    exact ⟨hxn, (hhd a x ha hxn).2 this.1, (hhd x a hxn ha).2 this.2⟩
  · rintro ⟨hxn, k1, k2⟩
    have := (S.p3 a x (by omega)).2 ⟨(hhd a x ha hxn).1 k1, (hhd x a hxn ha).1 k2⟩
    obtain ⟨l', g1, g2⟩ := (S.p1 x p).1 (this.trans hp)
    rw [h1] at g1; cases g1; exact g2
/-- Which parts may come next is seen from their threads. -/
theorem Scc.cnd_iff {D L : Nat → Bool} (hL : ∀ b (q : Nat), pt b = (q : Int) → L b = D q) (hcl : ∀ p q, D p = true → lies ov pt p q → D q = true) {a p : Nat} (ha : a < n) (hp : pt a = (p : Int)) :
    cnd hd n L a = true ↔ D p = false ∧ ∀ q, lies ov pt p q → D q = true := by
  have hpart : ∀ b, b < n → ∃ q : Nat, pt b = (q : Int) := fun b hb => ⟨(pt b).toNat, by have := S.all b hb; omega⟩
  unfold cnd
  rw [Bool.and_eq_true, List.all_eq_true, hL a p hp]
  simp only [Bool.not_eq_true']
  refine and_congr_right fun hDp => ⟨fun h q hq => ?_, fun h b hb => ?_⟩
  · obtain ⟨hpq, x, y, hx, hy, hxy⟩ := hq
    have hxn : x < n := S.lt x (by omega)
    have hyn : y < n := S.lt y (by omega)
    have hax := (S.p3 a x (by omega)).1 (by rw [hx, hp])
    have h1 := h y (List.mem_range.2 hyn)
    rw [(hhd a y ha hyn).2 (hax.1.trans (.one hxy)), hL y q hy] at h1
    cases hq : D q with
    | true => rfl
    | false =>
      rw [hq] at h1
      have h2 : hd y a = true := by simpa using h1
      have := (S.p3 a y (by omega)).2 ⟨hax.1.trans (.one hxy), (hhd y a hyn ha).1 h2⟩
      rw [hy, hp] at this
      omega
  · have hbn := List.mem_range.1 hb
    cases hab : hd a b with
    | false => rfl
    | true =>
      have hw := (hhd a b ha hbn).1 hab
      have hc : 0 ≤ pt b ∧ (pt b = (p : Int) ∨ ∀ q : Nat, pt b = (q : Int) → D q = true) := by
        refine hw.closed (p := fun x => 0 ≤ pt x ∧ (pt x = (p : Int) ∨ ∀ q : Nat, pt x = (q : Int) → D q = true)) (fun x y hx hy => ?_) ⟨by omega, .inl hp⟩
        obtain ⟨hx0, hx⟩ := hx
        have hy0 := (S.dn x y hx0 hy).1
        refine ⟨hy0, ?_⟩
        obtain ⟨r, hr⟩ : ∃ r : Nat, pt x = (r : Int) := ⟨(pt x).toNat, by omega⟩
        by_cases hyp : pt y = (p : Int)
        · exact .inl hyp
        · refine .inr fun q hq => ?_
          rcases hx with hx | hx
          · exact h q ⟨fun e => hyp (by rw [hq, e]), x, y, hx, hq, hy⟩
          · by_cases hrq : r = q
            · subst hrq; exact hx r hr
            · exact hcl r q (hx r hr) ⟨hrq, x, y, hr, hq, hy⟩
      rcases hc.2 with h1 | h1
      · have := (S.p3 a b (by omega)).1 (by rw [h1, hp])
        rw [(hhd b a hbn ha).2 this.2]; simp
      · obtain ⟨q, hq⟩ := hpart b hbn
        rw [hL b q hq, h1 q hq]; simp
/-- The part that comes next is the one of the first thread that may. -/
theorem Scc.next_is {D L : Nat → Bool} (hL : ∀ b (q : Nat), pt b = (q : Int) → L b = D q) (hcl : ∀ p q, D p = true → lies ov pt p q → D q = true) {cd : Nat → Bool} (hcd : ∀ p, p < ps.length → (cd p = true ↔ D p = false ∧ ∀ q, lies ov pt p q → D q = true)) {p : Nat} (hb : bstP ps cd ps.length = some p) :
    ∃ a, a < n ∧ pt a = (p : Int) ∧ (List.range n).find? (cnd hd n L) = some a := by
  obtain ⟨hp, h1, h2⟩ := bstP_some hb
  have hget : ∀ q, q < ps.length → ∃ x r, ps[q]? = some (x :: r) ∧ hdL (ps.getD q []) = x ∧ pt x = (q : Int) ∧ ∀ y, pt y = (q : Int) → x ≤ y := fun q hq => by
    have e1 : ps[q]? = some ps[q] := List.getElem?_eq_getElem hq
    have e2 := S.p2 ps[q] (List.getElem_mem hq)
    obtain ⟨x, r, hx⟩ : ∃ x r, ps[q] = x :: r := by cases h : ps[q] with | nil => exact absurd h e2.1 | cons x r => exact ⟨x, r, rfl⟩
    rw [hx] at e1 e2
    refine ⟨x, r, e1, by rw [List.getD_eq_getElem?_getD, e1]; rfl, (S.p1 x q).2 ⟨_, e1, by simp⟩, fun y hy => ?_⟩
    obtain ⟨l, k1, k2⟩ := (S.p1 y q).1 hy
    rw [e1] at k1; cases k1
    rcases List.mem_cons.1 k2 with rfl | k2
    · exact Nat.le_refl _
    · exact Nat.le_of_lt ((List.pairwise_cons.1 e2.2).1 y k2)
  obtain ⟨x, r, k1, k2, k3, k4⟩ := hget p hp
  have hxn : x < n := S.lt x (by omega)
  refine ⟨x, hxn, k3, ?_⟩
  have hcx : cnd hd n L x = true := (S.cnd_iff hhd hL hcl hxn k3).2 ((hcd p hp).1 h1)
  rw [List.find?_eq_some_iff_append]
  refine ⟨hcx, List.range x, (List.range' (x + 1) (n - (x + 1))), ?_, fun y hy => ?_⟩
  · rw [List.range_eq_range', List.range_eq_range', show n = x + (n - (x + 1) + 1) by omega, ← List.range'_append_1, List.range'_succ]
    simp
    omega
  · rw [List.mem_range] at hy
    cases hcy : cnd hd n L y with
    | false => rfl
    | true =>
      exfalso
      have hyn : y < n := by omega
      obtain ⟨q, hq⟩ : ∃ q : Nat, pt y = (q : Int) := ⟨(pt y).toNat, by have := S.all y hyn; omega⟩
      have hql : q < ps.length := by obtain ⟨l, g1, _⟩ := (S.p1 y q).1 hq; exact (List.getElem?_eq_some_iff.1 g1).1
      have := (hcd q hql).2 ((S.cnd_iff hhd hL hcl hyn hq).1 hcy)
      have h3 := h2 q hql this
      obtain ⟨x', r', j1, j2, j3, j4⟩ := hget q hql
      have := j4 y hq
      omega
end
end Go.Proofs.YtdbpkjanlafajaaGreatDoor

/- Chapter 11: what each part waits for, and the order that comes of it. Plain. -/
set_option linter.unusedSimpArgs false
set_option linter.unusedVariables false
set_option maxRecDepth 100000
namespace Go.Proofs.YtdbpkjanlafajaaGreatDoor
open Go Go.Proofs Go.AW

/-- How many parts each one waits for, and which ones wait for it. -/
structure GSt where
  w : Nat → Nat
  f : Nat → List Nat
def gStep (s : GSt) (p q : Nat) : GSt := if p ≠ q ∧ ¬ p ∈ s.f q then ⟨updN s.w p (s.w p + 1), updN s.f q (s.f q ++ [p])⟩ else s
structure GInv (m : Nat) (R : Nat → Nat → Prop) (s : GSt) : Prop where
  g1 : ∀ p q, p ∈ s.f q ↔ p ≠ q ∧ R p q
  g2 : ∀ q, (s.f q).Nodup
  g3 : ∀ p, s.w p = (List.range m).countP fun q => decide (p ∈ s.f q)
theorem gInv_zero (m : Nat) : GInv m (fun _ _ => False) ⟨fun _ => 0, fun _ => []⟩ :=
  ⟨fun p q => ⟨(fun h => by cases h), fun h => h.2.elim⟩, fun q => List.nodup_nil, fun p => by simp⟩
theorem gStep_inv {m : Nat} {R : Nat → Nat → Prop} {s : GSt} (h : GInv m R s) {p q : Nat} (hq : q < m) : GInv m (fun x y => R x y ∨ (x = p ∧ y = q)) (gStep s p q) := by
  unfold gStep
  by_cases hc : p ≠ q ∧ ¬ p ∈ s.f q
  · rw [if_pos hc]
    have hf : ∀ x y, x ∈ updN s.f q (s.f q ++ [p]) y ↔ x ∈ s.f y ∨ (x = p ∧ y = q) := fun x y => by
      by_cases hy : y = q
      · subst hy; rw [updN_same]; simp
      · rw [updN_other _ _ hy]; simp [hy]
    refine ⟨fun x y => ?_, fun y => ?_, fun x => ?_⟩
    · rw [hf, h.g1]
      constructor
      · rintro (⟨h1, h2⟩ | ⟨rfl, rfl⟩)
        · exact ⟨h1, .inl h2⟩
        · exact ⟨hc.1, .inr ⟨rfl, rfl⟩⟩
      · rintro ⟨h1, h2 | h2⟩
        · exact .inl ⟨h1, h2⟩
        · exact .inr h2
    · show (updN s.f q (s.f q ++ [p]) y).Nodup
      by_cases hy : y = q
      · subst hy
        rw [updN_same]
        refine List.nodup_append.2 ⟨h.g2 y, by simp, fun a ha b hb => ?_⟩
        simp only [List.mem_singleton] at hb
        subst hb
        rintro rfl
        exact hc.2 ha
      · rw [updN_other _ _ hy]; exact h.g2 y
    · show updN s.w p (s.w p + 1) x = (List.range m).countP fun y => decide (x ∈ updN s.f q (s.f q ++ [p]) y)
      by_cases hx : x = p
      · subst hx
        rw [updN_same, h.g3]
        refine (countP_one hq (fun y hy => ?_) ?_ ?_).symm
        · rw [decide_eq_decide, hf]; simp [hy]
        · simpa using hc.2
        · simp [hf]
      · rw [updN_other _ _ hx, h.g3]
        refine List.countP_congr fun y _ => ?_
        simp only [decide_eq_true_eq]
        rw [hf]; simp [hx]
  · rw [if_neg hc]
    refine ⟨fun x y => ?_, h.g2, h.g3⟩
    rw [h.g1]
    constructor
    · rintro ⟨h1, h2⟩; exact ⟨h1, .inl h2⟩
    · rintro ⟨h1, h2 | ⟨rfl, rfl⟩⟩
      · exact ⟨h1, h2⟩
      · have : x ∈ s.f y := Classical.byContradiction fun hn => hc ⟨h1, hn⟩
        exact (h.g1 x y).1 this
theorem GInv.congr {m : Nat} {R R' : Nat → Nat → Prop} {s : GSt} (h : GInv m R s) (hr : ∀ p q, R p q ↔ R' p q) : GInv m R' s := ⟨fun p q => by rw [h.g1, hr], h.g2, h.g3⟩
/-- All that wait for a part wait for one less. -/
def wDec (w : Nat → Nat) (l : List Nat) : Nat → Nat := l.foldl (fun w r => updN w r (w r - 1)) w
theorem wDec_get : ∀ {l : List Nat} {w : Nat → Nat} (h : l.Nodup) (r : Nat), wDec w l r = if r ∈ l then w r - 1 else w r
  | [], w, _, r => by simp [wDec]
  | x :: l, w, h, r => by
    rw [List.nodup_cons] at h
    show wDec (updN w x (w x - 1)) l r = _
    rw [wDec_get h.2]
    by_cases hrx : r = x
    · subst hrx
      rw [if_neg h.1, updN_same, if_pos (by simp)]
    · rw [updN_other _ _ hrx]
      simp [hrx]
/-- What holds while the parts are listed; k of them are. -/
structure OInv (ov : Nat → List Nat) (n : Nat) (ps : List (List Nat)) (pt : Nat → Int) (F : Nat → List Nat) (k : Nat) (w : Nat → Nat) (D : Nat → Bool) : Prop where
  o1 : ∀ p, w p = (List.range ps.length).countP fun q => !D q && decide (p ∈ F q)
  o2 : ∀ p q, D p = true → lies ov pt p q → D q = true
  o3 : (List.range ps.length).countP D = k
theorem Scc.lies_lt {ov : Nat → List Nat} {n : Nat} {ps : List (List Nat)} {pt : Nat → Int} (S : Scc ov n ps pt) {p q : Nat} (h : lies ov pt p q) : q < p ∧ p < ps.length := by
  obtain ⟨hpq, x, y, hx, hy, hxy⟩ := h
  have := (S.dn x y (by omega) hxy).2
  obtain ⟨l, h1, _⟩ := (S.p1 x p).1 hx
  exact ⟨by omega, (List.getElem?_eq_some_iff.1 h1).1⟩
def cdW (w : Nat → Nat) (D : Nat → Bool) (p : Nat) : Bool := !D p && decide (w p = 0)
section
variable {ov : Nat → List Nat} {n : Nat} {ps : List (List Nat)} {pt : Nat → Int} (S : Scc ov n ps pt) {F : Nat → List Nat} (hF : ∀ p q, p ∈ F q ↔ lies ov pt p q) (hFn : ∀ q, (F q).Nodup)
include S hF
theorem OInv.cd_iff {k : Nat} {w : Nat → Nat} {D : Nat → Bool} (O : OInv ov n ps pt F k w D) {p : Nat} : cdW w D p = true ↔ D p = false ∧ ∀ q, lies ov pt p q → D q = true := by
  unfold cdW
  rw [Bool.and_eq_true, decide_eq_true_eq, O.o1, List.countP_eq_zero]
  simp only [Bool.not_eq_true', List.mem_range]
  refine and_congr_right fun _ => ⟨fun h q hq => ?_, fun h q hq => ?_⟩
  · have h1 := S.lies_lt hq
    have := h q (by omega)
    simp only [Bool.and_eq_true, Bool.not_eq_true', decide_eq_true_eq, not_and] at this
    cases hD : D q with
    | true => rfl
    | false => exact absurd ((hF p q).2 hq) (this hD)
  · simp only [Bool.and_eq_true, Bool.not_eq_true', decide_eq_true_eq, not_and]
    intro hD hpq
    have := h q ((hF p q).1 hpq)
    rw [hD] at this; cases this
theorem OInv.some {k : Nat} {w : Nat → Nat} {D : Nat → Bool} (O : OInv ov n ps pt F k w D) (hk : k < ps.length) : ∃ p, bstP ps (cdW w D) ps.length = some p := by
  cases hb : bstP ps (cdW w D) ps.length with
  | some p => exact ⟨p, rfl⟩
  | none =>
    exfalso
    have hno := bstP_none hb
    have key : ∀ p, p < ps.length → D p = true := by
      intro p
      induction p using Nat.strongRecOn with
      | ind p ih =>
        intro hp
        refine Classical.byContradiction fun hD => ?_
        have hD' : D p = false := by simpa using hD
        have : cdW w D p = true := (O.cd_iff S hF).2 ⟨hD', fun q hq => by
          have := S.lies_lt hq
          exact ih q this.1 (by omega)⟩
        rw [hno p hp] at this; cases this
    have : (List.range ps.length).countP D = ps.length := by
      rw [List.countP_eq_length.2 (fun x hx => key x (List.mem_range.1 hx))]; simp
    have := O.o3; omega
include hFn
theorem OInv.next {k : Nat} {w : Nat → Nat} {D : Nat → Bool} (O : OInv ov n ps pt F k w D) {p : Nat} (hb : bstP ps (cdW w D) ps.length = .some p) : OInv ov n ps pt F (k + 1) (wDec w (F p)) (updN D p true) := by
  obtain ⟨hp, h1, _⟩ := bstP_some hb
  obtain ⟨hD, hl⟩ := (O.cd_iff S hF).1 h1
  refine ⟨fun r => ?_, fun x q hx hq => ?_, ?_⟩
  · rw [wDec_get (hFn p), O.o1]
    by_cases hr : r ∈ F p
    · rw [if_pos hr]
      have := countP_one (m := ps.length) hp (f := fun q => !updN D p true q && decide (r ∈ F q)) (g := fun q => !D q && decide (r ∈ F q)) (fun x hx => by simp only [updN_other _ _ hx]) (by simp [updN_same]) (by simp [hD, hr])
      omega
    · rw [if_neg hr]
      refine List.countP_congr fun q _ => ?_
      by_cases hqp : q = p
      · subst hqp; simp [hr]
      · rw [updN_other _ _ hqp]
  · by_cases hqp : q = p
    · subst hqp; exact updN_same _ _ _
    · rw [updN_other _ _ hqp]
      by_cases hxp : x = p
      · subst hxp; exact hl q hq
      · rw [updN_other _ _ hxp] at hx; exact O.o2 x q hx hq
  · rw [countP_one (m := ps.length) hp (f := D) (g := updN D p true) (fun x hx => (updN_other _ _ hx).symm) hD (updN_same _ _ _), O.o3]
end
/-- One part after the other, as the reference lists them. -/
theorem lsP_step {ov : Nat → List Nat} {n : Nat} {ps : List (List Nat)} {pt : Nat → Int} (S : Scc ov n ps pt) {hd : Nat → Nat → Bool} (hhd : ∀ a b, a < n → b < n → (hd a b = true ↔ Wy ov a b)) {F : Nat → List Nat} (hF : ∀ p q, p ∈ F q ↔ lies ov pt p q) {k : Nat} {w : Nat → Nat} {D L : Nat → Bool} (O : OInv ov n ps pt F k w D) (hL : ∀ b (q : Nat), pt b = (q : Int) → L b = D q) {p : Nat} (hb : bstP ps (cdW w D) ps.length = some p) (f : Nat) :
    ∃ L' : Nat → Bool, (∀ b (q : Nat), pt b = (q : Int) → L' b = updN D p true q) ∧ lsP hd n (f + 1) L = ps.getD p [] :: lsP hd n f L' := by
  obtain ⟨a, ha, hpa, hfind⟩ := S.next_is hhd hL O.o2 (fun p _ => O.cd_iff S hF) hb
  refine ⟨fun b => L b || (hd a b && hd b a), fun b q hq => ?_, ?_⟩
  · have hbn : b < n := S.lt b (by omega)
    have hm : (hd a b && hd b a) = true ↔ q = p := by
      rw [Bool.and_eq_true, hhd a b ha hbn, hhd b a hbn ha, ← S.p3 a b (by omega), hq, hpa]
      omega
    by_cases hqp : q = p
    · rw [hqp, updN_same]; show (L b || (hd a b && hd b a)) = true; rw [hm.2 hqp]; simp
    · rw [updN_other _ _ hqp]
      show (L b || (hd a b && hd b a)) = D q
      rw [hL b q hq]
      have : (hd a b && hd b a) = false := by
        cases h : (hd a b && hd b a) with
        | false => rfl
        | true => exact absurd (hm.1 h) hqp
      rw [this]; simp
  · rw [S.part_is hhd ha hpa]
    show (match (List.range n).find? (cnd hd n L) with | none => [] | some a => _) = _
    rw [hfind]
theorem lsP_end {hd : Nat → Nat → Bool} {n : Nat} {L : Nat → Bool} (h : ∀ b, b < n → L b = true) (f : Nat) : lsP hd n f L = [] := by
  cases f with
  | zero => rfl
  | succ f =>
    show (match (List.range n).find? (cnd hd n L) with | none => [] | some a => _) = _
    rw [List.find?_eq_none.2 fun x hx => by simp [cnd, h x (List.mem_range.1 hx)]]
/-- There are no more parts than threads. -/
theorem Scc.len_le {ov : Nat → List Nat} {n : Nat} {ps : List (List Nat)} {pt : Nat → Int} (S : Scc ov n ps pt) : ps.length ≤ n := by
  have hx : ∀ p, p < ps.length → ∃ x, pt x = (p : Int) ∧ x < n := fun p hp => by
    have e2 := S.p2 ps[p] (List.getElem_mem hp)
    obtain ⟨x, r, hx⟩ : ∃ x r, ps[p] = x :: r := by cases h : ps[p] with | nil => exact absurd h e2.1 | cons x r => exact ⟨x, r, rfl⟩
    have h1 : pt x = (p : Int) := (S.p1 x p).2 ⟨_, List.getElem?_eq_getElem hp, by rw [hx]; simp⟩
    exact ⟨x, h1, S.lt x (by omega)⟩
  have hsub : ∀ m, m ≤ ps.length → m ≤ ((List.range n).filter fun x => decide (pt x < (m : Int))).length := by
    intro m
    induction m with
    | zero => intro _; omega
    | succ m ih =>
      intro hm
      have h1 := ih (by omega)
      obtain ⟨x, h2, h3⟩ := hx m (by omega)
      rw [← List.countP_eq_length_filter] at h1 ⊢
      have h4 : (List.range n).countP (fun x => decide (pt x < (m : Int))) < (List.range n).countP (fun x => decide (pt x < ((m + 1 : Nat) : Int))) :=
        countP_lt (a := x) (List.mem_range.2 h3) (fun y hy => by simp only [decide_eq_true_eq] at hy ⊢; omega) (by simp [h2]) (by simp [h2]; omega)
      omega
  have := hsub ps.length (Nat.le_refl _)
  have h2 := List.length_filter_le (fun x => decide (pt x < (ps.length : Int))) (List.range n)
  simp at h2
  omega
end Go.Proofs.YtdbpkjanlafajaaGreatDoor

/- Which threads lie over which: lists of rows that grow. -/
set_option linter.unusedSimpArgs false
set_option linter.unusedVariables false
set_option maxRecDepth 100000
namespace Go.Proofs.YtdbpkjanlafajaaGreatDoor
open Go Go.Proofs Go.AW

/-- Growing rows in slots; their objects from the k-th on. -/
def gws (k : Nat) (rs : List (List Int)) : List AVal := rs.mapIdx fun a r => gw true (k + a) (ints r)
def gos (rs : List (List Int)) : List AObj := rs.map fun r => go 3 (ints r)
theorem gws_len (k : Nat) (rs : List (List Int)) : (gws k rs).length = rs.length := by simp [gws]
theorem gos_len (rs : List (List Int)) : (gos rs).length = rs.length := by simp [gos]
theorem gws_at {k : Nat} {rs : List (List Int)} {a : Nat} (ha : a < rs.length) : ((gws k rs).drop a)[0]? = some (gw true (k + a) (ints (rs.getD a []))) := by
  rw [List.getElem?_drop, Nat.add_zero, gws, List.getElem?_mapIdx, List.getElem?_eq_getElem ha, List.getD_eq_getElem?_getD, List.getElem?_eq_getElem ha]; rfl
theorem gws_set (k : Nat) (rs : List (List Int)) (a : Nat) (r : List Int) : (gws k rs).set a (gw true (k + a) (ints r)) = gws k (rs.set a r) := by
  apply List.ext_getElem
  · simp [gws]
  intro i h1 h2
  rw [List.getElem_set]
  simp only [gws, List.getElem_mapIdx, List.getElem_set]
  by_cases h : a = i
  · subst h; simp
  · simp [h]
theorem gos_at {rs : List (List Int)} {a : Nat} (ha : a < rs.length) : (gos rs)[a]? = some (go 3 (ints (rs.getD a []))) := by
  rw [gos, List.getElem?_map, List.getElem?_eq_getElem ha, List.getD_eq_getElem?_getD, List.getElem?_eq_getElem ha]; rfl
theorem gos_set (rs : List (List Int)) (a : Nat) (r : List Int) : (gos rs).set a (go 3 (ints r)) = gos (rs.set a r) := by simp [gos, List.map_set]

section
variable {o0 o1 o2 o3 o4 : AObj} {rB rA : List (List Int)} {n a : Nat}
theorem h5_atB (ha : a < rB.length) : (o0 :: o1 :: o2 :: o3 :: o4 :: (gos rB ++ gos rA))[5 + a]? = some (go 3 (ints (rB.getD a []))) := by
  rw [show 5 + a = a + 5 by omega]
  simp only [List.getElem?_cons_succ]
  rw [List.getElem?_append_left (by rw [gos_len]; exact ha), gos_at ha]
theorem h5_atA (hn : rB.length = n) (ha : a < rA.length) : (o0 :: o1 :: o2 :: o3 :: o4 :: (gos rB ++ gos rA))[5 + n + a]? = some (go 3 (ints (rA.getD a []))) := by
  rw [show 5 + n + a = n + a + 5 by omega]
  simp only [List.getElem?_cons_succ]
  rw [List.getElem?_append_right (by rw [gos_len]; omega), gos_len, hn, show n + a - n = a by omega, gos_at ha]
theorem h5_setB (ha : a < rB.length) (r : List Int) : (o0 :: o1 :: o2 :: o3 :: o4 :: (gos rB ++ gos rA)).set (5 + a) (go 3 (ints r)) = o0 :: o1 :: o2 :: o3 :: o4 :: (gos (rB.set a r) ++ gos rA) := by
  rw [show 5 + a = a + 5 by omega]
  simp only [List.set_cons_succ]
  rw [List.set_append_left _ _ (by rw [gos_len]; exact ha), gos_set]
theorem h5_setA (hn : rB.length = n) (r : List Int) : (o0 :: o1 :: o2 :: o3 :: o4 :: (gos rB ++ gos rA)).set (5 + n + a) (go 3 (ints r)) = o0 :: o1 :: o2 :: o3 :: o4 :: (gos rB ++ gos (rA.set a r)) := by
  rw [show 5 + n + a = n + a + 5 by omega]
  simp only [List.set_cons_succ]
  rw [List.set_append_right _ _ (by rw [gos_len]; omega), gos_len, hn, show n + a - n = a by omega, gos_set]
end

theorem WL_nil : ∀ (m k : Nat) (f : Nat → Nat), WL (List.replicate m (.cap0 true)) ((List.range m).map fun a => .res (f (k + a)))
  | 0, k, f => .nil
  | m + 1, k, f => by
    rw [List.replicate_succ, List.range_succ_eq_map, List.map_cons, List.map_map]
    refine .cons (.nil _) ?_
    have := WL_nil m (k + 1) f
    have e : ((fun a => AVal.res (f (k + a))) ∘ Nat.succ) = fun a => .res (f (k + 1 + a)) := by funext a; simp only [Function.comp]; congr 2; omega
    rw [e]; exact this
theorem gws_nil (k m : Nat) : gws k (List.replicate m []) = (List.range m).map fun a => .res (k + a) := by
  apply List.ext_getElem
  · simp [gws]
  intro i h1 h2
  simp [gws, gw, ints]
theorem WL_gws (k m : Nat) : WL (List.replicate m (.cap0 true)) (gws k (List.replicate m [])) := by
  rw [gws_nil]
  have := WL_nil m 0 (fun a => k + a)
  simpa using this
theorem gos_nil (m : Nat) : ∀ o ∈ gos (List.replicate m []), o.es = 0 := by
  intro o ho
  simp only [gos, List.mem_map] at ho
  obtain ⟨r, hr, rfl⟩ := ho
  rw [(List.mem_replicate.1 hr).2]; rfl

/-- What lies under a thread (v), or over it (not v), of what has been looked at: x columns, and y cells of the next one. -/
def rowG (v : Bool) (W H : Nat) (l : List Bool) (x y a : Nat) : List Int :=
  if a < W then ((List.range (if a < x then H else if a = x then y else 0)).filter fun j => l.getD (W * j + a) false == v).map fun j => ((W + j : Nat) : Int)
  else ((List.range (if a - W < y then x + 1 else x)).filter fun i => l.getD (W * (a - W) + i) false == !v).map fun i : Nat => (i : Int)
def rowsG (v : Bool) (W H : Nat) (l : List Bool) (x y : Nat) : List (List Int) := (List.range (W + H)).map (rowG v W H l x y)
theorem rowsG_len (v : Bool) (W H : Nat) (l : List Bool) (x y : Nat) : (rowsG v W H l x y).length = W + H := by simp [rowsG]
theorem rowsG_get {v : Bool} {W H : Nat} {l : List Bool} {x y a : Nat} (ha : a < W + H) : (rowsG v W H l x y).getD a [] = rowG v W H l x y a := by
  simp [rowsG, List.getD_eq_getElem?_getD, List.getElem?_range ha]
theorem rowG_le {v : Bool} {W H : Nat} {l : List Bool} {x y a : Nat} (hx : x < W) (hy : y < H) : (rowG v W H l x y a).length ≤ W + H := by
  unfold rowG
  split
  · rw [List.length_map]
    refine Nat.le_trans (List.length_filter_le _ _) ?_
    rw [List.length_range]
    split
    · omega
    · split <;> omega
  · rw [List.length_map]
    refine Nat.le_trans (List.length_filter_le _ _) ?_
    rw [List.length_range]
    split <;> omega
theorem rowG_inc (v : Bool) (W H : Nat) (l : List Bool) (x y a : Nat) : (rowG v W H l x y a).Pairwise (· < ·) := by
  unfold rowG
  split
  · rw [List.pairwise_map]
    refine (List.Pairwise.filter _ List.pairwise_lt_range).imp fun h => by omega
  · rw [List.pairwise_map]
    refine (List.Pairwise.filter _ List.pairwise_lt_range).imp fun h => by omega
theorem rowG_end {v : Bool} {W H : Nat} {l : List Bool} {a : Nat} (hW : W ≤ 64) (hH : H ≤ 64) : (rowG v W H l W 0 a).length ≤ 200 := by
  unfold rowG
  split
  · rw [List.length_map]
    refine Nat.le_trans (List.length_filter_le _ _) ?_
    rw [List.length_range]
    repeat' split
    all_goals omega
  · rw [List.length_map]
    refine Nat.le_trans (List.length_filter_le _ _) ?_
    rw [List.length_range]
    repeat' split
    all_goals omega
theorem rowsG_zero (v : Bool) (W H : Nat) (l : List Bool) : rowsG v W H l 0 0 = List.replicate (W + H) [] := by
  apply List.ext_getElem
  · simp [rowsG]
  intro a h1 h2
  simp [rowsG, rowG]
theorem rowsG_row (v : Bool) (W H : Nat) (l : List Bool) (x : Nat) : rowsG v W H l x H = rowsG v W H l (x + 1) 0 := by
  unfold rowsG
  apply List.map_congr_left
  intro a ha
  have ha : a < W + H := by simpa using ha
  unfold rowG
  by_cases h : a < W
  · rw [if_pos h, if_pos h]
    congr 2
    by_cases h1 : a < x
    · rw [if_pos h1, if_pos (by omega)]
    · rw [if_neg h1]
      by_cases h2 : a = x
      · rw [if_pos h2, if_pos (by omega)]
      · rw [if_neg h2, if_neg (by omega)]; split <;> rfl
  · rw [if_neg h, if_neg h, if_pos (by omega), if_neg (by omega)]
theorem rowsG_step (v : Bool) {W H : Nat} (l : List Bool) {x y : Nat} (hx : x < W) (hy : y < H) (b : Bool) (hb : l.getD (W * y + x) false = b) :
    rowsG v W H l x (y + 1) = (rowsG v W H l x y).set (if b = v then x else W + y) (rowG v W H l x y (if b = v then x else W + y) ++ [if b = v then ((W + y : Nat) : Int) else (x : Int)]) := by
  apply List.ext_getElem
  · simp [rowsG]
  intro a h1 h2
  have ha : a < W + H := by rw [rowsG_len] at h1; exact h1
  rw [List.getElem_set]
  simp only [rowsG, List.getElem_map, List.getElem_range]
  have e1 : a = x → rowG v W H l x (y + 1) a = if b = v then rowG v W H l x y a ++ [((W + y : Nat) : Int)] else rowG v W H l x y a := by
    rintro rfl
    have g2 : ¬ a < a := by omega
    simp only [rowG, if_pos hx, if_neg g2, if_true, List.range_succ, List.filter_append, List.map_append, List.filter_cons, List.filter_nil, hb]
    by_cases hv : b = v
    · subst hv; simp
    · have : (b == v) = false := by simpa using hv
      simp [this, hv]
  have e2 : a = W + y → rowG v W H l x (y + 1) a = if b = v then rowG v W H l x y a else rowG v W H l x y a ++ [(x : Int)] := by
    rintro rfl
    have g1 : ¬ W + y < W := by omega
    have e3 : W + y - W = y := by omega
    have g2 : y < y + 1 := by omega
    have g3 : ¬ y < y := by omega
    simp only [rowG, if_neg g1, e3, if_pos g2, if_neg g3, List.range_succ, List.filter_append, List.map_append, List.filter_cons, List.filter_nil, hb]
    by_cases hv : b = v
    · subst hv; cases b <;> simp
    · have : b = !v := by cases b <;> cases v <;> simp_all
      subst this
      simp
  have e3 : a ≠ x → a ≠ W + y → rowG v W H l x (y + 1) a = rowG v W H l x y a := by
    intro g1 g2
    unfold rowG
    by_cases h : a < W
    · rw [if_pos h, if_pos h, if_neg g1, if_neg g1]
    · rw [if_neg h, if_neg h]
      congr 3
      by_cases h3 : a - W < y
      · rw [if_pos h3, if_pos (by omega)]
      · rw [if_neg h3, if_neg (by omega)]
  by_cases hv : b = v
  · simp only [if_pos hv] at *
    by_cases g : x = a
    · rw [if_pos g, e1 g.symm, g]
    · rw [if_neg g]
      by_cases g2 : a = W + y
      · exact e2 g2
      · exact e3 (fun h => g h.symm) g2
  · simp only [if_neg hv] at *
    by_cases g : W + y = a
    · rw [if_pos g, e2 g.symm, g]
    · rw [if_neg g]
      by_cases g2 : a = x
      · exact e1 g2
      · exact e3 g2 (fun h => g h.symm)
end Go.Proofs.YtdbpkjanlafajaaGreatDoor

/- The library's sort and compaction, as this program bears them. -/
set_option linter.unusedVariables false
namespace Go.Proofs
open Go.Shelf
def Tryz.lays189_ren : Go.Shelf.Ren := ⟨fun | 189 => 36 | 125 => 55 | 257 => 54 | 128 => 84 | 129 => 85 | 294 => 75 | 295 => 76 | 296 => 77 | 297 => 78 | 298 => 79 | 299 => 80 | 216 => 81 | 300 => 82 | 301 => 83 | 328 => 101 | 329 => 102 | 330 => 103 | 331 => 104 | 332 => 105 | 215 => 106 | 343 => 117 | n => n, fun | 28 => 25 | 3 => 3 | 46 => 86 | 0 => 0 | 51 => 122 | 53 => 124 | 4 => 4 | 183 => 115 | 182 => 114 | 131 => 119 | 5 => 5 | 9 => 9 | 218 => 145 | 222 => 149 | 228 => 160 | 229 => 161 | n => n, fun | n => n⟩
theorem Tryz.lays189 : Go.Proofs.Lays.n189 Tryz.prog Tryz.lays189_ren := {
  mixed := by kernel_rfl
  f125 := Tryz.func55.trans (congrArg some (by kernel_rfl))
  f128 := Tryz.func84.trans (congrArg some (by kernel_rfl))
  f129 := Tryz.func85.trans (congrArg some (by kernel_rfl))
  f189 := Tryz.func36.trans (congrArg some (by kernel_rfl))
  f215 := Tryz.func106.trans (congrArg some (by kernel_rfl))
  f216 := Tryz.func81.trans (congrArg some (by kernel_rfl))
  f257 := Tryz.func54.trans (congrArg some (by kernel_rfl))
  f294 := Tryz.func75.trans (congrArg some (by kernel_rfl))
  f295 := Tryz.func76.trans (congrArg some (by kernel_rfl))
  f296 := Tryz.func77.trans (congrArg some (by kernel_rfl))
  f297 := Tryz.func78.trans (congrArg some (by kernel_rfl))
  f298 := Tryz.func79.trans (congrArg some (by kernel_rfl))
  f299 := Tryz.func80.trans (congrArg some (by kernel_rfl))
  f300 := Tryz.func82.trans (congrArg some (by kernel_rfl))
  f301 := Tryz.func83.trans (congrArg some (by kernel_rfl))
  f328 := Tryz.func101.trans (congrArg some (by kernel_rfl))
  f329 := Tryz.func102.trans (congrArg some (by kernel_rfl))
  f330 := Tryz.func103.trans (congrArg some (by kernel_rfl))
  f331 := Tryz.func104.trans (congrArg some (by kernel_rfl))
  f332 := Tryz.func105.trans (congrArg some (by kernel_rfl))
  f343 := Tryz.func117.trans (congrArg some (by kernel_rfl))
  t0 := Tryz.underlying0
  a0 := Tryz.isAgg0
  z0 := Tryz.sizeOf0
  v0 := Tryz.zeroValue0
  t3 := Tryz.underlying3
  a3 := Tryz.isAgg3
  z3 := Tryz.sizeOf3
  v3 := Tryz.zeroValue3
  t4 := Tryz.underlying4
  a4 := Tryz.isAgg4
  z4 := Tryz.sizeOf4
  v4 := Tryz.zeroValue4
  t5 := Tryz.underlying5
  a5 := Tryz.isAgg5
  z5 := Tryz.sizeOf5
  v5 := Tryz.zeroValue5
  t9 := Tryz.underlying9
  a9 := Tryz.isAgg9
  z9 := Tryz.sizeOf9
  v9 := Tryz.zeroValue9
  t28 := Tryz.underlying25
  a28 := Tryz.isAgg25
  z28 := Tryz.sizeOf25
  v28 := Tryz.zeroValue25
  t46 := Tryz.underlying86
  a46 := Tryz.isAgg86
  z46 := Tryz.sizeOf86
  v46 := Tryz.zeroValue86
  t51 := Tryz.underlying122
  a51 := Tryz.isAgg122
  z51 := Tryz.sizeOf122
  v51 := Tryz.zeroValue122
  t53 := Tryz.underlying124
  a53 := Tryz.isAgg124
  z53 := Tryz.sizeOf124
  v53 := Tryz.zeroValue124
  t131 := Tryz.underlying119
  a131 := Tryz.isAgg119
  z131 := Tryz.sizeOf119
  v131 := Tryz.zeroValue119
  t182 := Tryz.underlying114
  a182 := Tryz.isAgg114
  z182 := Tryz.sizeOf114
  v182 := Tryz.zeroValue114
  t183 := Tryz.underlying115
  a183 := Tryz.isAgg115
  z183 := Tryz.sizeOf115
  v183 := Tryz.zeroValue115
  t218 := Tryz.underlying145
  a218 := Tryz.isAgg145
  z218 := Tryz.sizeOf145
  v218 := Tryz.zeroValue145
  t222 := Tryz.underlying149
  a222 := Tryz.isAgg149
  z222 := Tryz.sizeOf149
  v222 := Tryz.zeroValue149
  t228 := Tryz.underlying160
  a228 := Tryz.isAgg160
  z228 := Tryz.sizeOf160
  v228 := Tryz.zeroValue160
  t229 := Tryz.underlying161
  a229 := Tryz.isAgg161
  z229 := Tryz.sizeOf161
  v229 := Tryz.zeroValue161 }
end Go.Proofs

/- Tables for the run of closed code. -/
set_option maxRecDepth 100000
set_option linter.unusedSimpArgs false
namespace Go.Proofs.YtdbpkjanlafajaaGreatDoor
open Go Go.Proofs Go.AW
noncomputable def tabE : List (Nat × EffF) := [(100, effY (effS [] false) undef (fun _ _ _ => False)), (28, effS [48] false [] [] [] (fun _ => true) [] [48]), (40, effS [] false [] [] [21, 24] (fun i => !(i == 0)) [17, 18, 19, 36, 37, 38, 65, 66, 67])] ++ [6, 7, 15, 16, 18, 23, 24, 25, 26, 27, 36, 39, 41, 42, 43, 44, 45, 46, 47, 48, 49, 50, 54, 55, 57, 58, 59, 60, 61, 62, 63, 64, 65, 66, 67, 68, 69, 70, 71, 75, 76, 77, 78, 79, 80, 81, 82, 83, 84, 85, 86, 87, 88, 89, 90, 91, 92, 93, 94, 95, 96, 97, 98, 99, 100, 101, 102, 103, 104, 105, 106, 107, 108, 109, 110, 111, 112, 113, 114, 115, 116, 117, 119, 120, 121, 122, 124, 125, 126, 127, 129, 130, 132].map fun f => (f, effS [] false)
theorem tabE_ok : tabE.all (chkE Tryz.prog) = true := by kernel_rfl
noncomputable def tabS : List (Nat × (Array Value → Sem Value)) := [(123, Extern.BytealgCount.count), (131, Extern.BytealgIndexByte.indexByte)]
noncomputable def xT : XT := ⟨lookE tabE, hasN [36, 48, 54, 66, 67, 70, 75, 76, 77, 78, 82, 83, 86, 87, 96, 99, 101, 107, 116, 49, 71], extE Tryz.prog [118] tabS, noOrc⟩
theorem xExt : ∀ f avs v, extE Tryz.prog [118] tabS f avs = some v → ExtOk Tryz.prog f avs v := extE_ok (fun f hf => by
  simp only [List.mem_cons, List.not_mem_nil, or_false] at hf
  rcases hf with rfl
  · exact ⟨_, Tryz.func118, by kernel_rfl, by kernel_rfl, by kernel_rfl, by kernel_rfl⟩
  ) (fun p hp => by
  simp only [tabS, List.mem_cons, List.not_mem_nil, or_false] at hp
  rcases hp with rfl | rfl
  · exact ⟨_, Tryz.func123, by kernel_rfl, by kernel_rfl, by kernel_rfl, by kernel_rfl⟩
  · exact ⟨_, Tryz.func131, by kernel_rfl, by kernel_rfl, by kernel_rfl, by kernel_rfl⟩
  )
theorem xGood : xT.Good Tryz.prog := XT.good follows tabE_ok xExt noOrc_ok
end Go.Proofs.YtdbpkjanlafajaaGreatDoor

/- Which threads lie over which, by the program. -/
set_option linter.unusedSimpArgs false
set_option linter.unusedVariables false
set_option maxRecDepth 100000
namespace Go.Proofs.YtdbpkjanlafajaaGreatDoor
open Go Go.Proofs Go.AW

theorem apZ_gw (D : Nat → Bool) (k : Nat) (xs : List AVal) (r : Option (AVal × List AObj)) : apZ true D (gw true k xs) r = if D k = true then r else none := by
  cases xs with
  | nil => exact apZ_res D k r
  | cons a t => exact apZ_ref D k 0 _ _ r

theorem cA_any {ty es ext : Nat} {cs : List AVal} (hl : cs.length = ext) : cA (some ⟨ty, es, cs⟩) ext = some cs := by simp [cA, hl]

theorem sX_gw {g : Bool} {h : List AObj} {id a ext ty es : Nat} {cs : List AVal} {bb : Bool} {k : Nat} {xs : List AVal} (hty : ty ≠ 1000003) (hl : cs.length = ext) (hk : a < ext) : sX (some (g, 1)) h id a ext (some ⟨ty, es, cs⟩) (some [gw bb k xs]) = some (h.set id ⟨ty, es, cs.set a (gw bb k xs)⟩) := by
  rw [sX_mk hty, if_pos ⟨hl, rfl, by simp; omega, by simp [one_gw]⟩]; rfl

theorem sort_nil : Contract Tryz.prog 36 [.list false true 0 []] (.tuple []) := Contract.run xGood 200 (by kernel_rfl)

/-- Rows, handed back. -/
def LL (rs : List (List Int)) : List AVal := rs.map fun r => LR r.isEmpty r
theorem gws_res {h : List AObj} {k : Nat} {rs : List (List Int)} (m : Nat) (hh : ∀ a, a < rs.length → h[k + a]? = some (go 3 (ints (rs.getD a [])))) : (gws k rs).map (resOf h (m + 2)) = LL rs := by
  apply List.ext_getElem
  · simp [gws, LL]
  intro a h1 h2
  have ha : a < rs.length := by simpa [LL] using h2
  have hg := hh a ha
  have e : rs.getD a [] = rs[a] := by rw [List.getD_eq_getElem?_getD, List.getElem?_eq_getElem ha]; rfl
  rw [e] at hg
  simp only [gws, LL, List.getElem_map, List.getElem_mapIdx]
  generalize rs[a] = r at *
  cases r with
  | nil => rfl
  | cons x t =>
    have hp : 0 < (ints (x :: t)).length := by simp [ints]
    rw [gw_pos hp]
    rw [go_pos hp] at hg
    simp only [resOf, hg, if_true, List.drop_zero, Nat.mul_one, List.take_length]
    have := ints_res (x :: t) h m
    simp only [this, ints_length]
    rfl

theorem set_self {h : List AObj} {i : Nat} {o : AObj} (ho : h[i]? = some o) : h.set i o = h := by
  obtain ⟨hi, rfl⟩ := List.getElem?_eq_some_iff.1 ho
  exact List.set_getElem_self hi
theorem srt_inc {r : List Int} (h : r.Pairwise (· < ·)) : srt r = r := by
  apply List.mergeSort_of_pairwise
  exact h.imp fun hab => by simp; omega

theorem rX_any {h : List AObj} {m n ty : Nat} {cs : List AVal} (hl : cs.length = n) : rX h m 0 n n (some ⟨ty, 1, cs⟩) = .list true false n (cs.map (resOf h m)) := by
  subst hl
  simp [rX]

theorem newOrder_c {W H n : Nat} (hN : W + H = n) (hW0 : 0 < W) (hH0 : 0 < H) (hW : W ≤ 64) (hH : H ≤ 64) (b : Bool) {l : List Bool} (hn : l.length = W * H) :
    Contract Tryz.prog 31 [GA W H b l] (.agg [.list true false n (LL (rowsG true W H l W 0)), .list true false n (LL (rowsG false W H l W 0))]) := by
  have hWH : W * H ≤ 64 * 64 := Nat.mul_le_mul hW hH
  have hNi : ((W : Int) + (H : Int)).toNat = n := by omega
  have hcell : ofCell (.slice none 0 0) = .cap0 true := rfl
  refine Contract.intro (effS [] false [] [] [4, 48, 51, 60, 63] (fun i => !(i == 4)) [55, 67]) 6 follows Tryz.func31 rfl rfl (by kernel_rfl) (Nat.le_of_ble_eq_true rfl) ?_
  simp (disch := first | assumption | omega | rfl | simp only [RH]) only [↓RP, RG, FX, RQ, ↓reduceIte, Nat.reduceEqDiff, reduceCtorEq, Nat.reduceBEq, Nat.reduceAdd, Nat.reduceLeDiff, args0_1, make_one, hNi, hcell]
  refine loopK_W [1, 2, 3, 4, 21, 22] (fun x : Nat => x ≤ W) (fun x : Nat => ⟨[(1, .ptr 0 0 3), (2, .ptr 1 0 2), (3, I ((W : Int) + (H : Int))), (4, .ptr 4 0 2), (21, I W), (22, I x)], ⟨24, 3, [I W, I H, BA b l]⟩ :: ⟨63, 2, [.cap0 true, .cap0 true]⟩ :: ⟨25, 1, gws 5 (rowsG true W H l x 0)⟩ :: ⟨25, 1, gws (5 + n) (rowsG false W H l x 0)⟩ :: ⟨63, 2, [.ref 2 0 n n, .ref 3 0 n n]⟩ :: (gos (rowsG true W H l x 0) ++ gos (rowsG false W H l x 0))⟩) (fun x => W - x) 0 (by omega) ?_ ?_
  · simp only [↓RP, RG, FX, RQ, ↓reduceIte, Nat.reduceEqDiff, reduceCtorEq, Nat.reduceBEq, Nat.reduceAdd, Nat.reduceLeDiff]
    rw [rowsG_zero, rowsG_zero, hN]
    refine Wk.weak (fun t => .refl _) (.cons _ _ _ _ (WL.refl _) (.cons _ _ _ _ (WL.refl _) (.cons _ _ _ _ (WL_gws 5 n) (.cons _ _ _ _ (WL_gws (5 + n) n) (.cons _ _ _ _ (WL.refl _) (.nil _ ?_))))))
    intro o ho
    rcases List.mem_append.1 ho with h | h <;> exact gos_nil n o h
  intro x hx
  by_cases hlt : x < W
  · simp (disch := first | assumption | omega | rfl | simp only [RH]) only [↓RP, RG, FX, RQ, ↓reduceIte, Nat.reduceEqDiff, reduceCtorEq, Nat.reduceBEq, Nat.reduceAdd, Nat.reduceLeDiff]
    refine loopK_I [1, 2, 3, 4, 5, 21, 22, 26, 27] (fun y : Nat => y ≤ H) (fun y : Nat => ⟨[(1, .ptr 0 0 3), (2, .ptr 1 0 2), (3, I ((W : Int) + (H : Int))), (4, .ptr 4 0 2), (5, I x), (21, I W), (22, I x), (26, I H), (27, I y)], ⟨24, 3, [I W, I H, BA b l]⟩ :: ⟨63, 2, [.cap0 true, .cap0 true]⟩ :: ⟨25, 1, gws 5 (rowsG true W H l x y)⟩ :: ⟨25, 1, gws (5 + n) (rowsG false W H l x y)⟩ :: ⟨63, 2, [.ref 2 0 n n, .ref 3 0 n n]⟩ :: (gos (rowsG true W H l x y) ++ gos (rowsG false W H l x y))⟩) (fun y => H - y) 0 (by omega) (by simp only [↓RP, RG, FX, RQ, ↓reduceIte, Nat.reduceEqDiff, reduceCtorEq, Nat.reduceBEq, Nat.reduceAdd, Nat.reduceLeDiff]; rfl) ?_
    intro y hy
    by_cases hlt2 : y < H
    · have lB := rowsG_len true W H l x y
      have lA := rowsG_len false W H l x y
      have hil := idx_lt hlt hlt2
      have hid := idx_nat W y x
      have hxw : (y : Int) * (W : Int) = ((W * y : Nat) : Int) := by rw [Int.natCast_mul, Int.mul_comm]
      have hwy : W * y ≤ 64 * 64 := Nat.mul_le_mul (by omega) (by omega)
      have hcst : (W : Int) + (y : Int) = ((W + y : Nat) : Int) := by omega
      have hix : (((W * y : Nat) : Int) + (x : Int)).toNat = W * y + x := by omega
      cases hb : l.getD (W * y + x) false with
      | true =>
        have sB := rowsG_step true l hlt hlt2 true hb
        have sA := rowsG_step false l hlt hlt2 true hb
        rw [if_pos rfl, if_pos rfl, ← rowsG_get (by omega)] at sB
        rw [if_neg (by simp), if_neg (by simp), ← rowsG_get (by omega)] at sA
        have zB : ((rowsG true W H l x y).getD x []).length ≤ 200 := by rw [rowsG_get (by omega)]; have := rowG_le (v := true) (l := l) (a := x) hlt hlt2; omega
        have zA : ((rowsG false W H l x y).getD (W + y) []).length ≤ 200 := by rw [rowsG_get (by omega)]; have := rowG_le (v := false) (l := l) (a := W + y) hlt hlt2; omega
        generalize rowsG true W H l x y = rB at *
        generalize rowsG false W H l x y = rA at *
        generalize hB' : rowsG true W H l x (y + 1) = rB' at *
        generalize hA' : rowsG false W H l x (y + 1) = rA' at *
        have lB' : rB'.length = n := by rw [sB, List.length_set]; omega
        have gB : (gws 5 rB).length = n := by rw [gws_len]; omega
        have gA : (gws (5 + n) rA).length = n := by rw [gws_len]; omega
        have gB' : (gws 5 rB').length = n := by rw [gws_len]; omega
        have a1 := gws_at (k := 5) (show x < rB.length by omega)
        have a2 := gws_at (k := 5 + n) (show W + y < rA.length by omega)
        have d1 : (5 + x == 4) = false := beq_eq_false_iff_ne.2 (by omega)
        have d2 : (5 + n + (W + y) == 4) = false := beq_eq_false_iff_ne.2 (by omega)
        have o1 : (⟨24, 3, [I W, I H, BA b l]⟩ :: ⟨63, 2, [.cap0 true, .cap0 true]⟩ :: ⟨25, 1, gws 5 rB⟩ :: ⟨25, 1, gws (5 + n) rA⟩ :: ⟨63, 2, [.ref 2 0 n n, .ref 3 0 n n]⟩ :: (gos rB ++ gos rA))[5 + x]? = some (go 3 (ints (rB.getD x []))) := h5_atB (by omega)
        have t1 : (⟨24, 3, [I W, I H, BA b l]⟩ :: ⟨63, 2, [.cap0 true, .cap0 true]⟩ :: ⟨25, 1, gws 5 rB⟩ :: ⟨25, 1, gws (5 + n) rA⟩ :: ⟨63, 2, [.ref 2 0 n n, .ref 3 0 n n]⟩ :: (gos rB ++ gos rA)).set (5 + x) (go 3 (ints (rB.getD x [] ++ [((W + y : Nat) : Int)]))) = ⟨24, 3, [I W, I H, BA b l]⟩ :: ⟨63, 2, [.cap0 true, .cap0 true]⟩ :: ⟨25, 1, gws 5 rB⟩ :: ⟨25, 1, gws (5 + n) rA⟩ :: ⟨63, 2, [.ref 2 0 n n, .ref 3 0 n n]⟩ :: (gos rB' ++ gos rA) := by rw [h5_setB (by omega), ← sB]
        have p1 : (gws 5 rB).set x (gw true (5 + x) (ints (rB.getD x [] ++ [((W + y : Nat) : Int)]))) = gws 5 rB' := by rw [gws_set, ← sB]
        have o2 : (⟨24, 3, [I W, I H, BA b l]⟩ :: ⟨63, 2, [.cap0 true, .cap0 true]⟩ :: ⟨25, 1, gws 5 rB'⟩ :: ⟨25, 1, gws (5 + n) rA⟩ :: ⟨63, 2, [.ref 2 0 n n, .ref 3 0 n n]⟩ :: (gos rB' ++ gos rA))[5 + n + (W + y)]? = some (go 3 (ints (rA.getD (W + y) []))) := h5_atA lB' (by omega)
        have t2 : (⟨24, 3, [I W, I H, BA b l]⟩ :: ⟨63, 2, [.cap0 true, .cap0 true]⟩ :: ⟨25, 1, gws 5 rB'⟩ :: ⟨25, 1, gws (5 + n) rA⟩ :: ⟨63, 2, [.ref 2 0 n n, .ref 3 0 n n]⟩ :: (gos rB' ++ gos rA)).set (5 + n + (W + y)) (go 3 (ints (rA.getD (W + y) [] ++ [(x : Int)]))) = ⟨24, 3, [I W, I H, BA b l]⟩ :: ⟨63, 2, [.cap0 true, .cap0 true]⟩ :: ⟨25, 1, gws 5 rB'⟩ :: ⟨25, 1, gws (5 + n) rA⟩ :: ⟨63, 2, [.ref 2 0 n n, .ref 3 0 n n]⟩ :: (gos rB' ++ gos rA') := by rw [h5_setA lB', ← sA]
        have p2 : (gws (5 + n) rA).set (W + y) (gw true (5 + n + (W + y)) (ints (rA.getD (W + y) [] ++ [(x : Int)]))) = gws (5 + n) rA' := by rw [gws_set, ← sA]
        simp (disch := first | assumption | omega | rfl | simp only [RH]) only [↓RP, RG, FX, RQ, ↓reduceIte, Nat.reduceEqDiff, reduceCtorEq, Nat.reduceBEq, Nat.reduceAdd, Nat.reduceLeDiff, hxw, hcst, hix, hb, cA_any, a1, a2, apZ_gw, sX_gw, d1, d2, append_int, t1, p1, t2, p2]
        exact ⟨y + 1, by omega, by rw [hB', hA']; rfl, by omega⟩
      | false =>
        have sB := rowsG_step true l hlt hlt2 false hb
        have sA := rowsG_step false l hlt hlt2 false hb
        rw [if_neg (by simp), if_neg (by simp), ← rowsG_get (by omega)] at sB
        rw [if_pos rfl, if_pos rfl, ← rowsG_get (by omega)] at sA
        have zB : ((rowsG true W H l x y).getD (W + y) []).length ≤ 200 := by rw [rowsG_get (by omega)]; have := rowG_le (v := true) (l := l) (a := W + y) hlt hlt2; omega
        have zA : ((rowsG false W H l x y).getD x []).length ≤ 200 := by rw [rowsG_get (by omega)]; have := rowG_le (v := false) (l := l) (a := x) hlt hlt2; omega
        generalize rowsG true W H l x y = rB at *
        generalize rowsG false W H l x y = rA at *
        generalize hB' : rowsG true W H l x (y + 1) = rB' at *
        generalize hA' : rowsG false W H l x (y + 1) = rA' at *
        have lB' : rB'.length = n := by rw [sB, List.length_set]; omega
        have gB : (gws 5 rB).length = n := by rw [gws_len]; omega
        have gA : (gws (5 + n) rA).length = n := by rw [gws_len]; omega
        have gB' : (gws 5 rB').length = n := by rw [gws_len]; omega
        have a1 := gws_at (k := 5) (show W + y < rB.length by omega)
        have a2 := gws_at (k := 5 + n) (show x < rA.length by omega)
        have d1 : (5 + (W + y) == 4) = false := beq_eq_false_iff_ne.2 (by omega)
        have d2 : (5 + n + x == 4) = false := beq_eq_false_iff_ne.2 (by omega)
        have o1 : (⟨24, 3, [I W, I H, BA b l]⟩ :: ⟨63, 2, [.cap0 true, .cap0 true]⟩ :: ⟨25, 1, gws 5 rB⟩ :: ⟨25, 1, gws (5 + n) rA⟩ :: ⟨63, 2, [.ref 2 0 n n, .ref 3 0 n n]⟩ :: (gos rB ++ gos rA))[5 + (W + y)]? = some (go 3 (ints (rB.getD (W + y) []))) := h5_atB (by omega)
        have t1 : (⟨24, 3, [I W, I H, BA b l]⟩ :: ⟨63, 2, [.cap0 true, .cap0 true]⟩ :: ⟨25, 1, gws 5 rB⟩ :: ⟨25, 1, gws (5 + n) rA⟩ :: ⟨63, 2, [.ref 2 0 n n, .ref 3 0 n n]⟩ :: (gos rB ++ gos rA)).set (5 + (W + y)) (go 3 (ints (rB.getD (W + y) [] ++ [(x : Int)]))) = ⟨24, 3, [I W, I H, BA b l]⟩ :: ⟨63, 2, [.cap0 true, .cap0 true]⟩ :: ⟨25, 1, gws 5 rB⟩ :: ⟨25, 1, gws (5 + n) rA⟩ :: ⟨63, 2, [.ref 2 0 n n, .ref 3 0 n n]⟩ :: (gos rB' ++ gos rA) := by rw [h5_setB (by omega), ← sB]
        have p1 : (gws 5 rB).set (W + y) (gw true (5 + (W + y)) (ints (rB.getD (W + y) [] ++ [(x : Int)]))) = gws 5 rB' := by rw [gws_set, ← sB]
        have o2 : (⟨24, 3, [I W, I H, BA b l]⟩ :: ⟨63, 2, [.cap0 true, .cap0 true]⟩ :: ⟨25, 1, gws 5 rB'⟩ :: ⟨25, 1, gws (5 + n) rA⟩ :: ⟨63, 2, [.ref 2 0 n n, .ref 3 0 n n]⟩ :: (gos rB' ++ gos rA))[5 + n + x]? = some (go 3 (ints (rA.getD x []))) := h5_atA lB' (by omega)
        have t2 : (⟨24, 3, [I W, I H, BA b l]⟩ :: ⟨63, 2, [.cap0 true, .cap0 true]⟩ :: ⟨25, 1, gws 5 rB'⟩ :: ⟨25, 1, gws (5 + n) rA⟩ :: ⟨63, 2, [.ref 2 0 n n, .ref 3 0 n n]⟩ :: (gos rB' ++ gos rA)).set (5 + n + x) (go 3 (ints (rA.getD x [] ++ [((W + y : Nat) : Int)]))) = ⟨24, 3, [I W, I H, BA b l]⟩ :: ⟨63, 2, [.cap0 true, .cap0 true]⟩ :: ⟨25, 1, gws 5 rB'⟩ :: ⟨25, 1, gws (5 + n) rA⟩ :: ⟨63, 2, [.ref 2 0 n n, .ref 3 0 n n]⟩ :: (gos rB' ++ gos rA') := by rw [h5_setA lB', ← sA]
        have p2 : (gws (5 + n) rA).set x (gw true (5 + n + x) (ints (rA.getD x [] ++ [((W + y : Nat) : Int)]))) = gws (5 + n) rA' := by rw [gws_set, ← sA]
        simp (disch := first | assumption | omega | rfl | simp only [RH]) only [↓RP, RG, FX, RQ, ↓reduceIte, Nat.reduceEqDiff, reduceCtorEq, Nat.reduceBEq, Nat.reduceAdd, Nat.reduceLeDiff, hxw, hcst, hix, hb, cA_any, a1, a2, apZ_gw, sX_gw, d1, d2, append_int, t1, p1, t2, p2]
        exact ⟨y + 1, by omega, by rw [hB', hA']; rfl, by omega⟩
    · obtain rfl : y = H := by omega
      simp (disch := first | assumption | omega | rfl | simp only [RH]) only [↓RP, RG, FX, RQ, ↓reduceIte, Nat.reduceEqDiff, reduceCtorEq, Nat.reduceBEq, Nat.reduceAdd, Nat.reduceLeDiff]
      exact ⟨x + 1, by omega, by rw [rowsG_row, rowsG_row]; rfl, by omega⟩
  · obtain rfl : x = W := by omega
    simp (disch := first | assumption | omega | rfl | simp only [RH]) only [↓RP, RG, FX, RQ, ↓reduceIte, Nat.reduceEqDiff, reduceCtorEq, Nat.reduceBEq, Nat.reduceAdd, Nat.reduceLeDiff]
    have lB := rowsG_len true x H l x 0
    have lA := rowsG_len false x H l x 0
    have sS : ∀ a, a < n → ((rowsG true x H l x 0).getD a []).Pairwise (· < ·) ∧ ((rowsG true x H l x 0).getD a []).length ≤ 200 := fun a ha => by
      rw [rowsG_get (by omega)]; exact ⟨rowG_inc _ _ _ _ _ _ _, rowG_end (by omega) (by omega)⟩
    generalize rowsG true x H l x 0 = rB at *
    generalize rowsG false x H l x 0 = rA at *
    have gB : (gws 5 rB).length = n := by rw [gws_len]; omega
    have gA : (gws (5 + n) rA).length = n := by rw [gws_len]; omega
    refine loopK_I [1, 2, 4, 74, 75] (fun a : Nat => a ≤ n) (fun a : Nat => ⟨[(1, .ptr 0 0 3), (2, .ptr 1 0 2), (4, .ptr 4 0 2), (74, I ((x : Int) + (H : Int))), (75, I a)], ⟨24, 3, [I x, I H, BA b l]⟩ :: ⟨63, 2, [.cap0 true, .cap0 true]⟩ :: ⟨25, 1, gws 5 rB⟩ :: ⟨25, 1, gws (5 + n) rA⟩ :: ⟨63, 2, [.ref 2 0 n n, .ref 3 0 n n]⟩ :: (gos rB ++ gos rA)⟩) (fun a => n - a) 0 (by omega) (by simp only [↓RP, RG, FX, RQ, ↓reduceIte, Nat.reduceEqDiff, reduceCtorEq, Nat.reduceBEq, Nat.reduceAdd, Nat.reduceLeDiff]; rfl) ?_
    intro a ha
    by_cases hlt3 : a < n
    · have a1 := gws_at (k := 5) (show a < rB.length by omega)
      obtain ⟨s1, s2⟩ := sS a hlt3
      have o1 : (⟨24, 3, [I x, I H, BA b l]⟩ :: ⟨63, 2, [.cap0 true, .cap0 true]⟩ :: ⟨25, 1, gws 5 rB⟩ :: ⟨25, 1, gws (5 + n) rA⟩ :: ⟨63, 2, [.ref 2 0 n n, .ref 3 0 n n]⟩ :: (gos rB ++ gos rA))[5 + a]? = some (go 3 (ints (rB.getD a []))) := h5_atB (by omega)
      simp (disch := first | assumption | omega | rfl | simp only [RH]) only [↓RP, RG, FX, RQ, ↓reduceIte, Nat.reduceEqDiff, reduceCtorEq, Nat.reduceBEq, Nat.reduceAdd, Nat.reduceLeDiff, cA_any, a1]
      generalize rB.getD a [] = ra at *
      cases ra with
      | nil =>
        refine callK_F 6 sort_nil (by rfl) (.inl (by simp [allFresh])) ?_
        simp (disch := first | assumption | omega | rfl | simp only [RH]) only [↓RP, RG, FX, RQ, ↓reduceIte, Nat.reduceEqDiff, reduceCtorEq, Nat.reduceBEq, Nat.reduceAdd, Nat.reduceLeDiff]
        exact ⟨a + 1, by omega, rfl, by omega⟩
      | cons v t =>
        have hp : 0 < (ints (v :: t)).length := by simp [ints]
        rw [gw_pos hp, ints_length]
        rw [go_pos hp] at o1
        refine callK_T rfl (sort_spec (ρ := Tryz.lays189_ren) Tryz.lays189 (by kernel_rfl) (id := 5 + a) o1 (by decide) (n := (v :: t).length) rfl (by omega)) ?_
        rw [srt_inc s1, set_self o1]
        simp (disch := first | assumption | omega | rfl | simp only [RH]) only [↓RP, RG, FX, RQ, ↓reduceIte, Nat.reduceEqDiff, reduceCtorEq, Nat.reduceBEq, Nat.reduceAdd, Nat.reduceLeDiff]
        exact ⟨a + 1, by omega, rfl, by omega⟩
    · obtain rfl : a = n := by omega
      simp (disch := first | assumption | omega | rfl | simp only [RH]) only [↓RP, RG, FX, RQ, ↓reduceIte, Nat.reduceEqDiff, reduceCtorEq, Nat.reduceBEq, Nat.reduceAdd, Nat.reduceLeDiff, cA_any]
      have f1 := gws_res (h := (⟨24, 3, [I x, I H, BA b l]⟩ :: ⟨63, 2, [.ref 2 0 a a, .ref 3 0 a a]⟩ :: ⟨25, 1, gws 5 rB⟩ :: ⟨25, 1, gws (5 + a) rA⟩ :: ⟨63, 2, [.ref 2 0 a a, .ref 3 0 a a]⟩ :: (gos rB ++ gos rA))) (k := 5) (rs := rB) 2 (fun i hi => h5_atB hi)
      have f2 := gws_res (h := (⟨24, 3, [I x, I H, BA b l]⟩ :: ⟨63, 2, [.ref 2 0 a a, .ref 3 0 a a]⟩ :: ⟨25, 1, gws 5 rB⟩ :: ⟨25, 1, gws (5 + a) rA⟩ :: ⟨63, 2, [.ref 2 0 a a, .ref 3 0 a a]⟩ :: (gos rB ++ gos rA))) (k := 5 + a) (rs := rA) 2 (fun i hi => h5_atA (by omega) hi)
      rw [resVal_1 rfl]; simp (disch := first | assumption | omega | rfl | simp only [RH]) only [↓RP, RG, FX, RQ, ↓reduceIte, Nat.reduceEqDiff, reduceCtorEq, Nat.reduceBEq, Nat.reduceAdd, Nat.reduceLeDiff, RS]
      rw [rX_any gB, rX_any gA, f1, f2]
end Go.Proofs.YtdbpkjanlafajaaGreatDoor

/- Which threads lie over which: by one relation. -/
set_option linter.unusedSimpArgs false
set_option linter.unusedVariables false
set_option maxRecDepth 100000
namespace Go.Proofs.YtdbpkjanlafajaaGreatDoor
open Go Go.Proofs Go.AW

/-- Thread a lies over thread b. -/
def ov (W : Nat) (l : List Bool) (a b : Nat) : Bool :=
  if a < W then (if b < W then false else l.getD (W * (b - W) + a) false) else (if b < W then !l.getD (W * (a - W) + b) false else false)
/-- The numbers below n that are wanted. -/
def sel (n : Nat) (p : Nat → Bool) : List Int := ((List.range n).filter p).map fun i : Nat => (i : Int)
theorem sel_inc (n : Nat) (p : Nat → Bool) : (sel n p).Pairwise (· < ·) := by
  unfold sel
  rw [List.pairwise_map]
  exact (List.Pairwise.filter _ List.pairwise_lt_range).imp fun h => by omega
theorem sel_mem {n : Nat} {p : Nat → Bool} {x : Int} : x ∈ sel n p ↔ ∃ i : Nat, i < n ∧ p i = true ∧ x = i := by
  simp only [sel, List.mem_map, List.mem_filter, List.mem_range]
  exact ⟨fun ⟨i, ⟨h1, h2⟩, h3⟩ => ⟨i, h1, h2, h3.symm⟩, fun ⟨i, h1, h2, h3⟩ => ⟨i, ⟨h1, h2⟩, h3.symm⟩⟩
theorem sel_len (n : Nat) (p : Nat → Bool) : (sel n p).length ≤ n := by
  unfold sel
  rw [List.length_map]
  exact Nat.le_trans (List.length_filter_le _ _) (by simp)
theorem sel_split (W H : Nat) (p : Nat → Bool) : sel (W + H) p = sel W p ++ ((List.range H).filter fun j => p (W + j)).map fun j => ((W + j : Nat) : Int) := by
  unfold sel
  rw [List.range_add, List.filter_append, List.map_append, List.filter_map, List.map_map]
  rfl
theorem sel_none {n : Nat} {p : Nat → Bool} (h : ∀ i, i < n → p i = false) : sel n p = [] := by
  unfold sel
  rw [List.filter_eq_nil_iff.2 (fun i hi => by rw [h i (by simpa using hi)]; simp)]
  rfl
theorem rowG_sel {v : Bool} {W H : Nat} {l : List Bool} {a : Nat} (ha : a < W + H) : rowG v W H l W 0 a = sel (W + H) fun b => if v then ov W l a b else ov W l b a := by
  rw [sel_split]
  unfold rowG
  by_cases h : a < W
  · rw [if_pos h, if_pos h, sel_none, List.nil_append]
    · congr 1
      apply List.filter_congr
      intro j hj
      have h1 : ¬ W + j < W := by omega
      have h2 : W + j - W = j := by omega
      cases v
      · simp [ov, h, h1, h2]
      · simp [ov, h, h1, h2]
    · intro i hi
      cases v <;> simp [ov, h, hi]
  · rw [if_neg h, if_neg (by omega)]
    have e2 : ((List.range H).filter fun j => if v = true then ov W l a (W + j) else ov W l (W + j) a) = [] := by
      rw [List.filter_eq_nil_iff]
      intro j hj
      have h1 : ¬ W + j < W := by omega
      cases v <;> simp [ov, h, h1]
    rw [e2, List.map_nil, List.append_nil]
    unfold sel
    congr 1
    apply List.filter_congr
    intro i hi
    have hi : i < W := by simpa using hi
    cases v
    · simp [ov, h, hi]
    · simp [ov, h, hi]
/-- Those that a thread lies over, for each thread; those that lie over it. -/
def bel (W n : Nat) (l : List Bool) : List (List Int) := (List.range n).map fun a => sel n fun b => ov W l a b
def abv (W n : Nat) (l : List Bool) : List (List Int) := (List.range n).map fun a => sel n fun b => ov W l b a
theorem rowsG_bel {W H n : Nat} (hN : W + H = n) (l : List Bool) : rowsG true W H l W 0 = bel W n l ∧ rowsG false W H l W 0 = abv W n l := by
  subst hN
  constructor
  · unfold rowsG bel
    apply List.map_congr_left
    intro a ha
    rw [rowG_sel (by simpa using ha)]; rfl
  · unfold rowsG abv
    apply List.map_congr_left
    intro a ha
    rw [rowG_sel (by simpa using ha)]; rfl
theorem order_c {W H n : Nat} (hN : W + H = n) (hW0 : 0 < W) (hH0 : 0 < H) (hW : W ≤ 64) (hH : H ≤ 64) (b : Bool) {l : List Bool} (hn : l.length = W * H) :
    Contract Tryz.prog 31 [GA W H b l] (.agg [.list true false n (LL (bel W n l)), .list true false n (LL (abv W n l))]) := by
  obtain ⟨h1, h2⟩ := rowsG_bel hN l
  have := newOrder_c hN hW0 hH0 hW hH b hn
  rwa [h1, h2] at this
theorem LL_at {rs : List (List Int)} {a : Nat} (ha : a < rs.length) : ((LL rs).drop a)[0]? = some (LR (rs.getD a []).isEmpty (rs.getD a [])) := by
  rw [List.getElem?_drop, Nat.add_zero, LL, List.getElem?_map, List.getElem?_eq_getElem ha, List.getD_eq_getElem?_getD, List.getElem?_eq_getElem ha]; rfl
theorem abv_get {W n : Nat} {l : List Bool} {a : Nat} (ha : a < n) : (abv W n l).getD a [] = sel n fun b => ov W l b a := by
  simp [abv, List.getD_eq_getElem?_getD, List.getElem?_range ha]
end Go.Proofs.YtdbpkjanlafajaaGreatDoor

/- Does a thread lie over another one? -/
set_option linter.unusedSimpArgs false
set_option linter.unusedVariables false
set_option maxRecDepth 100000
namespace Go.Proofs.YtdbpkjanlafajaaGreatDoor
open Go Go.Proofs Go.AW

end Go.Proofs.YtdbpkjanlafajaaGreatDoor

/- Lists: the place of an element. -/
set_option linter.unusedSimpArgs false
set_option linter.unusedVariables false
set_option maxRecDepth 100000
namespace Go.Proofs.YtdbpkjanlafajaaGreatDoor
open Go Go.Proofs Go.AW

/-- The place of x among the first k elements, or -1: what a search from the front finds. -/
def IsPl (l : List Int) (x : Int) (k : Nat) (r : Int) : Prop := (∃ i : Nat, i < k ∧ l.getD i 0 = x ∧ (∀ j, j < i → l.getD j 0 ≠ x) ∧ r = i) ∨ ((∀ j, j < k → l.getD j 0 ≠ x) ∧ r = -1)

end Go.Proofs.YtdbpkjanlafajaaGreatDoor

/- Lists: do they have each number just once? -/
set_option linter.unusedSimpArgs false
set_option linter.unusedVariables false
set_option maxRecDepth 100000
namespace Go.Proofs.YtdbpkjanlafajaaGreatDoor
open Go Go.Proofs Go.AW

theorem isPl_ex (l : List Int) (x : Int) : ∀ k, ∃ r, IsPl l x k r ∧ (0 ≤ r ↔ ∃ i, i < k ∧ l.getD i 0 = x) := by
  intro k
  induction k with
  | zero => exact ⟨-1, .inr ⟨fun j hj => by omega, rfl⟩, by omega, fun ⟨i, hi, _⟩ => by omega⟩
  | succ k ih =>
    obtain ⟨r, hr, hi⟩ := ih
    rcases hr with ⟨i, h1, h2, h3, h4⟩ | ⟨h1, h2⟩
    · exact ⟨r, .inl ⟨i, by omega, h2, h3, h4⟩, fun _ => ⟨i, by omega, h2⟩, fun _ => by omega⟩
    · by_cases hk : l.getD k 0 = x
      · exact ⟨k, .inl ⟨k, by omega, hk, fun j hj => h1 j hj, rfl⟩, fun _ => ⟨k, by omega, hk⟩, fun _ => by omega⟩
      · refine ⟨-1, .inr ⟨fun j hj => ?_, rfl⟩, by omega, fun ⟨i, h3, h4⟩ => ?_⟩
        · by_cases hjk : j = k
          · subst hjk; exact hk
          · exact h1 j (by omega)
        · by_cases hik : i = k
          · subst hik; exact absurd h4 hk
          · exact absurd h4 (h1 i (by omega))

/-- It is among the elements. -/
def has (l : List Int) (x : Int) : Prop := ∃ i, i < l.length ∧ l.getD i 0 = x
instance (l : List Int) (x : Int) : Decidable (has l x) := by unfold has; infer_instance
end Go.Proofs.YtdbpkjanlafajaaGreatDoor

/- Does a thread lie over another one: both programs. -/
set_option linter.unusedSimpArgs false
set_option linter.unusedVariables false
set_option maxRecDepth 100000
namespace Go.Proofs.YtdbpkjanlafajaaGreatDoor
open Go Go.Proofs Go.AW

theorem index_c (b : Bool) (l : List Int) (x : Int) (hl : l.length ≤ 1000000) (r : Int) (hr : IsPl l x l.length r) : Contract Tryz.prog 69 [LA b l, I x] (I r) := by
  refine Contract.intro (effS [] false) 6 follows Tryz.func69 rfl rfl (by kernel_rfl) (Nat.le_of_ble_eq_true rfl) ?_
  simp (disch := first | assumption | omega | rfl | simp only [RH]) only [↓RP, RG, FX, RQ, ↓reduceIte, Nat.reduceEqDiff, reduceCtorEq, Nat.reduceBEq, Nat.reduceAdd, Nat.reduceLeDiff, args0_2]
  refine loopK_I [0, 1, 7, 8] (fun i : Nat => i ≤ l.length ∧ ∀ j, j < i → l.getD j 0 ≠ x) (fun i : Nat => ⟨[(0, LA b l), (1, I x), (7, I l.length), (8, I i)], []⟩) (fun i => l.length - i) 0 ⟨by omega, fun j hj => by omega⟩ (by simp only [↓RP, RG, FX, RQ, ↓reduceIte, Nat.reduceEqDiff, reduceCtorEq, Nat.reduceBEq, Nat.reduceAdd, Nat.reduceLeDiff]; rfl) ?_
  rintro i ⟨hi, hne⟩
  by_cases hlt : i < l.length
  · by_cases he : x = l.getD i 0
    · simp (disch := first | assumption | omega | rfl | simp only [RH]) only [↓RP, RG, FX, RQ, ↓reduceIte, Nat.reduceEqDiff, reduceCtorEq, Nat.reduceBEq, Nat.reduceAdd, Nat.reduceLeDiff, Int.toNat_natCast]
      rw [resVal_1 rfl]; simp (disch := first | assumption | omega | rfl | simp only [RH]) only [↓RP, RG, FX, RQ, ↓reduceIte, Nat.reduceEqDiff, reduceCtorEq, Nat.reduceBEq, Nat.reduceAdd, Nat.reduceLeDiff, RS]
      rcases hr with ⟨i', h1, h2, h3, rfl⟩ | ⟨h1, rfl⟩
      · have : i' = i := by
          rcases Nat.lt_trichotomy i' i with h | h | h
          · exact absurd h2 (hne i' h)
          · exact h
          · exact absurd he.symm (h3 i h)
        rw [this]
      · exact absurd he.symm (h1 i hlt)
    · simp (disch := first | assumption | omega | rfl | simp only [RH]) only [↓RP, RG, FX, RQ, ↓reduceIte, Nat.reduceEqDiff, reduceCtorEq, Nat.reduceBEq, Nat.reduceAdd, Nat.reduceLeDiff, Int.toNat_natCast]
      refine ⟨i + 1, ⟨by omega, fun j hj => ?_⟩, rfl, by omega⟩
      by_cases hji : j = i
      · subst hji; exact fun h => he h.symm
      · exact hne j (by omega)
  · obtain rfl : i = l.length := by omega
    simp (disch := first | assumption | omega | rfl | simp only [RH]) only [↓RP, RG, FX, RQ, ↓reduceIte, Nat.reduceEqDiff, reduceCtorEq, Nat.reduceBEq, Nat.reduceAdd, Nat.reduceLeDiff]
    rw [resVal_1 rfl]; simp (disch := first | assumption | omega | rfl | simp only [RH]) only [↓RP, RG, FX, RQ, ↓reduceIte, Nat.reduceEqDiff, reduceCtorEq, Nat.reduceBEq, Nat.reduceAdd, Nat.reduceLeDiff, RS]
    rcases hr with ⟨i', h1, h2, h3, rfl⟩ | ⟨h1, rfl⟩
    · exact absurd h2 (hne i' h1)
    · rfl
theorem contains_c (b : Bool) (l : List Int) (x : Int) (hl : l.length ≤ 1000000) : Contract Tryz.prog 50 [LA b l, I x] (B (decide (x ∈ l))) := by
  obtain ⟨r, hr, h⟩ := isPl_ex l x l.length
  have hm : 0 ≤ r ↔ x ∈ l := by
    rw [h]
    constructor
    · rintro ⟨i, hi, e⟩
      rw [← e, List.getD_eq_getElem?_getD, List.getElem?_eq_getElem hi]; exact List.getElem_mem hi
    · intro hx
      obtain ⟨i, hi, e⟩ := List.mem_iff_getElem.1 hx
      exact ⟨i, hi, by rw [List.getD_eq_getElem?_getD, List.getElem?_eq_getElem hi]; exact e⟩
  refine Contract.intro (effS [] false) 6 follows Tryz.func50 rfl rfl (by kernel_rfl) (Nat.le_of_ble_eq_true rfl) ?_
  simp (disch := first | assumption | omega | rfl | simp only [RH]) only [↓RP, RG, FX, RQ, ↓reduceIte, Nat.reduceEqDiff, reduceCtorEq, Nat.reduceBEq, Nat.reduceAdd, Nat.reduceLeDiff, args0_2]
  refine callK_F 6 (index_c b l x hl r hr) (by simp (disch := first | assumption | omega | rfl | simp only [RH]) only [↓RP, RG, FX, RQ, ↓reduceIte, Nat.reduceEqDiff, reduceCtorEq, Nat.reduceBEq, Nat.reduceAdd, Nat.reduceLeDiff, RA] <;> rfl) (.inl (by simp [allFresh, ints_fresh, bools_fresh])) ?_
  by_cases h0 : 0 ≤ r
  · have := hm.1 h0
    simp (disch := first | assumption | omega | rfl | simp only [RH]) only [↓RP, RG, FX, RQ, ↓reduceIte, Nat.reduceEqDiff, reduceCtorEq, Nat.reduceBEq, Nat.reduceAdd, Nat.reduceLeDiff]
    rw [resVal_1 rfl]; simp (disch := first | assumption | omega | rfl | simp only [RH]) only [↓RP, RG, FX, RQ, ↓reduceIte, Nat.reduceEqDiff, reduceCtorEq, Nat.reduceBEq, Nat.reduceAdd, Nat.reduceLeDiff, RS]
    first | done | simp [this]
  · have : x ∉ l := fun h => h0 (hm.2 h)
    simp (disch := first | assumption | omega | rfl | simp only [RH]) only [↓RP, RG, FX, RQ, ↓reduceIte, Nat.reduceEqDiff, reduceCtorEq, Nat.reduceBEq, Nat.reduceAdd, Nat.reduceLeDiff]
    rw [resVal_1 rfl]; simp (disch := first | assumption | omega | rfl | simp only [RH]) only [↓RP, RG, FX, RQ, ↓reduceIte, Nat.reduceEqDiff, reduceCtorEq, Nat.reduceBEq, Nat.reduceAdd, Nat.reduceLeDiff, RS]
    first | done | simp [this]

end Go.Proofs.YtdbpkjanlafajaaGreatDoor

/- A search, step by step. -/
set_option linter.unusedSimpArgs false
set_option linter.unusedVariables false
set_option maxRecDepth 100000
namespace Go.Proofs.YtdbpkjanlafajaaGreatDoor
open Go Go.Proofs Go.AW

/-- The threads next to c, one after the other, are reached from it, if they are not yet. -/
def inner (c : Nat) : List Nat → List Int × List Nat → List Int × List Nat
  | [], s => s
  | b :: r, s => if s.1.getD b 0 < 0 then inner c r (s.1.set b (s.1.getD c 0 + 1), s.2 ++ [b]) else inner c r s
/-- The queue is emptied. -/
def bfs (adj : Nat → List Nat) : Nat → List Int → List Nat → List Int
  | 0, far, _ => far
  | _ + 1, far, [] => far
  | k + 1, far, c :: q => bfs adj k (inner c (adj c) (far, q)).1 (inner c (adj c) (far, q)).2
def neg (far : List Int) : Nat := far.countP fun x => decide (x < 0)
/-- What holds all along. -/
structure Sound (n : Nat) (far : List Int) (q : List Nat) : Prop where
  len : far.length = n
  mem : ∀ c ∈ q, c < n
  low : ∀ i, i < n → -1 ≤ far.getD i 0
  high : ∀ i, i < n → far.getD i 0 + neg far ≤ n
theorem neg_set {far : List Int} {b : Nat} {v : Int} (hb : b < far.length) (h : far.getD b 0 < 0) (hv : 0 ≤ v) : neg (far.set b v) + 1 = neg far := by
  induction far generalizing b with
  | nil => simp at hb
  | cons x r ih =>
    cases b with
    | zero =>
      simp only [List.getD_cons_zero] at h
      simp only [neg, List.set_cons_zero, List.countP_cons]
      simp [h, Int.not_lt.2 hv]
    | succ b =>
      have := ih (b := b) (by simpa using hb) (by simpa using h)
      simp only [neg, List.set_cons_succ, List.countP_cons] at this ⊢
      omega
theorem getD_set' {far : List Int} {b i : Nat} {v : Int} (hb : b < far.length) : (far.set b v).getD i 0 = if i = b then v else far.getD i 0 := by
  simp only [List.getD_eq_getElem?_getD, List.getElem?_set]
  by_cases h : b = i
  · subst h; simp [hb]
  · simp [h, Ne.symm h]
theorem Sound.push {n : Nat} {far : List Int} {q : List Nat} (h : Sound n far q) {b c : Nat} (hb : b < n) (hc : c < n) (hn : far.getD b 0 < 0) : Sound n (far.set b (far.getD c 0 + 1)) (q ++ [b]) ∧ neg (far.set b (far.getD c 0 + 1)) + 1 = neg far := by
  have hbl : b < far.length := by rw [h.len]; exact hb
  have h1 := h.low c hc
  have h2 := h.high c hc
  have h3 := neg_set hbl hn (show 0 ≤ far.getD c 0 + 1 by omega)
  refine ⟨⟨by rw [List.length_set]; exact h.len, fun x hx => ?_, fun i hi => ?_, fun i hi => ?_⟩, h3⟩
  · rcases List.mem_append.1 hx with g | g
    · exact h.mem x g
    · simp at g; omega
  · rw [getD_set' hbl]
    have := h.low i hi
    split <;> omega
  · rw [getD_set' hbl]
    have := h.high i hi
    split <;> omega
theorem Sound.tail {n : Nat} {far : List Int} {c : Nat} {q : List Nat} (h : Sound n far (c :: q)) : Sound n far q := ⟨h.len, fun x hx => h.mem x (List.mem_cons_of_mem _ hx), h.low, h.high⟩
theorem inner_ok {n : Nat} {c : Nat} (hc : c < n) : ∀ (adj : List Nat) (far : List Int) (q : List Nat), (∀ b ∈ adj, b < n) → Sound n far q → Sound n (inner c adj (far, q)).1 (inner c adj (far, q)).2 ∧ 2 * neg (inner c adj (far, q)).1 + (inner c adj (far, q)).2.length ≤ 2 * neg far + q.length
  | [], far, q, _, h => ⟨h, Nat.le_refl _⟩
  | b :: r, far, q, ha, h => by
    have ha' : ∀ x ∈ r, x < n := fun x hx => ha x (List.mem_cons_of_mem _ hx)
    simp only [inner]
    split
    · rename_i hneg
      obtain ⟨h1, h2⟩ := h.push (ha b List.mem_cons_self) hc hneg
      obtain ⟨h3, h4⟩ := inner_ok hc r _ _ ha' h1
      refine ⟨h3, ?_⟩
      simp only [List.length_append, List.length_singleton] at h4
      omega
    · exact inner_ok hc r far q ha' h
theorem bfs_nil (adj : Nat → List Nat) (k : Nat) (far : List Int) : bfs adj k far [] = far := by cases k <;> rfl
/-- More fuel than wanted changes nothing. -/
theorem bfs_more {n : Nat} {adj : Nat → List Nat} (ha : ∀ c, c < n → ∀ b ∈ adj c, b < n) : ∀ (k m : Nat) (far : List Int) (q : List Nat), Sound n far q → 2 * neg far + q.length ≤ k → k ≤ m → bfs adj m far q = bfs adj k far q := by
  intro k
  induction k with
  | zero =>
    intro m far q h hk hm
    have : q = [] := List.eq_nil_of_length_eq_zero (by omega)
    subst this
    rw [bfs_nil, bfs_nil]
  | succ k ih =>
    intro m far q h hk hm
    cases q with
    | nil => rw [bfs_nil, bfs_nil]
    | cons c q =>
      obtain ⟨m, rfl⟩ : ∃ m', m = m' + 1 := ⟨m - 1, by omega⟩
      have hc := h.mem c List.mem_cons_self
      obtain ⟨h1, h2⟩ := inner_ok hc (adj c) far q (ha c hc) h.tail
      simp only [List.length_cons] at hk
      simp only [bfs]
      exact ih m _ _ h1 (by omega) (by omega)
/-- All are far, but one. -/
def far0 (n a : Nat) : List Int := (List.replicate n (-1)).set a 0
theorem far0_sound {n a : Nat} (ha : a < n) : Sound n (far0 n a) [a] ∧ neg (far0 n a) + 1 = n := by
  have h0 : neg (List.replicate n (-1)) = n := by simp [neg, List.countP_replicate]
  have h1 : (List.replicate n (-1 : Int)).getD a 0 = -1 := by simp [List.getD_eq_getElem?_getD, List.getElem?_replicate, ha]
  have h2 := neg_set (far := List.replicate n (-1)) (b := a) (v := 0) (by simpa using ha) (by rw [h1]; omega) (by omega)
  rw [h0] at h2
  refine ⟨⟨by simp [far0], fun c hc => by simp at hc; omega, fun i hi => ?_, fun i hi => ?_⟩, h2⟩
  · unfold far0
    rw [getD_set' (by simpa using ha)]
    split
    · omega
    · simp [List.getD_eq_getElem?_getD, List.getElem?_replicate, hi]
  · have h2' : neg (far0 n a) + 1 = n := h2
    unfold far0 at h2' ⊢
    rw [getD_set' (by simpa using ha)]
    split
    · omega
    · have : (List.replicate n (-1 : Int)).getD i 0 = -1 := by simp [List.getD_eq_getElem?_getD, List.getElem?_replicate, hi]
      omega
end Go.Proofs.YtdbpkjanlafajaaGreatDoor

/- Kinds: numbered by first occurrence. Plain. -/
set_option linter.unusedSimpArgs false
set_option linter.unusedVariables false
namespace Go.Proofs.YtdbpkjanlafajaaGreatDoor

/-- Different numbers below m: at most m. -/
theorem nodup_lt : ∀ (m : Nat) (l : List Nat), l.Nodup → (∀ x ∈ l, x < m) → l.length ≤ m := by
  intro m
  induction m with
  | zero =>
    intro l _ h
    cases l with
    | nil => exact Nat.le_refl _
    | cons x r => have := h x (by simp); omega
  | succ m ih =>
    intro l hn h
    by_cases hm : m ∈ l
    · have h1 := ih (l.erase m) (hn.erase m) (fun x hx => by
        have h2 := (hn.mem_erase_iff).1 hx
        have := h x h2.2
        have := h2.1
        omega)
      rw [List.length_erase_of_mem hm] at h1
      omega
    · have h1 := ih l hn (fun x hx => by
        have := h x hx
        have : x ≠ m := fun e => hm (e ▸ hx)
        omega)
      omega

section
variable {α : Type} [DecidableEq α] {β : Type} [DecidableEq β]

end
end Go.Proofs.YtdbpkjanlafajaaGreatDoor

/- The kinds of rows. -/
set_option linter.unusedSimpArgs false
set_option linter.unusedVariables false
set_option maxRecDepth 100000
namespace Go.Proofs.YtdbpkjanlafajaaGreatDoor
open Go Go.Proofs Go.AW

end Go.Proofs.YtdbpkjanlafajaaGreatDoor

/- The kinds of rows, by the reference. -/
set_option linter.unusedSimpArgs false
set_option linter.unusedVariables false
set_option maxRecDepth 100000
namespace Go.Proofs.YtdbpkjanlafajaaGreatDoor
open Go Go.Proofs Go.AW

def nI (l : List Nat) : List Int := l.map fun n : Nat => (n : Int)
theorem nI_len (l : List Nat) : (nI l).length = l.length := by simp [nI]
theorem nI_app (l : List Nat) (n : Nat) : nI (l ++ [n]) = nI l ++ [(n : Int)] := by simp [nI]
theorem nI_get (l : List Nat) (k : Nat) : (nI l).getD k 0 = ((l.getD k 0 : Nat) : Int) := by
  simp only [nI, List.getD_eq_getElem?_getD, List.getElem?_map]
  cases l[k]? <;> rfl
end Go.Proofs.YtdbpkjanlafajaaGreatDoor

/- The search, by the reference. -/
set_option linter.unusedSimpArgs false
set_option linter.unusedVariables false
set_option maxRecDepth 100000
namespace Go.Proofs.YtdbpkjanlafajaaGreatDoor
open Go Go.Proofs Go.AW

def srch (adj : Nat → List Nat) (far : List Int) (q : List Nat) : List Int := bfs adj (2 * neg far + q.length) far q
theorem srch_nil (adj : Nat → List Nat) (far : List Int) : srch adj far [] = far := bfs_nil _ _ _
theorem srch_step {n : Nat} {adj : Nat → List Nat} (ha : ∀ c, c < n → ∀ b ∈ adj c, b < n) {far : List Int} {c : Nat} {q : List Nat} (h : Sound n far (c :: q)) : srch adj far (c :: q) = srch adj (inner c (adj c) (far, q)).1 (inner c (adj c) (far, q)).2 := by
  have hc := h.mem c List.mem_cons_self
  obtain ⟨h1, h2⟩ := inner_ok hc (adj c) far q (ha c hc) h.tail
  unfold srch
  rw [show 2 * neg far + (c :: q).length = (2 * neg far + q.length) + 1 by simp only [List.length_cons]; omega]
  show bfs adj _ _ _ = _
  exact bfs_more ha _ _ _ _ h1 (Nat.le_refl _) h2
def adjT (W n : Nat) (l : List Bool) (c : Nat) : List Nat := (List.range n).filter fun b => ov W l b c
theorem adjT_lt {W n : Nat} {l : List Bool} {c b : Nat} (h : b ∈ adjT W n l c) : b < n := by
  simp only [adjT, List.mem_filter, List.mem_range] at h; exact h.1

end Go.Proofs.YtdbpkjanlafajaaGreatDoor

/- A product of small numbers, by the run of closed code. -/
set_option linter.unusedSimpArgs false
set_option linter.unusedVariables false
set_option maxRecDepth 100000
namespace Go.Proofs.YtdbpkjanlafajaaGreatDoor
open Go Go.Proofs Go.AW

noncomputable def mulOk (n : Nat) : Bool := match xCall Tryz.prog xT 100 68 [.val (.int .u64 1), .val (.int .u64 n)] with
  | some (.tuple [.val (.int .u64 a), .val (.int .u64 b)]) => a == 0 && b == (n : Int)
  | _ => false
theorem mul_all : (List.range 65).all mulOk = true := by kernel_rfl
theorem mul_c {n : Nat} (hn : n ≤ 64) : Contract Tryz.prog 68 [.val (.int .u64 1), .val (.int .u64 n)] (.tuple [.val (.int .u64 0), .val (.int .u64 n)]) := by
  have h := List.all_eq_true.1 mul_all n (by simp; omega)
  unfold mulOk at h
  split at h
  · rename_i a b hx
    simp only [Bool.and_eq_true, beq_iff_eq] at h
    obtain ⟨rfl, rfl⟩ := h
    exact Contract.run xGood 100 hx
  · cases h
end Go.Proofs.YtdbpkjanlafajaaGreatDoor

/- A number, repeated; the inverse of a numbering. -/
set_option linter.unusedSimpArgs false
set_option linter.unusedVariables false
set_option maxRecDepth 100000
namespace Go.Proofs.YtdbpkjanlafajaaGreatDoor
open Go Go.Proofs Go.AW

/-- k times -1, and 0 behind. -/
def rep (n k : Nat) : List Int := List.replicate k (-1) ++ List.replicate (n - k) 0
theorem rep_len {n k : Nat} (hk : k ≤ n) : (rep n k).length = n := by simp [rep]; omega
theorem rep_more {n k : Nat} (hk : 0 < k) (hn : k < n) : over (rep n k) k ((rep n k).take (Nat.min k (n - k))) = rep n (k + Nat.min k (n - k)) := by
  have hm : Nat.min k (n - k) ≤ k := Nat.min_le_left _ _
  have hm2 : Nat.min k (n - k) ≤ n - k := Nat.min_le_right _ _
  generalize Nat.min k (n - k) = m at *
  have e1 : (rep n k).take m = List.replicate m (-1) := by
    rw [rep, List.take_append_of_le_length (by simp; omega), List.take_replicate, Nat.min_eq_left hm]
  have e2 : (rep n k).take k = List.replicate k (-1) := by rw [rep, List.take_left' (by simp)]
  have e3 : (rep n k).drop (k + m) = List.replicate (n - (k + m)) 0 := by
    rw [rep, List.drop_append, List.drop_eq_nil_of_le (by simp), List.nil_append, List.drop_replicate]
    congr 1
    simp; omega
  rw [over, e1, e2, List.length_replicate, e3, rep, List.replicate_append_replicate]

theorem ki3 : ∃ T, tyI Tryz.prog 3 = some T ∧ T.kind = some .i64 := by
  have h : (tyI Tryz.prog 3).any (fun T => T.kind == some .i64) = true := by kernel_rfl
  revert h
  cases tyI Tryz.prog 3 with
  | none => intro h; cases h
  | some T => intro h; exact ⟨T, rfl, by simpa using h⟩
theorem ki99 : ∃ T, tyI Tryz.prog 86 = some T ∧ T.kind = some .u64 := by
  have h : (tyI Tryz.prog 86).any (fun T => T.kind == some .u64) = true := by kernel_rfl
  revert h
  cases tyI Tryz.prog 86 with
  | none => intro h; cases h
  | some T => intro h; exact ⟨T, rfl, by simpa using h⟩
theorem wrap_u64 {n : Int} (h1 : 0 ≤ n) (h2 : n ≤ 9223372036854775807) : IntKind.u64.wrap n = n := by
  have e1 : IntKind.u64.bits = 64 := rfl
  have e2 : IntKind.u64.signed = false := rfl
  simp only [IntKind.wrap, e1, e2]
  simp
  omega

theorem repeat_s (h0 : List AObj) {n : Nat} (hn0 : 0 < n) (hn : n ≤ 64) : SpecTo Tryz.prog 48 [.lit 1 [I (-1)], I n] h0 (.ref h0.length 0 n n) (h0 ++ [⟨3, 1, ints (List.replicate n (-1))⟩]) := by
  obtain ⟨T3, hT3, hk3⟩ := ki3
  obtain ⟨T9, hT9, hk9⟩ := ki99
  refine SpecTo.intro (effS [] false) follows Tryz.func48 rfl rfl (by kernel_rfl) (Nat.le_of_ble_eq_true rfl) ?_
  simp (disch := first | assumption | omega | rfl | simp only [RH]) only [↓RP, RG, FX, RQ, ↓reduceIte, Nat.reduceEqDiff, reduceCtorEq, Nat.reduceBEq, Nat.reduceAdd, Nat.reduceLeDiff, args0_2, hT3, hT9, hk3, hk9, wrap_u64, wrap_id]
  refine callK_F 6 (mul_c (n := n) (by omega)) (by simp (disch := first | assumption | omega | rfl | simp only [RH]) only [↓RP, RG, FX, RQ, ↓reduceIte, Nat.reduceEqDiff, reduceCtorEq, Nat.reduceBEq, Nat.reduceAdd, Nat.reduceLeDiff, RA] <;> rfl) (.inl (by simp [allFresh, ints_fresh, bools_fresh])) ?_
  simp (disch := first | assumption | omega | rfl | simp only [RH]) only [↓RP, RG, FX, RQ, ↓reduceIte, Nat.reduceEqDiff, reduceCtorEq, Nat.reduceBEq, Nat.reduceAdd, Nat.reduceLeDiff, hT3, hT9, hk3, hk9, wrap_u64, wrap_id]
  simp (disch := first | assumption | omega | rfl | simp only [RH]) only [↓RP, RG, FX, RQ, ↓reduceIte, Nat.reduceEqDiff, reduceCtorEq, Nat.reduceBEq, Nat.reduceAdd, Nat.reduceLeDiff, make_int, Int.toNat_natCast]
  have hc : ∀ h : List AObj, h[h0.length]? = some ⟨3, 1, ints (List.replicate n 0)⟩ → aCopy Tryz.prog 25 h (.ref h0.length 0 n n) (.lit 1 [I (-1)]) = some (I 1, h.set h0.length ⟨3, 1, ints (rep n 1)⟩) := by
    intro h hh
    have e1 : Nat.min 1 n = 1 := by have := Nat.min_eq_left (show 1 ≤ n by omega); exact this
    have := copy_ints_at (P := Tryz.prog) (t := 25) (h := h) (off := 0) (n := n) (ext := n) (m := 1) (x := .lit 1 [I (-1)]) (l := [-1]) hh (by decide) (by simp) rfl (by simp) (by rw [e1]; decide) (by rw [e1]; omega)
    rw [this, e1]
    simp [over, rep, List.drop_replicate]
  simp (disch := simp) only [↓RP, RG, FX, RQ, ↓reduceIte, Nat.reduceEqDiff, reduceCtorEq, Nat.reduceBEq, Nat.reduceAdd, Nat.reduceLeDiff, opK_copy, hc, List.set_append_right, Nat.sub_self, List.set_cons_zero, Nat.le_refl]
  have hq : ∀ (h : List AObj) (k : Nat), h[h0.length]? = some ⟨3, 1, ints (rep n k)⟩ → 0 < k → k < n → aCopy Tryz.prog 25 h (.ref h0.length k (n - k) n) (.ref h0.length 0 k n) = some (I (Nat.min k (n - k) : Nat), h.set h0.length ⟨3, 1, ints (rep n (k + Nat.min k (n - k)))⟩) := by
    intro h k hh h1 h2
    have e1 : Nat.min k (n - k) ≤ n - k := Nat.min_le_right _ _
    have e2 : 0 < Nat.min k (n - k) := by have : Nat.min k (n - k) = min k (n - k) := rfl; omega
    have hl := rep_len (n := n) (k := k) (by omega)
    have := copy_ints_at (P := Tryz.prog) (t := 25) (h := h) (id := h0.length) (off := k) (n := n - k) (ext := n) (m := k) (x := .ref h0.length 0 k n) (l := rep n k) hh (by decide) hl (by simp [sview, cellsAt, hh, hl, ints_length]) (by omega) (by omega) (by omega)
    rw [this, rep_more h1 h2]
  refine loopK_I [7, 8] (fun k : Nat => 0 < k ∧ k ≤ n) (fun k => ⟨[(7, .ref h0.length 0 n n), (8, I k)], h0 ++ [⟨3, 1, ints (rep n k)⟩]⟩) (fun k => n - k) 1 (by omega) (by simp only [↓RP, RG, FX, RQ, ↓reduceIte, Nat.reduceEqDiff, reduceCtorEq, Nat.reduceBEq, Nat.reduceAdd, Nat.reduceLeDiff]; rfl) ?_
  intro k ⟨hk0, hk⟩
  have hl := rep_len (n := n) (k := k) (by omega)
  by_cases hlt : k < n
  · have e1 : Nat.min k (n - k) ≤ n - k := Nat.min_le_right _ _
    have e2 : 0 < Nat.min k (n - k) := by have : Nat.min k (n - k) = min k (n - k) := rfl; omega
    simp (disch := first | omega | simp) only [↓RP, RG, FX, RQ, ↓reduceIte, Nat.reduceEqDiff, reduceCtorEq, Nat.reduceBEq, Nat.reduceAdd, Nat.reduceLeDiff, opK_copy, hq, sl_ref_lo, sl_ref_hi, List.set_append_right, Nat.sub_self, List.set_cons_zero, Nat.le_refl]
    exact ⟨k + Nat.min k (n - k), ⟨by omega, by omega⟩, by simp, by omega⟩
  · obtain rfl : k = n := by omega
    simp (disch := first | assumption | omega | rfl | simp only [RH]) only [↓RP, RG, FX, RQ, ↓reduceIte, Nat.reduceEqDiff, reduceCtorEq, Nat.reduceBEq, Nat.reduceAdd, Nat.reduceLeDiff]
    refine ⟨_, rfl, ?_⟩
    rw [show rep k k = List.replicate k (-1) by simp [rep]]
    exact Wk.of_eq rfl
end Go.Proofs.YtdbpkjanlafajaaGreatDoor

/- The search, by the program: what it does with its queue. -/
set_option linter.unusedSimpArgs false
set_option linter.unusedVariables false
set_option maxRecDepth 100000
namespace Go.Proofs.YtdbpkjanlafajaaGreatDoor
open Go Go.Proofs Go.AW

theorem cutB_some (r : AVal × List AObj) (s : Option AVal) (h : List AObj) (K : AVal → List AObj → Prop) : @cutB (some r) s h ⟨K⟩ = K r.1 r.2 := _root_.id rfl
theorem aCut_lit {P : Program} {t e nb : Nat} {z : Value} [S : SlT P t e nb z] {h : List AObj} {m : Nat} {l : List Int} (hl : l.length = m) (hm : 0 < m) : aCut P t h (.lit m (ints l)) (some (I 1)) (some (I m)) (some (I m)) = some (.lit (m - 1) (ints (l.drop 1)), h) := by
  obtain ⟨⟨T, hT, hTe⟩, E, hE, g1, g2, g3, g4⟩ := S
  simp only [aCut, hT, hTe, hE, sview_lit, optInt]
  rw [if_pos ⟨by omega, by omega, by first | trivial | rfl, by omega, by omega, g1⟩]
  have e1 : ((m : Int) - 1).toNat = m - 1 := by omega
  have e2 : ((ints l).drop 1).take (m - 1) = ints (l.drop 1) := by
    rw [List.take_of_length_le (by rw [List.length_drop, ints_length]; omega)]
    simp [ints, List.map_drop]
  rw [e1]
  simp only [show (1 : Int).toNat = 1 from rfl, e2]
theorem aCut_ref {P : Program} {t e nb : Nat} {z : Value} [S : SlT P t e nb z] {h : List AObj} {id m ty : Nat} {l : List Int} (ho : h[id]? = some ⟨ty, 1, ints l⟩) (hz : ty ≠ FZ) (hl : l.length = m) (hm : 0 < m) : aCut P t h (.ref id 0 m m) (some (I 1)) (some (I m)) (some (I m)) = some (.lit (m - 1) (ints (l.drop 1)), h.set id ⟨FZ, 1, ints l⟩) := by
  obtain ⟨⟨T, hT, hTe⟩, E, hE, g1, g2, g3, g4⟩ := S
  have hli : (ints l).length = m := by rw [ints_length, hl]
  have hsv : sview h (.ref id 0 m m) = some (m, ints l) := by simp [sview, cellsAt, ho, hli]
  simp only [aCut, hT, hTe, hE, hsv, optInt, ho]
  rw [if_pos ⟨by omega, by omega, by first | trivial | rfl, by omega, by omega, g1⟩, if_pos ⟨hz, hli⟩]
  have e1 : ((m : Int) - 1).toNat = m - 1 := by omega
  have e2 : ((ints l).drop 1).take (m - 1) = ints (l.drop 1) := by
    rw [List.take_of_length_le (by rw [List.length_drop, ints_length]; omega)]
    simp [ints, List.map_drop]
  rw [e1]
  simp only [show (1 : Int).toNat = 1 from rfl, Nat.zero_add, e2]
theorem append_litG {P : Program} {t e : Nat} {z : Value} [S : SlT P t e 8 z] {h : List AObj} {m : Nat} {l : List Int} {x : Int} (hl : l.length = m) (hm : m ≤ 1000000) : aAppend P t h (.lit m (ints l)) (.lit 1 [.val (.int .i64 x)]) = some (.ref h.length 0 (m + 1) (m + 1), h ++ [⟨e, 1, ints (l ++ [x])⟩]) := by
  obtain ⟨⟨T, hT, hTe⟩, E, hE, g1, g2, g3, g4⟩ := S
  have hz : E.zero.length = 1 := by rw [g4]; rfl
  have hli : (ints l).length = m := by rw [ints_length, hl]
  simp only [aAppend, hT, hTe, hE, sview_lit, g1, Nat.mul_one]
  rw [if_pos ⟨by simp, by simp [AVal.one, Value.oneCell'], by omega, hz⟩, if_neg (by omega), if_pos ⟨hli, by rw [g3]; omega, by omega⟩, ← ints_append l [x]]
  rfl

/-- Rows that are handed over. -/
def LLa (rs : List (List Int)) : List AVal := rs.map fun r => LA r.isEmpty r
theorem LLa_len (rs : List (List Int)) : (LLa rs).length = rs.length := by simp [LLa]
theorem LLa_at {rs : List (List Int)} {a : Nat} (ha : a < rs.length) : ((LLa rs).drop a)[0]? = some (LA (rs.getD a []).isEmpty (rs.getD a [])) := by
  rw [List.getElem?_drop, Nat.add_zero, LLa, List.getElem?_map, List.getElem?_eq_getElem ha, List.getD_eq_getElem?_getD, List.getElem?_eq_getElem ha]; rfl
theorem abv_adj {W n : Nat} {l : List Bool} {c : Nat} (hc : c < n) : (abv W n l).getD c [] = nI (adjT W n l c) := by rw [abv_get hc]; rfl
end Go.Proofs.YtdbpkjanlafajaaGreatDoor

/- The different numbers of a list: sequences of its values, sorted, compacted. -/
set_option linter.unusedSimpArgs false
set_option linter.unusedVariables false
set_option maxRecDepth 100000
namespace Go.Proofs.YtdbpkjanlafajaaGreatDoor
open Go Go.Proofs Go.AW

theorem ints_getD_undef {l : List Int} {i : Nat} (hi : i < l.length) : (ints l).getD i .undef = I (l.getD i 0) := by
  simp [ints, List.getD_eq_getElem?_getD, hi]

theorem valuesF_y (p b : Bool) (l : List Int) (hl : l.length ≤ 1000000000) : Gives Tryz.prog 100 [.spot p [LA b l]] (ints l) := by
  intro hs
  have hlen : (ints l).length = l.length := ints_length l
  refine SpecY.intro (effS [] false) follows Tryz.func100 rfl rfl (by kernel_rfl) (Nat.le_of_ble_eq_true rfl) rfl (fun yv => ?_)
  simp (disch := first | assumption | omega | rfl | simp only [RH]) only [↓RP, RG, FX, RQ, ↓reduceIte, Nat.reduceEqDiff, reduceCtorEq, Nat.reduceBEq, Nat.reduceAdd, Nat.reduceLeDiff, args0_2]
  refine loopK_I [0, 5, 6, 7] (fun k : Nat => k ≤ l.length) (fun k : Nat => ⟨[(0, .val yv), (5, LA b l), (6, I l.length), (7, I k)], hs k⟩) (fun k => l.length - k) 0 (by omega) (by simp only [↓RP, RG, FX, RQ, ↓reduceIte, Nat.reduceEqDiff, reduceCtorEq, Nat.reduceBEq, Nat.reduceAdd, Nat.reduceLeDiff]; rfl) ?_
  intro k hk
  by_cases hlt : k < l.length
  · simp (disch := first | assumption | omega | rfl | simp only [RH]) only [↓RP, RG, FX, RQ, ↓reduceIte, Nat.reduceEqDiff, reduceCtorEq, Nat.reduceBEq, Nat.reduceAdd, Nat.reduceLeDiff]
    refine callK_Y rfl (stepsY_at k (by omega) (ints_getD_undef hlt)) ?_
    simp (disch := first | assumption | omega | rfl | simp only [RH]) only [↓RP, RG, FX, RQ, ↓reduceIte, Nat.reduceEqDiff, reduceCtorEq, Nat.reduceBEq, Nat.reduceAdd, Nat.reduceLeDiff]
    exact ⟨k + 1, by omega, rfl, by omega⟩
  · obtain rfl : k = l.length := by omega
    simp (disch := first | assumption | omega | rfl | simp only [RH]) only [↓RP, RG, FX, RQ, ↓reduceIte, Nat.reduceEqDiff, reduceCtorEq, Nat.reduceBEq, Nat.reduceAdd, Nat.reduceLeDiff]
    exact Wk.refl _ _

/-- A sequence of at least one value, appended to nothing: a row of its own. -/
theorem appendSeq_s (h0 : List AObj) {f : FuncId} {cs : List AVal} {xs : List Int} {n : Nat} (hn : xs.length = n) (h1 : 0 < n) (hg : Gives Tryz.prog f cs (ints xs)) (hx : n ≤ 1000000000) : SpecTo Tryz.prog 116 [.cap0 true, .func (.func f) [] cs] h0 (.ref h0.length 0 n n) (h0 ++ [⟨3, 1, ints xs⟩]) := by
  refine SpecTo.intro (effS [] false) follows Tryz.func116 rfl rfl (by kernel_rfl) (Nat.le_of_ble_eq_true rfl) ?_
  simp (disch := first | assumption | omega | rfl | simp only [RH]) only [↓RP, RG, FX, RQ, ↓reduceIte, Nat.reduceEqDiff, reduceCtorEq, Nat.reduceBEq, Nat.reduceAdd, Nat.reduceLeDiff, args0_2]
  have hxl := ints_length xs
  refine rangeK_S (s := ⟨[(2, .ptr h0.length 0 1), (6, .func (.func f) [] cs)], h0 ++ [⟨25, 1, [gw true (h0.length + 1) (ints (xs.take 0))]⟩, go 3 (ints (xs.take 0))]⟩) [2, 6] (ints xs) (fun k => h0 ++ [⟨25, 1, [gw true (h0.length + 1) (ints (xs.take k))]⟩, go 3 (ints (xs.take k))]) ?_ rfl rfl (hg _) (fun i hi => ?_) ?_
  · simp only [↓RP, RG, FX, RQ, ↓reduceIte, Nat.reduceEqDiff, reduceCtorEq, Nat.reduceBEq, Nat.reduceAdd, Nat.reduceLeDiff]
    exact Wk.weak (fun t => .refl _) (.app h0 (.cons _ _ _ _ (.cons (.nil _) .nil) (.nil _ (by simp [go, ints]))))
  · rw [hxl] at hi
    have htk : (xs.take i).length ≤ 1000000000 := by rw [List.length_take]; omega
    rw [ints_getD_undef hi]
    simp (disch := first | assumption | omega | rfl | simp only [RH]) only [↓RP, RG, FX, RQ, ↓reduceIte, Nat.reduceEqDiff, reduceCtorEq, Nat.reduceBEq, Nat.reduceAdd, Nat.reduceLeDiff, append_int]
    refine Wk.of_eq ?_
    rw [List.take_add_one]
    simp [hi, List.getD_eq_getElem?_getD]
  · have hp : 0 < (ints xs).length := by rw [hxl]; omega
    rw [hxl, List.take_length]
    simp (disch := first | assumption | omega | rfl | simp only [RH]) only [↓RP, RG, FX, RQ, ↓reduceIte, Nat.reduceEqDiff, reduceCtorEq, Nat.reduceBEq, Nat.reduceAdd, Nat.reduceLeDiff, gw_pos hp, go_pos hp, hxl, hn]
    refine ⟨_, by rw [resVal_1 rfl]; simp (disch := first | assumption | omega | rfl | simp only [RH]) only [↓RP, RG, FX, RQ, ↓reduceIte, Nat.reduceEqDiff, reduceCtorEq, Nat.reduceBEq, Nat.reduceAdd, Nat.reduceLeDiff, raX_tmp, raX_cell, rvX_0, rvX_1, rvX_2, rvX_3, rvX_4, rvX_5]; rfl, (Wk.drop 8 [1] (by simp) (by decide) (by simp) (same_refl)).trans (Wk.of_eq (by simp (disch := omega) only [RK, List.idxOf?_cons, List.idxOf?_nil, Nat.reduceBEq, Option.map_some, Option.map_none, List.map_cons, List.map_nil, List.getD_cons_zero, List.getD_cons_succ, Bool.false_eq_true, ↓reduceIte, Nat.add_zero, List.append_nil]))⟩

theorem collect_s (h0 : List AObj) {f : FuncId} {cs : List AVal} {xs : List Int} {n : Nat} (hn : xs.length = n) (h1 : 0 < n) (hg : Gives Tryz.prog f cs (ints xs)) (hx : n ≤ 1000000000) : SpecTo Tryz.prog 99 [.func (.func f) [] cs] h0 (.ref h0.length 0 n n) (h0 ++ [⟨3, 1, ints xs⟩]) := by
  refine SpecTo.intro (effS [116] false) follows Tryz.func99 rfl rfl (by kernel_rfl) (Nat.le_of_ble_eq_true rfl) ?_
  simp (disch := first | assumption | omega | rfl | simp only [RH]) only [↓RP, RG, FX, RQ, ↓reduceIte, Nat.reduceEqDiff, reduceCtorEq, Nat.reduceBEq, Nat.reduceAdd, Nat.reduceLeDiff, args0_1]
  refine callK_T rfl (appendSeq_s _ hn h1 hg hx) ?_
  simp (disch := first | assumption | omega | rfl | simp only [RH]) only [↓RP, RG, FX, RQ, ↓reduceIte, Nat.reduceEqDiff, reduceCtorEq, Nat.reduceBEq, Nat.reduceAdd, Nat.reduceLeDiff]
  refine ⟨_, by rw [resVal_1 rfl]; simp (disch := first | assumption | omega | rfl | simp only [RH]) only [↓RP, RG, FX, RQ, ↓reduceIte, Nat.reduceEqDiff, reduceCtorEq, Nat.reduceBEq, Nat.reduceAdd, Nat.reduceLeDiff, raX_tmp, raX_cell, rvX_0, rvX_1, rvX_2, rvX_3, rvX_4, rvX_5]; rfl, (Wk.drop 8 [0] (by simp) (by decide) (by simp) (same_refl)).trans (Wk.of_eq (by simp (disch := omega) only [RK, List.idxOf?_cons, List.idxOf?_nil, Nat.reduceBEq, Option.map_some, Option.map_none, List.map_cons, List.map_nil, List.getD_cons_zero, List.getD_cons_succ, Bool.false_eq_true, ↓reduceIte, Nat.add_zero, List.append_nil]))⟩

/-- A sequence, sorted. -/
theorem sorted_s (h0 : List AObj) {f : FuncId} {cs : List AVal} {xs : List Int} {n : Nat} (hn : xs.length = n) (h1 : 0 < n) (hg : Gives Tryz.prog f cs (ints xs)) (hx : n ≤ 1000000000) : SpecTo Tryz.prog 70 [.func (.func f) [] cs] h0 (.ref h0.length 0 n n) (h0 ++ [⟨3, 1, ints (srt xs)⟩]) := by
  refine SpecTo.intro (effS [99, 36] false) follows Tryz.func70 rfl rfl (by kernel_rfl) (Nat.le_of_ble_eq_true rfl) ?_
  simp (disch := first | assumption | omega | rfl | simp only [RH]) only [↓RP, RG, FX, RQ, ↓reduceIte, Nat.reduceEqDiff, reduceCtorEq, Nat.reduceBEq, Nat.reduceAdd, Nat.reduceLeDiff, args0_1]
  refine callK_T rfl (collect_s _ hn h1 hg hx) ?_
  simp (disch := first | assumption | omega | rfl | simp only [RH]) only [↓RP, RG, FX, RQ, ↓reduceIte, Nat.reduceEqDiff, reduceCtorEq, Nat.reduceBEq, Nat.reduceAdd, Nat.reduceLeDiff]
  refine callK_T rfl (sort_spec (ρ := Tryz.lays189_ren) Tryz.lays189 (by kernel_rfl) (id := h0.length) (by rw [hAt_app0]; rfl) (by decide) hn (by omega)) ?_
  simp (disch := first | assumption | omega | rfl | simp only [RH]) only [↓RP, RG, FX, RQ, ↓reduceIte, Nat.reduceEqDiff, reduceCtorEq, Nat.reduceBEq, Nat.reduceAdd, Nat.reduceLeDiff, List.set_append_right, Nat.sub_self]
  refine ⟨_, by rw [resVal_1 rfl]; simp (disch := first | assumption | omega | rfl | simp only [RH]) only [↓RP, RG, FX, RQ, ↓reduceIte, Nat.reduceEqDiff, reduceCtorEq, Nat.reduceBEq, Nat.reduceAdd, Nat.reduceLeDiff, raX_tmp, raX_cell, rvX_0, rvX_1, rvX_2, rvX_3, rvX_4, rvX_5]; rfl, (Wk.drop 8 [0] (by simp) (by decide) (by simp) (same_refl)).trans (Wk.of_eq (by simp (disch := omega) only [RK, List.idxOf?_cons, List.idxOf?_nil, Nat.reduceBEq, Option.map_some, Option.map_none, List.map_cons, List.map_nil, List.getD_cons_zero, List.getD_cons_succ, Bool.false_eq_true, ↓reduceIte, Nat.add_zero, List.append_nil]))⟩
end Go.Proofs.YtdbpkjanlafajaaGreatDoor

/- Chapter 11: the search, by the program: its memory. -/
set_option linter.unusedSimpArgs false
set_option linter.unusedVariables false
set_option maxRecDepth 100000
namespace Go.Proofs.YtdbpkjanlafajaaGreatDoor
open Go Go.Proofs Go.AW

/-- A table of numbers, by threads. -/
def fI (n : Nat) (f : Nat → Int) : List Int := (List.range n).map f
theorem fI_len (n : Nat) (f : Nat → Int) : (fI n f).length = n := by simp [fI]
theorem fI_get {n : Nat} {f : Nat → Int} {a : Nat} (h : a < n) : (fI n f).getD a 0 = f a := by simp [fI, List.getD_eq_getElem?_getD, h]
theorem fI_set {n : Nat} {f : Nat → Int} {a : Nat} (v : Int) : (fI n f).set a v = fI n (updN f a v) := by
  refine List.ext_getElem (by simp [fI]) fun i h1 h2 => ?_
  rw [List.getElem_set]
  simp only [fI, List.getElem_map, List.getElem_range]
  by_cases h : a = i
  · rw [if_pos h, h, updN_same]
  · rw [if_neg h, updN_other _ _ (fun e => h e.symm)]
theorem upd_cast (f : Nat → Nat) (a v : Nat) : updN (fun x => ((f x : Nat) : Int)) a (v : Int) = fun x => ((updN f a v x : Nat) : Int) := by
  funext x
  unfold updN
  split <;> rfl
/-- The stack, what lies behind it. -/
def stV (k : Nat) (st jk : List Nat) : AVal := if st.length + jk.length = 0 then .res k else .ref k 0 st.length (st.length + jk.length)
def stO (st jk : List Nat) : AObj := go 3 (ints (nI (st ++ jk)))
theorem stO_pos {st jk : List Nat} (h : st.length + jk.length ≠ 0) : stO st jk = ⟨3, 1, ints (nI (st ++ jk))⟩ := by
  unfold stO
  have : 0 < (ints (nI (st ++ jk))).length := by rw [ints_length, nI_len, List.length_append]; omega
  exact go_pos this
theorem parts_stV (k : Nat) (st jk : List Nat) : AVal.parts (stV k st jk) = some [stV k st jk] := by unfold stV; split <;> rfl
theorem one_stV (k : Nat) (st jk : List Nat) : AVal.one (stV k st jk) = true := by unfold stV; split <;> rfl
theorem nI_app2 (a b : List Nat) : nI (a ++ b) = nI a ++ nI b := by simp [nI]
section
variable {P : Program} {t nb : Nat} {z : Value} {h : List AObj}
theorem append_st [S : SlT P t 3 8 z] {k a : Nat} {st jk : List Nat} (ho : h[k]? = some (stO st jk)) (hl : st.length + jk.length ≤ 1000000) : aAppend P t h (stV k st jk) (.lit 1 [I a]) = some (stV k (st ++ [a]) (jk.drop 1), h.set k (stO (st ++ [a]) (jk.drop 1))) := by
  by_cases h0 : st.length + jk.length = 0
  · obtain rfl : st = [] := List.eq_nil_of_length_eq_zero (by omega)
    obtain rfl : jk = [] := List.eq_nil_of_length_eq_zero (by omega)
    obtain ⟨⟨T, hT, hTe⟩, E, hE, g1, g2, g3, g4⟩ := S
    have hz : E.zero.length = 1 := by rw [g4]; rfl
    have e1 : h[k]? = some ⟨0, 0, []⟩ := ho
    simp only [stV, List.length_nil, Nat.add_zero, if_pos, aAppend, hT, hTe, hE, sview_lit, g1, Nat.mul_one]
    rw [if_pos ⟨rfl, rfl, by omega, hz⟩, if_neg (by omega), e1]
    simp only [g3]
    rw [if_pos ⟨trivial, by omega, by omega⟩]
    first | done | rfl
  · rw [stO_pos h0] at ho
    have hlen : (nI (st ++ jk)).length = st.length + jk.length := by rw [nI_len, List.length_append]
    unfold stV
    rw [if_neg h0]
    cases jk with
    | nil =>
      simp only [List.length_nil, Nat.add_zero, List.append_nil, List.drop_nil, List.length_append, List.length_singleton] at *
      rw [append_refI (S := S) ho (by rw [nI_len]) (by omega), if_neg (by omega), stO_pos (by simp), List.append_nil, nI_app2]
      first | done | rfl
    | cons x r =>
      obtain ⟨⟨T, hT, hTe⟩, E, hE, g1, g2, g3, g4⟩ := S
      have hz : E.zero.length = 1 := by rw [g4]; rfl
      simp only [aAppend, hT, hTe, hE, sview_lit, g1, Nat.mul_one]
      have hil : (ints (nI (st ++ x :: r))).length = st.length + (x :: r).length := by rw [ints_length, hlen]
      rw [if_pos ⟨rfl, rfl, by omega, hz⟩]
      simp only [ho, hil]
      have hxr : (x :: r).length = r.length + 1 := List.length_cons
      rw [if_neg (fun h => by obtain ⟨_, h2, _⟩ := h; omega)]
      rw [if_pos ⟨trivial, by omega, trivial, trivial, by omega⟩]
      have hd1 : (x :: r).drop 1 = r := rfl
      have hl1 : (st ++ [a]).length = st.length + 1 := by simp
      rw [hd1, hl1, if_neg (show ¬ st.length + 1 + r.length = 0 by omega), stO_pos (by rw [hl1]; omega)]
      congr 2
      · congr 1; omega
      · congr 1
        have e2 : splice (ints (nI (st ++ x :: r))) st.length (List.take 1 [I a]) = ints (nI (st ++ [a] ++ r)) := by
          show (ints (nI (st ++ x :: r))).set st.length (I a) = _
          rw [ints_set]
          congr 1
          rw [nI_app2, nI_app2, nI_app2]
          show (nI st ++ ((x : Int) :: nI r)).set st.length (a : Int) = _
          rw [List.set_append_right _ _ (by rw [nI_len]; exact Nat.le_refl _), nI_len, Nat.sub_self]
          simp [nI]
        rw [e2]
theorem slice_st_hi [S : SlT P t 3 8 z] {k c : Nat} {st jk : List Nat} (ho : h[k]? = some (stO st jk)) (hs : 0 < st.length) (hc : c ≤ st.length) : aSlice P t h (stV k st jk) none (some (I c)) none = some (stV k (st.take c) (st.drop c ++ jk)) := by
  have h0 : st.length + jk.length ≠ 0 := by omega
  rw [stO_pos h0] at ho
  have hil : (ints (nI (st ++ jk))).length = st.length + jk.length := by rw [ints_length, nI_len, List.length_append]
  have hcA : cA h[k]? (st.length + jk.length) = some (ints (nI (st ++ jk))) := by rw [ho]; simp [cA, hil]
  obtain ⟨⟨T, hT, hTe⟩, E, hE, g1, g2, g3, g4⟩ := S
  have e1 : (st.take c).length = c := by rw [List.length_take]; omega
  have e2 : (st.drop c ++ jk).length = st.length - c + jk.length := by simp
  have e3 : c + (st.length - c + jk.length) = st.length + jk.length := by omega
  unfold stV
  rw [if_neg h0, e1, e2, e3, if_neg h0]
  simp only [aSlice, hT, hTe, hE, sview, optInt, cellsAt_eq, hcA, Option.map_some]
  rw [if_pos ⟨Int.le_refl _, by omega, by omega, by rw [g1]; decide⟩]
  by_cases hc0 : c = 0
  · subst hc0
    rw [if_pos (show (0 : Int) = ((0 : Nat) : Int) from rfl), if_pos ⟨trivial, hs⟩]
  · rw [if_neg (by omega)]
    simp
theorem slice_st_lo [S : SlT P t 3 8 z] {k c : Nat} {st jk : List Nat} (ho : h[k]? = some (stO st jk)) (hc : c < st.length) : aSlice P t h (stV k st jk) (some (I c)) none none = some (.ref k c (st.length - c) (st.length + jk.length)) := by
  have h0 : st.length + jk.length ≠ 0 := by omega
  rw [stO_pos h0] at ho
  have hil : (ints (nI (st ++ jk))).length = st.length + jk.length := by rw [ints_length, nI_len, List.length_append]
  have hcA : cA h[k]? (st.length + jk.length) = some (ints (nI (st ++ jk))) := by rw [ho]; simp [cA, hil]
  unfold stV
  rw [if_neg h0, sl_ref_lo (S := S) (by omega) (by omega), hcA]
  simp
end
theorem argOf_stV {h : List AObj} {k m : Nat} {st jk : List Nat} (ho : h[k]? = some (stO st jk)) : argOf h (m + 2) (stV k st jk) = LA (decide (st.length + jk.length = 0)) (nI st) := by
  unfold stV
  by_cases h0 : st.length + jk.length = 0
  · obtain rfl : st = [] := List.eq_nil_of_length_eq_zero (by omega)
    obtain rfl : jk = [] := List.eq_nil_of_length_eq_zero (by omega)
    rfl
  · rw [stO_pos h0] at ho
    have hil : (ints (nI (st ++ jk))).length = st.length + jk.length := by rw [ints_length, nI_len, List.length_append]
    rw [if_neg h0]
    simp only [argOf, ho, hil, if_pos, List.drop_zero, Nat.mul_one]
    rw [decide_eq_false h0, LA, nI_len]
    congr 1
    have : (ints (nI (st ++ jk))).take st.length = ints (nI st) := by
      rw [nI_app2, ← ints_append, List.take_append_of_le_length (by rw [ints_length, nI_len]; exact Nat.le_refl _), List.take_of_length_le (by rw [ints_length, nI_len]; exact Nat.le_refl _)]
    rw [this, ints_arg]
theorem argOf_seg {h : List AObj} {k m c : Nat} {st jk : List Nat} (ho : h[k]? = some (stO st jk)) (hc : c < st.length) : argOf h (m + 2) (.ref k c (st.length - c) (st.length + jk.length)) = LA false (nI (st.drop c)) := by
  have h0 : st.length + jk.length ≠ 0 := by omega
  rw [stO_pos h0] at ho
  have hil : (ints (nI (st ++ jk))).length = st.length + jk.length := by rw [ints_length, nI_len, List.length_append]
  simp only [argOf, ho, hil, if_pos, Nat.mul_one]
  rw [LA, nI_len, List.length_drop]
  congr 1
  have : ((ints (nI (st ++ jk))).drop c).take (st.length - c) = ints (nI (st.drop c)) := by
    simp only [ints, nI, ← List.map_drop, ← List.map_take]
    congr 2
    rw [List.drop_append_of_le_length (by omega), List.take_append_of_le_length (by simp), List.take_of_length_le (by simp)]
  rw [this, ints_arg]
/-- A row of parts that are listed. -/
def rowsC (ps : List (List Nat)) : List AVal := ps.map fun l => LR false (nI l)
/-- The search's memory. -/
def ovV (n : Nat) (rows : List (List Int)) : AVal := .list true false n (LL rows)
def FS (rows : List (List Int)) (n : Nat) (s : TS) : List AObj :=
  [⟨3, 1, ints (fI n fun x => (s.ix x : Int))⟩, ⟨3, 1, ints (fI n fun x => (s.lo x : Int))⟩, ⟨3, 1, ints (fI n s.pt)⟩,
    ⟨79, 7, [ovV n rows, .ref 0 0 n n, .ref 1 0 n n, .ref 2 0 n n, stV 4 s.st s.jk, I s.mt, gw true 5 (rowsC s.ps)]⟩, stO s.st s.jk, go 25 (rowsC s.ps)]
end Go.Proofs.YtdbpkjanlafajaaGreatDoor

/- Chapter 11: the search from one thread, by the program. -/
set_option linter.unusedSimpArgs false
set_option linter.unusedVariables false
set_option maxRecDepth 100000
namespace Go.Proofs.YtdbpkjanlafajaaGreatDoor
open Go Go.Proofs Go.AW

theorem isPl_idx {l : List Nat} {a : Nat} (h : a ∈ l) : IsPl (nI l) a (nI l).length (l.idxOf a : Nat) := by
  have hi := List.idxOf_lt_length_of_mem h
  refine .inl ⟨l.idxOf a, by rw [nI_len]; exact hi, ?_, fun j hj => ?_, rfl⟩
  · simp [nI, List.getD_eq_getElem?_getD, List.getElem?_eq_getElem hi]
  · have hjl : j < l.length := by omega
    have := List.not_of_lt_findIdx (p := (· == a)) (xs := l) (i := j) (by simpa [List.idxOf] using hj)
    simp [nI, List.getD_eq_getElem?_getD, List.getElem?_eq_getElem hjl]
    intro h
    rw [beq_eq_false_iff_ne] at this
    exact this (by omega)
theorem srt_nI (l : List Nat) : srt (nI l) = nI (srtN l) := by
  unfold srt srtN nI
  rw [List.map_mergeSort]
  intro a _ b _
  simp
theorem values_s (h : List AObj) (k c m e : Nat) : SpecTo Tryz.prog 71 [.ref k c m e] h (.func (.func 100) [] [.ptr h.length 0 1]) (h ++ [⟨25, 1, [.ref k c m e]⟩]) := by
  refine SpecTo.intro (effS [] false) follows Tryz.func71 rfl rfl (by kernel_rfl) (Nat.le_of_ble_eq_true rfl) ?_
  simp (disch := first | assumption | omega | rfl | simp only [RH]) only [↓RP, RG, FX, RQ, ↓reduceIte, Nat.reduceEqDiff, reduceCtorEq, Nat.reduceBEq, Nat.reduceAdd, Nat.reduceLeDiff, args0_1]
  exact ⟨_, by rw [resVal_1 rfl]; simp (disch := first | assumption | omega | rfl | simp only [RH]) only [↓RP, RG, FX, RQ, ↓reduceIte, Nat.reduceEqDiff, reduceCtorEq, Nat.reduceBEq, Nat.reduceAdd, Nat.reduceLeDiff, raX_tmp, raX_cell, rvX_0, rvX_1, rvX_2, rvX_3, rvX_4, rvX_5]; first | done | rfl, Wk.of_eq rfl⟩
theorem sortedV_c (b : Bool) {l : List Int} (h0 : 0 < l.length) (hl : l.length ≤ 1000000) : Contract Tryz.prog 70 [.func (.func 100) [] [.spot false [LA b l]]] (LR false (srt l)) := by
  have h := Contract.ofSpec 6 (sorted_s [] (xs := l) (n := l.length) rfl h0 (valuesF_y false b l (by omega)) (by omega))
  have hs : (srt l).length = l.length := List.length_mergeSort _
  have e : resOf ([] ++ [(⟨3, 1, ints (srt l)⟩ : AObj)]) 6 (.ref ([] : List AObj).length 0 l.length l.length) = LR false (srt l) := by
    have hil : (ints (srt l)).length = l.length := by rw [ints_length, hs]
    show resOf [(⟨3, 1, ints (srt l)⟩ : AObj)] 6 (.ref 0 0 l.length l.length) = _
    simp only [resOf, List.getElem?_cons_zero, hil, if_pos, List.drop_zero, Nat.mul_one]
    rw [List.take_of_length_le (by rw [hil]; exact Nat.le_refl _), ints_res, LR, hs]
  rw [e] at h
  exact h
/-- The memory leads to nothing else. -/
theorem FS_shut (rows : List (List Int)) (n : Nat) (s : TS) : ∀ o ∈ FS rows n s, ∀ x ∈ o.cells, ren (keepF 6 []) 8 x = x := by
  have hk : ∀ i, i < 6 → keepF 6 [] i = some i := fun i hi => by simp [keepF, hi]
  intro o ho x hx
  simp only [FS, List.mem_cons, List.not_mem_nil, or_false] at ho
  have hints : ∀ l : List Int, x ∈ ints l → ren (keepF 6 []) 8 x = x := fun l h => by
    simp only [ints, List.mem_map] at h
    obtain ⟨u, _, rfl⟩ := h; rfl
  have hrows : ∀ rs : List AVal, (∀ y ∈ rs, ∃ b k l, y = .list true b k (ints l)) → x ∈ rs → ren (keepF 6 []) 8 x = x := fun rs h hx => by
    obtain ⟨b, k, l, rfl⟩ := h x hx
    simp only [ren, map_ren_ints]
  rcases ho with rfl | rfl | rfl | rfl | rfl | rfl
  · exact hints _ hx
  · exact hints _ hx
  · exact hints _ hx
  · simp only [List.mem_cons, List.not_mem_nil, or_false] at hx
    rcases hx with rfl | rfl | rfl | rfl | rfl | rfl | rfl
    · unfold ovV
      simp only [ren]
      congr 1
      unfold LL
      rw [List.map_map]
      refine List.map_congr_left fun r _ => ?_
      simp only [Function.comp, LR, ren, map_ren_ints]
    · simp [ren, hk]
    · simp [ren, hk]
    · simp [ren, hk]
    · unfold stV; split <;> simp [ren, hk]
    · rfl
    · unfold gw
      split <;> simp [ren, hk]
  · unfold stO at hx
    rw [go_cells] at hx
    exact hints _ hx
  · rw [go_cells] at hx
    refine hrows _ (fun y hy => ?_) hx
    simp only [rowsC, List.mem_map] at hy
    obtain ⟨l, _, rfl⟩ := hy
    exact ⟨_, _, _, rfl⟩
section
variable {ov : Nat → List Nat} {n : Nat} {rows : List (List Int)} (hn : n ≤ 1000) (hr : rows.length = n) (hrow : ∀ a, a < n → rows.getD a [] = nI (ov a)) (hol : ∀ a, a < n → (ov a).length ≤ n) (hV : ∀ x y, x < n → y ∈ ov x → y < n)
include hn hr hrow hol hV
theorem visit_s : ∀ (k : Nat) (s : TS) (G : List Nat) (a : Nat), TInv ov n s G → a < n → s.ix a = 0 → (∀ g, g ∈ G → Wy ov g a) → unvT n s ≤ k → SpecTo Tryz.prog 49 [.ptr 3 0 7, I a] (FS rows n s) (.tuple []) (FS rows n (tVis ov k s a))
  | 0, s, G, a, hs, ha, h0, hG, hk => by have := unv_enter ha h0; omega
  | k + 1, s, G, a, hs, ha, h0, hG, hk => by
    have hmid := mid_at hV (fun s G a => tVis_post hV k s G a) hs ha h0 hG hk
    have l1 := fI_len n fun x => (s.ix x : Int)
    have l2 := fI_len n fun x => (s.lo x : Int)
    have l3 := fI_len n s.pt
    have hmt : s.mt ≤ n := by have := hs.mtc; omega
    have hsj := hs.sj
    refine SpecTo.intro (effS [] false) follows Tryz.func49 rfl rfl (by kernel_rfl) (Nat.le_of_ble_eq_true rfl) ?_
    have hap : ∀ o0 o1 o2 o3 o5 : AObj, aAppend Tryz.prog 25 [o0, o1, o2, o3, stO s.st s.jk, o5] (stV 4 s.st s.jk) (.lit 1 [.val (.int .i64 a)]) = some (stV 4 (s.st ++ [a]) (s.jk.drop 1), [o0, o1, o2, o3, stO (s.st ++ [a]) (s.jk.drop 1), o5]) := fun o0 o1 o2 o3 o5 => append_st (h := [o0, o1, o2, o3, stO s.st s.jk, o5]) rfl (by omega)
    have hrl := LL_at (rs := rows) (a := a) (by omega)
    rw [hrow a ha] at hrl
    have hoa := hol a ha
    have hil : (nI (ov a)).length = (ov a).length := nI_len _
    unfold FS
    simp (disch := first | assumption | omega | rfl | simp only [RH]) only [↓RP, RG, FX, RQ, ↓reduceIte, Nat.reduceEqDiff, reduceCtorEq, Nat.reduceBEq, Nat.reduceAdd, Nat.reduceLeDiff, args0_2, hap, parts_stV, one_stV, ovV, hrl, Int.toNat_natCast]
    refine loopK_I [0, 1, 53, 54, 55] (fun j : Nat => j ≤ (ov a).length) (fun j => ⟨[(0, .ptr 3 0 7), (1, I a), (53, LR (nI (ov a)).isEmpty (nI (ov a))), (54, I (ov a).length), (55, I j)], FS rows n (tAt ov k a s j)⟩) (fun j => (ov a).length - j) 0 (by omega) ?_ ?_
    · simp only [↓RP, RG, FX, RQ, ↓reduceIte, Nat.reduceEqDiff, reduceCtorEq, Nat.reduceBEq, Nat.reduceAdd, Nat.reduceLeDiff]
      have e1 : (fI n fun x => (s.ix x : Int)).set a ((s.mt : Int) + 1) = fI n fun x => ((tEnter s a).ix x : Int) := by
        rw [fI_set, show (s.mt : Int) + 1 = ((s.mt + 1 : Nat) : Int) by omega, upd_cast]; rfl
      have e2 : (fI n fun x => (s.lo x : Int)).set a ((s.mt : Int) + 1) = fI n fun x => ((tEnter s a).lo x : Int) := by
        rw [fI_set, show (s.mt : Int) + 1 = ((s.mt + 1 : Nat) : Int) by omega, upd_cast]; rfl
      rw [e1, e2, hil]
      rfl
    intro j hj
    obtain ⟨hm, hu⟩ := hmid j hj
    obtain ⟨t, ht⟩ : ∃ t, tAt ov k a s j = t := ⟨_, rfl⟩
    rw [ht] at hm hu
    simp only [ht]
    have m1 := fI_len n fun x => (t.ix x : Int)
    have m2 := fI_len n fun x => (t.lo x : Int)
    have m3 := fI_len n t.pt
    have hat : a ∈ t.st := by obtain ⟨new, h⟩ := hm.st; rw [h]; simp
    by_cases hlt : j < (ov a).length
    · obtain ⟨b, hb⟩ : ∃ b, (ov a)[j]? = some b := ⟨_, List.getElem?_eq_getElem hlt⟩
      have hbm : b ∈ ov a := List.mem_of_getElem? hb
      have hbn := hV a b ha hbm
      have hgb : (nI (ov a)).getD j 0 = (b : Int) := by simp [nI, List.getD_eq_getElem?_getD, hb]
      have hsucc := tAt_succ (k := k) (s := s) hb
      rw [ht] at hsucc
      have gix : (fI n fun x => (t.ix x : Int)).getD b 0 = (t.ix b : Int) := fI_get hbn
      have glo : (fI n fun x => (t.lo x : Int)).getD a 0 = (t.lo a : Int) := fI_get ha
      have gpt : (fI n t.pt).getD b 0 = t.pt b := fI_get hbn
      by_cases hb0 : t.ix b = 0
      · have hrec := visit_s k t (a :: G) b hm.inv hbn hb0 (fun g hg => by
          rcases List.mem_cons.1 hg with rfl | hg
          · exact .one hbm
          · exact (hG g hg).trans (.one hbm)) hu
        have hstep : tEdge (tVis ov k) a t b = { tVis ov k t b with lo := updN (tVis ov k t b).lo a (min ((tVis ov k t b).lo a) ((tVis ov k t b).lo b)) } := if_pos hb0
        have hli : (fI n fun x => (t.ix x : Int)).getD b 0 = 0 := by rw [gix, hb0]; rfl
        rw [hstep] at hsucc
        generalize tVis ov k t b = t1 at *
        have k1 := fI_len n fun x => (t1.ix x : Int)
        have k2 := fI_len n fun x => (t1.lo x : Int)
        have k3 := fI_len n t1.pt
        have gla : (fI n fun x => (t1.lo x : Int)).getD a 0 = (t1.lo a : Int) := fI_get ha
        have glb : (fI n fun x => (t1.lo x : Int)).getD b 0 = (t1.lo b : Int) := fI_get hbn
        have e1 : (fI n fun x => (t1.lo x : Int)).set a (min (t1.lo a : Int) (t1.lo b : Int)) = fI n fun x => ((updN t1.lo a (min (t1.lo a) (t1.lo b)) x : Nat) : Int) := by
          rw [fI_set, show min (t1.lo a : Int) (t1.lo b : Int) = ((min (t1.lo a) (t1.lo b) : Nat) : Int) by omega, upd_cast]
        unfold FS
        simp (disch := first | assumption | omega | rfl | simp only [RH]) only [↓RP, RG, FX, RQ, ↓reduceIte, Nat.reduceEqDiff, reduceCtorEq, Nat.reduceBEq, Nat.reduceAdd, Nat.reduceLeDiff, hgb, hli, Int.toNat_natCast]
        refine callK_T rfl hrec ?_
        unfold FS
        simp (disch := first | assumption | omega | rfl | simp only [RH]) only [↓RP, RG, FX, RQ, ↓reduceIte, Nat.reduceEqDiff, reduceCtorEq, Nat.reduceBEq, Nat.reduceAdd, Nat.reduceLeDiff, gla, glb, Int.toNat_natCast, e1]
        exact ⟨j + 1, hlt, by rw [hsucc]; rfl, by omega⟩
      · have hnz : ¬ ((t.ix b : Int) = 0) := by omega
        by_cases hp : t.pt b < 0
        · have hstep : tEdge (tVis ov k) a t b = { t with lo := updN t.lo a (min (t.lo a) (t.ix b)) } := by unfold tEdge; rw [if_neg hb0, if_pos hp]
          rw [hstep] at hsucc
          have e1 : (fI n fun x => (t.lo x : Int)).set a (min (t.lo a : Int) (t.ix b : Int)) = fI n fun x => ((updN t.lo a (min (t.lo a) (t.ix b)) x : Nat) : Int) := by
            rw [fI_set, show min (t.lo a : Int) (t.ix b : Int) = ((min (t.lo a) (t.ix b) : Nat) : Int) by omega, upd_cast]
          unfold FS
          simp (disch := first | assumption | omega | rfl | simp only [RH]) only [↓RP, RG, FX, RQ, ↓reduceIte, Nat.reduceEqDiff, reduceCtorEq, Nat.reduceBEq, Nat.reduceAdd, Nat.reduceLeDiff, hgb, gix, gpt, glo, Int.toNat_natCast, e1]
          exact ⟨j + 1, hlt, by rw [hsucc]; rfl, by omega⟩
        · have hstep : tEdge (tVis ov k) a t b = t := by unfold tEdge; rw [if_neg hb0, if_neg hp]
          rw [hstep] at hsucc
          unfold FS
          simp (disch := first | assumption | omega | rfl | simp only [RH]) only [↓RP, RG, FX, RQ, ↓reduceIte, Nat.reduceEqDiff, reduceCtorEq, Nat.reduceBEq, Nat.reduceAdd, Nat.reduceLeDiff, hgb, gix, gpt, Int.toNat_natCast]
          exact ⟨j + 1, hlt, by rw [hsucc]; rfl, by omega⟩
    · obtain rfl : (ov a).length = j := by omega
      have hres : tVis ov (k + 1) s a = tFin a t := by rw [← ht, tAt_all]; rfl
      have glo : (fI n fun x => (t.lo x : Int)).getD a 0 = (t.lo a : Int) := fI_get ha
      have gix : (fI n fun x => (t.ix x : Int)).getD a 0 = (t.ix a : Int) := fI_get ha
      rw [hres]
      unfold tFin
      by_cases hla : t.lo a = t.ix a
      · rw [if_pos hla]
        have hla2 : (t.lo a : Int) = (t.ix a : Int) := by omega
        unfold FS
        have hidx := List.idxOf_lt_length_of_mem hat
        have hsj2 := hm.inv.sj
        have hmt2 : t.mt ≤ n := by have := hm.inv.mtc; omega
        have hpl2 := hm.inv.pl
        have hI := index_c (decide (t.st.length + t.jk.length = 0)) (nI t.st) a (by rw [nI_len]; omega) _ (isPl_idx hat)
        simp (disch := first | assumption | omega | rfl | simp only [RH]) only [↓RP, RG, FX, RQ, ↓reduceIte, Nat.reduceEqDiff, reduceCtorEq, Nat.reduceBEq, Nat.reduceAdd, Nat.reduceLeDiff, glo, gix, hla2, Int.toNat_natCast]
        refine callK_F 6 hI (by simp only [List.map_cons, List.map_nil]; rw [argOf_stV (by rfl)]; rfl) (.inl rfl) ?_
        have hslo : ∀ o0 o1 o2 o3 o5 : AObj, aSlice Tryz.prog 25 [o0, o1, o2, o3, stO t.st t.jk, o5] (stV 4 t.st t.jk) (some (I (t.st.idxOf a : Nat))) none none = some (.ref 4 (t.st.idxOf a) (t.st.length - t.st.idxOf a) (t.st.length + t.jk.length)) := fun o0 o1 o2 o3 o5 => slice_st_lo (h := [o0, o1, o2, o3, stO t.st t.jk, o5]) rfl hidx
        simp (disch := first | assumption | omega | rfl | simp only [RH]) only [↓RP, RG, FX, RQ, ↓reduceIte, Nat.reduceEqDiff, reduceCtorEq, Nat.reduceBEq, Nat.reduceAdd, Nat.reduceLeDiff, hslo]
        refine callK_T rfl (values_s _ _ _ _ _) ?_
        simp (disch := first | assumption | omega | rfl | simp only [RH]) only [↓RP, RG, FX, RQ, ↓reduceIte, Nat.reduceEqDiff, reduceCtorEq, Nat.reduceBEq, Nat.reduceAdd, Nat.reduceLeDiff]
        have hseg : 0 < (t.st.drop (t.st.idxOf a)).length := by rw [List.length_drop]; omega
        have hsl : (nI (t.st.drop (t.st.idxOf a))).length = (t.st.drop (t.st.idxOf a)).length := nI_len _
        have hdl : (t.st.drop (t.st.idxOf a)).length ≤ n := by rw [List.length_drop]; omega
        have hS := sortedV_c false (l := nI (t.st.drop (t.st.idxOf a))) (by omega) (by omega)
        rw [srt_nI] at hS
        refine callK_F 6 hS (by
          simp only [List.map_cons, List.map_nil, argOf]
          have := argOf_seg (h := [(⟨3, 1, ints (fI n fun x => (t.ix x : Int))⟩ : AObj), ⟨3, 1, ints (fI n fun x => (t.lo x : Int))⟩, ⟨3, 1, ints (fI n t.pt)⟩, ⟨79, 7, [ovV n rows, .ref 0 0 n n, .ref 1 0 n n, .ref 2 0 n n, stV 4 t.st t.jk, I t.mt, gw true 5 (rowsC t.ps)]⟩, stO t.st t.jk, go 25 (rowsC t.ps), ⟨25, 1, [.ref 4 (t.st.idxOf a) (t.st.length - t.st.idxOf a) (t.st.length + t.jk.length)]⟩]) (k := 4) (m := 2) (c := t.st.idxOf a) (st := t.st) (jk := t.jk) rfl hidx
          simp
          exact this) (.inl (by simp [allFresh, ints_fresh])) ?_
        have hshi : ∀ o0 o1 o2 o3 o5 o6 : AObj, aSlice Tryz.prog 25 [o0, o1, o2, o3, stO t.st t.jk, o5, o6] (stV 4 t.st t.jk) none (some (I (t.st.idxOf a : Nat))) none = some (stV 4 (t.st.take (t.st.idxOf a)) (t.st.drop (t.st.idxOf a) ++ t.jk)) := fun o0 o1 o2 o3 o5 o6 => slice_st_hi (h := [o0, o1, o2, o3, stO t.st t.jk, o5, o6]) rfl (by omega) (by omega)
        have hso : stO t.st t.jk = stO (t.st.take (t.st.idxOf a)) (t.st.drop (t.st.idxOf a) ++ t.jk) := by
          unfold stO; rw [← List.append_assoc, List.take_append_drop]
        obtain ⟨ms, hms⟩ : ∃ ms, srtN (t.st.drop (t.st.idxOf a)) = ms := ⟨_, rfl⟩
        rw [hms]
        have hml : ms.length = (t.st.drop (t.st.idxOf a)).length := by rw [← hms]; exact List.length_mergeSort _
        have hmm : ∀ x, x ∈ ms ↔ x ∈ t.st.drop (t.st.idxOf a) := fun x => by rw [← hms]; exact srtN_mem
        have hmn : ∀ x, x ∈ ms → x < n := fun x hx => hm.inv.vin x ((hm.inv.mem x).1 (List.mem_of_mem_drop ((hmm x).1 hx))).1
        have hmi : (nI ms).length = ms.length := nI_len _
        have hrl2 : (rowsC t.ps).length = t.ps.length := by simp [rowsC]
        simp (disch := first | assumption | omega | rfl | simp only [RH]) only [↓RP, RG, FX, RQ, ↓reduceIte, Nat.reduceEqDiff, reduceCtorEq, Nat.reduceBEq, Nat.reduceAdd, Nat.reduceLeDiff, hshi, parts_stV, one_stV]
        refine loopK_I [0, 7, 159, 160, 161] (fun i : Nat => i ≤ ms.length) (fun i => ⟨[(0, .ptr 3 0 7), (7, LR false (nI ms)), (159, LR false (nI ms)), (160, I ms.length), (161, I i)], [⟨3, 1, ints (fI n fun x => (t.ix x : Int))⟩, ⟨3, 1, ints (fI n fun x => (t.lo x : Int))⟩, ⟨3, 1, ints (fI n fun x => if x ∈ ms.take i then (t.ps.length : Int) else t.pt x)⟩, ⟨79, 7, [ovV n rows, .ref 0 0 n n, .ref 1 0 n n, .ref 2 0 n n, stV 4 (t.st.take (t.st.idxOf a)) (t.st.drop (t.st.idxOf a) ++ t.jk), I t.mt, gw true 5 (rowsC t.ps)]⟩, stO t.st t.jk, go 25 (rowsC t.ps), ⟨25, 1, [.ref 4 (t.st.idxOf a) (t.st.length - t.st.idxOf a) (t.st.length + t.jk.length)]⟩]⟩) (fun i => ms.length - i) 0 (by omega) ?_ ?_
        · simp only [↓RP, RG, FX, RQ, ↓reduceIte, Nat.reduceEqDiff, reduceCtorEq, Nat.reduceBEq, Nat.reduceAdd, Nat.reduceLeDiff, hmi]
          simp [keepEnv, look]
        intro i hi
        have m4 := fI_len n fun x => if x ∈ ms.take i then (t.ps.length : Int) else t.pt x
        by_cases hlt2 : i < ms.length
        · obtain ⟨x, hx⟩ : ∃ x, ms[i]? = some x := ⟨_, List.getElem?_eq_getElem hlt2⟩
          have hxm := List.mem_of_getElem? hx
          have hxn := hmn x hxm
          have hgx : (nI ms).getD i 0 = (x : Int) := by simp [nI, List.getD_eq_getElem?_getD, hx]
          have hgs : ∀ o : Option AObj, gS (some (go 25 (rowsC t.ps))) (rowsC t.ps) = some (t.ps.length, rowsC t.ps) := fun _ => by rw [gS_go, hrl2]
          have e1 : (fI n fun y => if y ∈ ms.take i then (t.ps.length : Int) else t.pt y).set x (t.ps.length : Int) = fI n fun y => if y ∈ ms.take (i + 1) then (t.ps.length : Int) else t.pt y := by
            rw [fI_set]
            congr 1
            funext y
            rw [List.take_add_one, hx, Option.toList_some]
            by_cases hyx : y = x
            · subst hyx; rw [updN_same, if_pos (by simp)]
            · rw [updN_other _ _ hyx]
              simp only [List.mem_append, List.mem_singleton, hyx, or_false]
          simp (disch := first | assumption | omega | rfl | simp only [RH]) only [↓RP, RG, FX, RQ, ↓reduceIte, Nat.reduceEqDiff, reduceCtorEq, Nat.reduceBEq, Nat.reduceAdd, Nat.reduceLeDiff, hgx, Int.toNat_natCast, sview_gw, hgs none, e1]
          exact ⟨i + 1, hlt2, rfl, by omega⟩
        · obtain rfl : ms.length = i := by omega
          have hap2 : ∀ o0 o1 o2 o3 o4 o6 : AObj, aAppend Tryz.prog 28 [o0, o1, o2, o3, o4, go 25 (rowsC t.ps), o6] (gw true 5 (rowsC t.ps)) (.lit 1 [.list true false ms.length (ints (nI ms))]) = some (gw true 5 (rowsC t.ps ++ [.list true false ms.length (ints (nI ms))]), [o0, o1, o2, o3, o4, go 25 (rowsC t.ps ++ [.list true false ms.length (ints (nI ms))]), o6]) := fun o0 o1 o2 o3 o4 o6 => append_list (h := [o0, o1, o2, o3, o4, go 25 (rowsC t.ps), o6]) rfl (by omega)
          simp (disch := first | assumption | omega | rfl | simp only [RH]) only [↓RP, RG, FX, RQ, ↓reduceIte, Nat.reduceEqDiff, reduceCtorEq, Nat.reduceBEq, Nat.reduceAdd, Nat.reduceLeDiff, hap2, hmi]
          have e3 : (fI n fun x => if x ∈ ms.take ms.length then (t.ps.length : Int) else t.pt x) = fI n (tPop a t).pt := by
            congr 1
            funext x
            rw [List.take_length]
            show _ = if x ∈ tSeg a t then (t.ps.length : Int) else t.pt x
            unfold tSeg
            simp only [hmm]
          have e4 : rowsC t.ps ++ [.list true false ms.length (ints (nI ms))] = rowsC (tPop a t).ps := by
            show _ = rowsC (t.ps ++ [srtN (tSeg a t)])
            unfold tSeg
            rw [hms]
            simp [rowsC, nI_len]
          rw [e3, e4, hso]
          exact ⟨_, by rw [resVal_0 rfl]; simp (disch := first | assumption | omega | rfl | simp only [RH]) only [↓RP, RG, FX, RQ, ↓reduceIte, Nat.reduceEqDiff, reduceCtorEq, Nat.reduceBEq, Nat.reduceAdd, Nat.reduceLeDiff, raX_tmp, raX_cell, rvX_0, rvX_1, rvX_2, rvX_3, rvX_4, rvX_5]; first | done | rfl, (Wk.drop (hb := FS rows n s) (h1 := FS rows n (tPop a t)) (gs := [⟨25, 1, [.ref 4 (t.st.idxOf a) (t.st.length - t.st.idxOf a) (t.st.length + t.jk.length)]⟩]) 8 [] rfl (by simp) (by simp) (fun i o ho => .inr fun x hx => FS_shut rows n _ o (List.mem_of_getElem? ho) x hx)).trans (Wk.of_eq (by first | rfl | simp))⟩
      · rw [if_neg hla]
        have hla2 : ¬ (t.lo a : Int) = (t.ix a : Int) := by omega
        unfold FS
        simp (disch := first | assumption | omega | rfl | simp only [RH]) only [↓RP, RG, FX, RQ, ↓reduceIte, Nat.reduceEqDiff, reduceCtorEq, Nat.reduceBEq, Nat.reduceAdd, Nat.reduceLeDiff, glo, gix, Int.toNat_natCast]
        exact ⟨_, by rw [resVal_0 rfl]; simp (disch := first | assumption | omega | rfl | simp only [RH]) only [↓RP, RG, FX, RQ, ↓reduceIte, Nat.reduceEqDiff, reduceCtorEq, Nat.reduceBEq, Nat.reduceAdd, Nat.reduceLeDiff, raX_tmp, raX_cell, rvX_0, rvX_1, rvX_2, rvX_3, rvX_4, rvX_5]; first | done | rfl, Wk.of_eq rfl⟩
end
end Go.Proofs.YtdbpkjanlafajaaGreatDoor

/- Chapter 11: which threads lie over each one, by the program. -/
set_option linter.unusedSimpArgs false
set_option linter.unusedVariables false
set_option maxRecDepth 100000
namespace Go.Proofs.YtdbpkjanlafajaaGreatDoor
open Go Go.Proofs Go.AW

theorem rem_at {x n : Nat} (hn : 0 < n) (hn2 : n ≤ 1000000000) : aInt .rem .i64 (x : Int) (n : Int) = some (I (x % n : Nat)) := by
  have hx : (x : Int).tmod n = ((x % n : Nat) : Int) := by rw [Int.tmod_eq_emod_of_nonneg (by omega)]; exact (Int.natCast_emod x n).symm
  simp only [aInt]; rw [if_neg (by omega), hx]
theorem quo_at {x n : Nat} (hn : 0 < n) (hx2 : x ≤ 1000000000) : aInt .quo .i64 (x : Int) (n : Int) = some (I (x / n : Nat)) := by
  have h := quo_int (a := (x : Int)) (b := (n : Int)) (by omega) (by omega) (by omega)
  rw [Int.toNat_natCast, Int.toNat_natCast] at h
  exact h
theorem sel_add {n c : Nat} {p p' : Nat → Bool} (hc : c < n) (h : ∀ b, b < n → (p' b = true ↔ p b = true ∨ b = c)) (hlt : ∀ b, b < n → p b = true → b < c) : sel n p' = sel n p ++ [(c : Int)] := by
  refine sinc_ext _ _ (sel_inc n p') (List.pairwise_append.2 ⟨sel_inc n p, by simp, fun x hx y hy => ?_⟩) fun x => ?_
  · obtain ⟨i, h1, h2, rfl⟩ := sel_mem.1 hx
    simp only [List.mem_singleton] at hy
    subst hy
    have := hlt i h1 h2; omega
  · rw [sel_mem, List.mem_append, sel_mem, List.mem_singleton]
    constructor
    · rintro ⟨i, h1, h2, rfl⟩
      rcases (h i h1).1 h2 with h3 | rfl
      · exact .inl ⟨i, h1, h3, rfl⟩
      · exact .inr rfl
    · rintro (⟨i, h1, h2, rfl⟩ | rfl)
      · exact ⟨i, h1, (h i h1).2 (.inl h2), rfl⟩
      · exact ⟨c, hc, (h c hc).2 (.inr rfl), rfl⟩
/-- The cell where two threads cross. -/
def cellX (W a b : Nat) : Nat := if a < W then W * (b - W) + a else W * (a - W) + b
def qR (W : Nat) (l : List Bool) (i a b : Nat) : Bool := ov W l b a && decide (cellX W a b < i)
def aRs (W n : Nat) (l : List Bool) (i : Nat) : List (List Int) := (List.range n).map fun a => sel n (qR W l i a)
theorem aRs_len (W n : Nat) (l : List Bool) (i : Nat) : (aRs W n l i).length = n := by simp [aRs]
theorem aRs_get {W n : Nat} {l : List Bool} {i a : Nat} (h : a < n) : (aRs W n l i).getD a [] = sel n (qR W l i a) := by
  simp [aRs, List.getD_eq_getElem?_getD, h]
theorem aRs_zero (W n : Nat) (l : List Bool) : aRs W n l 0 = List.replicate n [] := by
  unfold aRs
  rw [List.eq_replicate_iff]
  refine ⟨by simp, fun r hr => ?_⟩
  obtain ⟨a, _, rfl⟩ := List.mem_map.1 hr
  exact sel_none fun b _ => by simp [qR]
theorem aRs_all {W H n : Nat} (hN : W + H = n) {l : List Bool} : aRs W n l (W * H) = abv W n l := by
  unfold aRs abv
  refine List.map_congr_left fun a ha => ?_
  have ha' := List.mem_range.1 ha
  have hf : ∀ b, b < n → qR W l (W * H) a b = ov W l b a := fun b hb => by
    unfold qR
    cases ho : ov W l b a with
    | false => rfl
    | true =>
      have : cellX W a b < W * H := by
        unfold cellX
        unfold ov at ho
        by_cases h1 : a < W
        · rw [if_pos h1]
          by_cases h2 : b < W
          · rw [if_pos h2, if_pos h1] at ho; cases ho
          · exact idx_lt h1 (by omega)
        · rw [if_neg h1]
          by_cases h2 : b < W
          · exact idx_lt h2 (by omega)
          · rw [if_neg h2, if_neg h1] at ho; cases ho
      simp [this]
  unfold sel
  congr 1
  exact List.filter_congr fun b hb => hf b (List.mem_range.1 hb)
theorem cell_eq {W x y b : Nat} (hb : b < W) (hx : x < W) {c : Nat} (h : W * c + b = W * y + x) : c = y ∧ b = x := by
  have h1 : (W * c + b) / W = c := by rw [Nat.mul_add_div (by omega), Nat.div_eq_of_lt hb, Nat.add_zero]
  have h2 : (W * y + x) / W = y := by rw [Nat.mul_add_div (by omega), Nat.div_eq_of_lt hx, Nat.add_zero]
  have h3 : (W * c + b) % W = b := by rw [Nat.mul_add_mod]; exact Nat.mod_eq_of_lt hb
  have h4 : (W * y + x) % W = x := by rw [Nat.mul_add_mod]; exact Nat.mod_eq_of_lt hx
  rw [h] at h1 h3
  exact ⟨by omega, by omega⟩
/-- One cell more. -/
theorem aRs_step {W H n : Nat} (hN : W + H = n) {l : List Bool} {x y : Nat} (hx : x < W) (hy : y < H) (u : Bool) (hu : l.getD (W * y + x) false = u) :
    aRs W n l (W * y + x + 1) = (aRs W n l (W * y + x)).set (if u then W + y else x) ((aRs W n l (W * y + x)).getD (if u then W + y else x) [] ++ [((if u then x else W + y : Nat) : Int)]) := by
  have hcell : ∀ a b, a < n → b < n → ov W l b a = true → (cellX W a b < W * y + x + 1 ↔ cellX W a b < W * y + x ∨ (a = (if u then W + y else x) ∧ b = (if u then x else W + y))) := by
    intro a b ha hb ho
    unfold cellX
    unfold ov at ho
    by_cases h1 : a < W
    · rw [if_pos h1]
      by_cases h2 : b < W
      · rw [if_pos h2, if_pos h1] at ho; cases ho
      · rw [if_neg h2, if_pos h1] at ho
        constructor
        · intro h
          by_cases he : W * (b - W) + a = W * y + x
          · obtain ⟨e1, e2⟩ := cell_eq h1 hx he
            rw [e1, e2, hu] at ho
            have hu' : u = false := by cases u <;> simp_all
            subst hu'
            exact .inr ⟨e2, by simp; omega⟩
          · exact .inl (by omega)
        · rintro (h | ⟨h3, h4⟩)
          · omega
          · cases u with
            | true => simp at h3; omega
            | false =>
              simp at h3 h4
              subst h3; subst h4
              rw [Nat.add_sub_cancel_left]; omega
    · rw [if_neg h1]
      by_cases h2 : b < W
      · rw [if_pos h2, if_neg h1] at ho
        constructor
        · intro h
          by_cases he : W * (a - W) + b = W * y + x
          · obtain ⟨e1, e2⟩ := cell_eq h2 hx he
            rw [e1, e2, hu] at ho
            subst ho
            exact .inr ⟨by simp; omega, by simpa using e2⟩
          · exact .inl (by omega)
        · rintro (h | ⟨h3, h4⟩)
          · omega
          · cases u with
            | false => simp at h4; omega
            | true =>
              simp at h3 h4
              subst h3; subst h4
              rw [Nat.add_sub_cancel_left]; omega
      · rw [if_neg h2, if_neg h1] at ho; cases ho
  have ha0 : (if u then W + y else x) < n := by cases u <;> simp <;> omega
  have hc0 : (if u then x else W + y) < n := by cases u <;> simp <;> omega
  rw [aRs_get ha0]
  refine List.ext_getElem (by simp [aRs]) fun a h1 h2 => ?_
  have han : a < n := by simpa [aRs] using h1
  rw [List.getElem_set]
  have e1 : (aRs W n l (W * y + x + 1))[a] = sel n (qR W l (W * y + x + 1) a) := by simp [aRs]
  have e2 : (aRs W n l (W * y + x))[a]'(by simpa [aRs] using han) = sel n (qR W l (W * y + x) a) := by simp [aRs]
  rw [e1]
  by_cases haa : (if u then W + y else x) = a
  · rw [if_pos haa, haa]
    refine sel_add hc0 (fun b hb => ?_) fun b hb hq => ?_
    · unfold qR
      rw [Bool.and_eq_true, Bool.and_eq_true, decide_eq_true_eq, decide_eq_true_eq]
      constructor
      · rintro ⟨k1, k2⟩
        rcases (hcell a b han hb k1).1 k2 with k3 | k3
        · exact .inl ⟨k1, k3⟩
        · exact .inr k3.2
      · rintro (⟨k1, k2⟩ | k1)
        · exact ⟨k1, by omega⟩
        · have k2 : ov W l b a = true := by
            subst k1; subst haa
            unfold ov
            cases u with
            | true => simp [hx, show ¬ W + y < W by omega]; simpa using hu
            | false => simp [hx, show ¬ W + y < W by omega]; simpa using hu
          exact ⟨k2, (hcell a b han hb k2).2 (.inr ⟨haa.symm, k1⟩)⟩
    · unfold qR at hq
      rw [Bool.and_eq_true, decide_eq_true_eq] at hq
      obtain ⟨k1, k2⟩ := hq
      unfold ov at k1
      unfold cellX at k2
      subst haa
      cases u with
      | true =>
        simp only [if_true, show ¬ W + y < W by omega, if_false] at k1 k2 ⊢
        rw [Nat.add_sub_cancel_left] at k2; omega
      | false =>
        simp only [Bool.false_eq_true, if_false, hx, if_true] at k1 k2 ⊢
        by_cases hbW : b < W
        · omega
        · have : W * (b - W) < W * y := by omega
          have := Nat.lt_of_mul_lt_mul_left this
          omega
  · rw [if_neg haa, e2]
    unfold sel
    congr 1
    refine List.filter_congr fun b hb => ?_
    have hbn := List.mem_range.1 hb
    unfold qR
    cases ho : ov W l b a with
    | false => rfl
    | true =>
      simp only [Bool.true_and, decide_eq_decide]
      rw [hcell a b han hbn ho]
      constructor
      · rintro (h | h)
        · exact h
        · exact absurd h.1.symm haa
      · exact .inl
section
variable {o0 o1 : AObj} {rs : List (List Int)}
theorem h2_at {a : Nat} (ha : a < rs.length) : (o0 :: o1 :: gos rs)[2 + a]? = some (go 3 (ints (rs.getD a []))) := by
  rw [show 2 + a = a + 2 by omega]
  simp only [List.getElem?_cons_succ]
  exact gos_at ha
theorem h2_set {a : Nat} (r : List Int) : (o0 :: o1 :: gos rs).set (2 + a) (go 3 (ints r)) = o0 :: o1 :: gos (rs.set a r) := by
  rw [show 2 + a = a + 2 by omega]
  simp only [List.set_cons_succ]
  rw [gos_set]
end
theorem aboveP_c {W H n : Nat} (hN : W + H = n) (hW0 : 0 < W) (hH0 : 0 < H) (hW : W ≤ 64) (hH : H ≤ 64) (b : Bool) {l : List Bool} (hn : l.length = W * H) : Contract Tryz.prog 47 [GA W H b l] (.list true false n (LL (abv W n l))) := by
  have hWH : W * H ≤ 64 * 64 := Nat.mul_le_mul hW hH
  have hNi : ((W : Int) + (H : Int)).toNat = n := by omega
  have hcell : ofCell (.slice none 0 0) = .cap0 true := rfl
  refine Contract.intro (effS [] false) 6 follows Tryz.func47 rfl rfl (by kernel_rfl) (Nat.le_of_ble_eq_true rfl) ?_
  simp (disch := first | assumption | omega | rfl | simp only [RH]) only [↓RP, RG, FX, RQ, ↓reduceIte, Nat.reduceEqDiff, reduceCtorEq, Nat.reduceBEq, Nat.reduceAdd, Nat.reduceLeDiff, args0_1, make_one, hNi, hcell]
  refine loopK_WW [1, 3, 15, 16, 17] (fun i : Nat => i ≤ W * H) (fun i : Nat => ⟨[(1, .ptr 0 0 3), (3, .ref 1 0 n n), (15, BA b l), (16, I (W * H : Nat)), (17, I i)], ⟨24, 3, [I W, I H, BA b l]⟩ :: ⟨25, 1, gws 2 (aRs W n l i)⟩ :: gos (aRs W n l i)⟩) (fun i => W * H - i) 0 (by omega) ?_ ?_
  · simp only [↓RP, RG, FX, RQ, ↓reduceIte, Nat.reduceEqDiff, reduceCtorEq, Nat.reduceBEq, Nat.reduceAdd, Nat.reduceLeDiff]
    rw [aRs_zero, ← hn]
    exact Wk.weak (fun t => .refl _) (.cons _ _ _ _ (WL.refl _) (.cons _ _ _ _ (WL_gws 2 n) (.nil _ (gos_nil n))))
  intro i hi
  by_cases hlt : i < W * H
  · have hm : i % W < W := Nat.mod_lt _ hW0
    have hd : i / W < H := Nat.div_lt_of_lt_mul hlt
    have hid : W * (i / W) + i % W = i := Nat.div_add_mod i W
    obtain ⟨u, hu⟩ : ∃ u, l.getD i false = u := ⟨_, rfl⟩
    have hst := aRs_step hN (l := l) hm hd u (by rw [hid]; exact hu)
    rw [hid] at hst
    have r1 := rem_at (x := i) hW0 (by omega)
    have q1 := quo_at (x := i) hW0 (by omega)
    generalize i / W = y at *
    generalize i % W = x at *
    have la := aRs_len W n l i
    have hlen : ∀ a, a < n → ((aRs W n l i).getD a []).length ≤ 1000 := fun a ha => by rw [aRs_get ha]; have := sel_len n (qR W l i a); omega
    generalize aRs W n l i = rs at *
    generalize hrs' : aRs W n l (i + 1) = rs' at *
    have gl : (gws 2 rs).length = n := by rw [gws_len]; exact la
    have hcst : (W : Int) + (y : Int) = ((W + y : Nat) : Int) := by omega
    cases u with
    | true =>
      rw [if_pos rfl, if_pos rfl] at hst
      have hb := hlen (W + y) (by omega)
      have a1 := gws_at (k := 2) (show W + y < rs.length by omega)
      have o1 : (⟨24, 3, [I W, I H, BA b l]⟩ :: ⟨25, 1, gws 2 rs⟩ :: gos rs)[2 + (W + y)]? = some (go 3 (ints (rs.getD (W + y) []))) := h2_at (by omega)
      have t1 : ∀ g g', (g :: g' :: gos rs).set (2 + (W + y)) (go 3 (ints (rs.getD (W + y) [] ++ [(x : Int)]))) = g :: g' :: gos rs' := fun g g' => by rw [h2_set, ← hst]
      have p1 : (gws 2 rs).set (W + y) (gw true (2 + (W + y)) (ints (rs.getD (W + y) [] ++ [(x : Int)]))) = gws 2 rs' := by rw [gws_set, ← hst]
      simp (disch := first | assumption | omega | rfl | simp only [RH]) only [↓RP, RG, FX, RQ, ↓reduceIte, Nat.reduceEqDiff, reduceCtorEq, Nat.reduceBEq, Nat.reduceAdd, Nat.reduceLeDiff, hu, r1, q1, hcst, cA_any, a1, sX_gw, append_int, o1, t1, p1, Int.toNat_natCast]
      exact ⟨i + 1, hlt, Wk.of_eq (by rw [hrs']; rfl), by omega⟩
    | false =>
      rw [if_neg (by simp), if_neg (by simp)] at hst
      have hb := hlen (x) (by omega)
      have a1 := gws_at (k := 2) (show x < rs.length by omega)
      have o1 : (⟨24, 3, [I W, I H, BA b l]⟩ :: ⟨25, 1, gws 2 rs⟩ :: gos rs)[2 + x]? = some (go 3 (ints (rs.getD (x) []))) := h2_at (by omega)
      have t1 : ∀ g g', (g :: g' :: gos rs).set (2 + x) (go 3 (ints (rs.getD (x) [] ++ [((W + y : Nat) : Int)]))) = g :: g' :: gos rs' := fun g g' => by rw [h2_set, ← hst]
      have p1 : (gws 2 rs).set (x) (gw true (2 + x) (ints (rs.getD (x) [] ++ [((W + y : Nat) : Int)]))) = gws 2 rs' := by rw [gws_set, ← hst]
      simp (disch := first | assumption | omega | rfl | simp only [RH]) only [↓RP, RG, FX, RQ, ↓reduceIte, Nat.reduceEqDiff, reduceCtorEq, Nat.reduceBEq, Nat.reduceAdd, Nat.reduceLeDiff, hu, r1, q1, hcst, cA_any, a1, sX_gw, append_int, o1, t1, p1, Int.toNat_natCast]
      exact ⟨i + 1, hlt, Wk.of_eq (by rw [hrs']; rfl), by omega⟩
  · obtain rfl : W * H = i := by omega
    have hl := aRs_len W n l (W * H)
    have hg : (gws 2 (aRs W n l (W * H))).length = n := by rw [gws_len, hl]
    simp (disch := first | assumption | omega | rfl | simp only [RH]) only [↓RP, RG, FX, RQ, ↓reduceIte, Nat.reduceEqDiff, reduceCtorEq, Nat.reduceBEq, Nat.reduceAdd, Nat.reduceLeDiff]
    have f1 := gws_res (h := ⟨24, 3, [I W, I H, BA b l]⟩ :: ⟨25, 1, gws 2 (aRs W n l (W * H))⟩ :: gos (aRs W n l (W * H))) (k := 2) (rs := aRs W n l (W * H)) 3 (fun i hi => h2_at hi)
    rw [resVal_1 rfl]; simp (disch := first | assumption | omega | rfl | simp only [RH]) only [↓RP, RG, FX, RQ, ↓reduceIte, Nat.reduceEqDiff, reduceCtorEq, Nat.reduceBEq, Nat.reduceAdd, Nat.reduceLeDiff, RS]
    rw [rX_any hg, f1, aRs_all hN]
end Go.Proofs.YtdbpkjanlafajaaGreatDoor

/- Chapter 11: the program's way to the parts' order, step by step. Plain. -/
set_option linter.unusedSimpArgs false
set_option linter.unusedVariables false
set_option maxRecDepth 100000
namespace Go.Proofs.YtdbpkjanlafajaaGreatDoor
open Go Go.Proofs Go.AW

def gRow (ov : Nat → List Nat) (P : Nat → Nat) (a : Nat) (s : GSt) (j : Nat) : GSt := ((ov a).take j).foldl (fun s b => gStep s (P a) (P b)) s
def gAll (ov : Nat → List Nat) (P : Nat → Nat) : Nat → GSt
  | 0 => ⟨fun _ => 0, fun _ => []⟩
  | a + 1 => gRow ov P a (gAll ov P a) (ov a).length
def gRel (ov : Nat → List Nat) (P : Nat → Nat) (a j : Nat) (p q : Nat) : Prop := ∃ x b, ((x < a ∧ b ∈ ov x) ∨ (x = a ∧ b ∈ (ov a).take j)) ∧ p = P x ∧ q = P b
theorem gRow_zero (ov : Nat → List Nat) (P : Nat → Nat) (a : Nat) (s : GSt) : gRow ov P a s 0 = s := by simp [gRow]
theorem gRow_succ {ov : Nat → List Nat} {P : Nat → Nat} {a : Nat} {s : GSt} {j b : Nat} (h : (ov a)[j]? = some b) : gRow ov P a s (j + 1) = gStep (gRow ov P a s j) (P a) (P b) := by
  unfold gRow
  rw [List.take_add_one, h, Option.toList_some, List.foldl_append]; rfl
theorem gStep_len (s : GSt) (p q x : Nat) : ((gStep s p q).f x).length ≤ (s.f x).length + 1 ∧ (gStep s p q).w x ≤ s.w x + 1 := by
  unfold gStep
  split
  · constructor
    · show (updN s.f q (s.f q ++ [p]) x).length ≤ _
      by_cases h : x = q
      · subst h; rw [updN_same]; simp
      · rw [updN_other _ _ h]; omega
    · show updN s.w p (s.w p + 1) x ≤ _
      by_cases h : x = p
      · subst h; rw [updN_same]; exact Nat.le_refl _
      · rw [updN_other _ _ h]; omega
  · exact ⟨by omega, by omega⟩
theorem gAt_inv {ov : Nat → List Nat} {P : Nat → Nat} {n m : Nat} (hP : ∀ x, x < n → P x < m) (hV : ∀ x y, x < n → y ∈ ov x → y < n) (hol : ∀ a, a < n → (ov a).length ≤ n) : ∀ a, a ≤ n → (GInv m (gRel ov P a 0) (gAll ov P a) ∧ ∀ x, ((gAll ov P a).f x).length ≤ a * n ∧ (gAll ov P a).w x ≤ a * n) ∧
    (a < n → ∀ j, j ≤ (ov a).length → GInv m (gRel ov P a j) (gRow ov P a (gAll ov P a) j) ∧ ∀ x, ((gRow ov P a (gAll ov P a) j).f x).length ≤ a * n + j ∧ (gRow ov P a (gAll ov P a) j).w x ≤ a * n + j) := by
  have row : ∀ a, a < n → (GInv m (gRel ov P a 0) (gAll ov P a) ∧ ∀ x, ((gAll ov P a).f x).length ≤ a * n ∧ (gAll ov P a).w x ≤ a * n) → ∀ j, j ≤ (ov a).length → GInv m (gRel ov P a j) (gRow ov P a (gAll ov P a) j) ∧ ∀ x, ((gRow ov P a (gAll ov P a) j).f x).length ≤ a * n + j ∧ (gRow ov P a (gAll ov P a) j).w x ≤ a * n + j := by
    intro a ha h j
    induction j with
    | zero => intro _; rw [gRow_zero]; exact ⟨h.1, fun x => by have := h.2 x; omega⟩
    | succ j ih =>
      intro hj
      obtain ⟨i1, i2⟩ := ih (by omega)
      have hb' : (ov a)[j]? = some (ov a)[j] := List.getElem?_eq_getElem (by omega)
      have hbn : (ov a)[j] < n := hV a _ ha (List.getElem_mem _)
      rw [gRow_succ hb']
      refine ⟨(gStep_inv i1 (hP _ hbn)).congr fun p q => ?_, fun x => by have := gStep_len (gRow ov P a (gAll ov P a) j) (P a) (P (ov a)[j]) x; have := i2 x; omega⟩
      unfold gRel
      rw [List.take_add_one, hb', Option.toList_some]
      constructor
      · rintro (⟨x, b, h1, h2, h3⟩ | ⟨h1, h2⟩)
        · refine ⟨x, b, ?_, h2, h3⟩
          rcases h1 with h1 | ⟨h1, h4⟩
          · exact .inl h1
          · exact .inr ⟨h1, List.mem_append.2 (.inl h4)⟩
        · exact ⟨a, _, .inr ⟨rfl, List.mem_append.2 (.inr (by simp))⟩, h1, h2⟩
      · rintro ⟨x, b, h1, h2, h3⟩
        rcases h1 with h1 | ⟨rfl, h4⟩
        · exact .inl ⟨x, b, .inl h1, h2, h3⟩
        · rcases List.mem_append.1 h4 with h4 | h4
          · exact .inl ⟨x, b, .inr ⟨rfl, h4⟩, h2, h3⟩
          · simp only [List.mem_singleton] at h4
            subst h4
            exact .inr ⟨h2, h3⟩
  have all : ∀ a, a ≤ n → (GInv m (gRel ov P a 0) (gAll ov P a) ∧ ∀ x, ((gAll ov P a).f x).length ≤ a * n ∧ (gAll ov P a).w x ≤ a * n) := by
    intro a
    induction a with
    | zero =>
      intro _
      refine ⟨(gInv_zero m).congr fun p q => ⟨(fun h => h.elim), ?_⟩, fun x => ⟨Nat.zero_le _, Nat.zero_le _⟩⟩
      rintro ⟨x, b, h1, _⟩
      rcases h1 with ⟨h1, _⟩ | ⟨_, h1⟩
      · omega
      · simp at h1
    | succ a ih =>
      intro ha
      obtain ⟨i1, i2⟩ := row a (by omega) (ih (by omega)) (ov a).length (Nat.le_refl _)
      have ho := hol a (by omega)
      refine ⟨i1.congr fun p q => ?_, fun x => ?_⟩
      · unfold gRel
        rw [List.take_length]
        constructor
        · rintro ⟨x, b, h1, h2, h3⟩
          refine ⟨x, b, .inl ?_, h2, h3⟩
          rcases h1 with h1 | ⟨rfl, h4⟩
          · exact ⟨by omega, h1.2⟩
          · exact ⟨by omega, h4⟩
        · rintro ⟨x, b, h1, h2, h3⟩
          refine ⟨x, b, ?_, h2, h3⟩
          rcases h1 with ⟨h1, h4⟩ | ⟨_, h4⟩
          · by_cases hx : x = a
            · subst hx; exact .inr ⟨rfl, h4⟩
            · exact .inl ⟨by omega, h4⟩
          · simp at h4
      · have := i2 x
        rw [Nat.succ_mul]
        show ((gRow ov P a (gAll ov P a) (ov a).length).f x).length ≤ _ ∧ (gRow ov P a (gAll ov P a) (ov a).length).w x ≤ _
        omega
  exact fun a ha => ⟨all a ha, fun hlt j hj => row a hlt (all a (by omega)) j hj⟩
/-- In the end: a part waits for those that lie over it. -/
theorem gAll_lies {ov : Nat → List Nat} {n : Nat} {ps : List (List Nat)} {pt : Nat → Int} (S : Scc ov n ps pt) {m : Nat} (hm : m = ps.length) (hV : ∀ x y, x < n → y ∈ ov x → y < n) (hol : ∀ a, a < n → (ov a).length ≤ n) :
    (∀ p q, p ∈ (gAll ov (fun x => (pt x).toNat) n).f q ↔ lies ov pt p q) ∧ (∀ q, ((gAll ov (fun x => (pt x).toNat) n).f q).Nodup) ∧ OInv ov n ps pt (gAll ov (fun x => (pt x).toNat) n).f 0 (gAll ov (fun x => (pt x).toNat) n).w fun _ => false := by
  have hP : ∀ x, x < n → (pt x).toNat < m := fun x hx => by
    have h0 := S.all x hx
    obtain ⟨l, h1, _⟩ := (S.p1 x (pt x).toNat).1 (by omega)
    rw [hm]; exact (List.getElem?_eq_some_iff.1 h1).1
  obtain ⟨⟨g, _⟩, _⟩ := gAt_inv hP hV hol n (Nat.le_refl _)
  have hF : ∀ p q, p ∈ (gAll ov (fun x => (pt x).toNat) n).f q ↔ lies ov pt p q := fun p q => by
    rw [g.g1]
    unfold gRel lies
    refine and_congr_right fun _ => ⟨?_, ?_⟩
    · rintro ⟨x, b, h1, h2, h3⟩
      rcases h1 with ⟨hx, hb⟩ | ⟨_, hb⟩
      · have := S.all x hx
        have := S.all b (hV x b hx hb)
        simp only at h2 h3
        exact ⟨x, b, by omega, by omega, hb⟩
      · simp at hb
    · rintro ⟨x, y, h1, h2, h3⟩
      have hx : x < n := S.lt x (by omega)
      exact ⟨x, y, .inl ⟨hx, h3⟩, by simp only []; omega, by simp only []; omega⟩
  refine ⟨hF, g.g2, fun p => ?_, (fun p q h => by cases h), by simp⟩
  rw [g.g3, hm]
  exact List.countP_congr fun q _ => by simp
/-- The order's state. -/
structure OS where
  w : Nat → Nat
  D : Nat → Bool
  out : List (List Nat)
def oStep (ps : List (List Nat)) (F : Nat → List Nat) (s : OS) : OS := match bstP ps (cdW s.w s.D) ps.length with
  | some p => ⟨wDec s.w (F p), updN s.D p true, s.out ++ [ps.getD p []]⟩
  | none => s
def oAt (ps : List (List Nat)) (F : Nat → List Nat) (w : Nat → Nat) : Nat → OS
  | 0 => ⟨w, fun _ => false, []⟩
  | k + 1 => oStep ps F (oAt ps F w k)
theorem oAt_inv {ov : Nat → List Nat} {n : Nat} {ps : List (List Nat)} {pt : Nat → Int} (S : Scc ov n ps pt) {hd : Nat → Nat → Bool} (hhd : ∀ a b, a < n → b < n → (hd a b = true ↔ Wy ov a b)) {F : Nat → List Nat} (hF : ∀ p q, p ∈ F q ↔ lies ov pt p q) (hFn : ∀ q, (F q).Nodup) {w : Nat → Nat} (O : OInv ov n ps pt F 0 w fun _ => false) :
    ∀ k, k ≤ ps.length → OInv ov n ps pt F k (oAt ps F w k).w (oAt ps F w k).D ∧ (oAt ps F w k).out.length = k ∧ ∃ L : Nat → Bool, (∀ b (q : Nat), pt b = (q : Int) → L b = (oAt ps F w k).D q) ∧ lsP hd n n (fun _ => false) = (oAt ps F w k).out ++ lsP hd n (n - k) L
  | 0, _ => ⟨O, rfl, fun _ => false, fun _ _ _ => rfl, rfl⟩
  | k + 1, hk => by
    obtain ⟨i1, i0, L, i2, i3⟩ := oAt_inv S hhd hF hFn O k (by omega)
    obtain ⟨p, hp⟩ := i1.some S hF (by omega)
    have hl := S.len_le
    obtain ⟨L', j1, j2⟩ := lsP_step S hhd hF i1 i2 hp (n - (k + 1))
    rw [show n - (k + 1) + 1 = n - k by omega] at j2
    have hs : oAt ps F w (k + 1) = ⟨wDec (oAt ps F w k).w (F p), updN (oAt ps F w k).D p true, (oAt ps F w k).out ++ [ps.getD p []]⟩ := by
      show oStep ps F (oAt ps F w k) = _
      unfold oStep
      rw [hp]
    rw [hs]
    refine ⟨i1.next S hF hFn hp, by simp [i0], L', j1, ?_⟩
    rw [i3, j2]; simp
/-- What the program lists is what the reference lists. -/
theorem oAt_all {ov : Nat → List Nat} {n : Nat} {ps : List (List Nat)} {pt : Nat → Int} (S : Scc ov n ps pt) {hd : Nat → Nat → Bool} (hhd : ∀ a b, a < n → b < n → (hd a b = true ↔ Wy ov a b)) {F : Nat → List Nat} (hF : ∀ p q, p ∈ F q ↔ lies ov pt p q) (hFn : ∀ q, (F q).Nodup) {w : Nat → Nat} (O : OInv ov n ps pt F 0 w fun _ => false) :
    (oAt ps F w ps.length).out = lsP hd n n fun _ => false := by
  obtain ⟨i1, _, L, i2, i3⟩ := oAt_inv S hhd hF hFn O ps.length (Nat.le_refl _)
  have hall : ∀ p, p < ps.length → (oAt ps F w ps.length).D p = true := by
    have h := i1.o3
    have h2 : (List.range ps.length).countP (oAt ps F w ps.length).D = (List.range ps.length).length := by rw [h]; simp
    exact fun p hp => (List.countP_eq_length.1 h2) p (List.mem_range.2 hp)
  rw [i3, lsP_end (fun b hb => ?_), List.append_nil]
  have h0 := S.all b hb
  obtain ⟨l, h1, _⟩ := (S.p1 b (pt b).toNat).1 (by omega)
  rw [i2 b (pt b).toNat (by omega)]
  exact hall _ (List.getElem?_eq_some_iff.1 h1).1
end Go.Proofs.YtdbpkjanlafajaaGreatDoor

/- The search, by the program. -/
set_option linter.unusedSimpArgs false
set_option linter.unusedVariables false
set_option maxRecDepth 100000
namespace Go.Proofs.YtdbpkjanlafajaaGreatDoor
open Go Go.Proofs Go.AW

/-- The queue: a literal, or a row of its own behind the distances. -/
def qw (p : Bool) (q : List Nat) : AVal := if p then .ref 1 0 q.length q.length else .lit q.length (ints (nI q))
def qk (p : Bool) (q : List Nat) : List AObj := if p then [⟨3, 1, ints (nI q)⟩] else []
theorem ren_litE (f : Nat → Option Nat) (n k : Nat) (cs : List AVal) : ren f (n + 1) (.lit k cs) = .lit k (cs.map (ren f n)) := rfl
theorem ren_LLa (f : Nat → Option Nat) (n : Nat) (rs : List (List Int)) : (LLa rs).map (ren f (n + 2)) = LLa rs := by
  simp only [LLa, List.map_map]
  refine List.map_congr_left fun r _ => ?_
  show ren f (n + 2) (LA r.isEmpty r) = LA r.isEmpty r
  simp only [LA, ren_list, map_ren_ints]

set_option maxHeartbeats 4000000 in
theorem reached_c {W n : Nat} (hn : n ≤ 64) (l : List Bool) {a : Nat} (ha : a < n) :
    Contract Tryz.prog 73 [.list false false n (LLa (abv W n l)), I a] (LR false (srch (adjT W n l) (far0 n a) [a])) := by
  have hlb := LLa_len (abv W n l)
  have hab : (abv W n l).length = n := by simp [abv]
  have hre : ∀ (f : Nat → Option Nat) (k : Nat), (LLa (abv W n l)).map (ren f (k + 2)) = LLa (abv W n l) := fun f k => ren_LLa f k _
  have hat : ∀ c, c < n → ((LLa (abv W n l)).drop c)[0]? = some (LA (nI (adjT W n l c)).isEmpty (nI (adjT W n l c))) := by
    intro c hc
    rw [LLa_at (rs := abv W n l) (by omega), abv_adj hc]
  generalize LLa (abv W n l) = lb at *
  refine Contract.intro (effS [] false) 6 follows Tryz.func73 rfl rfl (by kernel_rfl) (Nat.le_of_ble_eq_true rfl) ?_
  simp (disch := first | assumption | omega | rfl | simp only [RH]) only [↓RP, RG, FX, RQ, ↓reduceIte, Nat.reduceEqDiff, reduceCtorEq, Nat.reduceBEq, Nat.reduceAdd, Nat.reduceLeDiff, args0_2]
  refine callK_T rfl (repeat_s _ (by omega) hn) ?_
  have hkr : (List.replicate n (-1 : Int)).length = n := by simp
  have hf0 : (List.replicate n (-1 : Int)).set a 0 = far0 n a := rfl
  obtain ⟨z1, z2⟩ := far0_sound ha
  simp (disch := first | assumption | omega | rfl | simp only [RH]) only [↓RP, RG, FX, RQ, ↓reduceIte, Nat.reduceEqDiff, reduceCtorEq, Nat.reduceBEq, Nat.reduceAdd, Nat.reduceLeDiff, hf0]
  refine loopK_I [0, 5, 6] (fun s : List Int × List Nat × Bool => Sound n s.1 s.2.1 ∧ s.2.1.length + neg s.1 ≤ n ∧ srch (adjT W n l) s.1 s.2.1 = srch (adjT W n l) (far0 n a) [a])
    (fun s => ⟨[(0, .list false false n lb), (5, .ref 0 0 n n), (6, qw s.2.2 s.2.1)], ⟨3, 1, ints s.1⟩ :: qk s.2.2 s.2.1⟩) (fun s => 2 * neg s.1 + s.2.1.length) (far0 n a, [a], false) ⟨z1, by simp only [List.length_singleton]; omega, rfl⟩ (by simp only [↓RP, RG, FX, RQ, ↓reduceIte, Nat.reduceEqDiff, reduceCtorEq, Nat.reduceBEq, Nat.reduceAdd, Nat.reduceLeDiff]; rfl) ?_
  rintro ⟨far, q, p⟩ ⟨h1, h2, h3⟩
  simp only at h1 h2 h3 ⊢
  have hfl := h1.len
  have hqn := nI_len q
  cases q with
  | nil =>
    rw [srch_nil] at h3
    have hfp : 0 < far.length := by omega
    have hz : ([] : List Nat).length = 0 := rfl
    rw [← h3]
    cases p
    · simp (disch := first | assumption | omega | rfl | simp only [RH]) only [↓RP, RG, FX, RQ, ↓reduceIte, Nat.reduceEqDiff, reduceCtorEq, Nat.reduceBEq, Nat.reduceAdd, Nat.reduceLeDiff, qw, qk, hz]
      rw [resVal_1 rfl]; simp (disch := first | assumption | omega | rfl | simp only [RH]) only [↓RP, RG, FX, RQ, ↓reduceIte, Nat.reduceEqDiff, reduceCtorEq, Nat.reduceBEq, Nat.reduceAdd, Nat.reduceLeDiff, RS]
    · simp (disch := first | assumption | omega | rfl | simp only [RH]) only [↓RP, RG, FX, RQ, ↓reduceIte, Nat.reduceEqDiff, reduceCtorEq, Nat.reduceBEq, Nat.reduceAdd, Nat.reduceLeDiff, qw, qk, hz]
      rw [resVal_1 rfl]; simp (disch := first | assumption | omega | rfl | simp only [RH]) only [↓RP, RG, FX, RQ, ↓reduceIte, Nat.reduceEqDiff, reduceCtorEq, Nat.reduceBEq, Nat.reduceAdd, Nat.reduceLeDiff, RS]
  | cons c r =>
    have hst := srch_step (adj := adjT W n l) (fun c hc x hx => adjT_lt hx) h1
    have hc := h1.mem _ List.mem_cons_self
    have hin := inner_ok hc (adjT W n l c) far r (fun x hx => adjT_lt hx) h1.tail
    have hatc := hat c hc
    have hg0 : (nI (c :: r)).getD (Int.toNat 0) 0 = (c : Int) := rfl
    have hpos : 0 < (c :: r).length := by simp
    have hd1 : (nI (c :: r)).drop 1 = nI r := rfl
    have hm1 : (c :: r).length - 1 = r.length := rfl
    have hlen1 : r.length + 1 = (c :: r).length := rfl
    have hql : (ints (nI (c :: r))).length = (c :: r).length := by rw [ints_length, nI_len]
    obtain ⟨A, hA⟩ : ∃ A, adjT W n l c = A := ⟨_, rfl⟩
    have hAn : ∀ x ∈ A, x < n := by rw [← hA]; exact fun x hx => adjT_lt hx
    rw [hA] at hst hin hatc
    have hAl := nI_len A
    have hAs : A.length ≤ n := by rw [← hA]; simp only [adjT]; exact Nat.le_trans (List.length_filter_le _ _) (by simp)
    generalize hqq : c :: r = qq at *
    have hcut := @aCut_ref Tryz.prog 25 _ _ _ _ [⟨3, 1, ints far⟩, ⟨3, 1, ints (nI qq)⟩] 1 qq.length 3 (nI qq) rfl (by decide) hqn hpos
    have hcul : ∀ h : List AObj, aCut Tryz.prog 25 h (.lit qq.length (ints (nI qq))) (some (I 1)) (some (I qq.length)) (some (I qq.length)) = some (.lit (qq.length - 1) (ints ((nI qq).drop 1)), h) := fun h => aCut_lit hqn hpos
    rw [hm1, hd1] at hcut
    rw [hm1, hd1] at hcul
    have h1t : Sound n far r := by rw [← hqq] at h1; exact h1.tail
    have e3 : srch (adjT W n l) (inner c A (far, r)).1 (inner c A (far, r)).2 = srch (adjT W n l) (far0 n a) [a] := by rw [← hst]; exact h3
    cases p
    · simp (disch := first | assumption | omega | rfl | simp only [RH]) only [↓RP, RG, FX, RQ, ↓reduceIte, Nat.reduceEqDiff, reduceCtorEq, Nat.reduceBEq, Nat.reduceAdd, Nat.reduceLeDiff, qw, qk, hql, hg0, cutB_some, hcul, hatc]
      refine loopK_W [0, 5, 6, 7, 34, 35, 36] (fun s : Nat × List Int × List Nat × Bool => s.1 ≤ A.length ∧ Sound n s.2.1 s.2.2.1 ∧ s.2.2.1.length + neg s.2.1 ≤ n ∧ inner c (A.drop s.1) (s.2.1, s.2.2.1) = inner c A (far, r))
        (fun s => ⟨[(0, .list false false n lb), (5, .ref 0 0 n n), (6, qw s.2.2.2 s.2.2.1), (7, I c), (34, LA (nI A).isEmpty (nI A)), (35, I (nI A).length), (36, I s.1)], ⟨3, 1, ints s.2.1⟩ :: qk s.2.2.2 s.2.2.1⟩) (fun s => A.length - s.1) (0, far, r, false) ⟨by simp only; omega, h1t, by simp only; omega, rfl⟩ (Wk.of_eq (by simp only [↓RP, RG, FX, RQ, ↓reduceIte, Nat.reduceEqDiff, reduceCtorEq, Nat.reduceBEq, Nat.reduceAdd, Nat.reduceLeDiff]; rfl)) ?_
      rintro ⟨j, far', q', p'⟩ ⟨j1, j2, j3, j4⟩
      simp only at j1 j2 j3 j4 ⊢
      have hfl' := j2.len
      have hqn' := nI_len q'
      have hql' : (ints (nI q')).length = q'.length := by rw [ints_length, nI_len]
      by_cases hlt3 : j < A.length
      · obtain ⟨y, hy⟩ : ∃ y, A.getD j 0 = y := ⟨_, rfl⟩
        have hyA : y ∈ A := by rw [← hy, List.getD_eq_getElem?_getD, List.getElem?_eq_getElem hlt3]; exact List.getElem_mem _
        have hyn := hAn y hyA
        have hgi := nI_get A j
        rw [hy] at hgi
        have hAd : A.drop j = y :: A.drop (j + 1) := by
          rw [List.drop_eq_getElem_cons hlt3, ← hy, List.getD_eq_getElem?_getD, List.getElem?_eq_getElem hlt3]; rfl
        have lj := j2.low y hyn
        have lc := j2.low c hc
        have uc := j2.high c hc
        rw [hAd, inner] at j4
        by_cases hneg : far'.getD y 0 < 0
        · rw [if_pos hneg] at j4
          obtain ⟨x1, x2⟩ := j2.push hyn hc hneg
          have hap : ints (nI q') ++ ints [(y : Int)] = ints (nI (q' ++ [y])) := by rw [nI_app, ints_append]
          have qb : q'.length ≤ 1000 := by omega
          cases p'
          · have hapl : ∀ h : List AObj, aAppend Tryz.prog 25 h (.lit q'.length (ints (nI q'))) (.lit 1 [.val (.int .i64 (y : Int))]) = some (.ref h.length 0 (q'.length + 1) (q'.length + 1), h ++ [⟨3, 1, ints (nI q' ++ [(y : Int)])⟩]) := fun h => append_litG hqn' (by omega)
            simp (disch := first | assumption | omega | rfl | simp only [RH]) only [↓RP, RG, FX, RQ, ↓reduceIte, Nat.reduceEqDiff, reduceCtorEq, Nat.reduceBEq, Nat.reduceAdd, Nat.reduceLeDiff, qw, qk, hql', hgi, hapl]
            exact ⟨(j + 1, far'.set y (far'.getD c 0 + 1), q' ++ [y], true), ⟨by simp only; omega, x1, by simp only [List.length_append, List.length_singleton]; omega, j4⟩, by simp only [qw, qk, nI_app, List.length_append, List.length_singleton]; rfl, by simp only; omega⟩
          · simp (disch := first | assumption | omega | rfl | simp only [RH]) only [↓RP, RG, FX, RQ, ↓reduceIte, Nat.reduceEqDiff, reduceCtorEq, Nat.reduceBEq, Nat.reduceAdd, Nat.reduceLeDiff, qw, qk, hql', hgi, append_ref1, apRI_ints]
            exact ⟨(j + 1, far'.set y (far'.getD c 0 + 1), q' ++ [y], true), ⟨by simp only; omega, x1, by simp only [List.length_append, List.length_singleton]; omega, j4⟩, by simp only [qw, qk, nI_app, List.length_append, List.length_singleton]; rfl, by simp only; omega⟩
        · rw [if_neg hneg] at j4
          cases p'
          · simp (disch := first | assumption | omega | rfl | simp only [RH]) only [↓RP, RG, FX, RQ, ↓reduceIte, Nat.reduceEqDiff, reduceCtorEq, Nat.reduceBEq, Nat.reduceAdd, Nat.reduceLeDiff, qw, qk, hql', hgi]
            exact ⟨(j + 1, far', q', false), ⟨by simp only; omega, j2, j3, j4⟩, rfl, by simp only; omega⟩
          · simp (disch := first | assumption | omega | rfl | simp only [RH]) only [↓RP, RG, FX, RQ, ↓reduceIte, Nat.reduceEqDiff, reduceCtorEq, Nat.reduceBEq, Nat.reduceAdd, Nat.reduceLeDiff, qw, qk, hql', hgi]
            exact ⟨(j + 1, far', q', true), ⟨by simp only; omega, j2, j3, j4⟩, rfl, by simp only; omega⟩
      · obtain rfl : j = A.length := by omega
        rw [List.drop_length, inner] at j4
        have y1 := congrArg Prod.fst j4
        have y2 := congrArg Prod.snd j4
        simp only at y1 y2
        rw [← y1, ← y2] at e3
        have hm := hin.2
        rw [← y1, ← y2] at hm
        cases p'
        · simp (disch := first | assumption | omega | rfl | simp only [RH]) only [↓RP, RG, FX, RQ, ↓reduceIte, Nat.reduceEqDiff, reduceCtorEq, Nat.reduceBEq, Nat.reduceAdd, Nat.reduceLeDiff, qw, qk, hql']
          exact ⟨(far', q', false), ⟨j2, j3, e3⟩, rfl, by simp only; omega⟩
        · simp (disch := first | assumption | omega | rfl | simp only [RH]) only [↓RP, RG, FX, RQ, ↓reduceIte, Nat.reduceEqDiff, reduceCtorEq, Nat.reduceBEq, Nat.reduceAdd, Nat.reduceLeDiff, qw, qk, hql']
          exact ⟨(far', q', true), ⟨j2, j3, e3⟩, rfl, by simp only; omega⟩
    · simp (disch := first | assumption | omega | rfl | simp only [RH]) only [↓RP, RG, FX, RQ, ↓reduceIte, Nat.reduceEqDiff, reduceCtorEq, Nat.reduceBEq, Nat.reduceAdd, Nat.reduceLeDiff, qw, qk, hql, hg0, cutB_some, hcut, hatc]
      refine loopK_W [0, 5, 6, 7, 34, 35, 36] (fun s : Nat × List Int × List Nat × Bool => s.1 ≤ A.length ∧ Sound n s.2.1 s.2.2.1 ∧ s.2.2.1.length + neg s.2.1 ≤ n ∧ inner c (A.drop s.1) (s.2.1, s.2.2.1) = inner c A (far, r))
        (fun s => ⟨[(0, .list false false n lb), (5, .ref 0 0 n n), (6, qw s.2.2.2 s.2.2.1), (7, I c), (34, LA (nI A).isEmpty (nI A)), (35, I (nI A).length), (36, I s.1)], ⟨3, 1, ints s.2.1⟩ :: qk s.2.2.2 s.2.2.1⟩) (fun s => A.length - s.1) (0, far, r, false) ⟨by simp only; omega, h1t, by simp only; omega, rfl⟩ (by
          refine (Wk.of_eq (by simp only [↓RP, RG, FX, RQ, ↓reduceIte, Nat.reduceEqDiff, reduceCtorEq, Nat.reduceBEq, Nat.reduceAdd, Nat.reduceLeDiff]; rfl)).trans ((Wk.drop (hb := []) (h1 := []) (gs := [_, _]) (env := _) 8 [0] rfl (by simp) (by simp) (by simp)).trans (Wk.of_eq (by simp only [RK, List.idxOf?_cons, List.idxOf?_nil, Nat.reduceBEq, Option.map_some, Option.map_none, List.map_cons, List.map_nil, List.getD_cons_zero, List.getD_cons_succ, Bool.false_eq_true, ↓reduceIte, Nat.add_zero, List.append_nil, hre, ren_litE]; rfl)))) ?_
      rintro ⟨j, far', q', p'⟩ ⟨j1, j2, j3, j4⟩
      simp only at j1 j2 j3 j4 ⊢
      have hfl' := j2.len
      have hqn' := nI_len q'
      have hql' : (ints (nI q')).length = q'.length := by rw [ints_length, nI_len]
      by_cases hlt3 : j < A.length
      · obtain ⟨y, hy⟩ : ∃ y, A.getD j 0 = y := ⟨_, rfl⟩
        have hyA : y ∈ A := by rw [← hy, List.getD_eq_getElem?_getD, List.getElem?_eq_getElem hlt3]; exact List.getElem_mem _
        have hyn := hAn y hyA
        have hgi := nI_get A j
        rw [hy] at hgi
        have hAd : A.drop j = y :: A.drop (j + 1) := by
          rw [List.drop_eq_getElem_cons hlt3, ← hy, List.getD_eq_getElem?_getD, List.getElem?_eq_getElem hlt3]; rfl
        have lj := j2.low y hyn
        have lc := j2.low c hc
        have uc := j2.high c hc
        rw [hAd, inner] at j4
        by_cases hneg : far'.getD y 0 < 0
        · rw [if_pos hneg] at j4
          obtain ⟨x1, x2⟩ := j2.push hyn hc hneg
          have hap : ints (nI q') ++ ints [(y : Int)] = ints (nI (q' ++ [y])) := by rw [nI_app, ints_append]
          have qb : q'.length ≤ 1000 := by omega
          cases p'
          · have hapl : ∀ h : List AObj, aAppend Tryz.prog 25 h (.lit q'.length (ints (nI q'))) (.lit 1 [.val (.int .i64 (y : Int))]) = some (.ref h.length 0 (q'.length + 1) (q'.length + 1), h ++ [⟨3, 1, ints (nI q' ++ [(y : Int)])⟩]) := fun h => append_litG hqn' (by omega)
            simp (disch := first | assumption | omega | rfl | simp only [RH]) only [↓RP, RG, FX, RQ, ↓reduceIte, Nat.reduceEqDiff, reduceCtorEq, Nat.reduceBEq, Nat.reduceAdd, Nat.reduceLeDiff, qw, qk, hql', hgi, hapl]
            exact ⟨(j + 1, far'.set y (far'.getD c 0 + 1), q' ++ [y], true), ⟨by simp only; omega, x1, by simp only [List.length_append, List.length_singleton]; omega, j4⟩, by simp only [qw, qk, nI_app, List.length_append, List.length_singleton]; rfl, by simp only; omega⟩
          · simp (disch := first | assumption | omega | rfl | simp only [RH]) only [↓RP, RG, FX, RQ, ↓reduceIte, Nat.reduceEqDiff, reduceCtorEq, Nat.reduceBEq, Nat.reduceAdd, Nat.reduceLeDiff, qw, qk, hql', hgi, append_ref1, apRI_ints]
            exact ⟨(j + 1, far'.set y (far'.getD c 0 + 1), q' ++ [y], true), ⟨by simp only; omega, x1, by simp only [List.length_append, List.length_singleton]; omega, j4⟩, by simp only [qw, qk, nI_app, List.length_append, List.length_singleton]; rfl, by simp only; omega⟩
        · rw [if_neg hneg] at j4
          cases p'
          · simp (disch := first | assumption | omega | rfl | simp only [RH]) only [↓RP, RG, FX, RQ, ↓reduceIte, Nat.reduceEqDiff, reduceCtorEq, Nat.reduceBEq, Nat.reduceAdd, Nat.reduceLeDiff, qw, qk, hql', hgi]
            exact ⟨(j + 1, far', q', false), ⟨by simp only; omega, j2, j3, j4⟩, rfl, by simp only; omega⟩
          · simp (disch := first | assumption | omega | rfl | simp only [RH]) only [↓RP, RG, FX, RQ, ↓reduceIte, Nat.reduceEqDiff, reduceCtorEq, Nat.reduceBEq, Nat.reduceAdd, Nat.reduceLeDiff, qw, qk, hql', hgi]
            exact ⟨(j + 1, far', q', true), ⟨by simp only; omega, j2, j3, j4⟩, rfl, by simp only; omega⟩
      · obtain rfl : j = A.length := by omega
        rw [List.drop_length, inner] at j4
        have y1 := congrArg Prod.fst j4
        have y2 := congrArg Prod.snd j4
        simp only at y1 y2
        rw [← y1, ← y2] at e3
        have hm := hin.2
        rw [← y1, ← y2] at hm
        cases p'
        · simp (disch := first | assumption | omega | rfl | simp only [RH]) only [↓RP, RG, FX, RQ, ↓reduceIte, Nat.reduceEqDiff, reduceCtorEq, Nat.reduceBEq, Nat.reduceAdd, Nat.reduceLeDiff, qw, qk, hql']
          exact ⟨(far', q', false), ⟨j2, j3, e3⟩, rfl, by simp only; omega⟩
        · simp (disch := first | assumption | omega | rfl | simp only [RH]) only [↓RP, RG, FX, RQ, ↓reduceIte, Nat.reduceEqDiff, reduceCtorEq, Nat.reduceBEq, Nat.reduceAdd, Nat.reduceLeDiff, qw, qk, hql']
          exact ⟨(far', q', true), ⟨j2, j3, e3⟩, rfl, by simp only; omega⟩
end Go.Proofs.YtdbpkjanlafajaaGreatDoor

/- What is reached, of both. -/
set_option linter.unusedSimpArgs false
set_option linter.unusedVariables false
set_option maxRecDepth 100000
namespace Go.Proofs.YtdbpkjanlafajaaGreatDoor
open Go Go.Proofs Go.AW

/-- The first k numbers, those with a distance. -/
def upN (far : List Int) : Nat → List Int
  | 0 => []
  | k + 1 => if 0 ≤ far.getD k 0 then upN far k ++ [(k : Int)] else upN far k
theorem upN_le (far : List Int) (k : Nat) : (upN far k).length ≤ k := by
  induction k with
  | zero => exact Nat.le_refl _
  | succ k ih => simp only [upN]; split; (simp only [List.length_append, List.length_singleton]; omega); omega
theorem pos_c (x : Int) : Contract Tryz.prog 74 [I x] (B (decide (0 ≤ x))) := by
  refine Contract.intro (effS [] false) 6 follows Tryz.func74 rfl rfl (by kernel_rfl) (Nat.le_of_ble_eq_true rfl) ?_
  by_cases h : 0 ≤ x
  · simp (disch := first | assumption | omega | rfl | simp only [RH]) only [↓RP, RG, FX, RQ, ↓reduceIte, Nat.reduceEqDiff, reduceCtorEq, Nat.reduceBEq, Nat.reduceAdd, Nat.reduceLeDiff, args0_1]
    rw [resVal_1 rfl]; simp (disch := first | assumption | omega | rfl | simp only [RH]) only [↓RP, RG, FX, RQ, ↓reduceIte, Nat.reduceEqDiff, reduceCtorEq, Nat.reduceBEq, Nat.reduceAdd, Nat.reduceLeDiff, RS]
    first | done | simp [h]
  · simp (disch := first | assumption | omega | rfl | simp only [RH]) only [↓RP, RG, FX, RQ, ↓reduceIte, Nat.reduceEqDiff, reduceCtorEq, Nat.reduceBEq, Nat.reduceAdd, Nat.reduceLeDiff, args0_1]
    rw [resVal_1 rfl]; simp (disch := first | assumption | omega | rfl | simp only [RH]) only [↓RP, RG, FX, RQ, ↓reduceIte, Nat.reduceEqDiff, reduceCtorEq, Nat.reduceBEq, Nat.reduceAdd, Nat.reduceLeDiff, RS]
    first | done | simp [h]
theorem where_c (b : Bool) (far : List Int) (hl : far.length ≤ 100000) : Contract Tryz.prog 72 [LA b far, .func (.func 74) [] []] (LR (upN far far.length).isEmpty (upN far far.length)) := by
  refine Contract.intro (effS [] false) 6 follows Tryz.func72 rfl rfl (by kernel_rfl) (Nat.le_of_ble_eq_true rfl) ?_
  simp (disch := first | assumption | omega | rfl | simp only [RH]) only [↓RP, RG, FX, RQ, ↓reduceIte, Nat.reduceEqDiff, reduceCtorEq, Nat.reduceBEq, Nat.reduceAdd, Nat.reduceLeDiff, args0_2]
  refine loopK_W [1, 5, 8, 9, 10] (fun k : Nat => k ≤ far.length) (fun k : Nat => ⟨[(1, .func (.func 74) [] []), (5, gw true 0 (ints (upN far k))), (8, LA b far), (9, I far.length), (10, I k)], [go 3 (ints (upN far k))]⟩) (fun k => far.length - k) 0 (by omega) ?_ ?_
  · simp only [↓RP, RG, FX, RQ, ↓reduceIte, Nat.reduceEqDiff, reduceCtorEq, Nat.reduceBEq, Nat.reduceAdd, Nat.reduceLeDiff]
    exact Wk.weak (WE.cons _ (.refl _) (WE.cons _ (.nil _) (WE.cons _ (.refl _) (WE.cons _ (.refl _) (WE.cons _ (.refl _) WE.nil))))) (.nil _ (by simp [go, ints, upN]))
  intro k hk
  have hle := upN_le far k
  by_cases hlt : k < far.length
  · simp (disch := first | assumption | omega | rfl | simp only [RH]) only [↓RP, RG, FX, RQ, ↓reduceIte, Nat.reduceEqDiff, reduceCtorEq, Nat.reduceBEq, Nat.reduceAdd, Nat.reduceLeDiff]
    refine callK_V 6 (pos_c (far.getD k 0)) (by simp (disch := first | assumption | omega | rfl | simp only [RH]) only [↓RP, RG, FX, RQ, ↓reduceIte, Nat.reduceEqDiff, reduceCtorEq, Nat.reduceBEq, Nat.reduceAdd, Nat.reduceLeDiff, RA] <;> rfl) (.inl (by simp [allFresh, ints_fresh, bools_fresh])) ?_
    by_cases h0 : 0 ≤ far.getD k 0
    · simp (disch := first | assumption | omega | rfl | simp only [RH]) only [↓RP, RG, FX, RQ, ↓reduceIte, Nat.reduceEqDiff, reduceCtorEq, Nat.reduceBEq, Nat.reduceAdd, Nat.reduceLeDiff, append_int]
      exact ⟨k + 1, by omega, by rw [upN, if_pos h0]; rfl, by omega⟩
    · simp (disch := first | assumption | omega | rfl | simp only [RH]) only [↓RP, RG, FX, RQ, ↓reduceIte, Nat.reduceEqDiff, reduceCtorEq, Nat.reduceBEq, Nat.reduceAdd, Nat.reduceLeDiff]
      exact ⟨k + 1, by omega, by rw [upN, if_neg h0]; rfl, by omega⟩
  · obtain rfl : k = far.length := by omega
    simp (disch := first | assumption | omega | rfl | simp only [RH]) only [↓RP, RG, FX, RQ, ↓reduceIte, Nat.reduceEqDiff, reduceCtorEq, Nat.reduceBEq, Nat.reduceAdd, Nat.reduceLeDiff]
    rw [resVal_1 rfl]; simp (disch := first | assumption | omega | rfl | simp only [RH]) only [↓RP, RG, FX, RQ, ↓reduceIte, Nat.reduceEqDiff, reduceCtorEq, Nat.reduceBEq, Nat.reduceAdd, Nat.reduceLeDiff, RS]
    simp only [Bool.true_and, ints_isEmpty]
/-- Those that hang on a. -/
def upon (W n : Nat) (l : List Bool) (a : Nat) : List Int := upN (srch (adjT W n l) (far0 n a) [a]) n
theorem bfs_len {n : Nat} {adj : Nat → List Nat} (ha : ∀ c, c < n → ∀ b ∈ adj c, b < n) : ∀ (k : Nat) (far : List Int) (q : List Nat), Sound n far q → (bfs adj k far q).length = n
  | 0, far, q, h => h.len
  | k + 1, far, [], h => h.len
  | k + 1, far, c :: q, h => bfs_len ha k _ _ (inner_ok (h.mem c List.mem_cons_self) (adj c) far q (ha c (h.mem c List.mem_cons_self)) h.tail).1
theorem srch_len {W n : Nat} (l : List Bool) {a : Nat} (ha : a < n) : (srch (adjT W n l) (far0 n a) [a]).length = n :=
  bfs_len (fun c hc x hx => adjT_lt hx) _ _ _ (far0_sound ha).1
end Go.Proofs.YtdbpkjanlafajaaGreatDoor
