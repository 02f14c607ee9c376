/- Part 1 of the proof's own texts: the contracts of functions, and what they rest on. -/
import Derived.Test.YtlckfakifamjiaaDoorProg
import Derived.Test.YtlckfakifamjiaaDoorBw3
import Derived.Test.YtlckfakifamjiaaDoorBw5
/- Closed facts on the types. -/
namespace Go.Proofs.YtlckfakifamjiaaDoor
open Go Go.Proofs Go.AW
theorem follows : Tryd.prog.follows .mixedOrders = true := by kernel_rfl
-- 0: ()
theorem ag0 : agT Tryd.prog 0 = some (false, 1) := by kernel_rfl
-- 3: int
theorem ag3 : agT Tryd.prog 3 = some (false, 1) := by kernel_rfl
theorem zc3 : zT Tryd.prog 3 = some ([I 0], 1) := by kernel_rfl
-- 4: bool
theorem ag4 : agT Tryd.prog 4 = some (false, 1) := by kernel_rfl
theorem zc4 : zT Tryd.prog 4 = some ([B false], 1) := by kernel_rfl
instance bo4 : BoT Tryd.prog 4 := ⟨by kernel_rfl⟩
-- 5: uint8
theorem ag5 : agT Tryd.prog 5 = some (false, 1) := by kernel_rfl
theorem zc5 : zT Tryd.prog 5 = some ([.val (.int .u8 0)], 1) := by kernel_rfl
-- 9: string
theorem ag9 : agT Tryd.prog 9 = some (false, 1) := by kernel_rfl
theorem zc9 : zT Tryd.prog 9 = some ([.val (.string ⟨#[]⟩)], 1) := by kernel_rfl
-- 16: *runtime.PanicNilError
theorem ag16 : agT Tryd.prog 16 = some (false, 1) := by kernel_rfl
theorem zc16 : zT Tryd.prog 16 = some ([.val (.pointer none)], 1) := by kernel_rfl
-- 21: int32
theorem ag21 : agT Tryd.prog 21 = some (false, 1) := by kernel_rfl
theorem zc21 : zT Tryd.prog 21 = some ([.val (.int .i32 0)], 1) := by kernel_rfl
-- 22: []int
theorem ag22 : agT Tryd.prog 22 = some (false, 1) := by kernel_rfl
theorem zc22 : zT Tryd.prog 22 = some ([.cap0 true], 1) := by kernel_rfl
instance S22 : SlT Tryd.prog 22 3 8 (.int .i64 0) := SlT.of (by kernel_rfl) (by kernel_rfl)
-- 23: []bool
theorem ag23 : agT Tryd.prog 23 = some (false, 1) := by kernel_rfl
theorem zc23 : zT Tryd.prog 23 = some ([.cap0 true], 1) := by kernel_rfl
instance S23 : SlT Tryd.prog 23 4 1 (.bool false) := SlT.of (by kernel_rfl) (by kernel_rfl)
-- 25: api.Grid
theorem ag25 : agT Tryd.prog 25 = some (true, 3) := by kernel_rfl
theorem zc25 : zT Tryd.prog 25 = some ([I 0, I 0, .cap0 true], 3) := by kernel_rfl
theorem fo25_0 : fOff Tryd.prog 25 0 = some 0 := by kernel_rfl
theorem ft25_0 : fOT Tryd.prog 25 0 = some (0, 3) := by kernel_rfl
theorem fo25_1 : fOff Tryd.prog 25 1 = some 1 := by kernel_rfl
theorem ft25_1 : fOT Tryd.prog 25 1 = some (1, 3) := by kernel_rfl
theorem fo25_2 : fOff Tryd.prog 25 2 = some 2 := by kernel_rfl
theorem ft25_2 : fOT Tryd.prog 25 2 = some (2, 23) := by kernel_rfl
theorem fl25 : flT Tryd.prog 25 = some ([(0, 1), (1, 1), (2, 1)], [I 0, I 0, .cap0 true]) := by kernel_rfl
-- 29: api.Errno
theorem ag29 : agT Tryd.prog 29 = some (false, 1) := by kernel_rfl
theorem zc29 : zT Tryd.prog 29 = some ([I 0], 1) := by kernel_rfl
-- 37: [][]int
theorem ag37 : agT Tryd.prog 37 = some (false, 1) := by kernel_rfl
theorem zc37 : zT Tryd.prog 37 = some ([.cap0 true], 1) := by kernel_rfl
instance S37 : SlT Tryd.prog 37 22 24 (.slice none 0 0) := SlT.of (by kernel_rfl) (by kernel_rfl)
-- 57: func(int) bool
theorem ag57 : agT Tryd.prog 57 = some (false, 1) := by kernel_rfl
theorem zc57 : zT Tryd.prog 57 = some ([.val .nilFunc], 1) := by kernel_rfl
-- 64: uint16
theorem ag64 : agT Tryd.prog 64 = some (false, 1) := by kernel_rfl
theorem zc64 : zT Tryd.prog 64 = some ([.val (.int .u16 0)], 1) := by kernel_rfl
-- 65: skeleton.family
theorem ag65 : agT Tryd.prog 65 = some (false, 1) := by kernel_rfl
theorem zc65 : zT Tryd.prog 65 = some ([.val (.int .u16 0)], 1) := by kernel_rfl
-- 71: []string
theorem ag71 : agT Tryd.prog 71 = some (false, 1) := by kernel_rfl
theorem zc71 : zT Tryd.prog 71 = some ([.cap0 true], 1) := by kernel_rfl
instance S71 : SlT Tryd.prog 71 9 16 (.string ⟨#[]⟩) := SlT.of (by kernel_rfl) (by kernel_rfl)
-- 75: *strings.Builder
theorem ag75 : agT Tryd.prog 75 = some (false, 1) := by kernel_rfl
theorem zc75 : zT Tryd.prog 75 = some ([.val (.pointer none)], 1) := by kernel_rfl
-- 76: []uint8
theorem ag76 : agT Tryd.prog 76 = some (false, 1) := by kernel_rfl
theorem zc76 : zT Tryd.prog 76 = some ([.cap0 true], 1) := by kernel_rfl
instance S76 : SlT Tryd.prog 76 5 1 (.int .u8 0) := SlT.of (by kernel_rfl) (by kernel_rfl)
-- 78: strings.Builder
theorem ag78 : agT Tryd.prog 78 = some (true, 2) := by kernel_rfl
theorem zc78 : zT Tryd.prog 78 = some ([.val (.pointer none), .cap0 true], 2) := by kernel_rfl
theorem fo78_0 : fOff Tryd.prog 78 0 = some 0 := by kernel_rfl
theorem ft78_0 : fOT Tryd.prog 78 0 = some (0, 75) := by kernel_rfl
theorem fo78_1 : fOff Tryd.prog 78 1 = some 1 := by kernel_rfl
theorem ft78_1 : fOT Tryd.prog 78 1 = some (1, 76) := by kernel_rfl
theorem fl78 : flT Tryd.prog 78 = some ([(0, 1), (1, 1)], [.val (.pointer none), .cap0 true]) := by kernel_rfl
-- 80: error
theorem ag80 : agT Tryd.prog 80 = some (false, 1) := by kernel_rfl
theorem zc80 : zT Tryd.prog 80 = some ([.val .nilIface], 1) := by kernel_rfl
-- 85: uint
theorem ag85 : agT Tryd.prog 85 = some (false, 1) := by kernel_rfl
theorem zc85 : zT Tryd.prog 85 = some ([.val (.int .u64 0)], 1) := by kernel_rfl
-- 99: iter.Seq[[]bool]
theorem ag99 : agT Tryd.prog 99 = some (false, 1) := by kernel_rfl
theorem zc99 : zT Tryd.prog 99 = some ([.val .nilFunc], 1) := by kernel_rfl
-- 103: strings.asciiSet
theorem ag103 : agT Tryd.prog 103 = some (true, 256) := by kernel_rfl
theorem zc103 : zT Tryd.prog 103 = some (bools (List.replicate 256 false), 256) := by kernel_rfl
theorem fl103 : flT Tryd.prog 103 = some ([(0, 1), (1, 1), (2, 1), (3, 1), (4, 1), (5, 1), (6, 1), (7, 1), (8, 1), (9, 1), (10, 1), (11, 1), (12, 1), (13, 1), (14, 1), (15, 1), (16, 1), (17, 1), (18, 1), (19, 1), (20, 1), (21, 1), (22, 1), (23, 1), (24, 1), (25, 1), (26, 1), (27, 1), (28, 1), (29, 1), (30, 1), (31, 1), (32, 1), (33, 1), (34, 1), (35, 1), (36, 1), (37, 1), (38, 1), (39, 1), (40, 1), (41, 1), (42, 1), (43, 1), (44, 1), (45, 1), (46, 1), (47, 1), (48, 1), (49, 1), (50, 1), (51, 1), (52, 1), (53, 1), (54, 1), (55, 1), (56, 1), (57, 1), (58, 1), (59, 1), (60, 1), (61, 1), (62, 1), (63, 1), (64, 1), (65, 1), (66, 1), (67, 1), (68, 1), (69, 1), (70, 1), (71, 1), (72, 1), (73, 1), (74, 1), (75, 1), (76, 1), (77, 1), (78, 1), (79, 1), (80, 1), (81, 1), (82, 1), (83, 1), (84, 1), (85, 1), (86, 1), (87, 1), (88, 1), (89, 1), (90, 1), (91, 1), (92, 1), (93, 1), (94, 1), (95, 1), (96, 1), (97, 1), (98, 1), (99, 1), (100, 1), (101, 1), (102, 1), (103, 1), (104, 1), (105, 1), (106, 1), (107, 1), (108, 1), (109, 1), (110, 1), (111, 1), (112, 1), (113, 1), (114, 1), (115, 1), (116, 1), (117, 1), (118, 1), (119, 1), (120, 1), (121, 1), (122, 1), (123, 1), (124, 1), (125, 1), (126, 1), (127, 1), (128, 1), (129, 1), (130, 1), (131, 1), (132, 1), (133, 1), (134, 1), (135, 1), (136, 1), (137, 1), (138, 1), (139, 1), (140, 1), (141, 1), (142, 1), (143, 1), (144, 1), (145, 1), (146, 1), (147, 1), (148, 1), (149, 1), (150, 1), (151, 1), (152, 1), (153, 1), (154, 1), (155, 1), (156, 1), (157, 1), (158, 1), (159, 1), (160, 1), (161, 1), (162, 1), (163, 1), (164, 1), (165, 1), (166, 1), (167, 1), (168, 1), (169, 1), (170, 1), (171, 1), (172, 1), (173, 1), (174, 1), (175, 1), (176, 1), (177, 1), (178, 1), (179, 1), (180, 1), (181, 1), (182, 1), (183, 1), (184, 1), (185, 1), (186, 1), (187, 1), (188, 1), (189, 1), (190, 1), (191, 1), (192, 1), (193, 1), (194, 1), (195, 1), (196, 1), (197, 1), (198, 1), (199, 1), (200, 1), (201, 1), (202, 1), (203, 1), (204, 1), (205, 1), (206, 1), (207, 1), (208, 1), (209, 1), (210, 1), (211, 1), (212, 1), (213, 1), (214, 1), (215, 1), (216, 1), (217, 1), (218, 1), (219, 1), (220, 1), (221, 1), (222, 1), (223, 1), (224, 1), (225, 1), (226, 1), (227, 1), (228, 1), (229, 1), (230, 1), (231, 1), (232, 1), (233, 1), (234, 1), (235, 1), (236, 1), (237, 1), (238, 1), (239, 1), (240, 1), (241, 1), (242, 1), (243, 1), (244, 1), (245, 1), (246, 1), (247, 1), (248, 1), (249, 1), (250, 1), (251, 1), (252, 1), (253, 1), (254, 1), (255, 1)], bools (List.replicate 256 false)) := by kernel_rfl
-- 107: *strings.asciiSet
theorem ag107 : agT Tryd.prog 107 = some (false, 1) := by kernel_rfl
theorem zc107 : zT Tryd.prog 107 = some ([.val (.pointer none)], 1) := by kernel_rfl
-- 109: *uint8
theorem ag109 : agT Tryd.prog 109 = some (false, 1) := by kernel_rfl
theorem zc109 : zT Tryd.prog 109 = some ([.val (.pointer none)], 1) := by kernel_rfl
-- 115: func([]bool) bool
theorem ag115 : agT Tryd.prog 115 = some (false, 1) := by kernel_rfl
theorem zc115 : zT Tryd.prog 115 = some ([.val .nilFunc], 1) := by kernel_rfl
-- 123: unsafe.Pointer
theorem ag123 : agT Tryd.prog 123 = some (false, 1) := by kernel_rfl
theorem zc123 : zT Tryd.prog 123 = some ([.val (.pointer none)], 1) := by kernel_rfl
-- 126: slices.sortedHint
theorem ag126 : agT Tryd.prog 126 = some (false, 1) := by kernel_rfl
theorem zc126 : zT Tryd.prog 126 = some ([I 0], 1) := by kernel_rfl
-- 136: uint64
theorem ag136 : agT Tryd.prog 136 = some (false, 1) := by kernel_rfl
theorem zc136 : zT Tryd.prog 136 = some ([.val (.int .u64 0)], 1) := by kernel_rfl
-- 138: [16]bool
theorem ag138 : agT Tryd.prog 138 = some (true, 16) := by kernel_rfl
theorem zc138 : zT Tryd.prog 138 = some (bools (List.replicate 16 false), 16) := by kernel_rfl
theorem fl138 : flT Tryd.prog 138 = some ([(0, 1), (1, 1), (2, 1), (3, 1), (4, 1), (5, 1), (6, 1), (7, 1), (8, 1), (9, 1), (10, 1), (11, 1), (12, 1), (13, 1), (14, 1), (15, 1)], bools (List.replicate 16 false)) := by kernel_rfl
-- 143: slices.xorshift
theorem ag143 : agT Tryd.prog 143 = some (false, 1) := by kernel_rfl
theorem zc143 : zT Tryd.prog 143 = some ([.val (.int .u64 0)], 1) := by kernel_rfl
-- 147: *int
theorem ag147 : agT Tryd.prog 147 = some (false, 1) := by kernel_rfl
theorem zc147 : zT Tryd.prog 147 = some ([.val (.pointer none)], 1) := by kernel_rfl
-- 154: *slices.xorshift
theorem ag154 : agT Tryd.prog 154 = some (false, 1) := by kernel_rfl
theorem zc154 : zT Tryd.prog 154 = some ([.val (.pointer none)], 1) := by kernel_rfl
-- 161: [0]*runtime.PanicNilError
theorem ag161 : agT Tryd.prog 161 = some (true, 0) := by kernel_rfl
theorem fl161 : flT Tryd.prog 161 = some ([], []) := by kernel_rfl
-- 163: runtime.PanicNilError
theorem ag163 : agT Tryd.prog 163 = some (true, 0) := by kernel_rfl
theorem ft163_0 : fOT Tryd.prog 163 0 = some (0, 161) := by kernel_rfl
theorem fl163 : flT Tryd.prog 163 = some ([(0, 0)], []) := by kernel_rfl

theorem FX : type_of% @ag0 ∧ type_of% @ag3 ∧ type_of% @zc3 ∧ type_of% @ag4 ∧ type_of% @zc4 ∧ type_of% @ag5 ∧ type_of% @zc5 ∧ type_of% @ag9 ∧ type_of% @zc9 ∧ type_of% @ag16 ∧ type_of% @zc16 ∧ type_of% @ag21 ∧ type_of% @zc21 ∧ type_of% @ag22 ∧ type_of% @zc22 ∧ type_of% @ag23 ∧ type_of% @zc23 ∧ type_of% @ag25 ∧ type_of% @zc25 ∧ type_of% @fo25_0 ∧ type_of% @ft25_0 ∧ type_of% @fo25_1 ∧ type_of% @ft25_1 ∧ type_of% @fo25_2 ∧ type_of% @ft25_2 ∧ type_of% @fl25 ∧ type_of% @ag29 ∧ type_of% @zc29 ∧ type_of% @ag37 ∧ type_of% @zc37 ∧ type_of% @ag57 ∧ type_of% @zc57 ∧ type_of% @ag64 ∧ type_of% @zc64 ∧ type_of% @ag65 ∧ type_of% @zc65 ∧ type_of% @ag71 ∧ type_of% @zc71 ∧ type_of% @ag75 ∧ type_of% @zc75 ∧ type_of% @ag76 ∧ type_of% @zc76 ∧ type_of% @ag78 ∧ type_of% @zc78 ∧ type_of% @fo78_0 ∧ type_of% @ft78_0 ∧ type_of% @fo78_1 ∧ type_of% @ft78_1 ∧ type_of% @fl78 ∧ type_of% @ag80 ∧ type_of% @zc80 ∧ type_of% @ag85 ∧ type_of% @zc85 ∧ type_of% @ag99 ∧ type_of% @zc99 ∧ type_of% @ag103 ∧ type_of% @zc103 ∧ type_of% @fl103 ∧ type_of% @ag107 ∧ type_of% @zc107 ∧ type_of% @ag109 ∧ type_of% @zc109 ∧ type_of% @ag115 ∧ type_of% @zc115 ∧ type_of% @ag123 ∧ type_of% @zc123 ∧ type_of% @ag126 ∧ type_of% @zc126 ∧ type_of% @ag136 ∧ type_of% @zc136 ∧ type_of% @ag138 ∧ type_of% @zc138 ∧ type_of% @fl138 ∧ type_of% @ag143 ∧ type_of% @zc143 ∧ type_of% @ag147 ∧ type_of% @zc147 ∧ type_of% @ag154 ∧ type_of% @zc154 ∧ type_of% @ag161 ∧ type_of% @fl161 ∧ type_of% @ag163 ∧ type_of% @ft163_0 ∧ type_of% @fl163 :=
  ⟨@ag0, @ag3, @zc3, @ag4, @zc4, @ag5, @zc5, @ag9, @zc9, @ag16, @zc16, @ag21, @zc21, @ag22, @zc22, @ag23, @zc23, @ag25, @zc25, @fo25_0, @ft25_0, @fo25_1, @ft25_1, @fo25_2, @ft25_2, @fl25, @ag29, @zc29, @ag37, @zc37, @ag57, @zc57, @ag64, @zc64, @ag65, @zc65, @ag71, @zc71, @ag75, @zc75, @ag76, @zc76, @ag78, @zc78, @fo78_0, @ft78_0, @fo78_1, @ft78_1, @fl78, @ag80, @zc80, @ag85, @zc85, @ag99, @zc99, @ag103, @zc103, @fl103, @ag107, @zc107, @ag109, @zc109, @ag115, @zc115, @ag123, @zc123, @ag126, @zc126, @ag136, @zc136, @ag138, @zc138, @fl138, @ag143, @zc143, @ag147, @zc147, @ag154, @zc154, @ag161, @fl161, @ag163, @ft163_0, @fl163⟩
end Go.Proofs.YtlckfakifamjiaaDoor

/- Grids: their checks. -/
set_option linter.unusedSimpArgs false
set_option linter.unusedVariables false
set_option maxRecDepth 100000
namespace Go.Proofs.YtlckfakifamjiaaDoor
open Go Go.Proofs Go.AW

abbrev LA (b : Bool) (l : List Int) : AVal := .list false b l.length (ints l)
abbrev LR (b : Bool) (l : List Int) : AVal := .list true b l.length (ints l)
abbrev BA (b : Bool) (l : List Bool) : AVal := .list false b l.length (bools l)
abbrev BR (b : Bool) (l : List Bool) : AVal := .list true b l.length (bools l)
abbrev GA (w h : Int) (b : Bool) (l : List Bool) : AVal := .agg [I w, I h, BA b l]
abbrev GR (w h : Int) (b : Bool) (l : List Bool) : AVal := .agg [I w, I h, BR b l]

theorem great_c (w h : Int) (b : Bool) (l : List Bool) : Contract Tryd.prog 12 [GA w h b l] (B (decide (4200 < (l.length : Int)))) := by
  refine Contract.intro (effS [] false) 6 follows Tryd.func12 rfl rfl (by kernel_rfl) (Nat.le_of_ble_eq_true rfl) ?_
  simp (disch := omega) only [↓RP, RG, FX, decide_eq_true, decide_eq_false, Bool.not_true, Bool.not_false, Option.map_some, List.map_cons, List.map_nil, List.getElem?_cons_zero, List.getElem?_cons_succ, ↓reduceIte, Nat.reduceEqDiff, reduceCtorEq, decide_eq_true_eq, decide_eq_false_iff_not, Option.map_none, Option.bind_some, List.contains_nil, List.contains_cons, Nat.reduceBEq, Bool.or_false, Bool.false_or, Bool.or_self, List.set_cons_zero, List.set_cons_succ, List.take_succ_cons, List.take_zero, List.drop_succ_cons, List.drop_zero, List.length_cons, List.length_nil, List.length_append, Nat.reduceAdd, Nat.reduceLeDiff, List.all_cons, List.all_nil, Bool.and_true, and_true, true_and, and_self, ne_eq, not_false_eq_true, List.cons_append, List.nil_append, List.append_nil, List.append_assoc, Nat.zero_add, Nat.add_zero, Int.toNat_natCast, args0_1]
  rw [resVal_1 rfl]; simp (disch := first | assumption | omega | rfl | simp only [hAt_app, hAt_app0, List.getElem?_cons_zero, List.getElem?_cons_succ]) only [↓RP, RG, FX, decide_eq_true, decide_eq_false, Bool.not_true, Bool.not_false, Option.map_some, List.map_cons, List.map_nil, List.getElem?_cons_zero, List.getElem?_cons_succ, ↓reduceIte, Nat.reduceEqDiff, reduceCtorEq, decide_eq_true_eq, decide_eq_false_iff_not, Option.map_none, Option.bind_some, List.contains_nil, List.contains_cons, Nat.reduceBEq, Bool.or_false, Bool.false_or, Bool.or_self, List.set_cons_zero, List.set_cons_succ, List.take_succ_cons, List.take_zero, List.drop_succ_cons, List.drop_zero, List.length_cons, List.length_nil, List.length_append, Nat.reduceAdd, Nat.reduceLeDiff, List.all_cons, List.all_nil, Bool.and_true, and_true, true_and, and_self, ne_eq, not_false_eq_true, List.cons_append, List.nil_append, List.append_nil, List.append_assoc, Nat.zero_add, Nat.add_zero, Int.toNat_natCast, RS]

/-- The error of a grid. -/
def gchk (w h n : Int) : Int := if 64 < w ∨ 64 < h then 4 else if w < 1 ∨ h < 1 ∨ n ≠ w * h then 8 else 0
def gOk (w h n : Int) : Prop := 1 ≤ w ∧ w ≤ 64 ∧ 1 ≤ h ∧ h ≤ 64 ∧ n = w * h
theorem gchk_ok {w h n : Int} (hg : gOk w h n) : gchk w h n = 0 := by
  obtain ⟨h1, h2, h3, h4, h5⟩ := hg
  unfold gchk
  rw [if_neg (by omega), if_neg (by omega)]
theorem gchk_iff {w h n : Int} : gchk w h n = 0 ↔ gOk w h n := by
  refine ⟨fun hz => ?_, gchk_ok⟩
  unfold gchk at hz
  unfold gOk
  split at hz
  · omega
  · split at hz
    · omega
    · omega
theorem prod64 {w h : Int} (h1 : 0 ≤ w) (h2 : w ≤ 64) (h3 : 0 ≤ h) (h4 : h ≤ 64) : 0 ≤ w * h ∧ w * h ≤ 4096 := by
  constructor
  · exact Int.mul_nonneg h1 h3
  · have := Int.mul_le_mul h2 h4 h3 (by omega); omega

theorem gcheckP_c (w h : Int) (b : Bool) (l : List Bool) : Contract Tryd.prog 39 [GA w h b l] (I (gchk w h l.length)) := by
  unfold gchk
  refine Contract.intro (effS [] false) 6 follows Tryd.func39 rfl rfl (by kernel_rfl) (Nat.le_of_ble_eq_true rfl) ?_
  by_cases c1 : 64 < w ∨ 64 < h
  · rw [if_pos c1]
    have : 64 < max w h := by omega
    simp (disch := omega) only [↓RP, RG, FX, decide_eq_true, decide_eq_false, Bool.not_true, Bool.not_false, Option.map_some, List.map_cons, List.map_nil, List.getElem?_cons_zero, List.getElem?_cons_succ, ↓reduceIte, Nat.reduceEqDiff, reduceCtorEq, decide_eq_true_eq, decide_eq_false_iff_not, Option.map_none, Option.bind_some, List.contains_nil, List.contains_cons, Nat.reduceBEq, Bool.or_false, Bool.false_or, Bool.or_self, List.set_cons_zero, List.set_cons_succ, List.take_succ_cons, List.take_zero, List.drop_succ_cons, List.drop_zero, List.length_cons, List.length_nil, List.length_append, Nat.reduceAdd, Nat.reduceLeDiff, List.all_cons, List.all_nil, Bool.and_true, and_true, true_and, and_self, ne_eq, not_false_eq_true, List.cons_append, List.nil_append, List.append_nil, List.append_assoc, Nat.zero_add, Nat.add_zero, Int.toNat_natCast, args0_1]
    rw [resVal_1 rfl]; simp (disch := first | assumption | omega | rfl | simp only [hAt_app, hAt_app0, List.getElem?_cons_zero, List.getElem?_cons_succ]) only [↓RP, RG, FX, decide_eq_true, decide_eq_false, Bool.not_true, Bool.not_false, Option.map_some, List.map_cons, List.map_nil, List.getElem?_cons_zero, List.getElem?_cons_succ, ↓reduceIte, Nat.reduceEqDiff, reduceCtorEq, decide_eq_true_eq, decide_eq_false_iff_not, Option.map_none, Option.bind_some, List.contains_nil, List.contains_cons, Nat.reduceBEq, Bool.or_false, Bool.false_or, Bool.or_self, List.set_cons_zero, List.set_cons_succ, List.take_succ_cons, List.take_zero, List.drop_succ_cons, List.drop_zero, List.length_cons, List.length_nil, List.length_append, Nat.reduceAdd, Nat.reduceLeDiff, List.all_cons, List.all_nil, Bool.and_true, and_true, true_and, and_self, ne_eq, not_false_eq_true, List.cons_append, List.nil_append, List.append_nil, List.append_assoc, Nat.zero_add, Nat.add_zero, Int.toNat_natCast, RS]
  rw [if_neg c1]
  have : ¬ 64 < max w h := by omega
  by_cases c2 : w < 1 ∨ h < 1
  · rw [if_pos (by omega)]
    have : min w h < 1 := by omega
    simp (disch := omega) only [↓RP, RG, FX, decide_eq_true, decide_eq_false, Bool.not_true, Bool.not_false, Option.map_some, List.map_cons, List.map_nil, List.getElem?_cons_zero, List.getElem?_cons_succ, ↓reduceIte, Nat.reduceEqDiff, reduceCtorEq, decide_eq_true_eq, decide_eq_false_iff_not, Option.map_none, Option.bind_some, List.contains_nil, List.contains_cons, Nat.reduceBEq, Bool.or_false, Bool.false_or, Bool.or_self, List.set_cons_zero, List.set_cons_succ, List.take_succ_cons, List.take_zero, List.drop_succ_cons, List.drop_zero, List.length_cons, List.length_nil, List.length_append, Nat.reduceAdd, Nat.reduceLeDiff, List.all_cons, List.all_nil, Bool.and_true, and_true, true_and, and_self, ne_eq, not_false_eq_true, List.cons_append, List.nil_append, List.append_nil, List.append_assoc, Nat.zero_add, Nat.add_zero, Int.toNat_natCast, args0_1]
    rw [resVal_1 rfl]; simp (disch := first | assumption | omega | rfl | simp only [hAt_app, hAt_app0, List.getElem?_cons_zero, List.getElem?_cons_succ]) only [↓RP, RG, FX, decide_eq_true, decide_eq_false, Bool.not_true, Bool.not_false, Option.map_some, List.map_cons, List.map_nil, List.getElem?_cons_zero, List.getElem?_cons_succ, ↓reduceIte, Nat.reduceEqDiff, reduceCtorEq, decide_eq_true_eq, decide_eq_false_iff_not, Option.map_none, Option.bind_some, List.contains_nil, List.contains_cons, Nat.reduceBEq, Bool.or_false, Bool.false_or, Bool.or_self, List.set_cons_zero, List.set_cons_succ, List.take_succ_cons, List.take_zero, List.drop_succ_cons, List.drop_zero, List.length_cons, List.length_nil, List.length_append, Nat.reduceAdd, Nat.reduceLeDiff, List.all_cons, List.all_nil, Bool.and_true, and_true, true_and, and_self, ne_eq, not_false_eq_true, List.cons_append, List.nil_append, List.append_nil, List.append_assoc, Nat.zero_add, Nat.add_zero, Int.toNat_natCast, RS]
  have : ¬ min w h < 1 := by omega
  have hp := prod64 (w := w) (h := h) (by omega) (by omega) (by omega) (by omega)
  by_cases c3 : (l.length : Int) = w * h
  · rw [if_neg (by omega)]
    simp (disch := omega) only [↓RP, RG, FX, decide_eq_true, decide_eq_false, Bool.not_true, Bool.not_false, Option.map_some, List.map_cons, List.map_nil, List.getElem?_cons_zero, List.getElem?_cons_succ, ↓reduceIte, Nat.reduceEqDiff, reduceCtorEq, decide_eq_true_eq, decide_eq_false_iff_not, Option.map_none, Option.bind_some, List.contains_nil, List.contains_cons, Nat.reduceBEq, Bool.or_false, Bool.false_or, Bool.or_self, List.set_cons_zero, List.set_cons_succ, List.take_succ_cons, List.take_zero, List.drop_succ_cons, List.drop_zero, List.length_cons, List.length_nil, List.length_append, Nat.reduceAdd, Nat.reduceLeDiff, List.all_cons, List.all_nil, Bool.and_true, and_true, true_and, and_self, ne_eq, not_false_eq_true, List.cons_append, List.nil_append, List.append_nil, List.append_assoc, Nat.zero_add, Nat.add_zero, Int.toNat_natCast, args0_1]
    rw [resVal_1 rfl]; simp (disch := first | assumption | omega | rfl | simp only [hAt_app, hAt_app0, List.getElem?_cons_zero, List.getElem?_cons_succ]) only [↓RP, RG, FX, decide_eq_true, decide_eq_false, Bool.not_true, Bool.not_false, Option.map_some, List.map_cons, List.map_nil, List.getElem?_cons_zero, List.getElem?_cons_succ, ↓reduceIte, Nat.reduceEqDiff, reduceCtorEq, decide_eq_true_eq, decide_eq_false_iff_not, Option.map_none, Option.bind_some, List.contains_nil, List.contains_cons, Nat.reduceBEq, Bool.or_false, Bool.false_or, Bool.or_self, List.set_cons_zero, List.set_cons_succ, List.take_succ_cons, List.take_zero, List.drop_succ_cons, List.drop_zero, List.length_cons, List.length_nil, List.length_append, Nat.reduceAdd, Nat.reduceLeDiff, List.all_cons, List.all_nil, Bool.and_true, and_true, true_and, and_self, ne_eq, not_false_eq_true, List.cons_append, List.nil_append, List.append_nil, List.append_assoc, Nat.zero_add, Nat.add_zero, Int.toNat_natCast, RS]
  · rw [if_pos (by omega)]
    simp (disch := omega) only [↓RP, RG, FX, decide_eq_true, decide_eq_false, Bool.not_true, Bool.not_false, Option.map_some, List.map_cons, List.map_nil, List.getElem?_cons_zero, List.getElem?_cons_succ, ↓reduceIte, Nat.reduceEqDiff, reduceCtorEq, decide_eq_true_eq, decide_eq_false_iff_not, Option.map_none, Option.bind_some, List.contains_nil, List.contains_cons, Nat.reduceBEq, Bool.or_false, Bool.false_or, Bool.or_self, List.set_cons_zero, List.set_cons_succ, List.take_succ_cons, List.take_zero, List.drop_succ_cons, List.drop_zero, List.length_cons, List.length_nil, List.length_append, Nat.reduceAdd, Nat.reduceLeDiff, List.all_cons, List.all_nil, Bool.and_true, and_true, true_and, and_self, ne_eq, not_false_eq_true, List.cons_append, List.nil_append, List.append_nil, List.append_assoc, Nat.zero_add, Nat.add_zero, Int.toNat_natCast, args0_1]
    rw [resVal_1 rfl]; simp (disch := first | assumption | omega | rfl | simp only [hAt_app, hAt_app0, List.getElem?_cons_zero, List.getElem?_cons_succ]) only [↓RP, RG, FX, decide_eq_true, decide_eq_false, Bool.not_true, Bool.not_false, Option.map_some, List.map_cons, List.map_nil, List.getElem?_cons_zero, List.getElem?_cons_succ, ↓reduceIte, Nat.reduceEqDiff, reduceCtorEq, decide_eq_true_eq, decide_eq_false_iff_not, Option.map_none, Option.bind_some, List.contains_nil, List.contains_cons, Nat.reduceBEq, Bool.or_false, Bool.false_or, Bool.or_self, List.set_cons_zero, List.set_cons_succ, List.take_succ_cons, List.take_zero, List.drop_succ_cons, List.drop_zero, List.length_cons, List.length_nil, List.length_append, Nat.reduceAdd, Nat.reduceLeDiff, List.all_cons, List.all_nil, Bool.and_true, and_true, true_and, and_self, ne_eq, not_false_eq_true, List.cons_append, List.nil_append, List.append_nil, List.append_assoc, Nat.zero_add, Nat.add_zero, Int.toNat_natCast, RS]

theorem gcheckR_c (w h : Int) (b : Bool) (l : List Bool) : Contract Tryd.prog 13 [GA w h b l] (I (gchk w h l.length)) := by
  unfold gchk
  refine Contract.intro (effS [] false) 6 follows Tryd.func13 rfl rfl (by kernel_rfl) (Nat.le_of_ble_eq_true rfl) ?_
  by_cases c0 : 64 < w
  · rw [if_pos (by omega)]
    simp (disch := omega) only [↓RP, RG, FX, decide_eq_true, decide_eq_false, Bool.not_true, Bool.not_false, Option.map_some, List.map_cons, List.map_nil, List.getElem?_cons_zero, List.getElem?_cons_succ, ↓reduceIte, Nat.reduceEqDiff, reduceCtorEq, decide_eq_true_eq, decide_eq_false_iff_not, Option.map_none, Option.bind_some, List.contains_nil, List.contains_cons, Nat.reduceBEq, Bool.or_false, Bool.false_or, Bool.or_self, List.set_cons_zero, List.set_cons_succ, List.take_succ_cons, List.take_zero, List.drop_succ_cons, List.drop_zero, List.length_cons, List.length_nil, List.length_append, Nat.reduceAdd, Nat.reduceLeDiff, List.all_cons, List.all_nil, Bool.and_true, and_true, true_and, and_self, ne_eq, not_false_eq_true, List.cons_append, List.nil_append, List.append_nil, List.append_assoc, Nat.zero_add, Nat.add_zero, Int.toNat_natCast, args0_1]
    rw [resVal_1 rfl]; simp (disch := first | assumption | omega | rfl | simp only [hAt_app, hAt_app0, List.getElem?_cons_zero, List.getElem?_cons_succ]) only [↓RP, RG, FX, decide_eq_true, decide_eq_false, Bool.not_true, Bool.not_false, Option.map_some, List.map_cons, List.map_nil, List.getElem?_cons_zero, List.getElem?_cons_succ, ↓reduceIte, Nat.reduceEqDiff, reduceCtorEq, decide_eq_true_eq, decide_eq_false_iff_not, Option.map_none, Option.bind_some, List.contains_nil, List.contains_cons, Nat.reduceBEq, Bool.or_false, Bool.false_or, Bool.or_self, List.set_cons_zero, List.set_cons_succ, List.take_succ_cons, List.take_zero, List.drop_succ_cons, List.drop_zero, List.length_cons, List.length_nil, List.length_append, Nat.reduceAdd, Nat.reduceLeDiff, List.all_cons, List.all_nil, Bool.and_true, and_true, true_and, and_self, ne_eq, not_false_eq_true, List.cons_append, List.nil_append, List.append_nil, List.append_assoc, Nat.zero_add, Nat.add_zero, Int.toNat_natCast, RS]
  by_cases c1 : 64 < h
  · rw [if_pos (by omega)]
    simp (disch := omega) only [↓RP, RG, FX, decide_eq_true, decide_eq_false, Bool.not_true, Bool.not_false, Option.map_some, List.map_cons, List.map_nil, List.getElem?_cons_zero, List.getElem?_cons_succ, ↓reduceIte, Nat.reduceEqDiff, reduceCtorEq, decide_eq_true_eq, decide_eq_false_iff_not, Option.map_none, Option.bind_some, List.contains_nil, List.contains_cons, Nat.reduceBEq, Bool.or_false, Bool.false_or, Bool.or_self, List.set_cons_zero, List.set_cons_succ, List.take_succ_cons, List.take_zero, List.drop_succ_cons, List.drop_zero, List.length_cons, List.length_nil, List.length_append, Nat.reduceAdd, Nat.reduceLeDiff, List.all_cons, List.all_nil, Bool.and_true, and_true, true_and, and_self, ne_eq, not_false_eq_true, List.cons_append, List.nil_append, List.append_nil, List.append_assoc, Nat.zero_add, Nat.add_zero, Int.toNat_natCast, args0_1]
    rw [resVal_1 rfl]; simp (disch := first | assumption | omega | rfl | simp only [hAt_app, hAt_app0, List.getElem?_cons_zero, List.getElem?_cons_succ]) only [↓RP, RG, FX, decide_eq_true, decide_eq_false, Bool.not_true, Bool.not_false, Option.map_some, List.map_cons, List.map_nil, List.getElem?_cons_zero, List.getElem?_cons_succ, ↓reduceIte, Nat.reduceEqDiff, reduceCtorEq, decide_eq_true_eq, decide_eq_false_iff_not, Option.map_none, Option.bind_some, List.contains_nil, List.contains_cons, Nat.reduceBEq, Bool.or_false, Bool.false_or, Bool.or_self, List.set_cons_zero, List.set_cons_succ, List.take_succ_cons, List.take_zero, List.drop_succ_cons, List.drop_zero, List.length_cons, List.length_nil, List.length_append, Nat.reduceAdd, Nat.reduceLeDiff, List.all_cons, List.all_nil, Bool.and_true, and_true, true_and, and_self, ne_eq, not_false_eq_true, List.cons_append, List.nil_append, List.append_nil, List.append_assoc, Nat.zero_add, Nat.add_zero, Int.toNat_natCast, RS]
  rw [if_neg (by omega)]
  by_cases c2 : w < 1
  · rw [if_pos (by omega)]
    simp (disch := omega) only [↓RP, RG, FX, decide_eq_true, decide_eq_false, Bool.not_true, Bool.not_false, Option.map_some, List.map_cons, List.map_nil, List.getElem?_cons_zero, List.getElem?_cons_succ, ↓reduceIte, Nat.reduceEqDiff, reduceCtorEq, decide_eq_true_eq, decide_eq_false_iff_not, Option.map_none, Option.bind_some, List.contains_nil, List.contains_cons, Nat.reduceBEq, Bool.or_false, Bool.false_or, Bool.or_self, List.set_cons_zero, List.set_cons_succ, List.take_succ_cons, List.take_zero, List.drop_succ_cons, List.drop_zero, List.length_cons, List.length_nil, List.length_append, Nat.reduceAdd, Nat.reduceLeDiff, List.all_cons, List.all_nil, Bool.and_true, and_true, true_and, and_self, ne_eq, not_false_eq_true, List.cons_append, List.nil_append, List.append_nil, List.append_assoc, Nat.zero_add, Nat.add_zero, Int.toNat_natCast, args0_1]
    rw [resVal_1 rfl]; simp (disch := first | assumption | omega | rfl | simp only [hAt_app, hAt_app0, List.getElem?_cons_zero, List.getElem?_cons_succ]) only [↓RP, RG, FX, decide_eq_true, decide_eq_false, Bool.not_true, Bool.not_false, Option.map_some, List.map_cons, List.map_nil, List.getElem?_cons_zero, List.getElem?_cons_succ, ↓reduceIte, Nat.reduceEqDiff, reduceCtorEq, decide_eq_true_eq, decide_eq_false_iff_not, Option.map_none, Option.bind_some, List.contains_nil, List.contains_cons, Nat.reduceBEq, Bool.or_false, Bool.false_or, Bool.or_self, List.set_cons_zero, List.set_cons_succ, List.take_succ_cons, List.take_zero, List.drop_succ_cons, List.drop_zero, List.length_cons, List.length_nil, List.length_append, Nat.reduceAdd, Nat.reduceLeDiff, List.all_cons, List.all_nil, Bool.and_true, and_true, true_and, and_self, ne_eq, not_false_eq_true, List.cons_append, List.nil_append, List.append_nil, List.append_assoc, Nat.zero_add, Nat.add_zero, Int.toNat_natCast, RS]
  by_cases c3 : h < 1
  · rw [if_pos (by omega)]
    simp (disch := omega) only [↓RP, RG, FX, decide_eq_true, decide_eq_false, Bool.not_true, Bool.not_false, Option.map_some, List.map_cons, List.map_nil, List.getElem?_cons_zero, List.getElem?_cons_succ, ↓reduceIte, Nat.reduceEqDiff, reduceCtorEq, decide_eq_true_eq, decide_eq_false_iff_not, Option.map_none, Option.bind_some, List.contains_nil, List.contains_cons, Nat.reduceBEq, Bool.or_false, Bool.false_or, Bool.or_self, List.set_cons_zero, List.set_cons_succ, List.take_succ_cons, List.take_zero, List.drop_succ_cons, List.drop_zero, List.length_cons, List.length_nil, List.length_append, Nat.reduceAdd, Nat.reduceLeDiff, List.all_cons, List.all_nil, Bool.and_true, and_true, true_and, and_self, ne_eq, not_false_eq_true, List.cons_append, List.nil_append, List.append_nil, List.append_assoc, Nat.zero_add, Nat.add_zero, Int.toNat_natCast, args0_1]
    rw [resVal_1 rfl]; simp (disch := first | assumption | omega | rfl | simp only [hAt_app, hAt_app0, List.getElem?_cons_zero, List.getElem?_cons_succ]) only [↓RP, RG, FX, decide_eq_true, decide_eq_false, Bool.not_true, Bool.not_false, Option.map_some, List.map_cons, List.map_nil, List.getElem?_cons_zero, List.getElem?_cons_succ, ↓reduceIte, Nat.reduceEqDiff, reduceCtorEq, decide_eq_true_eq, decide_eq_false_iff_not, Option.map_none, Option.bind_some, List.contains_nil, List.contains_cons, Nat.reduceBEq, Bool.or_false, Bool.false_or, Bool.or_self, List.set_cons_zero, List.set_cons_succ, List.take_succ_cons, List.take_zero, List.drop_succ_cons, List.drop_zero, List.length_cons, List.length_nil, List.length_append, Nat.reduceAdd, Nat.reduceLeDiff, List.all_cons, List.all_nil, Bool.and_true, and_true, true_and, and_self, ne_eq, not_false_eq_true, List.cons_append, List.nil_append, List.append_nil, List.append_assoc, Nat.zero_add, Nat.add_zero, Int.toNat_natCast, RS]
  have hp := prod64 (w := w) (h := h) (by omega) (by omega) (by omega) (by omega)
  by_cases c4 : (l.length : Int) = w * h
  · rw [if_neg (by omega)]
    simp (disch := omega) only [↓RP, RG, FX, decide_eq_true, decide_eq_false, Bool.not_true, Bool.not_false, Option.map_some, List.map_cons, List.map_nil, List.getElem?_cons_zero, List.getElem?_cons_succ, ↓reduceIte, Nat.reduceEqDiff, reduceCtorEq, decide_eq_true_eq, decide_eq_false_iff_not, Option.map_none, Option.bind_some, List.contains_nil, List.contains_cons, Nat.reduceBEq, Bool.or_false, Bool.false_or, Bool.or_self, List.set_cons_zero, List.set_cons_succ, List.take_succ_cons, List.take_zero, List.drop_succ_cons, List.drop_zero, List.length_cons, List.length_nil, List.length_append, Nat.reduceAdd, Nat.reduceLeDiff, List.all_cons, List.all_nil, Bool.and_true, and_true, true_and, and_self, ne_eq, not_false_eq_true, List.cons_append, List.nil_append, List.append_nil, List.append_assoc, Nat.zero_add, Nat.add_zero, Int.toNat_natCast, args0_1]
    rw [resVal_1 rfl]; simp (disch := first | assumption | omega | rfl | simp only [hAt_app, hAt_app0, List.getElem?_cons_zero, List.getElem?_cons_succ]) only [↓RP, RG, FX, decide_eq_true, decide_eq_false, Bool.not_true, Bool.not_false, Option.map_some, List.map_cons, List.map_nil, List.getElem?_cons_zero, List.getElem?_cons_succ, ↓reduceIte, Nat.reduceEqDiff, reduceCtorEq, decide_eq_true_eq, decide_eq_false_iff_not, Option.map_none, Option.bind_some, List.contains_nil, List.contains_cons, Nat.reduceBEq, Bool.or_false, Bool.false_or, Bool.or_self, List.set_cons_zero, List.set_cons_succ, List.take_succ_cons, List.take_zero, List.drop_succ_cons, List.drop_zero, List.length_cons, List.length_nil, List.length_append, Nat.reduceAdd, Nat.reduceLeDiff, List.all_cons, List.all_nil, Bool.and_true, and_true, true_and, and_self, ne_eq, not_false_eq_true, List.cons_append, List.nil_append, List.append_nil, List.append_assoc, Nat.zero_add, Nat.add_zero, Int.toNat_natCast, RS]
  · rw [if_pos (by omega)]
    simp (disch := omega) only [↓RP, RG, FX, decide_eq_true, decide_eq_false, Bool.not_true, Bool.not_false, Option.map_some, List.map_cons, List.map_nil, List.getElem?_cons_zero, List.getElem?_cons_succ, ↓reduceIte, Nat.reduceEqDiff, reduceCtorEq, decide_eq_true_eq, decide_eq_false_iff_not, Option.map_none, Option.bind_some, List.contains_nil, List.contains_cons, Nat.reduceBEq, Bool.or_false, Bool.false_or, Bool.or_self, List.set_cons_zero, List.set_cons_succ, List.take_succ_cons, List.take_zero, List.drop_succ_cons, List.drop_zero, List.length_cons, List.length_nil, List.length_append, Nat.reduceAdd, Nat.reduceLeDiff, List.all_cons, List.all_nil, Bool.and_true, and_true, true_and, and_self, ne_eq, not_false_eq_true, List.cons_append, List.nil_append, List.append_nil, List.append_assoc, Nat.zero_add, Nat.add_zero, Int.toNat_natCast, args0_1]
    rw [resVal_1 rfl]; simp (disch := first | assumption | omega | rfl | simp only [hAt_app, hAt_app0, List.getElem?_cons_zero, List.getElem?_cons_succ]) only [↓RP, RG, FX, decide_eq_true, decide_eq_false, Bool.not_true, Bool.not_false, Option.map_some, List.map_cons, List.map_nil, List.getElem?_cons_zero, List.getElem?_cons_succ, ↓reduceIte, Nat.reduceEqDiff, reduceCtorEq, decide_eq_true_eq, decide_eq_false_iff_not, Option.map_none, Option.bind_some, List.contains_nil, List.contains_cons, Nat.reduceBEq, Bool.or_false, Bool.false_or, Bool.or_self, List.set_cons_zero, List.set_cons_succ, List.take_succ_cons, List.take_zero, List.drop_succ_cons, List.drop_zero, List.length_cons, List.length_nil, List.length_append, Nat.reduceAdd, Nat.reduceLeDiff, List.all_cons, List.all_nil, Bool.and_true, and_true, true_and, and_self, ne_eq, not_false_eq_true, List.cons_append, List.nil_append, List.append_nil, List.append_assoc, Nat.zero_add, Nat.add_zero, Int.toNat_natCast, RS]
end Go.Proofs.YtlckfakifamjiaaDoor

/- Lists: compared. -/
set_option linter.unusedSimpArgs false
set_option linter.unusedVariables false
set_option maxRecDepth 100000
namespace Go.Proofs.YtlckfakifamjiaaDoor
open Go Go.Proofs Go.AW

/-- Lists compared. -/
theorem same02_c (b1 b2 : Bool) (l m : List Int) (hl : l.length ≤ 9223372036854775807) : Contract Tryd.prog 20 [LA b1 l, LA b2 m] (B (decide (l = m))) := by
  refine Contract.intro (effS [] false) 6 follows Tryd.func20 rfl rfl (by kernel_rfl) (Nat.le_of_ble_eq_true rfl) ?_
  by_cases hlen : l.length = m.length
  · simp (disch := first | assumption | omega | rfl | simp only [hAt_app, hAt_app0, List.getElem?_cons_zero, List.getElem?_cons_succ]) only [↓RP, RG, FX, decide_eq_true, decide_eq_false, Bool.not_true, Bool.not_false, Option.map_some, List.map_cons, List.map_nil, List.getElem?_cons_zero, List.getElem?_cons_succ, ↓reduceIte, Nat.reduceEqDiff, reduceCtorEq, decide_eq_true_eq, decide_eq_false_iff_not, Option.map_none, Option.bind_some, List.contains_nil, List.contains_cons, Nat.reduceBEq, Bool.or_false, Bool.false_or, Bool.or_self, List.set_cons_zero, List.set_cons_succ, List.take_succ_cons, List.take_zero, List.drop_succ_cons, List.drop_zero, List.length_cons, List.length_nil, List.length_append, Nat.reduceAdd, Nat.reduceLeDiff, List.all_cons, List.all_nil, Bool.and_true, and_true, true_and, and_self, ne_eq, not_false_eq_true, List.cons_append, List.nil_append, List.append_nil, List.append_assoc, Nat.zero_add, Nat.add_zero, Int.toNat_natCast, args0_2]
    refine loopK_I [0, 1, 5] (fun k : Nat => k ≤ l.length ∧ l.take k = m.take k) (fun k : Nat => ⟨[(0, LA b1 l), (1, LA b2 m), (5, I k)], []⟩) (fun k => l.length - k) 0 (by simp) (by simp only [↓RP, RG, FX, decide_eq_true, decide_eq_false, Bool.not_true, Bool.not_false, Option.map_some, List.map_cons, List.map_nil, List.getElem?_cons_zero, List.getElem?_cons_succ, ↓reduceIte, Nat.reduceEqDiff, reduceCtorEq, decide_eq_true_eq, decide_eq_false_iff_not, Option.map_none, Option.bind_some, List.contains_nil, List.contains_cons, Nat.reduceBEq, Bool.or_false, Bool.false_or, Bool.or_self, List.set_cons_zero, List.set_cons_succ, List.take_succ_cons, List.take_zero, List.drop_succ_cons, List.drop_zero, List.length_cons, List.length_nil, List.length_append, Nat.reduceAdd, Nat.reduceLeDiff, List.all_cons, List.all_nil, Bool.and_true, and_true, true_and, and_self, ne_eq, not_false_eq_true, List.cons_append, List.nil_append, List.append_nil, List.append_assoc, Nat.zero_add, Nat.add_zero, Int.toNat_natCast]; rfl) ?_
    rintro k ⟨hk, htk⟩
    by_cases hlt : k < l.length
    · by_cases he : l.getD k 0 = m.getD k 0
      · simp (disch := first | assumption | omega | rfl | simp only [hAt_app, hAt_app0, List.getElem?_cons_zero, List.getElem?_cons_succ]) only [↓RP, RG, FX, decide_eq_true, decide_eq_false, Bool.not_true, Bool.not_false, Option.map_some, List.map_cons, List.map_nil, List.getElem?_cons_zero, List.getElem?_cons_succ, ↓reduceIte, Nat.reduceEqDiff, reduceCtorEq, decide_eq_true_eq, decide_eq_false_iff_not, Option.map_none, Option.bind_some, List.contains_nil, List.contains_cons, Nat.reduceBEq, Bool.or_false, Bool.false_or, Bool.or_self, List.set_cons_zero, List.set_cons_succ, List.take_succ_cons, List.take_zero, List.drop_succ_cons, List.drop_zero, List.length_cons, List.length_nil, List.length_append, Nat.reduceAdd, Nat.reduceLeDiff, List.all_cons, List.all_nil, Bool.and_true, and_true, true_and, and_self, ne_eq, not_false_eq_true, List.cons_append, List.nil_append, List.append_nil, List.append_assoc, Nat.zero_add, Nat.add_zero, Int.toNat_natCast]
        refine ⟨k + 1, ⟨by omega, ?_⟩, rfl, by omega⟩
        rw [List.take_add_one, List.take_add_one, htk]
        simp [hlt, show k < m.length by omega] at he
        rw [List.getElem?_eq_getElem hlt, List.getElem?_eq_getElem (show k < m.length by omega), he]
      · simp (disch := first | assumption | omega | rfl | simp only [hAt_app, hAt_app0, List.getElem?_cons_zero, List.getElem?_cons_succ]) only [↓RP, RG, FX, decide_eq_true, decide_eq_false, Bool.not_true, Bool.not_false, Option.map_some, List.map_cons, List.map_nil, List.getElem?_cons_zero, List.getElem?_cons_succ, ↓reduceIte, Nat.reduceEqDiff, reduceCtorEq, decide_eq_true_eq, decide_eq_false_iff_not, Option.map_none, Option.bind_some, List.contains_nil, List.contains_cons, Nat.reduceBEq, Bool.or_false, Bool.false_or, Bool.or_self, List.set_cons_zero, List.set_cons_succ, List.take_succ_cons, List.take_zero, List.drop_succ_cons, List.drop_zero, List.length_cons, List.length_nil, List.length_append, Nat.reduceAdd, Nat.reduceLeDiff, List.all_cons, List.all_nil, Bool.and_true, and_true, true_and, and_self, ne_eq, not_false_eq_true, List.cons_append, List.nil_append, List.append_nil, List.append_assoc, Nat.zero_add, Nat.add_zero, Int.toNat_natCast]
        rw [resVal_1 rfl]; simp (disch := first | assumption | omega | rfl | simp only [hAt_app, hAt_app0, List.getElem?_cons_zero, List.getElem?_cons_succ]) only [↓RP, RG, FX, decide_eq_true, decide_eq_false, Bool.not_true, Bool.not_false, Option.map_some, List.map_cons, List.map_nil, List.getElem?_cons_zero, List.getElem?_cons_succ, ↓reduceIte, Nat.reduceEqDiff, reduceCtorEq, decide_eq_true_eq, decide_eq_false_iff_not, Option.map_none, Option.bind_some, List.contains_nil, List.contains_cons, Nat.reduceBEq, Bool.or_false, Bool.false_or, Bool.or_self, List.set_cons_zero, List.set_cons_succ, List.take_succ_cons, List.take_zero, List.drop_succ_cons, List.drop_zero, List.length_cons, List.length_nil, List.length_append, Nat.reduceAdd, Nat.reduceLeDiff, List.all_cons, List.all_nil, Bool.and_true, and_true, true_and, and_self, ne_eq, not_false_eq_true, List.cons_append, List.nil_append, List.append_nil, List.append_assoc, Nat.zero_add, Nat.add_zero, Int.toNat_natCast, RS]
        refine okF ?_
        rintro rfl; exact he rfl
    · simp (disch := first | assumption | omega | rfl | simp only [hAt_app, hAt_app0, List.getElem?_cons_zero, List.getElem?_cons_succ]) only [↓RP, RG, FX, decide_eq_true, decide_eq_false, Bool.not_true, Bool.not_false, Option.map_some, List.map_cons, List.map_nil, List.getElem?_cons_zero, List.getElem?_cons_succ, ↓reduceIte, Nat.reduceEqDiff, reduceCtorEq, decide_eq_true_eq, decide_eq_false_iff_not, Option.map_none, Option.bind_some, List.contains_nil, List.contains_cons, Nat.reduceBEq, Bool.or_false, Bool.false_or, Bool.or_self, List.set_cons_zero, List.set_cons_succ, List.take_succ_cons, List.take_zero, List.drop_succ_cons, List.drop_zero, List.length_cons, List.length_nil, List.length_append, Nat.reduceAdd, Nat.reduceLeDiff, List.all_cons, List.all_nil, Bool.and_true, and_true, true_and, and_self, ne_eq, not_false_eq_true, List.cons_append, List.nil_append, List.append_nil, List.append_assoc, Nat.zero_add, Nat.add_zero, Int.toNat_natCast]
      rw [resVal_1 rfl]; simp (disch := first | assumption | omega | rfl | simp only [hAt_app, hAt_app0, List.getElem?_cons_zero, List.getElem?_cons_succ]) only [↓RP, RG, FX, decide_eq_true, decide_eq_false, Bool.not_true, Bool.not_false, Option.map_some, List.map_cons, List.map_nil, List.getElem?_cons_zero, List.getElem?_cons_succ, ↓reduceIte, Nat.reduceEqDiff, reduceCtorEq, decide_eq_true_eq, decide_eq_false_iff_not, Option.map_none, Option.bind_some, List.contains_nil, List.contains_cons, Nat.reduceBEq, Bool.or_false, Bool.false_or, Bool.or_self, List.set_cons_zero, List.set_cons_succ, List.take_succ_cons, List.take_zero, List.drop_succ_cons, List.drop_zero, List.length_cons, List.length_nil, List.length_append, Nat.reduceAdd, Nat.reduceLeDiff, List.all_cons, List.all_nil, Bool.and_true, and_true, true_and, and_self, ne_eq, not_false_eq_true, List.cons_append, List.nil_append, List.append_nil, List.append_assoc, Nat.zero_add, Nat.add_zero, Int.toNat_natCast, RS]
      refine okT ?_
      have hk' : k = l.length := by omega
      rw [hk', List.take_length] at htk
      rw [htk, hlen, List.take_length]
  · simp (disch := first | assumption | omega | rfl | simp only [hAt_app, hAt_app0, List.getElem?_cons_zero, List.getElem?_cons_succ]) only [↓RP, RG, FX, decide_eq_true, decide_eq_false, Bool.not_true, Bool.not_false, Option.map_some, List.map_cons, List.map_nil, List.getElem?_cons_zero, List.getElem?_cons_succ, ↓reduceIte, Nat.reduceEqDiff, reduceCtorEq, decide_eq_true_eq, decide_eq_false_iff_not, Option.map_none, Option.bind_some, List.contains_nil, List.contains_cons, Nat.reduceBEq, Bool.or_false, Bool.false_or, Bool.or_self, List.set_cons_zero, List.set_cons_succ, List.take_succ_cons, List.take_zero, List.drop_succ_cons, List.drop_zero, List.length_cons, List.length_nil, List.length_append, Nat.reduceAdd, Nat.reduceLeDiff, List.all_cons, List.all_nil, Bool.and_true, and_true, true_and, and_self, ne_eq, not_false_eq_true, List.cons_append, List.nil_append, List.append_nil, List.append_assoc, Nat.zero_add, Nat.add_zero, Int.toNat_natCast, args0_2]
    rw [resVal_1 rfl]; simp (disch := first | assumption | omega | rfl | simp only [hAt_app, hAt_app0, List.getElem?_cons_zero, List.getElem?_cons_succ]) only [↓RP, RG, FX, decide_eq_true, decide_eq_false, Bool.not_true, Bool.not_false, Option.map_some, List.map_cons, List.map_nil, List.getElem?_cons_zero, List.getElem?_cons_succ, ↓reduceIte, Nat.reduceEqDiff, reduceCtorEq, decide_eq_true_eq, decide_eq_false_iff_not, Option.map_none, Option.bind_some, List.contains_nil, List.contains_cons, Nat.reduceBEq, Bool.or_false, Bool.false_or, Bool.or_self, List.set_cons_zero, List.set_cons_succ, List.take_succ_cons, List.take_zero, List.drop_succ_cons, List.drop_zero, List.length_cons, List.length_nil, List.length_append, Nat.reduceAdd, Nat.reduceLeDiff, List.all_cons, List.all_nil, Bool.and_true, and_true, true_and, and_self, ne_eq, not_false_eq_true, List.cons_append, List.nil_append, List.append_nil, List.append_assoc, Nat.zero_add, Nat.add_zero, Int.toNat_natCast, RS]
    refine okF ?_
    rintro rfl; exact hlen rfl

end Go.Proofs.YtlckfakifamjiaaDoor

/- Lists: least and greatest element, within a range; cells of grids. -/
set_option linter.unusedSimpArgs false
set_option linter.unusedVariables false
set_option maxRecDepth 100000
namespace Go.Proofs.YtlckfakifamjiaaDoor
open Go Go.Proofs Go.AW

/-- It has elements, all of them from 0 to n - 1. -/
def wIn (l : List Int) (n : Int) : Prop := 0 < l.length ∧ ∀ j, j < l.length → 0 ≤ l.getD j 0 ∧ l.getD j 0 < n
instance (l : List Int) (n : Int) : Decidable (wIn l n) := by unfold wIn; infer_instance

/-- A grid's cell. -/
def cell (w : Int) (l : List Bool) (x y : Int) : Bool := l.getD (y * w + x).toNat false

theorem at_c (w h : Int) (b : Bool) (l : List Bool) (x y : Int) (h0 : 0 ≤ y * w + x) (h1 : y * w + x < l.length) (h2 : l.length ≤ 1000000000000) (h3 : 0 ≤ y * w) (h4 : y * w ≤ 1000000000000) : Contract Tryd.prog 15 [GA w h b l, I x, I y] (B (cell w l x y)) := by
  refine Contract.intro (effS [] false) 6 follows Tryd.func15 rfl rfl (by kernel_rfl) (Nat.le_of_ble_eq_true rfl) ?_
  simp (disch := first | assumption | omega | rfl | simp only [hAt_app, hAt_app0, List.getElem?_cons_zero, List.getElem?_cons_succ]) only [↓RP, RG, FX, decide_eq_true, decide_eq_false, Bool.not_true, Bool.not_false, Option.map_some, List.map_cons, List.map_nil, List.getElem?_cons_zero, List.getElem?_cons_succ, ↓reduceIte, Nat.reduceEqDiff, reduceCtorEq, decide_eq_true_eq, decide_eq_false_iff_not, Option.map_none, Option.bind_some, List.contains_nil, List.contains_cons, Nat.reduceBEq, Bool.or_false, Bool.false_or, Bool.or_self, List.set_cons_zero, List.set_cons_succ, List.take_succ_cons, List.take_zero, List.drop_succ_cons, List.drop_zero, List.length_cons, List.length_nil, List.length_append, Nat.reduceAdd, Nat.reduceLeDiff, List.all_cons, List.all_nil, Bool.and_true, and_true, true_and, and_self, ne_eq, not_false_eq_true, List.cons_append, List.nil_append, List.append_nil, List.append_assoc, Nat.zero_add, Nat.add_zero, Int.toNat_natCast, args0_3]
  rw [resVal_1 rfl]; simp (disch := first | assumption | omega | rfl | simp only [hAt_app, hAt_app0, List.getElem?_cons_zero, List.getElem?_cons_succ]) only [↓RP, RG, FX, decide_eq_true, decide_eq_false, Bool.not_true, Bool.not_false, Option.map_some, List.map_cons, List.map_nil, List.getElem?_cons_zero, List.getElem?_cons_succ, ↓reduceIte, Nat.reduceEqDiff, reduceCtorEq, decide_eq_true_eq, decide_eq_false_iff_not, Option.map_none, Option.bind_some, List.contains_nil, List.contains_cons, Nat.reduceBEq, Bool.or_false, Bool.false_or, Bool.or_self, List.set_cons_zero, List.set_cons_succ, List.take_succ_cons, List.take_zero, List.drop_succ_cons, List.drop_zero, List.length_cons, List.length_nil, List.length_append, Nat.reduceAdd, Nat.reduceLeDiff, List.all_cons, List.all_nil, Bool.and_true, and_true, true_and, and_self, ne_eq, not_false_eq_true, List.cons_append, List.nil_append, List.append_nil, List.append_assoc, Nat.zero_add, Nat.add_zero, Int.toNat_natCast, RS]
  rfl

end Go.Proofs.YtlckfakifamjiaaDoor

/- Grids: compared, copied. -/
set_option linter.unusedSimpArgs false
set_option linter.unusedVariables false
set_option maxRecDepth 100000
namespace Go.Proofs.YtlckfakifamjiaaDoor
open Go Go.Proofs Go.AW

end Go.Proofs.YtlckfakifamjiaaDoor

/- Drafts: their checks. -/
set_option linter.unusedSimpArgs false
set_option linter.unusedVariables false
set_option maxRecDepth 100000
namespace Go.Proofs.YtlckfakifamjiaaDoor
open Go Go.Proofs Go.AW

end Go.Proofs.YtlckfakifamjiaaDoor

/- Drafts: tables, drawdowns, lifts. -/
set_option linter.unusedSimpArgs false
set_option linter.unusedVariables false
set_option maxRecDepth 100000
namespace Go.Proofs.YtlckfakifamjiaaDoor
open Go Go.Proofs Go.AW

/-- The first n cells of a table of W columns. -/
def tabN (W : Nat) (u : Nat → Nat → Bool) (n : Nat) : List Bool := (List.range n).map fun i => u (i % W) (i / W)
theorem tabN_len (W : Nat) (u : Nat → Nat → Bool) (n : Nat) : (tabN W u n).length = n := by simp [tabN]
theorem tabN_succ (W : Nat) (u : Nat → Nat → Bool) {y x : Nat} (hx : x < W) : tabN W u (W * y + x + 1) = tabN W u (W * y + x) ++ [u x y] := by
  have e1 : (W * y + x) % W = x := by rw [Nat.mul_add_mod]; exact Nat.mod_eq_of_lt hx
  have e2 : (W * y + x) / W = y := by rw [Nat.mul_add_div (by omega), Nat.div_eq_of_lt hx, Nat.add_zero]
  simp only [tabN, List.range_succ, List.map_append, List.map_cons, List.map_nil, e1, e2]
theorem tabN_get (W : Nat) (u : Nat → Nat → Bool) {n y x : Nat} (hx : x < W) (hn : W * y + x < n) : (tabN W u n).getD (W * y + x) false = u x y := by
  have e1 : (W * y + x) % W = x := by rw [Nat.mul_add_mod]; exact Nat.mod_eq_of_lt hx
  have e2 : (W * y + x) / W = y := by rw [Nat.mul_add_div (by omega), Nat.div_eq_of_lt hx, Nat.add_zero]
  simp [tabN, List.getD_eq_getElem?_getD, List.getElem?_range hn, e1, e2]
theorem ints_isEmpty (l : List Int) : (ints l).isEmpty = l.isEmpty := by cases l <;> rfl

end Go.Proofs.YtlckfakifamjiaaDoor

/- Drafts: drawdowns and lifts, of the program and the reference. -/
set_option linter.unusedSimpArgs false
set_option linter.unusedVariables false
set_option maxRecDepth 100000
namespace Go.Proofs.YtlckfakifamjiaaDoor
open Go Go.Proofs Go.AW

theorem idx_nat (W y x : Nat) : ((y : Int) * (W : Int) + (x : Int)).toNat = W * y + x := by
  rw [← Int.natCast_mul, ← Int.natCast_add, Int.toNat_natCast, Nat.mul_comm]
theorem idx_lt {W H x y : Nat} (hx : x < W) (hy : y < H) : W * y + x < W * H := by
  have : W * (y + 1) ≤ W * H := Nat.mul_le_mul_left W hy
  rw [Nat.mul_succ] at this; omega

end Go.Proofs.YtlckfakifamjiaaDoor

/- Kinds: numbered by first occurrence. Plain. -/
set_option linter.unusedSimpArgs false
set_option linter.unusedVariables false
namespace Go.Proofs.YtlckfakifamjiaaDoor

section
variable {α : Type} [DecidableEq α] {β : Type} [DecidableEq β]

end
end Go.Proofs.YtlckfakifamjiaaDoor

/- The kinds of rows. -/
set_option linter.unusedSimpArgs false
set_option linter.unusedVariables false
set_option maxRecDepth 100000
namespace Go.Proofs.YtlckfakifamjiaaDoor
open Go Go.Proofs Go.AW

end Go.Proofs.YtlckfakifamjiaaDoor

/- The kinds of rows, by the reference. -/
set_option linter.unusedSimpArgs false
set_option linter.unusedVariables false
set_option maxRecDepth 100000
namespace Go.Proofs.YtlckfakifamjiaaDoor
open Go Go.Proofs Go.AW

def nI (l : List Nat) : List Int := l.map fun n : Nat => (n : Int)
theorem nI_len (l : List Nat) : (nI l).length = l.length := by simp [nI]
theorem nI_app (l : List Nat) (n : Nat) : nI (l ++ [n]) = nI l ++ [(n : Int)] := by simp [nI]
theorem nI_get (l : List Nat) (k : Nat) : (nI l).getD k 0 = ((l.getD k 0 : Nat) : Int) := by
  simp only [nI, List.getD_eq_getElem?_getD, List.getElem?_map]
  cases l[k]? <;> rfl
end Go.Proofs.YtlckfakifamjiaaDoor

/- Families of sets as numbers: their digits; what is reached by joining; least lists. Plain. -/
set_option linter.unusedSimpArgs false
set_option linter.unusedVariables false
set_option maxRecDepth 100000
namespace Go.Proofs.YtlckfakifamjiaaDoor
open Go Go.Proofs Go.AW

/-- The digits of a number that are 1. -/
def bitsL (f : Nat) : List Nat := (List.range 16).filter fun i => f.testBit i
theorem mem_bitsL {f i : Nat} : i ∈ bitsL f ↔ i < 16 ∧ f.testBit i = true := by
  simp only [bitsL, List.mem_filter, List.mem_range]
theorem bitsL_inc (f : Nat) : (bitsL f).Pairwise (· < ·) := List.Pairwise.filter _ List.pairwise_lt_range
theorem bitsL_zero : bitsL 0 = [] := by
  unfold bitsL
  rw [List.filter_eq_nil_iff]
  intro i _; simp
/-- The lowest digit that is 1. -/
theorem lowbit : ∀ (k f : Nat), 0 < f → f < 2 ^ k → ∃ z, z < k ∧ f.testBit z = true ∧ (∀ j, j < z → f.testBit j = false) ∧ (∀ i, (f &&& (f - 1)).testBit i = (f.testBit i && decide (i ≠ z))) ∧ f &&& (2 ^ k - f) = 2 ^ z := by
  intro k
  induction k with
  | zero => intro f h1 h2; simp at h2; omega
  | succ k ih =>
    intro f h1 h2
    rw [Nat.pow_succ] at h2
    by_cases he : f % 2 = 0
    · obtain ⟨g, rfl⟩ : ∃ g, f = 2 * g := ⟨f / 2, by omega⟩
      obtain ⟨z, z1, z2, z3, z4, z5⟩ := ih g (by omega) (by omega)
      refine ⟨z + 1, by omega, ?_, ?_, ?_, ?_⟩
      · rw [Nat.testBit_succ, show 2 * g / 2 = g by omega]; exact z2
      · intro j hj
        cases j with
        | zero => rw [Nat.testBit_zero]; simp
        | succ j => rw [Nat.testBit_succ, show 2 * g / 2 = g by omega]; exact z3 j (by omega)
      · intro i
        cases i with
        | zero =>
          rw [Nat.testBit_and, Nat.testBit_zero]
          simp
        | succ i =>
          have := z4 i
          rw [Nat.testBit_and] at this ⊢
          rw [Nat.testBit_succ, Nat.testBit_succ, show 2 * g / 2 = g by omega, show (2 * g - 1) / 2 = g - 1 by omega, this]
          congr 1
          simp only [ne_eq, decide_eq_decide]; omega
      · refine Nat.eq_of_testBit_eq fun i => ?_
        cases i with
        | zero =>
          rw [Nat.testBit_and, Nat.testBit_zero, Nat.testBit_zero, Nat.pow_succ]
          simp
        | succ i =>
          have : (g &&& (2 ^ k - g)).testBit i = (2 ^ z).testBit i := by rw [z5]
          rw [Nat.testBit_and] at this ⊢
          rw [Nat.testBit_succ, Nat.testBit_succ, Nat.testBit_succ, show 2 * g / 2 = g by omega, Nat.pow_succ, Nat.pow_succ, show (2 ^ k * 2 - 2 * g) / 2 = 2 ^ k - g by omega, show 2 ^ z * 2 / 2 = 2 ^ z by omega]
          exact this
    · obtain ⟨g, rfl⟩ : ∃ g, f = 2 * g + 1 := ⟨f / 2, by omega⟩
      refine ⟨0, by omega, ?_, fun j hj => by omega, ?_, ?_⟩
      · rw [Nat.testBit_zero]; simp
      · intro i
        cases i with
        | zero =>
          rw [Nat.testBit_and, Nat.testBit_zero, Nat.testBit_zero]
          simp
        | succ i =>
          rw [Nat.testBit_and, Nat.testBit_succ, Nat.testBit_succ, show (2 * g + 1) / 2 = g by omega, show (2 * g + 1 - 1) / 2 = g by omega]
          simp
      · refine Nat.eq_of_testBit_eq fun i => ?_
        cases i with
        | zero =>
          rw [Nat.testBit_and, Nat.testBit_zero, Nat.testBit_zero, Nat.testBit_zero, Nat.pow_succ]
          have : (2 ^ k * 2 - (2 * g + 1)) % 2 = 1 := by omega
          rw [this]; simp
        | succ i =>
          rw [Nat.testBit_and, Nat.testBit_succ, Nat.testBit_succ, Nat.testBit_succ, Nat.pow_succ, show (2 * g + 1) / 2 = g by omega, show (2 ^ k * 2 - (2 * g + 1)) / 2 = 2 ^ k - (g + 1) by omega, Nat.testBit_two_pow_sub_succ (by omega)]
          cases g.testBit i <;> simp
/-- The digits, the lowest first. -/
theorem bitsL_step {f : Nat} (h0 : 0 < f) (h1 : f < 65536) : ∃ z, z < 16 ∧ bitsL f = z :: bitsL (f &&& (f - 1)) ∧ f &&& (65536 - f) = 2 ^ z := by
  obtain ⟨z, z1, z2, z3, z4, z5⟩ := lowbit 16 f h0 h1
  refine ⟨z, z1, ?_, z5⟩
  obtain ⟨m, hm⟩ : ∃ m, 16 = z + (m + 1) := ⟨16 - z - 1, by omega⟩
  have hr : List.range 16 = List.range z ++ z :: (List.range m).map (z + 1 + ·) := by
    rw [hm, List.range_add, List.range_succ_eq_map, List.map_cons, List.map_map]
    congr 2
    refine List.map_congr_left fun j _ => ?_
    show z + (j + 1) = z + 1 + j
    omega
  have a1 : (List.range z).filter (fun i => f.testBit i) = [] := List.filter_eq_nil_iff.2 fun i hi => by rw [z3 i (List.mem_range.1 hi)]; simp
  have a2 : (List.range z).filter (fun i => (f &&& (f - 1)).testBit i) = [] := List.filter_eq_nil_iff.2 fun i hi => by rw [z4, z3 i (List.mem_range.1 hi)]; simp
  unfold bitsL
  rw [hr, List.filter_append, List.filter_append, a1, a2, List.filter_cons_of_pos z2, List.filter_cons_of_neg (by rw [z4]; simp), List.nil_append, List.nil_append]
  congr 1
  refine List.filter_congr fun i hi => ?_
  simp only [List.mem_map] at hi
  obtain ⟨j, _, rfl⟩ := hi
  rw [z4, decide_eq_true (by omega), Bool.and_true]
/-- What at most k of a list's sets join to. -/
def Rk (tie : List Nat) : Nat → Nat → Prop
  | 0, i => i = 0
  | k + 1, i => Rk tie k i ∨ ∃ x, Rk tie k x ∧ ∃ t ∈ tie, i = x ||| t
theorem Rk_zero (tie : List Nat) : ∀ k, Rk tie k 0
  | 0 => rfl
  | k + 1 => .inl (Rk_zero tie k)
theorem Rk_le {tie : List Nat} {k m : Nat} (h : k ≤ m) {i : Nat} (g : Rk tie k i) : Rk tie m i := by
  induction m with
  | zero => obtain rfl : k = 0 := by omega
            exact g
  | succ m ih =>
    by_cases e : k = m + 1
    · subst e; exact g
    · exact .inl (ih (by omega))
theorem Rk_one {tie : List Nat} {i : Nat} : Rk tie 1 i ↔ i = 0 ∨ i ∈ tie := by
  constructor
  · rintro (g | ⟨x, g, t, ht, e⟩)
    · exact .inl g
    · have : x = 0 := g
      subst this
      rw [Nat.zero_or] at e
      exact .inr (e ▸ ht)
  · rintro (g | g)
    · exact .inl g
    · exact .inr ⟨0, rfl, i, g, by rw [Nat.zero_or]⟩
/-- It covers these lifts. -/
def Cov (tie lifts : List Nat) (feet : Nat) : Prop := ∀ x ∈ lifts, Rk tie feet x
/-- Ahead of it, by their elements. -/
def lexlt : List Nat → List Nat → Prop
  | [], [] => False
  | [], _ :: _ => True
  | _ :: _, [] => False
  | a :: x, b :: y => a < b ∨ a = b ∧ lexlt x y
theorem lexlt_irr : ∀ a, ¬ lexlt a a
  | [] => id
  | a :: x => by
    rintro (h | ⟨_, h⟩)
    · omega
    · exact lexlt_irr x h
theorem lexlt_trans : ∀ {a b c : List Nat}, lexlt a b → lexlt b c → lexlt a c
  | [], [], _, h, _ => h.elim
  | [], _ :: _, [], _, h => h.elim
  | [], _ :: _, _ :: _, _, _ => trivial
  | _ :: _, [], _, h, _ => h.elim
  | _ :: _, _ :: _, [], _, h => h.elim
  | a :: x, b :: y, c :: z, h, g => by
    rcases h with h | ⟨h1, h2⟩
    · rcases g with g | ⟨g1, g2⟩
      · exact .inl (by omega)
      · exact .inl (by omega)
    · rcases g with g | ⟨g1, g2⟩
      · exact .inl (by omega)
      · exact .inr ⟨by omega, lexlt_trans h2 g2⟩
theorem lexlt_total : ∀ (a b : List Nat), lexlt a b ∨ a = b ∨ lexlt b a
  | [], [] => .inr (.inl rfl)
  | [], _ :: _ => .inl trivial
  | _ :: _, [] => .inr (.inr trivial)
  | a :: x, b :: y => by
    rcases Nat.lt_trichotomy a b with h | h | h
    · exact .inl (.inl h)
    · subst h
      rcases lexlt_total x y with g | g | g
      · exact .inl (.inr ⟨rfl, g⟩)
      · subst g; exact .inr (.inl rfl)
      · exact .inr (.inr (.inr ⟨rfl, g⟩))
    · exact .inr (.inr (.inl h))
/-- Fewer, or as many and ahead. -/
def btr (a b : List Nat) : Prop := a.length < b.length ∨ a.length = b.length ∧ lexlt a b
theorem btr_irr (a : List Nat) : ¬ btr a a := by
  rintro (h | ⟨_, h⟩)
  · omega
  · exact lexlt_irr a h
theorem btr_trans {a b c : List Nat} (h : btr a b) (g : btr b c) : btr a c := by
  rcases h with h | ⟨h1, h2⟩
  · rcases g with g | ⟨g1, g2⟩ <;> exact .inl (by omega)
  · rcases g with g | ⟨g1, g2⟩
    · exact .inl (by omega)
    · exact .inr ⟨by omega, lexlt_trans h2 g2⟩
theorem btr_total (a b : List Nat) : btr a b ∨ a = b ∨ btr b a := by
  rcases Nat.lt_trichotomy a.length b.length with h | h | h
  · exact .inl (.inl h)
  · rcases lexlt_total a b with g | g | g
    · exact .inl (.inr ⟨h, g⟩)
    · exact .inr (.inl g)
    · exact .inr (.inr (.inr ⟨h.symm, g⟩))
  · exact .inr (.inr (.inl h))
/-- A tie-up. -/
def Tie (s : Nat) (u : List Nat) : Prop := u.Pairwise (· < ·) ∧ ∀ x ∈ u, 0 < x ∧ x < 2 ^ s
theorem tie_bits {s g : Nat} (he : g % 2 = 0) (hg : g < 2 ^ (2 ^ s)) : Tie s (bitsL g) := by
  refine ⟨bitsL_inc g, fun x hx => ?_⟩
  obtain ⟨h1, h2⟩ := mem_bitsL.1 hx
  constructor
  · refine Nat.pos_of_ne_zero fun e => ?_
    subst e
    rw [Nat.testBit_zero] at h2
    simp [he] at h2
  · refine Nat.lt_of_not_le fun hle => ?_
    rw [Nat.testBit_lt_two_pow (Nat.lt_of_lt_of_le hg (Nat.pow_le_pow_right (by omega) hle))] at h2
    cases h2
/-- Each tie-up is a family. -/
def famN : List Nat → Nat
  | [] => 0
  | x :: r => 2 ^ x ||| famN r
theorem famN_bit : ∀ (u : List Nat) (i : Nat), (famN u).testBit i = true ↔ i ∈ u
  | [], i => by simp [famN]
  | x :: r, i => by
    simp only [famN]
    rw [Nat.testBit_or, Bool.or_eq_true, famN_bit r i, Nat.testBit_two_pow, List.mem_cons]
    simp only [decide_eq_true_eq]
    constructor
    · rintro (h | h)
      · exact .inl h.symm
      · exact .inr h
    · rintro (h | h)
      · exact .inl h.symm
      · exact .inr h
theorem famN_ok {s : Nat} (hs : s ≤ 4) {u : List Nat} (hu : Tie s u) : famN u % 2 = 0 ∧ famN u < 2 ^ (2 ^ s) ∧ bitsL (famN u) = u := by
  have hs16 : 2 ^ s ≤ 16 := by
    have := Nat.pow_le_pow_right (show 0 < 2 by omega) hs
    simpa using this
  refine ⟨?_, ?_, ?_⟩
  · have h0 : ¬ (famN u).testBit 0 = true := fun h => by
      have := (hu.2 0 ((famN_bit u 0).1 h)).1; omega
    rw [Nat.testBit_zero] at h0
    simp at h0; omega
  · refine Nat.lt_pow_two_of_testBit _ fun i hi => ?_
    cases h : (famN u).testBit i with
    | false => rfl
    | true => have := (hu.2 i ((famN_bit u i).1 h)).2; omega
  · have hmem : ∀ x, x ∈ bitsL (famN u) ↔ x ∈ u := fun x => by
      rw [mem_bitsL, famN_bit]
      exact ⟨fun h => h.2, fun h => ⟨by have := (hu.2 x h).2; omega, h⟩⟩
    have key : nI (bitsL (famN u)) = nI u := by
      refine sinc_ext _ _ ?_ ?_ fun x => ?_
      · unfold nI; rw [List.pairwise_map]; exact (bitsL_inc _).imp fun h => by omega
      · unfold nI; rw [List.pairwise_map]; exact hu.1.imp fun h => by omega
      · unfold nI
        simp only [List.mem_map]
        constructor
        · rintro ⟨a, ha, rfl⟩; exact ⟨a, (hmem a).1 ha, rfl⟩
        · rintro ⟨a, ha, rfl⟩; exact ⟨a, (hmem a).2 ha, rfl⟩
    have : ∀ a b : List Nat, nI a = nI b → a = b := by
      intro a
      induction a with
      | nil => intro b h; cases b with | nil => rfl | cons y b => simp [nI] at h
      | cons x a ih =>
        intro b h
        cases b with
        | nil => simp [nI] at h
        | cons y b =>
          simp only [nI, List.map_cons, List.cons.injEq] at h
          have h1 : x = y := by omega
          rw [h1, ih b h.2]
    exact this _ _ key
/-- The least tie-up. -/
structure Lst (s : Nat) (lifts : List Nat) (feet : Nat) (u : List Nat) : Prop where
  tie : Tie s u
  cov : Cov u lifts feet
  min : ∀ v, Tie s v → Cov v lifts feet → ¬ btr v u
theorem lst_unique {s : Nat} {lifts : List Nat} {feet : Nat} {u v : List Nat} (hu : Lst s lifts feet u) (hv : Lst s lifts feet v) : u = v := by
  rcases btr_total u v with h | h | h
  · exact absurd h (hv.min u hu.tie hu.cov)
  · exact h
  · exact absurd h (hu.min v hv.tie hv.cov)
end Go.Proofs.YtlckfakifamjiaaDoor

/- Least lists: more feet, fewer lifts. Plain. -/
set_option linter.unusedSimpArgs false
set_option linter.unusedVariables false
set_option maxRecDepth 100000
namespace Go.Proofs.YtlckfakifamjiaaDoor
open Go Go.Proofs Go.AW

def joinL : List Nat → Nat
  | [] => 0
  | t :: r => joinL r ||| t
theorem joinL_rk {tie : List Nat} : ∀ l : List Nat, (∀ t ∈ l, t ∈ tie) → Rk tie l.length (joinL l)
  | [], _ => rfl
  | t :: r, h => .inr ⟨joinL r, joinL_rk r (fun x hx => h x (List.mem_cons_of_mem _ hx)), t, h t List.mem_cons_self, rfl⟩
/-- The lifts that are not empty. -/
def nzL (s : Nat) (lifts : List Nat) : List Nat := (List.range (2 ^ s)).filter fun x => decide (0 < x ∧ x ∈ lifts)
theorem mem_nz {s : Nat} {lifts : List Nat} {x : Nat} : x ∈ nzL s lifts ↔ x < 2 ^ s ∧ 0 < x ∧ x ∈ lifts := by
  simp only [nzL, List.mem_filter, List.mem_range, decide_eq_true_eq]
theorem nz_tie (s : Nat) (lifts : List Nat) : Tie s (nzL s lifts) :=
  ⟨List.Pairwise.filter _ List.pairwise_lt_range, fun x hx => ⟨(mem_nz.1 hx).2.1, (mem_nz.1 hx).1⟩⟩
end Go.Proofs.YtlckfakifamjiaaDoor

/- The least lists of the examples. Plain. -/
set_option linter.unusedSimpArgs false
set_option linter.unusedVariables false
set_option maxRecDepth 100000
namespace Go.Proofs.YtlckfakifamjiaaDoor
open Go Go.Proofs Go.AW

def reachL (tie : List Nat) : Nat → List Nat
  | 0 => [0]
  | k + 1 => reachL tie k ++ (reachL tie k).flatMap fun x => tie.map fun t => x ||| t
theorem mem_reach {tie : List Nat} : ∀ {k i : Nat}, i ∈ reachL tie k ↔ Rk tie k i
  | 0, i => by simp [reachL, Rk]
  | k + 1, i => by
    simp only [reachL, Rk, List.mem_append, List.mem_flatMap, List.mem_map, mem_reach (k := k)]
    constructor
    · rintro (h | ⟨x, hx, t, ht, e⟩)
      · exact .inl h
      · exact .inr ⟨x, hx, t, ht, e.symm⟩
    · rintro (h | ⟨x, hx, t, ht, e⟩)
      · exact .inl h
      · exact .inr ⟨x, hx, t, ht, e.symm⟩
def covB (tie lifts : List Nat) (feet : Nat) : Bool := lifts.all fun x => (reachL tie feet).contains x
theorem covB_iff {tie lifts : List Nat} {feet : Nat} : covB tie lifts feet = true ↔ Cov tie lifts feet := by
  unfold covB Cov
  rw [List.all_eq_true]
  constructor
  · intro h x hx; exact mem_reach.1 (List.contains_iff_mem.1 (h x hx))
  · intro h x hx; exact List.contains_iff_mem.2 (mem_reach.2 (h x hx))
def lexB : List Nat → List Nat → Bool
  | [], [] => false
  | [], _ :: _ => true
  | _ :: _, [] => false
  | a :: x, b :: y => Nat.blt a b || (Nat.beq a b && lexB x y)
theorem lexB_iff : ∀ {a b : List Nat}, lexB a b = true ↔ lexlt a b
  | [], [] => by simp [lexB, lexlt]
  | [], _ :: _ => by simp [lexB, lexlt]
  | _ :: _, [] => by simp [lexB, lexlt]
  | a :: x, b :: y => by simp [lexB, lexlt, lexB_iff (a := x) (b := y), Nat.blt_eq, Nat.beq_eq]
def btrB (a b : List Nat) : Bool := Nat.blt a.length b.length || (Nat.beq a.length b.length && lexB a b)
theorem btrB_iff {a b : List Nat} : btrB a b = true ↔ btr a b := by simp [btrB, btr, lexB_iff, Nat.blt_eq, Nat.beq_eq]
/-- A set of one shaft is lifted by its own treadle alone. -/
theorem pow_in {u : List Nat} (hu : ∀ t ∈ u, 0 < t) {j : Nat} : ∀ k, Rk u k (2 ^ j) → 2 ^ j ∈ u
  | 0, h => by
    have : 2 ^ j = 0 := h
    have := Nat.two_pow_pos j; omega
  | k + 1, h => by
    rcases h with h | ⟨x, hx, t, ht, e⟩
    · exact pow_in hu k h
    · have hb : ∀ b, t.testBit b = true → b = j := fun b hb => by
        have := congrArg (fun n => n.testBit b) e
        simp only [Nat.testBit_or, hb, Bool.or_true, Nat.testBit_two_pow, decide_eq_true_eq] at this
        exact this.symm
      have ht0 := hu t ht
      obtain ⟨b, hb1⟩ := Nat.exists_testBit_of_ne_zero (show t ≠ 0 by omega)
      have : t = 2 ^ j := Nat.eq_of_testBit_eq fun i => by
        rw [Nat.testBit_two_pow]
        by_cases e : j = i
        · subst e
          have := hb b hb1
          subst this
          rw [hb1, decide_eq_true rfl]
        · rw [decide_eq_false e]
          cases hc : t.testBit i with
          | false => rfl
          | true => exact absurd (hb i hc).symm e
      rw [← this]; exact ht
def ex14 : List Nat := [1, 2, 3, 4, 5, 6, 7, 8, 9, 10, 11, 12, 13, 14]
def ex14T : List Nat := [1, 2, 3, 4, 8, 12]
/-- The check: families with 1, 2, 4 and 8, and no empty set, that cover, are not better. -/
def chkA : Bool := (List.range 256).all fun a => !Nat.beq (a &&& 1) 1 || (List.range 256).all fun b => !Nat.beq (b &&& 23) 22 || (let u := bitsL (256 * a + b); Nat.blt 6 u.length || !btrB u ex14T || !covB u ex14 2)
theorem chkA_ok : chkA = true := by kernel_rfl
theorem lst_ex14 : Lst 4 ex14 2 ex14T := by
  refine ⟨⟨by decide, by decide⟩, covB_iff.1 (by kernel_rfl), fun v hv hc hb => ?_⟩
  obtain ⟨h1, h2, h3⟩ := famN_ok (Nat.le_refl 4) hv
  have hpos : ∀ t ∈ v, 0 < t := fun t ht => (hv.2 t ht).1
  have hm : ∀ j, 2 ^ j ∈ ex14 → 2 ^ j ∈ v := fun j hj => pow_in hpos 2 (hc _ hj)
  have m1 : 1 ∈ v := hm 0 (by decide)
  have m2 : 2 ∈ v := hm 1 (by decide)
  have m4 : 4 ∈ v := hm 2 (by decide)
  have m8 : 8 ∈ v := hm 3 (by decide)
  rw [← famN_bit] at m1 m2 m4 m8
  generalize famN v = g at *
  rw [show (2 : Nat) ^ 2 ^ 4 = 65536 by rfl] at h2
  have hbs : ∀ i, g.testBit i = decide (g / 2 ^ i % 2 = 1) := fun i => Nat.testBit_eq_decide_div_mod_eq
  rw [hbs, decide_eq_true_eq] at m1 m2 m4 m8
  have key := chkA_ok
  unfold chkA at key
  rw [List.all_eq_true] at key
  have k1 := key (g / 256) (List.mem_range.2 (by omega))
  have ha : g / 256 &&& 1 = 1 := by rw [Nat.and_one_is_mod]; omega
  rw [ha] at k1
  rw [show (!Nat.beq 1 1) = false from rfl, Bool.false_or, List.all_eq_true] at k1
  have k2 := k1 (g % 256) (List.mem_range.2 (by omega))
  have hb2 : g % 256 &&& 23 = 22 := by
    have hlt : g % 256 < 256 := by omega
    have q1 : g % 256 % 2 = 0 := by omega
    have q2 : g % 256 / 2 % 2 = 1 := by omega
    have q3 : g % 256 / 4 % 2 = 1 := by omega
    have q4 : g % 256 / 16 % 2 = 1 := by omega
    generalize g % 256 = b at *
    have fin : ∀ b, b < 256 → b % 2 = 0 → b / 2 % 2 = 1 → b / 4 % 2 = 1 → b / 16 % 2 = 1 → b &&& 23 = 22 := by decide
    exact fin b hlt q1 q2 q3 q4
  rw [hb2, show (!Nat.beq 22 22) = false from rfl, Bool.false_or, show 256 * (g / 256) + g % 256 = g by omega, h3] at k2
  have c1 : covB v ex14 2 = true := covB_iff.2 hc
  have c2 : btrB v ex14T = true := btrB_iff.2 hb
  simp only [c1, c2, Bool.not_true, Bool.or_false, Nat.blt_eq] at k2
  rcases hb with hb | hb
  · have : v.length < 6 := hb
    omega
  · have : v.length = 6 := hb.1
    omega
theorem lst_ex3 : Lst 2 [1, 2, 3] 2 [1, 2] := by
  refine ⟨⟨by decide, by decide⟩, covB_iff.1 (by kernel_rfl), fun v hv hc hb => ?_⟩
  have hpos : ∀ t ∈ v, 0 < t := fun t ht => (hv.2 t ht).1
  have m1 : 1 ∈ v := pow_in (j := 0) hpos 2 (hc 1 (by decide))
  have m2 : 2 ∈ v := pow_in (j := 1) hpos 2 (hc 2 (by decide))
  have hh := hv.1
  match v, hb, m1, m2, hh, hpos with
  | [], _, m1, _, _, _ => cases m1
  | [a], _, m1, m2, _, _ =>
    have e1 : 1 = a := by simpa using m1
    have e2 : 2 = a := by simpa using m2
    omega
  | [a, b], hb, m1, m2, hh, hpos =>
    have hab : a < b := by simpa using hh
    have e1 : 1 = a ∨ 1 = b := by simpa using m1
    have e2 : 2 = a ∨ 2 = b := by simpa using m2
    obtain ⟨rfl, rfl⟩ : a = 1 ∧ b = 2 := by omega
    exact btr_irr _ hb
  | a :: b :: c :: r, hb, _, _, _, _ =>
    rcases hb with hb | hb
    · simp at hb; omega
    · have := hb.1; simp at this
end Go.Proofs.YtlckfakifamjiaaDoor

/- Operations on small numbers, digit by digit. -/
set_option linter.unusedSimpArgs false
set_option linter.unusedVariables false
set_option maxRecDepth 100000
namespace Go.Proofs.YtlckfakifamjiaaDoor
open Go Go.Proofs Go.AW

section
variable {fb fn ff fl fz : Operand → Bool} {fD : Nat → Bool} {fy : Option (Value × (List AVal → List AObj → List AObj → Prop))} {P : Program} {dst : Option Tmp} {ty : TypeId} {pos : String} {after : Array Edge} {g : Option (Nat × Bool)} {ρ : Operand → AVal} {h : List AObj} {K : AVal → List AObj → Prop}
theorem opK_neg (t : TypeId) (x : Operand) : @opK P ⟨fb, fn, ff, fl, fD, fz, fy⟩ ⟨dst, .unOp .neg t x, ty, pos, after, g⟩ ρ h K = @bindK _ (match ρ x with | .val (.int k n) => some (.val (.int k (k.wrap (0 - n)))) | _ => none : Option AVal) ⟨fun v => K v h⟩ := by
  rw [opK_unOp]
  cases ρ x with
  | val v => cases v <;> rfl
  | _ => rfl
theorem opK_index (t : TypeId) (x i : Operand) : @opK P ⟨fb, fn, ff, fl, fD, fz, fy⟩ ⟨dst, .index t x i, ty, pos, after, g⟩ ρ h K = @bindK _ (aIndex P t (ρ x) (ρ i)) ⟨fun v => K v h⟩ := opK_pure rfl rfl rfl rfl
end
theorem aBin_shr (P : Program) (t : TypeId) (k k' : IntKind) (a b : Int) : aBin P t .shr (.val (.int k a)) (.val (.int k' b)) = aInt .shr k a b := by simp [aBin, isShift]
theorem aBin_shl (P : Program) (t : TypeId) (k k' : IntKind) (a b : Int) : aBin P t .shl (.val (.int k a)) (.val (.int k' b)) = aInt .shl k a b := by simp [aBin, isShift]
theorem wr16 {n : Nat} (h : n < 65536) : IntKind.u16.wrap (n : Int) = n := by
  have e1 : IntKind.u16.bits = 16 := rfl
  have e2 : IntKind.u16.signed = false := rfl
  simp only [IntKind.wrap, e1, e2]
  simp
  omega
theorem wr64 {n : Nat} (h : n < 1000000) : IntKind.i64.wrap (n : Int) = n := wrap_id (by omega) (by omega)
theorem wrU {n : Nat} (h : n < 1000000) : IntKind.u64.wrap (n : Int) = n := by
  have e1 : IntKind.u64.bits = 64 := rfl
  have e2 : IntKind.u64.signed = false := rfl
  simp only [IntKind.wrap, e1, e2]
  simp
  omega
theorem ofI16 {n : Nat} : BitVec.ofInt 16 (n : Int) = BitVec.ofNat 16 n := BitVec.ofInt_natCast 16 n
theorem ofI64 {n : Nat} : BitVec.ofInt 64 (n : Int) = BitVec.ofNat 64 n := BitVec.ofInt_natCast 64 n
theorem and16 {x y : Nat} (hx : x < 65536) (hy : y < 65536) : aInt .and .u16 (x : Int) (y : Int) = some (.val (.int .u16 ((x &&& y : Nat) : Int))) := by
  show some (AVal.val (.int .u16 (IntKind.u16.wrap ((BitVec.ofInt 16 (x : Int) &&& BitVec.ofInt 16 (y : Int)).toNat)))) = _
  rw [ofI16, ofI16, BitVec.toNat_and, BitVec.toNat_ofNat, BitVec.toNat_ofNat, Nat.mod_eq_of_lt (by omega), Nat.mod_eq_of_lt (by omega), wr16 (Nat.lt_of_le_of_lt Nat.and_le_left hx)]
theorem or16 {x y : Nat} (hx : x < 65536) (hy : y < 65536) : aInt .or .u16 (x : Int) (y : Int) = some (.val (.int .u16 ((x ||| y : Nat) : Int))) := by
  show some (AVal.val (.int .u16 (IntKind.u16.wrap ((BitVec.ofInt 16 (x : Int) ||| BitVec.ofInt 16 (y : Int)).toNat)))) = _
  rw [ofI16, ofI16, BitVec.toNat_or, BitVec.toNat_ofNat, BitVec.toNat_ofNat, Nat.mod_eq_of_lt (by omega), Nat.mod_eq_of_lt (by omega), wr16 (Nat.or_lt_two_pow (n := 16) hx hy)]
theorem or64 {x y : Nat} (hx : x < 16) (hy : y < 16) : aInt .or .i64 (x : Int) (y : Int) = some (.val (.int .i64 ((x ||| y : Nat) : Int))) := by
  show some (AVal.val (.int .i64 (IntKind.i64.wrap ((BitVec.ofInt 64 (x : Int) ||| BitVec.ofInt 64 (y : Int)).toNat)))) = _
  rw [ofI64, ofI64, BitVec.toNat_or, BitVec.toNat_ofNat, BitVec.toNat_ofNat, Nat.mod_eq_of_lt (by omega), Nat.mod_eq_of_lt (by omega), wr64 (Nat.lt_of_lt_of_le (Nat.or_lt_two_pow (n := 4) hx hy) (by omega))]
theorem and16_1 {x : Nat} (hx : x < 65536) : aInt .and .u16 (x : Int) 1 = some (.val (.int .u16 ((x % 2 : Nat) : Int))) := by
  have := and16 (x := x) (y := 1) hx (by omega)
  rwa [Nat.and_one_is_mod] at this
theorem and16_255 {x : Nat} (hx : x < 65536) : aInt .and .u16 (x : Int) 255 = some (.val (.int .u16 ((x % 256 : Nat) : Int))) := by
  have := and16 (x := x) (y := 255) hx (by omega)
  rwa [show x &&& 255 = x % 256 from Nat.and_two_pow_sub_one_eq_mod x 8] at this
theorem shr16 {x n : Nat} (hn : n ≤ 16) : aInt .shr .u16 (x : Int) (n : Int) = some (.val (.int .u16 ((x / 2 ^ n : Nat) : Int))) := by
  have e : (min (Int.toNat (n : Int)) IntKind.u16.bits) = n := by
    rw [Int.toNat_natCast, show IntKind.u16.bits = 16 from rfl]; omega
  show (if (n : Int) < 0 then none else some _) = _
  rw [if_neg (by omega), e, show ((2 : Int) ^ n) = ((2 ^ n : Nat) : Int) by norm_cast, Int.fdiv_eq_ediv_of_nonneg _ (Int.natCast_nonneg _)]
  rfl
theorem shr16_8 {x : Nat} : aInt .shr .u16 (x : Int) 8 = some (.val (.int .u16 ((x / 256 : Nat) : Int))) := shr16 (x := x) (n := 8) (by omega)
theorem shl16 {n : Nat} (hn : n < 16) : aInt .shl .u16 1 (n : Int) = some (.val (.int .u16 ((2 ^ n : Nat) : Int))) := by
  have e : (min (Int.toNat (n : Int)) IntKind.u16.bits) = n := by
    rw [Int.toNat_natCast, show IntKind.u16.bits = 16 from rfl]; omega
  show (if (n : Int) < 0 then none else some _) = _
  rw [if_neg (by omega), e, Int.one_mul, show ((2 : Int) ^ n) = ((2 ^ n : Nat) : Int) by norm_cast, wr16 (by
    have := Nat.pow_lt_pow_right (show 1 < 2 by omega) hn
    simpa using this)]
theorem shl64 {n : Nat} (hn : n ≤ 16) : aInt .shl .i64 1 (n : Int) = some (.val (.int .i64 ((2 ^ n : Nat) : Int))) := by
  have e : (min (Int.toNat (n : Int)) IntKind.i64.bits) = n := by
    rw [Int.toNat_natCast, show IntKind.i64.bits = 64 from rfl]; omega
  show (if (n : Int) < 0 then none else some _) = _
  have h16 : 2 ^ n ≤ 2 ^ 16 := Nat.pow_le_pow_right (by omega) hn
  rw [if_neg (by omega), e, Int.one_mul, show ((2 : Int) ^ n) = ((2 ^ n : Nat) : Int) by norm_cast, wr64 (by omega)]
theorem shlU {n : Nat} (hn : n ≤ 16) : aInt .shl .u64 1 (n : Int) = some (.val (.int .u64 ((2 ^ n : Nat) : Int))) := by
  have e : (min (Int.toNat (n : Int)) IntKind.u64.bits) = n := by
    rw [Int.toNat_natCast, show IntKind.u64.bits = 64 from rfl]; omega
  show (if (n : Int) < 0 then none else some _) = _
  have h16 : 2 ^ n ≤ 2 ^ 16 := Nat.pow_le_pow_right (by omega) hn
  rw [if_neg (by omega), e, Int.one_mul, show ((2 : Int) ^ n) = ((2 ^ n : Nat) : Int) by norm_cast, wrU (by omega)]
def andn (a b : Nat) : Nat := (BitVec.ofNat 16 a &&& ~~~ BitVec.ofNat 16 b).toNat
theorem andn16 {x y : Nat} : aInt .andNot .u16 (x : Int) (y : Int) = some (.val (.int .u16 ((andn x y : Nat) : Int))) := by
  show some (AVal.val (.int .u16 (IntKind.u16.wrap ((BitVec.ofInt 16 (x : Int) &&& ~~~ BitVec.ofInt 16 (y : Int)).toNat)))) = _
  rw [ofI16, ofI16, wr16 (BitVec.isLt _)]; rfl
theorem andn_zero {x y : Nat} (hx : x < 65536) : andn x y = 0 ↔ ∀ i, x.testBit i = true → y.testBit i = true := by
  have hb : ∀ i, (andn x y).testBit i = (decide (i < 16) && (x.testBit i && !y.testBit i)) := fun i => by
    unfold andn
    rw [BitVec.testBit_toNat, BitVec.getLsbD_and, BitVec.getLsbD_not, BitVec.getLsbD_ofNat, BitVec.getLsbD_ofNat]
    by_cases h : i < 16
    · simp [h]
    · simp [h]
  constructor
  · intro h i hi
    have := hb i
    rw [h, Nat.zero_testBit, hi] at this
    have hlt : i < 16 := Nat.lt_of_not_le fun hle => by
      rw [Nat.testBit_lt_two_pow (Nat.lt_of_lt_of_le (show x < 2 ^ 16 from hx) (Nat.pow_le_pow_right (by omega) hle))] at hi
      cases hi
    rw [decide_eq_true hlt] at this
    cases hy : y.testBit i with
    | true => rfl
    | false => rw [hy] at this; cases this
  · intro h
    refine Nat.eq_of_testBit_eq fun i => ?_
    rw [hb, Nat.zero_testBit]
    cases hx : x.testBit i with
    | false => simp
    | true => rw [h i hx]; simp
theorem kU16 : ∃ T, tyI Tryd.prog 64 = some T ∧ T.kind = some .u16 := by
  have h : (tyI Tryd.prog 64).any (fun T => T.kind == some .u16) = true := by kernel_rfl
  revert h
  cases tyI Tryd.prog 64 with
  | none => intro h; cases h
  | some T => intro h; exact ⟨T, rfl, by simpa using h⟩
theorem kU32 : ∃ T, tyI Tryd.prog 134 = some T ∧ T.kind = some .u32 := by
  have h : (tyI Tryd.prog 134).any (fun T => T.kind == some .u32) = true := by kernel_rfl
  revert h
  cases tyI Tryd.prog 134 with
  | none => intro h; cases h
  | some T => intro h; exact ⟨T, rfl, by simpa using h⟩
theorem kU8 : ∃ T, tyI Tryd.prog 5 = some T ∧ T.kind = some .u8 := by
  have h : (tyI Tryd.prog 5).any (fun T => T.kind == some .u8) = true := by kernel_rfl
  revert h
  cases tyI Tryd.prog 5 with
  | none => intro h; cases h
  | some T => intro h; exact ⟨T, rfl, by simpa using h⟩
theorem kInt : ∃ T, tyI Tryd.prog 3 = some T ∧ T.kind = some .i64 := by
  have h : (tyI Tryd.prog 3).any (fun T => T.kind == some .i64) = true := by kernel_rfl
  revert h
  cases tyI Tryd.prog 3 with
  | none => intro h; cases h
  | some T => intro h; exact ⟨T, rfl, by simpa using h⟩
theorem kFam : ∃ T, tyI Tryd.prog 65 = some T ∧ T.kind = some .u16 := by
  have h : (tyI Tryd.prog 65).any (fun T => T.kind == some .u16) = true := by kernel_rfl
  revert h
  cases tyI Tryd.prog 65 with
  | none => intro h; cases h
  | some T => intro h; exact ⟨T, rfl, by simpa using h⟩
theorem kStr : ∃ T, tyI Tryd.prog 9 = some T ∧ T.isStr = true := by
  have h : (tyI Tryd.prog 9).any (fun T => T.isStr) = true := by kernel_rfl
  revert h
  cases tyI Tryd.prog 9 with
  | none => intro h; cases h
  | some T => intro h; exact ⟨T, rfl, by simpa using h⟩
/-- Where the table of lowest digits has z. -/
def dbI (z : Nat) : Nat := 2 ^ z * 125613361 % 4294967296 / 134217728
theorem dbI_lt : ∀ z, z < 16 → dbI z < 32 := by decide
theorem db_shr (P : Program) (t : TypeId) {z : Nat} (hz : z < 16) : aBin P t .shr (.val (.int .u32 (IntKind.u32.wrap (IntKind.u32.wrap ((2 ^ z : Nat) : Int) * 125613361)))) (.val (.int .u64 27)) = some (.val (.int .u32 (dbI z : Int))) := by
  rw [aBin_shr]
  have hp : 2 ^ z < 65536 := Nat.pow_lt_pow_right (show 1 < 2 by omega) hz
  unfold dbI
  generalize 2 ^ z = x at *
  have w1 : IntKind.u32.wrap ((x : Nat) : Int) = x := by
    have e1 : IntKind.u32.bits = 32 := rfl
    have e2 : IntKind.u32.signed = false := rfl
    simp only [IntKind.wrap, e1, e2]
    simp
    omega
  have w2 : IntKind.u32.wrap ((x : Int) * 125613361) = ((x * 125613361 % 4294967296 : Nat) : Int) := by
    have e1 : IntKind.u32.bits = 32 := rfl
    have e2 : IntKind.u32.signed = false := rfl
    simp only [IntKind.wrap, e1, e2]
    simp
  rw [w1, w2]
  generalize x * 125613361 % 4294967296 = y
  show (if (27 : Int) < 0 then none else some _) = _
  rw [if_neg (by omega), show (min (Int.toNat 27) IntKind.u32.bits) = 27 from rfl, show ((2 : Int) ^ 27) = ((134217728 : Nat) : Int) by rfl, Int.fdiv_eq_ediv_of_nonneg _ (Int.natCast_nonneg _)]
  rfl
/-- The table of lowest digits. -/
def DB : List AVal := match lookT tabs 0 with | some cs => cs.map .val | none => []
theorem dbZ {z : Nat} (hz : z < 16) : (DB.drop (dbI z))[0]? = some (.val (.int .u8 (z : Int))) := by
  have : z = 0 ∨ z = 1 ∨ z = 2 ∨ z = 3 ∨ z = 4 ∨ z = 5 ∨ z = 6 ∨ z = 7 ∨ z = 8 ∨ z = 9 ∨ z = 10 ∨ z = 11 ∨ z = 12 ∨ z = 13 ∨ z = 14 ∨ z = 15 := by omega
  rcases this with rfl | rfl | rfl | rfl | rfl | rfl | rfl | rfl | rfl | rfl | rfl | rfl | rfl | rfl | rfl | rfl <;> rfl
theorem dbT : ∃ T E, tyI Tryd.prog 137 = some T ∧ T.elem = none ∧ T.arr = some (32, 5) ∧ tyI Tryd.prog 5 = some E ∧ E.size = 1 := by
  have h : (tyI Tryd.prog 137).any (fun T => T.elem.isNone && (T.arr == some (32, 5)) && (tyI Tryd.prog 5).any fun E => E.size == 1) = true := by kernel_rfl
  revert h
  cases tyI Tryd.prog 137 with
  | none => intro h; cases h
  | some T =>
    cases tyI Tryd.prog 5 with
    | none => intro h; simp at h
    | some E =>
      intro h
      simp only [Option.any_some, Bool.and_eq_true, beq_iff_eq, Option.isNone_iff_eq_none] at h
      exact ⟨T, E, rfl, h.1.1, h.1.2, rfl, h.2⟩
theorem dbAt (env : List (Nat × AVal)) (h : List AObj) {m : Nat} (hm : m < 32) (k : IntKind) : aIdx Tryd.prog 137 h (ev env (.global 0)) (.val (.int k (m : Int))) = some (.spot false (DB.drop m)) := by
  obtain ⟨T, E, h1, h2, h3, h4, h5⟩ := dbT
  show aIdx Tryd.prog 137 h (.spot false DB) (.val (.int k (m : Int))) = _
  simp only [aIdx, h1, h2, h3, h4, h5, Nat.mul_one, Int.toNat_natCast]
  rw [if_pos ⟨by omega, by omega⟩]
def chkPop (s : ByteArray) : Bool := (List.range 256).all fun n => match s[n]? with | some b => Nat.beq b.toNat (bitsL n).length | none => false
theorem idxPop {P : Program} {t : TypeId} {T : TyI} (hT : tyI P t = some T) (hs : T.isStr = true) {s : ByteArray} (hc : chkPop s = true) {k : IntKind} {n : Nat} (hn : n < 256) : aIndex P t (ofConst (.string s)) (.val (.int k (n : Int))) = some (.val (.int .u8 (((bitsL n).length : Nat) : Int))) := by
  have h := List.all_eq_true.1 hc n (List.mem_range.2 hn)
  show aIndex P t (.val (.string s)) (.val (.int k (n : Int))) = _
  simp only [aIndex, hT, Int.toNat_natCast]
  rw [if_pos ⟨hs, by omega⟩]
  cases hb : s[n]? with
  | none => rw [hb] at h; cases h
  | some b =>
    rw [hb] at h
    have e : b.toNat = (bitsL n).length := Nat.eq_of_beq_eq_true h
    rw [Option.map_some, e]
end Go.Proofs.YtlckfakifamjiaaDoor

/- The library's counting of digits. -/
set_option linter.unusedSimpArgs false
set_option linter.unusedVariables false
set_option maxRecDepth 100000
namespace Go.Proofs.YtlckfakifamjiaaDoor
open Go Go.Proofs Go.AW
theorem pop_split (f : Nat) (hf : f < 65536) : (bitsL f).length = (bitsL (f / 256)).length + (bitsL (f % 256)).length := by
  have e1 : (bitsL f).length = (List.range 16).countP fun i => f.testBit i := by unfold bitsL; rw [List.countP_eq_length_filter]
  have e2 : (bitsL (f / 256)).length = (List.range 16).countP fun i => (f / 256).testBit i := by unfold bitsL; rw [List.countP_eq_length_filter]
  have e3 : (bitsL (f % 256)).length = (List.range 16).countP fun i => (f % 256).testBit i := by unfold bitsL; rw [List.countP_eq_length_filter]
  have h1 : ∀ i, (f / 256).testBit i = f.testBit (i + 8) := fun i => by rw [show f / 256 = f / 2 ^ 8 from rfl, Nat.testBit_div_two_pow]
  have h2 : ∀ i, (f % 256).testBit i = (decide (i < 8) && f.testBit i) := fun i => Nat.testBit_mod_two_pow f 8 i
  have hz : ∀ i, 16 ≤ i → f.testBit i = false := fun i hi => Nat.testBit_lt_two_pow (Nat.lt_of_lt_of_le (show f < 2 ^ 16 from hf) (Nat.pow_le_pow_right (by omega) hi))
  rw [e1, e2, e3]
  simp only [h1, h2]
  have hr : List.range 16 = [0, 1, 2, 3, 4, 5, 6, 7, 8, 9, 10, 11, 12, 13, 14, 15] := rfl
  rw [hr]
  simp only [List.countP_cons, List.countP_nil, hz (8 + 8) (by omega), hz (9 + 8) (by omega), hz (10 + 8) (by omega), hz (11 + 8) (by omega), hz (12 + 8) (by omega), hz (13 + 8) (by omega), hz (14 + 8) (by omega), hz (15 + 8) (by omega)]
  simp
  omega
theorem ones_c (f : Nat) (hf : f < 65536) : Contract Tryd.prog 44 [.val (.int .u16 f)] (I (bitsL f).length) := by
  obtain ⟨T9, hT9, hs9⟩ := kStr
  obtain ⟨T3, hT3, hk3⟩ := kInt
  obtain ⟨T5, hT5, hk5⟩ := kU8
  have hp := pop_split f hf
  have h1 : (bitsL (f / 256)).length ≤ 16 := by unfold bitsL; exact Nat.le_trans (List.length_filter_le _ _) (by simp)
  have h2 : (bitsL (f % 256)).length ≤ 16 := by unfold bitsL; exact Nat.le_trans (List.length_filter_le _ _) (by simp)
  have e1 : IntKind.u8.wrap (((bitsL (f / 256)).length : Int) + ((bitsL (f % 256)).length : Int)) = ((bitsL f).length : Int) := by
    have e1 : IntKind.u8.bits = 8 := rfl
    have e2 : IntKind.u8.signed = false := rfl
    simp only [IntKind.wrap, e1, e2]
    simp
    omega
  have e2 : IntKind.i64.wrap ((bitsL f).length : Int) = ((bitsL f).length : Int) := wr64 (by omega)
  refine Contract.intro (effS [] false) 6 follows Tryd.func44 rfl rfl (by kernel_rfl) (Nat.le_of_ble_eq_true rfl) ?_
  simp (disch := first | assumption | omega | rfl | simp only [hAt_app, hAt_app0, List.getElem?_cons_zero, List.getElem?_cons_succ]) only [↓RP, RG, FX, decide_eq_true, decide_eq_false, Bool.not_true, Bool.not_false, Option.map_some, List.map_cons, List.map_nil, List.getElem?_cons_zero, List.getElem?_cons_succ, ↓reduceIte, Nat.reduceEqDiff, reduceCtorEq, decide_eq_true_eq, decide_eq_false_iff_not, Option.map_none, Option.bind_some, List.contains_nil, List.contains_cons, Nat.reduceBEq, Bool.or_false, Bool.false_or, Bool.or_self, List.set_cons_zero, List.set_cons_succ, List.take_succ_cons, List.take_zero, List.drop_succ_cons, List.drop_zero, List.length_cons, List.length_nil, List.length_append, Nat.reduceAdd, Nat.reduceLeDiff, List.all_cons, List.all_nil, Bool.and_true, and_true, true_and, and_self, ne_eq, not_false_eq_true, List.cons_append, List.nil_append, List.append_nil, List.append_assoc, Nat.zero_add, Nat.add_zero, Int.toNat_natCast, args0_1, aBin_shr, shr16_8, and16_255, opK_index]
  rw [idxPop hT9 hs9 (by kernel_rfl) (show f / 256 < 256 by omega)]
  simp (disch := first | assumption | omega | rfl | simp only [hAt_app, hAt_app0, List.getElem?_cons_zero, List.getElem?_cons_succ]) only [↓RP, RG, FX, decide_eq_true, decide_eq_false, Bool.not_true, Bool.not_false, Option.map_some, List.map_cons, List.map_nil, List.getElem?_cons_zero, List.getElem?_cons_succ, ↓reduceIte, Nat.reduceEqDiff, reduceCtorEq, decide_eq_true_eq, decide_eq_false_iff_not, Option.map_none, Option.bind_some, List.contains_nil, List.contains_cons, Nat.reduceBEq, Bool.or_false, Bool.false_or, Bool.or_self, List.set_cons_zero, List.set_cons_succ, List.take_succ_cons, List.take_zero, List.drop_succ_cons, List.drop_zero, List.length_cons, List.length_nil, List.length_append, Nat.reduceAdd, Nat.reduceLeDiff, List.all_cons, List.all_nil, Bool.and_true, and_true, true_and, and_self, ne_eq, not_false_eq_true, List.cons_append, List.nil_append, List.append_nil, List.append_assoc, Nat.zero_add, Nat.add_zero, Int.toNat_natCast, opK_index]
  rw [idxPop hT9 hs9 (by kernel_rfl) (show f % 256 < 256 by omega)]
  simp (disch := first | assumption | omega | rfl | simp only [hAt_app, hAt_app0, List.getElem?_cons_zero, List.getElem?_cons_succ]) only [↓RP, RG, FX, decide_eq_true, decide_eq_false, Bool.not_true, Bool.not_false, Option.map_some, List.map_cons, List.map_nil, List.getElem?_cons_zero, List.getElem?_cons_succ, ↓reduceIte, Nat.reduceEqDiff, reduceCtorEq, decide_eq_true_eq, decide_eq_false_iff_not, Option.map_none, Option.bind_some, List.contains_nil, List.contains_cons, Nat.reduceBEq, Bool.or_false, Bool.false_or, Bool.or_self, List.set_cons_zero, List.set_cons_succ, List.take_succ_cons, List.take_zero, List.drop_succ_cons, List.drop_zero, List.length_cons, List.length_nil, List.length_append, Nat.reduceAdd, Nat.reduceLeDiff, List.all_cons, List.all_nil, Bool.and_true, and_true, true_and, and_self, ne_eq, not_false_eq_true, List.cons_append, List.nil_append, List.append_nil, List.append_assoc, Nat.zero_add, Nat.add_zero, Int.toNat_natCast, e1, e2, hT5, hT3, hk3]
  rw [resVal_1 rfl]; simp (disch := first | assumption | omega | rfl | simp only [hAt_app, hAt_app0, List.getElem?_cons_zero, List.getElem?_cons_succ]) only [↓RP, RG, FX, decide_eq_true, decide_eq_false, Bool.not_true, Bool.not_false, Option.map_some, List.map_cons, List.map_nil, List.getElem?_cons_zero, List.getElem?_cons_succ, ↓reduceIte, Nat.reduceEqDiff, reduceCtorEq, decide_eq_true_eq, decide_eq_false_iff_not, Option.map_none, Option.bind_some, List.contains_nil, List.contains_cons, Nat.reduceBEq, Bool.or_false, Bool.false_or, Bool.or_self, List.set_cons_zero, List.set_cons_succ, List.take_succ_cons, List.take_zero, List.drop_succ_cons, List.drop_zero, List.length_cons, List.length_nil, List.length_append, Nat.reduceAdd, Nat.reduceLeDiff, List.all_cons, List.all_nil, Bool.and_true, and_true, true_and, and_self, ne_eq, not_false_eq_true, List.cons_append, List.nil_append, List.append_nil, List.append_assoc, Nat.zero_add, Nat.add_zero, Int.toNat_natCast, RS]
theorem tz_c (f : Nat) (h0 : 0 < f) (hf : f < 65536) {z : Nat} (hz : f &&& (65536 - f) = 2 ^ z) (hz16 : z < 16) : Contract Tryd.prog 71 [.val (.int .u16 f)] (I z) := by
  obtain ⟨T41, hT41, hk41⟩ := kU16
  obtain ⟨T56, hT56, hk56⟩ := kU32
  obtain ⟨T5, hT5, hk5⟩ := kU8
  obtain ⟨T3, hT3, hk3⟩ := kInt
  have e1 : IntKind.u16.wrap (0 - (f : Int)) = ((65536 - f : Nat) : Int) := by
    have e1 : IntKind.u16.bits = 16 := rfl
    have e2 : IntKind.u16.signed = false := rfl
    simp only [IntKind.wrap, e1, e2]
    simp
    omega
  have e2 := and16 (x := f) (y := 65536 - f) hf (by omega)
  rw [hz] at e2
  refine Contract.intro (effS [] false) 6 follows Tryd.func71 rfl rfl (by kernel_rfl) (Nat.le_of_ble_eq_true rfl) ?_
  simp (disch := first | assumption | omega | rfl | simp only [hAt_app, hAt_app0, List.getElem?_cons_zero, List.getElem?_cons_succ]) only [↓RP, RG, FX, decide_eq_true, decide_eq_false, Bool.not_true, Bool.not_false, Option.map_some, List.map_cons, List.map_nil, List.getElem?_cons_zero, List.getElem?_cons_succ, ↓reduceIte, Nat.reduceEqDiff, reduceCtorEq, decide_eq_true_eq, decide_eq_false_iff_not, Option.map_none, Option.bind_some, List.contains_nil, List.contains_cons, Nat.reduceBEq, Bool.or_false, Bool.false_or, Bool.or_self, List.set_cons_zero, List.set_cons_succ, List.take_succ_cons, List.take_zero, List.drop_succ_cons, List.drop_zero, List.length_cons, List.length_nil, List.length_append, Nat.reduceAdd, Nat.reduceLeDiff, List.all_cons, List.all_nil, Bool.and_true, and_true, true_and, and_self, ne_eq, not_false_eq_true, List.cons_append, List.nil_append, List.append_nil, List.append_assoc, Nat.zero_add, Nat.add_zero, Int.toNat_natCast, args0_1, opK_neg, e1, e2, hT41, hT56, hk56]
  rw [db_shr _ _ hz16]
  have hdl := dbI_lt z hz16
  have hdz := dbZ hz16
  generalize dbI z = m at *
  have ha5 : agT Tryd.prog 5 = some (false, 1) := by kernel_rfl
  have hw : IntKind.i64.wrap (z : Int) = z := wr64 (by omega)
  simp (disch := first | assumption | omega | rfl | simp only [hAt_app, hAt_app0, List.getElem?_cons_zero, List.getElem?_cons_succ]) only [↓RP, RG, FX, decide_eq_true, decide_eq_false, Bool.not_true, Bool.not_false, Option.map_some, List.map_cons, List.map_nil, List.getElem?_cons_zero, List.getElem?_cons_succ, ↓reduceIte, Nat.reduceEqDiff, reduceCtorEq, decide_eq_true_eq, decide_eq_false_iff_not, Option.map_none, Option.bind_some, List.contains_nil, List.contains_cons, Nat.reduceBEq, Bool.or_false, Bool.false_or, Bool.or_self, List.set_cons_zero, List.set_cons_succ, List.take_succ_cons, List.take_zero, List.drop_succ_cons, List.drop_zero, List.length_cons, List.length_nil, List.length_append, Nat.reduceAdd, Nat.reduceLeDiff, List.all_cons, List.all_nil, Bool.and_true, and_true, true_and, and_self, ne_eq, not_false_eq_true, List.cons_append, List.nil_append, List.append_nil, List.append_assoc, Nat.zero_add, Nat.add_zero, Int.toNat_natCast, dbAt, ha5, pX_one, hdz, hT5, hT3, hk3, hw]
  rw [resVal_1 rfl]; simp (disch := first | assumption | omega | rfl | simp only [hAt_app, hAt_app0, List.getElem?_cons_zero, List.getElem?_cons_succ]) only [↓RP, RG, FX, decide_eq_true, decide_eq_false, Bool.not_true, Bool.not_false, Option.map_some, List.map_cons, List.map_nil, List.getElem?_cons_zero, List.getElem?_cons_succ, ↓reduceIte, Nat.reduceEqDiff, reduceCtorEq, decide_eq_true_eq, decide_eq_false_iff_not, Option.map_none, Option.bind_some, List.contains_nil, List.contains_cons, Nat.reduceBEq, Bool.or_false, Bool.false_or, Bool.or_self, List.set_cons_zero, List.set_cons_succ, List.take_succ_cons, List.take_zero, List.drop_succ_cons, List.drop_zero, List.length_cons, List.length_nil, List.length_append, Nat.reduceAdd, Nat.reduceLeDiff, List.all_cons, List.all_nil, Bool.and_true, and_true, true_and, and_self, ne_eq, not_false_eq_true, List.cons_append, List.nil_append, List.append_nil, List.append_assoc, Nat.zero_add, Nat.add_zero, Int.toNat_natCast, RS]
theorem cnan_c (x : Int) : Contract Tryd.prog 99 [I x] (B false) := by
  refine Contract.intro (effS [] false) 6 follows Tryd.func99 rfl rfl (by kernel_rfl) (Nat.le_of_ble_eq_true rfl) ?_
  simp (disch := first | assumption | omega | rfl | simp only [hAt_app, hAt_app0, List.getElem?_cons_zero, List.getElem?_cons_succ]) only [↓RP, RG, FX, decide_eq_true, decide_eq_false, Bool.not_true, Bool.not_false, Option.map_some, List.map_cons, List.map_nil, List.getElem?_cons_zero, List.getElem?_cons_succ, ↓reduceIte, Nat.reduceEqDiff, reduceCtorEq, decide_eq_true_eq, decide_eq_false_iff_not, Option.map_none, Option.bind_some, List.contains_nil, List.contains_cons, Nat.reduceBEq, Bool.or_false, Bool.false_or, Bool.or_self, List.set_cons_zero, List.set_cons_succ, List.take_succ_cons, List.take_zero, List.drop_succ_cons, List.drop_zero, List.length_cons, List.length_nil, List.length_append, Nat.reduceAdd, Nat.reduceLeDiff, List.all_cons, List.all_nil, Bool.and_true, and_true, true_and, and_self, ne_eq, not_false_eq_true, List.cons_append, List.nil_append, List.append_nil, List.append_assoc, Nat.zero_add, Nat.add_zero, Int.toNat_natCast, args0_1]
  rw [resVal_1 rfl]; simp (disch := first | assumption | omega | rfl | simp only [hAt_app, hAt_app0, List.getElem?_cons_zero, List.getElem?_cons_succ]) only [↓RP, RG, FX, decide_eq_true, decide_eq_false, Bool.not_true, Bool.not_false, Option.map_some, List.map_cons, List.map_nil, List.getElem?_cons_zero, List.getElem?_cons_succ, ↓reduceIte, Nat.reduceEqDiff, reduceCtorEq, decide_eq_true_eq, decide_eq_false_iff_not, Option.map_none, Option.bind_some, List.contains_nil, List.contains_cons, Nat.reduceBEq, Bool.or_false, Bool.false_or, Bool.or_self, List.set_cons_zero, List.set_cons_succ, List.take_succ_cons, List.take_zero, List.drop_succ_cons, List.drop_zero, List.length_cons, List.length_nil, List.length_append, Nat.reduceAdd, Nat.reduceLeDiff, List.all_cons, List.all_nil, Bool.and_true, and_true, true_and, and_self, ne_eq, not_false_eq_true, List.cons_append, List.nil_append, List.append_nil, List.append_assoc, Nat.zero_add, Nat.add_zero, Int.toNat_natCast, RS]
  first | done | simp
/-- The sign of a comparison of numbers. -/
def sg (x y : Int) : Int := if x < y then -1 else if y < x then 1 else 0
theorem ccmp_c (x y : Int) : Contract Tryd.prog 72 [I x, I y] (I (sg x y)) := by
  unfold sg
  refine Contract.intro (effS [] false) 6 follows Tryd.func72 rfl rfl (by kernel_rfl) (Nat.le_of_ble_eq_true rfl) ?_
  simp (disch := first | assumption | omega | rfl | simp only [hAt_app, hAt_app0, List.getElem?_cons_zero, List.getElem?_cons_succ]) only [↓RP, RG, FX, decide_eq_true, decide_eq_false, Bool.not_true, Bool.not_false, Option.map_some, List.map_cons, List.map_nil, List.getElem?_cons_zero, List.getElem?_cons_succ, ↓reduceIte, Nat.reduceEqDiff, reduceCtorEq, decide_eq_true_eq, decide_eq_false_iff_not, Option.map_none, Option.bind_some, List.contains_nil, List.contains_cons, Nat.reduceBEq, Bool.or_false, Bool.false_or, Bool.or_self, List.set_cons_zero, List.set_cons_succ, List.take_succ_cons, List.take_zero, List.drop_succ_cons, List.drop_zero, List.length_cons, List.length_nil, List.length_append, Nat.reduceAdd, Nat.reduceLeDiff, List.all_cons, List.all_nil, Bool.and_true, and_true, true_and, and_self, ne_eq, not_false_eq_true, List.cons_append, List.nil_append, List.append_nil, List.append_assoc, Nat.zero_add, Nat.add_zero, Int.toNat_natCast, args0_2]
  refine callK_F 6 (cnan_c x) (by simp (disch := first | assumption | omega | rfl | simp only [hAt_app, hAt_app0, List.getElem?_cons_zero, List.getElem?_cons_succ]) only [↓RP, RG, FX, decide_eq_true, decide_eq_false, Bool.not_true, Bool.not_false, Option.map_some, List.map_cons, List.map_nil, List.getElem?_cons_zero, List.getElem?_cons_succ, ↓reduceIte, Nat.reduceEqDiff, reduceCtorEq, decide_eq_true_eq, decide_eq_false_iff_not, Option.map_none, Option.bind_some, List.contains_nil, List.contains_cons, Nat.reduceBEq, Bool.or_false, Bool.false_or, Bool.or_self, List.set_cons_zero, List.set_cons_succ, List.take_succ_cons, List.take_zero, List.drop_succ_cons, List.drop_zero, List.length_cons, List.length_nil, List.length_append, Nat.reduceAdd, Nat.reduceLeDiff, List.all_cons, List.all_nil, Bool.and_true, and_true, true_and, and_self, ne_eq, not_false_eq_true, List.cons_append, List.nil_append, List.append_nil, List.append_assoc, Nat.zero_add, Nat.add_zero, Int.toNat_natCast, RA] <;> rfl) (.inl (by simp [allFresh, ints_fresh, bools_fresh])) ?_
  simp (disch := first | assumption | omega | rfl | simp only [hAt_app, hAt_app0, List.getElem?_cons_zero, List.getElem?_cons_succ]) only [↓RP, RG, FX, decide_eq_true, decide_eq_false, Bool.not_true, Bool.not_false, Option.map_some, List.map_cons, List.map_nil, List.getElem?_cons_zero, List.getElem?_cons_succ, ↓reduceIte, Nat.reduceEqDiff, reduceCtorEq, decide_eq_true_eq, decide_eq_false_iff_not, Option.map_none, Option.bind_some, List.contains_nil, List.contains_cons, Nat.reduceBEq, Bool.or_false, Bool.false_or, Bool.or_self, List.set_cons_zero, List.set_cons_succ, List.take_succ_cons, List.take_zero, List.drop_succ_cons, List.drop_zero, List.length_cons, List.length_nil, List.length_append, Nat.reduceAdd, Nat.reduceLeDiff, List.all_cons, List.all_nil, Bool.and_true, and_true, true_and, and_self, ne_eq, not_false_eq_true, List.cons_append, List.nil_append, List.append_nil, List.append_assoc, Nat.zero_add, Nat.add_zero, Int.toNat_natCast]
  refine callK_F 6 (cnan_c y) (by simp (disch := first | assumption | omega | rfl | simp only [hAt_app, hAt_app0, List.getElem?_cons_zero, List.getElem?_cons_succ]) only [↓RP, RG, FX, decide_eq_true, decide_eq_false, Bool.not_true, Bool.not_false, Option.map_some, List.map_cons, List.map_nil, List.getElem?_cons_zero, List.getElem?_cons_succ, ↓reduceIte, Nat.reduceEqDiff, reduceCtorEq, decide_eq_true_eq, decide_eq_false_iff_not, Option.map_none, Option.bind_some, List.contains_nil, List.contains_cons, Nat.reduceBEq, Bool.or_false, Bool.false_or, Bool.or_self, List.set_cons_zero, List.set_cons_succ, List.take_succ_cons, List.take_zero, List.drop_succ_cons, List.drop_zero, List.length_cons, List.length_nil, List.length_append, Nat.reduceAdd, Nat.reduceLeDiff, List.all_cons, List.all_nil, Bool.and_true, and_true, true_and, and_self, ne_eq, not_false_eq_true, List.cons_append, List.nil_append, List.append_nil, List.append_assoc, Nat.zero_add, Nat.add_zero, Int.toNat_natCast, RA] <;> rfl) (.inl (by simp [allFresh, ints_fresh, bools_fresh])) ?_
  by_cases c1 : x < y
  · simp (disch := first | assumption | omega | rfl | simp only [hAt_app, hAt_app0, List.getElem?_cons_zero, List.getElem?_cons_succ]) only [↓RP, RG, FX, decide_eq_true, decide_eq_false, Bool.not_true, Bool.not_false, Option.map_some, List.map_cons, List.map_nil, List.getElem?_cons_zero, List.getElem?_cons_succ, ↓reduceIte, Nat.reduceEqDiff, reduceCtorEq, decide_eq_true_eq, decide_eq_false_iff_not, Option.map_none, Option.bind_some, List.contains_nil, List.contains_cons, Nat.reduceBEq, Bool.or_false, Bool.false_or, Bool.or_self, List.set_cons_zero, List.set_cons_succ, List.take_succ_cons, List.take_zero, List.drop_succ_cons, List.drop_zero, List.length_cons, List.length_nil, List.length_append, Nat.reduceAdd, Nat.reduceLeDiff, List.all_cons, List.all_nil, Bool.and_true, and_true, true_and, and_self, ne_eq, not_false_eq_true, List.cons_append, List.nil_append, List.append_nil, List.append_assoc, Nat.zero_add, Nat.add_zero, Int.toNat_natCast]
    rw [resVal_1 rfl]; simp (disch := first | assumption | omega | rfl | simp only [hAt_app, hAt_app0, List.getElem?_cons_zero, List.getElem?_cons_succ]) only [↓RP, RG, FX, decide_eq_true, decide_eq_false, Bool.not_true, Bool.not_false, Option.map_some, List.map_cons, List.map_nil, List.getElem?_cons_zero, List.getElem?_cons_succ, ↓reduceIte, Nat.reduceEqDiff, reduceCtorEq, decide_eq_true_eq, decide_eq_false_iff_not, Option.map_none, Option.bind_some, List.contains_nil, List.contains_cons, Nat.reduceBEq, Bool.or_false, Bool.false_or, Bool.or_self, List.set_cons_zero, List.set_cons_succ, List.take_succ_cons, List.take_zero, List.drop_succ_cons, List.drop_zero, List.length_cons, List.length_nil, List.length_append, Nat.reduceAdd, Nat.reduceLeDiff, List.all_cons, List.all_nil, Bool.and_true, and_true, true_and, and_self, ne_eq, not_false_eq_true, List.cons_append, List.nil_append, List.append_nil, List.append_assoc, Nat.zero_add, Nat.add_zero, Int.toNat_natCast, RS]
    first | done | simp [c1]
  · by_cases c2 : y < x
    · simp (disch := first | assumption | omega | rfl | simp only [hAt_app, hAt_app0, List.getElem?_cons_zero, List.getElem?_cons_succ]) only [↓RP, RG, FX, decide_eq_true, decide_eq_false, Bool.not_true, Bool.not_false, Option.map_some, List.map_cons, List.map_nil, List.getElem?_cons_zero, List.getElem?_cons_succ, ↓reduceIte, Nat.reduceEqDiff, reduceCtorEq, decide_eq_true_eq, decide_eq_false_iff_not, Option.map_none, Option.bind_some, List.contains_nil, List.contains_cons, Nat.reduceBEq, Bool.or_false, Bool.false_or, Bool.or_self, List.set_cons_zero, List.set_cons_succ, List.take_succ_cons, List.take_zero, List.drop_succ_cons, List.drop_zero, List.length_cons, List.length_nil, List.length_append, Nat.reduceAdd, Nat.reduceLeDiff, List.all_cons, List.all_nil, Bool.and_true, and_true, true_and, and_self, ne_eq, not_false_eq_true, List.cons_append, List.nil_append, List.append_nil, List.append_assoc, Nat.zero_add, Nat.add_zero, Int.toNat_natCast]
      rw [resVal_1 rfl]; simp (disch := first | assumption | omega | rfl | simp only [hAt_app, hAt_app0, List.getElem?_cons_zero, List.getElem?_cons_succ]) only [↓RP, RG, FX, decide_eq_true, decide_eq_false, Bool.not_true, Bool.not_false, Option.map_some, List.map_cons, List.map_nil, List.getElem?_cons_zero, List.getElem?_cons_succ, ↓reduceIte, Nat.reduceEqDiff, reduceCtorEq, decide_eq_true_eq, decide_eq_false_iff_not, Option.map_none, Option.bind_some, List.contains_nil, List.contains_cons, Nat.reduceBEq, Bool.or_false, Bool.false_or, Bool.or_self, List.set_cons_zero, List.set_cons_succ, List.take_succ_cons, List.take_zero, List.drop_succ_cons, List.drop_zero, List.length_cons, List.length_nil, List.length_append, Nat.reduceAdd, Nat.reduceLeDiff, List.all_cons, List.all_nil, Bool.and_true, and_true, true_and, and_self, ne_eq, not_false_eq_true, List.cons_append, List.nil_append, List.append_nil, List.append_assoc, Nat.zero_add, Nat.add_zero, Int.toNat_natCast, RS]
      first | done | simp [c1, c2]
    · simp (disch := first | assumption | omega | rfl | simp only [hAt_app, hAt_app0, List.getElem?_cons_zero, List.getElem?_cons_succ]) only [↓RP, RG, FX, decide_eq_true, decide_eq_false, Bool.not_true, Bool.not_false, Option.map_some, List.map_cons, List.map_nil, List.getElem?_cons_zero, List.getElem?_cons_succ, ↓reduceIte, Nat.reduceEqDiff, reduceCtorEq, decide_eq_true_eq, decide_eq_false_iff_not, Option.map_none, Option.bind_some, List.contains_nil, List.contains_cons, Nat.reduceBEq, Bool.or_false, Bool.false_or, Bool.or_self, List.set_cons_zero, List.set_cons_succ, List.take_succ_cons, List.take_zero, List.drop_succ_cons, List.drop_zero, List.length_cons, List.length_nil, List.length_append, Nat.reduceAdd, Nat.reduceLeDiff, List.all_cons, List.all_nil, Bool.and_true, and_true, true_and, and_self, ne_eq, not_false_eq_true, List.cons_append, List.nil_append, List.append_nil, List.append_assoc, Nat.zero_add, Nat.add_zero, Int.toNat_natCast]
      rw [resVal_1 rfl]; simp (disch := first | assumption | omega | rfl | simp only [hAt_app, hAt_app0, List.getElem?_cons_zero, List.getElem?_cons_succ]) only [↓RP, RG, FX, decide_eq_true, decide_eq_false, Bool.not_true, Bool.not_false, Option.map_some, List.map_cons, List.map_nil, List.getElem?_cons_zero, List.getElem?_cons_succ, ↓reduceIte, Nat.reduceEqDiff, reduceCtorEq, decide_eq_true_eq, decide_eq_false_iff_not, Option.map_none, Option.bind_some, List.contains_nil, List.contains_cons, Nat.reduceBEq, Bool.or_false, Bool.false_or, Bool.or_self, List.set_cons_zero, List.set_cons_succ, List.take_succ_cons, List.take_zero, List.drop_succ_cons, List.drop_zero, List.length_cons, List.length_nil, List.length_append, Nat.reduceAdd, Nat.reduceLeDiff, List.all_cons, List.all_nil, Bool.and_true, and_true, true_and, and_self, ne_eq, not_false_eq_true, List.cons_append, List.nil_append, List.append_nil, List.append_assoc, Nat.zero_add, Nat.add_zero, Int.toNat_natCast, RS]
      first | done | simp [c1, c2]
/-- Lists compared by their elements. -/
def cmpL : List Nat → List Nat → Int
  | [], [] => 0
  | [], _ :: _ => -1
  | _ :: _, [] => 1
  | a :: x, b :: y => if a < b then -1 else if b < a then 1 else cmpL x y
theorem cmpL_neg : ∀ (a b : List Nat), cmpL a b < 0 ↔ lexlt a b
  | [], [] => by simp [cmpL, lexlt]
  | [], _ :: _ => by simp [cmpL, lexlt]
  | _ :: _, [] => by simp [cmpL, lexlt]
  | a :: x, b :: y => by
    simp only [cmpL, lexlt]
    by_cases c1 : a < b
    · rw [if_pos c1]; simp [c1]
    · by_cases c2 : b < a
      · rw [if_neg c1, if_pos c2]
        constructor
        · intro h; omega
        · rintro (h | ⟨h, _⟩) <;> omega
      · rw [if_neg c1, if_neg c2, cmpL_neg x y]
        have : a = b := by omega
        simp [this]
theorem cmpL_drop {a b : List Nat} {k : Nat} (ha : k < a.length) (hb : k < b.length) : cmpL (a.drop k) (b.drop k) = if a.getD k 0 < b.getD k 0 then -1 else if b.getD k 0 < a.getD k 0 then 1 else cmpL (a.drop (k + 1)) (b.drop (k + 1)) := by
  rw [List.drop_eq_getElem_cons ha, List.drop_eq_getElem_cons hb]
  simp only [cmpL, List.getD_eq_getElem?_getD, List.getElem?_eq_getElem ha, List.getElem?_eq_getElem hb, Option.getD_some]
theorem compare_c (b1 b2 : Bool) (x y : List Nat) (hx : x.length ≤ 1000) (hy : y.length ≤ 1000) : Contract Tryd.prog 46 [LA b1 (nI x), LA b2 (nI y)] (I (cmpL x y)) := by
  have lx := nI_len x
  have ly := nI_len y
  refine Contract.intro (effS [] false) 6 follows Tryd.func46 rfl rfl (by kernel_rfl) (Nat.le_of_ble_eq_true rfl) ?_
  simp (disch := first | assumption | omega | rfl | simp only [hAt_app, hAt_app0, List.getElem?_cons_zero, List.getElem?_cons_succ]) only [↓RP, RG, FX, decide_eq_true, decide_eq_false, Bool.not_true, Bool.not_false, Option.map_some, List.map_cons, List.map_nil, List.getElem?_cons_zero, List.getElem?_cons_succ, ↓reduceIte, Nat.reduceEqDiff, reduceCtorEq, decide_eq_true_eq, decide_eq_false_iff_not, Option.map_none, Option.bind_some, List.contains_nil, List.contains_cons, Nat.reduceBEq, Bool.or_false, Bool.false_or, Bool.or_self, List.set_cons_zero, List.set_cons_succ, List.take_succ_cons, List.take_zero, List.drop_succ_cons, List.drop_zero, List.length_cons, List.length_nil, List.length_append, Nat.reduceAdd, Nat.reduceLeDiff, List.all_cons, List.all_nil, Bool.and_true, and_true, true_and, and_self, ne_eq, not_false_eq_true, List.cons_append, List.nil_append, List.append_nil, List.append_assoc, Nat.zero_add, Nat.add_zero, Int.toNat_natCast, args0_2]
  refine loopK_I [0, 1, 9, 10, 11] (fun k : Nat => k ≤ x.length ∧ k ≤ y.length ∧ cmpL (x.drop k) (y.drop k) = cmpL x y) (fun k => ⟨[(0, LA b1 (nI x)), (1, LA b2 (nI y)), (9, LA b1 (nI x)), (10, I (nI x).length), (11, I k)], []⟩) (fun k => x.length - k) 0 ⟨by omega, by omega, rfl⟩ (by simp only [↓RP, RG, FX, decide_eq_true, decide_eq_false, Bool.not_true, Bool.not_false, Option.map_some, List.map_cons, List.map_nil, List.getElem?_cons_zero, List.getElem?_cons_succ, ↓reduceIte, Nat.reduceEqDiff, reduceCtorEq, decide_eq_true_eq, decide_eq_false_iff_not, Option.map_none, Option.bind_some, List.contains_nil, List.contains_cons, Nat.reduceBEq, Bool.or_false, Bool.false_or, Bool.or_self, List.set_cons_zero, List.set_cons_succ, List.take_succ_cons, List.take_zero, List.drop_succ_cons, List.drop_zero, List.length_cons, List.length_nil, List.length_append, Nat.reduceAdd, Nat.reduceLeDiff, List.all_cons, List.all_nil, Bool.and_true, and_true, true_and, and_self, ne_eq, not_false_eq_true, List.cons_append, List.nil_append, List.append_nil, List.append_assoc, Nat.zero_add, Nat.add_zero, Int.toNat_natCast]; rfl) ?_
  rintro k ⟨h1, h2, h3⟩
  by_cases c1 : k < x.length
  · have g1 := nI_get x k
    have g2 := nI_get y k
    by_cases c2 : k < y.length
    · rw [cmpL_drop c1 c2] at h3
      by_cases c3 : x.getD k 0 < y.getD k 0
      · rw [if_pos c3] at h3
        have hs : sg ((x.getD k 0 : Nat) : Int) ((y.getD k 0 : Nat) : Int) = -1 := by unfold sg; rw [if_pos (by omega)]
        have hC := ccmp_c ((x.getD k 0 : Nat) : Int) ((y.getD k 0 : Nat) : Int)
        rw [hs] at hC
        generalize x.getD k 0 = u at *
        generalize y.getD k 0 = v at *
        simp (disch := first | assumption | omega | rfl | simp only [hAt_app, hAt_app0, List.getElem?_cons_zero, List.getElem?_cons_succ]) only [↓RP, RG, FX, decide_eq_true, decide_eq_false, Bool.not_true, Bool.not_false, Option.map_some, List.map_cons, List.map_nil, List.getElem?_cons_zero, List.getElem?_cons_succ, ↓reduceIte, Nat.reduceEqDiff, reduceCtorEq, decide_eq_true_eq, decide_eq_false_iff_not, Option.map_none, Option.bind_some, List.contains_nil, List.contains_cons, Nat.reduceBEq, Bool.or_false, Bool.false_or, Bool.or_self, List.set_cons_zero, List.set_cons_succ, List.take_succ_cons, List.take_zero, List.drop_succ_cons, List.drop_zero, List.length_cons, List.length_nil, List.length_append, Nat.reduceAdd, Nat.reduceLeDiff, List.all_cons, List.all_nil, Bool.and_true, and_true, true_and, and_self, ne_eq, not_false_eq_true, List.cons_append, List.nil_append, List.append_nil, List.append_assoc, Nat.zero_add, Nat.add_zero, Int.toNat_natCast, g1, g2]
        refine callK_F 6 (hC) (by simp (disch := first | assumption | omega | rfl | simp only [hAt_app, hAt_app0, List.getElem?_cons_zero, List.getElem?_cons_succ]) only [↓RP, RG, FX, decide_eq_true, decide_eq_false, Bool.not_true, Bool.not_false, Option.map_some, List.map_cons, List.map_nil, List.getElem?_cons_zero, List.getElem?_cons_succ, ↓reduceIte, Nat.reduceEqDiff, reduceCtorEq, decide_eq_true_eq, decide_eq_false_iff_not, Option.map_none, Option.bind_some, List.contains_nil, List.contains_cons, Nat.reduceBEq, Bool.or_false, Bool.false_or, Bool.or_self, List.set_cons_zero, List.set_cons_succ, List.take_succ_cons, List.take_zero, List.drop_succ_cons, List.drop_zero, List.length_cons, List.length_nil, List.length_append, Nat.reduceAdd, Nat.reduceLeDiff, List.all_cons, List.all_nil, Bool.and_true, and_true, true_and, and_self, ne_eq, not_false_eq_true, List.cons_append, List.nil_append, List.append_nil, List.append_assoc, Nat.zero_add, Nat.add_zero, Int.toNat_natCast, RA] <;> rfl) (.inl (by simp [allFresh, ints_fresh, bools_fresh])) ?_
        simp (disch := first | assumption | omega | rfl | simp only [hAt_app, hAt_app0, List.getElem?_cons_zero, List.getElem?_cons_succ]) only [↓RP, RG, FX, decide_eq_true, decide_eq_false, Bool.not_true, Bool.not_false, Option.map_some, List.map_cons, List.map_nil, List.getElem?_cons_zero, List.getElem?_cons_succ, ↓reduceIte, Nat.reduceEqDiff, reduceCtorEq, decide_eq_true_eq, decide_eq_false_iff_not, Option.map_none, Option.bind_some, List.contains_nil, List.contains_cons, Nat.reduceBEq, Bool.or_false, Bool.false_or, Bool.or_self, List.set_cons_zero, List.set_cons_succ, List.take_succ_cons, List.take_zero, List.drop_succ_cons, List.drop_zero, List.length_cons, List.length_nil, List.length_append, Nat.reduceAdd, Nat.reduceLeDiff, List.all_cons, List.all_nil, Bool.and_true, and_true, true_and, and_self, ne_eq, not_false_eq_true, List.cons_append, List.nil_append, List.append_nil, List.append_assoc, Nat.zero_add, Nat.add_zero, Int.toNat_natCast]
        rw [resVal_1 rfl]; simp (disch := first | assumption | omega | rfl | simp only [hAt_app, hAt_app0, List.getElem?_cons_zero, List.getElem?_cons_succ]) only [↓RP, RG, FX, decide_eq_true, decide_eq_false, Bool.not_true, Bool.not_false, Option.map_some, List.map_cons, List.map_nil, List.getElem?_cons_zero, List.getElem?_cons_succ, ↓reduceIte, Nat.reduceEqDiff, reduceCtorEq, decide_eq_true_eq, decide_eq_false_iff_not, Option.map_none, Option.bind_some, List.contains_nil, List.contains_cons, Nat.reduceBEq, Bool.or_false, Bool.false_or, Bool.or_self, List.set_cons_zero, List.set_cons_succ, List.take_succ_cons, List.take_zero, List.drop_succ_cons, List.drop_zero, List.length_cons, List.length_nil, List.length_append, Nat.reduceAdd, Nat.reduceLeDiff, List.all_cons, List.all_nil, Bool.and_true, and_true, true_and, and_self, ne_eq, not_false_eq_true, List.cons_append, List.nil_append, List.append_nil, List.append_assoc, Nat.zero_add, Nat.add_zero, Int.toNat_natCast, RS]
        first | done | rw [← h3]
      · by_cases c4 : y.getD k 0 < x.getD k 0
        · rw [if_neg c3, if_pos c4] at h3
          have hs : sg ((x.getD k 0 : Nat) : Int) ((y.getD k 0 : Nat) : Int) = 1 := by unfold sg; rw [if_neg (by omega), if_pos (by omega)]
          have hC := ccmp_c ((x.getD k 0 : Nat) : Int) ((y.getD k 0 : Nat) : Int)
          rw [hs] at hC
          generalize x.getD k 0 = u at *
          generalize y.getD k 0 = v at *
          simp (disch := first | assumption | omega | rfl | simp only [hAt_app, hAt_app0, List.getElem?_cons_zero, List.getElem?_cons_succ]) only [↓RP, RG, FX, decide_eq_true, decide_eq_false, Bool.not_true, Bool.not_false, Option.map_some, List.map_cons, List.map_nil, List.getElem?_cons_zero, List.getElem?_cons_succ, ↓reduceIte, Nat.reduceEqDiff, reduceCtorEq, decide_eq_true_eq, decide_eq_false_iff_not, Option.map_none, Option.bind_some, List.contains_nil, List.contains_cons, Nat.reduceBEq, Bool.or_false, Bool.false_or, Bool.or_self, List.set_cons_zero, List.set_cons_succ, List.take_succ_cons, List.take_zero, List.drop_succ_cons, List.drop_zero, List.length_cons, List.length_nil, List.length_append, Nat.reduceAdd, Nat.reduceLeDiff, List.all_cons, List.all_nil, Bool.and_true, and_true, true_and, and_self, ne_eq, not_false_eq_true, List.cons_append, List.nil_append, List.append_nil, List.append_assoc, Nat.zero_add, Nat.add_zero, Int.toNat_natCast, g1, g2]
          refine callK_F 6 (hC) (by simp (disch := first | assumption | omega | rfl | simp only [hAt_app, hAt_app0, List.getElem?_cons_zero, List.getElem?_cons_succ]) only [↓RP, RG, FX, decide_eq_true, decide_eq_false, Bool.not_true, Bool.not_false, Option.map_some, List.map_cons, List.map_nil, List.getElem?_cons_zero, List.getElem?_cons_succ, ↓reduceIte, Nat.reduceEqDiff, reduceCtorEq, decide_eq_true_eq, decide_eq_false_iff_not, Option.map_none, Option.bind_some, List.contains_nil, List.contains_cons, Nat.reduceBEq, Bool.or_false, Bool.false_or, Bool.or_self, List.set_cons_zero, List.set_cons_succ, List.take_succ_cons, List.take_zero, List.drop_succ_cons, List.drop_zero, List.length_cons, List.length_nil, List.length_append, Nat.reduceAdd, Nat.reduceLeDiff, List.all_cons, List.all_nil, Bool.and_true, and_true, true_and, and_self, ne_eq, not_false_eq_true, List.cons_append, List.nil_append, List.append_nil, List.append_assoc, Nat.zero_add, Nat.add_zero, Int.toNat_natCast, RA] <;> rfl) (.inl (by simp [allFresh, ints_fresh, bools_fresh])) ?_
          simp (disch := first | assumption | omega | rfl | simp only [hAt_app, hAt_app0, List.getElem?_cons_zero, List.getElem?_cons_succ]) only [↓RP, RG, FX, decide_eq_true, decide_eq_false, Bool.not_true, Bool.not_false, Option.map_some, List.map_cons, List.map_nil, List.getElem?_cons_zero, List.getElem?_cons_succ, ↓reduceIte, Nat.reduceEqDiff, reduceCtorEq, decide_eq_true_eq, decide_eq_false_iff_not, Option.map_none, Option.bind_some, List.contains_nil, List.contains_cons, Nat.reduceBEq, Bool.or_false, Bool.false_or, Bool.or_self, List.set_cons_zero, List.set_cons_succ, List.take_succ_cons, List.take_zero, List.drop_succ_cons, List.drop_zero, List.length_cons, List.length_nil, List.length_append, Nat.reduceAdd, Nat.reduceLeDiff, List.all_cons, List.all_nil, Bool.and_true, and_true, true_and, and_self, ne_eq, not_false_eq_true, List.cons_append, List.nil_append, List.append_nil, List.append_assoc, Nat.zero_add, Nat.add_zero, Int.toNat_natCast]
          rw [resVal_1 rfl]; simp (disch := first | assumption | omega | rfl | simp only [hAt_app, hAt_app0, List.getElem?_cons_zero, List.getElem?_cons_succ]) only [↓RP, RG, FX, decide_eq_true, decide_eq_false, Bool.not_true, Bool.not_false, Option.map_some, List.map_cons, List.map_nil, List.getElem?_cons_zero, List.getElem?_cons_succ, ↓reduceIte, Nat.reduceEqDiff, reduceCtorEq, decide_eq_true_eq, decide_eq_false_iff_not, Option.map_none, Option.bind_some, List.contains_nil, List.contains_cons, Nat.reduceBEq, Bool.or_false, Bool.false_or, Bool.or_self, List.set_cons_zero, List.set_cons_succ, List.take_succ_cons, List.take_zero, List.drop_succ_cons, List.drop_zero, List.length_cons, List.length_nil, List.length_append, Nat.reduceAdd, Nat.reduceLeDiff, List.all_cons, List.all_nil, Bool.and_true, and_true, true_and, and_self, ne_eq, not_false_eq_true, List.cons_append, List.nil_append, List.append_nil, List.append_assoc, Nat.zero_add, Nat.add_zero, Int.toNat_natCast, RS]
          first | done | rw [← h3]
        · rw [if_neg c3, if_neg c4] at h3
          have hs : sg ((x.getD k 0 : Nat) : Int) ((y.getD k 0 : Nat) : Int) = 0 := by unfold sg; rw [if_neg (by omega), if_neg (by omega)]
          have hC := ccmp_c ((x.getD k 0 : Nat) : Int) ((y.getD k 0 : Nat) : Int)
          rw [hs] at hC
          generalize x.getD k 0 = u at *
          generalize y.getD k 0 = v at *
          simp (disch := first | assumption | omega | rfl | simp only [hAt_app, hAt_app0, List.getElem?_cons_zero, List.getElem?_cons_succ]) only [↓RP, RG, FX, decide_eq_true, decide_eq_false, Bool.not_true, Bool.not_false, Option.map_some, List.map_cons, List.map_nil, List.getElem?_cons_zero, List.getElem?_cons_succ, ↓reduceIte, Nat.reduceEqDiff, reduceCtorEq, decide_eq_true_eq, decide_eq_false_iff_not, Option.map_none, Option.bind_some, List.contains_nil, List.contains_cons, Nat.reduceBEq, Bool.or_false, Bool.false_or, Bool.or_self, List.set_cons_zero, List.set_cons_succ, List.take_succ_cons, List.take_zero, List.drop_succ_cons, List.drop_zero, List.length_cons, List.length_nil, List.length_append, Nat.reduceAdd, Nat.reduceLeDiff, List.all_cons, List.all_nil, Bool.and_true, and_true, true_and, and_self, ne_eq, not_false_eq_true, List.cons_append, List.nil_append, List.append_nil, List.append_assoc, Nat.zero_add, Nat.add_zero, Int.toNat_natCast, g1, g2]
          refine callK_F 6 (hC) (by simp (disch := first | assumption | omega | rfl | simp only [hAt_app, hAt_app0, List.getElem?_cons_zero, List.getElem?_cons_succ]) only [↓RP, RG, FX, decide_eq_true, decide_eq_false, Bool.not_true, Bool.not_false, Option.map_some, List.map_cons, List.map_nil, List.getElem?_cons_zero, List.getElem?_cons_succ, ↓reduceIte, Nat.reduceEqDiff, reduceCtorEq, decide_eq_true_eq, decide_eq_false_iff_not, Option.map_none, Option.bind_some, List.contains_nil, List.contains_cons, Nat.reduceBEq, Bool.or_false, Bool.false_or, Bool.or_self, List.set_cons_zero, List.set_cons_succ, List.take_succ_cons, List.take_zero, List.drop_succ_cons, List.drop_zero, List.length_cons, List.length_nil, List.length_append, Nat.reduceAdd, Nat.reduceLeDiff, List.all_cons, List.all_nil, Bool.and_true, and_true, true_and, and_self, ne_eq, not_false_eq_true, List.cons_append, List.nil_append, List.append_nil, List.append_assoc, Nat.zero_add, Nat.add_zero, Int.toNat_natCast, RA] <;> rfl) (.inl (by simp [allFresh, ints_fresh, bools_fresh])) ?_
          simp (disch := first | assumption | omega | rfl | simp only [hAt_app, hAt_app0, List.getElem?_cons_zero, List.getElem?_cons_succ]) only [↓RP, RG, FX, decide_eq_true, decide_eq_false, Bool.not_true, Bool.not_false, Option.map_some, List.map_cons, List.map_nil, List.getElem?_cons_zero, List.getElem?_cons_succ, ↓reduceIte, Nat.reduceEqDiff, reduceCtorEq, decide_eq_true_eq, decide_eq_false_iff_not, Option.map_none, Option.bind_some, List.contains_nil, List.contains_cons, Nat.reduceBEq, Bool.or_false, Bool.false_or, Bool.or_self, List.set_cons_zero, List.set_cons_succ, List.take_succ_cons, List.take_zero, List.drop_succ_cons, List.drop_zero, List.length_cons, List.length_nil, List.length_append, Nat.reduceAdd, Nat.reduceLeDiff, List.all_cons, List.all_nil, Bool.and_true, and_true, true_and, and_self, ne_eq, not_false_eq_true, List.cons_append, List.nil_append, List.append_nil, List.append_assoc, Nat.zero_add, Nat.add_zero, Int.toNat_natCast]
          exact ⟨k + 1, ⟨c1, c2, h3⟩, rfl, by omega⟩
    · have e : y.drop k = [] := List.drop_eq_nil_of_le (by omega)
      rw [e, List.drop_eq_getElem_cons c1] at h3
      simp only [cmpL] at h3
      simp (disch := first | assumption | omega | rfl | simp only [hAt_app, hAt_app0, List.getElem?_cons_zero, List.getElem?_cons_succ]) only [↓RP, RG, FX, decide_eq_true, decide_eq_false, Bool.not_true, Bool.not_false, Option.map_some, List.map_cons, List.map_nil, List.getElem?_cons_zero, List.getElem?_cons_succ, ↓reduceIte, Nat.reduceEqDiff, reduceCtorEq, decide_eq_true_eq, decide_eq_false_iff_not, Option.map_none, Option.bind_some, List.contains_nil, List.contains_cons, Nat.reduceBEq, Bool.or_false, Bool.false_or, Bool.or_self, List.set_cons_zero, List.set_cons_succ, List.take_succ_cons, List.take_zero, List.drop_succ_cons, List.drop_zero, List.length_cons, List.length_nil, List.length_append, Nat.reduceAdd, Nat.reduceLeDiff, List.all_cons, List.all_nil, Bool.and_true, and_true, true_and, and_self, ne_eq, not_false_eq_true, List.cons_append, List.nil_append, List.append_nil, List.append_assoc, Nat.zero_add, Nat.add_zero, Int.toNat_natCast, g1, g2]
      rw [resVal_1 rfl]; simp (disch := first | assumption | omega | rfl | simp only [hAt_app, hAt_app0, List.getElem?_cons_zero, List.getElem?_cons_succ]) only [↓RP, RG, FX, decide_eq_true, decide_eq_false, Bool.not_true, Bool.not_false, Option.map_some, List.map_cons, List.map_nil, List.getElem?_cons_zero, List.getElem?_cons_succ, ↓reduceIte, Nat.reduceEqDiff, reduceCtorEq, decide_eq_true_eq, decide_eq_false_iff_not, Option.map_none, Option.bind_some, List.contains_nil, List.contains_cons, Nat.reduceBEq, Bool.or_false, Bool.false_or, Bool.or_self, List.set_cons_zero, List.set_cons_succ, List.take_succ_cons, List.take_zero, List.drop_succ_cons, List.drop_zero, List.length_cons, List.length_nil, List.length_append, Nat.reduceAdd, Nat.reduceLeDiff, List.all_cons, List.all_nil, Bool.and_true, and_true, true_and, and_self, ne_eq, not_false_eq_true, List.cons_append, List.nil_append, List.append_nil, List.append_assoc, Nat.zero_add, Nat.add_zero, Int.toNat_natCast, RS]
      first | done | rw [← h3]
  · obtain rfl : k = x.length := by omega
    rw [List.drop_length] at h3
    by_cases c2 : x.length < y.length
    · rw [List.drop_eq_getElem_cons c2] at h3
      simp only [cmpL] at h3
      simp (disch := first | assumption | omega | rfl | simp only [hAt_app, hAt_app0, List.getElem?_cons_zero, List.getElem?_cons_succ]) only [↓RP, RG, FX, decide_eq_true, decide_eq_false, Bool.not_true, Bool.not_false, Option.map_some, List.map_cons, List.map_nil, List.getElem?_cons_zero, List.getElem?_cons_succ, ↓reduceIte, Nat.reduceEqDiff, reduceCtorEq, decide_eq_true_eq, decide_eq_false_iff_not, Option.map_none, Option.bind_some, List.contains_nil, List.contains_cons, Nat.reduceBEq, Bool.or_false, Bool.false_or, Bool.or_self, List.set_cons_zero, List.set_cons_succ, List.take_succ_cons, List.take_zero, List.drop_succ_cons, List.drop_zero, List.length_cons, List.length_nil, List.length_append, Nat.reduceAdd, Nat.reduceLeDiff, List.all_cons, List.all_nil, Bool.and_true, and_true, true_and, and_self, ne_eq, not_false_eq_true, List.cons_append, List.nil_append, List.append_nil, List.append_assoc, Nat.zero_add, Nat.add_zero, Int.toNat_natCast]
      rw [resVal_1 rfl]; simp (disch := first | assumption | omega | rfl | simp only [hAt_app, hAt_app0, List.getElem?_cons_zero, List.getElem?_cons_succ]) only [↓RP, RG, FX, decide_eq_true, decide_eq_false, Bool.not_true, Bool.not_false, Option.map_some, List.map_cons, List.map_nil, List.getElem?_cons_zero, List.getElem?_cons_succ, ↓reduceIte, Nat.reduceEqDiff, reduceCtorEq, decide_eq_true_eq, decide_eq_false_iff_not, Option.map_none, Option.bind_some, List.contains_nil, List.contains_cons, Nat.reduceBEq, Bool.or_false, Bool.false_or, Bool.or_self, List.set_cons_zero, List.set_cons_succ, List.take_succ_cons, List.take_zero, List.drop_succ_cons, List.drop_zero, List.length_cons, List.length_nil, List.length_append, Nat.reduceAdd, Nat.reduceLeDiff, List.all_cons, List.all_nil, Bool.and_true, and_true, true_and, and_self, ne_eq, not_false_eq_true, List.cons_append, List.nil_append, List.append_nil, List.append_assoc, Nat.zero_add, Nat.add_zero, Int.toNat_natCast, RS]
      first | done | rw [← h3]
    · rw [List.drop_eq_nil_of_le (by omega)] at h3
      simp only [cmpL] at h3
      simp (disch := first | assumption | omega | rfl | simp only [hAt_app, hAt_app0, List.getElem?_cons_zero, List.getElem?_cons_succ]) only [↓RP, RG, FX, decide_eq_true, decide_eq_false, Bool.not_true, Bool.not_false, Option.map_some, List.map_cons, List.map_nil, List.getElem?_cons_zero, List.getElem?_cons_succ, ↓reduceIte, Nat.reduceEqDiff, reduceCtorEq, decide_eq_true_eq, decide_eq_false_iff_not, Option.map_none, Option.bind_some, List.contains_nil, List.contains_cons, Nat.reduceBEq, Bool.or_false, Bool.false_or, Bool.or_self, List.set_cons_zero, List.set_cons_succ, List.take_succ_cons, List.take_zero, List.drop_succ_cons, List.drop_zero, List.length_cons, List.length_nil, List.length_append, Nat.reduceAdd, Nat.reduceLeDiff, List.all_cons, List.all_nil, Bool.and_true, and_true, true_and, and_self, ne_eq, not_false_eq_true, List.cons_append, List.nil_append, List.append_nil, List.append_assoc, Nat.zero_add, Nat.add_zero, Int.toNat_natCast]
      rw [resVal_1 rfl]; simp (disch := first | assumption | omega | rfl | simp only [hAt_app, hAt_app0, List.getElem?_cons_zero, List.getElem?_cons_succ]) only [↓RP, RG, FX, decide_eq_true, decide_eq_false, Bool.not_true, Bool.not_false, Option.map_some, List.map_cons, List.map_nil, List.getElem?_cons_zero, List.getElem?_cons_succ, ↓reduceIte, Nat.reduceEqDiff, reduceCtorEq, decide_eq_true_eq, decide_eq_false_iff_not, Option.map_none, Option.bind_some, List.contains_nil, List.contains_cons, Nat.reduceBEq, Bool.or_false, Bool.false_or, Bool.or_self, List.set_cons_zero, List.set_cons_succ, List.take_succ_cons, List.take_zero, List.drop_succ_cons, List.drop_zero, List.length_cons, List.length_nil, List.length_append, Nat.reduceAdd, Nat.reduceLeDiff, List.all_cons, List.all_nil, Bool.and_true, and_true, true_and, and_self, ne_eq, not_false_eq_true, List.cons_append, List.nil_append, List.append_nil, List.append_assoc, Nat.zero_add, Nat.add_zero, Int.toNat_natCast, RS]
      first | done | rw [← h3]
end Go.Proofs.YtlckfakifamjiaaDoor

/- Families of lifts, by the program. -/
set_option linter.unusedSimpArgs false
set_option linter.unusedVariables false
set_option maxRecDepth 100000
namespace Go.Proofs.YtlckfakifamjiaaDoor
open Go Go.Proofs Go.AW

theorem feet_c (n : Int) : Contract Tryd.prog 30 [I n] (B (decide (1 ≤ n ∧ n ≤ 4))) := by
  by_cases c1 : 1 ≤ n
  · by_cases c2 : n ≤ 4
    · refine Contract.intro (effS [] false) 6 follows Tryd.func30 rfl rfl (by kernel_rfl) (Nat.le_of_ble_eq_true rfl) ?_
      simp (disch := first | assumption | omega | rfl | simp only [hAt_app, hAt_app0, List.getElem?_cons_zero, List.getElem?_cons_succ]) only [↓RP, RG, FX, decide_eq_true, decide_eq_false, Bool.not_true, Bool.not_false, Option.map_some, List.map_cons, List.map_nil, List.getElem?_cons_zero, List.getElem?_cons_succ, ↓reduceIte, Nat.reduceEqDiff, reduceCtorEq, decide_eq_true_eq, decide_eq_false_iff_not, Option.map_none, Option.bind_some, List.contains_nil, List.contains_cons, Nat.reduceBEq, Bool.or_false, Bool.false_or, Bool.or_self, List.set_cons_zero, List.set_cons_succ, List.take_succ_cons, List.take_zero, List.drop_succ_cons, List.drop_zero, List.length_cons, List.length_nil, List.length_append, Nat.reduceAdd, Nat.reduceLeDiff, List.all_cons, List.all_nil, Bool.and_true, and_true, true_and, and_self, ne_eq, not_false_eq_true, List.cons_append, List.nil_append, List.append_nil, List.append_assoc, Nat.zero_add, Nat.add_zero, Int.toNat_natCast, args0_1]
      rw [resVal_1 rfl]; simp (disch := first | assumption | omega | rfl | simp only [hAt_app, hAt_app0, List.getElem?_cons_zero, List.getElem?_cons_succ]) only [↓RP, RG, FX, decide_eq_true, decide_eq_false, Bool.not_true, Bool.not_false, Option.map_some, List.map_cons, List.map_nil, List.getElem?_cons_zero, List.getElem?_cons_succ, ↓reduceIte, Nat.reduceEqDiff, reduceCtorEq, decide_eq_true_eq, decide_eq_false_iff_not, Option.map_none, Option.bind_some, List.contains_nil, List.contains_cons, Nat.reduceBEq, Bool.or_false, Bool.false_or, Bool.or_self, List.set_cons_zero, List.set_cons_succ, List.take_succ_cons, List.take_zero, List.drop_succ_cons, List.drop_zero, List.length_cons, List.length_nil, List.length_append, Nat.reduceAdd, Nat.reduceLeDiff, List.all_cons, List.all_nil, Bool.and_true, and_true, true_and, and_self, ne_eq, not_false_eq_true, List.cons_append, List.nil_append, List.append_nil, List.append_assoc, Nat.zero_add, Nat.add_zero, Int.toNat_natCast, RS]
      first | done | simp [c1, c2]
    · refine Contract.intro (effS [] false) 6 follows Tryd.func30 rfl rfl (by kernel_rfl) (Nat.le_of_ble_eq_true rfl) ?_
      simp (disch := first | assumption | omega | rfl | simp only [hAt_app, hAt_app0, List.getElem?_cons_zero, List.getElem?_cons_succ]) only [↓RP, RG, FX, decide_eq_true, decide_eq_false, Bool.not_true, Bool.not_false, Option.map_some, List.map_cons, List.map_nil, List.getElem?_cons_zero, List.getElem?_cons_succ, ↓reduceIte, Nat.reduceEqDiff, reduceCtorEq, decide_eq_true_eq, decide_eq_false_iff_not, Option.map_none, Option.bind_some, List.contains_nil, List.contains_cons, Nat.reduceBEq, Bool.or_false, Bool.false_or, Bool.or_self, List.set_cons_zero, List.set_cons_succ, List.take_succ_cons, List.take_zero, List.drop_succ_cons, List.drop_zero, List.length_cons, List.length_nil, List.length_append, Nat.reduceAdd, Nat.reduceLeDiff, List.all_cons, List.all_nil, Bool.and_true, and_true, true_and, and_self, ne_eq, not_false_eq_true, List.cons_append, List.nil_append, List.append_nil, List.append_assoc, Nat.zero_add, Nat.add_zero, Int.toNat_natCast, args0_1]
      rw [resVal_1 rfl]; simp (disch := first | assumption | omega | rfl | simp only [hAt_app, hAt_app0, List.getElem?_cons_zero, List.getElem?_cons_succ]) only [↓RP, RG, FX, decide_eq_true, decide_eq_false, Bool.not_true, Bool.not_false, Option.map_some, List.map_cons, List.map_nil, List.getElem?_cons_zero, List.getElem?_cons_succ, ↓reduceIte, Nat.reduceEqDiff, reduceCtorEq, decide_eq_true_eq, decide_eq_false_iff_not, Option.map_none, Option.bind_some, List.contains_nil, List.contains_cons, Nat.reduceBEq, Bool.or_false, Bool.false_or, Bool.or_self, List.set_cons_zero, List.set_cons_succ, List.take_succ_cons, List.take_zero, List.drop_succ_cons, List.drop_zero, List.length_cons, List.length_nil, List.length_append, Nat.reduceAdd, Nat.reduceLeDiff, List.all_cons, List.all_nil, Bool.and_true, and_true, true_and, and_self, ne_eq, not_false_eq_true, List.cons_append, List.nil_append, List.append_nil, List.append_assoc, Nat.zero_add, Nat.add_zero, Int.toNat_natCast, RS]
      first | done | simp [c1, c2]
  · refine Contract.intro (effS [] false) 6 follows Tryd.func30 rfl rfl (by kernel_rfl) (Nat.le_of_ble_eq_true rfl) ?_
    simp (disch := first | assumption | omega | rfl | simp only [hAt_app, hAt_app0, List.getElem?_cons_zero, List.getElem?_cons_succ]) only [↓RP, RG, FX, decide_eq_true, decide_eq_false, Bool.not_true, Bool.not_false, Option.map_some, List.map_cons, List.map_nil, List.getElem?_cons_zero, List.getElem?_cons_succ, ↓reduceIte, Nat.reduceEqDiff, reduceCtorEq, decide_eq_true_eq, decide_eq_false_iff_not, Option.map_none, Option.bind_some, List.contains_nil, List.contains_cons, Nat.reduceBEq, Bool.or_false, Bool.false_or, Bool.or_self, List.set_cons_zero, List.set_cons_succ, List.take_succ_cons, List.take_zero, List.drop_succ_cons, List.drop_zero, List.length_cons, List.length_nil, List.length_append, Nat.reduceAdd, Nat.reduceLeDiff, List.all_cons, List.all_nil, Bool.and_true, and_true, true_and, and_self, ne_eq, not_false_eq_true, List.cons_append, List.nil_append, List.append_nil, List.append_assoc, Nat.zero_add, Nat.add_zero, Int.toNat_natCast, args0_1]
    rw [resVal_1 rfl]; simp (disch := first | assumption | omega | rfl | simp only [hAt_app, hAt_app0, List.getElem?_cons_zero, List.getElem?_cons_succ]) only [↓RP, RG, FX, decide_eq_true, decide_eq_false, Bool.not_true, Bool.not_false, Option.map_some, List.map_cons, List.map_nil, List.getElem?_cons_zero, List.getElem?_cons_succ, ↓reduceIte, Nat.reduceEqDiff, reduceCtorEq, decide_eq_true_eq, decide_eq_false_iff_not, Option.map_none, Option.bind_some, List.contains_nil, List.contains_cons, Nat.reduceBEq, Bool.or_false, Bool.false_or, Bool.or_self, List.set_cons_zero, List.set_cons_succ, List.take_succ_cons, List.take_zero, List.drop_succ_cons, List.drop_zero, List.length_cons, List.length_nil, List.length_append, Nat.reduceAdd, Nat.reduceLeDiff, List.all_cons, List.all_nil, Bool.and_true, and_true, true_and, and_self, ne_eq, not_false_eq_true, List.cons_append, List.nil_append, List.append_nil, List.append_assoc, Nat.zero_add, Nat.add_zero, Int.toNat_natCast, RS]
    first | done | simp [c1]
theorem pow4 {s : Nat} (hs : s ≤ 4) : 2 ^ s ≤ 16 ∧ 1 ≤ 2 ^ s := by
  have := Nat.pow_le_pow_right (show 0 < 2 by omega) hs
  exact ⟨by simpa using this, Nat.two_pow_pos s⟩
theorem outF_c {s : Nat} (hs : s ≤ 4) (x : Int) (r : Bool) (hr : r = true ↔ ¬ (0 ≤ x ∧ x < ((2 ^ s : Nat) : Int))) : Contract Tryd.prog 56 [I x, .spot false [I s]] (B r) := by
  obtain ⟨p1, p2⟩ := pow4 hs
  have hsh := shl64 (n := s) (by omega)
  generalize 2 ^ s = q at *
  by_cases c1 : x < 0
  · obtain rfl : r = true := hr.2 (by omega)
    refine Contract.intro (effS [] false) 6 follows Tryd.func56 rfl rfl (by kernel_rfl) (Nat.le_of_ble_eq_true rfl) ?_
    simp (disch := first | assumption | omega | rfl | simp only [hAt_app, hAt_app0, List.getElem?_cons_zero, List.getElem?_cons_succ]) only [↓RP, RG, FX, decide_eq_true, decide_eq_false, Bool.not_true, Bool.not_false, Option.map_some, List.map_cons, List.map_nil, List.getElem?_cons_zero, List.getElem?_cons_succ, ↓reduceIte, Nat.reduceEqDiff, reduceCtorEq, decide_eq_true_eq, decide_eq_false_iff_not, Option.map_none, Option.bind_some, List.contains_nil, List.contains_cons, Nat.reduceBEq, Bool.or_false, Bool.false_or, Bool.or_self, List.set_cons_zero, List.set_cons_succ, List.take_succ_cons, List.take_zero, List.drop_succ_cons, List.drop_zero, List.length_cons, List.length_nil, List.length_append, Nat.reduceAdd, Nat.reduceLeDiff, List.all_cons, List.all_nil, Bool.and_true, and_true, true_and, and_self, ne_eq, not_false_eq_true, List.cons_append, List.nil_append, List.append_nil, List.append_assoc, Nat.zero_add, Nat.add_zero, Int.toNat_natCast, args0_2]
    rw [resVal_1 rfl]; simp (disch := first | assumption | omega | rfl | simp only [hAt_app, hAt_app0, List.getElem?_cons_zero, List.getElem?_cons_succ]) only [↓RP, RG, FX, decide_eq_true, decide_eq_false, Bool.not_true, Bool.not_false, Option.map_some, List.map_cons, List.map_nil, List.getElem?_cons_zero, List.getElem?_cons_succ, ↓reduceIte, Nat.reduceEqDiff, reduceCtorEq, decide_eq_true_eq, decide_eq_false_iff_not, Option.map_none, Option.bind_some, List.contains_nil, List.contains_cons, Nat.reduceBEq, Bool.or_false, Bool.false_or, Bool.or_self, List.set_cons_zero, List.set_cons_succ, List.take_succ_cons, List.take_zero, List.drop_succ_cons, List.drop_zero, List.length_cons, List.length_nil, List.length_append, Nat.reduceAdd, Nat.reduceLeDiff, List.all_cons, List.all_nil, Bool.and_true, and_true, true_and, and_self, ne_eq, not_false_eq_true, List.cons_append, List.nil_append, List.append_nil, List.append_assoc, Nat.zero_add, Nat.add_zero, Int.toNat_natCast, RS]
  · by_cases c2 : x < (q : Int)
    · obtain rfl : r = false := by cases r with | false => rfl | true => exact absurd ⟨by omega, c2⟩ (hr.1 rfl)
      refine Contract.intro (effS [] false) 6 follows Tryd.func56 rfl rfl (by kernel_rfl) (Nat.le_of_ble_eq_true rfl) ?_
      simp (disch := first | assumption | omega | rfl | simp only [hAt_app, hAt_app0, List.getElem?_cons_zero, List.getElem?_cons_succ]) only [↓RP, RG, FX, decide_eq_true, decide_eq_false, Bool.not_true, Bool.not_false, Option.map_some, List.map_cons, List.map_nil, List.getElem?_cons_zero, List.getElem?_cons_succ, ↓reduceIte, Nat.reduceEqDiff, reduceCtorEq, decide_eq_true_eq, decide_eq_false_iff_not, Option.map_none, Option.bind_some, List.contains_nil, List.contains_cons, Nat.reduceBEq, Bool.or_false, Bool.false_or, Bool.or_self, List.set_cons_zero, List.set_cons_succ, List.take_succ_cons, List.take_zero, List.drop_succ_cons, List.drop_zero, List.length_cons, List.length_nil, List.length_append, Nat.reduceAdd, Nat.reduceLeDiff, List.all_cons, List.all_nil, Bool.and_true, and_true, true_and, and_self, ne_eq, not_false_eq_true, List.cons_append, List.nil_append, List.append_nil, List.append_assoc, Nat.zero_add, Nat.add_zero, Int.toNat_natCast, args0_2, aBin_shl, hsh]
      rw [resVal_1 rfl]; simp (disch := first | assumption | omega | rfl | simp only [hAt_app, hAt_app0, List.getElem?_cons_zero, List.getElem?_cons_succ]) only [↓RP, RG, FX, decide_eq_true, decide_eq_false, Bool.not_true, Bool.not_false, Option.map_some, List.map_cons, List.map_nil, List.getElem?_cons_zero, List.getElem?_cons_succ, ↓reduceIte, Nat.reduceEqDiff, reduceCtorEq, decide_eq_true_eq, decide_eq_false_iff_not, Option.map_none, Option.bind_some, List.contains_nil, List.contains_cons, Nat.reduceBEq, Bool.or_false, Bool.false_or, Bool.or_self, List.set_cons_zero, List.set_cons_succ, List.take_succ_cons, List.take_zero, List.drop_succ_cons, List.drop_zero, List.length_cons, List.length_nil, List.length_append, Nat.reduceAdd, Nat.reduceLeDiff, List.all_cons, List.all_nil, Bool.and_true, and_true, true_and, and_self, ne_eq, not_false_eq_true, List.cons_append, List.nil_append, List.append_nil, List.append_assoc, Nat.zero_add, Nat.add_zero, Int.toNat_natCast, RS]
    · obtain rfl : r = true := hr.2 (by omega)
      refine Contract.intro (effS [] false) 6 follows Tryd.func56 rfl rfl (by kernel_rfl) (Nat.le_of_ble_eq_true rfl) ?_
      simp (disch := first | assumption | omega | rfl | simp only [hAt_app, hAt_app0, List.getElem?_cons_zero, List.getElem?_cons_succ]) only [↓RP, RG, FX, decide_eq_true, decide_eq_false, Bool.not_true, Bool.not_false, Option.map_some, List.map_cons, List.map_nil, List.getElem?_cons_zero, List.getElem?_cons_succ, ↓reduceIte, Nat.reduceEqDiff, reduceCtorEq, decide_eq_true_eq, decide_eq_false_iff_not, Option.map_none, Option.bind_some, List.contains_nil, List.contains_cons, Nat.reduceBEq, Bool.or_false, Bool.false_or, Bool.or_self, List.set_cons_zero, List.set_cons_succ, List.take_succ_cons, List.take_zero, List.drop_succ_cons, List.drop_zero, List.length_cons, List.length_nil, List.length_append, Nat.reduceAdd, Nat.reduceLeDiff, List.all_cons, List.all_nil, Bool.and_true, and_true, true_and, and_self, ne_eq, not_false_eq_true, List.cons_append, List.nil_append, List.append_nil, List.append_assoc, Nat.zero_add, Nat.add_zero, Int.toNat_natCast, args0_2, aBin_shl, hsh]
      rw [resVal_1 rfl]; simp (disch := first | assumption | omega | rfl | simp only [hAt_app, hAt_app0, List.getElem?_cons_zero, List.getElem?_cons_succ]) only [↓RP, RG, FX, decide_eq_true, decide_eq_false, Bool.not_true, Bool.not_false, Option.map_some, List.map_cons, List.map_nil, List.getElem?_cons_zero, List.getElem?_cons_succ, ↓reduceIte, Nat.reduceEqDiff, reduceCtorEq, decide_eq_true_eq, decide_eq_false_iff_not, Option.map_none, Option.bind_some, List.contains_nil, List.contains_cons, Nat.reduceBEq, Bool.or_false, Bool.false_or, Bool.or_self, List.set_cons_zero, List.set_cons_succ, List.take_succ_cons, List.take_zero, List.drop_succ_cons, List.drop_zero, List.length_cons, List.length_nil, List.length_append, Nat.reduceAdd, Nat.reduceLeDiff, List.all_cons, List.all_nil, Bool.and_true, and_true, true_and, and_self, ne_eq, not_false_eq_true, List.cons_append, List.nil_append, List.append_nil, List.append_assoc, Nat.zero_add, Nat.add_zero, Int.toNat_natCast, RS]
/-- There is one of them that is out of range. -/
theorem someOut_c {s : Nat} (hs : s ≤ 4) (bs : Bool) (l : List Int) (hl : l.length ≤ 1000000) (r : Bool) (hr : r = true ↔ ∃ i, i < l.length ∧ ¬ (0 ≤ l.getD i 0 ∧ l.getD i 0 < ((2 ^ s : Nat) : Int))) :
    Contract Tryd.prog 55 [LA bs l, .func (.func 56) [] [.spot false [I s]]] (B r) := by
  generalize hq : ((2 ^ s : Nat) : Int) = q at *
  have key : Contract Tryd.prog 77 [LA bs l, .func (.func 56) [] [.spot false [I s]]] (I (if r = true then (l.findIdx fun x => !decide (0 ≤ x ∧ x < q) : Nat) else -1)) := by
    refine Contract.intro (effS [] false) 6 follows Tryd.func77 rfl rfl (by kernel_rfl) (Nat.le_of_ble_eq_true rfl) ?_
    simp (disch := first | assumption | omega | rfl | simp only [hAt_app, hAt_app0, List.getElem?_cons_zero, List.getElem?_cons_succ]) only [↓RP, RG, FX, decide_eq_true, decide_eq_false, Bool.not_true, Bool.not_false, Option.map_some, List.map_cons, List.map_nil, List.getElem?_cons_zero, List.getElem?_cons_succ, ↓reduceIte, Nat.reduceEqDiff, reduceCtorEq, decide_eq_true_eq, decide_eq_false_iff_not, Option.map_none, Option.bind_some, List.contains_nil, List.contains_cons, Nat.reduceBEq, Bool.or_false, Bool.false_or, Bool.or_self, List.set_cons_zero, List.set_cons_succ, List.take_succ_cons, List.take_zero, List.drop_succ_cons, List.drop_zero, List.length_cons, List.length_nil, List.length_append, Nat.reduceAdd, Nat.reduceLeDiff, List.all_cons, List.all_nil, Bool.and_true, and_true, true_and, and_self, ne_eq, not_false_eq_true, List.cons_append, List.nil_append, List.append_nil, List.append_assoc, Nat.zero_add, Nat.add_zero, Int.toNat_natCast, args0_2]
    refine loopK_I [0, 1, 7, 8] (fun k : Nat => k ≤ l.length ∧ ∀ j, j < k → 0 ≤ l.getD j 0 ∧ l.getD j 0 < q) (fun k : Nat => ⟨[(0, LA bs l), (1, .func (.func 56) [] [.spot false [I s]]), (7, I l.length), (8, I k)], []⟩) (fun k => l.length - k) 0 ⟨by omega, fun j hj => by omega⟩ (by simp only [↓RP, RG, FX, decide_eq_true, decide_eq_false, Bool.not_true, Bool.not_false, Option.map_some, List.map_cons, List.map_nil, List.getElem?_cons_zero, List.getElem?_cons_succ, ↓reduceIte, Nat.reduceEqDiff, reduceCtorEq, decide_eq_true_eq, decide_eq_false_iff_not, Option.map_none, Option.bind_some, List.contains_nil, List.contains_cons, Nat.reduceBEq, Bool.or_false, Bool.false_or, Bool.or_self, List.set_cons_zero, List.set_cons_succ, List.take_succ_cons, List.take_zero, List.drop_succ_cons, List.drop_zero, List.length_cons, List.length_nil, List.length_append, Nat.reduceAdd, Nat.reduceLeDiff, List.all_cons, List.all_nil, Bool.and_true, and_true, true_and, and_self, ne_eq, not_false_eq_true, List.cons_append, List.nil_append, List.append_nil, List.append_assoc, Nat.zero_add, Nat.add_zero, Int.toNat_natCast]; rfl) ?_
    rintro k ⟨hk, hall⟩
    by_cases hlt : k < l.length
    · have hgd : ∀ (j : Nat) (hj : j < l.length), l.getD j 0 = l[j]'hj := fun j hj => by rw [List.getD_eq_getElem?_getD, List.getElem?_eq_getElem hj]; rfl
      by_cases hc : 0 ≤ l.getD k 0 ∧ l.getD k 0 < q
      · have hNI := outF_c hs (l.getD k 0) false ⟨fun h => (by cases h), fun h => absurd hc (by rw [hq] at h; exact h)⟩
        simp (disch := first | assumption | omega | rfl | simp only [hAt_app, hAt_app0, List.getElem?_cons_zero, List.getElem?_cons_succ]) only [↓RP, RG, FX, decide_eq_true, decide_eq_false, Bool.not_true, Bool.not_false, Option.map_some, List.map_cons, List.map_nil, List.getElem?_cons_zero, List.getElem?_cons_succ, ↓reduceIte, Nat.reduceEqDiff, reduceCtorEq, decide_eq_true_eq, decide_eq_false_iff_not, Option.map_none, Option.bind_some, List.contains_nil, List.contains_cons, Nat.reduceBEq, Bool.or_false, Bool.false_or, Bool.or_self, List.set_cons_zero, List.set_cons_succ, List.take_succ_cons, List.take_zero, List.drop_succ_cons, List.drop_zero, List.length_cons, List.length_nil, List.length_append, Nat.reduceAdd, Nat.reduceLeDiff, List.all_cons, List.all_nil, Bool.and_true, and_true, true_and, and_self, ne_eq, not_false_eq_true, List.cons_append, List.nil_append, List.append_nil, List.append_assoc, Nat.zero_add, Nat.add_zero, Int.toNat_natCast]
        refine callK_V 6 hNI (by simp (disch := omega) only [↓RP, RG, FX, decide_eq_true, decide_eq_false, Bool.not_true, Bool.not_false, Option.map_some, List.map_cons, List.map_nil, List.getElem?_cons_zero, List.getElem?_cons_succ, ↓reduceIte, Nat.reduceEqDiff, reduceCtorEq, decide_eq_true_eq, decide_eq_false_iff_not, Option.map_none, Option.bind_some, List.contains_nil, List.contains_cons, Nat.reduceBEq, Bool.or_false, Bool.false_or, Bool.or_self, List.set_cons_zero, List.set_cons_succ, List.take_succ_cons, List.take_zero, List.drop_succ_cons, List.drop_zero, List.length_cons, List.length_nil, List.length_append, Nat.reduceAdd, Nat.reduceLeDiff, List.all_cons, List.all_nil, Bool.and_true, and_true, true_and, and_self, ne_eq, not_false_eq_true, List.cons_append, List.nil_append, List.append_nil, List.append_assoc, Nat.zero_add, Nat.add_zero, Int.toNat_natCast, RA] <;> rfl) (.inl rfl) ?_
        simp (disch := first | assumption | omega | rfl | simp only [hAt_app, hAt_app0, List.getElem?_cons_zero, List.getElem?_cons_succ]) only [↓RP, RG, FX, decide_eq_true, decide_eq_false, Bool.not_true, Bool.not_false, Option.map_some, List.map_cons, List.map_nil, List.getElem?_cons_zero, List.getElem?_cons_succ, ↓reduceIte, Nat.reduceEqDiff, reduceCtorEq, decide_eq_true_eq, decide_eq_false_iff_not, Option.map_none, Option.bind_some, List.contains_nil, List.contains_cons, Nat.reduceBEq, Bool.or_false, Bool.false_or, Bool.or_self, List.set_cons_zero, List.set_cons_succ, List.take_succ_cons, List.take_zero, List.drop_succ_cons, List.drop_zero, List.length_cons, List.length_nil, List.length_append, Nat.reduceAdd, Nat.reduceLeDiff, List.all_cons, List.all_nil, Bool.and_true, and_true, true_and, and_self, ne_eq, not_false_eq_true, List.cons_append, List.nil_append, List.append_nil, List.append_assoc, Nat.zero_add, Nat.add_zero, Int.toNat_natCast]
        refine ⟨k + 1, ⟨hlt, fun j hj => ?_⟩, rfl, by omega⟩
        by_cases e : j = k
        · subst e; exact hc
        · exact hall j (by omega)
      · have hNI := outF_c hs (l.getD k 0) true ⟨fun _ => by rw [hq]; exact hc, fun _ => rfl⟩
        have hrt : r = true := hr.2 ⟨k, hlt, hc⟩
        have hf : (l.findIdx fun x => !decide (0 ≤ x ∧ x < q)) = k := by
          refine (List.findIdx_eq hlt).2 ⟨?_, fun j hj => ?_⟩
          · rw [hgd k hlt] at hc
            simp only [decide_eq_false hc, Bool.not_false]
          · have := hall j hj
            rw [hgd j (by omega)] at this
            simp only [decide_eq_true this, Bool.not_true]
        rw [if_pos hrt, hf]
        simp (disch := first | assumption | omega | rfl | simp only [hAt_app, hAt_app0, List.getElem?_cons_zero, List.getElem?_cons_succ]) only [↓RP, RG, FX, decide_eq_true, decide_eq_false, Bool.not_true, Bool.not_false, Option.map_some, List.map_cons, List.map_nil, List.getElem?_cons_zero, List.getElem?_cons_succ, ↓reduceIte, Nat.reduceEqDiff, reduceCtorEq, decide_eq_true_eq, decide_eq_false_iff_not, Option.map_none, Option.bind_some, List.contains_nil, List.contains_cons, Nat.reduceBEq, Bool.or_false, Bool.false_or, Bool.or_self, List.set_cons_zero, List.set_cons_succ, List.take_succ_cons, List.take_zero, List.drop_succ_cons, List.drop_zero, List.length_cons, List.length_nil, List.length_append, Nat.reduceAdd, Nat.reduceLeDiff, List.all_cons, List.all_nil, Bool.and_true, and_true, true_and, and_self, ne_eq, not_false_eq_true, List.cons_append, List.nil_append, List.append_nil, List.append_assoc, Nat.zero_add, Nat.add_zero, Int.toNat_natCast]
        refine callK_V 6 hNI (by simp (disch := omega) only [↓RP, RG, FX, decide_eq_true, decide_eq_false, Bool.not_true, Bool.not_false, Option.map_some, List.map_cons, List.map_nil, List.getElem?_cons_zero, List.getElem?_cons_succ, ↓reduceIte, Nat.reduceEqDiff, reduceCtorEq, decide_eq_true_eq, decide_eq_false_iff_not, Option.map_none, Option.bind_some, List.contains_nil, List.contains_cons, Nat.reduceBEq, Bool.or_false, Bool.false_or, Bool.or_self, List.set_cons_zero, List.set_cons_succ, List.take_succ_cons, List.take_zero, List.drop_succ_cons, List.drop_zero, List.length_cons, List.length_nil, List.length_append, Nat.reduceAdd, Nat.reduceLeDiff, List.all_cons, List.all_nil, Bool.and_true, and_true, true_and, and_self, ne_eq, not_false_eq_true, List.cons_append, List.nil_append, List.append_nil, List.append_assoc, Nat.zero_add, Nat.add_zero, Int.toNat_natCast, RA] <;> rfl) (.inl rfl) ?_
        simp (disch := first | assumption | omega | rfl | simp only [hAt_app, hAt_app0, List.getElem?_cons_zero, List.getElem?_cons_succ]) only [↓RP, RG, FX, decide_eq_true, decide_eq_false, Bool.not_true, Bool.not_false, Option.map_some, List.map_cons, List.map_nil, List.getElem?_cons_zero, List.getElem?_cons_succ, ↓reduceIte, Nat.reduceEqDiff, reduceCtorEq, decide_eq_true_eq, decide_eq_false_iff_not, Option.map_none, Option.bind_some, List.contains_nil, List.contains_cons, Nat.reduceBEq, Bool.or_false, Bool.false_or, Bool.or_self, List.set_cons_zero, List.set_cons_succ, List.take_succ_cons, List.take_zero, List.drop_succ_cons, List.drop_zero, List.length_cons, List.length_nil, List.length_append, Nat.reduceAdd, Nat.reduceLeDiff, List.all_cons, List.all_nil, Bool.and_true, and_true, true_and, and_self, ne_eq, not_false_eq_true, List.cons_append, List.nil_append, List.append_nil, List.append_assoc, Nat.zero_add, Nat.add_zero, Int.toNat_natCast]
        rw [resVal_1 rfl]; simp (disch := first | assumption | omega | rfl | simp only [hAt_app, hAt_app0, List.getElem?_cons_zero, List.getElem?_cons_succ]) only [↓RP, RG, FX, decide_eq_true, decide_eq_false, Bool.not_true, Bool.not_false, Option.map_some, List.map_cons, List.map_nil, List.getElem?_cons_zero, List.getElem?_cons_succ, ↓reduceIte, Nat.reduceEqDiff, reduceCtorEq, decide_eq_true_eq, decide_eq_false_iff_not, Option.map_none, Option.bind_some, List.contains_nil, List.contains_cons, Nat.reduceBEq, Bool.or_false, Bool.false_or, Bool.or_self, List.set_cons_zero, List.set_cons_succ, List.take_succ_cons, List.take_zero, List.drop_succ_cons, List.drop_zero, List.length_cons, List.length_nil, List.length_append, Nat.reduceAdd, Nat.reduceLeDiff, List.all_cons, List.all_nil, Bool.and_true, and_true, true_and, and_self, ne_eq, not_false_eq_true, List.cons_append, List.nil_append, List.append_nil, List.append_assoc, Nat.zero_add, Nat.add_zero, Int.toNat_natCast, RS]
    · obtain rfl : k = l.length := by omega
      have hrf : r = false := by
        cases r with
        | false => rfl
        | true =>
          obtain ⟨i, h1, h2⟩ := hr.1 rfl
          exact absurd (hall i h1) h2
      subst hrf
      simp (disch := first | assumption | omega | rfl | simp only [hAt_app, hAt_app0, List.getElem?_cons_zero, List.getElem?_cons_succ]) only [↓RP, RG, FX, decide_eq_true, decide_eq_false, Bool.not_true, Bool.not_false, Option.map_some, List.map_cons, List.map_nil, List.getElem?_cons_zero, List.getElem?_cons_succ, ↓reduceIte, Nat.reduceEqDiff, reduceCtorEq, decide_eq_true_eq, decide_eq_false_iff_not, Option.map_none, Option.bind_some, List.contains_nil, List.contains_cons, Nat.reduceBEq, Bool.or_false, Bool.false_or, Bool.or_self, List.set_cons_zero, List.set_cons_succ, List.take_succ_cons, List.take_zero, List.drop_succ_cons, List.drop_zero, List.length_cons, List.length_nil, List.length_append, Nat.reduceAdd, Nat.reduceLeDiff, List.all_cons, List.all_nil, Bool.and_true, and_true, true_and, and_self, ne_eq, not_false_eq_true, List.cons_append, List.nil_append, List.append_nil, List.append_assoc, Nat.zero_add, Nat.add_zero, Int.toNat_natCast]
      rw [resVal_1 rfl]; simp (disch := first | assumption | omega | rfl | simp only [hAt_app, hAt_app0, List.getElem?_cons_zero, List.getElem?_cons_succ]) only [↓RP, RG, FX, decide_eq_true, decide_eq_false, Bool.not_true, Bool.not_false, Option.map_some, List.map_cons, List.map_nil, List.getElem?_cons_zero, List.getElem?_cons_succ, ↓reduceIte, Nat.reduceEqDiff, reduceCtorEq, decide_eq_true_eq, decide_eq_false_iff_not, Option.map_none, Option.bind_some, List.contains_nil, List.contains_cons, Nat.reduceBEq, Bool.or_false, Bool.false_or, Bool.or_self, List.set_cons_zero, List.set_cons_succ, List.take_succ_cons, List.take_zero, List.drop_succ_cons, List.drop_zero, List.length_cons, List.length_nil, List.length_append, Nat.reduceAdd, Nat.reduceLeDiff, List.all_cons, List.all_nil, Bool.and_true, and_true, true_and, and_self, ne_eq, not_false_eq_true, List.cons_append, List.nil_append, List.append_nil, List.append_assoc, Nat.zero_add, Nat.add_zero, Int.toNat_natCast, RS]
      first | done | rfl
  refine Contract.intro (effS [] false) 6 follows Tryd.func55 rfl rfl (by kernel_rfl) (Nat.le_of_ble_eq_true rfl) ?_
  simp (disch := first | assumption | omega | rfl | simp only [hAt_app, hAt_app0, List.getElem?_cons_zero, List.getElem?_cons_succ]) only [↓RP, RG, FX, decide_eq_true, decide_eq_false, Bool.not_true, Bool.not_false, Option.map_some, List.map_cons, List.map_nil, List.getElem?_cons_zero, List.getElem?_cons_succ, ↓reduceIte, Nat.reduceEqDiff, reduceCtorEq, decide_eq_true_eq, decide_eq_false_iff_not, Option.map_none, Option.bind_some, List.contains_nil, List.contains_cons, Nat.reduceBEq, Bool.or_false, Bool.false_or, Bool.or_self, List.set_cons_zero, List.set_cons_succ, List.take_succ_cons, List.take_zero, List.drop_succ_cons, List.drop_zero, List.length_cons, List.length_nil, List.length_append, Nat.reduceAdd, Nat.reduceLeDiff, List.all_cons, List.all_nil, Bool.and_true, and_true, true_and, and_self, ne_eq, not_false_eq_true, List.cons_append, List.nil_append, List.append_nil, List.append_assoc, Nat.zero_add, Nat.add_zero, Int.toNat_natCast, args0_2]
  refine callK_F 6 key (by simp (disch := omega) only [↓RP, RG, FX, decide_eq_true, decide_eq_false, Bool.not_true, Bool.not_false, Option.map_some, List.map_cons, List.map_nil, List.getElem?_cons_zero, List.getElem?_cons_succ, ↓reduceIte, Nat.reduceEqDiff, reduceCtorEq, decide_eq_true_eq, decide_eq_false_iff_not, Option.map_none, Option.bind_some, List.contains_nil, List.contains_cons, Nat.reduceBEq, Bool.or_false, Bool.false_or, Bool.or_self, List.set_cons_zero, List.set_cons_succ, List.take_succ_cons, List.take_zero, List.drop_succ_cons, List.drop_zero, List.length_cons, List.length_nil, List.length_append, Nat.reduceAdd, Nat.reduceLeDiff, List.all_cons, List.all_nil, Bool.and_true, and_true, true_and, and_self, ne_eq, not_false_eq_true, List.cons_append, List.nil_append, List.append_nil, List.append_assoc, Nat.zero_add, Nat.add_zero, Int.toNat_natCast, RA] <;> rfl) (.inl rfl) ?_
  cases r with
  | false =>
    rw [if_neg (by simp)]
    simp (disch := first | assumption | omega | rfl | simp only [hAt_app, hAt_app0, List.getElem?_cons_zero, List.getElem?_cons_succ]) only [↓RP, RG, FX, decide_eq_true, decide_eq_false, Bool.not_true, Bool.not_false, Option.map_some, List.map_cons, List.map_nil, List.getElem?_cons_zero, List.getElem?_cons_succ, ↓reduceIte, Nat.reduceEqDiff, reduceCtorEq, decide_eq_true_eq, decide_eq_false_iff_not, Option.map_none, Option.bind_some, List.contains_nil, List.contains_cons, Nat.reduceBEq, Bool.or_false, Bool.false_or, Bool.or_self, List.set_cons_zero, List.set_cons_succ, List.take_succ_cons, List.take_zero, List.drop_succ_cons, List.drop_zero, List.length_cons, List.length_nil, List.length_append, Nat.reduceAdd, Nat.reduceLeDiff, List.all_cons, List.all_nil, Bool.and_true, and_true, true_and, and_self, ne_eq, not_false_eq_true, List.cons_append, List.nil_append, List.append_nil, List.append_assoc, Nat.zero_add, Nat.add_zero, Int.toNat_natCast]
    rw [resVal_1 rfl]; simp (disch := first | assumption | omega | rfl | simp only [hAt_app, hAt_app0, List.getElem?_cons_zero, List.getElem?_cons_succ]) only [↓RP, RG, FX, decide_eq_true, decide_eq_false, Bool.not_true, Bool.not_false, Option.map_some, List.map_cons, List.map_nil, List.getElem?_cons_zero, List.getElem?_cons_succ, ↓reduceIte, Nat.reduceEqDiff, reduceCtorEq, decide_eq_true_eq, decide_eq_false_iff_not, Option.map_none, Option.bind_some, List.contains_nil, List.contains_cons, Nat.reduceBEq, Bool.or_false, Bool.false_or, Bool.or_self, List.set_cons_zero, List.set_cons_succ, List.take_succ_cons, List.take_zero, List.drop_succ_cons, List.drop_zero, List.length_cons, List.length_nil, List.length_append, Nat.reduceAdd, Nat.reduceLeDiff, List.all_cons, List.all_nil, Bool.and_true, and_true, true_and, and_self, ne_eq, not_false_eq_true, List.cons_append, List.nil_append, List.append_nil, List.append_assoc, Nat.zero_add, Nat.add_zero, Int.toNat_natCast, RS]
  | true =>
    rw [if_pos rfl]
    simp (disch := first | assumption | omega | rfl | simp only [hAt_app, hAt_app0, List.getElem?_cons_zero, List.getElem?_cons_succ]) only [↓RP, RG, FX, decide_eq_true, decide_eq_false, Bool.not_true, Bool.not_false, Option.map_some, List.map_cons, List.map_nil, List.getElem?_cons_zero, List.getElem?_cons_succ, ↓reduceIte, Nat.reduceEqDiff, reduceCtorEq, decide_eq_true_eq, decide_eq_false_iff_not, Option.map_none, Option.bind_some, List.contains_nil, List.contains_cons, Nat.reduceBEq, Bool.or_false, Bool.false_or, Bool.or_self, List.set_cons_zero, List.set_cons_succ, List.take_succ_cons, List.take_zero, List.drop_succ_cons, List.drop_zero, List.length_cons, List.length_nil, List.length_append, Nat.reduceAdd, Nat.reduceLeDiff, List.all_cons, List.all_nil, Bool.and_true, and_true, true_and, and_self, ne_eq, not_false_eq_true, List.cons_append, List.nil_append, List.append_nil, List.append_assoc, Nat.zero_add, Nat.add_zero, Int.toNat_natCast]
    rw [resVal_1 rfl]; simp (disch := first | assumption | omega | rfl | simp only [hAt_app, hAt_app0, List.getElem?_cons_zero, List.getElem?_cons_succ]) only [↓RP, RG, FX, decide_eq_true, decide_eq_false, Bool.not_true, Bool.not_false, Option.map_some, List.map_cons, List.map_nil, List.getElem?_cons_zero, List.getElem?_cons_succ, ↓reduceIte, Nat.reduceEqDiff, reduceCtorEq, decide_eq_true_eq, decide_eq_false_iff_not, Option.map_none, Option.bind_some, List.contains_nil, List.contains_cons, Nat.reduceBEq, Bool.or_false, Bool.false_or, Bool.or_self, List.set_cons_zero, List.set_cons_succ, List.take_succ_cons, List.take_zero, List.drop_succ_cons, List.drop_zero, List.length_cons, List.length_nil, List.length_append, Nat.reduceAdd, Nat.reduceLeDiff, List.all_cons, List.all_nil, Bool.and_true, and_true, true_and, and_self, ne_eq, not_false_eq_true, List.cons_append, List.nil_append, List.append_nil, List.append_assoc, Nat.zero_add, Nat.add_zero, Int.toNat_natCast, RS]
/-- All of them are sets of shafts. -/
def inR (s : Nat) (l : List Int) : Prop := ∀ i, i < l.length → 0 ≤ l.getD i 0 ∧ l.getD i 0 < ((2 ^ s : Nat) : Int)
theorem sets_c {s : Nat} (hs : s ≤ 4) (b : Bool) (l : List Int) (hl : l.length ≤ 1000000) (r : Bool) (hr : r = true ↔ inR s l) : Contract Tryd.prog 29 [I s, LA b l] (B r) := by
  have hC := someOut_c hs b l hl (!r) (by
    cases r with
    | true =>
      refine ⟨fun h => (by cases h), fun ⟨i, h1, h2⟩ => absurd (hr.1 rfl i h1) h2⟩
    | false =>
      refine ⟨fun _ => Classical.byContradiction fun hn => ?_, fun _ => rfl⟩
      have : inR s l := fun i hi => Classical.byContradiction fun h => hn ⟨i, hi, h⟩
      have := hr.2 this
      cases this)
  refine Contract.intro (effS [] false) 6 follows Tryd.func29 rfl rfl (by kernel_rfl) (Nat.le_of_ble_eq_true rfl) ?_
  simp (disch := first | assumption | omega | rfl | simp only [hAt_app, hAt_app0, List.getElem?_cons_zero, List.getElem?_cons_succ]) only [↓RP, RG, FX, decide_eq_true, decide_eq_false, Bool.not_true, Bool.not_false, Option.map_some, List.map_cons, List.map_nil, List.getElem?_cons_zero, List.getElem?_cons_succ, ↓reduceIte, Nat.reduceEqDiff, reduceCtorEq, decide_eq_true_eq, decide_eq_false_iff_not, Option.map_none, Option.bind_some, List.contains_nil, List.contains_cons, Nat.reduceBEq, Bool.or_false, Bool.false_or, Bool.or_self, List.set_cons_zero, List.set_cons_succ, List.take_succ_cons, List.take_zero, List.drop_succ_cons, List.drop_zero, List.length_cons, List.length_nil, List.length_append, Nat.reduceAdd, Nat.reduceLeDiff, List.all_cons, List.all_nil, Bool.and_true, and_true, true_and, and_self, ne_eq, not_false_eq_true, List.cons_append, List.nil_append, List.append_nil, List.append_assoc, Nat.zero_add, Nat.add_zero, Int.toNat_natCast, args0_2]
  refine callK_F 6 hC (by simp (disch := omega) only [↓RP, RG, FX, decide_eq_true, decide_eq_false, Bool.not_true, Bool.not_false, Option.map_some, List.map_cons, List.map_nil, List.getElem?_cons_zero, List.getElem?_cons_succ, ↓reduceIte, Nat.reduceEqDiff, reduceCtorEq, decide_eq_true_eq, decide_eq_false_iff_not, Option.map_none, Option.bind_some, List.contains_nil, List.contains_cons, Nat.reduceBEq, Bool.or_false, Bool.false_or, Bool.or_self, List.set_cons_zero, List.set_cons_succ, List.take_succ_cons, List.take_zero, List.drop_succ_cons, List.drop_zero, List.length_cons, List.length_nil, List.length_append, Nat.reduceAdd, Nat.reduceLeDiff, List.all_cons, List.all_nil, Bool.and_true, and_true, true_and, and_self, ne_eq, not_false_eq_true, List.cons_append, List.nil_append, List.append_nil, List.append_assoc, Nat.zero_add, Nat.add_zero, Int.toNat_natCast, RA] <;> rfl) (.inl rfl) ?_
  simp (disch := first | assumption | omega | rfl | simp only [hAt_app, hAt_app0, List.getElem?_cons_zero, List.getElem?_cons_succ]) only [↓RP, RG, FX, decide_eq_true, decide_eq_false, Bool.not_true, Bool.not_false, Option.map_some, List.map_cons, List.map_nil, List.getElem?_cons_zero, List.getElem?_cons_succ, ↓reduceIte, Nat.reduceEqDiff, reduceCtorEq, decide_eq_true_eq, decide_eq_false_iff_not, Option.map_none, Option.bind_some, List.contains_nil, List.contains_cons, Nat.reduceBEq, Bool.or_false, Bool.false_or, Bool.or_self, List.set_cons_zero, List.set_cons_succ, List.take_succ_cons, List.take_zero, List.drop_succ_cons, List.drop_zero, List.length_cons, List.length_nil, List.length_append, Nat.reduceAdd, Nat.reduceLeDiff, List.all_cons, List.all_nil, Bool.and_true, and_true, true_and, and_self, ne_eq, not_false_eq_true, List.cons_append, List.nil_append, List.append_nil, List.append_assoc, Nat.zero_add, Nat.add_zero, Int.toNat_natCast]
  rw [resVal_1 rfl]; simp (disch := first | assumption | omega | rfl | simp only [hAt_app, hAt_app0, List.getElem?_cons_zero, List.getElem?_cons_succ]) only [↓RP, RG, FX, decide_eq_true, decide_eq_false, Bool.not_true, Bool.not_false, Option.map_some, List.map_cons, List.map_nil, List.getElem?_cons_zero, List.getElem?_cons_succ, ↓reduceIte, Nat.reduceEqDiff, reduceCtorEq, decide_eq_true_eq, decide_eq_false_iff_not, Option.map_none, Option.bind_some, List.contains_nil, List.contains_cons, Nat.reduceBEq, Bool.or_false, Bool.false_or, Bool.or_self, List.set_cons_zero, List.set_cons_succ, List.take_succ_cons, List.take_zero, List.drop_succ_cons, List.drop_zero, List.length_cons, List.length_nil, List.length_append, Nat.reduceAdd, Nat.reduceLeDiff, List.all_cons, List.all_nil, Bool.and_true, and_true, true_and, and_self, ne_eq, not_false_eq_true, List.cons_append, List.nil_append, List.append_nil, List.append_assoc, Nat.zero_add, Nat.add_zero, Int.toNat_natCast, RS]
  first | done | simp
/-- The family of the first k lifts. -/
def gK (l : List Nat) : Nat → Nat
  | 0 => 0
  | k + 1 => gK l k ||| 2 ^ (l.getD k 0)
theorem gK_bit (l : List Nat) : ∀ (k i : Nat), (gK l k).testBit i = true ↔ ∃ j, j < k ∧ l.getD j 0 = i
  | 0, i => by simp [gK]
  | k + 1, i => by
    simp only [gK]
    rw [Nat.testBit_or, Bool.or_eq_true, gK_bit l k i, Nat.testBit_two_pow, decide_eq_true_eq]
    constructor
    · rintro (⟨j, h1, h2⟩ | h)
      · exact ⟨j, by omega, h2⟩
      · exact ⟨k, by omega, h⟩
    · rintro ⟨j, h1, h2⟩
      by_cases e : j = k
      · subst e; exact .inr h2
      · exact .inl ⟨j, by omega, h2⟩
theorem p16 {x : Nat} (hx : x < 16) : 2 ^ x < 65536 := Nat.pow_lt_pow_right (show 1 < 2 by omega) hx
theorem gK_lt {l : List Nat} (hl : ∀ i, i < l.length → l.getD i 0 < 16) : ∀ k, k ≤ l.length → gK l k < 65536
  | 0, _ => by simp [gK]
  | k + 1, hk => Nat.or_lt_two_pow (n := 16) (gK_lt hl k (by omega)) (p16 (hl k (by omega)))
theorem gath_c (b : Bool) {l : List Nat} (hn : l.length ≤ 1000) (hl : ∀ i, i < l.length → l.getD i 0 < 16) : Contract Tryd.prog 33 [LA b (nI l)] (.val (.int .u16 ((gK l l.length : Nat) : Int))) := by
  have ll := nI_len l
  refine Contract.intro (effS [] false) 6 follows Tryd.func33 rfl rfl (by kernel_rfl) (Nat.le_of_ble_eq_true rfl) ?_
  simp (disch := first | assumption | omega | rfl | simp only [hAt_app, hAt_app0, List.getElem?_cons_zero, List.getElem?_cons_succ]) only [↓RP, RG, FX, decide_eq_true, decide_eq_false, Bool.not_true, Bool.not_false, Option.map_some, List.map_cons, List.map_nil, List.getElem?_cons_zero, List.getElem?_cons_succ, ↓reduceIte, Nat.reduceEqDiff, reduceCtorEq, decide_eq_true_eq, decide_eq_false_iff_not, Option.map_none, Option.bind_some, List.contains_nil, List.contains_cons, Nat.reduceBEq, Bool.or_false, Bool.false_or, Bool.or_self, List.set_cons_zero, List.set_cons_succ, List.take_succ_cons, List.take_zero, List.drop_succ_cons, List.drop_zero, List.length_cons, List.length_nil, List.length_append, Nat.reduceAdd, Nat.reduceLeDiff, List.all_cons, List.all_nil, Bool.and_true, and_true, true_and, and_self, ne_eq, not_false_eq_true, List.cons_append, List.nil_append, List.append_nil, List.append_assoc, Nat.zero_add, Nat.add_zero, Int.toNat_natCast, args0_1]
  refine loopK_I [3, 6, 7, 8] (fun k : Nat => k ≤ l.length) (fun k => ⟨[(3, .val (.int .u16 ((gK l k : Nat) : Int))), (6, LA b (nI l)), (7, I (nI l).length), (8, I k)], []⟩) (fun k => l.length - k) 0 (by omega) (by simp only [↓RP, RG, FX, decide_eq_true, decide_eq_false, Bool.not_true, Bool.not_false, Option.map_some, List.map_cons, List.map_nil, List.getElem?_cons_zero, List.getElem?_cons_succ, ↓reduceIte, Nat.reduceEqDiff, reduceCtorEq, decide_eq_true_eq, decide_eq_false_iff_not, Option.map_none, Option.bind_some, List.contains_nil, List.contains_cons, Nat.reduceBEq, Bool.or_false, Bool.false_or, Bool.or_self, List.set_cons_zero, List.set_cons_succ, List.take_succ_cons, List.take_zero, List.drop_succ_cons, List.drop_zero, List.length_cons, List.length_nil, List.length_append, Nat.reduceAdd, Nat.reduceLeDiff, List.all_cons, List.all_nil, Bool.and_true, and_true, true_and, and_self, ne_eq, not_false_eq_true, List.cons_append, List.nil_append, List.append_nil, List.append_assoc, Nat.zero_add, Nat.add_zero, Int.toNat_natCast]; rfl) ?_
  intro k hk
  have g1 := gK_lt hl k hk
  by_cases c : k < l.length
  · have hg := nI_get l k
    have g2 := hl k c
    have g3 := p16 g2
    have g4 : gK l (k + 1) = gK l k ||| 2 ^ (l.getD k 0) := rfl
    have s1 := shl16 g2
    have s2 := or16 g1 g3
    generalize l.getD k 0 = x at *
    simp (disch := first | assumption | omega | rfl | simp only [hAt_app, hAt_app0, List.getElem?_cons_zero, List.getElem?_cons_succ]) only [↓RP, RG, FX, decide_eq_true, decide_eq_false, Bool.not_true, Bool.not_false, Option.map_some, List.map_cons, List.map_nil, List.getElem?_cons_zero, List.getElem?_cons_succ, ↓reduceIte, Nat.reduceEqDiff, reduceCtorEq, decide_eq_true_eq, decide_eq_false_iff_not, Option.map_none, Option.bind_some, List.contains_nil, List.contains_cons, Nat.reduceBEq, Bool.or_false, Bool.false_or, Bool.or_self, List.set_cons_zero, List.set_cons_succ, List.take_succ_cons, List.take_zero, List.drop_succ_cons, List.drop_zero, List.length_cons, List.length_nil, List.length_append, Nat.reduceAdd, Nat.reduceLeDiff, List.all_cons, List.all_nil, Bool.and_true, and_true, true_and, and_self, ne_eq, not_false_eq_true, List.cons_append, List.nil_append, List.append_nil, List.append_assoc, Nat.zero_add, Nat.add_zero, Int.toNat_natCast, hg, aBin_shl, s1, s2]
    exact ⟨k + 1, c, by rw [g4]; rfl, by omega⟩
  · obtain rfl : k = l.length := by omega
    simp (disch := first | assumption | omega | rfl | simp only [hAt_app, hAt_app0, List.getElem?_cons_zero, List.getElem?_cons_succ]) only [↓RP, RG, FX, decide_eq_true, decide_eq_false, Bool.not_true, Bool.not_false, Option.map_some, List.map_cons, List.map_nil, List.getElem?_cons_zero, List.getElem?_cons_succ, ↓reduceIte, Nat.reduceEqDiff, reduceCtorEq, decide_eq_true_eq, decide_eq_false_iff_not, Option.map_none, Option.bind_some, List.contains_nil, List.contains_cons, Nat.reduceBEq, Bool.or_false, Bool.false_or, Bool.or_self, List.set_cons_zero, List.set_cons_succ, List.take_succ_cons, List.take_zero, List.drop_succ_cons, List.drop_zero, List.length_cons, List.length_nil, List.length_append, Nat.reduceAdd, Nat.reduceLeDiff, List.all_cons, List.all_nil, Bool.and_true, and_true, true_and, and_self, ne_eq, not_false_eq_true, List.cons_append, List.nil_append, List.append_nil, List.append_assoc, Nat.zero_add, Nat.add_zero, Int.toNat_natCast]
    rw [resVal_1 rfl]; simp (disch := first | assumption | omega | rfl | simp only [hAt_app, hAt_app0, List.getElem?_cons_zero, List.getElem?_cons_succ]) only [↓RP, RG, FX, decide_eq_true, decide_eq_false, Bool.not_true, Bool.not_false, Option.map_some, List.map_cons, List.map_nil, List.getElem?_cons_zero, List.getElem?_cons_succ, ↓reduceIte, Nat.reduceEqDiff, reduceCtorEq, decide_eq_true_eq, decide_eq_false_iff_not, Option.map_none, Option.bind_some, List.contains_nil, List.contains_cons, Nat.reduceBEq, Bool.or_false, Bool.false_or, Bool.or_self, List.set_cons_zero, List.set_cons_succ, List.take_succ_cons, List.take_zero, List.drop_succ_cons, List.drop_zero, List.length_cons, List.length_nil, List.length_append, Nat.reduceAdd, Nat.reduceLeDiff, List.all_cons, List.all_nil, Bool.and_true, and_true, true_and, and_self, ne_eq, not_false_eq_true, List.cons_append, List.nil_append, List.append_nil, List.append_assoc, Nat.zero_add, Nat.add_zero, Int.toNat_natCast, RS]
theorem numbers_c {f : Nat} (hf : f < 65536) : Contract Tryd.prog 45 [.val (.int .u16 (f : Int))] (LR (nI (bitsL f)).isEmpty (nI (bitsL f))) := by
  refine Contract.intro (effS [] false) 6 follows Tryd.func45 rfl rfl (by kernel_rfl) (Nat.le_of_ble_eq_true rfl) ?_
  simp (disch := first | assumption | omega | rfl | simp only [hAt_app, hAt_app0, List.getElem?_cons_zero, List.getElem?_cons_succ]) only [↓RP, RG, FX, decide_eq_true, decide_eq_false, Bool.not_true, Bool.not_false, Option.map_some, List.map_cons, List.map_nil, List.getElem?_cons_zero, List.getElem?_cons_succ, ↓reduceIte, Nat.reduceEqDiff, reduceCtorEq, decide_eq_true_eq, decide_eq_false_iff_not, Option.map_none, Option.bind_some, List.contains_nil, List.contains_cons, Nat.reduceBEq, Bool.or_false, Bool.false_or, Bool.or_self, List.set_cons_zero, List.set_cons_succ, List.take_succ_cons, List.take_zero, List.drop_succ_cons, List.drop_zero, List.length_cons, List.length_nil, List.length_append, Nat.reduceAdd, Nat.reduceLeDiff, List.all_cons, List.all_nil, Bool.and_true, and_true, true_and, and_self, ne_eq, not_false_eq_true, List.cons_append, List.nil_append, List.append_nil, List.append_assoc, Nat.zero_add, Nat.add_zero, Int.toNat_natCast, args0_1]
  refine loopK_W [0, 3] (fun s : Nat × List Nat => s.1 < 65536 ∧ s.2.length ≤ 16 ∧ bitsL f = s.2 ++ bitsL s.1) (fun s => ⟨[(0, .val (.int .u16 (s.1 : Int))), (3, gw true 0 (ints (nI s.2)))], [go 3 (ints (nI s.2))]⟩) (fun s => s.1) (f, []) ⟨hf, by simp, rfl⟩ (by
    simp only [↓RP, RG, FX, decide_eq_true, decide_eq_false, Bool.not_true, Bool.not_false, Option.map_some, List.map_cons, List.map_nil, List.getElem?_cons_zero, List.getElem?_cons_succ, ↓reduceIte, Nat.reduceEqDiff, reduceCtorEq, decide_eq_true_eq, decide_eq_false_iff_not, Option.map_none, Option.bind_some, List.contains_nil, List.contains_cons, Nat.reduceBEq, Bool.or_false, Bool.false_or, Bool.or_self, List.set_cons_zero, List.set_cons_succ, List.take_succ_cons, List.take_zero, List.drop_succ_cons, List.drop_zero, List.length_cons, List.length_nil, List.length_append, Nat.reduceAdd, Nat.reduceLeDiff, List.all_cons, List.all_nil, Bool.and_true, and_true, true_and, and_self, ne_eq, not_false_eq_true, List.cons_append, List.nil_append, List.append_nil, List.append_assoc, Nat.zero_add, Nat.add_zero, Int.toNat_natCast]
    exact Wk.weak (WE.cons _ (.refl _) (WE.cons _ (.nil _) WE.nil)) (.nil _ (by simp [go, ints, nI]))) ?_
  rintro ⟨g, out⟩ ⟨h1, h2, h3⟩
  simp only at h1 h2 h3 ⊢
  have ho := nI_len out
  by_cases c : g = 0
  · subst c
    rw [bitsL_zero, List.append_nil] at h3
    rw [h3]
    simp (disch := first | assumption | omega | rfl | simp only [hAt_app, hAt_app0, List.getElem?_cons_zero, List.getElem?_cons_succ]) only [↓RP, RG, FX, decide_eq_true, decide_eq_false, Bool.not_true, Bool.not_false, Option.map_some, List.map_cons, List.map_nil, List.getElem?_cons_zero, List.getElem?_cons_succ, ↓reduceIte, Nat.reduceEqDiff, reduceCtorEq, decide_eq_true_eq, decide_eq_false_iff_not, Option.map_none, Option.bind_some, List.contains_nil, List.contains_cons, Nat.reduceBEq, Bool.or_false, Bool.false_or, Bool.or_self, List.set_cons_zero, List.set_cons_succ, List.take_succ_cons, List.take_zero, List.drop_succ_cons, List.drop_zero, List.length_cons, List.length_nil, List.length_append, Nat.reduceAdd, Nat.reduceLeDiff, List.all_cons, List.all_nil, Bool.and_true, and_true, true_and, and_self, ne_eq, not_false_eq_true, List.cons_append, List.nil_append, List.append_nil, List.append_assoc, Nat.zero_add, Nat.add_zero, Int.toNat_natCast]
    rw [resVal_1 rfl]; simp (disch := first | assumption | omega | rfl | simp only [hAt_app, hAt_app0, List.getElem?_cons_zero, List.getElem?_cons_succ]) only [↓RP, RG, FX, decide_eq_true, decide_eq_false, Bool.not_true, Bool.not_false, Option.map_some, List.map_cons, List.map_nil, List.getElem?_cons_zero, List.getElem?_cons_succ, ↓reduceIte, Nat.reduceEqDiff, reduceCtorEq, decide_eq_true_eq, decide_eq_false_iff_not, Option.map_none, Option.bind_some, List.contains_nil, List.contains_cons, Nat.reduceBEq, Bool.or_false, Bool.false_or, Bool.or_self, List.set_cons_zero, List.set_cons_succ, List.take_succ_cons, List.take_zero, List.drop_succ_cons, List.drop_zero, List.length_cons, List.length_nil, List.length_append, Nat.reduceAdd, Nat.reduceLeDiff, List.all_cons, List.all_nil, Bool.and_true, and_true, true_and, and_self, ne_eq, not_false_eq_true, List.cons_append, List.nil_append, List.append_nil, List.append_assoc, Nat.zero_add, Nat.add_zero, Int.toNat_natCast, RS]
    simp only [Bool.true_and, ints_isEmpty]
  · obtain ⟨z, z1, z2, z3⟩ := bitsL_step (show 0 < g by omega) h1
    have hT := tz_c g (by omega) h1 z3 z1
    have hlen : (bitsL f).length ≤ 16 := by unfold bitsL; exact Nat.le_trans (List.length_filter_le _ _) (by simp)
    have hl2 : out.length < 16 := by
      have := congrArg List.length h3
      rw [z2, List.length_append, List.length_cons] at this; omega
    have s0 : IntKind.u16.wrap ((g : Int) - 1) = ((g - 1 : Nat) : Int) := by
      rw [show (g : Int) - 1 = ((g - 1 : Nat) : Int) by omega]; exact wr16 (by omega)
    have s1 := and16 (x := g) (y := g - 1) h1 (by omega)
    have hlt : g &&& (g - 1) < g := Nat.lt_of_le_of_lt Nat.and_le_right (by omega)
    simp (disch := first | assumption | omega | rfl | simp only [hAt_app, hAt_app0, List.getElem?_cons_zero, List.getElem?_cons_succ]) only [↓RP, RG, FX, decide_eq_true, decide_eq_false, Bool.not_true, Bool.not_false, Option.map_some, List.map_cons, List.map_nil, List.getElem?_cons_zero, List.getElem?_cons_succ, ↓reduceIte, Nat.reduceEqDiff, reduceCtorEq, decide_eq_true_eq, decide_eq_false_iff_not, Option.map_none, Option.bind_some, List.contains_nil, List.contains_cons, Nat.reduceBEq, Bool.or_false, Bool.false_or, Bool.or_self, List.set_cons_zero, List.set_cons_succ, List.take_succ_cons, List.take_zero, List.drop_succ_cons, List.drop_zero, List.length_cons, List.length_nil, List.length_append, Nat.reduceAdd, Nat.reduceLeDiff, List.all_cons, List.all_nil, Bool.and_true, and_true, true_and, and_self, ne_eq, not_false_eq_true, List.cons_append, List.nil_append, List.append_nil, List.append_assoc, Nat.zero_add, Nat.add_zero, Int.toNat_natCast]
    refine callK_F 6 (hT) (by simp (disch := first | assumption | omega | rfl | simp only [hAt_app, hAt_app0, List.getElem?_cons_zero, List.getElem?_cons_succ]) only [↓RP, RG, FX, decide_eq_true, decide_eq_false, Bool.not_true, Bool.not_false, Option.map_some, List.map_cons, List.map_nil, List.getElem?_cons_zero, List.getElem?_cons_succ, ↓reduceIte, Nat.reduceEqDiff, reduceCtorEq, decide_eq_true_eq, decide_eq_false_iff_not, Option.map_none, Option.bind_some, List.contains_nil, List.contains_cons, Nat.reduceBEq, Bool.or_false, Bool.false_or, Bool.or_self, List.set_cons_zero, List.set_cons_succ, List.take_succ_cons, List.take_zero, List.drop_succ_cons, List.drop_zero, List.length_cons, List.length_nil, List.length_append, Nat.reduceAdd, Nat.reduceLeDiff, List.all_cons, List.all_nil, Bool.and_true, and_true, true_and, and_self, ne_eq, not_false_eq_true, List.cons_append, List.nil_append, List.append_nil, List.append_assoc, Nat.zero_add, Nat.add_zero, Int.toNat_natCast, RA] <;> rfl) (.inl (by simp [allFresh, ints_fresh, bools_fresh])) ?_
    simp (disch := first | assumption | omega | rfl | simp only [hAt_app, hAt_app0, List.getElem?_cons_zero, List.getElem?_cons_succ]) only [↓RP, RG, FX, decide_eq_true, decide_eq_false, Bool.not_true, Bool.not_false, Option.map_some, List.map_cons, List.map_nil, List.getElem?_cons_zero, List.getElem?_cons_succ, ↓reduceIte, Nat.reduceEqDiff, reduceCtorEq, decide_eq_true_eq, decide_eq_false_iff_not, Option.map_none, Option.bind_some, List.contains_nil, List.contains_cons, Nat.reduceBEq, Bool.or_false, Bool.false_or, Bool.or_self, List.set_cons_zero, List.set_cons_succ, List.take_succ_cons, List.take_zero, List.drop_succ_cons, List.drop_zero, List.length_cons, List.length_nil, List.length_append, Nat.reduceAdd, Nat.reduceLeDiff, List.all_cons, List.all_nil, Bool.and_true, and_true, true_and, and_self, ne_eq, not_false_eq_true, List.cons_append, List.nil_append, List.append_nil, List.append_assoc, Nat.zero_add, Nat.add_zero, Int.toNat_natCast, append_int, s0, s1]
    refine ⟨(g &&& (g - 1), out ++ [z]), ⟨Nat.lt_trans hlt h1, by rw [List.length_append, List.length_singleton]; exact hl2, ?_⟩, by rw [nI_app], hlt⟩
    rw [h3, z2]; simp
end Go.Proofs.YtlckfakifamjiaaDoor

/- What a tie-up covers, by the program. -/
set_option linter.unusedSimpArgs false
set_option linter.unusedVariables false
set_option maxRecDepth 100000
namespace Go.Proofs.YtlckfakifamjiaaDoor
open Go Go.Proofs Go.AW

theorem bit_mod (n x : Nat) : n.testBit x = decide (n / 2 ^ x % 2 = 1) := Nat.testBit_eq_decide_div_mod_eq
theorem covers_c (b : Bool) {tie : List Nat} (hn : tie.length ≤ 1000) (ht : ∀ i, i < tie.length → tie.getD i 0 < 16) {want : Nat} (hw : want < 65536) {feet : Nat} (hf : feet ≤ 4) (r : Bool) (hr : r = true ↔ ∀ i, want.testBit i = true → Rk tie feet i) :
    Contract Tryd.prog 32 [LA b (nI tie), .val (.int .u16 (want : Int)), I feet] (B r) := by
  have lt := nI_len tie
  have hmem : ∀ t, t ∈ tie ↔ ∃ j, j < tie.length ∧ tie.getD j 0 = t := fun t => by
    rw [List.mem_iff_getElem]
    constructor
    · rintro ⟨i, hi, h⟩; exact ⟨i, hi, by rw [List.getD_eq_getElem?_getD, List.getElem?_eq_getElem hi]; exact h⟩
    · rintro ⟨i, hi, h⟩; exact ⟨i, hi, by rw [List.getD_eq_getElem?_getD, List.getElem?_eq_getElem hi] at h; exact h⟩
  refine Contract.intro (effS [] false) 6 follows Tryd.func32 rfl rfl (by kernel_rfl) (Nat.le_of_ble_eq_true rfl) ?_
  simp (disch := first | assumption | omega | rfl | simp only [hAt_app, hAt_app0, List.getElem?_cons_zero, List.getElem?_cons_succ]) only [↓RP, RG, FX, decide_eq_true, decide_eq_false, Bool.not_true, Bool.not_false, Option.map_some, List.map_cons, List.map_nil, List.getElem?_cons_zero, List.getElem?_cons_succ, ↓reduceIte, Nat.reduceEqDiff, reduceCtorEq, decide_eq_true_eq, decide_eq_false_iff_not, Option.map_none, Option.bind_some, List.contains_nil, List.contains_cons, Nat.reduceBEq, Bool.or_false, Bool.false_or, Bool.or_self, List.set_cons_zero, List.set_cons_succ, List.take_succ_cons, List.take_zero, List.drop_succ_cons, List.drop_zero, List.length_cons, List.length_nil, List.length_append, Nat.reduceAdd, Nat.reduceLeDiff, List.all_cons, List.all_nil, Bool.and_true, and_true, true_and, and_self, ne_eq, not_false_eq_true, List.cons_append, List.nil_append, List.append_nil, List.append_assoc, Nat.zero_add, Nat.add_zero, Int.toNat_natCast, args0_3]
  refine loopK_I [0, 1, 7, 12, 13] (fun s : Nat × Nat => s.1 ≤ feet ∧ s.2 < 65536 ∧ ∀ i, s.2.testBit i = true ↔ Rk tie s.1 i) (fun s => ⟨[(0, LA b (nI tie)), (1, .val (.int .u16 (want : Int))), (7, .val (.int .u16 (s.2 : Int))), (12, I feet), (13, I s.1)], []⟩) (fun s => feet - s.1) (0, 1) ⟨by simp only; omega, by simp only; omega, fun i => by
    simp only [Rk]
    rw [show (1 : Nat) = 2 ^ 0 from rfl, Nat.testBit_two_pow, decide_eq_true_eq]
    exact eq_comm⟩ (by simp only [↓RP, RG, FX, decide_eq_true, decide_eq_false, Bool.not_true, Bool.not_false, Option.map_some, List.map_cons, List.map_nil, List.getElem?_cons_zero, List.getElem?_cons_succ, ↓reduceIte, Nat.reduceEqDiff, reduceCtorEq, decide_eq_true_eq, decide_eq_false_iff_not, Option.map_none, Option.bind_some, List.contains_nil, List.contains_cons, Nat.reduceBEq, Bool.or_false, Bool.false_or, Bool.or_self, List.set_cons_zero, List.set_cons_succ, List.take_succ_cons, List.take_zero, List.drop_succ_cons, List.drop_zero, List.length_cons, List.length_nil, List.length_append, Nat.reduceAdd, Nat.reduceLeDiff, List.all_cons, List.all_nil, Bool.and_true, and_true, true_and, and_self, ne_eq, not_false_eq_true, List.cons_append, List.nil_append, List.append_nil, List.append_assoc, Nat.zero_add, Nat.add_zero, Int.toNat_natCast]; rfl) ?_
  rintro ⟨k, now⟩ ⟨h1, h2, h3⟩
  simp only at h1 h2 h3 ⊢
  by_cases hk : k < feet
  · simp (disch := first | assumption | omega | rfl | simp only [hAt_app, hAt_app0, List.getElem?_cons_zero, List.getElem?_cons_succ]) only [↓RP, RG, FX, decide_eq_true, decide_eq_false, Bool.not_true, Bool.not_false, Option.map_some, List.map_cons, List.map_nil, List.getElem?_cons_zero, List.getElem?_cons_succ, ↓reduceIte, Nat.reduceEqDiff, reduceCtorEq, decide_eq_true_eq, decide_eq_false_iff_not, Option.map_none, Option.bind_some, List.contains_nil, List.contains_cons, Nat.reduceBEq, Bool.or_false, Bool.false_or, Bool.or_self, List.set_cons_zero, List.set_cons_succ, List.take_succ_cons, List.take_zero, List.drop_succ_cons, List.drop_zero, List.length_cons, List.length_nil, List.length_append, Nat.reduceAdd, Nat.reduceLeDiff, List.all_cons, List.all_nil, Bool.and_true, and_true, true_and, and_self, ne_eq, not_false_eq_true, List.cons_append, List.nil_append, List.append_nil, List.append_assoc, Nat.zero_add, Nat.add_zero, Int.toNat_natCast]
    refine loopK_I [0, 1, 7, 8, 12, 13, 16] (fun s : Nat × Nat => s.1 ≤ 16 ∧ s.2 < 65536 ∧ ∀ i, s.2.testBit i = true ↔ now.testBit i = true ∨ ∃ x, x < s.1 ∧ now.testBit x = true ∧ ∃ t ∈ tie, i = x ||| t) (fun s => ⟨[(0, LA b (nI tie)), (1, .val (.int .u16 (want : Int))), (7, .val (.int .u16 (now : Int))), (8, .val (.int .u16 (s.2 : Int))), (12, I feet), (13, I k), (16, I s.1)], []⟩) (fun s => 16 - s.1) (0, now) ⟨by simp only; omega, h2, fun i => ⟨.inl, fun h => by
      rcases h with h | ⟨x, hx, _⟩
      · exact h
      · simp only at hx; omega⟩⟩ (by simp only [↓RP, RG, FX, decide_eq_true, decide_eq_false, Bool.not_true, Bool.not_false, Option.map_some, List.map_cons, List.map_nil, List.getElem?_cons_zero, List.getElem?_cons_succ, ↓reduceIte, Nat.reduceEqDiff, reduceCtorEq, decide_eq_true_eq, decide_eq_false_iff_not, Option.map_none, Option.bind_some, List.contains_nil, List.contains_cons, Nat.reduceBEq, Bool.or_false, Bool.false_or, Bool.or_self, List.set_cons_zero, List.set_cons_succ, List.take_succ_cons, List.take_zero, List.drop_succ_cons, List.drop_zero, List.length_cons, List.length_nil, List.length_append, Nat.reduceAdd, Nat.reduceLeDiff, List.all_cons, List.all_nil, Bool.and_true, and_true, true_and, and_self, ne_eq, not_false_eq_true, List.cons_append, List.nil_append, List.append_nil, List.append_assoc, Nat.zero_add, Nat.add_zero, Int.toNat_natCast]; rfl) ?_
    rintro ⟨x, nx⟩ ⟨g1, g2, g3⟩
    simp only at g1 g2 g3 ⊢
    by_cases hx : x < 16
    · have hdv : now / 2 ^ x < 65536 := Nat.lt_of_le_of_lt (Nat.div_le_self _ _) h2
      have hbm := bit_mod now x
      have s1 := shr16 (x := now) (n := x) (by omega)
      generalize hq : now / 2 ^ x = q at *
      by_cases hb : q % 2 = 0
      · have hbf : now.testBit x = false := by rw [hbm]; exact decide_eq_false (by omega)
        simp (disch := first | assumption | omega | rfl | simp only [hAt_app, hAt_app0, List.getElem?_cons_zero, List.getElem?_cons_succ]) only [↓RP, RG, FX, decide_eq_true, decide_eq_false, Bool.not_true, Bool.not_false, Option.map_some, List.map_cons, List.map_nil, List.getElem?_cons_zero, List.getElem?_cons_succ, ↓reduceIte, Nat.reduceEqDiff, reduceCtorEq, decide_eq_true_eq, decide_eq_false_iff_not, Option.map_none, Option.bind_some, List.contains_nil, List.contains_cons, Nat.reduceBEq, Bool.or_false, Bool.false_or, Bool.or_self, List.set_cons_zero, List.set_cons_succ, List.take_succ_cons, List.take_zero, List.drop_succ_cons, List.drop_zero, List.length_cons, List.length_nil, List.length_append, Nat.reduceAdd, Nat.reduceLeDiff, List.all_cons, List.all_nil, Bool.and_true, and_true, true_and, and_self, ne_eq, not_false_eq_true, List.cons_append, List.nil_append, List.append_nil, List.append_assoc, Nat.zero_add, Nat.add_zero, Int.toNat_natCast, aBin_shr, s1, and16_1]
        refine ⟨(x + 1, nx), ⟨hx, g2, fun i => (g3 i).trans (or_congr_right ⟨fun ⟨y, y1, y2⟩ => ⟨y, by simp only; omega, y2⟩, fun ⟨y, y1, y2, y3⟩ => ⟨y, ?_, y2, y3⟩⟩)⟩, rfl, by simp only; omega⟩
        simp only at y1
        by_cases e : y = x
        · subst e; rw [hbf] at y2; cases y2
        · omega
      · have hbt : now.testBit x = true := by rw [hbm]; exact decide_eq_true (by omega)
        simp (disch := first | assumption | omega | rfl | simp only [hAt_app, hAt_app0, List.getElem?_cons_zero, List.getElem?_cons_succ]) only [↓RP, RG, FX, decide_eq_true, decide_eq_false, Bool.not_true, Bool.not_false, Option.map_some, List.map_cons, List.map_nil, List.getElem?_cons_zero, List.getElem?_cons_succ, ↓reduceIte, Nat.reduceEqDiff, reduceCtorEq, decide_eq_true_eq, decide_eq_false_iff_not, Option.map_none, Option.bind_some, List.contains_nil, List.contains_cons, Nat.reduceBEq, Bool.or_false, Bool.false_or, Bool.or_self, List.set_cons_zero, List.set_cons_succ, List.take_succ_cons, List.take_zero, List.drop_succ_cons, List.drop_zero, List.length_cons, List.length_nil, List.length_append, Nat.reduceAdd, Nat.reduceLeDiff, List.all_cons, List.all_nil, Bool.and_true, and_true, true_and, and_self, ne_eq, not_false_eq_true, List.cons_append, List.nil_append, List.append_nil, List.append_assoc, Nat.zero_add, Nat.add_zero, Int.toNat_natCast, aBin_shr, s1, and16_1]
        refine loopK_I [0, 1, 7, 8, 9, 12, 13, 16, 24, 25, 26] (fun s : Nat × Nat => s.1 ≤ tie.length ∧ s.2 < 65536 ∧ ∀ i, s.2.testBit i = true ↔ nx.testBit i = true ∨ ∃ j, j < s.1 ∧ i = x ||| tie.getD j 0) (fun s => ⟨[(0, LA b (nI tie)), (1, .val (.int .u16 (want : Int))), (7, .val (.int .u16 (now : Int))), (8, .val (.int .u16 (s.2 : Int))), (9, I x), (12, I feet), (13, I k), (16, I x), (24, LA b (nI tie)), (25, I (nI tie).length), (26, I s.1)], []⟩) (fun s => tie.length - s.1) (0, nx) ⟨by simp only; omega, g2, fun i => ⟨.inl, fun h => by
          rcases h with h | ⟨j, hj, _⟩
          · exact h
          · simp only at hj; omega⟩⟩ (by simp only [↓RP, RG, FX, decide_eq_true, decide_eq_false, Bool.not_true, Bool.not_false, Option.map_some, List.map_cons, List.map_nil, List.getElem?_cons_zero, List.getElem?_cons_succ, ↓reduceIte, Nat.reduceEqDiff, reduceCtorEq, decide_eq_true_eq, decide_eq_false_iff_not, Option.map_none, Option.bind_some, List.contains_nil, List.contains_cons, Nat.reduceBEq, Bool.or_false, Bool.false_or, Bool.or_self, List.set_cons_zero, List.set_cons_succ, List.take_succ_cons, List.take_zero, List.drop_succ_cons, List.drop_zero, List.length_cons, List.length_nil, List.length_append, Nat.reduceAdd, Nat.reduceLeDiff, List.all_cons, List.all_nil, Bool.and_true, and_true, true_and, and_self, ne_eq, not_false_eq_true, List.cons_append, List.nil_append, List.append_nil, List.append_assoc, Nat.zero_add, Nat.add_zero, Int.toNat_natCast]; rfl) ?_
        rintro ⟨j, ny⟩ ⟨f1, f2, f3⟩
        simp only at f1 f2 f3 ⊢
        by_cases hj : j < tie.length
        · have hg := nI_get tie j
          have htj := ht j hj
          have hor : x ||| tie.getD j 0 < 16 := Nat.or_lt_two_pow (n := 4) hx htj
          have hp := p16 hor
          have hny : ny ||| 2 ^ (x ||| tie.getD j 0) < 65536 := Nat.or_lt_two_pow (n := 16) f2 hp
          have s2 := or64 hx htj
          have s3 := shl16 hor
          have s4 := or16 f2 hp
          have f4 : ∀ i, (ny ||| 2 ^ (x ||| tie.getD j 0)).testBit i = true ↔ nx.testBit i = true ∨ ∃ j', j' < j + 1 ∧ i = x ||| tie.getD j' 0 := fun i => by
            rw [Nat.testBit_or, Bool.or_eq_true, f3 i, Nat.testBit_two_pow, decide_eq_true_eq]
            constructor
            · rintro ((h | ⟨j', e1, e2⟩) | h)
              · exact .inl h
              · exact .inr ⟨j', by omega, e2⟩
              · exact .inr ⟨j, by omega, h.symm⟩
            · rintro (h | ⟨j', e1, e2⟩)
              · exact .inl (.inl h)
              · by_cases e : j' = j
                · subst e; exact .inr e2.symm
                · exact .inl (.inr ⟨j', by omega, e2⟩)
          generalize ny ||| 2 ^ (x ||| tie.getD j 0) = nz at *
          generalize hP : 2 ^ (x ||| tie.getD j 0) = P at *
          generalize hO : x ||| tie.getD j 0 = O at *
          generalize tie.getD j 0 = tj at *
          simp (disch := first | assumption | omega | rfl | simp only [hAt_app, hAt_app0, List.getElem?_cons_zero, List.getElem?_cons_succ]) only [↓RP, RG, FX, decide_eq_true, decide_eq_false, Bool.not_true, Bool.not_false, Option.map_some, List.map_cons, List.map_nil, List.getElem?_cons_zero, List.getElem?_cons_succ, ↓reduceIte, Nat.reduceEqDiff, reduceCtorEq, decide_eq_true_eq, decide_eq_false_iff_not, Option.map_none, Option.bind_some, List.contains_nil, List.contains_cons, Nat.reduceBEq, Bool.or_false, Bool.false_or, Bool.or_self, List.set_cons_zero, List.set_cons_succ, List.take_succ_cons, List.take_zero, List.drop_succ_cons, List.drop_zero, List.length_cons, List.length_nil, List.length_append, Nat.reduceAdd, Nat.reduceLeDiff, List.all_cons, List.all_nil, Bool.and_true, and_true, true_and, and_self, ne_eq, not_false_eq_true, List.cons_append, List.nil_append, List.append_nil, List.append_assoc, Nat.zero_add, Nat.add_zero, Int.toNat_natCast, hg, aBin_shl, s2, s3, s4]
          exact ⟨(j + 1, nz), ⟨hj, hny, f4⟩, rfl, by simp only; omega⟩
        · obtain rfl : j = tie.length := by omega
          simp (disch := first | assumption | omega | rfl | simp only [hAt_app, hAt_app0, List.getElem?_cons_zero, List.getElem?_cons_succ]) only [↓RP, RG, FX, decide_eq_true, decide_eq_false, Bool.not_true, Bool.not_false, Option.map_some, List.map_cons, List.map_nil, List.getElem?_cons_zero, List.getElem?_cons_succ, ↓reduceIte, Nat.reduceEqDiff, reduceCtorEq, decide_eq_true_eq, decide_eq_false_iff_not, Option.map_none, Option.bind_some, List.contains_nil, List.contains_cons, Nat.reduceBEq, Bool.or_false, Bool.false_or, Bool.or_self, List.set_cons_zero, List.set_cons_succ, List.take_succ_cons, List.take_zero, List.drop_succ_cons, List.drop_zero, List.length_cons, List.length_nil, List.length_append, Nat.reduceAdd, Nat.reduceLeDiff, List.all_cons, List.all_nil, Bool.and_true, and_true, true_and, and_self, ne_eq, not_false_eq_true, List.cons_append, List.nil_append, List.append_nil, List.append_assoc, Nat.zero_add, Nat.add_zero, Int.toNat_natCast]
          refine ⟨(x + 1, ny), ⟨hx, f2, fun i => (f3 i).trans ?_⟩, rfl, by simp only; omega⟩
          rw [g3 i]
          simp only
          constructor
          · rintro ((h | ⟨y, y1, y2, y3⟩) | ⟨j', e1, e2⟩)
            · exact .inl h
            · exact .inr ⟨y, by omega, y2, y3⟩
            · exact .inr ⟨x, by omega, hbt, _, (hmem _).2 ⟨j', e1, rfl⟩, e2⟩
          · rintro (h | ⟨y, y1, y2, t, y3, y4⟩)
            · exact .inl (.inl h)
            · by_cases e : y = x
              · subst e
                obtain ⟨j', e1, e2⟩ := (hmem t).1 y3
                exact .inr ⟨j', e1, by rw [e2]; exact y4⟩
              · exact .inl (.inr ⟨y, by omega, y2, t, y3, y4⟩)
    · obtain rfl : x = 16 := by omega
      simp (disch := first | assumption | omega | rfl | simp only [hAt_app, hAt_app0, List.getElem?_cons_zero, List.getElem?_cons_succ]) only [↓RP, RG, FX, decide_eq_true, decide_eq_false, Bool.not_true, Bool.not_false, Option.map_some, List.map_cons, List.map_nil, List.getElem?_cons_zero, List.getElem?_cons_succ, ↓reduceIte, Nat.reduceEqDiff, reduceCtorEq, decide_eq_true_eq, decide_eq_false_iff_not, Option.map_none, Option.bind_some, List.contains_nil, List.contains_cons, Nat.reduceBEq, Bool.or_false, Bool.false_or, Bool.or_self, List.set_cons_zero, List.set_cons_succ, List.take_succ_cons, List.take_zero, List.drop_succ_cons, List.drop_zero, List.length_cons, List.length_nil, List.length_append, Nat.reduceAdd, Nat.reduceLeDiff, List.all_cons, List.all_nil, Bool.and_true, and_true, true_and, and_self, ne_eq, not_false_eq_true, List.cons_append, List.nil_append, List.append_nil, List.append_assoc, Nat.zero_add, Nat.add_zero, Int.toNat_natCast]
      refine ⟨(k + 1, nx), ⟨hk, g2, fun i => (g3 i).trans ?_⟩, rfl, by simp only; omega⟩
      simp only [Rk]
      refine or_congr (h3 i) ⟨fun ⟨y, y1, y2, y3⟩ => ⟨y, (h3 y).1 y2, y3⟩, fun ⟨y, y2, y3⟩ => ⟨y, ?_, (h3 y).2 y2, y3⟩⟩
      have := (h3 y).2 y2
      exact Nat.lt_of_not_le fun hle => by
        rw [Nat.testBit_lt_two_pow (Nat.lt_of_lt_of_le (show now < 2 ^ 16 from h2) (Nat.pow_le_pow_right (by omega) hle))] at this
        cases this
  · obtain rfl : k = feet := by omega
    have hz := andn_zero (x := want) (y := now) hw
    have hr2 : r = true ↔ andn want now = 0 := hr.trans (by rw [hz]; exact forall_congr' fun i => imp_congr_right fun _ => (h3 i).symm)
    by_cases c : andn want now = 0
    · obtain rfl := hr2.2 c
      simp (disch := first | assumption | omega | rfl | simp only [hAt_app, hAt_app0, List.getElem?_cons_zero, List.getElem?_cons_succ]) only [↓RP, RG, FX, decide_eq_true, decide_eq_false, Bool.not_true, Bool.not_false, Option.map_some, List.map_cons, List.map_nil, List.getElem?_cons_zero, List.getElem?_cons_succ, ↓reduceIte, Nat.reduceEqDiff, reduceCtorEq, decide_eq_true_eq, decide_eq_false_iff_not, Option.map_none, Option.bind_some, List.contains_nil, List.contains_cons, Nat.reduceBEq, Bool.or_false, Bool.false_or, Bool.or_self, List.set_cons_zero, List.set_cons_succ, List.take_succ_cons, List.take_zero, List.drop_succ_cons, List.drop_zero, List.length_cons, List.length_nil, List.length_append, Nat.reduceAdd, Nat.reduceLeDiff, List.all_cons, List.all_nil, Bool.and_true, and_true, true_and, and_self, ne_eq, not_false_eq_true, List.cons_append, List.nil_append, List.append_nil, List.append_assoc, Nat.zero_add, Nat.add_zero, Int.toNat_natCast, andn16]
      rw [resVal_1 rfl]; simp (disch := first | assumption | omega | rfl | simp only [hAt_app, hAt_app0, List.getElem?_cons_zero, List.getElem?_cons_succ]) only [↓RP, RG, FX, decide_eq_true, decide_eq_false, Bool.not_true, Bool.not_false, Option.map_some, List.map_cons, List.map_nil, List.getElem?_cons_zero, List.getElem?_cons_succ, ↓reduceIte, Nat.reduceEqDiff, reduceCtorEq, decide_eq_true_eq, decide_eq_false_iff_not, Option.map_none, Option.bind_some, List.contains_nil, List.contains_cons, Nat.reduceBEq, Bool.or_false, Bool.false_or, Bool.or_self, List.set_cons_zero, List.set_cons_succ, List.take_succ_cons, List.take_zero, List.drop_succ_cons, List.drop_zero, List.length_cons, List.length_nil, List.length_append, Nat.reduceAdd, Nat.reduceLeDiff, List.all_cons, List.all_nil, Bool.and_true, and_true, true_and, and_self, ne_eq, not_false_eq_true, List.cons_append, List.nil_append, List.append_nil, List.append_assoc, Nat.zero_add, Nat.add_zero, Int.toNat_natCast, RS]
      first | done | simp [c]
    · obtain rfl : r = false := by cases r with | false => rfl | true => exact absurd (hr2.1 rfl) c
      simp (disch := first | assumption | omega | rfl | simp only [hAt_app, hAt_app0, List.getElem?_cons_zero, List.getElem?_cons_succ]) only [↓RP, RG, FX, decide_eq_true, decide_eq_false, Bool.not_true, Bool.not_false, Option.map_some, List.map_cons, List.map_nil, List.getElem?_cons_zero, List.getElem?_cons_succ, ↓reduceIte, Nat.reduceEqDiff, reduceCtorEq, decide_eq_true_eq, decide_eq_false_iff_not, Option.map_none, Option.bind_some, List.contains_nil, List.contains_cons, Nat.reduceBEq, Bool.or_false, Bool.false_or, Bool.or_self, List.set_cons_zero, List.set_cons_succ, List.take_succ_cons, List.take_zero, List.drop_succ_cons, List.drop_zero, List.length_cons, List.length_nil, List.length_append, Nat.reduceAdd, Nat.reduceLeDiff, List.all_cons, List.all_nil, Bool.and_true, and_true, true_and, and_self, ne_eq, not_false_eq_true, List.cons_append, List.nil_append, List.append_nil, List.append_assoc, Nat.zero_add, Nat.add_zero, Int.toNat_natCast, andn16]
      rw [resVal_1 rfl]; simp (disch := first | assumption | omega | rfl | simp only [hAt_app, hAt_app0, List.getElem?_cons_zero, List.getElem?_cons_succ]) only [↓RP, RG, FX, decide_eq_true, decide_eq_false, Bool.not_true, Bool.not_false, Option.map_some, List.map_cons, List.map_nil, List.getElem?_cons_zero, List.getElem?_cons_succ, ↓reduceIte, Nat.reduceEqDiff, reduceCtorEq, decide_eq_true_eq, decide_eq_false_iff_not, Option.map_none, Option.bind_some, List.contains_nil, List.contains_cons, Nat.reduceBEq, Bool.or_false, Bool.false_or, Bool.or_self, List.set_cons_zero, List.set_cons_succ, List.take_succ_cons, List.take_zero, List.drop_succ_cons, List.drop_zero, List.length_cons, List.length_nil, List.length_append, Nat.reduceAdd, Nat.reduceLeDiff, List.all_cons, List.all_nil, Bool.and_true, and_true, true_and, and_self, ne_eq, not_false_eq_true, List.cons_append, List.nil_append, List.append_nil, List.append_assoc, Nat.zero_add, Nat.add_zero, Int.toNat_natCast, RS]
      first | done | simp [c]
/-- What a tie-up is: a list of sets that rise. -/
def tieOk (s : Nat) (l : List Int) (k : Nat) : Prop := ∀ i, i < k → (0 < l.getD i 0 ∧ l.getD i 0 < ((2 ^ s : Nat) : Int)) ∧ (0 < i → l.getD (i - 1) 0 < l.getD i 0)
theorem checkP_c (b : Bool) (l : List Int) (hl : l.length ≤ 1000000) {s : Nat} (h1 : 1 ≤ s) (h4 : s ≤ 4) (e : Int) (h0 : tieOk s l l.length → e = 0) (h8 : ¬ tieOk s l l.length → e = 8) : Contract Tryd.prog 21 [LA b l, I s] (I e) := by
  obtain ⟨p1, p2⟩ := pow4 h4
  have hsh := shl64 (n := s) (by omega)
  unfold tieOk at h0 h8
  generalize 2 ^ s = q at *
  refine Contract.intro (effS [] false) 6 follows Tryd.func21 rfl rfl (by kernel_rfl) (Nat.le_of_ble_eq_true rfl) ?_
  simp (disch := first | assumption | omega | rfl | simp only [hAt_app, hAt_app0, List.getElem?_cons_zero, List.getElem?_cons_succ]) only [↓RP, RG, FX, decide_eq_true, decide_eq_false, Bool.not_true, Bool.not_false, Option.map_some, List.map_cons, List.map_nil, List.getElem?_cons_zero, List.getElem?_cons_succ, ↓reduceIte, Nat.reduceEqDiff, reduceCtorEq, decide_eq_true_eq, decide_eq_false_iff_not, Option.map_none, Option.bind_some, List.contains_nil, List.contains_cons, Nat.reduceBEq, Bool.or_false, Bool.false_or, Bool.or_self, List.set_cons_zero, List.set_cons_succ, List.take_succ_cons, List.take_zero, List.drop_succ_cons, List.drop_zero, List.length_cons, List.length_nil, List.length_append, Nat.reduceAdd, Nat.reduceLeDiff, List.all_cons, List.all_nil, Bool.and_true, and_true, true_and, and_self, ne_eq, not_false_eq_true, List.cons_append, List.nil_append, List.append_nil, List.append_assoc, Nat.zero_add, Nat.add_zero, Int.toNat_natCast, args0_2]
  refine loopK_I [1, 5, 14, 15, 16] (fun k : Nat => k ≤ l.length ∧ ∀ i, i < k → (0 < l.getD i 0 ∧ l.getD i 0 < (q : Int)) ∧ (0 < i → l.getD (i - 1) 0 < l.getD i 0)) (fun k => ⟨[(1, I s), (5, I (if k = 0 then 0 else l.getD (k - 1) 0)), (14, LA b l), (15, I l.length), (16, I k)], []⟩) (fun k => l.length - k) 0 ⟨by omega, fun i hi => by omega⟩ (by simp only [↓RP, RG, FX, decide_eq_true, decide_eq_false, Bool.not_true, Bool.not_false, Option.map_some, List.map_cons, List.map_nil, List.getElem?_cons_zero, List.getElem?_cons_succ, ↓reduceIte, Nat.reduceEqDiff, reduceCtorEq, decide_eq_true_eq, decide_eq_false_iff_not, Option.map_none, Option.bind_some, List.contains_nil, List.contains_cons, Nat.reduceBEq, Bool.or_false, Bool.false_or, Bool.or_self, List.set_cons_zero, List.set_cons_succ, List.take_succ_cons, List.take_zero, List.drop_succ_cons, List.drop_zero, List.length_cons, List.length_nil, List.length_append, Nat.reduceAdd, Nat.reduceLeDiff, List.all_cons, List.all_nil, Bool.and_true, and_true, true_and, and_self, ne_eq, not_false_eq_true, List.cons_append, List.nil_append, List.append_nil, List.append_assoc, Nat.zero_add, Nat.add_zero, Int.toNat_natCast]; rfl) ?_
  rintro k ⟨hk, hall⟩
  by_cases hlt : k < l.length
  · have hla : (if k = 0 then (0 : Int) else l.getD (k - 1) 0) = if k = 0 then 0 else l.getD (k - 1) 0 := rfl
    have hlp : 0 ≤ (if k = 0 then (0 : Int) else l.getD (k - 1) 0) := by
      split
      · omega
      · have := (hall (k - 1) (by omega)).1; omega
    have hnext : (if k + 1 = 0 then (0 : Int) else l.getD (k + 1 - 1) 0) = l.getD k 0 := by rw [if_neg (by omega), Nat.add_sub_cancel]
    have hbad : ∀ i, (i = k → ¬ ((0 < l.getD i 0 ∧ l.getD i 0 < (q : Int)) ∧ (0 < i → l.getD (i - 1) 0 < l.getD i 0))) → i = k → e = 8 := fun i hn hi => h8 fun h => hn hi (h i (by omega))
    have hprev : 0 < k → (if k = 0 then (0 : Int) else l.getD (k - 1) 0) = l.getD (k - 1) 0 := fun h => if_neg (by omega)
    have hzero : k = 0 → (if k = 0 then (0 : Int) else l.getD (k - 1) 0) = 0 := fun h => if_pos h
    generalize (if k = 0 then (0 : Int) else l.getD (k - 1) 0) = la at *
    by_cases c1 : l.getD k 0 ≤ la
    · obtain rfl := hbad k (fun _ h => by
        by_cases e0 : k = 0
        · have := hzero e0; have := h.1.1; omega
        · have := hprev (by omega); have := h.2 (by omega); omega) rfl
      simp (disch := first | assumption | omega | rfl | simp only [hAt_app, hAt_app0, List.getElem?_cons_zero, List.getElem?_cons_succ]) only [↓RP, RG, FX, decide_eq_true, decide_eq_false, Bool.not_true, Bool.not_false, Option.map_some, List.map_cons, List.map_nil, List.getElem?_cons_zero, List.getElem?_cons_succ, ↓reduceIte, Nat.reduceEqDiff, reduceCtorEq, decide_eq_true_eq, decide_eq_false_iff_not, Option.map_none, Option.bind_some, List.contains_nil, List.contains_cons, Nat.reduceBEq, Bool.or_false, Bool.false_or, Bool.or_self, List.set_cons_zero, List.set_cons_succ, List.take_succ_cons, List.take_zero, List.drop_succ_cons, List.drop_zero, List.length_cons, List.length_nil, List.length_append, Nat.reduceAdd, Nat.reduceLeDiff, List.all_cons, List.all_nil, Bool.and_true, and_true, true_and, and_self, ne_eq, not_false_eq_true, List.cons_append, List.nil_append, List.append_nil, List.append_assoc, Nat.zero_add, Nat.add_zero, Int.toNat_natCast]
      rw [resVal_1 rfl]; simp (disch := first | assumption | omega | rfl | simp only [hAt_app, hAt_app0, List.getElem?_cons_zero, List.getElem?_cons_succ]) only [↓RP, RG, FX, decide_eq_true, decide_eq_false, Bool.not_true, Bool.not_false, Option.map_some, List.map_cons, List.map_nil, List.getElem?_cons_zero, List.getElem?_cons_succ, ↓reduceIte, Nat.reduceEqDiff, reduceCtorEq, decide_eq_true_eq, decide_eq_false_iff_not, Option.map_none, Option.bind_some, List.contains_nil, List.contains_cons, Nat.reduceBEq, Bool.or_false, Bool.false_or, Bool.or_self, List.set_cons_zero, List.set_cons_succ, List.take_succ_cons, List.take_zero, List.drop_succ_cons, List.drop_zero, List.length_cons, List.length_nil, List.length_append, Nat.reduceAdd, Nat.reduceLeDiff, List.all_cons, List.all_nil, Bool.and_true, and_true, true_and, and_self, ne_eq, not_false_eq_true, List.cons_append, List.nil_append, List.append_nil, List.append_assoc, Nat.zero_add, Nat.add_zero, Int.toNat_natCast, RS]
    · by_cases c2 : l.getD k 0 < (q : Int)
      · simp (disch := first | assumption | omega | rfl | simp only [hAt_app, hAt_app0, List.getElem?_cons_zero, List.getElem?_cons_succ]) only [↓RP, RG, FX, decide_eq_true, decide_eq_false, Bool.not_true, Bool.not_false, Option.map_some, List.map_cons, List.map_nil, List.getElem?_cons_zero, List.getElem?_cons_succ, ↓reduceIte, Nat.reduceEqDiff, reduceCtorEq, decide_eq_true_eq, decide_eq_false_iff_not, Option.map_none, Option.bind_some, List.contains_nil, List.contains_cons, Nat.reduceBEq, Bool.or_false, Bool.false_or, Bool.or_self, List.set_cons_zero, List.set_cons_succ, List.take_succ_cons, List.take_zero, List.drop_succ_cons, List.drop_zero, List.length_cons, List.length_nil, List.length_append, Nat.reduceAdd, Nat.reduceLeDiff, List.all_cons, List.all_nil, Bool.and_true, and_true, true_and, and_self, ne_eq, not_false_eq_true, List.cons_append, List.nil_append, List.append_nil, List.append_assoc, Nat.zero_add, Nat.add_zero, Int.toNat_natCast, aBin_shl, hsh]
        refine ⟨k + 1, ⟨hlt, fun i hi => ?_⟩, by rw [hnext]; rfl, by omega⟩
        by_cases e0 : i = k
        · subst e0
          exact ⟨⟨by omega, c2⟩, fun h => by have := hprev h; omega⟩
        · exact hall i (by omega)
      · obtain rfl := hbad k (fun _ h => by have := h.1.2; omega) rfl
        simp (disch := first | assumption | omega | rfl | simp only [hAt_app, hAt_app0, List.getElem?_cons_zero, List.getElem?_cons_succ]) only [↓RP, RG, FX, decide_eq_true, decide_eq_false, Bool.not_true, Bool.not_false, Option.map_some, List.map_cons, List.map_nil, List.getElem?_cons_zero, List.getElem?_cons_succ, ↓reduceIte, Nat.reduceEqDiff, reduceCtorEq, decide_eq_true_eq, decide_eq_false_iff_not, Option.map_none, Option.bind_some, List.contains_nil, List.contains_cons, Nat.reduceBEq, Bool.or_false, Bool.false_or, Bool.or_self, List.set_cons_zero, List.set_cons_succ, List.take_succ_cons, List.take_zero, List.drop_succ_cons, List.drop_zero, List.length_cons, List.length_nil, List.length_append, Nat.reduceAdd, Nat.reduceLeDiff, List.all_cons, List.all_nil, Bool.and_true, and_true, true_and, and_self, ne_eq, not_false_eq_true, List.cons_append, List.nil_append, List.append_nil, List.append_assoc, Nat.zero_add, Nat.add_zero, Int.toNat_natCast, aBin_shl, hsh]
        rw [resVal_1 rfl]; simp (disch := first | assumption | omega | rfl | simp only [hAt_app, hAt_app0, List.getElem?_cons_zero, List.getElem?_cons_succ]) only [↓RP, RG, FX, decide_eq_true, decide_eq_false, Bool.not_true, Bool.not_false, Option.map_some, List.map_cons, List.map_nil, List.getElem?_cons_zero, List.getElem?_cons_succ, ↓reduceIte, Nat.reduceEqDiff, reduceCtorEq, decide_eq_true_eq, decide_eq_false_iff_not, Option.map_none, Option.bind_some, List.contains_nil, List.contains_cons, Nat.reduceBEq, Bool.or_false, Bool.false_or, Bool.or_self, List.set_cons_zero, List.set_cons_succ, List.take_succ_cons, List.take_zero, List.drop_succ_cons, List.drop_zero, List.length_cons, List.length_nil, List.length_append, Nat.reduceAdd, Nat.reduceLeDiff, List.all_cons, List.all_nil, Bool.and_true, and_true, true_and, and_self, ne_eq, not_false_eq_true, List.cons_append, List.nil_append, List.append_nil, List.append_assoc, Nat.zero_add, Nat.add_zero, Int.toNat_natCast, RS]
  · obtain rfl : k = l.length := by omega
    obtain rfl := h0 hall
    simp (disch := first | assumption | omega | rfl | simp only [hAt_app, hAt_app0, List.getElem?_cons_zero, List.getElem?_cons_succ]) only [↓RP, RG, FX, decide_eq_true, decide_eq_false, Bool.not_true, Bool.not_false, Option.map_some, List.map_cons, List.map_nil, List.getElem?_cons_zero, List.getElem?_cons_succ, ↓reduceIte, Nat.reduceEqDiff, reduceCtorEq, decide_eq_true_eq, decide_eq_false_iff_not, Option.map_none, Option.bind_some, List.contains_nil, List.contains_cons, Nat.reduceBEq, Bool.or_false, Bool.false_or, Bool.or_self, List.set_cons_zero, List.set_cons_succ, List.take_succ_cons, List.take_zero, List.drop_succ_cons, List.drop_zero, List.length_cons, List.length_nil, List.length_append, Nat.reduceAdd, Nat.reduceLeDiff, List.all_cons, List.all_nil, Bool.and_true, and_true, true_and, and_self, ne_eq, not_false_eq_true, List.cons_append, List.nil_append, List.append_nil, List.append_assoc, Nat.zero_add, Nat.add_zero, Int.toNat_natCast]
    rw [resVal_1 rfl]; simp (disch := first | assumption | omega | rfl | simp only [hAt_app, hAt_app0, List.getElem?_cons_zero, List.getElem?_cons_succ]) only [↓RP, RG, FX, decide_eq_true, decide_eq_false, Bool.not_true, Bool.not_false, Option.map_some, List.map_cons, List.map_nil, List.getElem?_cons_zero, List.getElem?_cons_succ, ↓reduceIte, Nat.reduceEqDiff, reduceCtorEq, decide_eq_true_eq, decide_eq_false_iff_not, Option.map_none, Option.bind_some, List.contains_nil, List.contains_cons, Nat.reduceBEq, Bool.or_false, Bool.false_or, Bool.or_self, List.set_cons_zero, List.set_cons_succ, List.take_succ_cons, List.take_zero, List.drop_succ_cons, List.drop_zero, List.length_cons, List.length_nil, List.length_append, Nat.reduceAdd, Nat.reduceLeDiff, List.all_cons, List.all_nil, Bool.and_true, and_true, true_and, and_self, ne_eq, not_false_eq_true, List.cons_append, List.nil_append, List.append_nil, List.append_assoc, Nat.zero_add, Nat.add_zero, Int.toNat_natCast, RS]
end Go.Proofs.YtlckfakifamjiaaDoor
