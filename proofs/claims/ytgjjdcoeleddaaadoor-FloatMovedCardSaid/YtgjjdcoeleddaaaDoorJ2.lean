/- Part 2 of the proof's own texts: the contracts of functions, and what they rest on. -/
import Derived.Test.YtgjjdcoeleddaaaDoorJ1
/- The law FloatMoved. (Written by wip/dev/gen25.py.) -/
set_option linter.unusedSimpArgs false
set_option linter.unusedVariables false
set_option maxRecDepth 100000
namespace Go.Proofs.YtgjjdcoeleddaaaDoor
open Go Go.Proofs Go.AW

noncomputable local instance : DecidableEq Fl := fun _ _ => Classical.propDecidable _
theorem fl_eqb (x y : Fl) (r : Bool) (hr : r = true ↔ x = y) : (x.w == y.w && ((x.a : Int) == (y.a : Int) && ((x.f : Int) == (y.f : Int) && ((x.n : Int) == (y.n : Int) && x.z == y.z)))) = r := by
  rw [Bool.eq_iff_iff, hr]
  cases x; cases y
  simp only [Bool.and_eq_true, beq_iff_eq, Fl.mk.injEq, Int.natCast_inj]
def wz1 (x : Fl) : Bool := x.w && x.z
def wz2 (H : Nat) (x : Fl) : Bool := x.w && (x.z && decide (x.n = 2 * H))
section
variable {W H : Nat} (hW0 : 0 < W) (hH0 : 0 < H) (hW : W ≤ 64) (hH : H ≤ 64) (b : Bool) {l : List Bool} (hn : l.length = W * H) (hl : l.length ≤ 600)
include hW0 hH0 hW hH hn hl
set_option maxHeartbeats 4000000 in
theorem moved_c (c : Bool) {dx dy : Int} (d1 : -1000000000 ≤ dx) (d2 : dx ≤ 1000000000) (d3 : -1000000000 ≤ dy) (d4 : dy ≤ 1000000000) : Contract Tryd.prog 4 [GA W H b l, I dx, I dy, I (if c then 0 else 1)] (B true) := by
  have hv := valid8_c W H b l
  rw [decide_eq_false (show ¬ 600 < (l.length : Int) by omega), decide_eq_true (show gchk W H l.length = 0 from gchk_ok ⟨by omega, by omega, by omega, by omega, by rw [hn, Int.natCast_mul]⟩)] at hv
  have f1 : Contract Tryd.prog 12 [GA W H b l, I dx, I dy] (.tuple [GR W H false (mvL W H l dx dy), I 0]) := shiftP_c hW0 hH0 hW hH b hn dx dy
  have t1 : (mvL W H l dx dy).length = W * H := tabN_len _ _ _
  have q1 := listA_c hW0 hH0 hW hH b hn c
  have q2 := listA_c hW0 hH0 hW hH false t1 c
  have k1 := alK_len hW0 hH0 hW hH l c (W + H)
  have hlen := moved_len hW0 hH0 l c dx dy
  have hmem : ∀ x ∈ alK W H l c (W + H), mvF W H dx dy x ∈ alK W H (mvL W H l dx dy) c (W + H) := fun x hx => moved_mem hW0 hH0 dx dy hx
  have hbd : ∀ x ∈ alK W H l c (W + H), x.a ≤ 64 ∧ x.f ≤ 64 := fun x hx => by
    rcases alK_mem.1 hx with ⟨a, ha, h⟩ | ⟨a, ha, h⟩
    · obtain ⟨e1, e2, e3, _⟩ := thF_at (by rw [faC_len]; exact hH0) h
      rw [faC_len] at e3; omega
    · obtain ⟨e1, e2, e3, _⟩ := thF_at (by rw [faR_len]; exact hW0) h
      rw [faR_len] at e3; omega
  have p1 := countP_c hW0 hH0 hW hH b hn
  have b1 := ctC_le W H l W
  have b2 := ctR_le W l H
  have hWH : W * H ≤ 64 * 64 := Nat.mul_le_mul hW hH
  have hHW : H * W ≤ 64 * 64 := Nat.mul_le_mul hH hW
  have hrest : 2 * H ≤ 64 → ∃ (zs : List Fl) (lt : List Bool), Contract Tryd.prog 14 [GA W H b l, I 1, I 2] (.tuple [GR W ((2 * H : Nat) : Int) false lt, I 0]) ∧ Contract Tryd.prog 8 [GA W ((2 * H : Nat) : Int) false lt, I (if c then 0 else 1)] (.tuple [flV true zs, I 0])
      ∧ Contract Tryd.prog 11 [GA W ((2 * H : Nat) : Int) false lt] (.tuple [I ((2 * ctC W H l W : Nat) : Int), I ((2 * ctR W l H : Nat) : Int), I 0]) ∧ zs.length ≤ 128 * 64 ∧ ((alK W H l c (W + H)).filter wz1).length = whC W H l c ∧ (zs.filter (wz2 H)).length = whC W H l c ∧ zs.length + whC W H l c = 2 * (alK W H l c (W + H)).length := fun h2 => by
    have hl2 : (twL W H l).length = W * (2 * H) := tabN_len _ _ _
    have k5 := alK_len hW0 (show 0 < 2 * H by omega) hW h2 (twL W H l) c (W + 2 * H)
    have p2 := countP_c hW0 (show 0 < 2 * H by omega) hW h2 false hl2
    rw [ctC_tw l W (Nat.le_refl _), ctR_tw l] at p2
    refine ⟨alK W (2 * H) (twL W H l) c (W + 2 * H), twL W H l, tile12_c hW0 hH0 hW hH b hn h2, listA_c hW0 (by omega) hW h2 false hl2 c, p2, by omega, ?_, ?_, tiled_len l c⟩
    · exact whole_count l c wz1 H (fun x _ => rfl) (fun x h => h) rfl
    · rw [← whC_tw]
      exact whole_count (twL W H l) c (wz2 H) (2 * H) (fun x h => by unfold wz2; rw [decide_eq_true h, Bool.and_true]) (fun x h => by unfold wz2; rw [← Bool.and_assoc, h]; rfl) rfl
  generalize alK W H (mvL W H l dx dy) c (W + H) = ys at *
  generalize alK W H l c (W + H) = xs at *
  generalize mvL W H l dx dy = lm at *
  generalize ctC W H l W = cA at *
  generalize ctR W l H = cB at *
  generalize whC W H l c = wc at *
  cases c with
  | true =>
    simp only [if_true] at q1 q2 hrest ⊢
    refine Contract.intro (effS [] false) 6 follows Tryd.func4 rfl rfl (by kernel_rfl) (Nat.le_of_ble_eq_true rfl) ?_
    simp (disch := first | assumption | omega | rfl | simp only [RH]) only [↓RP, RG, FX, RQ, ↓reduceIte, Nat.reduceEqDiff, reduceCtorEq, Nat.reduceBEq, Nat.reduceAdd, Nat.reduceLeDiff, args0_4]
    refine callK_F 6 (hv) (by simp (disch := first | assumption | omega | rfl | simp only [RH]) only [↓RP, RG, FX, RQ, ↓reduceIte, Nat.reduceEqDiff, reduceCtorEq, Nat.reduceBEq, Nat.reduceAdd, Nat.reduceLeDiff, RA] <;> rfl) (.inl (by simp [allFresh, ints_fresh, bools_fresh])) ?_
    simp (disch := first | assumption | omega | rfl | simp only [RH]) only [↓RP, RG, FX, RQ, ↓reduceIte, Nat.reduceEqDiff, reduceCtorEq, Nat.reduceBEq, Nat.reduceAdd, Nat.reduceLeDiff]
    refine callK_F 6 f1 (by simp (disch := first | assumption | omega | rfl | simp only [RH]) only [↓RP, RG, FX, RQ, ↓reduceIte, Nat.reduceEqDiff, reduceCtorEq, Nat.reduceBEq, Nat.reduceAdd, Nat.reduceLeDiff, RA] <;> rfl) (.inl (by simp [allFresh, bools_fresh])) ?_
    simp (disch := first | assumption | omega | rfl | simp only [RH]) only [↓RP, RG, FX, RQ, ↓reduceIte, Nat.reduceEqDiff, reduceCtorEq, Nat.reduceBEq, Nat.reduceAdd, Nat.reduceLeDiff]
    refine callK_F 6 q1 (by simp (disch := first | assumption | omega | rfl | simp only [RH]) only [↓RP, RG, FX, RQ, ↓reduceIte, Nat.reduceEqDiff, reduceCtorEq, Nat.reduceBEq, Nat.reduceAdd, Nat.reduceLeDiff, RA] <;> rfl) (.inl (flV_fresh _ _)) ?_
    simp (disch := first | assumption | omega | rfl | simp only [RH]) only [↓RP, RG, FX, RQ, ↓reduceIte, Nat.reduceEqDiff, reduceCtorEq, Nat.reduceBEq, Nat.reduceAdd, Nat.reduceLeDiff]
    refine callK_F 6 q2 (by simp (disch := first | assumption | omega | rfl | simp only [RH]) only [↓RP, RG, FX, RQ, ↓reduceIte, Nat.reduceEqDiff, reduceCtorEq, Nat.reduceBEq, Nat.reduceAdd, Nat.reduceLeDiff, RA] <;> rfl) (.inl (flV_fresh _ _)) ?_
    simp (disch := first | assumption | omega | rfl | simp only [RH]) only [↓RP, RG, FX, RQ, ↓reduceIte, Nat.reduceEqDiff, reduceCtorEq, Nat.reduceBEq, Nat.reduceAdd, Nat.reduceLeDiff, flV]
    refine loopK_WW [1, 2, 3, 4, 11, 13, 15] (fun i : Nat => i ≤ xs.length) (fun i => ⟨[(1, I dx), (2, I dy), (3, I 0), (4, .ptr 0 0 3), (11, flV true xs), (13, flV true ys), (15, I i)], [(⟨24, 3, [I W, I H, BA b l]⟩ : AObj), ⟨24, 3, [I W, I H, BR false lm]⟩]⟩) (fun i => xs.length - i) 0 (by omega) (by simp only [↓RP, RG, FX, RQ, ↓reduceIte, Nat.reduceEqDiff, reduceCtorEq, Nat.reduceBEq, Nat.reduceAdd, Nat.reduceLeDiff]; exact Wk.of_eq rfl) ?_
    intro i hi
    by_cases hlt : i < xs.length
    · have hpx : pX (some (true, 5)) ((fls xs).drop (i * 5)) = some (.agg [B (flD xs i).w, I (flD xs i).a, I (flD xs i).f, I (flD xs i).n, B (flD xs i).z]) := pX_fls hlt
      have hxm : flD xs i ∈ xs := by rw [flD_get hlt]; exact List.getElem_mem hlt
      have hmv := hmem _ hxm
      obtain ⟨g1, g2⟩ := hbd _ hxm
      cases hw : (flD xs i).w with
      | true =>
        cases hz : (flD xs i).z with
        | true =>
          rw [hw, hz] at hpx
          have e1 : ((flD xs i).a + dx) % (W : Int) = ((mvA W H dx dy (flD xs i) : Nat) : Int) := by
            unfold mvA; rw [hw]
            have := Int.emod_nonneg ((flD xs i).a + dx) (show (W : Int) ≠ 0 by omega)
            simp only [if_true, if_false, Bool.false_eq_true]
            omega
          have c1 := mod_c (i := (flD xs i).a + dx) (n := W) (by omega) (by omega) (by omega) (by omega)
          rw [e1] at c1
          have hy : mvF W H dx dy (flD xs i) = ⟨true, mvA W H dx dy (flD xs i), (flD xs i).f, (flD xs i).n, true⟩ := by
            unfold mvF; rw [hw, hz]; rfl
          rw [hy] at hmv
          simp (disch := first | assumption | omega | rfl | simp only [RH]) only [↓RP, RG, FX, RQ, ↓reduceIte, Nat.reduceEqDiff, reduceCtorEq, Nat.reduceBEq, Nat.reduceAdd, Nat.reduceLeDiff, flV, hpx, Int.toNat_natCast]
          refine callK_F 6 c1 (by simp (disch := first | assumption | omega | rfl | simp only [RH]) only [↓RP, RG, FX, RQ, ↓reduceIte, Nat.reduceEqDiff, reduceCtorEq, Nat.reduceBEq, Nat.reduceAdd, Nat.reduceLeDiff, RA] <;> rfl) (.inl rfl) ?_
          simp (disch := first | assumption | omega | rfl | simp only [RH]) only [↓RP, RG, FX, RQ, ↓reduceIte, Nat.reduceEqDiff, reduceCtorEq, Nat.reduceBEq, Nat.reduceAdd, Nat.reduceLeDiff, flV, Int.toNat_natCast]
          obtain ⟨y, hyd⟩ : ∃ y : Fl, y = ⟨true, mvA W H dx dy (flD xs i), (flD xs i).f, (flD xs i).n, true⟩ := ⟨_, rfl⟩
          rw [← hyd] at hmv
          obtain ⟨fnd, hfnd⟩ : ∃ fnd : Nat → Bool, fnd = fun k => decide (y ∈ ys.take k) := ⟨_, rfl⟩
          have hf0 : fnd 0 = false := by rw [hfnd]; simp
          have hfe : fnd ys.length = true := by rw [hfnd]; simp only [List.take_length]; exact decide_eq_true hmv
          have hfs : ∀ k, k < ys.length → fnd (k + 1) = (fnd k || decide (flD ys k = y)) := fun k hk => by
            have htk : ys.take (k + 1) = ys.take k ++ [flD ys k] := by rw [List.take_add_one, List.getElem?_eq_getElem hk, flD_get hk]; rfl
            rw [hfnd]
            simp only [htk, ← Bool.decide_or]
            refine decide_eq_decide.2 ?_
            rw [List.mem_append, List.mem_singleton, eq_comm (a := y)]
          clear hfnd hy
          refine loopK_I [1, 2, 3, 4, 11, 13, 15, 16, 21, 22] (fun k : Nat => k ≤ ys.length) (fun k => ⟨[(1, I dx), (2, I dy), (3, I 0), (4, .ptr 0 0 3), (11, flV true xs), (13, flV true ys), (15, I i), (16, .ptr 2 0 5), (21, B (fnd k)), (22, I k)], [(⟨24, 3, [I W, I H, BA b l]⟩ : AObj), ⟨24, 3, [I W, I H, BR false lm]⟩, ⟨34, 5, [B true, I (mvA W H dx dy (flD xs i)), I (flD xs i).f, I (flD xs i).n, B true]⟩]⟩) (fun k => ys.length - k) 0 (by omega) (by simp only [↓RP, RG, FX, RQ, ↓reduceIte, Nat.reduceEqDiff, reduceCtorEq, Nat.reduceBEq, Nat.reduceAdd, Nat.reduceLeDiff]; rw [hf0]; rfl) ?_
          intro k hk
          by_cases hlk : k < ys.length
          · have hfk := hfs k hlk
            have hpy : pX (some (true, 5)) ((fls ys).drop (k * 5)) = some (.agg [B (flD ys k).w, I (flD ys k).a, I (flD ys k).f, I (flD ys k).n, B (flD ys k).z]) := pX_fls hlk
            cases hfc : fnd k with
            | true =>
              rw [hfc, Bool.true_or] at hfk
              simp (disch := first | assumption | omega | rfl | simp only [RH]) only [↓RP, RG, FX, RQ, ↓reduceIte, Nat.reduceEqDiff, reduceCtorEq, Nat.reduceBEq, Nat.reduceAdd, Nat.reduceLeDiff, flV, Int.toNat_natCast]
              exact ⟨k + 1, hlk, by rw [hfk]; rfl, by omega⟩
            | false =>
              rw [hfc, Bool.false_or] at hfk
              have hq := fl_eqb (flD ys k) ⟨true, mvA W H dx dy (flD xs i), (flD xs i).f, (flD xs i).n, true⟩ (decide (flD ys k = y)) (by rw [decide_eq_true_iff, hyd])
              simp only at hq
              simp (disch := first | assumption | omega | rfl | simp only [RH]) only [↓RP, RG, FX, RQ, ↓reduceIte, Nat.reduceEqDiff, reduceCtorEq, Nat.reduceBEq, Nat.reduceAdd, Nat.reduceLeDiff, flV, hpy, Int.toNat_natCast, eqlKT, eqK_bool, eqK_int, eqK_nil, Option.map_some, hq]
              exact ⟨k + 1, hlk, by rw [hfk]; rfl, by omega⟩
          · obtain rfl : ys.length = k := by omega
            rw [hfe]
            simp (disch := first | assumption | omega | rfl | simp only [RH]) only [↓RP, RG, FX, RQ, ↓reduceIte, Nat.reduceEqDiff, reduceCtorEq, Nat.reduceBEq, Nat.reduceAdd, Nat.reduceLeDiff, flV, Int.toNat_natCast]
            refine ⟨i + 1, hlt, (Wk.drop (hb := []) (h1 := []) (gs := [_, _, _]) 8 [0, 1] rfl (by decide) (by simp) (by simp)).trans (Wk.of_eq ?_), by omega⟩
            simp only [RK, List.idxOf?_cons, List.idxOf?_nil, Nat.reduceBEq, Option.map_some, Option.map_none, List.map_cons, List.map_nil, List.getD_cons_zero, List.getD_cons_succ, Bool.false_eq_true, ↓reduceIte, Nat.add_zero, List.append_nil, map_ren_bools, map_ren_fls]
            rfl
        | false =>
          rw [hw, hz] at hpx
          have e1 : ((flD xs i).a + dx) % (W : Int) = ((mvA W H dx dy (flD xs i) : Nat) : Int) := by
            unfold mvA; rw [hw]
            have := Int.emod_nonneg ((flD xs i).a + dx) (show (W : Int) ≠ 0 by omega)
            simp only [if_true, if_false, Bool.false_eq_true]
            omega
          have c1 := mod_c (i := (flD xs i).a + dx) (n := W) (by omega) (by omega) (by omega) (by omega)
          rw [e1] at c1
          have e2 : ((flD xs i).f + dy) % (H : Int) = ((mvB W H dx dy (flD xs i) : Nat) : Int) := by
            unfold mvB; rw [hw]
            have := Int.emod_nonneg ((flD xs i).f + dy) (show (H : Int) ≠ 0 by omega)
            simp only [if_true, if_false, Bool.false_eq_true]
            omega
          have c2 := mod_c (i := (flD xs i).f + dy) (n := H) (by omega) (by omega) (by omega) (by omega)
          rw [e2] at c2
          have hy : mvF W H dx dy (flD xs i) = ⟨true, mvA W H dx dy (flD xs i), (mvB W H dx dy (flD xs i)), (flD xs i).n, false⟩ := by
            unfold mvF; rw [hw, hz]; rfl
          rw [hy] at hmv
          simp (disch := first | assumption | omega | rfl | simp only [RH]) only [↓RP, RG, FX, RQ, ↓reduceIte, Nat.reduceEqDiff, reduceCtorEq, Nat.reduceBEq, Nat.reduceAdd, Nat.reduceLeDiff, flV, hpx, Int.toNat_natCast]
          refine callK_F 6 c1 (by simp (disch := first | assumption | omega | rfl | simp only [RH]) only [↓RP, RG, FX, RQ, ↓reduceIte, Nat.reduceEqDiff, reduceCtorEq, Nat.reduceBEq, Nat.reduceAdd, Nat.reduceLeDiff, RA] <;> rfl) (.inl rfl) ?_
          simp (disch := first | assumption | omega | rfl | simp only [RH]) only [↓RP, RG, FX, RQ, ↓reduceIte, Nat.reduceEqDiff, reduceCtorEq, Nat.reduceBEq, Nat.reduceAdd, Nat.reduceLeDiff, flV, Int.toNat_natCast]
          refine callK_F 6 c2 (by simp (disch := first | assumption | omega | rfl | simp only [RH]) only [↓RP, RG, FX, RQ, ↓reduceIte, Nat.reduceEqDiff, reduceCtorEq, Nat.reduceBEq, Nat.reduceAdd, Nat.reduceLeDiff, RA] <;> rfl) (.inl rfl) ?_
          simp (disch := first | assumption | omega | rfl | simp only [RH]) only [↓RP, RG, FX, RQ, ↓reduceIte, Nat.reduceEqDiff, reduceCtorEq, Nat.reduceBEq, Nat.reduceAdd, Nat.reduceLeDiff, flV, Int.toNat_natCast]
          obtain ⟨y, hyd⟩ : ∃ y : Fl, y = ⟨true, mvA W H dx dy (flD xs i), (mvB W H dx dy (flD xs i)), (flD xs i).n, false⟩ := ⟨_, rfl⟩
          rw [← hyd] at hmv
          obtain ⟨fnd, hfnd⟩ : ∃ fnd : Nat → Bool, fnd = fun k => decide (y ∈ ys.take k) := ⟨_, rfl⟩
          have hf0 : fnd 0 = false := by rw [hfnd]; simp
          have hfe : fnd ys.length = true := by rw [hfnd]; simp only [List.take_length]; exact decide_eq_true hmv
          have hfs : ∀ k, k < ys.length → fnd (k + 1) = (fnd k || decide (flD ys k = y)) := fun k hk => by
            have htk : ys.take (k + 1) = ys.take k ++ [flD ys k] := by rw [List.take_add_one, List.getElem?_eq_getElem hk, flD_get hk]; rfl
            rw [hfnd]
            simp only [htk, ← Bool.decide_or]
            refine decide_eq_decide.2 ?_
            rw [List.mem_append, List.mem_singleton, eq_comm (a := y)]
          clear hfnd hy
          refine loopK_I [1, 2, 3, 4, 11, 13, 15, 16, 21, 22] (fun k : Nat => k ≤ ys.length) (fun k => ⟨[(1, I dx), (2, I dy), (3, I 0), (4, .ptr 0 0 3), (11, flV true xs), (13, flV true ys), (15, I i), (16, .ptr 2 0 5), (21, B (fnd k)), (22, I k)], [(⟨24, 3, [I W, I H, BA b l]⟩ : AObj), ⟨24, 3, [I W, I H, BR false lm]⟩, ⟨34, 5, [B true, I (mvA W H dx dy (flD xs i)), I (mvB W H dx dy (flD xs i)), I (flD xs i).n, B false]⟩]⟩) (fun k => ys.length - k) 0 (by omega) (by simp only [↓RP, RG, FX, RQ, ↓reduceIte, Nat.reduceEqDiff, reduceCtorEq, Nat.reduceBEq, Nat.reduceAdd, Nat.reduceLeDiff]; rw [hf0]; rfl) ?_
          intro k hk
          by_cases hlk : k < ys.length
          · have hfk := hfs k hlk
            have hpy : pX (some (true, 5)) ((fls ys).drop (k * 5)) = some (.agg [B (flD ys k).w, I (flD ys k).a, I (flD ys k).f, I (flD ys k).n, B (flD ys k).z]) := pX_fls hlk
            cases hfc : fnd k with
            | true =>
              rw [hfc, Bool.true_or] at hfk
              simp (disch := first | assumption | omega | rfl | simp only [RH]) only [↓RP, RG, FX, RQ, ↓reduceIte, Nat.reduceEqDiff, reduceCtorEq, Nat.reduceBEq, Nat.reduceAdd, Nat.reduceLeDiff, flV, Int.toNat_natCast]
              exact ⟨k + 1, hlk, by rw [hfk]; rfl, by omega⟩
            | false =>
              rw [hfc, Bool.false_or] at hfk
              have hq := fl_eqb (flD ys k) ⟨true, mvA W H dx dy (flD xs i), (mvB W H dx dy (flD xs i)), (flD xs i).n, false⟩ (decide (flD ys k = y)) (by rw [decide_eq_true_iff, hyd])
              simp only at hq
              simp (disch := first | assumption | omega | rfl | simp only [RH]) only [↓RP, RG, FX, RQ, ↓reduceIte, Nat.reduceEqDiff, reduceCtorEq, Nat.reduceBEq, Nat.reduceAdd, Nat.reduceLeDiff, flV, hpy, Int.toNat_natCast, eqlKT, eqK_bool, eqK_int, eqK_nil, Option.map_some, hq]
              exact ⟨k + 1, hlk, by rw [hfk]; rfl, by omega⟩
          · obtain rfl : ys.length = k := by omega
            rw [hfe]
            simp (disch := first | assumption | omega | rfl | simp only [RH]) only [↓RP, RG, FX, RQ, ↓reduceIte, Nat.reduceEqDiff, reduceCtorEq, Nat.reduceBEq, Nat.reduceAdd, Nat.reduceLeDiff, flV, Int.toNat_natCast]
            refine ⟨i + 1, hlt, (Wk.drop (hb := []) (h1 := []) (gs := [_, _, _]) 8 [0, 1] rfl (by decide) (by simp) (by simp)).trans (Wk.of_eq ?_), by omega⟩
            simp only [RK, List.idxOf?_cons, List.idxOf?_nil, Nat.reduceBEq, Option.map_some, Option.map_none, List.map_cons, List.map_nil, List.getD_cons_zero, List.getD_cons_succ, Bool.false_eq_true, ↓reduceIte, Nat.add_zero, List.append_nil, map_ren_bools, map_ren_fls]
            rfl
      | false =>
        cases hz : (flD xs i).z with
        | true =>
          rw [hw, hz] at hpx
          have e1 : ((flD xs i).a + dy) % (H : Int) = ((mvA W H dx dy (flD xs i) : Nat) : Int) := by
            unfold mvA; rw [hw]
            have := Int.emod_nonneg ((flD xs i).a + dy) (show (H : Int) ≠ 0 by omega)
            simp only [if_true, if_false, Bool.false_eq_true]
            omega
          have c1 := mod_c (i := (flD xs i).a + dy) (n := H) (by omega) (by omega) (by omega) (by omega)
          rw [e1] at c1
          have hy : mvF W H dx dy (flD xs i) = ⟨false, mvA W H dx dy (flD xs i), (flD xs i).f, (flD xs i).n, true⟩ := by
            unfold mvF; rw [hw, hz]; rfl
          rw [hy] at hmv
          simp (disch := first | assumption | omega | rfl | simp only [RH]) only [↓RP, RG, FX, RQ, ↓reduceIte, Nat.reduceEqDiff, reduceCtorEq, Nat.reduceBEq, Nat.reduceAdd, Nat.reduceLeDiff, flV, hpx, Int.toNat_natCast]
          refine callK_F 6 c1 (by simp (disch := first | assumption | omega | rfl | simp only [RH]) only [↓RP, RG, FX, RQ, ↓reduceIte, Nat.reduceEqDiff, reduceCtorEq, Nat.reduceBEq, Nat.reduceAdd, Nat.reduceLeDiff, RA] <;> rfl) (.inl rfl) ?_
          simp (disch := first | assumption | omega | rfl | simp only [RH]) only [↓RP, RG, FX, RQ, ↓reduceIte, Nat.reduceEqDiff, reduceCtorEq, Nat.reduceBEq, Nat.reduceAdd, Nat.reduceLeDiff, flV, Int.toNat_natCast]
          obtain ⟨y, hyd⟩ : ∃ y : Fl, y = ⟨false, mvA W H dx dy (flD xs i), (flD xs i).f, (flD xs i).n, true⟩ := ⟨_, rfl⟩
          rw [← hyd] at hmv
          obtain ⟨fnd, hfnd⟩ : ∃ fnd : Nat → Bool, fnd = fun k => decide (y ∈ ys.take k) := ⟨_, rfl⟩
          have hf0 : fnd 0 = false := by rw [hfnd]; simp
          have hfe : fnd ys.length = true := by rw [hfnd]; simp only [List.take_length]; exact decide_eq_true hmv
          have hfs : ∀ k, k < ys.length → fnd (k + 1) = (fnd k || decide (flD ys k = y)) := fun k hk => by
            have htk : ys.take (k + 1) = ys.take k ++ [flD ys k] := by rw [List.take_add_one, List.getElem?_eq_getElem hk, flD_get hk]; rfl
            rw [hfnd]
            simp only [htk, ← Bool.decide_or]
            refine decide_eq_decide.2 ?_
            rw [List.mem_append, List.mem_singleton, eq_comm (a := y)]
          clear hfnd hy
          refine loopK_I [1, 2, 3, 4, 11, 13, 15, 16, 21, 22] (fun k : Nat => k ≤ ys.length) (fun k => ⟨[(1, I dx), (2, I dy), (3, I 0), (4, .ptr 0 0 3), (11, flV true xs), (13, flV true ys), (15, I i), (16, .ptr 2 0 5), (21, B (fnd k)), (22, I k)], [(⟨24, 3, [I W, I H, BA b l]⟩ : AObj), ⟨24, 3, [I W, I H, BR false lm]⟩, ⟨34, 5, [B false, I (mvA W H dx dy (flD xs i)), I (flD xs i).f, I (flD xs i).n, B true]⟩]⟩) (fun k => ys.length - k) 0 (by omega) (by simp only [↓RP, RG, FX, RQ, ↓reduceIte, Nat.reduceEqDiff, reduceCtorEq, Nat.reduceBEq, Nat.reduceAdd, Nat.reduceLeDiff]; rw [hf0]; rfl) ?_
          intro k hk
          by_cases hlk : k < ys.length
          · have hfk := hfs k hlk
            have hpy : pX (some (true, 5)) ((fls ys).drop (k * 5)) = some (.agg [B (flD ys k).w, I (flD ys k).a, I (flD ys k).f, I (flD ys k).n, B (flD ys k).z]) := pX_fls hlk
            cases hfc : fnd k with
            | true =>
              rw [hfc, Bool.true_or] at hfk
              simp (disch := first | assumption | omega | rfl | simp only [RH]) only [↓RP, RG, FX, RQ, ↓reduceIte, Nat.reduceEqDiff, reduceCtorEq, Nat.reduceBEq, Nat.reduceAdd, Nat.reduceLeDiff, flV, Int.toNat_natCast]
              exact ⟨k + 1, hlk, by rw [hfk]; rfl, by omega⟩
            | false =>
              rw [hfc, Bool.false_or] at hfk
              have hq := fl_eqb (flD ys k) ⟨false, mvA W H dx dy (flD xs i), (flD xs i).f, (flD xs i).n, true⟩ (decide (flD ys k = y)) (by rw [decide_eq_true_iff, hyd])
              simp only at hq
              simp (disch := first | assumption | omega | rfl | simp only [RH]) only [↓RP, RG, FX, RQ, ↓reduceIte, Nat.reduceEqDiff, reduceCtorEq, Nat.reduceBEq, Nat.reduceAdd, Nat.reduceLeDiff, flV, hpy, Int.toNat_natCast, eqlKT, eqK_bool, eqK_int, eqK_nil, Option.map_some, hq]
              exact ⟨k + 1, hlk, by rw [hfk]; rfl, by omega⟩
          · obtain rfl : ys.length = k := by omega
            rw [hfe]
            simp (disch := first | assumption | omega | rfl | simp only [RH]) only [↓RP, RG, FX, RQ, ↓reduceIte, Nat.reduceEqDiff, reduceCtorEq, Nat.reduceBEq, Nat.reduceAdd, Nat.reduceLeDiff, flV, Int.toNat_natCast]
            refine ⟨i + 1, hlt, (Wk.drop (hb := []) (h1 := []) (gs := [_, _, _]) 8 [0, 1] rfl (by decide) (by simp) (by simp)).trans (Wk.of_eq ?_), by omega⟩
            simp only [RK, List.idxOf?_cons, List.idxOf?_nil, Nat.reduceBEq, Option.map_some, Option.map_none, List.map_cons, List.map_nil, List.getD_cons_zero, List.getD_cons_succ, Bool.false_eq_true, ↓reduceIte, Nat.add_zero, List.append_nil, map_ren_bools, map_ren_fls]
            rfl
        | false =>
          rw [hw, hz] at hpx
          have e1 : ((flD xs i).a + dy) % (H : Int) = ((mvA W H dx dy (flD xs i) : Nat) : Int) := by
            unfold mvA; rw [hw]
            have := Int.emod_nonneg ((flD xs i).a + dy) (show (H : Int) ≠ 0 by omega)
            simp only [if_true, if_false, Bool.false_eq_true]
            omega
          have c1 := mod_c (i := (flD xs i).a + dy) (n := H) (by omega) (by omega) (by omega) (by omega)
          rw [e1] at c1
          have e2 : ((flD xs i).f + dx) % (W : Int) = ((mvB W H dx dy (flD xs i) : Nat) : Int) := by
            unfold mvB; rw [hw]
            have := Int.emod_nonneg ((flD xs i).f + dx) (show (W : Int) ≠ 0 by omega)
            simp only [if_true, if_false, Bool.false_eq_true]
            omega
          have c2 := mod_c (i := (flD xs i).f + dx) (n := W) (by omega) (by omega) (by omega) (by omega)
          rw [e2] at c2
          have hy : mvF W H dx dy (flD xs i) = ⟨false, mvA W H dx dy (flD xs i), (mvB W H dx dy (flD xs i)), (flD xs i).n, false⟩ := by
            unfold mvF; rw [hw, hz]; rfl
          rw [hy] at hmv
          simp (disch := first | assumption | omega | rfl | simp only [RH]) only [↓RP, RG, FX, RQ, ↓reduceIte, Nat.reduceEqDiff, reduceCtorEq, Nat.reduceBEq, Nat.reduceAdd, Nat.reduceLeDiff, flV, hpx, Int.toNat_natCast]
          refine callK_F 6 c1 (by simp (disch := first | assumption | omega | rfl | simp only [RH]) only [↓RP, RG, FX, RQ, ↓reduceIte, Nat.reduceEqDiff, reduceCtorEq, Nat.reduceBEq, Nat.reduceAdd, Nat.reduceLeDiff, RA] <;> rfl) (.inl rfl) ?_
          simp (disch := first | assumption | omega | rfl | simp only [RH]) only [↓RP, RG, FX, RQ, ↓reduceIte, Nat.reduceEqDiff, reduceCtorEq, Nat.reduceBEq, Nat.reduceAdd, Nat.reduceLeDiff, flV, Int.toNat_natCast]
          refine callK_F 6 c2 (by simp (disch := first | assumption | omega | rfl | simp only [RH]) only [↓RP, RG, FX, RQ, ↓reduceIte, Nat.reduceEqDiff, reduceCtorEq, Nat.reduceBEq, Nat.reduceAdd, Nat.reduceLeDiff, RA] <;> rfl) (.inl rfl) ?_
          simp (disch := first | assumption | omega | rfl | simp only [RH]) only [↓RP, RG, FX, RQ, ↓reduceIte, Nat.reduceEqDiff, reduceCtorEq, Nat.reduceBEq, Nat.reduceAdd, Nat.reduceLeDiff, flV, Int.toNat_natCast]
          obtain ⟨y, hyd⟩ : ∃ y : Fl, y = ⟨false, mvA W H dx dy (flD xs i), (mvB W H dx dy (flD xs i)), (flD xs i).n, false⟩ := ⟨_, rfl⟩
          rw [← hyd] at hmv
          obtain ⟨fnd, hfnd⟩ : ∃ fnd : Nat → Bool, fnd = fun k => decide (y ∈ ys.take k) := ⟨_, rfl⟩
          have hf0 : fnd 0 = false := by rw [hfnd]; simp
          have hfe : fnd ys.length = true := by rw [hfnd]; simp only [List.take_length]; exact decide_eq_true hmv
          have hfs : ∀ k, k < ys.length → fnd (k + 1) = (fnd k || decide (flD ys k = y)) := fun k hk => by
            have htk : ys.take (k + 1) = ys.take k ++ [flD ys k] := by rw [List.take_add_one, List.getElem?_eq_getElem hk, flD_get hk]; rfl
            rw [hfnd]
            simp only [htk, ← Bool.decide_or]
            refine decide_eq_decide.2 ?_
            rw [List.mem_append, List.mem_singleton, eq_comm (a := y)]
          clear hfnd hy
          refine loopK_I [1, 2, 3, 4, 11, 13, 15, 16, 21, 22] (fun k : Nat => k ≤ ys.length) (fun k => ⟨[(1, I dx), (2, I dy), (3, I 0), (4, .ptr 0 0 3), (11, flV true xs), (13, flV true ys), (15, I i), (16, .ptr 2 0 5), (21, B (fnd k)), (22, I k)], [(⟨24, 3, [I W, I H, BA b l]⟩ : AObj), ⟨24, 3, [I W, I H, BR false lm]⟩, ⟨34, 5, [B false, I (mvA W H dx dy (flD xs i)), I (mvB W H dx dy (flD xs i)), I (flD xs i).n, B false]⟩]⟩) (fun k => ys.length - k) 0 (by omega) (by simp only [↓RP, RG, FX, RQ, ↓reduceIte, Nat.reduceEqDiff, reduceCtorEq, Nat.reduceBEq, Nat.reduceAdd, Nat.reduceLeDiff]; rw [hf0]; rfl) ?_
          intro k hk
          by_cases hlk : k < ys.length
          · have hfk := hfs k hlk
            have hpy : pX (some (true, 5)) ((fls ys).drop (k * 5)) = some (.agg [B (flD ys k).w, I (flD ys k).a, I (flD ys k).f, I (flD ys k).n, B (flD ys k).z]) := pX_fls hlk
            cases hfc : fnd k with
            | true =>
              rw [hfc, Bool.true_or] at hfk
              simp (disch := first | assumption | omega | rfl | simp only [RH]) only [↓RP, RG, FX, RQ, ↓reduceIte, Nat.reduceEqDiff, reduceCtorEq, Nat.reduceBEq, Nat.reduceAdd, Nat.reduceLeDiff, flV, Int.toNat_natCast]
              exact ⟨k + 1, hlk, by rw [hfk]; rfl, by omega⟩
            | false =>
              rw [hfc, Bool.false_or] at hfk
              have hq := fl_eqb (flD ys k) ⟨false, mvA W H dx dy (flD xs i), (mvB W H dx dy (flD xs i)), (flD xs i).n, false⟩ (decide (flD ys k = y)) (by rw [decide_eq_true_iff, hyd])
              simp only at hq
              simp (disch := first | assumption | omega | rfl | simp only [RH]) only [↓RP, RG, FX, RQ, ↓reduceIte, Nat.reduceEqDiff, reduceCtorEq, Nat.reduceBEq, Nat.reduceAdd, Nat.reduceLeDiff, flV, hpy, Int.toNat_natCast, eqlKT, eqK_bool, eqK_int, eqK_nil, Option.map_some, hq]
              exact ⟨k + 1, hlk, by rw [hfk]; rfl, by omega⟩
          · obtain rfl : ys.length = k := by omega
            rw [hfe]
            simp (disch := first | assumption | omega | rfl | simp only [RH]) only [↓RP, RG, FX, RQ, ↓reduceIte, Nat.reduceEqDiff, reduceCtorEq, Nat.reduceBEq, Nat.reduceAdd, Nat.reduceLeDiff, flV, Int.toNat_natCast]
            refine ⟨i + 1, hlt, (Wk.drop (hb := []) (h1 := []) (gs := [_, _, _]) 8 [0, 1] rfl (by decide) (by simp) (by simp)).trans (Wk.of_eq ?_), by omega⟩
            simp only [RK, List.idxOf?_cons, List.idxOf?_nil, Nat.reduceBEq, Option.map_some, Option.map_none, List.map_cons, List.map_nil, List.getD_cons_zero, List.getD_cons_succ, Bool.false_eq_true, ↓reduceIte, Nat.add_zero, List.append_nil, map_ren_bools, map_ren_fls]
            rfl
    · obtain rfl : xs.length = i := by omega
      simp (disch := first | assumption | omega | rfl | simp only [RH]) only [↓RP, RG, FX, RQ, ↓reduceIte, Nat.reduceEqDiff, reduceCtorEq, Nat.reduceBEq, Nat.reduceAdd, Nat.reduceLeDiff, flV]
      by_cases h2 : 2 * H ≤ 64
      rotate_left
      · refine callK_F 6 (tile12_no hW0 hH0 hW hH b hn h2) (by simp (disch := first | assumption | omega | rfl | simp only [RH]) only [↓RP, RG, FX, RQ, ↓reduceIte, Nat.reduceEqDiff, reduceCtorEq, Nat.reduceBEq, Nat.reduceAdd, Nat.reduceLeDiff, RA] <;> rfl) (.inl (by simp [allFresh, bools_fresh])) ?_
        simp (disch := first | assumption | omega | rfl | simp only [RH]) only [↓RP, RG, FX, RQ, ↓reduceIte, Nat.reduceEqDiff, reduceCtorEq, Nat.reduceBEq, Nat.reduceAdd, Nat.reduceLeDiff]
        refine callK_F 6 (alive8_c) (by simp (disch := first | assumption | omega | rfl | simp only [RH]) only [↓RP, RG, FX, RQ, ↓reduceIte, Nat.reduceEqDiff, reduceCtorEq, Nat.reduceBEq, Nat.reduceAdd, Nat.reduceLeDiff, RA] <;> rfl) (.inl (by simp [allFresh, ints_fresh, bools_fresh])) ?_
        simp (disch := first | assumption | omega | rfl | simp only [RH]) only [↓RP, RG, FX, RQ, ↓reduceIte, Nat.reduceEqDiff, reduceCtorEq, Nat.reduceBEq, Nat.reduceAdd, Nat.reduceLeDiff]
        rw [resVal_1 rfl]; simp (disch := first | assumption | omega | rfl | simp only [RH]) only [↓RP, RG, FX, RQ, ↓reduceIte, Nat.reduceEqDiff, reduceCtorEq, Nat.reduceBEq, Nat.reduceAdd, Nat.reduceLeDiff, RS]
      obtain ⟨zs, lt, f2, q3, k3, k4, r1, r2, r3⟩ := hrest h2
      refine callK_F 6 f2 (by simp (disch := first | assumption | omega | rfl | simp only [RH]) only [↓RP, RG, FX, RQ, ↓reduceIte, Nat.reduceEqDiff, reduceCtorEq, Nat.reduceBEq, Nat.reduceAdd, Nat.reduceLeDiff, RA] <;> rfl) (.inl (by simp [allFresh, bools_fresh])) ?_
      simp (disch := first | assumption | omega | rfl | simp only [RH]) only [↓RP, RG, FX, RQ, ↓reduceIte, Nat.reduceEqDiff, reduceCtorEq, Nat.reduceBEq, Nat.reduceAdd, Nat.reduceLeDiff, flV]
      refine callK_F 6 q3 (by simp (disch := first | assumption | omega | rfl | simp only [RH]) only [↓RP, RG, FX, RQ, ↓reduceIte, Nat.reduceEqDiff, reduceCtorEq, Nat.reduceBEq, Nat.reduceAdd, Nat.reduceLeDiff, RA] <;> rfl) (.inl (flV_fresh _ _)) ?_
      simp (disch := first | assumption | omega | rfl | simp only [RH]) only [↓RP, RG, FX, RQ, ↓reduceIte, Nat.reduceEqDiff, reduceCtorEq, Nat.reduceBEq, Nat.reduceAdd, Nat.reduceLeDiff, flV]
      refine callK_F 6 (p1) (by simp (disch := first | assumption | omega | rfl | simp only [RH]) only [↓RP, RG, FX, RQ, ↓reduceIte, Nat.reduceEqDiff, reduceCtorEq, Nat.reduceBEq, Nat.reduceAdd, Nat.reduceLeDiff, RA] <;> rfl) (.inl (by simp [allFresh, ints_fresh, bools_fresh])) ?_
      simp (disch := first | assumption | omega | rfl | simp only [RH]) only [↓RP, RG, FX, RQ, ↓reduceIte, Nat.reduceEqDiff, reduceCtorEq, Nat.reduceBEq, Nat.reduceAdd, Nat.reduceLeDiff, flV]
      refine callK_F 6 k3 (by simp (disch := first | assumption | omega | rfl | simp only [RH]) only [↓RP, RG, FX, RQ, ↓reduceIte, Nat.reduceEqDiff, reduceCtorEq, Nat.reduceBEq, Nat.reduceAdd, Nat.reduceLeDiff, RA] <;> rfl) (.inl rfl) ?_
      simp (disch := first | assumption | omega | rfl | simp only [RH]) only [↓RP, RG, FX, RQ, ↓reduceIte, Nat.reduceEqDiff, reduceCtorEq, Nat.reduceBEq, Nat.reduceAdd, Nat.reduceLeDiff, flV]
      refine loopK_I [4, 11, 25, 26, 27, 28, 29, 30, 31, 32, 33, 34, 35] (fun i : Nat => i ≤ xs.length) (fun i => ⟨[(4, .ptr 0 0 3), (11, flV true xs), (25, flV true zs), (26, I 0), (27, I (cA : Nat)), (28, I (cB : Nat)), (29, I 0), (30, I ((2 * cA : Nat) : Int)), (31, I ((2 * cB : Nat) : Int)), (32, I 0), (33, I ((xs.take i).filter wz1).length), (34, I 0), (35, I i)], [(⟨24, 3, [I W, I H, BA b l]⟩ : AObj), ⟨24, 3, [I W, I H, BR false lm]⟩, ⟨24, 3, [I W, I ((2 * H : Nat) : Int), BR false lt]⟩]⟩) (fun i => xs.length - i) 0 (by omega) (by simp only [↓RP, RG, FX, RQ, ↓reduceIte, Nat.reduceEqDiff, reduceCtorEq, Nat.reduceBEq, Nat.reduceAdd, Nat.reduceLeDiff]; rfl) ?_
      intro i hi
      by_cases hlt : i < xs.length
      · have z0 := pX_fl0 hlt
        have z4 : ((fls xs).drop (i * 5 + 4))[0]? = some (B (flD xs i).z) := by rw [← List.drop_drop]; exact pX_fl4 hlt
        have z4' := pX_fl4 hlt
        have hft := filter_take wz1 hlt
        have hfl := List.length_filter_le wz1 (xs.take i)
        have htl : (xs.take i).length ≤ xs.length := by rw [List.length_take]; omega
        cases hw : (flD xs i).w with
        | true =>
          cases hz : (flD xs i).z with
          | true =>
            rw [show wz1 (flD xs i) = true by show ((flD xs i).w && (flD xs i).z) = true; rw [hw, hz]; rfl, if_pos rfl] at hft
            rw [hw] at z0
            rw [hz] at z4 z4'
            simp (disch := first | assumption | omega | rfl | simp only [RH]) only [↓RP, RG, FX, RQ, ↓reduceIte, Nat.reduceEqDiff, reduceCtorEq, Nat.reduceBEq, Nat.reduceAdd, Nat.reduceLeDiff, flV, z0, z4, z4', Int.toNat_natCast]
            exact ⟨i + 1, hlt, by rw [hft, List.length_append]; rfl, by omega⟩
          | false =>
            rw [show wz1 (flD xs i) = false by show ((flD xs i).w && (flD xs i).z) = false; rw [hw, hz]; rfl, if_neg (by simp), List.append_nil] at hft
            rw [hw] at z0
            rw [hz] at z4 z4'
            simp (disch := first | assumption | omega | rfl | simp only [RH]) only [↓RP, RG, FX, RQ, ↓reduceIte, Nat.reduceEqDiff, reduceCtorEq, Nat.reduceBEq, Nat.reduceAdd, Nat.reduceLeDiff, flV, z0, z4, z4', Int.toNat_natCast]
            exact ⟨i + 1, hlt, by rw [hft]; rfl, by omega⟩
        | false =>
          rw [show wz1 (flD xs i) = false by show ((flD xs i).w && (flD xs i).z) = false; rw [hw]; rfl, if_neg (by simp), List.append_nil] at hft
          rw [hw] at z0
          simp (disch := first | assumption | omega | rfl | simp only [RH]) only [↓RP, RG, FX, RQ, ↓reduceIte, Nat.reduceEqDiff, reduceCtorEq, Nat.reduceBEq, Nat.reduceAdd, Nat.reduceLeDiff, flV, z0, Int.toNat_natCast]
          exact ⟨i + 1, hlt, by rw [hft]; rfl, by omega⟩
      · obtain rfl : xs.length = i := by omega
        rw [List.take_length, r1]
        simp (disch := first | assumption | omega | rfl | simp only [RH]) only [↓RP, RG, FX, RQ, ↓reduceIte, Nat.reduceEqDiff, reduceCtorEq, Nat.reduceBEq, Nat.reduceAdd, Nat.reduceLeDiff, flV]
        refine loopK_I [4, 11, 25, 26, 27, 28, 29, 30, 31, 32, 33, 34, 36] (fun i : Nat => i ≤ zs.length) (fun i => ⟨[(4, .ptr 0 0 3), (11, flV true xs), (25, flV true zs), (26, I 0), (27, I (cA : Nat)), (28, I (cB : Nat)), (29, I 0), (30, I ((2 * cA : Nat) : Int)), (31, I ((2 * cB : Nat) : Int)), (32, I 0), (33, I (wc : Nat)), (34, I ((zs.take i).filter (wz2 H)).length), (36, I i)], [(⟨24, 3, [I W, I H, BA b l]⟩ : AObj), ⟨24, 3, [I W, I H, BR false lm]⟩, ⟨24, 3, [I W, I ((2 * H : Nat) : Int), BR false lt]⟩]⟩) (fun i => zs.length - i) 0 (by omega) (by simp only [↓RP, RG, FX, RQ, ↓reduceIte, Nat.reduceEqDiff, reduceCtorEq, Nat.reduceBEq, Nat.reduceAdd, Nat.reduceLeDiff]; rfl) ?_
        intro i hi
        by_cases hlt : i < zs.length
        · have z0 := pX_fl0 hlt
          have z3 : ((fls zs).drop (i * 5 + 3))[0]? = some (I (flD zs i).n) := by rw [← List.drop_drop]; exact pX_fl3 hlt
          have z3' := pX_fl3 hlt
          have z4 : ((fls zs).drop (i * 5 + 4))[0]? = some (B (flD zs i).z) := by rw [← List.drop_drop]; exact pX_fl4 hlt
          have z4' := pX_fl4 hlt
          have hft := filter_take (wz2 H) hlt
          have hfl := List.length_filter_le (wz2 H) (zs.take i)
          have htl : (zs.take i).length ≤ zs.length := by rw [List.length_take]; omega
          cases hw : (flD zs i).w with
          | true =>
            cases hz : (flD zs i).z with
            | true =>
              rw [hw] at z0
              rw [hz] at z4 z4'
              by_cases hn2 : (flD zs i).n = 2 * H
              · rw [show wz2 H (flD zs i) = true by unfold wz2; rw [hw, hz, decide_eq_true hn2]; rfl, if_pos rfl] at hft
                simp (disch := first | assumption | omega | rfl | simp only [RH]) only [↓RP, RG, FX, RQ, ↓reduceIte, Nat.reduceEqDiff, reduceCtorEq, Nat.reduceBEq, Nat.reduceAdd, Nat.reduceLeDiff, flV, z0, z3, z3', z4, z4', Int.toNat_natCast]
                exact ⟨i + 1, hlt, by rw [hft, List.length_append]; rfl, by omega⟩
              · rw [show wz2 H (flD zs i) = false by unfold wz2; rw [hw, hz, decide_eq_false hn2]; rfl, if_neg (by simp), List.append_nil] at hft
                simp (disch := first | assumption | omega | rfl | simp only [RH]) only [↓RP, RG, FX, RQ, ↓reduceIte, Nat.reduceEqDiff, reduceCtorEq, Nat.reduceBEq, Nat.reduceAdd, Nat.reduceLeDiff, flV, z0, z3, z3', z4, z4', Int.toNat_natCast]
                exact ⟨i + 1, hlt, by rw [hft]; rfl, by omega⟩
            | false =>
              rw [show wz2 H (flD zs i) = false by unfold wz2; rw [hw, hz]; rfl, if_neg (by simp), List.append_nil] at hft
              rw [hw] at z0
              rw [hz] at z4 z4'
              simp (disch := first | assumption | omega | rfl | simp only [RH]) only [↓RP, RG, FX, RQ, ↓reduceIte, Nat.reduceEqDiff, reduceCtorEq, Nat.reduceBEq, Nat.reduceAdd, Nat.reduceLeDiff, flV, z0, z3, z3', z4, z4', Int.toNat_natCast]
              exact ⟨i + 1, hlt, by rw [hft]; rfl, by omega⟩
          | false =>
            rw [show wz2 H (flD zs i) = false by unfold wz2; rw [hw]; rfl, if_neg (by simp), List.append_nil] at hft
            rw [hw] at z0
            simp (disch := first | assumption | omega | rfl | simp only [RH]) only [↓RP, RG, FX, RQ, ↓reduceIte, Nat.reduceEqDiff, reduceCtorEq, Nat.reduceBEq, Nat.reduceAdd, Nat.reduceLeDiff, flV, z0, Int.toNat_natCast]
            exact ⟨i + 1, hlt, by rw [hft]; rfl, by omega⟩
        · obtain rfl : zs.length = i := by omega
          rw [List.take_length, r2]
          simp (disch := first | assumption | omega | rfl | simp only [RH]) only [↓RP, RG, FX, RQ, ↓reduceIte, Nat.reduceEqDiff, reduceCtorEq, Nat.reduceBEq, Nat.reduceAdd, Nat.reduceLeDiff, flV]
          refine callK_F 6 (alive8_c) (by simp (disch := first | assumption | omega | rfl | simp only [RH]) only [↓RP, RG, FX, RQ, ↓reduceIte, Nat.reduceEqDiff, reduceCtorEq, Nat.reduceBEq, Nat.reduceAdd, Nat.reduceLeDiff, RA] <;> rfl) (.inl (by simp [allFresh, ints_fresh, bools_fresh])) ?_
          simp (disch := first | assumption | omega | rfl | simp only [RH]) only [↓RP, RG, FX, RQ, ↓reduceIte, Nat.reduceEqDiff, reduceCtorEq, Nat.reduceBEq, Nat.reduceAdd, Nat.reduceLeDiff]
          rw [resVal_1 rfl]; simp (disch := first | assumption | omega | rfl | simp only [RH]) only [↓RP, RG, FX, RQ, ↓reduceIte, Nat.reduceEqDiff, reduceCtorEq, Nat.reduceBEq, Nat.reduceAdd, Nat.reduceLeDiff, RS]
  | false =>
    simp only [if_false, Bool.false_eq_true] at q1 q2 hrest ⊢
    refine Contract.intro (effS [] false) 6 follows Tryd.func4 rfl rfl (by kernel_rfl) (Nat.le_of_ble_eq_true rfl) ?_
    simp (disch := first | assumption | omega | rfl | simp only [RH]) only [↓RP, RG, FX, RQ, ↓reduceIte, Nat.reduceEqDiff, reduceCtorEq, Nat.reduceBEq, Nat.reduceAdd, Nat.reduceLeDiff, args0_4]
    refine callK_F 6 (hv) (by simp (disch := first | assumption | omega | rfl | simp only [RH]) only [↓RP, RG, FX, RQ, ↓reduceIte, Nat.reduceEqDiff, reduceCtorEq, Nat.reduceBEq, Nat.reduceAdd, Nat.reduceLeDiff, RA] <;> rfl) (.inl (by simp [allFresh, ints_fresh, bools_fresh])) ?_
    simp (disch := first | assumption | omega | rfl | simp only [RH]) only [↓RP, RG, FX, RQ, ↓reduceIte, Nat.reduceEqDiff, reduceCtorEq, Nat.reduceBEq, Nat.reduceAdd, Nat.reduceLeDiff]
    refine callK_F 6 f1 (by simp (disch := first | assumption | omega | rfl | simp only [RH]) only [↓RP, RG, FX, RQ, ↓reduceIte, Nat.reduceEqDiff, reduceCtorEq, Nat.reduceBEq, Nat.reduceAdd, Nat.reduceLeDiff, RA] <;> rfl) (.inl (by simp [allFresh, bools_fresh])) ?_
    simp (disch := first | assumption | omega | rfl | simp only [RH]) only [↓RP, RG, FX, RQ, ↓reduceIte, Nat.reduceEqDiff, reduceCtorEq, Nat.reduceBEq, Nat.reduceAdd, Nat.reduceLeDiff]
    refine callK_F 6 q1 (by simp (disch := first | assumption | omega | rfl | simp only [RH]) only [↓RP, RG, FX, RQ, ↓reduceIte, Nat.reduceEqDiff, reduceCtorEq, Nat.reduceBEq, Nat.reduceAdd, Nat.reduceLeDiff, RA] <;> rfl) (.inl (flV_fresh _ _)) ?_
    simp (disch := first | assumption | omega | rfl | simp only [RH]) only [↓RP, RG, FX, RQ, ↓reduceIte, Nat.reduceEqDiff, reduceCtorEq, Nat.reduceBEq, Nat.reduceAdd, Nat.reduceLeDiff]
    refine callK_F 6 q2 (by simp (disch := first | assumption | omega | rfl | simp only [RH]) only [↓RP, RG, FX, RQ, ↓reduceIte, Nat.reduceEqDiff, reduceCtorEq, Nat.reduceBEq, Nat.reduceAdd, Nat.reduceLeDiff, RA] <;> rfl) (.inl (flV_fresh _ _)) ?_
    simp (disch := first | assumption | omega | rfl | simp only [RH]) only [↓RP, RG, FX, RQ, ↓reduceIte, Nat.reduceEqDiff, reduceCtorEq, Nat.reduceBEq, Nat.reduceAdd, Nat.reduceLeDiff, flV]
    refine loopK_WW [1, 2, 3, 4, 11, 13, 15] (fun i : Nat => i ≤ xs.length) (fun i => ⟨[(1, I dx), (2, I dy), (3, I 1), (4, .ptr 0 0 3), (11, flV true xs), (13, flV true ys), (15, I i)], [(⟨24, 3, [I W, I H, BA b l]⟩ : AObj), ⟨24, 3, [I W, I H, BR false lm]⟩]⟩) (fun i => xs.length - i) 0 (by omega) (by simp only [↓RP, RG, FX, RQ, ↓reduceIte, Nat.reduceEqDiff, reduceCtorEq, Nat.reduceBEq, Nat.reduceAdd, Nat.reduceLeDiff]; exact Wk.of_eq rfl) ?_
    intro i hi
    by_cases hlt : i < xs.length
    · have hpx : pX (some (true, 5)) ((fls xs).drop (i * 5)) = some (.agg [B (flD xs i).w, I (flD xs i).a, I (flD xs i).f, I (flD xs i).n, B (flD xs i).z]) := pX_fls hlt
      have hxm : flD xs i ∈ xs := by rw [flD_get hlt]; exact List.getElem_mem hlt
      have hmv := hmem _ hxm
      obtain ⟨g1, g2⟩ := hbd _ hxm
      cases hw : (flD xs i).w with
      | true =>
        cases hz : (flD xs i).z with
        | true =>
          rw [hw, hz] at hpx
          have e1 : ((flD xs i).a + dx) % (W : Int) = ((mvA W H dx dy (flD xs i) : Nat) : Int) := by
            unfold mvA; rw [hw]
            have := Int.emod_nonneg ((flD xs i).a + dx) (show (W : Int) ≠ 0 by omega)
            simp only [if_true, if_false, Bool.false_eq_true]
            omega
          have c1 := mod_c (i := (flD xs i).a + dx) (n := W) (by omega) (by omega) (by omega) (by omega)
          rw [e1] at c1
          have hy : mvF W H dx dy (flD xs i) = ⟨true, mvA W H dx dy (flD xs i), (flD xs i).f, (flD xs i).n, true⟩ := by
            unfold mvF; rw [hw, hz]; rfl
          rw [hy] at hmv
          simp (disch := first | assumption | omega | rfl | simp only [RH]) only [↓RP, RG, FX, RQ, ↓reduceIte, Nat.reduceEqDiff, reduceCtorEq, Nat.reduceBEq, Nat.reduceAdd, Nat.reduceLeDiff, flV, hpx, Int.toNat_natCast]
          refine callK_F 6 c1 (by simp (disch := first | assumption | omega | rfl | simp only [RH]) only [↓RP, RG, FX, RQ, ↓reduceIte, Nat.reduceEqDiff, reduceCtorEq, Nat.reduceBEq, Nat.reduceAdd, Nat.reduceLeDiff, RA] <;> rfl) (.inl rfl) ?_
          simp (disch := first | assumption | omega | rfl | simp only [RH]) only [↓RP, RG, FX, RQ, ↓reduceIte, Nat.reduceEqDiff, reduceCtorEq, Nat.reduceBEq, Nat.reduceAdd, Nat.reduceLeDiff, flV, Int.toNat_natCast]
          obtain ⟨y, hyd⟩ : ∃ y : Fl, y = ⟨true, mvA W H dx dy (flD xs i), (flD xs i).f, (flD xs i).n, true⟩ := ⟨_, rfl⟩
          rw [← hyd] at hmv
          obtain ⟨fnd, hfnd⟩ : ∃ fnd : Nat → Bool, fnd = fun k => decide (y ∈ ys.take k) := ⟨_, rfl⟩
          have hf0 : fnd 0 = false := by rw [hfnd]; simp
          have hfe : fnd ys.length = true := by rw [hfnd]; simp only [List.take_length]; exact decide_eq_true hmv
          have hfs : ∀ k, k < ys.length → fnd (k + 1) = (fnd k || decide (flD ys k = y)) := fun k hk => by
            have htk : ys.take (k + 1) = ys.take k ++ [flD ys k] := by rw [List.take_add_one, List.getElem?_eq_getElem hk, flD_get hk]; rfl
            rw [hfnd]
            simp only [htk, ← Bool.decide_or]
            refine decide_eq_decide.2 ?_
            rw [List.mem_append, List.mem_singleton, eq_comm (a := y)]
          clear hfnd hy
          refine loopK_I [1, 2, 3, 4, 11, 13, 15, 16, 21, 22] (fun k : Nat => k ≤ ys.length) (fun k => ⟨[(1, I dx), (2, I dy), (3, I 1), (4, .ptr 0 0 3), (11, flV true xs), (13, flV true ys), (15, I i), (16, .ptr 2 0 5), (21, B (fnd k)), (22, I k)], [(⟨24, 3, [I W, I H, BA b l]⟩ : AObj), ⟨24, 3, [I W, I H, BR false lm]⟩, ⟨34, 5, [B true, I (mvA W H dx dy (flD xs i)), I (flD xs i).f, I (flD xs i).n, B true]⟩]⟩) (fun k => ys.length - k) 0 (by omega) (by simp only [↓RP, RG, FX, RQ, ↓reduceIte, Nat.reduceEqDiff, reduceCtorEq, Nat.reduceBEq, Nat.reduceAdd, Nat.reduceLeDiff]; rw [hf0]; rfl) ?_
          intro k hk
          by_cases hlk : k < ys.length
          · have hfk := hfs k hlk
            have hpy : pX (some (true, 5)) ((fls ys).drop (k * 5)) = some (.agg [B (flD ys k).w, I (flD ys k).a, I (flD ys k).f, I (flD ys k).n, B (flD ys k).z]) := pX_fls hlk
            cases hfc : fnd k with
            | true =>
              rw [hfc, Bool.true_or] at hfk
              simp (disch := first | assumption | omega | rfl | simp only [RH]) only [↓RP, RG, FX, RQ, ↓reduceIte, Nat.reduceEqDiff, reduceCtorEq, Nat.reduceBEq, Nat.reduceAdd, Nat.reduceLeDiff, flV, Int.toNat_natCast]
              exact ⟨k + 1, hlk, by rw [hfk]; rfl, by omega⟩
            | false =>
              rw [hfc, Bool.false_or] at hfk
              have hq := fl_eqb (flD ys k) ⟨true, mvA W H dx dy (flD xs i), (flD xs i).f, (flD xs i).n, true⟩ (decide (flD ys k = y)) (by rw [decide_eq_true_iff, hyd])
              simp only at hq
              simp (disch := first | assumption | omega | rfl | simp only [RH]) only [↓RP, RG, FX, RQ, ↓reduceIte, Nat.reduceEqDiff, reduceCtorEq, Nat.reduceBEq, Nat.reduceAdd, Nat.reduceLeDiff, flV, hpy, Int.toNat_natCast, eqlKT, eqK_bool, eqK_int, eqK_nil, Option.map_some, hq]
              exact ⟨k + 1, hlk, by rw [hfk]; rfl, by omega⟩
          · obtain rfl : ys.length = k := by omega
            rw [hfe]
            simp (disch := first | assumption | omega | rfl | simp only [RH]) only [↓RP, RG, FX, RQ, ↓reduceIte, Nat.reduceEqDiff, reduceCtorEq, Nat.reduceBEq, Nat.reduceAdd, Nat.reduceLeDiff, flV, Int.toNat_natCast]
            refine ⟨i + 1, hlt, (Wk.drop (hb := []) (h1 := []) (gs := [_, _, _]) 8 [0, 1] rfl (by decide) (by simp) (by simp)).trans (Wk.of_eq ?_), by omega⟩
            simp only [RK, List.idxOf?_cons, List.idxOf?_nil, Nat.reduceBEq, Option.map_some, Option.map_none, List.map_cons, List.map_nil, List.getD_cons_zero, List.getD_cons_succ, Bool.false_eq_true, ↓reduceIte, Nat.add_zero, List.append_nil, map_ren_bools, map_ren_fls]
            rfl
        | false =>
          rw [hw, hz] at hpx
          have e1 : ((flD xs i).a + dx) % (W : Int) = ((mvA W H dx dy (flD xs i) : Nat) : Int) := by
            unfold mvA; rw [hw]
            have := Int.emod_nonneg ((flD xs i).a + dx) (show (W : Int) ≠ 0 by omega)
            simp only [if_true, if_false, Bool.false_eq_true]
            omega
          have c1 := mod_c (i := (flD xs i).a + dx) (n := W) (by omega) (by omega) (by omega) (by omega)
          rw [e1] at c1
          have e2 : ((flD xs i).f + dy) % (H : Int) = ((mvB W H dx dy (flD xs i) : Nat) : Int) := by
            unfold mvB; rw [hw]
            have := Int.emod_nonneg ((flD xs i).f + dy) (show (H : Int) ≠ 0 by omega)
            simp only [if_true, if_false, Bool.false_eq_true]
            omega
          have c2 := mod_c (i := (flD xs i).f + dy) (n := H) (by omega) (by omega) (by omega) (by omega)
          rw [e2] at c2
          have hy : mvF W H dx dy (flD xs i) = ⟨true, mvA W H dx dy (flD xs i), (mvB W H dx dy (flD xs i)), (flD xs i).n, false⟩ := by
            unfold mvF; rw [hw, hz]; rfl
          rw [hy] at hmv
          simp (disch := first | assumption | omega | rfl | simp only [RH]) only [↓RP, RG, FX, RQ, ↓reduceIte, Nat.reduceEqDiff, reduceCtorEq, Nat.reduceBEq, Nat.reduceAdd, Nat.reduceLeDiff, flV, hpx, Int.toNat_natCast]
          refine callK_F 6 c1 (by simp (disch := first | assumption | omega | rfl | simp only [RH]) only [↓RP, RG, FX, RQ, ↓reduceIte, Nat.reduceEqDiff, reduceCtorEq, Nat.reduceBEq, Nat.reduceAdd, Nat.reduceLeDiff, RA] <;> rfl) (.inl rfl) ?_
          simp (disch := first | assumption | omega | rfl | simp only [RH]) only [↓RP, RG, FX, RQ, ↓reduceIte, Nat.reduceEqDiff, reduceCtorEq, Nat.reduceBEq, Nat.reduceAdd, Nat.reduceLeDiff, flV, Int.toNat_natCast]
          refine callK_F 6 c2 (by simp (disch := first | assumption | omega | rfl | simp only [RH]) only [↓RP, RG, FX, RQ, ↓reduceIte, Nat.reduceEqDiff, reduceCtorEq, Nat.reduceBEq, Nat.reduceAdd, Nat.reduceLeDiff, RA] <;> rfl) (.inl rfl) ?_
          simp (disch := first | assumption | omega | rfl | simp only [RH]) only [↓RP, RG, FX, RQ, ↓reduceIte, Nat.reduceEqDiff, reduceCtorEq, Nat.reduceBEq, Nat.reduceAdd, Nat.reduceLeDiff, flV, Int.toNat_natCast]
          obtain ⟨y, hyd⟩ : ∃ y : Fl, y = ⟨true, mvA W H dx dy (flD xs i), (mvB W H dx dy (flD xs i)), (flD xs i).n, false⟩ := ⟨_, rfl⟩
          rw [← hyd] at hmv
          obtain ⟨fnd, hfnd⟩ : ∃ fnd : Nat → Bool, fnd = fun k => decide (y ∈ ys.take k) := ⟨_, rfl⟩
          have hf0 : fnd 0 = false := by rw [hfnd]; simp
          have hfe : fnd ys.length = true := by rw [hfnd]; simp only [List.take_length]; exact decide_eq_true hmv
          have hfs : ∀ k, k < ys.length → fnd (k + 1) = (fnd k || decide (flD ys k = y)) := fun k hk => by
            have htk : ys.take (k + 1) = ys.take k ++ [flD ys k] := by rw [List.take_add_one, List.getElem?_eq_getElem hk, flD_get hk]; rfl
            rw [hfnd]
            simp only [htk, ← Bool.decide_or]
            refine decide_eq_decide.2 ?_
            rw [List.mem_append, List.mem_singleton, eq_comm (a := y)]
          clear hfnd hy
          refine loopK_I [1, 2, 3, 4, 11, 13, 15, 16, 21, 22] (fun k : Nat => k ≤ ys.length) (fun k => ⟨[(1, I dx), (2, I dy), (3, I 1), (4, .ptr 0 0 3), (11, flV true xs), (13, flV true ys), (15, I i), (16, .ptr 2 0 5), (21, B (fnd k)), (22, I k)], [(⟨24, 3, [I W, I H, BA b l]⟩ : AObj), ⟨24, 3, [I W, I H, BR false lm]⟩, ⟨34, 5, [B true, I (mvA W H dx dy (flD xs i)), I (mvB W H dx dy (flD xs i)), I (flD xs i).n, B false]⟩]⟩) (fun k => ys.length - k) 0 (by omega) (by simp only [↓RP, RG, FX, RQ, ↓reduceIte, Nat.reduceEqDiff, reduceCtorEq, Nat.reduceBEq, Nat.reduceAdd, Nat.reduceLeDiff]; rw [hf0]; rfl) ?_
          intro k hk
          by_cases hlk : k < ys.length
          · have hfk := hfs k hlk
            have hpy : pX (some (true, 5)) ((fls ys).drop (k * 5)) = some (.agg [B (flD ys k).w, I (flD ys k).a, I (flD ys k).f, I (flD ys k).n, B (flD ys k).z]) := pX_fls hlk
            cases hfc : fnd k with
            | true =>
              rw [hfc, Bool.true_or] at hfk
              simp (disch := first | assumption | omega | rfl | simp only [RH]) only [↓RP, RG, FX, RQ, ↓reduceIte, Nat.reduceEqDiff, reduceCtorEq, Nat.reduceBEq, Nat.reduceAdd, Nat.reduceLeDiff, flV, Int.toNat_natCast]
              exact ⟨k + 1, hlk, by rw [hfk]; rfl, by omega⟩
            | false =>
              rw [hfc, Bool.false_or] at hfk
              have hq := fl_eqb (flD ys k) ⟨true, mvA W H dx dy (flD xs i), (mvB W H dx dy (flD xs i)), (flD xs i).n, false⟩ (decide (flD ys k = y)) (by rw [decide_eq_true_iff, hyd])
              simp only at hq
              simp (disch := first | assumption | omega | rfl | simp only [RH]) only [↓RP, RG, FX, RQ, ↓reduceIte, Nat.reduceEqDiff, reduceCtorEq, Nat.reduceBEq, Nat.reduceAdd, Nat.reduceLeDiff, flV, hpy, Int.toNat_natCast, eqlKT, eqK_bool, eqK_int, eqK_nil, Option.map_some, hq]
              exact ⟨k + 1, hlk, by rw [hfk]; rfl, by omega⟩
          · obtain rfl : ys.length = k := by omega
            rw [hfe]
            simp (disch := first | assumption | omega | rfl | simp only [RH]) only [↓RP, RG, FX, RQ, ↓reduceIte, Nat.reduceEqDiff, reduceCtorEq, Nat.reduceBEq, Nat.reduceAdd, Nat.reduceLeDiff, flV, Int.toNat_natCast]
            refine ⟨i + 1, hlt, (Wk.drop (hb := []) (h1 := []) (gs := [_, _, _]) 8 [0, 1] rfl (by decide) (by simp) (by simp)).trans (Wk.of_eq ?_), by omega⟩
            simp only [RK, List.idxOf?_cons, List.idxOf?_nil, Nat.reduceBEq, Option.map_some, Option.map_none, List.map_cons, List.map_nil, List.getD_cons_zero, List.getD_cons_succ, Bool.false_eq_true, ↓reduceIte, Nat.add_zero, List.append_nil, map_ren_bools, map_ren_fls]
            rfl
      | false =>
        cases hz : (flD xs i).z with
        | true =>
          rw [hw, hz] at hpx
          have e1 : ((flD xs i).a + dy) % (H : Int) = ((mvA W H dx dy (flD xs i) : Nat) : Int) := by
            unfold mvA; rw [hw]
            have := Int.emod_nonneg ((flD xs i).a + dy) (show (H : Int) ≠ 0 by omega)
            simp only [if_true, if_false, Bool.false_eq_true]
            omega
          have c1 := mod_c (i := (flD xs i).a + dy) (n := H) (by omega) (by omega) (by omega) (by omega)
          rw [e1] at c1
          have hy : mvF W H dx dy (flD xs i) = ⟨false, mvA W H dx dy (flD xs i), (flD xs i).f, (flD xs i).n, true⟩ := by
            unfold mvF; rw [hw, hz]; rfl
          rw [hy] at hmv
          simp (disch := first | assumption | omega | rfl | simp only [RH]) only [↓RP, RG, FX, RQ, ↓reduceIte, Nat.reduceEqDiff, reduceCtorEq, Nat.reduceBEq, Nat.reduceAdd, Nat.reduceLeDiff, flV, hpx, Int.toNat_natCast]
          refine callK_F 6 c1 (by simp (disch := first | assumption | omega | rfl | simp only [RH]) only [↓RP, RG, FX, RQ, ↓reduceIte, Nat.reduceEqDiff, reduceCtorEq, Nat.reduceBEq, Nat.reduceAdd, Nat.reduceLeDiff, RA] <;> rfl) (.inl rfl) ?_
          simp (disch := first | assumption | omega | rfl | simp only [RH]) only [↓RP, RG, FX, RQ, ↓reduceIte, Nat.reduceEqDiff, reduceCtorEq, Nat.reduceBEq, Nat.reduceAdd, Nat.reduceLeDiff, flV, Int.toNat_natCast]
          obtain ⟨y, hyd⟩ : ∃ y : Fl, y = ⟨false, mvA W H dx dy (flD xs i), (flD xs i).f, (flD xs i).n, true⟩ := ⟨_, rfl⟩
          rw [← hyd] at hmv
          obtain ⟨fnd, hfnd⟩ : ∃ fnd : Nat → Bool, fnd = fun k => decide (y ∈ ys.take k) := ⟨_, rfl⟩
          have hf0 : fnd 0 = false := by rw [hfnd]; simp
          have hfe : fnd ys.length = true := by rw [hfnd]; simp only [List.take_length]; exact decide_eq_true hmv
          have hfs : ∀ k, k < ys.length → fnd (k + 1) = (fnd k || decide (flD ys k = y)) := fun k hk => by
            have htk : ys.take (k + 1) = ys.take k ++ [flD ys k] := by rw [List.take_add_one, List.getElem?_eq_getElem hk, flD_get hk]; rfl
            rw [hfnd]
            simp only [htk, ← Bool.decide_or]
            refine decide_eq_decide.2 ?_
            rw [List.mem_append, List.mem_singleton, eq_comm (a := y)]
          clear hfnd hy
          refine loopK_I [1, 2, 3, 4, 11, 13, 15, 16, 21, 22] (fun k : Nat => k ≤ ys.length) (fun k => ⟨[(1, I dx), (2, I dy), (3, I 1), (4, .ptr 0 0 3), (11, flV true xs), (13, flV true ys), (15, I i), (16, .ptr 2 0 5), (21, B (fnd k)), (22, I k)], [(⟨24, 3, [I W, I H, BA b l]⟩ : AObj), ⟨24, 3, [I W, I H, BR false lm]⟩, ⟨34, 5, [B false, I (mvA W H dx dy (flD xs i)), I (flD xs i).f, I (flD xs i).n, B true]⟩]⟩) (fun k => ys.length - k) 0 (by omega) (by simp only [↓RP, RG, FX, RQ, ↓reduceIte, Nat.reduceEqDiff, reduceCtorEq, Nat.reduceBEq, Nat.reduceAdd, Nat.reduceLeDiff]; rw [hf0]; rfl) ?_
          intro k hk
          by_cases hlk : k < ys.length
          · have hfk := hfs k hlk
            have hpy : pX (some (true, 5)) ((fls ys).drop (k * 5)) = some (.agg [B (flD ys k).w, I (flD ys k).a, I (flD ys k).f, I (flD ys k).n, B (flD ys k).z]) := pX_fls hlk
            cases hfc : fnd k with
            | true =>
              rw [hfc, Bool.true_or] at hfk
              simp (disch := first | assumption | omega | rfl | simp only [RH]) only [↓RP, RG, FX, RQ, ↓reduceIte, Nat.reduceEqDiff, reduceCtorEq, Nat.reduceBEq, Nat.reduceAdd, Nat.reduceLeDiff, flV, Int.toNat_natCast]
              exact ⟨k + 1, hlk, by rw [hfk]; rfl, by omega⟩
            | false =>
              rw [hfc, Bool.false_or] at hfk
              have hq := fl_eqb (flD ys k) ⟨false, mvA W H dx dy (flD xs i), (flD xs i).f, (flD xs i).n, true⟩ (decide (flD ys k = y)) (by rw [decide_eq_true_iff, hyd])
              simp only at hq
              simp (disch := first | assumption | omega | rfl | simp only [RH]) only [↓RP, RG, FX, RQ, ↓reduceIte, Nat.reduceEqDiff, reduceCtorEq, Nat.reduceBEq, Nat.reduceAdd, Nat.reduceLeDiff, flV, hpy, Int.toNat_natCast, eqlKT, eqK_bool, eqK_int, eqK_nil, Option.map_some, hq]
              exact ⟨k + 1, hlk, by rw [hfk]; rfl, by omega⟩
          · obtain rfl : ys.length = k := by omega
            rw [hfe]
            simp (disch := first | assumption | omega | rfl | simp only [RH]) only [↓RP, RG, FX, RQ, ↓reduceIte, Nat.reduceEqDiff, reduceCtorEq, Nat.reduceBEq, Nat.reduceAdd, Nat.reduceLeDiff, flV, Int.toNat_natCast]
            refine ⟨i + 1, hlt, (Wk.drop (hb := []) (h1 := []) (gs := [_, _, _]) 8 [0, 1] rfl (by decide) (by simp) (by simp)).trans (Wk.of_eq ?_), by omega⟩
            simp only [RK, List.idxOf?_cons, List.idxOf?_nil, Nat.reduceBEq, Option.map_some, Option.map_none, List.map_cons, List.map_nil, List.getD_cons_zero, List.getD_cons_succ, Bool.false_eq_true, ↓reduceIte, Nat.add_zero, List.append_nil, map_ren_bools, map_ren_fls]
            rfl
        | false =>
          rw [hw, hz] at hpx
          have e1 : ((flD xs i).a + dy) % (H : Int) = ((mvA W H dx dy (flD xs i) : Nat) : Int) := by
            unfold mvA; rw [hw]
            have := Int.emod_nonneg ((flD xs i).a + dy) (show (H : Int) ≠ 0 by omega)
            simp only [if_true, if_false, Bool.false_eq_true]
            omega
          have c1 := mod_c (i := (flD xs i).a + dy) (n := H) (by omega) (by omega) (by omega) (by omega)
          rw [e1] at c1
          have e2 : ((flD xs i).f + dx) % (W : Int) = ((mvB W H dx dy (flD xs i) : Nat) : Int) := by
            unfold mvB; rw [hw]
            have := Int.emod_nonneg ((flD xs i).f + dx) (show (W : Int) ≠ 0 by omega)
            simp only [if_true, if_false, Bool.false_eq_true]
            omega
          have c2 := mod_c (i := (flD xs i).f + dx) (n := W) (by omega) (by omega) (by omega) (by omega)
          rw [e2] at c2
          have hy : mvF W H dx dy (flD xs i) = ⟨false, mvA W H dx dy (flD xs i), (mvB W H dx dy (flD xs i)), (flD xs i).n, false⟩ := by
            unfold mvF; rw [hw, hz]; rfl
          rw [hy] at hmv
          simp (disch := first | assumption | omega | rfl | simp only [RH]) only [↓RP, RG, FX, RQ, ↓reduceIte, Nat.reduceEqDiff, reduceCtorEq, Nat.reduceBEq, Nat.reduceAdd, Nat.reduceLeDiff, flV, hpx, Int.toNat_natCast]
          refine callK_F 6 c1 (by simp (disch := first | assumption | omega | rfl | simp only [RH]) only [↓RP, RG, FX, RQ, ↓reduceIte, Nat.reduceEqDiff, reduceCtorEq, Nat.reduceBEq, Nat.reduceAdd, Nat.reduceLeDiff, RA] <;> rfl) (.inl rfl) ?_
          simp (disch := first | assumption | omega | rfl | simp only [RH]) only [↓RP, RG, FX, RQ, ↓reduceIte, Nat.reduceEqDiff, reduceCtorEq, Nat.reduceBEq, Nat.reduceAdd, Nat.reduceLeDiff, flV, Int.toNat_natCast]
          refine callK_F 6 c2 (by simp (disch := first | assumption | omega | rfl | simp only [RH]) only [↓RP, RG, FX, RQ, ↓reduceIte, Nat.reduceEqDiff, reduceCtorEq, Nat.reduceBEq, Nat.reduceAdd, Nat.reduceLeDiff, RA] <;> rfl) (.inl rfl) ?_
          simp (disch := first | assumption | omega | rfl | simp only [RH]) only [↓RP, RG, FX, RQ, ↓reduceIte, Nat.reduceEqDiff, reduceCtorEq, Nat.reduceBEq, Nat.reduceAdd, Nat.reduceLeDiff, flV, Int.toNat_natCast]
          obtain ⟨y, hyd⟩ : ∃ y : Fl, y = ⟨false, mvA W H dx dy (flD xs i), (mvB W H dx dy (flD xs i)), (flD xs i).n, false⟩ := ⟨_, rfl⟩
          rw [← hyd] at hmv
          obtain ⟨fnd, hfnd⟩ : ∃ fnd : Nat → Bool, fnd = fun k => decide (y ∈ ys.take k) := ⟨_, rfl⟩
          have hf0 : fnd 0 = false := by rw [hfnd]; simp
          have hfe : fnd ys.length = true := by rw [hfnd]; simp only [List.take_length]; exact decide_eq_true hmv
          have hfs : ∀ k, k < ys.length → fnd (k + 1) = (fnd k || decide (flD ys k = y)) := fun k hk => by
            have htk : ys.take (k + 1) = ys.take k ++ [flD ys k] := by rw [List.take_add_one, List.getElem?_eq_getElem hk, flD_get hk]; rfl
            rw [hfnd]
            simp only [htk, ← Bool.decide_or]
            refine decide_eq_decide.2 ?_
            rw [List.mem_append, List.mem_singleton, eq_comm (a := y)]
          clear hfnd hy
          refine loopK_I [1, 2, 3, 4, 11, 13, 15, 16, 21, 22] (fun k : Nat => k ≤ ys.length) (fun k => ⟨[(1, I dx), (2, I dy), (3, I 1), (4, .ptr 0 0 3), (11, flV true xs), (13, flV true ys), (15, I i), (16, .ptr 2 0 5), (21, B (fnd k)), (22, I k)], [(⟨24, 3, [I W, I H, BA b l]⟩ : AObj), ⟨24, 3, [I W, I H, BR false lm]⟩, ⟨34, 5, [B false, I (mvA W H dx dy (flD xs i)), I (mvB W H dx dy (flD xs i)), I (flD xs i).n, B false]⟩]⟩) (fun k => ys.length - k) 0 (by omega) (by simp only [↓RP, RG, FX, RQ, ↓reduceIte, Nat.reduceEqDiff, reduceCtorEq, Nat.reduceBEq, Nat.reduceAdd, Nat.reduceLeDiff]; rw [hf0]; rfl) ?_
          intro k hk
          by_cases hlk : k < ys.length
          · have hfk := hfs k hlk
            have hpy : pX (some (true, 5)) ((fls ys).drop (k * 5)) = some (.agg [B (flD ys k).w, I (flD ys k).a, I (flD ys k).f, I (flD ys k).n, B (flD ys k).z]) := pX_fls hlk
            cases hfc : fnd k with
            | true =>
              rw [hfc, Bool.true_or] at hfk
              simp (disch := first | assumption | omega | rfl | simp only [RH]) only [↓RP, RG, FX, RQ, ↓reduceIte, Nat.reduceEqDiff, reduceCtorEq, Nat.reduceBEq, Nat.reduceAdd, Nat.reduceLeDiff, flV, Int.toNat_natCast]
              exact ⟨k + 1, hlk, by rw [hfk]; rfl, by omega⟩
            | false =>
              rw [hfc, Bool.false_or] at hfk
              have hq := fl_eqb (flD ys k) ⟨false, mvA W H dx dy (flD xs i), (mvB W H dx dy (flD xs i)), (flD xs i).n, false⟩ (decide (flD ys k = y)) (by rw [decide_eq_true_iff, hyd])
              simp only at hq
              simp (disch := first | assumption | omega | rfl | simp only [RH]) only [↓RP, RG, FX, RQ, ↓reduceIte, Nat.reduceEqDiff, reduceCtorEq, Nat.reduceBEq, Nat.reduceAdd, Nat.reduceLeDiff, flV, hpy, Int.toNat_natCast, eqlKT, eqK_bool, eqK_int, eqK_nil, Option.map_some, hq]
              exact ⟨k + 1, hlk, by rw [hfk]; rfl, by omega⟩
          · obtain rfl : ys.length = k := by omega
            rw [hfe]
            simp (disch := first | assumption | omega | rfl | simp only [RH]) only [↓RP, RG, FX, RQ, ↓reduceIte, Nat.reduceEqDiff, reduceCtorEq, Nat.reduceBEq, Nat.reduceAdd, Nat.reduceLeDiff, flV, Int.toNat_natCast]
            refine ⟨i + 1, hlt, (Wk.drop (hb := []) (h1 := []) (gs := [_, _, _]) 8 [0, 1] rfl (by decide) (by simp) (by simp)).trans (Wk.of_eq ?_), by omega⟩
            simp only [RK, List.idxOf?_cons, List.idxOf?_nil, Nat.reduceBEq, Option.map_some, Option.map_none, List.map_cons, List.map_nil, List.getD_cons_zero, List.getD_cons_succ, Bool.false_eq_true, ↓reduceIte, Nat.add_zero, List.append_nil, map_ren_bools, map_ren_fls]
            rfl
    · obtain rfl : xs.length = i := by omega
      simp (disch := first | assumption | omega | rfl | simp only [RH]) only [↓RP, RG, FX, RQ, ↓reduceIte, Nat.reduceEqDiff, reduceCtorEq, Nat.reduceBEq, Nat.reduceAdd, Nat.reduceLeDiff, flV]
      by_cases h2 : 2 * H ≤ 64
      rotate_left
      · refine callK_F 6 (tile12_no hW0 hH0 hW hH b hn h2) (by simp (disch := first | assumption | omega | rfl | simp only [RH]) only [↓RP, RG, FX, RQ, ↓reduceIte, Nat.reduceEqDiff, reduceCtorEq, Nat.reduceBEq, Nat.reduceAdd, Nat.reduceLeDiff, RA] <;> rfl) (.inl (by simp [allFresh, bools_fresh])) ?_
        simp (disch := first | assumption | omega | rfl | simp only [RH]) only [↓RP, RG, FX, RQ, ↓reduceIte, Nat.reduceEqDiff, reduceCtorEq, Nat.reduceBEq, Nat.reduceAdd, Nat.reduceLeDiff]
        refine callK_F 6 (alive8_c) (by simp (disch := first | assumption | omega | rfl | simp only [RH]) only [↓RP, RG, FX, RQ, ↓reduceIte, Nat.reduceEqDiff, reduceCtorEq, Nat.reduceBEq, Nat.reduceAdd, Nat.reduceLeDiff, RA] <;> rfl) (.inl (by simp [allFresh, ints_fresh, bools_fresh])) ?_
        simp (disch := first | assumption | omega | rfl | simp only [RH]) only [↓RP, RG, FX, RQ, ↓reduceIte, Nat.reduceEqDiff, reduceCtorEq, Nat.reduceBEq, Nat.reduceAdd, Nat.reduceLeDiff]
        rw [resVal_1 rfl]; simp (disch := first | assumption | omega | rfl | simp only [RH]) only [↓RP, RG, FX, RQ, ↓reduceIte, Nat.reduceEqDiff, reduceCtorEq, Nat.reduceBEq, Nat.reduceAdd, Nat.reduceLeDiff, RS]
      obtain ⟨zs, lt, f2, q3, k3, k4, r1, r2, r3⟩ := hrest h2
      refine callK_F 6 f2 (by simp (disch := first | assumption | omega | rfl | simp only [RH]) only [↓RP, RG, FX, RQ, ↓reduceIte, Nat.reduceEqDiff, reduceCtorEq, Nat.reduceBEq, Nat.reduceAdd, Nat.reduceLeDiff, RA] <;> rfl) (.inl (by simp [allFresh, bools_fresh])) ?_
      simp (disch := first | assumption | omega | rfl | simp only [RH]) only [↓RP, RG, FX, RQ, ↓reduceIte, Nat.reduceEqDiff, reduceCtorEq, Nat.reduceBEq, Nat.reduceAdd, Nat.reduceLeDiff, flV]
      refine callK_F 6 q3 (by simp (disch := first | assumption | omega | rfl | simp only [RH]) only [↓RP, RG, FX, RQ, ↓reduceIte, Nat.reduceEqDiff, reduceCtorEq, Nat.reduceBEq, Nat.reduceAdd, Nat.reduceLeDiff, RA] <;> rfl) (.inl (flV_fresh _ _)) ?_
      simp (disch := first | assumption | omega | rfl | simp only [RH]) only [↓RP, RG, FX, RQ, ↓reduceIte, Nat.reduceEqDiff, reduceCtorEq, Nat.reduceBEq, Nat.reduceAdd, Nat.reduceLeDiff, flV]
      refine callK_F 6 (p1) (by simp (disch := first | assumption | omega | rfl | simp only [RH]) only [↓RP, RG, FX, RQ, ↓reduceIte, Nat.reduceEqDiff, reduceCtorEq, Nat.reduceBEq, Nat.reduceAdd, Nat.reduceLeDiff, RA] <;> rfl) (.inl (by simp [allFresh, ints_fresh, bools_fresh])) ?_
      simp (disch := first | assumption | omega | rfl | simp only [RH]) only [↓RP, RG, FX, RQ, ↓reduceIte, Nat.reduceEqDiff, reduceCtorEq, Nat.reduceBEq, Nat.reduceAdd, Nat.reduceLeDiff, flV]
      refine callK_F 6 k3 (by simp (disch := first | assumption | omega | rfl | simp only [RH]) only [↓RP, RG, FX, RQ, ↓reduceIte, Nat.reduceEqDiff, reduceCtorEq, Nat.reduceBEq, Nat.reduceAdd, Nat.reduceLeDiff, RA] <;> rfl) (.inl rfl) ?_
      simp (disch := first | assumption | omega | rfl | simp only [RH]) only [↓RP, RG, FX, RQ, ↓reduceIte, Nat.reduceEqDiff, reduceCtorEq, Nat.reduceBEq, Nat.reduceAdd, Nat.reduceLeDiff, flV]
      refine loopK_I [4, 11, 25, 26, 27, 28, 29, 30, 31, 32, 33, 34, 35] (fun i : Nat => i ≤ xs.length) (fun i => ⟨[(4, .ptr 0 0 3), (11, flV true xs), (25, flV true zs), (26, I 0), (27, I (cA : Nat)), (28, I (cB : Nat)), (29, I 0), (30, I ((2 * cA : Nat) : Int)), (31, I ((2 * cB : Nat) : Int)), (32, I 0), (33, I ((xs.take i).filter wz1).length), (34, I 0), (35, I i)], [(⟨24, 3, [I W, I H, BA b l]⟩ : AObj), ⟨24, 3, [I W, I H, BR false lm]⟩, ⟨24, 3, [I W, I ((2 * H : Nat) : Int), BR false lt]⟩]⟩) (fun i => xs.length - i) 0 (by omega) (by simp only [↓RP, RG, FX, RQ, ↓reduceIte, Nat.reduceEqDiff, reduceCtorEq, Nat.reduceBEq, Nat.reduceAdd, Nat.reduceLeDiff]; rfl) ?_
      intro i hi
      by_cases hlt : i < xs.length
      · have z0 := pX_fl0 hlt
        have z4 : ((fls xs).drop (i * 5 + 4))[0]? = some (B (flD xs i).z) := by rw [← List.drop_drop]; exact pX_fl4 hlt
        have z4' := pX_fl4 hlt
        have hft := filter_take wz1 hlt
        have hfl := List.length_filter_le wz1 (xs.take i)
        have htl : (xs.take i).length ≤ xs.length := by rw [List.length_take]; omega
        cases hw : (flD xs i).w with
        | true =>
          cases hz : (flD xs i).z with
          | true =>
            rw [show wz1 (flD xs i) = true by show ((flD xs i).w && (flD xs i).z) = true; rw [hw, hz]; rfl, if_pos rfl] at hft
            rw [hw] at z0
            rw [hz] at z4 z4'
            simp (disch := first | assumption | omega | rfl | simp only [RH]) only [↓RP, RG, FX, RQ, ↓reduceIte, Nat.reduceEqDiff, reduceCtorEq, Nat.reduceBEq, Nat.reduceAdd, Nat.reduceLeDiff, flV, z0, z4, z4', Int.toNat_natCast]
            exact ⟨i + 1, hlt, by rw [hft, List.length_append]; rfl, by omega⟩
          | false =>
            rw [show wz1 (flD xs i) = false by show ((flD xs i).w && (flD xs i).z) = false; rw [hw, hz]; rfl, if_neg (by simp), List.append_nil] at hft
            rw [hw] at z0
            rw [hz] at z4 z4'
            simp (disch := first | assumption | omega | rfl | simp only [RH]) only [↓RP, RG, FX, RQ, ↓reduceIte, Nat.reduceEqDiff, reduceCtorEq, Nat.reduceBEq, Nat.reduceAdd, Nat.reduceLeDiff, flV, z0, z4, z4', Int.toNat_natCast]
            exact ⟨i + 1, hlt, by rw [hft]; rfl, by omega⟩
        | false =>
          rw [show wz1 (flD xs i) = false by show ((flD xs i).w && (flD xs i).z) = false; rw [hw]; rfl, if_neg (by simp), List.append_nil] at hft
          rw [hw] at z0
          simp (disch := first | assumption | omega | rfl | simp only [RH]) only [↓RP, RG, FX, RQ, ↓reduceIte, Nat.reduceEqDiff, reduceCtorEq, Nat.reduceBEq, Nat.reduceAdd, Nat.reduceLeDiff, flV, z0, Int.toNat_natCast]
          exact ⟨i + 1, hlt, by rw [hft]; rfl, by omega⟩
      · obtain rfl : xs.length = i := by omega
        rw [List.take_length, r1]
        simp (disch := first | assumption | omega | rfl | simp only [RH]) only [↓RP, RG, FX, RQ, ↓reduceIte, Nat.reduceEqDiff, reduceCtorEq, Nat.reduceBEq, Nat.reduceAdd, Nat.reduceLeDiff, flV]
        refine loopK_I [4, 11, 25, 26, 27, 28, 29, 30, 31, 32, 33, 34, 36] (fun i : Nat => i ≤ zs.length) (fun i => ⟨[(4, .ptr 0 0 3), (11, flV true xs), (25, flV true zs), (26, I 0), (27, I (cA : Nat)), (28, I (cB : Nat)), (29, I 0), (30, I ((2 * cA : Nat) : Int)), (31, I ((2 * cB : Nat) : Int)), (32, I 0), (33, I (wc : Nat)), (34, I ((zs.take i).filter (wz2 H)).length), (36, I i)], [(⟨24, 3, [I W, I H, BA b l]⟩ : AObj), ⟨24, 3, [I W, I H, BR false lm]⟩, ⟨24, 3, [I W, I ((2 * H : Nat) : Int), BR false lt]⟩]⟩) (fun i => zs.length - i) 0 (by omega) (by simp only [↓RP, RG, FX, RQ, ↓reduceIte, Nat.reduceEqDiff, reduceCtorEq, Nat.reduceBEq, Nat.reduceAdd, Nat.reduceLeDiff]; rfl) ?_
        intro i hi
        by_cases hlt : i < zs.length
        · have z0 := pX_fl0 hlt
          have z3 : ((fls zs).drop (i * 5 + 3))[0]? = some (I (flD zs i).n) := by rw [← List.drop_drop]; exact pX_fl3 hlt
          have z3' := pX_fl3 hlt
          have z4 : ((fls zs).drop (i * 5 + 4))[0]? = some (B (flD zs i).z) := by rw [← List.drop_drop]; exact pX_fl4 hlt
          have z4' := pX_fl4 hlt
          have hft := filter_take (wz2 H) hlt
          have hfl := List.length_filter_le (wz2 H) (zs.take i)
          have htl : (zs.take i).length ≤ zs.length := by rw [List.length_take]; omega
          cases hw : (flD zs i).w with
          | true =>
            cases hz : (flD zs i).z with
            | true =>
              rw [hw] at z0
              rw [hz] at z4 z4'
              by_cases hn2 : (flD zs i).n = 2 * H
              · rw [show wz2 H (flD zs i) = true by unfold wz2; rw [hw, hz, decide_eq_true hn2]; rfl, if_pos rfl] at hft
                simp (disch := first | assumption | omega | rfl | simp only [RH]) only [↓RP, RG, FX, RQ, ↓reduceIte, Nat.reduceEqDiff, reduceCtorEq, Nat.reduceBEq, Nat.reduceAdd, Nat.reduceLeDiff, flV, z0, z3, z3', z4, z4', Int.toNat_natCast]
                exact ⟨i + 1, hlt, by rw [hft, List.length_append]; rfl, by omega⟩
              · rw [show wz2 H (flD zs i) = false by unfold wz2; rw [hw, hz, decide_eq_false hn2]; rfl, if_neg (by simp), List.append_nil] at hft
                simp (disch := first | assumption | omega | rfl | simp only [RH]) only [↓RP, RG, FX, RQ, ↓reduceIte, Nat.reduceEqDiff, reduceCtorEq, Nat.reduceBEq, Nat.reduceAdd, Nat.reduceLeDiff, flV, z0, z3, z3', z4, z4', Int.toNat_natCast]
                exact ⟨i + 1, hlt, by rw [hft]; rfl, by omega⟩
            | false =>
              rw [show wz2 H (flD zs i) = false by unfold wz2; rw [hw, hz]; rfl, if_neg (by simp), List.append_nil] at hft
              rw [hw] at z0
              rw [hz] at z4 z4'
              simp (disch := first | assumption | omega | rfl | simp only [RH]) only [↓RP, RG, FX, RQ, ↓reduceIte, Nat.reduceEqDiff, reduceCtorEq, Nat.reduceBEq, Nat.reduceAdd, Nat.reduceLeDiff, flV, z0, z3, z3', z4, z4', Int.toNat_natCast]
              exact ⟨i + 1, hlt, by rw [hft]; rfl, by omega⟩
          | false =>
            rw [show wz2 H (flD zs i) = false by unfold wz2; rw [hw]; rfl, if_neg (by simp), List.append_nil] at hft
            rw [hw] at z0
            simp (disch := first | assumption | omega | rfl | simp only [RH]) only [↓RP, RG, FX, RQ, ↓reduceIte, Nat.reduceEqDiff, reduceCtorEq, Nat.reduceBEq, Nat.reduceAdd, Nat.reduceLeDiff, flV, z0, Int.toNat_natCast]
            exact ⟨i + 1, hlt, by rw [hft]; rfl, by omega⟩
        · obtain rfl : zs.length = i := by omega
          rw [List.take_length, r2]
          simp (disch := first | assumption | omega | rfl | simp only [RH]) only [↓RP, RG, FX, RQ, ↓reduceIte, Nat.reduceEqDiff, reduceCtorEq, Nat.reduceBEq, Nat.reduceAdd, Nat.reduceLeDiff, flV]
          refine callK_F 6 (alive8_c) (by simp (disch := first | assumption | omega | rfl | simp only [RH]) only [↓RP, RG, FX, RQ, ↓reduceIte, Nat.reduceEqDiff, reduceCtorEq, Nat.reduceBEq, Nat.reduceAdd, Nat.reduceLeDiff, RA] <;> rfl) (.inl (by simp [allFresh, ints_fresh, bools_fresh])) ?_
          simp (disch := first | assumption | omega | rfl | simp only [RH]) only [↓RP, RG, FX, RQ, ↓reduceIte, Nat.reduceEqDiff, reduceCtorEq, Nat.reduceBEq, Nat.reduceAdd, Nat.reduceLeDiff]
          rw [resVal_1 rfl]; simp (disch := first | assumption | omega | rfl | simp only [RH]) only [↓RP, RG, FX, RQ, ↓reduceIte, Nat.reduceEqDiff, reduceCtorEq, Nat.reduceBEq, Nat.reduceAdd, Nat.reduceLeDiff, RS]
end
theorem floatMoved_c (w h : Int) (b : Bool) (l : List Bool) (dx dy s : Int) : Contract Tryd.prog 4 [GA w h b l, I dx, I dy, I s] (B true) := by
  by_cases hv : (!decide (600 < (l.length : Int)) && decide (gchk w h l.length = 0)) = true
  rotate_left
  · have hV := valid8_c w h b l
    rw [Bool.eq_false_iff.2 hv] at hV
    refine Contract.intro (effS [] false) 6 follows Tryd.func4 rfl rfl (by kernel_rfl) (Nat.le_of_ble_eq_true rfl) ?_
    simp (disch := first | assumption | omega | rfl | simp only [RH]) only [↓RP, RG, FX, RQ, ↓reduceIte, Nat.reduceEqDiff, reduceCtorEq, Nat.reduceBEq, Nat.reduceAdd, Nat.reduceLeDiff, args0_4]
    refine callK_F 6 (hV) (by simp (disch := first | assumption | omega | rfl | simp only [RH]) only [↓RP, RG, FX, RQ, ↓reduceIte, Nat.reduceEqDiff, reduceCtorEq, Nat.reduceBEq, Nat.reduceAdd, Nat.reduceLeDiff, RA] <;> rfl) (.inl (by simp [allFresh, ints_fresh, bools_fresh])) ?_
    simp (disch := first | assumption | omega | rfl | simp only [RH]) only [↓RP, RG, FX, RQ, ↓reduceIte, Nat.reduceEqDiff, reduceCtorEq, Nat.reduceBEq, Nat.reduceAdd, Nat.reduceLeDiff]
    refine callK_F 6 (alive8_c) (by simp (disch := first | assumption | omega | rfl | simp only [RH]) only [↓RP, RG, FX, RQ, ↓reduceIte, Nat.reduceEqDiff, reduceCtorEq, Nat.reduceBEq, Nat.reduceAdd, Nat.reduceLeDiff, RA] <;> rfl) (.inl (by simp [allFresh, ints_fresh, bools_fresh])) ?_
    simp (disch := first | assumption | omega | rfl | simp only [RH]) only [↓RP, RG, FX, RQ, ↓reduceIte, Nat.reduceEqDiff, reduceCtorEq, Nat.reduceBEq, Nat.reduceAdd, Nat.reduceLeDiff]
    rw [resVal_1 rfl]; simp (disch := first | assumption | omega | rfl | simp only [RH]) only [↓RP, RG, FX, RQ, ↓reduceIte, Nat.reduceEqDiff, reduceCtorEq, Nat.reduceBEq, Nat.reduceAdd, Nat.reduceLeDiff, RS]
  have hV := valid8_c w h b l
  rw [hv] at hV
  by_cases hs : s = 0 ∨ s = 1
  rotate_left
  · have g1 : s ≠ 0 := fun e => hs (.inl e)
    have g2 : s ≠ 1 := fun e => hs (.inr e)
    refine Contract.intro (effS [] false) 6 follows Tryd.func4 rfl rfl (by kernel_rfl) (Nat.le_of_ble_eq_true rfl) ?_
    simp (disch := first | assumption | omega | rfl | simp only [RH]) only [↓RP, RG, FX, RQ, ↓reduceIte, Nat.reduceEqDiff, reduceCtorEq, Nat.reduceBEq, Nat.reduceAdd, Nat.reduceLeDiff, args0_4]
    refine callK_F 6 (hV) (by simp (disch := first | assumption | omega | rfl | simp only [RH]) only [↓RP, RG, FX, RQ, ↓reduceIte, Nat.reduceEqDiff, reduceCtorEq, Nat.reduceBEq, Nat.reduceAdd, Nat.reduceLeDiff, RA] <;> rfl) (.inl (by simp [allFresh, ints_fresh, bools_fresh])) ?_
    simp (disch := first | assumption | omega | rfl | simp only [RH]) only [↓RP, RG, FX, RQ, ↓reduceIte, Nat.reduceEqDiff, reduceCtorEq, Nat.reduceBEq, Nat.reduceAdd, Nat.reduceLeDiff]
    refine callK_F 6 (alive8_c) (by simp (disch := first | assumption | omega | rfl | simp only [RH]) only [↓RP, RG, FX, RQ, ↓reduceIte, Nat.reduceEqDiff, reduceCtorEq, Nat.reduceBEq, Nat.reduceAdd, Nat.reduceLeDiff, RA] <;> rfl) (.inl (by simp [allFresh, ints_fresh, bools_fresh])) ?_
    simp (disch := first | assumption | omega | rfl | simp only [RH]) only [↓RP, RG, FX, RQ, ↓reduceIte, Nat.reduceEqDiff, reduceCtorEq, Nat.reduceBEq, Nat.reduceAdd, Nat.reduceLeDiff]
    rw [resVal_1 rfl]; simp (disch := first | assumption | omega | rfl | simp only [RH]) only [↓RP, RG, FX, RQ, ↓reduceIte, Nat.reduceEqDiff, reduceCtorEq, Nat.reduceBEq, Nat.reduceAdd, Nat.reduceLeDiff, RS]
  by_cases hd : -1000000000 ≤ dx ∧ dx ≤ 1000000000 ∧ -1000000000 ≤ dy ∧ dy ≤ 1000000000
  · obtain ⟨d1, d2, d3, d4⟩ := hd
    obtain ⟨W, H, rfl, rfl, hW0, hH0, hW, hH, hn, hl⟩ := valid8_of hv
    rcases hs with rfl | rfl
    · exact moved_c hW0 hH0 hW hH b hn hl true d1 d2 d3 d4
    · exact moved_c hW0 hH0 hW hH b hn hl false d1 d2 d3 d4
  have hbad : dx < -1000000000 ∨ (¬ dx < -1000000000 ∧ dx > 1000000000) ∨ (¬ dx < -1000000000 ∧ ¬ dx > 1000000000 ∧ dy < -1000000000) ∨ (¬ dx < -1000000000 ∧ ¬ dx > 1000000000 ∧ ¬ dy < -1000000000 ∧ dy > 1000000000) := by omega
  rcases hs with rfl | rfl
  · rcases hbad with h1 | ⟨h1, h2⟩ | ⟨h1, h2, h3⟩ | ⟨h1, h2, h3, h4⟩
    · refine Contract.intro (effS [] false) 6 follows Tryd.func4 rfl rfl (by kernel_rfl) (Nat.le_of_ble_eq_true rfl) ?_
      simp (disch := first | assumption | omega | rfl | simp only [RH]) only [↓RP, RG, FX, RQ, ↓reduceIte, Nat.reduceEqDiff, reduceCtorEq, Nat.reduceBEq, Nat.reduceAdd, Nat.reduceLeDiff, args0_4]
      refine callK_F 6 (hV) (by simp (disch := first | assumption | omega | rfl | simp only [RH]) only [↓RP, RG, FX, RQ, ↓reduceIte, Nat.reduceEqDiff, reduceCtorEq, Nat.reduceBEq, Nat.reduceAdd, Nat.reduceLeDiff, RA] <;> rfl) (.inl (by simp [allFresh, ints_fresh, bools_fresh])) ?_
      simp (disch := first | assumption | omega | rfl | simp only [RH]) only [↓RP, RG, FX, RQ, ↓reduceIte, Nat.reduceEqDiff, reduceCtorEq, Nat.reduceBEq, Nat.reduceAdd, Nat.reduceLeDiff]
      refine callK_F 6 (alive8_c) (by simp (disch := first | assumption | omega | rfl | simp only [RH]) only [↓RP, RG, FX, RQ, ↓reduceIte, Nat.reduceEqDiff, reduceCtorEq, Nat.reduceBEq, Nat.reduceAdd, Nat.reduceLeDiff, RA] <;> rfl) (.inl (by simp [allFresh, ints_fresh, bools_fresh])) ?_
      simp (disch := first | assumption | omega | rfl | simp only [RH]) only [↓RP, RG, FX, RQ, ↓reduceIte, Nat.reduceEqDiff, reduceCtorEq, Nat.reduceBEq, Nat.reduceAdd, Nat.reduceLeDiff]
      rw [resVal_1 rfl]; simp (disch := first | assumption | omega | rfl | simp only [RH]) only [↓RP, RG, FX, RQ, ↓reduceIte, Nat.reduceEqDiff, reduceCtorEq, Nat.reduceBEq, Nat.reduceAdd, Nat.reduceLeDiff, RS]
    · refine Contract.intro (effS [] false) 6 follows Tryd.func4 rfl rfl (by kernel_rfl) (Nat.le_of_ble_eq_true rfl) ?_
      simp (disch := first | assumption | omega | rfl | simp only [RH]) only [↓RP, RG, FX, RQ, ↓reduceIte, Nat.reduceEqDiff, reduceCtorEq, Nat.reduceBEq, Nat.reduceAdd, Nat.reduceLeDiff, args0_4]
      refine callK_F 6 (hV) (by simp (disch := first | assumption | omega | rfl | simp only [RH]) only [↓RP, RG, FX, RQ, ↓reduceIte, Nat.reduceEqDiff, reduceCtorEq, Nat.reduceBEq, Nat.reduceAdd, Nat.reduceLeDiff, RA] <;> rfl) (.inl (by simp [allFresh, ints_fresh, bools_fresh])) ?_
      simp (disch := first | assumption | omega | rfl | simp only [RH]) only [↓RP, RG, FX, RQ, ↓reduceIte, Nat.reduceEqDiff, reduceCtorEq, Nat.reduceBEq, Nat.reduceAdd, Nat.reduceLeDiff]
      refine callK_F 6 (alive8_c) (by simp (disch := first | assumption | omega | rfl | simp only [RH]) only [↓RP, RG, FX, RQ, ↓reduceIte, Nat.reduceEqDiff, reduceCtorEq, Nat.reduceBEq, Nat.reduceAdd, Nat.reduceLeDiff, RA] <;> rfl) (.inl (by simp [allFresh, ints_fresh, bools_fresh])) ?_
      simp (disch := first | assumption | omega | rfl | simp only [RH]) only [↓RP, RG, FX, RQ, ↓reduceIte, Nat.reduceEqDiff, reduceCtorEq, Nat.reduceBEq, Nat.reduceAdd, Nat.reduceLeDiff]
      rw [resVal_1 rfl]; simp (disch := first | assumption | omega | rfl | simp only [RH]) only [↓RP, RG, FX, RQ, ↓reduceIte, Nat.reduceEqDiff, reduceCtorEq, Nat.reduceBEq, Nat.reduceAdd, Nat.reduceLeDiff, RS]
    · refine Contract.intro (effS [] false) 6 follows Tryd.func4 rfl rfl (by kernel_rfl) (Nat.le_of_ble_eq_true rfl) ?_
      simp (disch := first | assumption | omega | rfl | simp only [RH]) only [↓RP, RG, FX, RQ, ↓reduceIte, Nat.reduceEqDiff, reduceCtorEq, Nat.reduceBEq, Nat.reduceAdd, Nat.reduceLeDiff, args0_4]
      refine callK_F 6 (hV) (by simp (disch := first | assumption | omega | rfl | simp only [RH]) only [↓RP, RG, FX, RQ, ↓reduceIte, Nat.reduceEqDiff, reduceCtorEq, Nat.reduceBEq, Nat.reduceAdd, Nat.reduceLeDiff, RA] <;> rfl) (.inl (by simp [allFresh, ints_fresh, bools_fresh])) ?_
      simp (disch := first | assumption | omega | rfl | simp only [RH]) only [↓RP, RG, FX, RQ, ↓reduceIte, Nat.reduceEqDiff, reduceCtorEq, Nat.reduceBEq, Nat.reduceAdd, Nat.reduceLeDiff]
      refine callK_F 6 (alive8_c) (by simp (disch := first | assumption | omega | rfl | simp only [RH]) only [↓RP, RG, FX, RQ, ↓reduceIte, Nat.reduceEqDiff, reduceCtorEq, Nat.reduceBEq, Nat.reduceAdd, Nat.reduceLeDiff, RA] <;> rfl) (.inl (by simp [allFresh, ints_fresh, bools_fresh])) ?_
      simp (disch := first | assumption | omega | rfl | simp only [RH]) only [↓RP, RG, FX, RQ, ↓reduceIte, Nat.reduceEqDiff, reduceCtorEq, Nat.reduceBEq, Nat.reduceAdd, Nat.reduceLeDiff]
      rw [resVal_1 rfl]; simp (disch := first | assumption | omega | rfl | simp only [RH]) only [↓RP, RG, FX, RQ, ↓reduceIte, Nat.reduceEqDiff, reduceCtorEq, Nat.reduceBEq, Nat.reduceAdd, Nat.reduceLeDiff, RS]
    · refine Contract.intro (effS [] false) 6 follows Tryd.func4 rfl rfl (by kernel_rfl) (Nat.le_of_ble_eq_true rfl) ?_
      simp (disch := first | assumption | omega | rfl | simp only [RH]) only [↓RP, RG, FX, RQ, ↓reduceIte, Nat.reduceEqDiff, reduceCtorEq, Nat.reduceBEq, Nat.reduceAdd, Nat.reduceLeDiff, args0_4]
      refine callK_F 6 (hV) (by simp (disch := first | assumption | omega | rfl | simp only [RH]) only [↓RP, RG, FX, RQ, ↓reduceIte, Nat.reduceEqDiff, reduceCtorEq, Nat.reduceBEq, Nat.reduceAdd, Nat.reduceLeDiff, RA] <;> rfl) (.inl (by simp [allFresh, ints_fresh, bools_fresh])) ?_
      simp (disch := first | assumption | omega | rfl | simp only [RH]) only [↓RP, RG, FX, RQ, ↓reduceIte, Nat.reduceEqDiff, reduceCtorEq, Nat.reduceBEq, Nat.reduceAdd, Nat.reduceLeDiff]
      refine callK_F 6 (alive8_c) (by simp (disch := first | assumption | omega | rfl | simp only [RH]) only [↓RP, RG, FX, RQ, ↓reduceIte, Nat.reduceEqDiff, reduceCtorEq, Nat.reduceBEq, Nat.reduceAdd, Nat.reduceLeDiff, RA] <;> rfl) (.inl (by simp [allFresh, ints_fresh, bools_fresh])) ?_
      simp (disch := first | assumption | omega | rfl | simp only [RH]) only [↓RP, RG, FX, RQ, ↓reduceIte, Nat.reduceEqDiff, reduceCtorEq, Nat.reduceBEq, Nat.reduceAdd, Nat.reduceLeDiff]
      rw [resVal_1 rfl]; simp (disch := first | assumption | omega | rfl | simp only [RH]) only [↓RP, RG, FX, RQ, ↓reduceIte, Nat.reduceEqDiff, reduceCtorEq, Nat.reduceBEq, Nat.reduceAdd, Nat.reduceLeDiff, RS]
  · rcases hbad with h1 | ⟨h1, h2⟩ | ⟨h1, h2, h3⟩ | ⟨h1, h2, h3, h4⟩
    · refine Contract.intro (effS [] false) 6 follows Tryd.func4 rfl rfl (by kernel_rfl) (Nat.le_of_ble_eq_true rfl) ?_
      simp (disch := first | assumption | omega | rfl | simp only [RH]) only [↓RP, RG, FX, RQ, ↓reduceIte, Nat.reduceEqDiff, reduceCtorEq, Nat.reduceBEq, Nat.reduceAdd, Nat.reduceLeDiff, args0_4]
      refine callK_F 6 (hV) (by simp (disch := first | assumption | omega | rfl | simp only [RH]) only [↓RP, RG, FX, RQ, ↓reduceIte, Nat.reduceEqDiff, reduceCtorEq, Nat.reduceBEq, Nat.reduceAdd, Nat.reduceLeDiff, RA] <;> rfl) (.inl (by simp [allFresh, ints_fresh, bools_fresh])) ?_
      simp (disch := first | assumption | omega | rfl | simp only [RH]) only [↓RP, RG, FX, RQ, ↓reduceIte, Nat.reduceEqDiff, reduceCtorEq, Nat.reduceBEq, Nat.reduceAdd, Nat.reduceLeDiff]
      refine callK_F 6 (alive8_c) (by simp (disch := first | assumption | omega | rfl | simp only [RH]) only [↓RP, RG, FX, RQ, ↓reduceIte, Nat.reduceEqDiff, reduceCtorEq, Nat.reduceBEq, Nat.reduceAdd, Nat.reduceLeDiff, RA] <;> rfl) (.inl (by simp [allFresh, ints_fresh, bools_fresh])) ?_
      simp (disch := first | assumption | omega | rfl | simp only [RH]) only [↓RP, RG, FX, RQ, ↓reduceIte, Nat.reduceEqDiff, reduceCtorEq, Nat.reduceBEq, Nat.reduceAdd, Nat.reduceLeDiff]
      rw [resVal_1 rfl]; simp (disch := first | assumption | omega | rfl | simp only [RH]) only [↓RP, RG, FX, RQ, ↓reduceIte, Nat.reduceEqDiff, reduceCtorEq, Nat.reduceBEq, Nat.reduceAdd, Nat.reduceLeDiff, RS]
    · refine Contract.intro (effS [] false) 6 follows Tryd.func4 rfl rfl (by kernel_rfl) (Nat.le_of_ble_eq_true rfl) ?_
      simp (disch := first | assumption | omega | rfl | simp only [RH]) only [↓RP, RG, FX, RQ, ↓reduceIte, Nat.reduceEqDiff, reduceCtorEq, Nat.reduceBEq, Nat.reduceAdd, Nat.reduceLeDiff, args0_4]
      refine callK_F 6 (hV) (by simp (disch := first | assumption | omega | rfl | simp only [RH]) only [↓RP, RG, FX, RQ, ↓reduceIte, Nat.reduceEqDiff, reduceCtorEq, Nat.reduceBEq, Nat.reduceAdd, Nat.reduceLeDiff, RA] <;> rfl) (.inl (by simp [allFresh, ints_fresh, bools_fresh])) ?_
      simp (disch := first | assumption | omega | rfl | simp only [RH]) only [↓RP, RG, FX, RQ, ↓reduceIte, Nat.reduceEqDiff, reduceCtorEq, Nat.reduceBEq, Nat.reduceAdd, Nat.reduceLeDiff]
      refine callK_F 6 (alive8_c) (by simp (disch := first | assumption | omega | rfl | simp only [RH]) only [↓RP, RG, FX, RQ, ↓reduceIte, Nat.reduceEqDiff, reduceCtorEq, Nat.reduceBEq, Nat.reduceAdd, Nat.reduceLeDiff, RA] <;> rfl) (.inl (by simp [allFresh, ints_fresh, bools_fresh])) ?_
      simp (disch := first | assumption | omega | rfl | simp only [RH]) only [↓RP, RG, FX, RQ, ↓reduceIte, Nat.reduceEqDiff, reduceCtorEq, Nat.reduceBEq, Nat.reduceAdd, Nat.reduceLeDiff]
      rw [resVal_1 rfl]; simp (disch := first | assumption | omega | rfl | simp only [RH]) only [↓RP, RG, FX, RQ, ↓reduceIte, Nat.reduceEqDiff, reduceCtorEq, Nat.reduceBEq, Nat.reduceAdd, Nat.reduceLeDiff, RS]
    · refine Contract.intro (effS [] false) 6 follows Tryd.func4 rfl rfl (by kernel_rfl) (Nat.le_of_ble_eq_true rfl) ?_
      simp (disch := first | assumption | omega | rfl | simp only [RH]) only [↓RP, RG, FX, RQ, ↓reduceIte, Nat.reduceEqDiff, reduceCtorEq, Nat.reduceBEq, Nat.reduceAdd, Nat.reduceLeDiff, args0_4]
      refine callK_F 6 (hV) (by simp (disch := first | assumption | omega | rfl | simp only [RH]) only [↓RP, RG, FX, RQ, ↓reduceIte, Nat.reduceEqDiff, reduceCtorEq, Nat.reduceBEq, Nat.reduceAdd, Nat.reduceLeDiff, RA] <;> rfl) (.inl (by simp [allFresh, ints_fresh, bools_fresh])) ?_
      simp (disch := first | assumption | omega | rfl | simp only [RH]) only [↓RP, RG, FX, RQ, ↓reduceIte, Nat.reduceEqDiff, reduceCtorEq, Nat.reduceBEq, Nat.reduceAdd, Nat.reduceLeDiff]
      refine callK_F 6 (alive8_c) (by simp (disch := first | assumption | omega | rfl | simp only [RH]) only [↓RP, RG, FX, RQ, ↓reduceIte, Nat.reduceEqDiff, reduceCtorEq, Nat.reduceBEq, Nat.reduceAdd, Nat.reduceLeDiff, RA] <;> rfl) (.inl (by simp [allFresh, ints_fresh, bools_fresh])) ?_
      simp (disch := first | assumption | omega | rfl | simp only [RH]) only [↓RP, RG, FX, RQ, ↓reduceIte, Nat.reduceEqDiff, reduceCtorEq, Nat.reduceBEq, Nat.reduceAdd, Nat.reduceLeDiff]
      rw [resVal_1 rfl]; simp (disch := first | assumption | omega | rfl | simp only [RH]) only [↓RP, RG, FX, RQ, ↓reduceIte, Nat.reduceEqDiff, reduceCtorEq, Nat.reduceBEq, Nat.reduceAdd, Nat.reduceLeDiff, RS]
    · refine Contract.intro (effS [] false) 6 follows Tryd.func4 rfl rfl (by kernel_rfl) (Nat.le_of_ble_eq_true rfl) ?_
      simp (disch := first | assumption | omega | rfl | simp only [RH]) only [↓RP, RG, FX, RQ, ↓reduceIte, Nat.reduceEqDiff, reduceCtorEq, Nat.reduceBEq, Nat.reduceAdd, Nat.reduceLeDiff, args0_4]
      refine callK_F 6 (hV) (by simp (disch := first | assumption | omega | rfl | simp only [RH]) only [↓RP, RG, FX, RQ, ↓reduceIte, Nat.reduceEqDiff, reduceCtorEq, Nat.reduceBEq, Nat.reduceAdd, Nat.reduceLeDiff, RA] <;> rfl) (.inl (by simp [allFresh, ints_fresh, bools_fresh])) ?_
      simp (disch := first | assumption | omega | rfl | simp only [RH]) only [↓RP, RG, FX, RQ, ↓reduceIte, Nat.reduceEqDiff, reduceCtorEq, Nat.reduceBEq, Nat.reduceAdd, Nat.reduceLeDiff]
      refine callK_F 6 (alive8_c) (by simp (disch := first | assumption | omega | rfl | simp only [RH]) only [↓RP, RG, FX, RQ, ↓reduceIte, Nat.reduceEqDiff, reduceCtorEq, Nat.reduceBEq, Nat.reduceAdd, Nat.reduceLeDiff, RA] <;> rfl) (.inl (by simp [allFresh, ints_fresh, bools_fresh])) ?_
      simp (disch := first | assumption | omega | rfl | simp only [RH]) only [↓RP, RG, FX, RQ, ↓reduceIte, Nat.reduceEqDiff, reduceCtorEq, Nat.reduceBEq, Nat.reduceAdd, Nat.reduceLeDiff]
      rw [resVal_1 rfl]; simp (disch := first | assumption | omega | rfl | simp only [RH]) only [↓RP, RG, FX, RQ, ↓reduceIte, Nat.reduceEqDiff, reduceCtorEq, Nat.reduceBEq, Nat.reduceAdd, Nat.reduceLeDiff, RS]
end Go.Proofs.YtgjjdcoeleddaaaDoor
