/- Part 4 of the proof's own texts: the contracts of functions, and what they rest on. -/
import Derived.Test.YtllijejobeogdaaGreatJ1
import Derived.Test.YtllijejobeogdaaGreatJ3
import Derived.Test.YtllijejobeogdaaGreatJ2
set_option linter.unusedVariables false
set_option linter.unusedSimpArgs false
set_option maxRecDepth 100000
namespace Go.Proofs.YtllijejobeogdaaGreat
open Go Go.Proofs Go.AW
theorem size_c (w h : Int) (b : Bool) (l : List Bool) : Contract Tryz.prog 59 [GA w h b l] (.agg [I w, I h]) := by
  refine zi Tryz.func59 ?_
  refine zs ?_
  exact zq1
def thr (w1 h1 n1 w2 h2 n2 w3 h3 n3 : Int) : Int :=
  if gchk w1 h1 n1 ≠ 0 then gchk w1 h1 n1 else if gchk w2 h2 n2 ≠ 0 then gchk w2 h2 n2 else if gchk w3 h3 n3 ≠ 0 then gchk w3 h3 n3 else if w2 = w1 ∧ h2 = h1 ∧ w3 = w1 ∧ h3 = h1 then 0 else 2
theorem check3_c (w1 h1 : Int) (b1 : Bool) (l1 : List Bool) (w2 h2 : Int) (b2 : Bool) (l2 : List Bool) (w3 h3 : Int) (b3 : Bool) (l3 : List Bool) :
    Contract Tryz.prog 39 [.list false false 3 [I w1, I h1, BA b1 l1, I w2, I h2, BA b2 l2, I w3, I h3, BA b3 l3]] (I (thr w1 h1 l1.length w2 h2 l2.length w3 h3 l3.length)) := by
  refine zi Tryz.func39 ?_
  refine zs ?_
  refine loopK_WW [0, 8, 9, 10] (fun k : Nat => k ≤ 3 ∧ (0 < k → gchk w1 h1 l1.length = 0) ∧ (1 < k → gchk w2 h2 l2.length = 0) ∧ (2 < k → gchk w3 h3 l3.length = 0)) (fun k : Nat => ⟨[(0, .list false false 3 [I w1, I h1, BA b1 l1, I w2, I h2, BA b2 l2, I w3, I h3, BA b3 l3]), (8, .list false false 3 [I w1, I h1, BA b1 l1, I w2, I h2, BA b2 l2, I w3, I h3, BA b3 l3]), (9, I 3), (10, I k)], []⟩) (fun k => 3 - k) 0 (by simp) (Wk.of_eq kz) ?_
  rintro k ⟨hk, o1, o2, o3⟩
  obtain rfl | rfl | rfl | rfl : k = 0 ∨ k = 1 ∨ k = 2 ∨ k = 3 := by omega
  · simp (disch := first | assumption | omega | rfl | simp only [RH]) only [↓RP, RZ, ↓reduceIte, Nat.reduceEqDiff, reduceCtorEq, Nat.reduceBEq, Nat.reduceAdd, Nat.reduceLeDiff, Int.natCast_zero, Int.natCast_one, Int.cast_ofNat_Int, Int.toNat_zero, Int.toNat_one, Int.reduceToNat, Nat.zero_mul, Nat.one_mul, Nat.reduceMul]
    refine zc (gcheckP_c w1 h1 b1 l1) ?_
    by_cases hz : gchk w1 h1 l1.length = 0
    · simp (disch := first | assumption | omega | rfl | simp only [RH]) only [↓RP, RZ, ↓reduceIte, Nat.reduceEqDiff, reduceCtorEq, Nat.reduceBEq, Nat.reduceAdd, Nat.reduceLeDiff, Int.natCast_zero, Int.natCast_one, Int.cast_ofNat_Int, Int.toNat_zero, Int.toNat_one, Int.reduceToNat, Nat.zero_mul, Nat.one_mul, Nat.reduceMul]
      exact ⟨1, ⟨by omega, by intro _; first | assumption | exact o1 (by omega) | omega, by intro _; first | assumption | exact o2 (by omega) | omega, by intro _; first | assumption | exact o3 (by omega) | omega⟩, (Wk.drop (hb := []) (h1 := []) (gs := [_]) 8 [] rfl (by simp) (by simp) (by simp)).trans (Wk.of_eq (by simp only [RK, List.idxOf?_cons, List.idxOf?_nil, Nat.reduceBEq, Option.map_some, Option.map_none, List.map_cons, List.map_nil, List.getD_cons_zero, List.getD_cons_succ, Bool.false_eq_true, ↓reduceIte, Nat.add_zero, List.append_nil]; rfl)), by omega⟩
    · refine zs ?_
      refine zr1 ?_
      first | done | simp [thr, *]
  · have z1 := o1 (by omega)
    simp (disch := first | assumption | omega | rfl | simp only [RH]) only [↓RP, RZ, ↓reduceIte, Nat.reduceEqDiff, reduceCtorEq, Nat.reduceBEq, Nat.reduceAdd, Nat.reduceLeDiff, Int.natCast_zero, Int.natCast_one, Int.cast_ofNat_Int, Int.toNat_zero, Int.toNat_one, Int.reduceToNat, Nat.zero_mul, Nat.one_mul, Nat.reduceMul]
    refine zc (gcheckP_c w2 h2 b2 l2) ?_
    by_cases hz : gchk w2 h2 l2.length = 0
    · simp (disch := first | assumption | omega | rfl | simp only [RH]) only [↓RP, RZ, ↓reduceIte, Nat.reduceEqDiff, reduceCtorEq, Nat.reduceBEq, Nat.reduceAdd, Nat.reduceLeDiff, Int.natCast_zero, Int.natCast_one, Int.cast_ofNat_Int, Int.toNat_zero, Int.toNat_one, Int.reduceToNat, Nat.zero_mul, Nat.one_mul, Nat.reduceMul]
      exact ⟨2, ⟨by omega, by intro _; first | assumption | exact o1 (by omega) | omega, by intro _; first | assumption | exact o2 (by omega) | omega, by intro _; first | assumption | exact o3 (by omega) | omega⟩, (Wk.drop (hb := []) (h1 := []) (gs := [_]) 8 [] rfl (by simp) (by simp) (by simp)).trans (Wk.of_eq (by simp only [RK, List.idxOf?_cons, List.idxOf?_nil, Nat.reduceBEq, Option.map_some, Option.map_none, List.map_cons, List.map_nil, List.getD_cons_zero, List.getD_cons_succ, Bool.false_eq_true, ↓reduceIte, Nat.add_zero, List.append_nil]; rfl)), by omega⟩
    · refine zs ?_
      refine zr1 ?_
      first | done | simp [thr, *]
  · have z1 := o1 (by omega)
    have z2 := o2 (by omega)
    simp (disch := first | assumption | omega | rfl | simp only [RH]) only [↓RP, RZ, ↓reduceIte, Nat.reduceEqDiff, reduceCtorEq, Nat.reduceBEq, Nat.reduceAdd, Nat.reduceLeDiff, Int.natCast_zero, Int.natCast_one, Int.cast_ofNat_Int, Int.toNat_zero, Int.toNat_one, Int.reduceToNat, Nat.zero_mul, Nat.one_mul, Nat.reduceMul]
    refine zc (gcheckP_c w3 h3 b3 l3) ?_
    by_cases hz : gchk w3 h3 l3.length = 0
    · simp (disch := first | assumption | omega | rfl | simp only [RH]) only [↓RP, RZ, ↓reduceIte, Nat.reduceEqDiff, reduceCtorEq, Nat.reduceBEq, Nat.reduceAdd, Nat.reduceLeDiff, Int.natCast_zero, Int.natCast_one, Int.cast_ofNat_Int, Int.toNat_zero, Int.toNat_one, Int.reduceToNat, Nat.zero_mul, Nat.one_mul, Nat.reduceMul]
      exact ⟨3, ⟨by omega, by intro _; first | assumption | exact o1 (by omega) | omega, by intro _; first | assumption | exact o2 (by omega) | omega, by intro _; first | assumption | exact o3 (by omega) | omega⟩, (Wk.drop (hb := []) (h1 := []) (gs := [_]) 8 [] rfl (by simp) (by simp) (by simp)).trans (Wk.of_eq (by simp only [RK, List.idxOf?_cons, List.idxOf?_nil, Nat.reduceBEq, Option.map_some, Option.map_none, List.map_cons, List.map_nil, List.getD_cons_zero, List.getD_cons_succ, Bool.false_eq_true, ↓reduceIte, Nat.add_zero, List.append_nil]; rfl)), by omega⟩
    · refine zs ?_
      refine zr1 ?_
      first | done | simp [thr, *]
  · have z1 := o1 (by omega)
    have z2 := o2 (by omega)
    have z3 := o3 (by omega)
    simp (disch := first | assumption | omega | rfl | simp only [RH]) only [↓RP, RZ, ↓reduceIte, Nat.reduceEqDiff, reduceCtorEq, Nat.reduceBEq, Nat.reduceAdd, Nat.reduceLeDiff, Int.natCast_zero, Int.natCast_one, Int.cast_ofNat_Int, Int.toNat_zero, Int.toNat_one, Int.reduceToNat, Nat.zero_mul, Nat.one_mul, Nat.reduceMul]
    refine loopK_WW [0, 20, 21, 22] (fun k : Nat => k ≤ 3 ∧ (1 < k → w2 = w1 ∧ h2 = h1) ∧ (2 < k → w3 = w1 ∧ h3 = h1)) (fun k : Nat => ⟨[(0, .list false false 3 [I w1, I h1, BA b1 l1, I w2, I h2, BA b2 l2, I w3, I h3, BA b3 l3]), (20, .list false false 3 [I w1, I h1, BA b1 l1, I w2, I h2, BA b2 l2, I w3, I h3, BA b3 l3]), (21, I 3), (22, I k)], []⟩) (fun k => 3 - k) 0 (by simp) (Wk.of_eq kz) ?_
    rintro k ⟨hk, o2, o3⟩
    obtain rfl | rfl | rfl | rfl : k = 0 ∨ k = 1 ∨ k = 2 ∨ k = 3 := by omega
    · simp (disch := first | assumption | omega | rfl | simp only [RH]) only [↓RP, RZ, ↓reduceIte, Nat.reduceEqDiff, reduceCtorEq, Nat.reduceBEq, Nat.reduceAdd, Nat.reduceLeDiff, Int.natCast_zero, Int.natCast_one, Int.cast_ofNat_Int, Int.toNat_zero, Int.toNat_one, Int.reduceToNat, Nat.zero_mul, Nat.one_mul, Nat.reduceMul]
      refine zc (size_c w1 h1 b1 l1) ?_
      simp (disch := first | assumption | omega | rfl | simp only [RH]) only [↓RP, RZ, ↓reduceIte, Nat.reduceEqDiff, reduceCtorEq, Nat.reduceBEq, Nat.reduceAdd, Nat.reduceLeDiff, Int.natCast_zero, Int.natCast_one, Int.cast_ofNat_Int, Int.toNat_zero, Int.toNat_one, Int.reduceToNat, Nat.zero_mul, Nat.one_mul, Nat.reduceMul]
      refine zc (size_c w1 h1 b1 l1) ?_
      simp (disch := first | assumption | omega | rfl | simp only [RH]) only [↓RP, RZ, ↓reduceIte, Nat.reduceEqDiff, reduceCtorEq, Nat.reduceBEq, Nat.reduceAdd, Nat.reduceLeDiff, beq_self_eq_true, Bool.true_and]
      exact ⟨1, ⟨by omega, by omega, by omega⟩, (Wk.drop (hb := []) (h1 := []) (gs := [_]) 8 [] rfl (by simp) (by simp) (by simp)).trans (Wk.of_eq (by simp only [RK, List.idxOf?_cons, List.idxOf?_nil, Nat.reduceBEq, Option.map_some, Option.map_none, List.map_cons, List.map_nil, List.getD_cons_zero, List.getD_cons_succ, Bool.false_eq_true, ↓reduceIte, Nat.add_zero, List.append_nil]; rfl)), by omega⟩
    · simp (disch := first | assumption | omega | rfl | simp only [RH]) only [↓RP, RZ, ↓reduceIte, Nat.reduceEqDiff, reduceCtorEq, Nat.reduceBEq, Nat.reduceAdd, Nat.reduceLeDiff, Int.natCast_zero, Int.natCast_one, Int.cast_ofNat_Int, Int.toNat_zero, Int.toNat_one, Int.reduceToNat, Nat.zero_mul, Nat.one_mul, Nat.reduceMul]
      refine zc (size_c w2 h2 b2 l2) ?_
      simp (disch := first | assumption | omega | rfl | simp only [RH]) only [↓RP, RZ, ↓reduceIte, Nat.reduceEqDiff, reduceCtorEq, Nat.reduceBEq, Nat.reduceAdd, Nat.reduceLeDiff, Int.natCast_zero, Int.natCast_one, Int.cast_ofNat_Int, Int.toNat_zero, Int.toNat_one, Int.reduceToNat, Nat.zero_mul, Nat.one_mul, Nat.reduceMul]
      refine zc (size_c w1 h1 b1 l1) ?_
      by_cases hw : w2 = w1
      · by_cases hh : h2 = h1
        · simp (disch := first | assumption | omega | rfl | simp only [RH]) only [↓RP, RZ, ↓reduceIte, Nat.reduceEqDiff, reduceCtorEq, Nat.reduceBEq, Nat.reduceAdd, Nat.reduceLeDiff, beq_self_eq_true, Bool.true_and, Bool.and_true]
          exact ⟨2, ⟨by omega, by intro _; first | exact ⟨hw, hh⟩ | exact o2 (by omega) | omega, by intro _; first | exact ⟨hw, hh⟩ | exact o3 (by omega) | omega⟩, (Wk.drop (hb := []) (h1 := []) (gs := [_]) 8 [] rfl (by simp) (by simp) (by simp)).trans (Wk.of_eq (by simp only [RK, List.idxOf?_cons, List.idxOf?_nil, Nat.reduceBEq, Option.map_some, Option.map_none, List.map_cons, List.map_nil, List.getD_cons_zero, List.getD_cons_succ, Bool.false_eq_true, ↓reduceIte, Nat.add_zero, List.append_nil]; rfl)), by omega⟩
        · simp (disch := first | assumption | omega | rfl | simp only [RH]) only [↓RP, RZ, ↓reduceIte, Nat.reduceEqDiff, reduceCtorEq, Nat.reduceBEq, Nat.reduceAdd, Nat.reduceLeDiff, beq_self_eq_true, Bool.true_and, Bool.and_true, Bool.and_false, Bool.false_and]
          refine zr1 ?_
          have hne : ¬ (w2 = w1 ∧ h2 = h1 ∧ w3 = w1 ∧ h3 = h1) := by omega
          unfold thr
          rw [if_neg (by omega), if_neg (by omega), if_neg (by omega), if_neg hne]
      · simp (disch := first | assumption | omega | rfl | simp only [RH]) only [↓RP, RZ, ↓reduceIte, Nat.reduceEqDiff, reduceCtorEq, Nat.reduceBEq, Nat.reduceAdd, Nat.reduceLeDiff, beq_self_eq_true, Bool.true_and, Bool.and_true, Bool.and_false, Bool.false_and]
        refine zr1 ?_
        have hne : ¬ (w2 = w1 ∧ h2 = h1 ∧ w3 = w1 ∧ h3 = h1) := by omega
        unfold thr
        rw [if_neg (by omega), if_neg (by omega), if_neg (by omega), if_neg hne]
    · simp (disch := first | assumption | omega | rfl | simp only [RH]) only [↓RP, RZ, ↓reduceIte, Nat.reduceEqDiff, reduceCtorEq, Nat.reduceBEq, Nat.reduceAdd, Nat.reduceLeDiff, Int.natCast_zero, Int.natCast_one, Int.cast_ofNat_Int, Int.toNat_zero, Int.toNat_one, Int.reduceToNat, Nat.zero_mul, Nat.one_mul, Nat.reduceMul]
      refine zc (size_c w3 h3 b3 l3) ?_
      simp (disch := first | assumption | omega | rfl | simp only [RH]) only [↓RP, RZ, ↓reduceIte, Nat.reduceEqDiff, reduceCtorEq, Nat.reduceBEq, Nat.reduceAdd, Nat.reduceLeDiff, Int.natCast_zero, Int.natCast_one, Int.cast_ofNat_Int, Int.toNat_zero, Int.toNat_one, Int.reduceToNat, Nat.zero_mul, Nat.one_mul, Nat.reduceMul]
      refine zc (size_c w1 h1 b1 l1) ?_
      by_cases hw : w3 = w1
      · by_cases hh : h3 = h1
        · simp (disch := first | assumption | omega | rfl | simp only [RH]) only [↓RP, RZ, ↓reduceIte, Nat.reduceEqDiff, reduceCtorEq, Nat.reduceBEq, Nat.reduceAdd, Nat.reduceLeDiff, beq_self_eq_true, Bool.true_and, Bool.and_true]
          exact ⟨3, ⟨by omega, by intro _; first | exact ⟨hw, hh⟩ | exact o2 (by omega) | omega, by intro _; first | exact ⟨hw, hh⟩ | exact o3 (by omega) | omega⟩, (Wk.drop (hb := []) (h1 := []) (gs := [_]) 8 [] rfl (by simp) (by simp) (by simp)).trans (Wk.of_eq (by simp only [RK, List.idxOf?_cons, List.idxOf?_nil, Nat.reduceBEq, Option.map_some, Option.map_none, List.map_cons, List.map_nil, List.getD_cons_zero, List.getD_cons_succ, Bool.false_eq_true, ↓reduceIte, Nat.add_zero, List.append_nil]; rfl)), by omega⟩
        · simp (disch := first | assumption | omega | rfl | simp only [RH]) only [↓RP, RZ, ↓reduceIte, Nat.reduceEqDiff, reduceCtorEq, Nat.reduceBEq, Nat.reduceAdd, Nat.reduceLeDiff, beq_self_eq_true, Bool.true_and, Bool.and_true, Bool.and_false, Bool.false_and]
          refine zr1 ?_
          have hne : ¬ (w2 = w1 ∧ h2 = h1 ∧ w3 = w1 ∧ h3 = h1) := by omega
          unfold thr
          rw [if_neg (by omega), if_neg (by omega), if_neg (by omega), if_neg hne]
      · simp (disch := first | assumption | omega | rfl | simp only [RH]) only [↓RP, RZ, ↓reduceIte, Nat.reduceEqDiff, reduceCtorEq, Nat.reduceBEq, Nat.reduceAdd, Nat.reduceLeDiff, beq_self_eq_true, Bool.true_and, Bool.and_true, Bool.and_false, Bool.false_and]
        refine zr1 ?_
        have hne : ¬ (w2 = w1 ∧ h2 = h1 ∧ w3 = w1 ∧ h3 = h1) := by omega
        unfold thr
        rw [if_neg (by omega), if_neg (by omega), if_neg (by omega), if_neg hne]
    · have q2 := o2 (by omega)
      have q3 := o3 (by omega)
      simp (disch := first | assumption | omega | rfl | simp only [RH]) only [↓RP, RZ, ↓reduceIte, Nat.reduceEqDiff, reduceCtorEq, Nat.reduceBEq, Nat.reduceAdd, Nat.reduceLeDiff, Int.natCast_zero, Int.natCast_one, Int.cast_ofNat_Int, Int.toNat_zero, Int.toNat_one, Int.reduceToNat, Nat.zero_mul, Nat.one_mul, Nat.reduceMul]
      refine zr1 ?_
      unfold thr
      rw [if_neg (by omega), if_neg (by omega), if_neg (by omega), if_pos ⟨q2.1, q2.2, q3.1, q3.2⟩]
theorem both_c (w1 h1 : Int) (b1 : Bool) (l1 : List Bool) (w2 h2 : Int) (b2 : Bool) (l2 : List Bool) :
    Contract Tryz.prog 22 [GA w1 h1 b1 l1, GA w2 h2 b2 l2] (I (if gchk w1 h1 l1.length ≠ 0 then gchk w1 h1 l1.length else gchk w2 h2 l2.length)) := by
  refine zi Tryz.func22 ?_
  refine zs ?_
  refine zc (gcheckR_c w1 h1 b1 l1) ?_
  by_cases hz : gchk w1 h1 l1.length = 0
  · refine zs ?_
    refine zc (gcheckR_c w2 h2 b2 l2) ?_
    refine zs ?_
    refine zr1 ?_
    first | done | simp [hz]
  · refine zs ?_
    refine zc (gcheckR_c w1 h1 b1 l1) ?_
    refine zs ?_
    refine zr1 ?_
    first | done | simp [hz]
theorem three_c (w1 h1 : Int) (b1 : Bool) (l1 : List Bool) (w2 h2 : Int) (b2 : Bool) (l2 : List Bool) (w3 h3 : Int) (b3 : Bool) (l3 : List Bool) :
    Contract Tryz.prog 5 [GA w1 h1 b1 l1, GA w2 h2 b2 l2, GA w3 h3 b3 l3] (I (thr w1 h1 l1.length w2 h2 l2.length w3 h3 l3.length)) := by
  refine zi Tryz.func5 ?_
  refine zs ?_
  refine zc (both_c w1 h1 b1 l1 w2 h2 b2 l2) ?_
  by_cases z1 : gchk w1 h1 l1.length = 0
  · rw [if_neg (by omega)]
    by_cases z2 : gchk w2 h2 l2.length = 0
    · refine zs ?_
      refine zc (gcheckR_c w3 h3 b3 l3) ?_
      by_cases z3 : gchk w3 h3 l3.length = 0
      · by_cases e1 : w1 = w2
        · by_cases e2 : h1 = h2
          · by_cases e3 : w1 = w3
            · by_cases e4 : h1 = h3
              · refine zs ?_
                refine zr1 ?_
                unfold thr
                rw [if_neg (by omega), if_neg (by omega), if_neg (by omega), if_pos (by omega)]
              · refine zs ?_
                refine zr1 ?_
                unfold thr
                rw [if_neg (by omega), if_neg (by omega), if_neg (by omega), if_neg (by omega)]
            · refine zs ?_
              refine zr1 ?_
              unfold thr
              rw [if_neg (by omega), if_neg (by omega), if_neg (by omega), if_neg (by omega)]
          · refine zs ?_
            refine zr1 ?_
            unfold thr
            rw [if_neg (by omega), if_neg (by omega), if_neg (by omega), if_neg (by omega)]
        · refine zs ?_
          refine zr1 ?_
          unfold thr
          rw [if_neg (by omega), if_neg (by omega), if_neg (by omega), if_neg (by omega)]
      · refine zs ?_
        refine zc (gcheckR_c w3 h3 b3 l3) ?_
        refine zs ?_
        refine zr1 ?_
        first | done | simp [thr, *]
    · refine zs ?_
      refine zc (both_c w1 h1 b1 l1 w2 h2 b2 l2) ?_
      rw [if_neg (by omega)]
      refine zs ?_
      refine zr1 ?_
      first | done | simp [thr, *]
  · rw [if_pos z1]
    refine zs ?_
    refine zc (both_c w1 h1 b1 l1 w2 h2 b2 l2) ?_
    rw [if_pos z1]
    refine zs ?_
    refine zr1 ?_
    first | done | simp [thr, *]
theorem xtable_s (h0 : List AObj) (f : FuncId) (caps caps' : List AVal) (W H : Nat) (u : Nat → Nat → Bool) (hw : W ≤ 10000) (hh : H ≤ 10000) (hcaps : ∀ r : List AObj, caps.map (argOf (h0 ++ r) 6) = caps') (hup : ∀ x y : Nat, x < W → y < H → Contract Tryz.prog f ([I x, I y] ++ caps') (B (u x y))) :
    SpecTo Tryz.prog 60 [I W, I H, .func (.func f) [] caps] h0 (.agg [I W, I H, gw true h0.length (bools (tabN W u (W * H)))]) (h0 ++ [go 4 (bools (tabN W u (W * H)))]) := by
  refine SpecTo.intro (effS [] false) follows Tryz.func60 rfl rfl (by kernel_rfl) (Nat.le_of_ble_eq_true rfl) ?_
  refine zs ?_
  refine loopK_W [0, 1, 2, 6, 7, 13, 14] (fun y : Nat => y ≤ H) (fun y => ⟨[(0, I W), (1, I H), (2, .func (.func f) [] caps), (6, .ptr h0.length 0 3), (7, .ptr (h0.length + 1) 0 3), (13, I H), (14, I y)], h0 ++ [⟨24, 3, [I 0, I 0, .cap0 true]⟩, ⟨24, 3, [I W, I H, gw true (h0.length + 2) (bools (tabN W u (W * y)))]⟩, go 4 (bools (tabN W u (W * y)))]⟩) (fun y => H - y) 0 (by omega) ?_ ?_
  · simp only [↓RP, RG, FX, RQ, ↓reduceIte, Nat.reduceEqDiff, reduceCtorEq, Nat.reduceBEq, Nat.reduceAdd, Nat.reduceLeDiff]
    exact Wk.weak (fun t => .refl _) (.app h0 (.cons _ _ _ _ (WL.refl _) (.cons _ _ _ _ (.cons (.refl _) (.cons (.refl _) (.cons (.nil _) .nil))) (.nil _ (by simp [go, bools, tabN])))))
  intro y hy
  by_cases hlt : y < H
  · refine zs ?_
    refine loopK_I [0, 1, 2, 6, 7, 8, 13, 14, 17, 18] (fun x : Nat => x ≤ W) (fun x => ⟨[(0, I W), (1, I H), (2, .func (.func f) [] caps), (6, .ptr h0.length 0 3), (7, .ptr (h0.length + 1) 0 3), (8, I y), (13, I H), (14, I y), (17, I W), (18, I x)], h0 ++ [⟨24, 3, [I 0, I 0, .cap0 true]⟩, ⟨24, 3, [I W, I H, gw true (h0.length + 2) (bools (tabN W u (W * y + x)))]⟩, go 4 (bools (tabN W u (W * y + x)))]⟩) (fun x => W - x) 0 (by omega) kz ?_
    intro x hx
    by_cases hlt2 : x < W
    · have hb : (tabN W u (W * y + x)).length ≤ 1000000000 := by
        rw [tabN_len]
        have : W * y ≤ 10000 * 10000 := Nat.mul_le_mul hw (by omega)
        omega
      refine zs ?_
      refine callK_V 6 (hup x y hlt2 hlt) (by rw [List.nil_append, List.map_append, hcaps]; rfl) (.inl rfl) ?_
      refine zx1 @append_bool ?_
      exact ⟨x + 1, by omega, by rw [show W * y + (x + 1) = W * y + x + 1 from rfl, tabN_succ W u hlt2]; rfl, by omega⟩
    · obtain rfl : x = W := by omega
      refine zs ?_
      exact ⟨y + 1, by omega, rfl, by omega⟩
  · obtain rfl : y = H := by omega
    refine zs ?_
    refine ⟨_, by rw [resVal_1 rfl]; simp (disch := first | assumption | omega | rfl | simp only [RH]) only [↓RP, RZ, ↓reduceIte, Nat.reduceEqDiff, reduceCtorEq, Nat.reduceBEq, Nat.reduceAdd, Nat.reduceLeDiff, raX_tmp, raX_cell, rvX_0, rvX_1, rvX_2, rvX_3, rvX_4, rvX_5]; rfl, (Wk.drop 8 [2] (by simp) (by decide) (by simp) (same_refl)).trans (Wk.of_eq (by simp (disch := omega) only [RK, List.idxOf?_cons, List.idxOf?_nil, Nat.reduceBEq, Option.map_some, Option.map_none, List.map_cons, List.map_nil, List.getD_cons_zero, List.getD_cons_succ, Bool.false_eq_true, ↓reduceIte, Nat.add_zero, List.append_nil]))⟩
theorem table_c (f : FuncId) (caps : List AVal) (W H : Nat) (u : Nat → Nat → Bool) (hw : W ≤ 10000) (hh : H ≤ 10000) (hcaps : ∀ r : List AObj, caps.map (argOf r 6) = caps) (hup : ∀ x y : Nat, x < W → y < H → Contract Tryz.prog f ([I x, I y] ++ caps) (B (u x y))) :
    Contract Tryz.prog 60 [I W, I H, .func (.func f) [] caps] (GR W H (tabN W u (W * H)).isEmpty (tabN W u (W * H))) := by
  have := Contract.ofSpec 6 (xtable_s [] f caps caps W H u hw hh (fun r => hcaps _) hup)
  simp (disch := first | assumption | omega | rfl) only [RS, List.nil_append, List.length_nil, List.getElem?_cons_zero, List.map_cons, List.map_nil, bools_length, bools_isEmpty, Bool.true_and] at this
  exact this
theorem atD_c (w h : Int) (b : Bool) (l : List Bool) (x y : Int) (h0 : 0 ≤ y * w + x) (h1 : y * w + x < l.length) (h2 : l.length ≤ 1000000000000) (h3 : 0 ≤ y * w) (h4 : y * w ≤ 1000000000000) : Contract Tryz.prog 62 [GA w h b l, I x, I y] (B (cell w l x y)) := by
  refine zi Tryz.func62 ?_
  refine zs ?_
  refine zr1 ?_
  rfl
abbrev GS (w h : Int) (b : Bool) (l : List Bool) : AVal := .spot false [I w, I h, BA b l]
theorem cell_in {W H : Nat} {n x y : Nat} (hn : n = W * H) (hx : x < W) (hy : y < H) (hW : W ≤ 64) (hH : H ≤ 64) : 0 ≤ (y : Int) * W + x ∧ (y : Int) * W + x < n ∧ 0 ≤ (y : Int) * W ∧ (y : Int) * W ≤ 1000000000000 ∧ n ≤ 4096 := by
  have e : (y : Int) * (W : Int) = ((W * y : Nat) : Int) := by rw [Int.natCast_mul, Int.mul_comm]
  have := idx_lt hx hy
  have : W * H ≤ 64 * 64 := Nat.mul_le_mul hW hH
  omega
def uD (w : Int) (a b m : List Bool) (x y : Nat) : Bool :=
  if x % 2 = 0 ∧ y % 2 = 0 then cell w a ((x / 2 : Nat) : Int) ((y / 2 : Nat) : Int) else if x % 2 = 1 ∧ y % 2 = 1 then cell w b ((x / 2 : Nat) : Int) ((y / 2 : Nat) : Int) else cell w m ((x / 2 : Nat) : Int) ((y / 2 : Nat) : Int) == decide (x % 2 = 0)
theorem wovenF_c {W H : Nat} (hW : W ≤ 32) (hH : H ≤ 32) (b1 b2 b3 : Bool) {l1 l2 l3 : List Bool} (n1 : l1.length = W * H) (n2 : l2.length = W * H) (n3 : l3.length = W * H) {x y : Nat} (hx : x < 2 * W) (hy : y < 2 * H) :
    Contract Tryz.prog 61 [I x, I y, GS W H b1 l1, GS W H b2 l2, GS W H b3 l3] (B (uD W l1 l2 l3 x y)) := by
  have i1 := cell_in n1 (show x / 2 < W by omega) (show y / 2 < H by omega) (by omega) (by omega)
  have i2 := cell_in n2 (show x / 2 < W by omega) (show y / 2 < H by omega) (by omega) (by omega)
  have i3 := cell_in n3 (show x / 2 < W by omega) (show y / 2 < H by omega) (by omega) (by omega)
  refine zi Tryz.func61 ?_
  by_cases hx2 : x % 2 = 0
  · by_cases hy2 : y % 2 = 0
    · simp (disch := first | assumption | omega | rfl | simp only [RH]) only [↓RP, RZ, ↓reduceIte, Nat.reduceEqDiff, reduceCtorEq, Nat.reduceBEq, Nat.reduceAdd, Nat.reduceLeDiff, quo_int, rem_int, Int.reduceToNat]
      refine zc (atD_c W H b1 l1 ((x / 2 : Nat) : Int) ((y / 2 : Nat) : Int) (by omega) (by omega) (by omega) (by omega) (by omega)) ?_
      refine zs ?_
      refine zr1 ?_
      rw [uD, if_pos ⟨hx2, hy2⟩]
    · simp (disch := first | assumption | omega | rfl | simp only [RH]) only [↓RP, RZ, ↓reduceIte, Nat.reduceEqDiff, reduceCtorEq, Nat.reduceBEq, Nat.reduceAdd, Nat.reduceLeDiff, quo_int, rem_int, Int.reduceToNat]
      refine zc (atD_c W H b3 l3 ((x / 2 : Nat) : Int) ((y / 2 : Nat) : Int) (by omega) (by omega) (by omega) (by omega) (by omega)) ?_
      simp (disch := first | assumption | omega | rfl | simp only [RH]) only [↓RP, RZ, ↓reduceIte, Nat.reduceEqDiff, reduceCtorEq, Nat.reduceBEq, Nat.reduceAdd, Nat.reduceLeDiff, quo_int, rem_int, Int.reduceToNat]
      refine zr1 ?_
      rw [uD, if_neg (by omega), if_neg (by omega), decide_eq_true hx2]
  · by_cases hy2 : y % 2 = 0
    · simp (disch := first | assumption | omega | rfl | simp only [RH]) only [↓RP, RZ, ↓reduceIte, Nat.reduceEqDiff, reduceCtorEq, Nat.reduceBEq, Nat.reduceAdd, Nat.reduceLeDiff, quo_int, rem_int, Int.reduceToNat]
      refine zc (atD_c W H b3 l3 ((x / 2 : Nat) : Int) ((y / 2 : Nat) : Int) (by omega) (by omega) (by omega) (by omega) (by omega)) ?_
      simp (disch := first | assumption | omega | rfl | simp only [RH]) only [↓RP, RZ, ↓reduceIte, Nat.reduceEqDiff, reduceCtorEq, Nat.reduceBEq, Nat.reduceAdd, Nat.reduceLeDiff, quo_int, rem_int, Int.reduceToNat]
      refine zr1 ?_
      rw [uD, if_neg (by omega), if_neg (by omega), decide_eq_false hx2]
    · simp (disch := first | assumption | omega | rfl | simp only [RH]) only [↓RP, RZ, ↓reduceIte, Nat.reduceEqDiff, reduceCtorEq, Nat.reduceBEq, Nat.reduceAdd, Nat.reduceLeDiff, quo_int, rem_int, Int.reduceToNat]
      refine zc (atD_c W H b2 l2 ((x / 2 : Nat) : Int) ((y / 2 : Nat) : Int) (by omega) (by omega) (by omega) (by omega) (by omega)) ?_
      simp (disch := first | assumption | omega | rfl | simp only [RH]) only [↓RP, RZ, ↓reduceIte, Nat.reduceEqDiff, reduceCtorEq, Nat.reduceBEq, Nat.reduceAdd, Nat.reduceLeDiff, quo_int, rem_int, Int.reduceToNat]
      refine zr1 ?_
      rw [uD, if_neg (by omega), if_pos (by omega)]
theorem tabN_nil {W H : Nat} (hw : 0 < W) (hh : 0 < H) (u : Nat → Nat → Bool) : (tabN W u (W * H)).isEmpty = false := by
  have := tabN_pos hw hh u
  rw [bools_length] at this
  cases hT : tabN W u (W * H) with
  | nil => rw [hT] at this; simp at this
  | cons => rfl
theorem wovenP_c {W H : Nat} (hW0 : 0 < W) (hH0 : 0 < H) (hW : W ≤ 32) (hH : H ≤ 32) (b1 b2 b3 : Bool) {l1 l2 l3 : List Bool} (n1 : l1.length = W * H) (n2 : l2.length = W * H) (n3 : l3.length = W * H) :
    Contract Tryz.prog 40 [GA W H b1 l1, GA W H b2 l2, GA W H b3 l3] (GR ((2 * W : Nat) : Int) ((2 * H : Nat) : Int) false (tabN (2 * W) (uD W l1 l2 l3) (2 * W * (2 * H)))) := by
  have ht := table_c 61 [GS W H b1 l1, GS W H b2 l2, GS W H b3 l3] (2 * W) (2 * H) (uD W l1 l2 l3) (by omega) (by omega) (fun r => by simp only [RA, List.map_cons, List.map_nil]) (fun x y hx hy => wovenF_c hW hH b1 b2 b3 n1 n2 n3 hx hy)
  rw [tabN_nil (by omega) (by omega)] at ht
  have e1 : (2 : Int) * (W : Int) = ((2 * W : Nat) : Int) := by omega
  have e2 : (2 : Int) * (H : Int) = ((2 * H : Nat) : Int) := by omega
  refine zi Tryz.func40 ?_
  refine zx2 @e1 @e2 ?_
  refine zc (ht) ?_
  refine zs ?_
  exact zq1
theorem uD_00 (w : Int) (a b m : List Bool) (x y : Nat) : uD w a b m (2 * x) (2 * y) = cell w a x y := by
  rw [uD, if_pos (by omega), show 2 * x / 2 = x by omega, show 2 * y / 2 = y by omega]
theorem uD_11 (w : Int) (a b m : List Bool) (x y : Nat) : uD w a b m (2 * x + 1) (2 * y + 1) = cell w b x y := by
  rw [uD, if_neg (by omega), if_pos (by omega), show (2 * x + 1) / 2 = x by omega, show (2 * y + 1) / 2 = y by omega]
theorem uD_01 (w : Int) (a b m : List Bool) (x y : Nat) : uD w a b m (2 * x) (2 * y + 1) = cell w m x y := by
  rw [uD, if_neg (by omega), if_neg (by omega), show 2 * x / 2 = x by omega, show (2 * y + 1) / 2 = y by omega, decide_eq_true (by omega)]
  cases cell w m x y <;> rfl
theorem uD_10 (w : Int) (a b m : List Bool) (x y : Nat) : uD w a b m (2 * x + 1) (2 * y) = !cell w m x y := by
  rw [uD, if_neg (by omega), if_neg (by omega), show (2 * x + 1) / 2 = x by omega, show 2 * y / 2 = y by omega, decide_eq_false (by omega)]
  cases cell w m x y <;> rfl
abbrev GN : AVal := .agg [I 0, I 0, .list true true 0 []]
theorem thr_zero {w1 h1 n1 w2 h2 n2 w3 h3 n3 : Int} (hz : thr w1 h1 n1 w2 h2 n2 w3 h3 n3 = 0) : gOk w1 h1 n1 ∧ gOk w2 h2 n2 ∧ gOk w3 h3 n3 ∧ w2 = w1 ∧ h2 = h1 ∧ w3 = w1 ∧ h3 = h1 := by
  unfold thr at hz
  by_cases z1 : gchk w1 h1 n1 = 0
  · rw [if_neg (by omega)] at hz
    by_cases z2 : gchk w2 h2 n2 = 0
    · rw [if_neg (by omega)] at hz
      by_cases z3 : gchk w3 h3 n3 = 0
      · rw [if_neg (by omega)] at hz
        by_cases he : w2 = w1 ∧ h2 = h1 ∧ w3 = w1 ∧ h3 = h1
        · exact ⟨gchk_iff.1 z1, gchk_iff.1 z2, gchk_iff.1 z3, he⟩
        · rw [if_neg he] at hz; omega
      · rw [if_pos z3] at hz; exact absurd hz z3
    · rw [if_pos z2] at hz; exact absurd hz z2
  · rw [if_pos z1] at hz; exact absurd hz z1
theorem gOk_nat {w h : Int} {n : Nat} (hg : gOk w h n) : ∃ W H : Nat, w = W ∧ h = H ∧ 0 < W ∧ W ≤ 64 ∧ 0 < H ∧ H ≤ 64 ∧ n = W * H := by
  obtain ⟨h1, h2, h3, h4, h5⟩ := hg
  refine ⟨w.toNat, h.toNat, by omega, by omega, by omega, by omega, by omega, by omega, ?_⟩
  have e1 : w = (w.toNat : Int) := by omega
  have e2 : h = (h.toNat : Int) := by omega
  rw [e1, e2, ← Int.natCast_mul] at h5
  exact Int.ofNat.inj h5
def wv (w1 h1 : Int) (l1 : List Bool) (w2 h2 : Int) (l2 : List Bool) (w3 h3 : Int) (l3 : List Bool) : List AVal :=
  if thr w1 h1 l1.length w2 h2 l2.length w3 h3 l3.length ≠ 0 then [GN, I (thr w1 h1 l1.length w2 h2 l2.length w3 h3 l3.length)]
  else if 32 < w1 ∨ 32 < h1 then [GN, I 4]
  else [GR ((2 * w1.toNat : Nat) : Int) ((2 * h1.toNat : Nat) : Int) false (tabN (2 * w1.toNat) (uD w1 l1 l2 l3) (2 * w1.toNat * (2 * h1.toNat))), I 0]
theorem weaveP_c (w1 h1 : Int) (b1 : Bool) (l1 : List Bool) (w2 h2 : Int) (b2 : Bool) (l2 : List Bool) (w3 h3 : Int) (b3 : Bool) (l3 : List Bool) :
    Contract Tryz.prog 15 [GA w1 h1 b1 l1, GA w2 h2 b2 l2, GA w3 h3 b3 l3] (.tuple (wv w1 h1 l1 w2 h2 l2 w3 h3 l3)) := by
  have hch := check3_c w1 h1 b1 l1 w2 h2 b2 l2 w3 h3 b3 l3
  unfold wv
  generalize hr : thr w1 h1 l1.length w2 h2 l2.length w3 h3 l3.length = r at *
  by_cases hz : r = 0
  · subst hz
    obtain ⟨g1, g2, g3, rfl, rfl, rfl, rfl⟩ := thr_zero hr
    obtain ⟨W, H, rfl, rfl, hW0, hW, hH0, hH, n1⟩ := gOk_nat g1
    have n2 : l2.length = W * H := by have := g2.2.2.2.2; rw [← Int.natCast_mul] at this; exact Int.ofNat.inj this
    have n3 : l3.length = W * H := by have := g3.2.2.2.2; rw [← Int.natCast_mul] at this; exact Int.ofNat.inj this
    rw [if_neg (by omega)]
    by_cases hm : (32 : Int) < W ∨ (32 : Int) < H
    · have : (32 : Int) < max (W : Int) (H : Int) := by omega
      rw [if_pos hm]
      refine zi Tryz.func15 ?_
      refine zs ?_
      refine zc (hch) ?_
      refine zs ?_
      exact zq2
    · have : ¬ (32 : Int) < max (W : Int) (H : Int) := by omega
      rw [if_neg hm]
      refine zi Tryz.func15 ?_
      refine zs ?_
      refine zc (hch) ?_
      refine zs ?_
      refine zc (wovenP_c hW0 hH0 (by omega) (by omega) b1 b2 b3 n1 n2 n3) ?_
      refine zs ?_
      exact zq2
      first | done | rfl
  · rw [if_pos hz]
    refine zi Tryz.func15 ?_
    refine zs ?_
    refine zc (hch) ?_
    refine zs ?_
    exact zq2
theorem cell_nat (W : Nat) (l : List Bool) (x y : Nat) : cell W l x y = l.getD (W * y + x) false := by
  rw [cell, idx_nat]
theorem self_tab {W H : Nat} {l : List Bool} (hn : l.length = W * H) : l = tabN W (fun x y => cell W l x y) (W * H) := by
  apply List.ext_getElem
  · rw [tabN_len, hn]
  · intro i h1 h2
    simp only [tabN, List.getElem_map, List.getElem_range, cell_nat, Nat.div_add_mod]
    simp [List.getD_eq_getElem?_getD, h1]
def evenL (z : Nat) (n : Nat) : List Int := (List.range n).map fun i => ((2 * i + z : Nat) : Int)
theorem evenL_len (z n : Nat) : (evenL z n).length = n := by simp [evenL]
def cnt (l : List Bool) : Nat → Nat
  | 0 => 0
  | k + 1 => cnt l k + if l.getD k false then 1 else 0
theorem cnt_le (l : List Bool) (k : Nat) : cnt l k ≤ k := by
  induction k with
  | zero => exact Nat.le_refl _
  | succ k ih => simp only [cnt]; split <;> omega
theorem count_c {w h : Int} (b : Bool) {l : List Bool} (hg : gOk w h l.length) (hl : l.length ≤ 4096) : Contract Tryz.prog 16 [GA w h b l] (.tuple [I (cnt l l.length), I 0]) := by
  have hz := gchk_ok hg
  refine zi Tryz.func16 ?_
  refine zs ?_
  refine zc (gcheckP_c w h b l) ?_
  refine zx1 @hz ?_
  refine loopK_I [5, 14, 15, 16] (fun k : Nat => k ≤ l.length) (fun k => ⟨[(5, I (cnt l k)), (14, BA b l), (15, I l.length), (16, I k)], [⟨24, 3, [I w, I h, BA b l]⟩]⟩) (fun k => l.length - k) 0 (by omega) kz ?_
  intro k hk
  have hle := cnt_le l k
  by_cases hlt : k < l.length
  · cases hc : l.getD k false with
    | true =>
      refine zx1 @hc ?_
      exact ⟨k + 1, by omega, by rw [show cnt l (k + 1) = cnt l k + (if l.getD k false then 1 else 0) from rfl, hc]; rfl, by omega⟩
    | false =>
      refine zx1 @hc ?_
      exact ⟨k + 1, by omega, by rw [show cnt l (k + 1) = cnt l k + (if l.getD k false then 1 else 0) from rfl, hc]; rfl, by omega⟩
  · obtain rfl : k = l.length := by omega
    refine zs ?_
    exact zq2
    first | done | rfl
theorem thr_same {W H : Nat} (hW0 : 0 < W) (hH0 : 0 < H) (hW : W ≤ 64) (hH : H ≤ 64) {l1 l2 l3 : List Bool} (n1 : l1.length = W * H) (n2 : l2.length = W * H) (n3 : l3.length = W * H) : thr W H l1.length W H l2.length W H l3.length = 0 := by
  have g1 : gchk W H l1.length = 0 := gchk_ok ⟨by omega, by omega, by omega, by omega, by rw [n1, Int.natCast_mul]⟩
  have g2 : gchk W H l2.length = 0 := by rw [n2, ← n1]; exact g1
  have g3 : gchk W H l3.length = 0 := by rw [n3, ← n1]; exact g1
  unfold thr
  rw [if_neg (by omega), if_neg (by omega), if_neg (by omega), if_pos ⟨rfl, rfl, rfl, rfl⟩]
theorem cellD (W : Nat) (l : List Bool) (x y : Nat) : cell W l x y = l.getD (W * y + x) false := by
  unfold cell; rw [idx_nat W y x]
theorem cnt_all {l : List Bool} : ∀ k, cnt l k = k ↔ ∀ i, i < k → l.getD i false = true := by
  intro k
  induction k with
  | zero => exact ⟨fun _ i hi => by omega, fun _ => rfl⟩
  | succ k ih =>
    have hle := cnt_le l k
    simp only [cnt]
    constructor
    · intro h i hi
      cases hk : l.getD k false with
      | true =>
        rw [hk, if_pos rfl] at h
        by_cases e : i = k
        · subst e; exact hk
        · exact ih.1 (by omega) i (by omega)
      | false =>
        rw [hk, if_neg (by simp)] at h; omega
    · intro h
      rw [h k (by omega), if_pos rfl, ih.2 fun i hi => h i (by omega)]
theorem cnt_none {l : List Bool} : ∀ k, cnt l k = 0 ↔ ∀ i, i < k → l.getD i false = false := by
  intro k
  induction k with
  | zero => exact ⟨fun _ i hi => by omega, fun _ => rfl⟩
  | succ k ih =>
    simp only [cnt]
    constructor
    · intro h i hi
      cases hk : l.getD k false with
      | true => rw [hk, if_pos rfl] at h; omega
      | false =>
        rw [hk, if_neg (by simp)] at h
        by_cases e : i = k
        · subst e; exact hk
        · exact ih.1 (by omega) i (by omega)
    · intro h
      rw [h k (by omega), if_neg (by simp), ih.2 fun i hi => h i (by omega)]
def mixL (z : Nat) (c : Int) (n i : Nat) : List Int := (List.range n).map fun v => ((2 * v + z : Nat) : Int) + if v < i then c else 0
theorem mixL_len (z : Nat) (c : Int) (n i : Nat) : (mixL z c n i).length = n := by simp [mixL]
def thD (W H z : Nat) : List Int := evenL z W ++ mixL z ((2 * W : Nat) : Int) H H
def pD (W z : Nat) (t : Nat) : Bool := decide (if t < 2 * W then t % 2 = z else (t - 2 * W) % 2 = z)
theorem mem_even {z n : Nat} {x : Int} : x ∈ evenL z n ↔ ∃ u : Nat, u < n ∧ x = ((2 * u + z : Nat) : Int) := by
  unfold evenL
  simp only [List.mem_map, List.mem_range]
  constructor
  · rintro ⟨u, h, rfl⟩; exact ⟨u, h, rfl⟩
  · rintro ⟨u, h, rfl⟩; exact ⟨u, h, rfl⟩
theorem mem_mix {z n : Nat} {c x : Int} : x ∈ mixL z c n n ↔ ∃ u : Nat, u < n ∧ x = ((2 * u + z : Nat) : Int) + c := by
  unfold mixL
  simp only [List.mem_map, List.mem_range]
  constructor
  · rintro ⟨u, h, rfl⟩; exact ⟨u, h, by rw [if_pos h]⟩
  · rintro ⟨u, h, rfl⟩; exact ⟨u, h, by rw [if_pos h]⟩
theorem thD_fil {W H z : Nat} (hz : z ≤ 1) : thD W H z = fil (2 * W + 2 * H) (pD W z) := by
  refine sinc_ext _ _ ?_ (nI_inc (List.Pairwise.filter _ List.pairwise_lt_range)) fun x => ?_
  · unfold thD
    refine List.pairwise_append.2 ⟨?_, ?_, fun a ha b hb => ?_⟩
    · unfold evenL
      rw [List.pairwise_map]
      exact List.pairwise_lt_range.imp fun h => by omega
    · rw [List.pairwise_iff_getElem]
      intro i j hi hj hij
      rw [mixL_len] at hi hj
      simp only [mixL, List.getElem_map, List.getElem_range, if_pos hi, if_pos hj]
      omega
    · obtain ⟨u, h1, rfl⟩ := mem_even.1 ha
      obtain ⟨v, h2, rfl⟩ := mem_mix.1 hb
      omega
  · unfold thD
    rw [List.mem_append, mem_even, mem_mix]
    have hx : x ∈ nI ((List.range (2 * W + 2 * H)).filter (pD W z)) ↔ ∃ t : Nat, (t < 2 * W + 2 * H ∧ pD W z t = true) ∧ (t : Int) = x := by
      unfold nI
      simp only [List.mem_map, List.mem_filter, List.mem_range]
    refine Iff.trans ?_ hx.symm
    unfold pD
    constructor
    · rintro (⟨u, h1, rfl⟩ | ⟨u, h1, rfl⟩)
      · exact ⟨2 * u + z, ⟨by omega, decide_eq_true (by rw [if_pos (by omega)]; omega)⟩, rfl⟩
      · exact ⟨2 * u + z + 2 * W, ⟨by omega, decide_eq_true (by rw [if_neg (by omega)]; omega)⟩, by omega⟩
    · rintro ⟨t, ⟨h1, h2⟩, rfl⟩
      have h2 := of_decide_eq_true h2
      by_cases e : t < 2 * W
      · rw [if_pos e] at h2
        exact .inl ⟨t / 2, by omega, by omega⟩
      · rw [if_neg e] at h2
        exact .inr ⟨(t - 2 * W) / 2, by omega, by omega⟩
theorem endsOf_eq (w : Int) (s : List Int) : ∀ k, k ≤ s.length → endsOf w s k = (s.take k).filter (fun x => decide (x < w)) := by
  intro k
  induction k with
  | zero => intro _; rfl
  | succ k ih =>
    intro hk
    have e : s.take (k + 1) = s.take k ++ [s.getD k 0] := by
      rw [List.take_add_one, List.getD_eq_getElem?_getD, List.getElem?_eq_getElem (show k < s.length by omega)]; rfl
    rw [e, List.filter_append, ← ih (by omega)]
    simp only [endsOf]
    by_cases h : s.getD k 0 < w
    · rw [if_pos h, List.filter_cons_of_pos (by simpa using h), List.filter_nil]
    · rw [if_neg h, List.filter_cons_of_neg (by simpa using h), List.filter_nil, List.append_nil]
theorem picksOf_eq (w : Int) (s : List Int) : ∀ k, k ≤ s.length → picksOf w s k = ((s.take k).filter (fun x => !decide (x < w))).map fun x => x - w := by
  intro k
  induction k with
  | zero => intro _; rfl
  | succ k ih =>
    intro hk
    have e : s.take (k + 1) = s.take k ++ [s.getD k 0] := by
      rw [List.take_add_one, List.getD_eq_getElem?_getD, List.getElem?_eq_getElem (show k < s.length by omega)]; rfl
    rw [e, List.filter_append, List.map_append, ← ih (by omega)]
    simp only [picksOf]
    by_cases h : s.getD k 0 < w
    · rw [if_pos h, List.filter_cons_of_neg (by simpa using h), List.filter_nil, List.map_nil, List.append_nil]
    · rw [if_neg h, List.filter_cons_of_pos (by simpa using h), List.filter_nil]; rfl
theorem thD_len (W H z : Nat) : (thD W H z).length = W + H := by unfold thD; rw [List.length_append, evenL_len, mixL_len]
theorem thD_ends {W H z : Nat} (hz : z ≤ 1) : endsOf ((2 * W : Nat) : Int) (thD W H z) (thD W H z).length = evenL z W := by
  rw [endsOf_eq _ _ _ (Nat.le_refl _), List.take_length]
  unfold thD
  rw [List.filter_append, List.filter_eq_self.2 (fun x hx => ?_), List.filter_eq_nil_iff.2 (fun x hx => ?_), List.append_nil]
  · obtain ⟨u, h, rfl⟩ := mem_mix.1 hx
    simp only [decide_eq_true_eq]; omega
  · obtain ⟨u, h, rfl⟩ := mem_even.1 hx
    simp only [decide_eq_true_eq]; omega
theorem thD_picks {W H z : Nat} (hz : z ≤ 1) : picksOf ((2 * W : Nat) : Int) (thD W H z) (thD W H z).length = evenL z H := by
  rw [picksOf_eq _ _ _ (Nat.le_refl _), List.take_length]
  unfold thD
  rw [List.filter_append, List.filter_eq_nil_iff.2 (fun x hx => ?_), List.filter_eq_self.2 (fun x hx => ?_), List.nil_append]
  · unfold mixL evenL
    rw [List.map_map]
    refine List.map_congr_left fun v hv => ?_
    show ((2 * v + z : Nat) : Int) + (if v < H then ((2 * W : Nat) : Int) else 0) - ((2 * W : Nat) : Int) = ((2 * v + z : Nat) : Int)
    rw [if_pos (List.mem_range.1 hv)]; omega
  · obtain ⟨u, h, rfl⟩ := mem_mix.1 hx
    simp only [Bool.not_eq_true', decide_eq_false_iff_not]; omega
  · obtain ⟨u, h, rfl⟩ := mem_even.1 hx
    simp only [Bool.not_eq_true', decide_eq_false_iff_not]; omega
theorem even_get {z n i : Nat} (h : i < n) : (evenL z n).getD i 0 = ((2 * i + z : Nat) : Int) := by
  simp [evenL, List.getD_eq_getElem?_getD, h]
theorem wov_get {W H : Nat} {l1 l2 l3 : List Bool} {x y : Nat} (hx : x < 2 * W) (hy : y < 2 * H) : (tabN (2 * W) (uD W l1 l2 l3) (2 * W * (2 * H))).getD (2 * W * y + x) false = uD W l1 l2 l3 x y :=
  tabN_get (2 * W) _ hx (idx_lt hx hy)
theorem only_a {W H z : Nat} {l1 l2 l3 : List Bool} (n1 : l1.length = W * H) (n2 : l2.length = W * H) (hz : z ≤ 1) :
    tabN W (uO ((2 * W : Nat) : Int) (tabN (2 * W) (uD W l1 l2 l3) (2 * W * (2 * H))) (evenL z W) (evenL z H)) (W * H) = if z = 0 then l1 else l2 := by
  have key : tabN W (uO ((2 * W : Nat) : Int) (tabN (2 * W) (uD W l1 l2 l3) (2 * W * (2 * H))) (evenL z W) (evenL z H)) (W * H) = tabN W (fun x y => cell W (if z = 0 then l1 else l2) x y) (W * H) := by
    refine tabN_congr fun x y hx hy => ?_
    unfold uO
    rw [even_get hx, even_get hy, cellD, wov_get (by omega) (by omega)]
    by_cases e : z = 0
    · subst e; rw [if_pos rfl]; exact uD_00 ..
    · obtain rfl : z = 1 := by omega
      rw [if_neg e]; exact uD_11 ..
  rw [key]
  by_cases e : z = 0
  · simp only [if_pos e]; exact (self_tab n1).symm
  · simp only [if_neg e]; exact (self_tab n2).symm
theorem offs_double {W H z : Nat} (hW0 : 0 < W) (hH0 : 0 < H) {l1 l2 l3 : List Bool} (hz : z ≤ 1) :
    Offs (2 * W) (2 * W + 2 * H) (tabN (2 * W) (uD W l1 l2 l3) (2 * W * (2 * H))) (pD W z) ↔ ∀ u v, u < W → v < H → cell W l3 u v = decide (z = 0) := by
  have p1 : ∀ t, t < 2 * W → (pD W z t = true ↔ t % 2 = z) := fun t ht => by simp [pD, ht]
  have p2 : ∀ t, ¬ t < 2 * W → (pD W z t = true ↔ (t - 2 * W) % 2 = z) := fun t ht => by simp [pD, ht]
  have f1 : ∀ t, pD W z t = false ↔ ¬ pD W z t = true := fun t => by cases pD W z t <;> simp
  unfold Offs
  constructor
  · rintro ⟨_, _, h⟩ u v hu hv
    by_cases e : z = 0
    · subst e
      have h1 := h (2 * u + 1) (by omega) (2 * W + 2 * v) (by omega)
      rw [f1, p1 _ (by omega), p2 _ (by omega)] at h1
      cases hc : cell W l3 u v with
      | true => rfl
      | false =>
        refine absurd ⟨by omega, by omega, ?_⟩ h1
        unfold ov
        rw [if_pos (by omega), if_neg (by omega), show 2 * W + 2 * v - 2 * W = 2 * v by omega, wov_get (by omega) (by omega), uD_10, hc]; rfl
    · obtain rfl : z = 1 := by omega
      have h1 := h (2 * u) (by omega) (2 * W + (2 * v + 1)) (by omega)
      rw [f1, p1 _ (by omega), p2 _ (by omega)] at h1
      cases hc : cell W l3 u v with
      | false => rfl
      | true =>
        refine absurd ⟨by omega, by omega, ?_⟩ h1
        unfold ov
        rw [if_pos (by omega), if_neg (by omega), show 2 * W + (2 * v + 1) - 2 * W = 2 * v + 1 by omega, wov_get (by omega) (by omega), uD_01, hc]
  · intro h
    refine ⟨⟨z, by omega, (p1 z (by omega)).2 (by omega)⟩, ⟨1 - z, by omega, by rw [f1, p1 _ (by omega)]; omega⟩, ?_⟩
    rintro a ha c hc ⟨g1, g2, g3⟩
    rw [f1] at g1
    unfold ov at g3
    by_cases ea : a < 2 * W <;> by_cases ec : c < 2 * W
    · rw [if_pos ea, if_pos ec] at g3; cases g3
    · rw [if_pos ea, if_neg ec, wov_get ea (by omega)] at g3
      rw [p1 a ea] at g1
      rw [p2 c ec] at g2
      have hh := h (a / 2) ((c - 2 * W) / 2) (by omega) (by omega)
      by_cases e : z = 0
      · subst e
        rw [show a = 2 * (a / 2) + 1 by omega, show c - 2 * W = 2 * ((c - 2 * W) / 2) by omega, uD_10, hh] at g3
        simp at g3
      · obtain rfl : z = 1 := by omega
        rw [show a = 2 * (a / 2) by omega, show c - 2 * W = 2 * ((c - 2 * W) / 2) + 1 by omega, uD_01, hh] at g3
        simp at g3
    · rw [if_neg ea, if_pos ec, wov_get ec (by omega)] at g3
      rw [p2 a ea] at g1
      rw [p1 c ec] at g2
      have hh := h (c / 2) ((a - 2 * W) / 2) (by omega) (by omega)
      by_cases e : z = 0
      · subst e
        rw [show c = 2 * (c / 2) by omega, show a - 2 * W = 2 * ((a - 2 * W) / 2) + 1 by omega, uD_01, hh] at g3
        simp at g3
      · obtain rfl : z = 1 := by omega
        rw [show c = 2 * (c / 2) + 1 by omega, show a - 2 * W = 2 * ((a - 2 * W) / 2) by omega, uD_10, hh] at g3
        simp at g3
    · rw [if_neg ea, if_neg ec] at g3; cases g3
theorem hg_wy {W n : Nat} {l : List Bool} (h : Hg W n l) {a x : Nat} (ha : a < n) (hx : x < n) : Wy (adjT W n l) a x :=
  h (fun x => Wy (adjT W n l) a x) (fun c hc hm x hx ho => hm.trans (.one (mem_adjT.2 ⟨hx, ho⟩))) ⟨a, ha, .refl a⟩ x hx
theorem offs_wy {W n : Nat} {l : List Bool} {p : Nat → Bool} (h : Offs W n l p) {a b : Nat} (ha : a < n) (hw : Wy (adjT W n l) a b) (hp : p a = true) : p b = true := by
  obtain ⟨_, _, hc⟩ := h
  exact (hw.closed (p := fun z => z < n ∧ p z = true) (fun u v ⟨hu, hpu⟩ hv => by
    obtain ⟨v1, v2⟩ := mem_adjT.1 hv
    refine ⟨v1, ?_⟩
    cases hpv : p v with
    | true => rfl
    | false => exact absurd ⟨hpv, hpu, v2⟩ (hc v v1 u hu)) ⟨ha, hp⟩).2
theorem offs_not_hg {W n : Nat} {l : List Bool} {p : Nat → Bool} (h : Offs W n l p) (hg : Hg W n l) : False := by
  obtain ⟨⟨a, ha, h1⟩, ⟨c, hc, h2⟩, _⟩ := id h
  rw [offs_wy h ha (hg_wy hg ha hc) h1] at h2
  cases h2
theorem parts_two {W n : Nat} {l : List Bool} {p : Nat → Bool} (h : Offs W n l p) (hA : ∀ x, x < n → ∀ y, y < n → p x = true → p y = true → Wy (adjT W n l) x y) (hB : ∀ x, x < n → ∀ y, y < n → p x = false → p y = false → Wy (adjT W n l) x y)
    (he : ∃ a c, a < n ∧ c < n ∧ p a = true ∧ p c = false ∧ ov W l a c = true) : PL W n l = [(List.range n).filter p, (List.range n).filter fun x => !p x] := by
  have mA : ∀ x, x ∈ (List.range n).filter p ↔ x < n ∧ p x = true := fun x => by rw [List.mem_filter, List.mem_range]
  have mB : ∀ x, x ∈ (List.range n).filter (fun x => !p x) ↔ x < n ∧ p x = false := fun x => by rw [List.mem_filter, List.mem_range]; cases p x <;> simp
  have pA : Part W n l ((List.range n).filter p) := by
    refine ⟨List.Pairwise.filter _ List.pairwise_lt_range, fun x hx => ((mA x).1 hx).1, fun e => ?_, fun x y hx => ?_⟩
    · obtain ⟨a, ha, h1⟩ := h.1
      have := (mA a).2 ⟨ha, h1⟩
      rw [e] at this; cases this
    · obtain ⟨h1, h2⟩ := (mA x).1 hx
      rw [mA]
      exact ⟨fun ⟨h3, h4⟩ => ⟨hA x h1 y h3 h2 h4, hA y h3 x h1 h4 h2⟩, fun ⟨h3, _⟩ => ⟨adj_lt h3 h1, offs_wy h h1 h3 h2⟩⟩
  have pB : Part W n l ((List.range n).filter fun x => !p x) := by
    refine ⟨List.Pairwise.filter _ List.pairwise_lt_range, fun x hx => ((mB x).1 hx).1, fun e => ?_, fun x y hx => ?_⟩
    · obtain ⟨a, ha, h1⟩ := h.2.1
      have := (mB a).2 ⟨ha, h1⟩
      rw [e] at this; cases this
    · obtain ⟨h1, h2⟩ := (mB x).1 hx
      rw [mB]
      refine ⟨fun ⟨h3, h4⟩ => ⟨hB x h1 y h3 h2 h4, hB y h3 x h1 h4 h2⟩, fun ⟨h3, h5⟩ => ⟨adj_lt h3 h1, ?_⟩⟩
      cases hpy : p y with
      | false => rfl
      | true => rw [offs_wy h (adj_lt h3 h1) h5 hpy] at h2; cases h2
  obtain ⟨i, hi, ei⟩ := List.mem_iff_getElem.1 (part_in pA)
  obtain ⟨j, hj, ej⟩ := List.mem_iff_getElem.1 (part_in pB)
  have gi : (PL W n l).getD i [] = (List.range n).filter p := by rw [List.getD_eq_getElem?_getD, List.getElem?_eq_getElem hi]; exact ei
  have gj : (PL W n l).getD j [] = (List.range n).filter fun x => !p x := by rw [List.getD_eq_getElem?_getD, List.getElem?_eq_getElem hj]; exact ej
  have all : ∀ k, k < (PL W n l).length → k = i ∨ k = j := fun k hk => by
    obtain ⟨x, hx⟩ := List.exists_mem_of_ne_nil _ (PL_at hk).ne
    have hxn := (PL_at hk).lt x hx
    cases hp : p x with
    | true => exact .inl (PL_one hk hi hx (by rw [gi]; exact (mA x).2 ⟨hxn, hp⟩))
    | false => exact .inr (PL_one hk hj hx (by rw [gj]; exact (mB x).2 ⟨hxn, hp⟩))
  obtain ⟨a, c, ha, hc, h1, h2, h3⟩ := he
  obtain ⟨k, hk, hak⟩ := PL_below hj (show c ∈ (PL W n l).getD j [] by rw [gj]; exact (mB c).2 ⟨hc, h2⟩) ha (.one (mem_adjT.2 ⟨ha, h3⟩))
  have hki := PL_one (show k < (PL W n l).length by omega) hi hak (by rw [gi]; exact (mA a).2 ⟨ha, h1⟩)
  have hij : i ≠ j := fun e => by
    rw [e, gj] at gi
    have := (mB a).1 (gi ▸ (mA a).2 ⟨ha, h1⟩)
    rw [h1] at this; cases this.2
  have a0 := all 0 (by omega)
  have a1 := all 1 (by omega)
  have hlen : (PL W n l).length = 2 := by
    by_cases h2 : 2 < (PL W n l).length
    · have := all 2 h2; omega
    · omega
  obtain rfl : i = 0 := by omega
  obtain rfl : j = 1 := by omega
  obtain ⟨x, y, e⟩ : ∃ x y, PL W n l = [x, y] := by
    match h9 : PL W n l, hlen with
    | [x, y], _ => exact ⟨x, y, rfl⟩
  rw [e] at gi gj ⊢
  rw [show x = _ from gi, show y = _ from gj]
def emb (W z t : Nat) : Nat := if t < W then 2 * t + z else 2 * W + 2 * (t - W) + z
theorem emb_lt {W H z t : Nat} (hz : z ≤ 1) (ht : t < W + H) : emb W z t < 2 * W + 2 * H := by unfold emb; split <;> omega
theorem emb_sur {W H z t : Nat} (ht : t < 2 * W + 2 * H) (hp : pD W z t = true) : ∃ s, s < W + H ∧ emb W z s = t := by
  have h2 := of_decide_eq_true hp
  by_cases e : t < 2 * W
  · rw [if_pos e] at h2
    exact ⟨t / 2, by omega, by unfold emb; rw [if_pos (by omega)]; omega⟩
  · rw [if_neg e] at h2
    exact ⟨W + (t - 2 * W) / 2, by omega, by unfold emb; rw [if_neg (by omega)]; omega⟩
theorem pD_not (W z t : Nat) (hz : z ≤ 1) : pD W (1 - z) t = !pD W z t := by
  unfold pD
  rw [← decide_not]
  refine decide_eq_decide.2 ?_
  split <;> omega
theorem dbl_ov {W H z : Nat} (hz : z ≤ 1) {l1 l2 l3 : List Bool} {a c : Nat} (ha : a < W + H) (hc : c < W + H) :
    ov (2 * W) (tabN (2 * W) (uD W l1 l2 l3) (2 * W * (2 * H))) (emb W z a) (emb W z c) = ov W (if z = 0 then l1 else l2) a c := by
  have hget : ∀ x y, x < W → y < H → (tabN (2 * W) (uD W l1 l2 l3) (2 * W * (2 * H))).getD (2 * W * (2 * y + z) + (2 * x + z)) false = (if z = 0 then l1 else l2).getD (W * y + x) false := fun x y hx hy => by
    rw [wov_get (by omega) (by omega)]
    by_cases e : z = 0
    · subst e; rw [if_pos rfl, Nat.add_zero, Nat.add_zero, uD_00, cellD]
    · obtain rfl : z = 1 := by omega
      rw [if_neg e, uD_11, cellD]
  unfold ov emb
  by_cases h1 : a < W <;> by_cases h2 : c < W
  · rw [if_pos h1, if_pos h2, if_pos h1, if_pos h2, if_pos (show 2 * a + z < 2 * W by omega), if_pos (show 2 * c + z < 2 * W by omega)]
  · rw [if_pos h1, if_neg h2, if_pos h1, if_neg h2, if_pos (show 2 * a + z < 2 * W by omega), if_neg (show ¬ 2 * W + 2 * (c - W) + z < 2 * W by omega), show 2 * W + 2 * (c - W) + z - 2 * W = 2 * (c - W) + z by omega, hget a (c - W) h1 (by omega)]
  · rw [if_neg h1, if_pos h2, if_neg h1, if_pos h2, if_neg (show ¬ 2 * W + 2 * (a - W) + z < 2 * W by omega), if_pos (show 2 * c + z < 2 * W by omega), show 2 * W + 2 * (a - W) + z - 2 * W = 2 * (a - W) + z by omega, hget c (a - W) h2 (by omega)]
  · rw [if_neg h1, if_neg h2, if_neg h1, if_neg h2, if_neg (show ¬ 2 * W + 2 * (a - W) + z < 2 * W by omega), if_neg (show ¬ 2 * W + 2 * (c - W) + z < 2 * W by omega)]
theorem dbl_wy {W H z : Nat} (hz : z ≤ 1) {l1 l2 l3 : List Bool} (hg : Hg W (W + H) (if z = 0 then l1 else l2)) : ∀ x, x < 2 * W + 2 * H → ∀ y, y < 2 * W + 2 * H → pD W z x = true → pD W z y = true → Wy (adjT (2 * W) (2 * W + 2 * H) (tabN (2 * W) (uD W l1 l2 l3) (2 * W * (2 * H)))) x y := by
  intro x hx y hy h1 h2
  obtain ⟨s, hs, rfl⟩ := emb_sur hx h1
  obtain ⟨t, ht, rfl⟩ := emb_sur hy h2
  exact wy_map (emb W z) (fun a ha => emb_lt hz ha) (fun a ha c hc h => by rw [dbl_ov hz ha hc]; exact h) (hg_wy hg hs ht) hs
section
variable {W H : Nat} {l1 l2 l3 : List Bool}
theorem dbl_up {u v : Nat} (hu : u < W) (hv : v < H) (h : cell W l3 u v = true) : ov (2 * W) (tabN (2 * W) (uD W l1 l2 l3) (2 * W * (2 * H))) (2 * u) (2 * W + (2 * v + 1)) = true := by
  unfold ov
  rw [if_pos (by omega), if_neg (by omega), show 2 * W + (2 * v + 1) - 2 * W = 2 * v + 1 by omega, wov_get (by omega) (by omega), uD_01, h]
theorem dbl_down {u v : Nat} (hu : u < W) (hv : v < H) (h : cell W l3 u v = false) : ov (2 * W) (tabN (2 * W) (uD W l1 l2 l3) (2 * W * (2 * H))) (2 * u + 1) (2 * W + 2 * v) = true := by
  unfold ov
  rw [if_pos (by omega), if_neg (by omega), show 2 * W + 2 * v - 2 * W = 2 * v by omega, wov_get (by omega) (by omega), uD_10, h]; rfl
variable (hW0 : 0 < W) (hH0 : 0 < H)
include hW0 hH0
theorem dbl_hangs (g1 : Hg W (W + H) l1) (g2 : Hg W (W + H) l2) : Hg (2 * W) (2 * W + 2 * H) (tabN (2 * W) (uD W l1 l2 l3) (2 * W * (2 * H))) ↔ (∃ u v, u < W ∧ v < H ∧ cell W l3 u v = true) ∧ ∃ u v, u < W ∧ v < H ∧ cell W l3 u v = false := by
  have w0 := dbl_wy (W := W) (H := H) (z := 0) (by omega) (l1 := l1) (l2 := l2) (l3 := l3) (by rw [if_pos rfl]; exact g1)
  have w1 := dbl_wy (W := W) (H := H) (z := 1) (by omega) (l1 := l1) (l2 := l2) (l3 := l3) (by rw [if_neg (by omega)]; exact g2)
  constructor
  · intro hg
    constructor
    · refine Classical.byContradiction fun hno => offs_not_hg ((offs_double (l1 := l1) (l2 := l2) (l3 := l3) (z := 1) hW0 hH0 (by omega)).2 fun u v hu hv => ?_) hg
      cases hc : cell W l3 u v with
      | false => rfl
      | true => exact absurd ⟨u, v, hu, hv, hc⟩ hno
    · refine Classical.byContradiction fun hno => offs_not_hg ((offs_double (l1 := l1) (l2 := l2) (l3 := l3) (z := 0) hW0 hH0 (by omega)).2 fun u v hu hv => ?_) hg
      cases hc : cell W l3 u v with
      | true => rfl
      | false => exact absurd ⟨u, v, hu, hv, hc⟩ hno
  · rintro ⟨⟨u, v, hu, hv, h1⟩, ⟨u', v', hu', hv', h2⟩⟩ M hM ⟨c, hc, mc⟩ x hx
    have e1 := dbl_up (l1 := l1) (l2 := l2) hu hv h1
    have e2 := dbl_down (l1 := l1) (l2 := l2) hu' hv' h2
    have p1 : pD W 0 (2 * u) = true := decide_eq_true (by rw [if_pos (by omega)]; omega)
    have p2 : pD W 1 (2 * W + (2 * v + 1)) = true := decide_eq_true (by rw [if_neg (by omega)]; omega)
    have p3 : pD W 1 (2 * u' + 1) = true := decide_eq_true (by rw [if_pos (by omega)]; omega)
    have p4 : pD W 0 (2 * W + 2 * v') = true := decide_eq_true (by rw [if_neg (by omega)]; omega)
    have cl : ∀ a b, a < 2 * W + 2 * H → Wy (adjT (2 * W) (2 * W + 2 * H) (tabN (2 * W) (uD W l1 l2 l3) (2 * W * (2 * H)))) a b → M a → M b := fun a b ha hw hma =>
      (hw.closed (p := fun z => z < 2 * W + 2 * H ∧ M z) (fun a b ⟨ha, hma⟩ hb => ⟨(mem_adjT.1 hb).1, hM a ha hma b (mem_adjT.1 hb).1 (mem_adjT.1 hb).2⟩) ⟨ha, hma⟩).2
    have hpn := fun t => pD_not W 0 t (by omega)
    have m0 : ∀ t, t < 2 * W + 2 * H → pD W 0 t = true → M t → ∀ y, y < 2 * W + 2 * H → M y := fun t ht hp hm y hy => by
      have a0 : ∀ s, s < 2 * W + 2 * H → pD W 0 s = true → M s := fun s hs hps => cl t s ht (w0 t ht s hs hp hps) hm
      have a1 := hM _ (by omega) (a0 _ (by omega) p4) _ (by omega) e2
      cases hpy : pD W 0 y with
      | true => exact a0 y hy hpy
      | false => exact cl _ y (by omega) (w1 _ (by omega) y hy p3 (by have := hpn y; rw [hpy] at this; exact this)) a1
    cases hpc : pD W 0 c with
    | true => exact m0 c hc hpc mc x hx
    | false =>
      have hp1 : pD W 1 c = true := by have := hpn c; rw [hpc] at this; exact this
      have b1 := cl c _ hc (w1 c hc _ (by omega) hp1 p2) mc
      exact m0 _ (by omega) p1 (hM _ (by omega) b1 _ (by omega) e1) x hx
theorem dbl_parts {z : Nat} (hz : z ≤ 1) (g1 : Hg W (W + H) l1) (g2 : Hg W (W + H) l2) (h : ∀ u v, u < W → v < H → cell W l3 u v = decide (z = 0)) :
    PL (2 * W) (2 * W + 2 * H) (tabN (2 * W) (uD W l1 l2 l3) (2 * W * (2 * H))) = [(List.range (2 * W + 2 * H)).filter (pD W z), (List.range (2 * W + 2 * H)).filter (pD W (1 - z))] := by
  have w0 := dbl_wy (W := W) (H := H) (z := 0) (by omega) (l1 := l1) (l2 := l2) (l3 := l3) (by rw [if_pos rfl]; exact g1)
  have w1 := dbl_wy (W := W) (H := H) (z := 1) (by omega) (l1 := l1) (l2 := l2) (l3 := l3) (by rw [if_neg (by omega)]; exact g2)
  have hf : pD W (1 - z) = fun x => !pD W z x := funext fun x => pD_not W z x hz
  have hw : ∀ y, y ≤ 1 → ∀ a, a < 2 * W + 2 * H → ∀ b, b < 2 * W + 2 * H → pD W y a = true → pD W y b = true → Wy (adjT (2 * W) (2 * W + 2 * H) (tabN (2 * W) (uD W l1 l2 l3) (2 * W * (2 * H)))) a b := fun y hy => by
    rcases (show y = 0 ∨ y = 1 by omega) with rfl | rfl
    · exact w0
    · exact w1
  rw [hf]
  refine parts_two ((offs_double hW0 hH0 hz).2 h) (hw z hz) (fun a ha b hb h1 h2 => ?_) ?_
  · refine hw (1 - z) (by omega) a ha b hb ?_ ?_
    · rw [hf]; simp [h1]
    · rw [hf]; simp [h2]
  · have h00 := h 0 0 hW0 hH0
    rcases (show z = 0 ∨ z = 1 by omega) with rfl | rfl
    · exact ⟨2 * 0, 2 * W + (2 * 0 + 1), by omega, by omega, decide_eq_true (by rw [if_pos (by omega)]), decide_eq_false (by rw [if_neg (by omega)]; omega), dbl_up hW0 hH0 h00⟩
    · exact ⟨2 * 0 + 1, 2 * W + 2 * 0, by omega, by omega, decide_eq_true (by rw [if_pos (by omega)]), decide_eq_false (by rw [if_neg (by omega)]; omega), dbl_down hW0 hH0 h00⟩
end
theorem dbl_lay {W H z : Nat} (hz : z ≤ 1) : nI (layE (2 * W) ((List.range (2 * W + 2 * H)).filter (pD W z))) = evenL z W ∧ nI (layP (2 * W) ((List.range (2 * W + 2 * H)).filter (pD W z))) = evenL z H ∧ ((List.range (2 * W + 2 * H)).filter (pD W z)).length = W + H := by
  have hr : nI ((List.range (2 * W + 2 * H)).filter (pD W z)) = thD W H z := (thD_fil hz).symm
  generalize (List.range (2 * W + 2 * H)).filter (pD W z) = r at *
  have hl : r.length = (thD W H z).length := by rw [← hr, nI_len]
  obtain ⟨h1, h2⟩ := ends_lay (2 * W) r r.length (Nat.le_refl _)
  rw [List.take_length, hr, hl] at h1 h2
  rw [← h1, ← h2, thD_ends hz, thD_picks hz, hl, thD_len]
  exact ⟨rfl, rfl, rfl⟩
def big (ps : List (List Nat)) : List (List Nat) := ps.filter fun r => decide (1 < r.length)
def lyS (W : Nat) (rs : List (List Nat)) : List AVal := rs.flatMap (lyC W)
theorem lyS_len (W : Nat) : ∀ rs : List (List Nat), (lyS W rs).length = rs.length * 2
  | [] => rfl
  | r :: rs => by
    show (lyC W r ++ lyS W rs).length = _
    rw [List.length_append, lyS_len W rs]; simp [lyC]; omega
theorem lyS_snoc (W : Nat) (rs : List (List Nat)) (r : List Nat) : lyS W (rs ++ [r]) = lyS W rs ++ lyC W r := by simp [lyS]
theorem big_snoc (ps : List (List Nat)) (r : List Nat) : big (ps ++ [r]) = big ps ++ if 1 < r.length then [r] else [] := by
  unfold big; rw [List.filter_append]; by_cases h : 1 < r.length <;> simp [h]
theorem big_len (ps : List (List Nat)) : (big ps).length ≤ ps.length := List.length_filter_le _ _
theorem lyC_res (h : List AObj) (n W : Nat) (r : List Nat) : (lyC W r).map (resOf h (n + 2)) = lyC W r := by
  simp [lyC, resOf_list, ints_res]
theorem lyS_res (h : List AObj) (n W : Nat) : ∀ rs : List (List Nat), (lyS W rs).map (resOf h (n + 2)) = lyS W rs
  | [] => rfl
  | r :: rs => by
    show (lyC W r ++ lyS W rs).map _ = lyC W r ++ lyS W rs
    rw [List.map_append, lyC_res, lyS_res]
theorem lyC_fr (k W : Nat) (r : List Nat) : ∀ x ∈ lyC W r, allFresh (k + 2) x = true := by
  intro x hx
  simp only [lyC, List.mem_cons, List.not_mem_nil, or_false] at hx
  rcases hx with rfl | rfl <;> simp [allFresh, ints_fresh]
theorem resOf_gwL {h : List AObj} {n k : Nat} {W : Nat} {rs : List (List Nat)} (ho : h[k]? = some (goW 49 2 (lyS W rs))) : resOf h (n + 3) (gwW 2 k rs.length) = .list true rs.isEmpty rs.length (lyS W rs) := by
  cases rs with
  | nil => rfl
  | cons r t =>
    have hl := lyS_len W (r :: t)
    unfold gwW
    rw [if_neg (by simp)]
    rw [resOf_ref, ho]
    have hg : goW 49 2 (lyS W (r :: t)) = ⟨49, 2, lyS W (r :: t)⟩ := rfl
    rw [hg]
    simp only [rX]
    rw [if_pos hl, List.drop_zero, List.take_of_length_le (by omega), lyS_res]; rfl
def YV (W : Nat) (ps : List (List Nat)) : AVal := .list true (big ps).isEmpty (big ps).length (lyS W (big ps))
theorem layersP_c {W H n : Nat} (hN : W + H = n) (hW0 : 0 < W) (hH0 : 0 < H) (hn64 : n ≤ 64) (b : Bool) {l : List Bool} (hn : l.length = W * H) : Contract Tryz.prog 17 [GA W H b l] (.tuple [YV W (PL W n l), I 0]) := by
  have hrn : ∀ r ∈ PL W n l, r.length ≤ 1000 ∧ ∀ x ∈ r, x < n := fun r hr => by
    obtain ⟨h1, h2⟩ := PL_row hr
    exact ⟨by omega, h2⟩
  have hps := parts_len (W := W) (n := n) (l := l)
  have hpp := partsPP_c hN hW0 hH0 hn64 b hn
  generalize PL W n l = ps at *
  refine zi Tryz.func17 ?_
  refine zs ?_
  refine callK_F 6 hpp (by simp (disch := first | assumption | omega | rfl | simp only [RH]) only [↓RP, RZ, ↓reduceIte, Nat.reduceEqDiff, reduceCtorEq, Nat.reduceBEq, Nat.reduceAdd, Nat.reduceLeDiff, RA] <;> rfl) (.inl (by simp [allFresh]; exact PV_fr 2 _)) ?_
  simp only [PV]
  refine zs ?_
  refine loopK_WW [1, 5, 6, 14, 15, 16] (fun i : Nat => i ≤ ps.length) (fun i => ⟨[(1, .ptr 0 0 3), (5, I 0), (6, gwW 2 1 (big (ps.take i)).length), (14, .list true ps.isEmpty ps.length (rowsC ps)), (15, I ps.length), (16, I i)], [⟨24, 3, [I W, I H, BA b l]⟩, goW 49 2 (lyS W (big (ps.take i)))]⟩) (fun i => ps.length - i) 0 (by omega) ?_ ?_
  · simp only [↓RP, RG, FX, RQ, ↓reduceIte, Nat.reduceEqDiff, reduceCtorEq, Nat.reduceBEq, Nat.reduceAdd, Nat.reduceLeDiff]
    exact Wk.weak (WE.cons _ (.refl _) (WE.cons _ (.refl _) (WE.cons _ (.nil _) (WE.cons _ (.refl _) (WE.cons _ (.refl _) (WE.cons _ (.refl _) WE.nil)))))) (.cons _ _ _ _ (WL.refl _) (.nil _ (by simp [goW, lyS, big])))
  intro i hi
  have hb := big_len (ps.take i)
  rw [List.length_take] at hb
  have hlS := lyS_len W (big (ps.take i))
  by_cases hlt : i < ps.length
  · have hrk := rowsC_at hlt
    have hmem : ps.getD i [] ∈ ps := by rw [List.getD_eq_getElem?_getD, List.getElem?_eq_getElem hlt]; exact List.getElem_mem hlt
    obtain ⟨hr1, hr2⟩ := hrn _ hmem
    have htk : ps.take (i + 1) = ps.take i ++ [ps.getD i []] := by rw [List.take_add_one, List.getElem?_eq_getElem hlt, List.getD_eq_getElem?_getD, List.getElem?_eq_getElem hlt]; rfl
    have hbs := big_snoc (ps.take i) (ps.getD i [])
    rw [← htk] at hbs
    generalize ps.getD i [] = r at *
    have hrl := nI_len r
    by_cases h1 : 1 < r.length
    · rw [if_pos h1] at hbs
      have hly := layerP_c hN hn64 b (l := l) false hr2 hr1
      generalize big (ps.take i) = R at *
      have hap : ∀ p0 : AObj, aAppend Tryz.prog 44 [p0, goW 49 2 (lyS W R)] (gwW 2 1 R.length) (.lit 1 (lyC W r)) = some (gwW 2 1 (R.length + 1), [p0, goW 49 2 (lyS W (R ++ [r]))]) := fun p0 => by
        rw [append_W (e := 49) (xs := lyS W R) rfl hlS rfl rfl (by omega) (by omega), lyS_snoc]; rfl
      have hRl : (R ++ [r]).length = R.length + 1 := by simp
      refine zx1 @hrk ?_
      refine callK_F 6 hly (by simp (disch := first | assumption | omega | rfl | simp only [RH]) only [↓RP, RZ, ↓reduceIte, Nat.reduceEqDiff, reduceCtorEq, Nat.reduceBEq, Nat.reduceAdd, Nat.reduceLeDiff, RA] <;> rfl) (.inl (by simp [allFresh]; exact lyC_fr 3 W r)) ?_
      simp only [lyC] at hap
      simp (disch := first | assumption | omega | rfl | simp only [RH]) only [↓RP, RZ, ↓reduceIte, Nat.reduceEqDiff, reduceCtorEq, Nat.reduceBEq, Nat.reduceAdd, Nat.reduceLeDiff, hap, lyC]
      exact ⟨i + 1, hlt, Wk.of_eq (by rw [hbs, hRl]; rfl), by omega⟩
    · rw [if_neg h1, List.append_nil] at hbs
      refine zx1 @hrk ?_
      exact ⟨i + 1, hlt, Wk.of_eq (by rw [hbs]; rfl), by omega⟩
  · obtain rfl : ps.length = i := by omega
    rw [List.take_length]
    refine zs ?_
    refine zr2 ?_
    rw [resOf_gwL rfl]; rfl
theorem isR7_c (op : Int) : Contract Tryz.prog 6 [I op] (B (decide (0 ≤ op ∧ op < 16))) := by
  by_cases c1 : 0 ≤ op
  · by_cases c2 : op < 16
    · rw [decide_eq_true ⟨c1, c2⟩]
      refine zi Tryz.func6 ?_
      refine zs ?_
      exact zq1
    · rw [decide_eq_false fun h => c2 h.2]
      refine zi Tryz.func6 ?_
      refine zs ?_
      exact zq1
  · rw [decide_eq_false fun h => c1 h.1]
    refine zi Tryz.func6 ?_
    refine zs ?_
    exact zq1
theorem arM_mod (a : Int) {n : Int} (hn : 0 < n) : arM a n = a % n := by
  obtain ⟨q, hq⟩ := arM_q a n
  obtain ⟨h1, h2⟩ := arM_bd a hn
  rw [← Int.emod_eq_of_lt h1 h2, hq, Int.sub_mul_emod_self_left]
theorem shift_sim {W H : Nat} (hW0 : 0 < W) (hH0 : 0 < H) (l : List Bool) (dx dy : Int) : Sim (pln W H l) (pln W H (tabN W (uS W H l (shN dx W) (shN dy H)) (W * H))) := by
  refine ⟨-dx, -dy, fun x y => ?_⟩
  have a1 := Int.emod_nonneg x (show (W : Int) ≠ 0 by omega)
  have a2 := Int.emod_lt_of_pos x (show (0 : Int) < W by omega)
  have b1 := Int.emod_nonneg y (show (H : Int) ≠ 0 by omega)
  have b2 := Int.emod_lt_of_pos y (show (0 : Int) < H by omega)
  unfold pln
  rw [tabN_get W _ (by omega) (idx_lt (by omega) (by omega))]
  unfold uS shN
  rw [Int.toNat_of_nonneg a1, Int.toNat_of_nonneg b1, arM_mod _ (by omega), arM_mod _ (by omega), Int.emod_sub_emod, Int.emod_sub_emod]
  rfl
theorem win_sim {P : Int → Int → Bool} {u v : Nat} {f : List Bool} {s t : Int} (hm : MinPer P u v) (hf : f = win P s t u v) : Sim P (pln u v f) := ⟨s, t, fun x y => by rw [hf, pln_win hm.px hm.py hm.w0 hm.h0, Int.add_comm s, Int.add_comm t]⟩
theorem opP_zero (P : Int → Int → Bool) : opP 0 P = P := by unfold opP; simp only [Nat.zero_testBit, act_id]
theorem form_op {P : Int → Int → Bool} (o : Nat) {u v : Nat} {f : List Bool} : IsForm (opP o P) u v f ↔ IsForm P u v f := by
  refine ⟨form_act _ _ _ _, fun h => ?_⟩
  rw [← act_inv (o.testBit 0) (o.testBit 1) (o.testBit 2) (o.testBit 3) P] at h
  exact form_act _ _ _ _ h
theorem form_eq {P Q : Int → Int → Bool} (o : Nat) (h : Sim (opP o P) Q) {u v : Nat} {f : List Bool} : IsForm Q u v f ↔ IsForm P u v f :=
  ⟨fun g => (form_op o).1 (form_sim h.symm g), fun g => form_sim h ((form_op o).2 g)⟩
theorem least_eq {P Q : Int → Int → Bool} {o : Nat} (h : Sim (opP o P) Q) {Z Z' : Bf} (h1 : MinPer (opP Z.o P) Z.u Z.v) (h2 : ∃ s t, Z.f = win (opP Z.o P) s t Z.u Z.v) (h3 : ∀ u v f, IsForm P u v f → bfr u v f Z.u Z.v Z.f = false) (h4 : OkB Z)
    (g1 : MinPer (opP Z'.o Q) Z'.u Z'.v) (g2 : ∃ s t, Z'.f = win (opP Z'.o Q) s t Z'.u Z'.v) (g3 : ∀ u v f, IsForm Q u v f → bfr u v f Z'.u Z'.v Z'.f = false) (g4 : OkB Z') : Z'.u = Z.u ∧ Z'.v = Z.v ∧ Z'.f = Z.f := by
  obtain ⟨s, t, e⟩ := h2
  obtain ⟨s', t', e'⟩ := g2
  have f1 : IsForm P Z.u Z.v Z.f := ⟨_, _, _, _, h1, s, t, e⟩
  have f2 : IsForm Q Z'.u Z'.v Z'.f := ⟨_, _, _, _, g1, s', t', e'⟩
  exact bfr_total g4.2.2 h4.2.2 (h3 _ _ _ ((form_eq o h).1 f2)) (g3 _ _ _ ((form_eq o h).2 f1))
theorem evenL_ne {z n : Nat} (h : 0 < n) : (evenL z n).isEmpty = false := by
  cases he : evenL z n with
  | nil => have := evenL_len z n; rw [he] at this; simp at this; omega
  | cons a t => rfl
theorem dbl_YV {W H z y : Nat} (hW0 : 0 < W) (hH0 : 0 < H) (hz : z ≤ 1) (hy : y ≤ 1) : YV (2 * W) [(List.range (2 * W + 2 * H)).filter (pD W z), (List.range (2 * W + 2 * H)).filter (pD W y)] = .list true false 2 [LR false (evenL z W), LR false (evenL z H), LR false (evenL y W), LR false (evenL y H)] := by
  obtain ⟨a1, a2, a3⟩ := dbl_lay (W := W) (H := H) hz
  obtain ⟨c1, c2, c3⟩ := dbl_lay (W := W) (H := H) hy
  generalize (List.range (2 * W + 2 * H)).filter (pD W z) = A at *
  generalize (List.range (2 * W + 2 * H)).filter (pD W y) = C at *
  have hb : big [A, C] = [A, C] := by
    unfold big
    rw [List.filter_cons_of_pos (by simp; omega), List.filter_cons_of_pos (by simp; omega), List.filter_nil]
  unfold YV
  rw [hb]
  show AVal.list true false 2 (lyC (2 * W) A ++ (lyC (2 * W) C ++ [])) = _
  unfold lyC
  rw [← nI_isEmpty, ← nI_isEmpty, ← nI_isEmpty, ← nI_isEmpty, a1, a2, c1, c2, evenL_ne hW0, evenL_ne hH0, evenL_ne hW0, evenL_ne hH0]
  rfl
section
variable {W H : Nat} (hW0 : 0 < W) (hH0 : 0 < H) (hW : W ≤ 6) (hH : H ≤ 6) {l1 l2 l3 : List Bool} (n1 : l1.length = W * H) (n2 : l2.length = W * H)
include hW0 hH0 hW hH n1 n2
theorem only_dbl {z : Nat} (hz : z ≤ 1) (bb : Bool) : Contract Tryz.prog 18 [GA ((2 * W : Nat) : Int) ((2 * H : Nat) : Int) false (tabN (2 * W) (uD W l1 l2 l3) (2 * W * (2 * H))), LA bb (thD W H z)] (.tuple [GR W H false (if z = 0 then l1 else l2), I 0]) := by
  have hDl := tabN_len (2 * W) (uD W l1 l2 l3) (2 * W * (2 * H))
  have hasc : ascTo (((2 * W : Nat) : Int) + ((2 * H : Nat) : Int)) (thD W H z) (thD W H z).length := by
    have hok : okS (2 * W + 2 * H) (thD W H z) (thD W H z).length := by rw [thD_fil hz]; exact fil_okS _ _
    intro i hi
    obtain ⟨⟨g1, g2⟩, g3⟩ := hok i hi
    exact ⟨g1, by omega, g3⟩
  have := onlyP_ok ((2 * W : Nat) : Int) ((2 * H : Nat) : Int) false (tabN (2 * W) (uD W l1 l2 l3) (2 * W * (2 * H))) bb (thD W H z) ⟨by omega, by omega, by omega, by omega, by rw [hDl, Int.natCast_mul]⟩ (by rw [thD_len]; omega) hasc (evenL z W) (evenL z H) (thD_ends hz).symm (thD_picks hz).symm
  rw [evenL_len, evenL_len, if_neg (by omega), only_a n1 n2 hz] at this
  exact this
end
section
variable {W H : Nat} (hW0 : 0 < W) (hH0 : 0 < H) {l1 l2 l3 : List Bool} (n3 : l3.length = W * H)
include hW0 hH0 n3
theorem dbl_apart {z : Nat} (hz : z ≤ 1) (h : cnt l3 l3.length = if z = 0 then l3.length else 0) : (∀ u v, u < W → v < H → cell W l3 u v = decide (z = 0)) ∧ ¬ Hg (2 * W) (2 * W + 2 * H) (tabN (2 * W) (uD W l1 l2 l3) (2 * W * (2 * H))) := by
  have hu : ∀ u v, u < W → v < H → cell W l3 u v = decide (z = 0) := by
    intro u v hu hv
    rw [cellD]
    by_cases e : z = 0
    · rw [if_pos e, cnt_all, n3] at h
      rw [h _ (idx_lt hu hv), decide_eq_true e]
    · rw [if_neg e, cnt_none, n3] at h
      rw [h _ (idx_lt hu hv), decide_eq_false e]
  exact ⟨hu, fun hg => offs_not_hg ((offs_double hW0 hH0 hz).2 hu) hg⟩
theorem dbl_whole (g1 : Hg W (W + H) l1) (g2 : Hg W (W + H) l2) (h0 : cnt l3 l3.length ≠ 0) (hl : cnt l3 l3.length ≠ l3.length) : Hg (2 * W) (2 * W + 2 * H) (tabN (2 * W) (uD W l1 l2 l3) (2 * W * (2 * H))) := by
  have cells : ∀ (v : Bool), (∀ i, i < W * H → l3.getD i false = v) ↔ ∀ u y, u < W → y < H → cell W l3 u y = v := fun v => by
    constructor
    · intro h u y hu hy
      rw [cellD, h _ (idx_lt hu hy)]
    · intro h i hi
      have h1 : i / W < H := Nat.div_lt_of_lt_mul hi
      have := h (i % W) (i / W) (Nat.mod_lt _ hW0) h1
      rwa [cellD, Nat.div_add_mod] at this
  have q1 : cnt l3 l3.length = l3.length ↔ ∀ u y, u < W → y < H → cell W l3 u y = true := by rw [cnt_all, n3]; exact cells true
  have q0 : cnt l3 l3.length = 0 ↔ ∀ u y, u < W → y < H → cell W l3 u y = false := by rw [cnt_none, n3]; exact cells false
  refine (dbl_hangs hW0 hH0 g1 g2).2 ⟨Classical.byContradiction fun hno => h0 (q0.2 fun u y hu hy => ?_), Classical.byContradiction fun hno => hl (q1.2 fun u y hu hy => ?_)⟩
  · cases hc : cell W l3 u y with
    | false => rfl
    | true => exact absurd ⟨u, y, hu, hy, hc⟩ hno
  · cases hc : cell W l3 u y with
    | true => rfl
    | false => exact absurd ⟨u, y, hu, hy, hc⟩ hno
end
theorem thD_take (W H z : Nat) : thD W H z = evenL z W ++ ((evenL z H).take H).map (· + ((2 * W : Nat) : Int)) := by
  unfold thD
  congr 1
  rw [List.take_of_length_le (by rw [evenL_len]; exact Nat.le_refl _)]
  unfold mixL evenL
  rw [List.map_map]
  refine List.map_congr_left fun v hv => ?_
  rw [if_pos (by simpa using hv)]; rfl
theorem even_at {z n i : Nat} (h : i < n) : (evenL z n).getD i 0 = ((2 * i + z : Nat) : Int) := by
  unfold evenL
  rw [List.getD_eq_getElem?_getD, List.getElem?_map, List.getElem?_range h]; rfl
def fitT (w1 h1 : Int) (l1 : List Bool) (w2 h2 : Int) (l2 : List Bool) (w3 h3 : Int) (l3 : List Bool) (op dx dy : Int) : Prop :=
  thr w1 h1 l1.length w2 h2 l2.length w3 h3 l3.length = 0 ∧ w1 ≤ 6 ∧ h1 ≤ 6 ∧ (0 ≤ op ∧ op < 16) ∧ -1000 ≤ dx ∧ dx ≤ 1000 ∧ -1000 ≤ dy ∧ dy ≤ 1000
set_option maxHeartbeats 4000000 in
theorem topCloth_no (w1 h1 : Int) (b1 : Bool) (l1 : List Bool) (w2 h2 : Int) (b2 : Bool) (l2 : List Bool) (w3 h3 : Int) (b3 : Bool) (l3 : List Bool) (op dx dy : Int) (hv : ¬ fitT w1 h1 l1 w2 h2 l2 w3 h3 l3 op dx dy) :
    Contract Tryz.prog 3 [GA w1 h1 b1 l1, GA w2 h2 b2 l2, GA w3 h3 b3 l3, I op, I dx, I dy] (B true) := by
  have hTT := three_c w1 h1 b1 l1 w2 h2 b2 l2 w3 h3 b3 l3
  have hIs := isR7_c op
  unfold fitT at hv
  generalize thr w1 h1 l1.length w2 h2 l2.length w3 h3 l3.length = q at *
  refine zi Tryz.func3 ?_
  refine zs ?_
  refine zc (alive12T_c) ?_
  refine zs ?_
  refine zc (hTT) ?_
  by_cases hq : q = 0
  rotate_left
  · refine zs ?_
    exact zq1
  by_cases c1 : w1 ≤ 6
  rotate_left
  · refine zs ?_
    exact zq1
  by_cases c2 : h1 ≤ 6
  rotate_left
  · refine zs ?_
    exact zq1
  refine zs ?_
  refine zc (hIs) ?_
  by_cases c3 : 0 ≤ op ∧ op < 16
  rotate_left
  · rw [decide_eq_false c3]
    refine zs ?_
    exact zq1
  rw [decide_eq_true c3]
  by_cases c4 : -1000 ≤ dx
  rotate_left
  · refine zs ?_
    exact zq1
  by_cases c5 : dx ≤ 1000
  rotate_left
  · refine zs ?_
    exact zq1
  by_cases c6 : -1000 ≤ dy
  rotate_left
  · refine zs ?_
    exact zq1
  by_cases c7 : dy ≤ 1000
  rotate_left
  · refine zs ?_
    exact zq1
  exact absurd ⟨hq, c1, c2, c3, c4, c5, c6, c7⟩ hv
theorem fitT_nat {w1 h1 : Int} {l1 : List Bool} {w2 h2 : Int} {l2 : List Bool} {w3 h3 : Int} {l3 : List Bool} {op dx dy : Int} (hv : fitT w1 h1 l1 w2 h2 l2 w3 h3 l3 op dx dy) :
    ∃ W H o : Nat, w1 = W ∧ h1 = H ∧ w2 = W ∧ h2 = H ∧ w3 = W ∧ h3 = H ∧ op = o ∧ 0 < W ∧ 0 < H ∧ W ≤ 6 ∧ H ≤ 6 ∧ o < 16 ∧ l1.length = W * H ∧ l2.length = W * H ∧ l3.length = W * H := by
  obtain ⟨f1, f2, f3, f4, _⟩ := hv
  obtain ⟨g1, g2, g3, rfl, rfl, rfl, rfl⟩ := thr_zero f1
  obtain ⟨W, H, rfl, rfl, hW0, hW, hH0, hH, n1⟩ := gOk_nat g1
  have n2 : l2.length = W * H := by have := g2.2.2.2.2; rw [← Int.natCast_mul] at this; exact Int.ofNat.inj this
  have n3 : l3.length = W * H := by have := g3.2.2.2.2; rw [← Int.natCast_mul] at this; exact Int.ofNat.inj this
  exact ⟨W, H, op.toNat, rfl, rfl, rfl, rfl, rfl, rfl, by omega, hW0, hH0, by omega, by omega, by omega, n1, n2, n3⟩
set_option maxHeartbeats 8000000 in
theorem topCloth_c (w1 h1 : Int) (b1 : Bool) (l1 : List Bool) (w2 h2 : Int) (b2 : Bool) (l2 : List Bool) (w3 h3 : Int) (b3 : Bool) (l3 : List Bool) (op dx dy : Int) :
    Contract Tryz.prog 3 [GA w1 h1 b1 l1, GA w2 h2 b2 l2, GA w3 h3 b3 l3, I op, I dx, I dy] (B true) := by
  classical
  by_cases hv : fitT w1 h1 l1 w2 h2 l2 w3 h3 l3 op dx dy
  rotate_left
  · exact topCloth_no w1 h1 b1 l1 w2 h2 b2 l2 w3 h3 b3 l3 op dx dy hv
  have hTT := three_c w1 h1 b1 l1 w2 h2 b2 l2 w3 h3 b3 l3
  obtain ⟨hq, _, _, _, c4, c5, c6, c7⟩ := id hv
  rw [hq] at hTT
  obtain ⟨W, H, o, rfl, rfl, rfl, rfl, rfl, rfl, rfl, hW0, hH0, hW, hH, ho, n1, n2, n3⟩ := fitT_nat hv
  clear hv hq
  have hIs := isR7_c (o : Int)
  rw [decide_eq_true ⟨by omega, by omega⟩] at hIs
  have hWH : W * H ≤ 6 * 6 := Nat.mul_le_mul hW hH
  have hWH0 : 0 < W * H := Nat.mul_pos hW0 hH0
  obtain ⟨w, h, la, ew, eh, nla, hsim, _, hap⟩ := apply_c hW0 hH0 (by omega) (by omega) b1 n1 ho
  have hw0 : 0 < w ∧ w ≤ 16 := by rw [ew]; split <;> omega
  have hh0 : 0 < h ∧ h ≤ 16 := by rw [eh]; split <;> omega
  clear ew eh
  have hsh := shiftP_c hw0.1 hh0.1 (by omega) (by omega) false nla dx dy
  have nld := tabN_len w (uS w h la (shN (arM dx w) w) (shN (arM dy h) h)) (w * h)
  have hsd : Sim (opP o (pln W H l1)) (pln w h (tabN w (uS w h la (shN (arM dx w) w) (shN (arM dy h) h)) (w * h))) := Sim.trans hsim (shift_sim hw0.1 hh0.1 la (arM dx w) (arM dy h))
  clear hsim
  generalize tabN w (uS w h la (shN (arM dx w) w) (shN (arM dy h) h)) (w * h) = ld at *
  obtain ⟨Z, z1, z2, z3, z4, _, z6, z7⟩ := least_c hW0 hH0 (by omega) (by omega) b1 n1
  obtain ⟨Y, y1, y2, y3, y4, _, y6, y7⟩ := least_c hw0.1 hh0.1 hw0.2 hh0.2 false nld
  obtain ⟨e1, e2, e3⟩ := least_eq hsd z2 z3 z4 z6 y2 y3 y4 y6
  rw [e1, e2, e3] at y7
  obtain ⟨mw, mh, hm, hmW, hmH, hre⟩ := rect_c hW0 hH0 (by omega) (by omega) b1 n1
  have hpa := gpart_c hW0 hH0 (by omega) (by omega) b1 n1 hm.w0 hm.h0 hmW hmH
  have hpl := win_len (pln W H l1) 0 0 mw mh
  have s1 := same12_c hW0 hH0 (by omega) (by omega) hw0.1 hh0.1 hw0.2 hh0.2 b1 false n1 nld ho hsd
  obtain ⟨zsh, zt, hzf⟩ := z3
  have s2 := same12_c hW0 hH0 (by omega) (by omega) z2.w0 z2.h0 z6.1 z6.2.1 b1 false n1 z6.2.2 z1 (win_sim z2 hzf)
  have s3 := same12_c hW0 hH0 (by omega) (by omega) hm.w0 hm.h0 (by omega) (by omega) b1 false n1 hpl (op := 0) (by omega) (by rw [opP_zero]; exact win_sim hm rfl)
  have hsm := sameR_c Z.u Z.v Z.u Z.v false false Z.f Z.f (by rw [z6.2.2]; have := Nat.mul_le_mul z6.1 z6.2.1; omega)
  rw [decide_eq_true ⟨rfl, rfl, rfl⟩] at hsm
  have hZl := z6.2.2
  have hZ1 := z6.1
  have hZ2 := z6.2.1
  have hZn : Z.u * Z.v ≤ 16 * 16 := Nat.mul_le_mul hZ1 hZ2
  clear e1 e2 e3 z2 hzf z4 z6 y2 y3 y4 y6 hsd
  generalize Z.u = zu at *
  generalize Z.v = zv at *
  generalize Z.f = zf at *
  generalize Z.o = zo at *
  generalize Y.o = yo at *
  have hmn : mw * mh ≤ 6 * 6 := Nat.mul_le_mul (by omega) (by omega)
  have hwn : w * h ≤ 16 * 16 := Nat.mul_le_mul hw0.2 hh0.2
  clear hm
  generalize win (pln W H l1) 0 0 mw mh = pf at *
  have hq2 : 2 * W * (2 * H) ≤ 12 * 12 := Nat.mul_le_mul (by omega) (by omega)
  have hw := weaveP_c W H b1 l1 W H b2 l2 W H b3 l3
  have hwv : wv W H l1 W H l2 W H l3 = [GR ((2 * W : Nat) : Int) ((2 * H : Nat) : Int) false (tabN (2 * W) (uD W l1 l2 l3) (2 * W * (2 * H))), I 0] := by
    unfold wv
    rw [if_neg (by rw [thr_same hW0 hH0 (by omega) (by omega) n1 n2 n3]; omega), if_neg (by omega)]
    rfl
  rw [hwv] at hw
  have hDl := tabN_len (2 * W) (uD W l1 l2 l3) (2 * W * (2 * H))
  have hc := count_c (w := W) (h := H) b3 (l := l3) ⟨by omega, by omega, by omega, by omega, by rw [n3, Int.natCast_mul]⟩ (by omega)
  have hcl := cnt_le l3 l3.length
  have k1 := hangsP_c (n := W + H) rfl hW0 hH0 (by omega) b1 n1
  have k2 := hangsP_c (n := W + H) rfl hW0 hH0 (by omega) b2 n2
  have k3 := hangsP_c (W := 2 * W) (H := 2 * H) (n := 2 * W + 2 * H) rfl (by omega) (by omega) (by omega) false hDl
  have j1 : decide ((best W (W + H) l1 (W + H - 1)).length = W + H) = decide (Hg W (W + H) l1) := decide_eq_decide.2 (hg_best (by omega))
  have j2 : decide ((best W (W + H) l2 (W + H - 1)).length = W + H) = decide (Hg W (W + H) l2) := decide_eq_decide.2 (hg_best (by omega))
  have j3 : decide ((best (2 * W) (2 * W + 2 * H) (tabN (2 * W) (uD W l1 l2 l3) (2 * W * (2 * H))) (2 * W + 2 * H - 1)).length = 2 * W + 2 * H) = decide (Hg (2 * W) (2 * W + 2 * H) (tabN (2 * W) (uD W l1 l2 l3) (2 * W * (2 * H)))) := decide_eq_decide.2 (hg_best (by omega))
  rw [j1] at k1
  rw [j2] at k2
  rw [j3] at k3
  clear hwv j1 j2 j3
  have hlay := layersP_c (W := 2 * W) (H := 2 * H) (n := 2 * W + 2 * H) rfl (by omega) (by omega) (by omega) false hDl
  have honly := fun (z : Nat) (hz : z ≤ 1) => only_dbl hW0 hH0 hW hH (l3 := l3) n1 n2 hz false
  have hlik1 := alike_c hW0 hH0 (by omega) (by omega) false b1 n1
  have hlik2 := alike_c hW0 hH0 (by omega) (by omega) false b2 n2
  have f0 : ∀ z : Nat, z ≤ 1 → cnt l3 l3.length = (if z = 0 then l3.length else 0) → decide (Hg (2 * W) (2 * W + 2 * H) (tabN (2 * W) (uD W l1 l2 l3) (2 * W * (2 * H)))) = false ∧ (decide (Hg W (W + H) l1) = true → decide (Hg W (W + H) l2) = true → YV (2 * W) (PL (2 * W) (2 * W + 2 * H) (tabN (2 * W) (uD W l1 l2 l3) (2 * W * (2 * H)))) = .list true false 2 [LR false (evenL z W), LR false (evenL z H), LR false (evenL (1 - z) W), LR false (evenL (1 - z) H)]) := fun z hz hcn => by
    obtain ⟨g1, g2⟩ := dbl_apart (l1 := l1) (l2 := l2) hW0 hH0 n3 hz hcn
    refine ⟨decide_eq_false g2, fun a1 a2 => ?_⟩
    rw [dbl_parts hW0 hH0 hz (of_decide_eq_true a1) (of_decide_eq_true a2) g1, dbl_YV hW0 hH0 hz (by omega)]
  have f1 : decide (Hg W (W + H) l1) = true → decide (Hg W (W + H) l2) = true → cnt l3 l3.length ≠ 0 → cnt l3 l3.length ≠ l3.length → decide (Hg (2 * W) (2 * W + 2 * H) (tabN (2 * W) (uD W l1 l2 l3) (2 * W * (2 * H)))) = true := fun a1 a2 a3 a4 => decide_eq_true (dbl_whole hW0 hH0 n3 (of_decide_eq_true a1) (of_decide_eq_true a2) a3 a4)
  generalize YV (2 * W) (PL (2 * W) (2 * W + 2 * H) (tabN (2 * W) (uD W l1 l2 l3) (2 * W * (2 * H)))) = LV at *
  generalize decide (Hg (2 * W) (2 * W + 2 * H) (tabN (2 * W) (uD W l1 l2 l3) (2 * W * (2 * H)))) = d3 at *
  generalize decide (Hg W (W + H) l1) = d1 at *
  generalize decide (Hg W (W + H) l2) = d2 at *
  generalize tabN (2 * W) (uD W l1 l2 l3) (2 * W * (2 * H)) = D at *
  have hl3 : 0 < l3.length := by omega
  have hl3b : l3.length ≤ 36 := by omega
  generalize cnt l3 l3.length = cn at *
  refine zi Tryz.func3 ?_
  refine zs ?_
  refine zc (alive12T_c) ?_
  refine zs ?_
  refine zc (hTT) ?_
  refine zs ?_
  refine zc (hIs) ?_
  refine zs ?_
  refine zc hap ?_
  refine zs ?_
  refine zc hsh ?_
  refine zs ?_
  refine zc z7 ?_
  refine zs ?_
  refine zc hre ?_
  refine zs ?_
  refine zc hpa ?_
  refine zs ?_
  refine zc s1 ?_
  refine zs ?_
  refine zc s2 ?_
  refine zs ?_
  refine zc s3 ?_
  refine zs ?_
  refine zc y7 ?_
  refine zs ?_
  refine zc hsm ?_
  refine zs ?_
  refine zc (k1) ?_
  refine zs ?_
  refine zc (k2) ?_
  refine zs ?_
  refine zc (hw) ?_
  refine zs ?_
  refine zc k3 ?_
  refine zs ?_
  refine zc (hc) ?_
  by_cases hmix : cn ≠ 0 ∧ cn ≠ l3.length
  · obtain ⟨m1, m2⟩ := hmix
    have f2 := fun a1 a2 => f1 a1 a2 m1 m2
    cases d1 with
    | false =>
      refine zs ?_
      exact zq1
    | true =>
      cases d2 with
      | false =>
        refine zs ?_
        exact zq1
      | true =>
        obtain rfl := f2 rfl rfl
        refine zs ?_
        exact zq1
  obtain ⟨z, hz1, hz⟩ : ∃ z : Nat, z ≤ 1 ∧ cn = if z = 0 then l3.length else 0 := by
    by_cases e : cn = 0
    · exact ⟨1, by omega, by rw [if_neg (by omega)]; exact e⟩
    · exact ⟨0, by omega, by rw [if_pos rfl]; exact Classical.byContradiction fun e2 => hmix ⟨e, e2⟩⟩
  obtain ⟨rfl, f2⟩ := f0 z hz1 hz
  clear f0 f1
  have hcn : ((cn : Int) == 0) = decide (z = 1) := by
    rcases (show z = 0 ∨ z = 1 by omega) with rfl | rfl
    · rw [if_pos rfl] at hz
      rw [hz]
      have : ¬ ((l3.length : Int) = 0) := by omega
      simpa using this
    · rw [if_neg (by omega)] at hz
      rw [hz]; rfl
  have hmx : ¬ (0 < (cn : Int) ∧ (cn : Int) < l3.length) := by rintro ⟨a, c⟩; exact hmix ⟨by omega, by omega⟩
  cases d1 with
  | false =>
    by_cases p0 : 0 < (cn : Int)
    · have p1 : ¬ (cn : Int) < l3.length := fun h => hmx ⟨p0, h⟩
      refine zs ?_
      exact zq1
    · refine zs ?_
      exact zq1
  | true =>
    cases d2 with
    | false =>
      by_cases p0 : 0 < (cn : Int)
      · have p1 : ¬ (cn : Int) < l3.length := fun h => hmx ⟨p0, h⟩
        refine zs ?_
        exact zq1
      · refine zs ?_
        exact zq1
    | true =>
      have f3 := f2 rfl rfl
      obtain ⟨L, hL⟩ : ∃ L : List AVal, L = [LR false (evenL z W), LR false (evenL z H), LR false (evenL (1 - z) W), LR false (evenL (1 - z) H)] := ⟨_, rfl⟩
      rw [f3, ← hL] at hlay
      clear f3 f2
      have hren : ∀ (f : Nat → Option Nat) (n : Nat), L.map (ren f (n + 2)) = L := fun f n => by rw [hL]; simp only [List.map_cons, List.map_nil, LR, RK, map_ren_ints]
      have hfr : ∀ k, allFresh (k + 6) (.tuple [.list true false 2 L, I 0]) = true := fun k => by rw [hL]; simp [allFresh, ints_fresh]
      have hdr : ∀ t : Nat, t < 2 → ∃ zt : Nat, zt ≤ 1 ∧ (((t : Int) == 0) == ((cn : Int) == 0)) = decide (zt = 1) ∧ ∃ r, L.drop (t * 2) = LR false (evenL zt W) :: LR false (evenL zt H) :: r := fun t ht => by
        rw [hcn, hL]
        rcases (show t = 0 ∨ t = 1 by omega) with rfl | rfl
        · exact ⟨z, hz1, by rcases (show z = 0 ∨ z = 1 by omega) with rfl | rfl <;> rfl, _, rfl⟩
        · exact ⟨1 - z, by omega, by rcases (show z = 0 ∨ z = 1 by omega) with rfl | rfl <;> rfl, _, rfl⟩
      clear hL
      by_cases p0 : 0 < (cn : Int)
      · have p1 : ¬ (cn : Int) < l3.length := fun h => hmx ⟨p0, h⟩
        refine zs ?_
        refine callK_F 6 hlay (by simp (disch := first | assumption | omega | rfl | simp only [RH]) only [↓RP, RZ, ↓reduceIte, Nat.reduceEqDiff, reduceCtorEq, Nat.reduceBEq, Nat.reduceAdd, Nat.reduceLeDiff, RA] <;> rfl) (.inl (hfr 0)) ?_
        simp (disch := first | assumption | omega | rfl | simp only [RH]) only [↓RP, RZ, ↓reduceIte, Nat.reduceEqDiff, reduceCtorEq, Nat.reduceBEq, Nat.reduceAdd, Nat.reduceLeDiff, bne_self_eq_false]
        refine loopK_WW [6, 7, 13, 33, 37, 40, 42] (fun t : Nat => t ≤ 2) (fun t => ⟨[(6, .ptr 0 0 3), (7, .ptr 1 0 3), (13, B true), (33, .ptr 2 0 3), (37, I cn), (40, .list true false 2 L), (42, I t)], [⟨24, 3, [I W, I H, BA b1 l1]⟩, ⟨24, 3, [I W, I H, BA b2 l2]⟩, ⟨24, 3, [I ((2 * W : Nat) : Int), I ((2 * H : Nat) : Int), BR false D]⟩]⟩) (fun t => 2 - t) 0 (by omega) ?_ ?_
        · simp only [↓RP, RG, FX, RQ, ↓reduceIte, Nat.reduceEqDiff, reduceCtorEq, Nat.reduceBEq, Nat.reduceAdd, Nat.reduceLeDiff]
          exact (Wk.drop (hb := []) (h1 := []) (gs := [_, _, _, _, _, _, _, _, _]) 8 [0, 1, 8] rfl (by decide) (by simp) (by simp)).trans (Wk.of_eq (by simp only [RK, List.idxOf?_cons, List.idxOf?_nil, Nat.reduceBEq, Option.map_some, Option.map_none, List.map_cons, List.map_nil, List.getD_cons_zero, List.getD_cons_succ, Bool.false_eq_true, ↓reduceIte, Nat.add_zero, List.append_nil, map_ren_bools, hren]; rfl))
        intro t ht
        by_cases hlt : t < 2
        rotate_left
        · obtain rfl : t = 2 := by omega
          refine zs ?_
          exact zq1
        obtain ⟨zt, hzt, hcb, r, hr⟩ := hdr t hlt
        rw [show ((cn : Int) == 0) = false from by rw [beq_eq_false_iff_ne]; omega] at hcb
        have hon := honly zt hzt
        have hS := thD_take W H zt
        have hSl := thD_len W H zt
        have he1 := evenL_len zt W
        have he2 := evenL_len zt H
        have hE2 : ∀ i, i < H → -100 ≤ (evenL zt H).getD i 0 ∧ (evenL zt H).getD i 0 ≤ 100 := fun i hi => by rw [even_at hi]; omega
        generalize evenL zt W = E1 at *
        generalize evenL zt H = E2 at *
        refine zs ?_
        refine loopK_WW [6, 7, 13, 33, 37, 40, 42, 43, 44] (fun j : Nat => j ≤ W) (fun j => ⟨[(6, .ptr 0 0 3), (7, .ptr 1 0 3), (13, B true), (33, .ptr 2 0 3), (37, I cn), (40, .list true false 2 L), (42, I t), (43, gw true 3 (ints (E1.take j))), (44, I j)], [⟨24, 3, [I W, I H, BA b1 l1]⟩, ⟨24, 3, [I W, I H, BA b2 l2]⟩, ⟨24, 3, [I ((2 * W : Nat) : Int), I ((2 * H : Nat) : Int), BR false D]⟩, go 3 (ints (E1.take j))]⟩) (fun j => W - j) 0 (by omega) ?_ ?_
        · simp only [↓RP, RG, FX, RQ, ↓reduceIte, Nat.reduceEqDiff, reduceCtorEq, Nat.reduceBEq, Nat.reduceAdd, Nat.reduceLeDiff]
          exact Wk.weak (WE.cons _ (.refl _) (WE.cons _ (.refl _) (WE.cons _ (.refl _) (WE.cons _ (.refl _) (WE.cons _ (.refl _) (WE.cons _ (.refl _) (WE.cons _ (.refl _) (WE.cons _ (.nil _) (WE.cons _ (.refl _) WE.nil))))))))) (.cons _ _ _ _ (WL.refl _) (.cons _ _ _ _ (WL.refl _) (.cons _ _ _ _ (WL.refl _) (.nil _ (by simp [go, ints])))))
        intro j hj
        have hjl : (E1.take j).length = j := by rw [List.length_take]; omega
        by_cases hlj : j < W
        · have htj : E1.take (j + 1) = E1.take j ++ [E1.getD j 0] := by rw [List.take_add_one, List.getD_eq_getElem?_getD, List.getElem?_eq_getElem (show j < E1.length by omega)]; rfl
          generalize E1.take j = X1 at *
          refine zx2 @hr @append_int ?_
          exact ⟨j + 1, hlj, Wk.of_eq (by rw [htj]; rfl), by omega⟩
        obtain rfl : j = W := by omega
        rw [show E1.take j = E1 from List.take_of_length_le (by omega)]
        refine zx1 @hr ?_
        refine loopK_I [6, 7, 13, 33, 37, 40, 42, 43, 45] (fun i : Nat => i ≤ H) (fun i => ⟨[(6, .ptr 0 0 3), (7, .ptr 1 0 3), (13, B true), (33, .ptr 2 0 3), (37, I cn), (40, .list true false 2 L), (42, I t), (43, gw true 3 (ints (E1 ++ (E2.take i).map (· + ((2 * j : Nat) : Int))))), (45, I i)], [⟨24, 3, [I j, I H, BA b1 l1]⟩, ⟨24, 3, [I j, I H, BA b2 l2]⟩, ⟨24, 3, [I ((2 * j : Nat) : Int), I ((2 * H : Nat) : Int), BR false D]⟩, go 3 (ints (E1 ++ (E2.take i).map (· + ((2 * j : Nat) : Int))))]⟩) (fun i => H - i) 0 (by omega) (by simp only [↓RP, RG, FX, RQ, ↓reduceIte, Nat.reduceEqDiff, reduceCtorEq, Nat.reduceBEq, Nat.reduceAdd, Nat.reduceLeDiff]; simp) ?_
        intro i hi
        have hil : (E1 ++ (E2.take i).map (· + ((2 * j : Nat) : Int))).length = j + i := by rw [List.length_append, List.length_map, List.length_take]; omega
        by_cases hli : i < H
        · have hti : E1 ++ (E2.take (i + 1)).map (· + ((2 * j : Nat) : Int)) = E1 ++ (E2.take i).map (· + ((2 * j : Nat) : Int)) ++ [E2.getD i 0 + ((2 * j : Nat) : Int)] := by
            rw [List.take_add_one, List.getD_eq_getElem?_getD, List.getElem?_eq_getElem (show i < E2.length by omega), List.map_append, List.append_assoc]; rfl
          generalize E1 ++ (E2.take i).map (· + ((2 * j : Nat) : Int)) = X2 at *
          have hb2 : -100 ≤ E2.getD i 0 ∧ E2.getD i 0 ≤ 100 := hE2 i hli
          refine zx2 @hr @append_int ?_
          exact ⟨i + 1, hli, by rw [hti]; rfl, by omega⟩
        obtain rfl : i = H := by omega
        rw [← hS]
        generalize thD j i zt = S at *
        have hp1 : 0 < (ints S).length := by rw [ints_length]; omega
        have hp2 : (ints S).length = j + i := by rw [ints_length]; exact hSl
        rcases (show zt = 0 ∨ zt = 1 by omega) with rfl | rfl
        · simp only [if_pos] at hon
          obtain ⟨X, hX, ⟨xt, hxt⟩, hlk⟩ := hlik1
          have hX1 : 0 < X.length := by rw [hxt]; simp
          have hX2 : X.getD 0 0 = 0 := by rw [hxt]; rfl
          rw [show X.isEmpty = false by rw [hxt]; rfl] at hlk
          clear hxt
          simp (disch := first | assumption | omega | rfl | simp only [RH]) only [↓RP, RZ, ↓reduceIte, Nat.reduceEqDiff, reduceCtorEq, Nat.reduceBEq, Nat.reduceAdd, Nat.reduceLeDiff, gw_pos hp1, go_pos hp1, hp2, hr]
          refine zc hon ?_
          refine zx3 @hcb @hr @decide_false ?_
          refine zc hlk ?_
          simp (disch := first | assumption | omega | rfl | simp only [RH]) only [↓RP, RZ, ↓reduceIte, Nat.reduceEqDiff, reduceCtorEq, Nat.reduceBEq, Nat.reduceAdd, Nat.reduceLeDiff, hX2, Int.toNat_zero, bne_self_eq_false]
          exact ⟨t + 1, hlt, (Wk.drop (hb := []) (h1 := []) (gs := [_, _, _, _, _, _]) 8 [0, 1, 2] rfl (by decide) (by simp) (by simp)).trans (Wk.of_eq (by simp only [RK, List.idxOf?_cons, List.idxOf?_nil, Nat.reduceBEq, Option.map_some, Option.map_none, List.map_cons, List.map_nil, List.getD_cons_zero, List.getD_cons_succ, Bool.false_eq_true, ↓reduceIte, Nat.add_zero, List.append_nil, map_ren_bools, hren]; rfl)), by omega⟩
        · simp only [show ¬ (1 : Nat) = 0 by omega, if_false] at hon
          obtain ⟨X, hX, ⟨xt, hxt⟩, hlk⟩ := hlik2
          have hX1 : 0 < X.length := by rw [hxt]; simp
          have hX2 : X.getD 0 0 = 0 := by rw [hxt]; rfl
          rw [show X.isEmpty = false by rw [hxt]; rfl] at hlk
          clear hxt
          simp (disch := first | assumption | omega | rfl | simp only [RH]) only [↓RP, RZ, ↓reduceIte, Nat.reduceEqDiff, reduceCtorEq, Nat.reduceBEq, Nat.reduceAdd, Nat.reduceLeDiff, gw_pos hp1, go_pos hp1, hp2, hr]
          refine zc hon ?_
          refine zx3 @hcb @hr @decide_true ?_
          refine zc hlk ?_
          simp (disch := first | assumption | omega | rfl | simp only [RH]) only [↓RP, RZ, ↓reduceIte, Nat.reduceEqDiff, reduceCtorEq, Nat.reduceBEq, Nat.reduceAdd, Nat.reduceLeDiff, hX2, Int.toNat_zero, bne_self_eq_false]
          exact ⟨t + 1, hlt, (Wk.drop (hb := []) (h1 := []) (gs := [_, _, _, _, _, _]) 8 [0, 1, 2] rfl (by decide) (by simp) (by simp)).trans (Wk.of_eq (by simp only [RK, List.idxOf?_cons, List.idxOf?_nil, Nat.reduceBEq, Option.map_some, Option.map_none, List.map_cons, List.map_nil, List.getD_cons_zero, List.getD_cons_succ, Bool.false_eq_true, ↓reduceIte, Nat.add_zero, List.append_nil, map_ren_bools, hren]; rfl)), by omega⟩
      · refine zs ?_
        refine callK_F 6 hlay (by simp (disch := first | assumption | omega | rfl | simp only [RH]) only [↓RP, RZ, ↓reduceIte, Nat.reduceEqDiff, reduceCtorEq, Nat.reduceBEq, Nat.reduceAdd, Nat.reduceLeDiff, RA] <;> rfl) (.inl (hfr 0)) ?_
        simp (disch := first | assumption | omega | rfl | simp only [RH]) only [↓RP, RZ, ↓reduceIte, Nat.reduceEqDiff, reduceCtorEq, Nat.reduceBEq, Nat.reduceAdd, Nat.reduceLeDiff, bne_self_eq_false]
        refine loopK_WW [6, 7, 13, 33, 37, 40, 42] (fun t : Nat => t ≤ 2) (fun t => ⟨[(6, .ptr 0 0 3), (7, .ptr 1 0 3), (13, B true), (33, .ptr 2 0 3), (37, I cn), (40, .list true false 2 L), (42, I t)], [⟨24, 3, [I W, I H, BA b1 l1]⟩, ⟨24, 3, [I W, I H, BA b2 l2]⟩, ⟨24, 3, [I ((2 * W : Nat) : Int), I ((2 * H : Nat) : Int), BR false D]⟩]⟩) (fun t => 2 - t) 0 (by omega) ?_ ?_
        · simp only [↓RP, RG, FX, RQ, ↓reduceIte, Nat.reduceEqDiff, reduceCtorEq, Nat.reduceBEq, Nat.reduceAdd, Nat.reduceLeDiff]
          exact (Wk.drop (hb := []) (h1 := []) (gs := [_, _, _, _, _, _, _, _, _]) 8 [0, 1, 8] rfl (by decide) (by simp) (by simp)).trans (Wk.of_eq (by simp only [RK, List.idxOf?_cons, List.idxOf?_nil, Nat.reduceBEq, Option.map_some, Option.map_none, List.map_cons, List.map_nil, List.getD_cons_zero, List.getD_cons_succ, Bool.false_eq_true, ↓reduceIte, Nat.add_zero, List.append_nil, map_ren_bools, hren]; rfl))
        intro t ht
        by_cases hlt : t < 2
        rotate_left
        · obtain rfl : t = 2 := by omega
          refine zs ?_
          exact zq1
        obtain ⟨zt, hzt, hcb, r, hr⟩ := hdr t hlt
        rw [show ((cn : Int) == 0) = true from by rw [beq_iff_eq]; omega] at hcb
        have hon := honly zt hzt
        have hS := thD_take W H zt
        have hSl := thD_len W H zt
        have he1 := evenL_len zt W
        have he2 := evenL_len zt H
        have hE2 : ∀ i, i < H → -100 ≤ (evenL zt H).getD i 0 ∧ (evenL zt H).getD i 0 ≤ 100 := fun i hi => by rw [even_at hi]; omega
        generalize evenL zt W = E1 at *
        generalize evenL zt H = E2 at *
        refine zs ?_
        refine loopK_WW [6, 7, 13, 33, 37, 40, 42, 43, 44] (fun j : Nat => j ≤ W) (fun j => ⟨[(6, .ptr 0 0 3), (7, .ptr 1 0 3), (13, B true), (33, .ptr 2 0 3), (37, I cn), (40, .list true false 2 L), (42, I t), (43, gw true 3 (ints (E1.take j))), (44, I j)], [⟨24, 3, [I W, I H, BA b1 l1]⟩, ⟨24, 3, [I W, I H, BA b2 l2]⟩, ⟨24, 3, [I ((2 * W : Nat) : Int), I ((2 * H : Nat) : Int), BR false D]⟩, go 3 (ints (E1.take j))]⟩) (fun j => W - j) 0 (by omega) ?_ ?_
        · simp only [↓RP, RG, FX, RQ, ↓reduceIte, Nat.reduceEqDiff, reduceCtorEq, Nat.reduceBEq, Nat.reduceAdd, Nat.reduceLeDiff]
          exact Wk.weak (WE.cons _ (.refl _) (WE.cons _ (.refl _) (WE.cons _ (.refl _) (WE.cons _ (.refl _) (WE.cons _ (.refl _) (WE.cons _ (.refl _) (WE.cons _ (.refl _) (WE.cons _ (.nil _) (WE.cons _ (.refl _) WE.nil))))))))) (.cons _ _ _ _ (WL.refl _) (.cons _ _ _ _ (WL.refl _) (.cons _ _ _ _ (WL.refl _) (.nil _ (by simp [go, ints])))))
        intro j hj
        have hjl : (E1.take j).length = j := by rw [List.length_take]; omega
        by_cases hlj : j < W
        · have htj : E1.take (j + 1) = E1.take j ++ [E1.getD j 0] := by rw [List.take_add_one, List.getD_eq_getElem?_getD, List.getElem?_eq_getElem (show j < E1.length by omega)]; rfl
          generalize E1.take j = X1 at *
          refine zx2 @hr @append_int ?_
          exact ⟨j + 1, hlj, Wk.of_eq (by rw [htj]; rfl), by omega⟩
        obtain rfl : j = W := by omega
        rw [show E1.take j = E1 from List.take_of_length_le (by omega)]
        refine zx1 @hr ?_
        refine loopK_I [6, 7, 13, 33, 37, 40, 42, 43, 45] (fun i : Nat => i ≤ H) (fun i => ⟨[(6, .ptr 0 0 3), (7, .ptr 1 0 3), (13, B true), (33, .ptr 2 0 3), (37, I cn), (40, .list true false 2 L), (42, I t), (43, gw true 3 (ints (E1 ++ (E2.take i).map (· + ((2 * j : Nat) : Int))))), (45, I i)], [⟨24, 3, [I j, I H, BA b1 l1]⟩, ⟨24, 3, [I j, I H, BA b2 l2]⟩, ⟨24, 3, [I ((2 * j : Nat) : Int), I ((2 * H : Nat) : Int), BR false D]⟩, go 3 (ints (E1 ++ (E2.take i).map (· + ((2 * j : Nat) : Int))))]⟩) (fun i => H - i) 0 (by omega) (by simp only [↓RP, RG, FX, RQ, ↓reduceIte, Nat.reduceEqDiff, reduceCtorEq, Nat.reduceBEq, Nat.reduceAdd, Nat.reduceLeDiff]; simp) ?_
        intro i hi
        have hil : (E1 ++ (E2.take i).map (· + ((2 * j : Nat) : Int))).length = j + i := by rw [List.length_append, List.length_map, List.length_take]; omega
        by_cases hli : i < H
        · have hti : E1 ++ (E2.take (i + 1)).map (· + ((2 * j : Nat) : Int)) = E1 ++ (E2.take i).map (· + ((2 * j : Nat) : Int)) ++ [E2.getD i 0 + ((2 * j : Nat) : Int)] := by
            rw [List.take_add_one, List.getD_eq_getElem?_getD, List.getElem?_eq_getElem (show i < E2.length by omega), List.map_append, List.append_assoc]; rfl
          generalize E1 ++ (E2.take i).map (· + ((2 * j : Nat) : Int)) = X2 at *
          have hb2 : -100 ≤ E2.getD i 0 ∧ E2.getD i 0 ≤ 100 := hE2 i hli
          refine zx2 @hr @append_int ?_
          exact ⟨i + 1, hli, by rw [hti]; rfl, by omega⟩
        obtain rfl : i = H := by omega
        rw [← hS]
        generalize thD j i zt = S at *
        have hp1 : 0 < (ints S).length := by rw [ints_length]; omega
        have hp2 : (ints S).length = j + i := by rw [ints_length]; exact hSl
        rcases (show zt = 0 ∨ zt = 1 by omega) with rfl | rfl
        · simp only [if_pos] at hon
          obtain ⟨X, hX, ⟨xt, hxt⟩, hlk⟩ := hlik1
          have hX1 : 0 < X.length := by rw [hxt]; simp
          have hX2 : X.getD 0 0 = 0 := by rw [hxt]; rfl
          rw [show X.isEmpty = false by rw [hxt]; rfl] at hlk
          clear hxt
          simp (disch := first | assumption | omega | rfl | simp only [RH]) only [↓RP, RZ, ↓reduceIte, Nat.reduceEqDiff, reduceCtorEq, Nat.reduceBEq, Nat.reduceAdd, Nat.reduceLeDiff, gw_pos hp1, go_pos hp1, hp2, hr]
          refine zc hon ?_
          refine zx3 @hcb @hr @decide_false ?_
          refine zc hlk ?_
          simp (disch := first | assumption | omega | rfl | simp only [RH]) only [↓RP, RZ, ↓reduceIte, Nat.reduceEqDiff, reduceCtorEq, Nat.reduceBEq, Nat.reduceAdd, Nat.reduceLeDiff, hX2, Int.toNat_zero, bne_self_eq_false]
          exact ⟨t + 1, hlt, (Wk.drop (hb := []) (h1 := []) (gs := [_, _, _, _, _, _]) 8 [0, 1, 2] rfl (by decide) (by simp) (by simp)).trans (Wk.of_eq (by simp only [RK, List.idxOf?_cons, List.idxOf?_nil, Nat.reduceBEq, Option.map_some, Option.map_none, List.map_cons, List.map_nil, List.getD_cons_zero, List.getD_cons_succ, Bool.false_eq_true, ↓reduceIte, Nat.add_zero, List.append_nil, map_ren_bools, hren]; rfl)), by omega⟩
        · simp only [show ¬ (1 : Nat) = 0 by omega, if_false] at hon
          obtain ⟨X, hX, ⟨xt, hxt⟩, hlk⟩ := hlik2
          have hX1 : 0 < X.length := by rw [hxt]; simp
          have hX2 : X.getD 0 0 = 0 := by rw [hxt]; rfl
          rw [show X.isEmpty = false by rw [hxt]; rfl] at hlk
          clear hxt
          simp (disch := first | assumption | omega | rfl | simp only [RH]) only [↓RP, RZ, ↓reduceIte, Nat.reduceEqDiff, reduceCtorEq, Nat.reduceBEq, Nat.reduceAdd, Nat.reduceLeDiff, gw_pos hp1, go_pos hp1, hp2, hr]
          refine zc hon ?_
          refine zx3 @hcb @hr @decide_true ?_
          refine zc hlk ?_
          simp (disch := first | assumption | omega | rfl | simp only [RH]) only [↓RP, RZ, ↓reduceIte, Nat.reduceEqDiff, reduceCtorEq, Nat.reduceBEq, Nat.reduceAdd, Nat.reduceLeDiff, hX2, Int.toNat_zero, bne_self_eq_false]
          exact ⟨t + 1, hlt, (Wk.drop (hb := []) (h1 := []) (gs := [_, _, _, _, _, _]) 8 [0, 1, 2] rfl (by decide) (by simp) (by simp)).trans (Wk.of_eq (by simp only [RK, List.idxOf?_cons, List.idxOf?_nil, Nat.reduceBEq, Option.map_some, Option.map_none, List.map_cons, List.map_nil, List.getD_cons_zero, List.getD_cons_succ, Bool.false_eq_true, ↓reduceIte, Nat.add_zero, List.append_nil, map_ren_bools, hren]; rfl)), by omega⟩
end Go.Proofs.YtllijejobeogdaaGreat
