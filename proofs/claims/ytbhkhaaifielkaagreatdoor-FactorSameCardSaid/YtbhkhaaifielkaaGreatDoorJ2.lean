/- Part 2 of the proof's own texts: the contracts of functions, and what they rest on. -/
import Derived.Test.YtbhkhaaifielkaaGreatDoorJ1
import Derived.Test.YtbhkhaaifielkaaGreatDoorBw3
/- Drafts: drawdowns and lifts as values; turned. -/
set_option linter.unusedSimpArgs false
set_option linter.unusedVariables false
set_option maxRecDepth 100000
namespace Go.Proofs.YtbhkhaaifielkaaGreatDoor
open Go Go.Proofs Go.AW

theorem weaveV_c {s t : Int} (b1 : Bool) {th : List Int} (b2 : Bool) {td : List Int} {w h : Int} (b3 : Bool) {l : List Bool} (hd : dOk s t th td w h l.length) :
    Contract Tryz.prog 10 [DA s t b1 th b2 td w h b3 l] (.tuple [GR th.length td.length false (tabN th.length (uW t th td l) (th.length * td.length)), I 0]) := by
  have h1 := Contract.ofSpec 6 (weaveP_s [] b1 b2 b3 hd)
  have h2 := tabN_len th.length (uW t th td l) (th.length * td.length)
  simp (disch := omega) only [↓RP, RG, FX, RQ, ↓reduceIte, Nat.reduceEqDiff, reduceCtorEq, Nat.reduceBEq, Nat.reduceAdd, Nat.reduceLeDiff, RS] at h1
  rw [← h2] at h1
  simpa only [GR, BR, bools_length, h2] using h1

end Go.Proofs.YtbhkhaaifielkaaGreatDoor

/- No draft has fewer shafts or treadles: the law FactorFewest. -/
set_option linter.unusedSimpArgs false
set_option linter.unusedVariables false
set_option maxRecDepth 100000
namespace Go.Proofs.YtbhkhaaifielkaaGreatDoor
open Go Go.Proofs Go.AW

theorem alive4_c : Contract Tryz.prog 7 [] (B true) := Contract.run xGood 1000 (by kernel_rfl)
theorem valid4_c (s t : Int) (b1 : Bool) (th : List Int) (b2 : Bool) (td : List Int) (w h : Int) (b3 : Bool) (l : List Bool) (r : Bool) (hr : r = true ↔ ¬ dGreat th td l ∧ dOk s t th td w h l.length) :
    Contract Tryz.prog 6 [DA s t b1 th b2 td w h b3 l] (B r) := by
  have hg := great03_c s t b1 th b2 td w h b3 l
  by_cases c1 : dGreat th td l
  · obtain rfl : r = false := by cases r with | false => rfl | true => exact absurd c1 (hr.1 rfl).1
    rw [decide_eq_true c1] at hg
    refine Contract.intro (effS [] false) 6 follows Tryz.func6 rfl rfl (by kernel_rfl) (Nat.le_of_ble_eq_true rfl) ?_
    simp (disch := first | assumption | omega | rfl | simp only [RH]) only [↓RP, RG, FX, RQ, ↓reduceIte, Nat.reduceEqDiff, reduceCtorEq, Nat.reduceBEq, Nat.reduceAdd, Nat.reduceLeDiff, args0_1]
    refine callK_F 6 (hg) (by simp (disch := first | assumption | omega | rfl | simp only [RH]) only [↓RP, RG, FX, RQ, ↓reduceIte, Nat.reduceEqDiff, reduceCtorEq, Nat.reduceBEq, Nat.reduceAdd, Nat.reduceLeDiff, RA] <;> rfl) (.inl (by simp [allFresh, ints_fresh, bools_fresh])) ?_
    simp (disch := first | assumption | omega | rfl | simp only [RH]) only [↓RP, RG, FX, RQ, ↓reduceIte, Nat.reduceEqDiff, reduceCtorEq, Nat.reduceBEq, Nat.reduceAdd, Nat.reduceLeDiff]
    rw [resVal_1 rfl]; simp (disch := first | assumption | omega | rfl | simp only [RH]) only [↓RP, RG, FX, RQ, ↓reduceIte, Nat.reduceEqDiff, reduceCtorEq, Nat.reduceBEq, Nat.reduceAdd, Nat.reduceLeDiff, RS]
  · have c0 := c1
    unfold dGreat at c0
    have hc := dcheckR_c s t b1 th b2 td w h b3 l (by omega) (by omega)
    rw [decide_eq_false c1] at hg
    by_cases c2 : dchk s t th td w h l.length = 0
    · obtain rfl : r = true := hr.2 ⟨c1, dchk_iff.1 c2⟩
      rw [c2] at hc
      refine Contract.intro (effS [] false) 6 follows Tryz.func6 rfl rfl (by kernel_rfl) (Nat.le_of_ble_eq_true rfl) ?_
      simp (disch := first | assumption | omega | rfl | simp only [RH]) only [↓RP, RG, FX, RQ, ↓reduceIte, Nat.reduceEqDiff, reduceCtorEq, Nat.reduceBEq, Nat.reduceAdd, Nat.reduceLeDiff, args0_1]
      refine callK_F 6 (hg) (by simp (disch := first | assumption | omega | rfl | simp only [RH]) only [↓RP, RG, FX, RQ, ↓reduceIte, Nat.reduceEqDiff, reduceCtorEq, Nat.reduceBEq, Nat.reduceAdd, Nat.reduceLeDiff, RA] <;> rfl) (.inl (by simp [allFresh, ints_fresh, bools_fresh])) ?_
      simp (disch := first | assumption | omega | rfl | simp only [RH]) only [↓RP, RG, FX, RQ, ↓reduceIte, Nat.reduceEqDiff, reduceCtorEq, Nat.reduceBEq, Nat.reduceAdd, Nat.reduceLeDiff]
      refine callK_F 6 (hc) (by simp (disch := first | assumption | omega | rfl | simp only [RH]) only [↓RP, RG, FX, RQ, ↓reduceIte, Nat.reduceEqDiff, reduceCtorEq, Nat.reduceBEq, Nat.reduceAdd, Nat.reduceLeDiff, RA] <;> rfl) (.inl (by simp [allFresh, ints_fresh, bools_fresh])) ?_
      simp (disch := first | assumption | omega | rfl | simp only [RH]) only [↓RP, RG, FX, RQ, ↓reduceIte, Nat.reduceEqDiff, reduceCtorEq, Nat.reduceBEq, Nat.reduceAdd, Nat.reduceLeDiff]
      rw [resVal_1 rfl]; simp (disch := first | assumption | omega | rfl | simp only [RH]) only [↓RP, RG, FX, RQ, ↓reduceIte, Nat.reduceEqDiff, reduceCtorEq, Nat.reduceBEq, Nat.reduceAdd, Nat.reduceLeDiff, RS]
    · obtain rfl : r = false := by cases r with | false => rfl | true => exact absurd (dchk_ok (hr.1 rfl).2) c2
      generalize dchk s t th td w h l.length = e at *
      refine Contract.intro (effS [] false) 6 follows Tryz.func6 rfl rfl (by kernel_rfl) (Nat.le_of_ble_eq_true rfl) ?_
      simp (disch := first | assumption | omega | rfl | simp only [RH]) only [↓RP, RG, FX, RQ, ↓reduceIte, Nat.reduceEqDiff, reduceCtorEq, Nat.reduceBEq, Nat.reduceAdd, Nat.reduceLeDiff, args0_1]
      refine callK_F 6 (hg) (by simp (disch := first | assumption | omega | rfl | simp only [RH]) only [↓RP, RG, FX, RQ, ↓reduceIte, Nat.reduceEqDiff, reduceCtorEq, Nat.reduceBEq, Nat.reduceAdd, Nat.reduceLeDiff, RA] <;> rfl) (.inl (by simp [allFresh, ints_fresh, bools_fresh])) ?_
      simp (disch := first | assumption | omega | rfl | simp only [RH]) only [↓RP, RG, FX, RQ, ↓reduceIte, Nat.reduceEqDiff, reduceCtorEq, Nat.reduceBEq, Nat.reduceAdd, Nat.reduceLeDiff]
      refine callK_F 6 (hc) (by simp (disch := first | assumption | omega | rfl | simp only [RH]) only [↓RP, RG, FX, RQ, ↓reduceIte, Nat.reduceEqDiff, reduceCtorEq, Nat.reduceBEq, Nat.reduceAdd, Nat.reduceLeDiff, RA] <;> rfl) (.inl (by simp [allFresh, ints_fresh, bools_fresh])) ?_
      simp (disch := first | assumption | omega | rfl | simp only [RH]) only [↓RP, RG, FX, RQ, ↓reduceIte, Nat.reduceEqDiff, reduceCtorEq, Nat.reduceBEq, Nat.reduceAdd, Nat.reduceLeDiff]
      rw [resVal_1 rfl]; simp (disch := first | assumption | omega | rfl | simp only [RH]) only [↓RP, RG, FX, RQ, ↓reduceIte, Nat.reduceEqDiff, reduceCtorEq, Nat.reduceBEq, Nat.reduceAdd, Nat.reduceLeDiff, RS]
end Go.Proofs.YtbhkhaaifielkaaGreatDoor

/- Matches lead from draft to draft: the walks. -/
set_option linter.unusedSimpArgs false
set_option linter.unusedVariables false
set_option maxRecDepth 100000
namespace Go.Proofs.YtbhkhaaifielkaaGreatDoor
open Go Go.Proofs Go.AW

theorem bb1 : (true == false) = false := rfl
theorem bb2 : (false == true) = false := rfl
section
variable {s t : Int} {b1 : Bool} {th : List Int} {b2 : Bool} {td : List Int} {w h : Int} {b3 : Bool} {l : List Bool} {s' t' : Int} {b1' : Bool} {th' : List Int} {b2' : Bool} {td' : List Int} {w' h' : Int} {b3' : Bool} {l' : List Bool} {x1 x2 : Bool} {ls lt : List Int}
variable (hv1 : Contract Tryz.prog 6 [DA s t b1 th b2 td w h b3 l] (B true)) (hv2 : Contract Tryz.prog 6 [DA s' t' b1' th' b2' td' w' h' b3' l'] (B true)) (h70 : ls.length ≤ 70) (h71 : lt.length ≤ 70)
include hv1 hv2 h70 h71
theorem same_AX {n1 n2 : Bool} {m1 m2 : List Int} (hM : Contract Tryz.prog 8 [DA s t b1 th b2 td w h b3 l, DA s' t' b1' th' b2' td' w' h' b3' l'] (.tuple [LR n1 m1, LR n2 m2, I 0])) {sc tc : Int} {b1c : Bool} {thc : List Int} {b2c : Bool} {tdc : List Int} {wc hc : Int} {b3c : Bool} {lc : List Bool} (hR1 : Contract Tryz.prog 9 [DA s t b1 th b2 td w h b3 l, LA n1 m1, LA n2 m2] (.tuple [DR sc tc b1c thc b2c tdc wc hc b3c lc, I 0])) {gw gh : Int} {gb : Bool} {G : List Bool} (hW1 : Contract Tryz.prog 10 [DA s t b1 th b2 td w h b3 l] (.tuple [GR gw gh gb G, I 0])) (hW2 : Contract Tryz.prog 10 [DA s' t' b1' th' b2' td' w' h' b3' l'] (.tuple [GR gw gh gb G, I 0])) (hS1 : Contract Tryz.prog 11 [DA sc tc b1c thc b2c tdc wc hc b3c lc, DA s' t' b1' th' b2' td' w' h' b3' l'] (B true)) (hS2 : Contract Tryz.prog 12 [GA gw gh gb G, GA gw gh gb G] (B true)) {sn tn : Int} {b1n : Bool} {thn : List Int} {b2n : Bool} {tdn : List Int} {wn hn : Int} {b3n : Bool} {ln : List Bool} {k : Int} (hk : k ≠ 0) (hR2 : Contract Tryz.prog 9 [DA s t b1 th b2 td w h b3 l, LA x1 ls, LA x2 lt] (.tuple [DR sn tn b1n thn b2n tdn wn hn b3n ln, I k])) : Contract Tryz.prog 3 [DA s t b1 th b2 td w h b3 l, DA s' t' b1' th' b2' td' w' h' b3' l', LA x1 ls, LA x2 lt] (B true) := by
  refine Contract.intro (effS [] false) 6 follows Tryz.func3 rfl rfl (by kernel_rfl) (Nat.le_of_ble_eq_true rfl) ?_
  simp (disch := first | assumption | omega | rfl | simp only [RH]) only [↓RP, RG, FX, RQ, ↓reduceIte, Nat.reduceEqDiff, reduceCtorEq, Nat.reduceBEq, Nat.reduceAdd, Nat.reduceLeDiff, args0_4]
  refine callK_F 6 hv1 (by simp (disch := first | assumption | omega | rfl | simp only [RH]) only [↓RP, RG, FX, RQ, ↓reduceIte, Nat.reduceEqDiff, reduceCtorEq, Nat.reduceBEq, Nat.reduceAdd, Nat.reduceLeDiff, RA] <;> rfl) (.inl rfl) ?_
  simp (disch := first | assumption | omega | rfl | simp only [RH]) only [↓RP, RG, FX, RQ, ↓reduceIte, Nat.reduceEqDiff, reduceCtorEq, Nat.reduceBEq, Nat.reduceAdd, Nat.reduceLeDiff, beq_self_eq_true, bb1, bb2]
  refine callK_F 6 hv2 (by simp (disch := first | assumption | omega | rfl | simp only [RH]) only [↓RP, RG, FX, RQ, ↓reduceIte, Nat.reduceEqDiff, reduceCtorEq, Nat.reduceBEq, Nat.reduceAdd, Nat.reduceLeDiff, RA] <;> rfl) (.inl rfl) ?_
  simp (disch := first | assumption | omega | rfl | simp only [RH]) only [↓RP, RG, FX, RQ, ↓reduceIte, Nat.reduceEqDiff, reduceCtorEq, Nat.reduceBEq, Nat.reduceAdd, Nat.reduceLeDiff, beq_self_eq_true, bb1, bb2]
  refine callK_F 6 hM (by simp (disch := first | assumption | omega | rfl | simp only [RH]) only [↓RP, RG, FX, RQ, ↓reduceIte, Nat.reduceEqDiff, reduceCtorEq, Nat.reduceBEq, Nat.reduceAdd, Nat.reduceLeDiff, RA] <;> rfl) (.inl (by simp [allFresh, ints_fresh, bools_fresh])) ?_
  simp (disch := first | assumption | omega | rfl | simp only [RH]) only [↓RP, RG, FX, RQ, ↓reduceIte, Nat.reduceEqDiff, reduceCtorEq, Nat.reduceBEq, Nat.reduceAdd, Nat.reduceLeDiff, beq_self_eq_true, bb1, bb2]
  refine callK_F 6 hR1 (by simp (disch := first | assumption | omega | rfl | simp only [RH]) only [↓RP, RG, FX, RQ, ↓reduceIte, Nat.reduceEqDiff, reduceCtorEq, Nat.reduceBEq, Nat.reduceAdd, Nat.reduceLeDiff, RA] <;> rfl) (.inl (by simp [allFresh, ints_fresh, bools_fresh])) ?_
  simp (disch := first | assumption | omega | rfl | simp only [RH]) only [↓RP, RG, FX, RQ, ↓reduceIte, Nat.reduceEqDiff, reduceCtorEq, Nat.reduceBEq, Nat.reduceAdd, Nat.reduceLeDiff, beq_self_eq_true, bb1, bb2]
  refine callK_F 6 hW1 (by simp (disch := first | assumption | omega | rfl | simp only [RH]) only [↓RP, RG, FX, RQ, ↓reduceIte, Nat.reduceEqDiff, reduceCtorEq, Nat.reduceBEq, Nat.reduceAdd, Nat.reduceLeDiff, RA] <;> rfl) (.inl (by simp [allFresh, ints_fresh, bools_fresh])) ?_
  simp (disch := first | assumption | omega | rfl | simp only [RH]) only [↓RP, RG, FX, RQ, ↓reduceIte, Nat.reduceEqDiff, reduceCtorEq, Nat.reduceBEq, Nat.reduceAdd, Nat.reduceLeDiff, beq_self_eq_true, bb1, bb2]
  refine callK_F 6 hW2 (by simp (disch := first | assumption | omega | rfl | simp only [RH]) only [↓RP, RG, FX, RQ, ↓reduceIte, Nat.reduceEqDiff, reduceCtorEq, Nat.reduceBEq, Nat.reduceAdd, Nat.reduceLeDiff, RA] <;> rfl) (.inl (by simp [allFresh, ints_fresh, bools_fresh])) ?_
  simp (disch := first | assumption | omega | rfl | simp only [RH]) only [↓RP, RG, FX, RQ, ↓reduceIte, Nat.reduceEqDiff, reduceCtorEq, Nat.reduceBEq, Nat.reduceAdd, Nat.reduceLeDiff, beq_self_eq_true, bb1, bb2]
  refine callK_F 6 hS1 (by simp (disch := first | assumption | omega | rfl | simp only [RH]) only [↓RP, RG, FX, RQ, ↓reduceIte, Nat.reduceEqDiff, reduceCtorEq, Nat.reduceBEq, Nat.reduceAdd, Nat.reduceLeDiff, RA] <;> rfl) (.inl rfl) ?_
  simp (disch := first | assumption | omega | rfl | simp only [RH]) only [↓RP, RG, FX, RQ, ↓reduceIte, Nat.reduceEqDiff, reduceCtorEq, Nat.reduceBEq, Nat.reduceAdd, Nat.reduceLeDiff, beq_self_eq_true, bb1, bb2]
  refine callK_F 6 hS2 (by simp (disch := first | assumption | omega | rfl | simp only [RH]) only [↓RP, RG, FX, RQ, ↓reduceIte, Nat.reduceEqDiff, reduceCtorEq, Nat.reduceBEq, Nat.reduceAdd, Nat.reduceLeDiff, RA] <;> rfl) (.inl rfl) ?_
  simp (disch := first | assumption | omega | rfl | simp only [RH]) only [↓RP, RG, FX, RQ, ↓reduceIte, Nat.reduceEqDiff, reduceCtorEq, Nat.reduceBEq, Nat.reduceAdd, Nat.reduceLeDiff, beq_self_eq_true, bb1, bb2]
  refine callK_F 6 hR2 (by simp (disch := first | assumption | omega | rfl | simp only [RH]) only [↓RP, RG, FX, RQ, ↓reduceIte, Nat.reduceEqDiff, reduceCtorEq, Nat.reduceBEq, Nat.reduceAdd, Nat.reduceLeDiff, RA] <;> rfl) (.inl (by simp [allFresh, ints_fresh, bools_fresh])) ?_
  simp (disch := first | assumption | omega | rfl | simp only [RH]) only [↓RP, RG, FX, RQ, ↓reduceIte, Nat.reduceEqDiff, reduceCtorEq, Nat.reduceBEq, Nat.reduceAdd, Nat.reduceLeDiff, beq_self_eq_true, bb1, bb2]
  refine callK_F 6 alive4_c (by rfl) (.inl rfl) ?_
  simp (disch := first | assumption | omega | rfl | simp only [RH]) only [↓RP, RG, FX, RQ, ↓reduceIte, Nat.reduceEqDiff, reduceCtorEq, Nat.reduceBEq, Nat.reduceAdd, Nat.reduceLeDiff]
  rw [resVal_1 rfl]; simp (disch := first | assumption | omega | rfl | simp only [RH]) only [↓RP, RG, FX, RQ, ↓reduceIte, Nat.reduceEqDiff, reduceCtorEq, Nat.reduceBEq, Nat.reduceAdd, Nat.reduceLeDiff, RS]
theorem same_AZ {n1 n2 : Bool} {m1 m2 : List Int} (hM : Contract Tryz.prog 8 [DA s t b1 th b2 td w h b3 l, DA s' t' b1' th' b2' td' w' h' b3' l'] (.tuple [LR n1 m1, LR n2 m2, I 0])) {sc tc : Int} {b1c : Bool} {thc : List Int} {b2c : Bool} {tdc : List Int} {wc hc : Int} {b3c : Bool} {lc : List Bool} (hR1 : Contract Tryz.prog 9 [DA s t b1 th b2 td w h b3 l, LA n1 m1, LA n2 m2] (.tuple [DR sc tc b1c thc b2c tdc wc hc b3c lc, I 0])) {gw gh : Int} {gb : Bool} {G : List Bool} (hW1 : Contract Tryz.prog 10 [DA s t b1 th b2 td w h b3 l] (.tuple [GR gw gh gb G, I 0])) (hW2 : Contract Tryz.prog 10 [DA s' t' b1' th' b2' td' w' h' b3' l'] (.tuple [GR gw gh gb G, I 0])) (hS1 : Contract Tryz.prog 11 [DA sc tc b1c thc b2c tdc wc hc b3c lc, DA s' t' b1' th' b2' td' w' h' b3' l'] (B true)) (hS2 : Contract Tryz.prog 12 [GA gw gh gb G, GA gw gh gb G] (B true)) (hUa : Contract Tryz.prog 13 [DA s t b1 th b2 td w h b3 l] (B true)) {sn tn : Int} {b1n : Bool} {thn : List Int} {b2n : Bool} {tdn : List Int} {wn hn : Int} {b3n : Bool} {ln : List Bool} (hR2 : Contract Tryz.prog 9 [DA s t b1 th b2 td w h b3 l, LA x1 ls, LA x2 lt] (.tuple [DR sn tn b1n thn b2n tdn wn hn b3n ln, I 0])) {y1 y2 : Bool} (hM2 : Contract Tryz.prog 8 [DA s t b1 th b2 td w h b3 l, DA sn tn b1n thn b2n tdn wn hn b3n ln] (.tuple [LR y1 ls, LR y2 lt, I 0])) {p1 p2 : Bool} {q1 q2 : List Int} (hM3 : Contract Tryz.prog 8 [DA s t b1 th b2 td w h b3 l, DA s t b1 th b2 td w h b3 l] (.tuple [LR p1 q1, LR p2 q2, I 0])) {so to : Int} {b1o : Bool} {tho : List Int} {b2o : Bool} {tdo : List Int} {wo ho : Int} {b3o : Bool} {lo : List Bool} (hR3 : Contract Tryz.prog 9 [DA s t b1 th b2 td w h b3 l, LA p1 q1, LA p2 q2] (.tuple [DR so to b1o tho b2o tdo wo ho b3o lo, I 0])) (hS3 : Contract Tryz.prog 14 [LA y1 ls, LA x1 ls] (B true)) (hS4 : Contract Tryz.prog 14 [LA y2 lt, LA x2 lt] (B true)) (hS5 : Contract Tryz.prog 11 [DA so to b1o tho b2o tdo wo ho b3o lo, DA s t b1 th b2 td w h b3 l] (B true)) : Contract Tryz.prog 3 [DA s t b1 th b2 td w h b3 l, DA s' t' b1' th' b2' td' w' h' b3' l', LA x1 ls, LA x2 lt] (B true) := by
  refine Contract.intro (effS [] false) 6 follows Tryz.func3 rfl rfl (by kernel_rfl) (Nat.le_of_ble_eq_true rfl) ?_
  simp (disch := first | assumption | omega | rfl | simp only [RH]) only [↓RP, RG, FX, RQ, ↓reduceIte, Nat.reduceEqDiff, reduceCtorEq, Nat.reduceBEq, Nat.reduceAdd, Nat.reduceLeDiff, args0_4]
  refine callK_F 6 hv1 (by simp (disch := first | assumption | omega | rfl | simp only [RH]) only [↓RP, RG, FX, RQ, ↓reduceIte, Nat.reduceEqDiff, reduceCtorEq, Nat.reduceBEq, Nat.reduceAdd, Nat.reduceLeDiff, RA] <;> rfl) (.inl rfl) ?_
  simp (disch := first | assumption | omega | rfl | simp only [RH]) only [↓RP, RG, FX, RQ, ↓reduceIte, Nat.reduceEqDiff, reduceCtorEq, Nat.reduceBEq, Nat.reduceAdd, Nat.reduceLeDiff, beq_self_eq_true, bb1, bb2]
  refine callK_F 6 hv2 (by simp (disch := first | assumption | omega | rfl | simp only [RH]) only [↓RP, RG, FX, RQ, ↓reduceIte, Nat.reduceEqDiff, reduceCtorEq, Nat.reduceBEq, Nat.reduceAdd, Nat.reduceLeDiff, RA] <;> rfl) (.inl rfl) ?_
  simp (disch := first | assumption | omega | rfl | simp only [RH]) only [↓RP, RG, FX, RQ, ↓reduceIte, Nat.reduceEqDiff, reduceCtorEq, Nat.reduceBEq, Nat.reduceAdd, Nat.reduceLeDiff, beq_self_eq_true, bb1, bb2]
  refine callK_F 6 hM (by simp (disch := first | assumption | omega | rfl | simp only [RH]) only [↓RP, RG, FX, RQ, ↓reduceIte, Nat.reduceEqDiff, reduceCtorEq, Nat.reduceBEq, Nat.reduceAdd, Nat.reduceLeDiff, RA] <;> rfl) (.inl (by simp [allFresh, ints_fresh, bools_fresh])) ?_
  simp (disch := first | assumption | omega | rfl | simp only [RH]) only [↓RP, RG, FX, RQ, ↓reduceIte, Nat.reduceEqDiff, reduceCtorEq, Nat.reduceBEq, Nat.reduceAdd, Nat.reduceLeDiff, beq_self_eq_true, bb1, bb2]
  refine callK_F 6 hR1 (by simp (disch := first | assumption | omega | rfl | simp only [RH]) only [↓RP, RG, FX, RQ, ↓reduceIte, Nat.reduceEqDiff, reduceCtorEq, Nat.reduceBEq, Nat.reduceAdd, Nat.reduceLeDiff, RA] <;> rfl) (.inl (by simp [allFresh, ints_fresh, bools_fresh])) ?_
  simp (disch := first | assumption | omega | rfl | simp only [RH]) only [↓RP, RG, FX, RQ, ↓reduceIte, Nat.reduceEqDiff, reduceCtorEq, Nat.reduceBEq, Nat.reduceAdd, Nat.reduceLeDiff, beq_self_eq_true, bb1, bb2]
  refine callK_F 6 hW1 (by simp (disch := first | assumption | omega | rfl | simp only [RH]) only [↓RP, RG, FX, RQ, ↓reduceIte, Nat.reduceEqDiff, reduceCtorEq, Nat.reduceBEq, Nat.reduceAdd, Nat.reduceLeDiff, RA] <;> rfl) (.inl (by simp [allFresh, ints_fresh, bools_fresh])) ?_
  simp (disch := first | assumption | omega | rfl | simp only [RH]) only [↓RP, RG, FX, RQ, ↓reduceIte, Nat.reduceEqDiff, reduceCtorEq, Nat.reduceBEq, Nat.reduceAdd, Nat.reduceLeDiff, beq_self_eq_true, bb1, bb2]
  refine callK_F 6 hW2 (by simp (disch := first | assumption | omega | rfl | simp only [RH]) only [↓RP, RG, FX, RQ, ↓reduceIte, Nat.reduceEqDiff, reduceCtorEq, Nat.reduceBEq, Nat.reduceAdd, Nat.reduceLeDiff, RA] <;> rfl) (.inl (by simp [allFresh, ints_fresh, bools_fresh])) ?_
  simp (disch := first | assumption | omega | rfl | simp only [RH]) only [↓RP, RG, FX, RQ, ↓reduceIte, Nat.reduceEqDiff, reduceCtorEq, Nat.reduceBEq, Nat.reduceAdd, Nat.reduceLeDiff, beq_self_eq_true, bb1, bb2]
  refine callK_F 6 hS1 (by simp (disch := first | assumption | omega | rfl | simp only [RH]) only [↓RP, RG, FX, RQ, ↓reduceIte, Nat.reduceEqDiff, reduceCtorEq, Nat.reduceBEq, Nat.reduceAdd, Nat.reduceLeDiff, RA] <;> rfl) (.inl rfl) ?_
  simp (disch := first | assumption | omega | rfl | simp only [RH]) only [↓RP, RG, FX, RQ, ↓reduceIte, Nat.reduceEqDiff, reduceCtorEq, Nat.reduceBEq, Nat.reduceAdd, Nat.reduceLeDiff, beq_self_eq_true, bb1, bb2]
  refine callK_F 6 hS2 (by simp (disch := first | assumption | omega | rfl | simp only [RH]) only [↓RP, RG, FX, RQ, ↓reduceIte, Nat.reduceEqDiff, reduceCtorEq, Nat.reduceBEq, Nat.reduceAdd, Nat.reduceLeDiff, RA] <;> rfl) (.inl rfl) ?_
  simp (disch := first | assumption | omega | rfl | simp only [RH]) only [↓RP, RG, FX, RQ, ↓reduceIte, Nat.reduceEqDiff, reduceCtorEq, Nat.reduceBEq, Nat.reduceAdd, Nat.reduceLeDiff, beq_self_eq_true, bb1, bb2]
  refine callK_F 6 hR2 (by simp (disch := first | assumption | omega | rfl | simp only [RH]) only [↓RP, RG, FX, RQ, ↓reduceIte, Nat.reduceEqDiff, reduceCtorEq, Nat.reduceBEq, Nat.reduceAdd, Nat.reduceLeDiff, RA] <;> rfl) (.inl (by simp [allFresh, ints_fresh, bools_fresh])) ?_
  simp (disch := first | assumption | omega | rfl | simp only [RH]) only [↓RP, RG, FX, RQ, ↓reduceIte, Nat.reduceEqDiff, reduceCtorEq, Nat.reduceBEq, Nat.reduceAdd, Nat.reduceLeDiff, beq_self_eq_true, bb1, bb2]
  refine callK_F 6 hUa (by simp (disch := first | assumption | omega | rfl | simp only [RH]) only [↓RP, RG, FX, RQ, ↓reduceIte, Nat.reduceEqDiff, reduceCtorEq, Nat.reduceBEq, Nat.reduceAdd, Nat.reduceLeDiff, RA] <;> rfl) (.inl rfl) ?_
  simp (disch := first | assumption | omega | rfl | simp only [RH]) only [↓RP, RG, FX, RQ, ↓reduceIte, Nat.reduceEqDiff, reduceCtorEq, Nat.reduceBEq, Nat.reduceAdd, Nat.reduceLeDiff, beq_self_eq_true, bb1, bb2]
  refine callK_F 6 hM2 (by simp (disch := first | assumption | omega | rfl | simp only [RH]) only [↓RP, RG, FX, RQ, ↓reduceIte, Nat.reduceEqDiff, reduceCtorEq, Nat.reduceBEq, Nat.reduceAdd, Nat.reduceLeDiff, RA] <;> rfl) (.inl (by simp [allFresh, ints_fresh, bools_fresh])) ?_
  simp (disch := first | assumption | omega | rfl | simp only [RH]) only [↓RP, RG, FX, RQ, ↓reduceIte, Nat.reduceEqDiff, reduceCtorEq, Nat.reduceBEq, Nat.reduceAdd, Nat.reduceLeDiff, beq_self_eq_true, bb1, bb2]
  refine callK_F 6 hM3 (by simp (disch := first | assumption | omega | rfl | simp only [RH]) only [↓RP, RG, FX, RQ, ↓reduceIte, Nat.reduceEqDiff, reduceCtorEq, Nat.reduceBEq, Nat.reduceAdd, Nat.reduceLeDiff, RA] <;> rfl) (.inl (by simp [allFresh, ints_fresh, bools_fresh])) ?_
  simp (disch := first | assumption | omega | rfl | simp only [RH]) only [↓RP, RG, FX, RQ, ↓reduceIte, Nat.reduceEqDiff, reduceCtorEq, Nat.reduceBEq, Nat.reduceAdd, Nat.reduceLeDiff, beq_self_eq_true, bb1, bb2]
  refine callK_F 6 hR3 (by simp (disch := first | assumption | omega | rfl | simp only [RH]) only [↓RP, RG, FX, RQ, ↓reduceIte, Nat.reduceEqDiff, reduceCtorEq, Nat.reduceBEq, Nat.reduceAdd, Nat.reduceLeDiff, RA] <;> rfl) (.inl (by simp [allFresh, ints_fresh, bools_fresh])) ?_
  simp (disch := first | assumption | omega | rfl | simp only [RH]) only [↓RP, RG, FX, RQ, ↓reduceIte, Nat.reduceEqDiff, reduceCtorEq, Nat.reduceBEq, Nat.reduceAdd, Nat.reduceLeDiff, beq_self_eq_true, bb1, bb2]
  refine callK_F 6 hS3 (by simp (disch := first | assumption | omega | rfl | simp only [RH]) only [↓RP, RG, FX, RQ, ↓reduceIte, Nat.reduceEqDiff, reduceCtorEq, Nat.reduceBEq, Nat.reduceAdd, Nat.reduceLeDiff, RA] <;> rfl) (.inl rfl) ?_
  simp (disch := first | assumption | omega | rfl | simp only [RH]) only [↓RP, RG, FX, RQ, ↓reduceIte, Nat.reduceEqDiff, reduceCtorEq, Nat.reduceBEq, Nat.reduceAdd, Nat.reduceLeDiff, beq_self_eq_true, bb1, bb2]
  refine callK_F 6 hS4 (by simp (disch := first | assumption | omega | rfl | simp only [RH]) only [↓RP, RG, FX, RQ, ↓reduceIte, Nat.reduceEqDiff, reduceCtorEq, Nat.reduceBEq, Nat.reduceAdd, Nat.reduceLeDiff, RA] <;> rfl) (.inl rfl) ?_
  simp (disch := first | assumption | omega | rfl | simp only [RH]) only [↓RP, RG, FX, RQ, ↓reduceIte, Nat.reduceEqDiff, reduceCtorEq, Nat.reduceBEq, Nat.reduceAdd, Nat.reduceLeDiff, beq_self_eq_true, bb1, bb2]
  refine callK_F 6 hS5 (by simp (disch := first | assumption | omega | rfl | simp only [RH]) only [↓RP, RG, FX, RQ, ↓reduceIte, Nat.reduceEqDiff, reduceCtorEq, Nat.reduceBEq, Nat.reduceAdd, Nat.reduceLeDiff, RA] <;> rfl) (.inl rfl) ?_
  simp (disch := first | assumption | omega | rfl | simp only [RH]) only [↓RP, RG, FX, RQ, ↓reduceIte, Nat.reduceEqDiff, reduceCtorEq, Nat.reduceBEq, Nat.reduceAdd, Nat.reduceLeDiff, beq_self_eq_true, bb1, bb2]
  refine callK_F 6 alive4_c (by rfl) (.inl rfl) ?_
  simp (disch := first | assumption | omega | rfl | simp only [RH]) only [↓RP, RG, FX, RQ, ↓reduceIte, Nat.reduceEqDiff, reduceCtorEq, Nat.reduceBEq, Nat.reduceAdd, Nat.reduceLeDiff]
  rw [resVal_1 rfl]; simp (disch := first | assumption | omega | rfl | simp only [RH]) only [↓RP, RG, FX, RQ, ↓reduceIte, Nat.reduceEqDiff, reduceCtorEq, Nat.reduceBEq, Nat.reduceAdd, Nat.reduceLeDiff, RS]
theorem same_BfX {n1 n2 : Bool} {m1 m2 : List Int} (hM : Contract Tryz.prog 8 [DA s t b1 th b2 td w h b3 l, DA s' t' b1' th' b2' td' w' h' b3' l'] (.tuple [LR n1 m1, LR n2 m2, I 2])) (hUa : Contract Tryz.prog 13 [DA s t b1 th b2 td w h b3 l] (B false)) {sn tn : Int} {b1n : Bool} {thn : List Int} {b2n : Bool} {tdn : List Int} {wn hn : Int} {b3n : Bool} {ln : List Bool} {k : Int} (hk : k ≠ 0) (hR2 : Contract Tryz.prog 9 [DA s t b1 th b2 td w h b3 l, LA x1 ls, LA x2 lt] (.tuple [DR sn tn b1n thn b2n tdn wn hn b3n ln, I k])) : Contract Tryz.prog 3 [DA s t b1 th b2 td w h b3 l, DA s' t' b1' th' b2' td' w' h' b3' l', LA x1 ls, LA x2 lt] (B true) := by
  refine Contract.intro (effS [] false) 6 follows Tryz.func3 rfl rfl (by kernel_rfl) (Nat.le_of_ble_eq_true rfl) ?_
  simp (disch := first | assumption | omega | rfl | simp only [RH]) only [↓RP, RG, FX, RQ, ↓reduceIte, Nat.reduceEqDiff, reduceCtorEq, Nat.reduceBEq, Nat.reduceAdd, Nat.reduceLeDiff, args0_4]
  refine callK_F 6 hv1 (by simp (disch := first | assumption | omega | rfl | simp only [RH]) only [↓RP, RG, FX, RQ, ↓reduceIte, Nat.reduceEqDiff, reduceCtorEq, Nat.reduceBEq, Nat.reduceAdd, Nat.reduceLeDiff, RA] <;> rfl) (.inl rfl) ?_
  simp (disch := first | assumption | omega | rfl | simp only [RH]) only [↓RP, RG, FX, RQ, ↓reduceIte, Nat.reduceEqDiff, reduceCtorEq, Nat.reduceBEq, Nat.reduceAdd, Nat.reduceLeDiff, beq_self_eq_true, bb1, bb2]
  refine callK_F 6 hv2 (by simp (disch := first | assumption | omega | rfl | simp only [RH]) only [↓RP, RG, FX, RQ, ↓reduceIte, Nat.reduceEqDiff, reduceCtorEq, Nat.reduceBEq, Nat.reduceAdd, Nat.reduceLeDiff, RA] <;> rfl) (.inl rfl) ?_
  simp (disch := first | assumption | omega | rfl | simp only [RH]) only [↓RP, RG, FX, RQ, ↓reduceIte, Nat.reduceEqDiff, reduceCtorEq, Nat.reduceBEq, Nat.reduceAdd, Nat.reduceLeDiff, beq_self_eq_true, bb1, bb2]
  refine callK_F 6 hM (by simp (disch := first | assumption | omega | rfl | simp only [RH]) only [↓RP, RG, FX, RQ, ↓reduceIte, Nat.reduceEqDiff, reduceCtorEq, Nat.reduceBEq, Nat.reduceAdd, Nat.reduceLeDiff, RA] <;> rfl) (.inl (by simp [allFresh, ints_fresh, bools_fresh])) ?_
  simp (disch := first | assumption | omega | rfl | simp only [RH]) only [↓RP, RG, FX, RQ, ↓reduceIte, Nat.reduceEqDiff, reduceCtorEq, Nat.reduceBEq, Nat.reduceAdd, Nat.reduceLeDiff, beq_self_eq_true, bb1, bb2]
  refine callK_F 6 hUa (by simp (disch := first | assumption | omega | rfl | simp only [RH]) only [↓RP, RG, FX, RQ, ↓reduceIte, Nat.reduceEqDiff, reduceCtorEq, Nat.reduceBEq, Nat.reduceAdd, Nat.reduceLeDiff, RA] <;> rfl) (.inl rfl) ?_
  simp (disch := first | assumption | omega | rfl | simp only [RH]) only [↓RP, RG, FX, RQ, ↓reduceIte, Nat.reduceEqDiff, reduceCtorEq, Nat.reduceBEq, Nat.reduceAdd, Nat.reduceLeDiff, beq_self_eq_true, bb1, bb2]
  refine callK_F 6 hR2 (by simp (disch := first | assumption | omega | rfl | simp only [RH]) only [↓RP, RG, FX, RQ, ↓reduceIte, Nat.reduceEqDiff, reduceCtorEq, Nat.reduceBEq, Nat.reduceAdd, Nat.reduceLeDiff, RA] <;> rfl) (.inl (by simp [allFresh, ints_fresh, bools_fresh])) ?_
  simp (disch := first | assumption | omega | rfl | simp only [RH]) only [↓RP, RG, FX, RQ, ↓reduceIte, Nat.reduceEqDiff, reduceCtorEq, Nat.reduceBEq, Nat.reduceAdd, Nat.reduceLeDiff, beq_self_eq_true, bb1, bb2]
  refine callK_F 6 alive4_c (by rfl) (.inl rfl) ?_
  simp (disch := first | assumption | omega | rfl | simp only [RH]) only [↓RP, RG, FX, RQ, ↓reduceIte, Nat.reduceEqDiff, reduceCtorEq, Nat.reduceBEq, Nat.reduceAdd, Nat.reduceLeDiff]
  rw [resVal_1 rfl]; simp (disch := first | assumption | omega | rfl | simp only [RH]) only [↓RP, RG, FX, RQ, ↓reduceIte, Nat.reduceEqDiff, reduceCtorEq, Nat.reduceBEq, Nat.reduceAdd, Nat.reduceLeDiff, RS]
theorem same_BfY {n1 n2 : Bool} {m1 m2 : List Int} (hM : Contract Tryz.prog 8 [DA s t b1 th b2 td w h b3 l, DA s' t' b1' th' b2' td' w' h' b3' l'] (.tuple [LR n1 m1, LR n2 m2, I 2])) (hUa : Contract Tryz.prog 13 [DA s t b1 th b2 td w h b3 l] (B false)) {sn tn : Int} {b1n : Bool} {thn : List Int} {b2n : Bool} {tdn : List Int} {wn hn : Int} {b3n : Bool} {ln : List Bool} (hR2 : Contract Tryz.prog 9 [DA s t b1 th b2 td w h b3 l, LA x1 ls, LA x2 lt] (.tuple [DR sn tn b1n thn b2n tdn wn hn b3n ln, I 0])) : Contract Tryz.prog 3 [DA s t b1 th b2 td w h b3 l, DA s' t' b1' th' b2' td' w' h' b3' l', LA x1 ls, LA x2 lt] (B true) := by
  refine Contract.intro (effS [] false) 6 follows Tryz.func3 rfl rfl (by kernel_rfl) (Nat.le_of_ble_eq_true rfl) ?_
  simp (disch := first | assumption | omega | rfl | simp only [RH]) only [↓RP, RG, FX, RQ, ↓reduceIte, Nat.reduceEqDiff, reduceCtorEq, Nat.reduceBEq, Nat.reduceAdd, Nat.reduceLeDiff, args0_4]
  refine callK_F 6 hv1 (by simp (disch := first | assumption | omega | rfl | simp only [RH]) only [↓RP, RG, FX, RQ, ↓reduceIte, Nat.reduceEqDiff, reduceCtorEq, Nat.reduceBEq, Nat.reduceAdd, Nat.reduceLeDiff, RA] <;> rfl) (.inl rfl) ?_
  simp (disch := first | assumption | omega | rfl | simp only [RH]) only [↓RP, RG, FX, RQ, ↓reduceIte, Nat.reduceEqDiff, reduceCtorEq, Nat.reduceBEq, Nat.reduceAdd, Nat.reduceLeDiff, beq_self_eq_true, bb1, bb2]
  refine callK_F 6 hv2 (by simp (disch := first | assumption | omega | rfl | simp only [RH]) only [↓RP, RG, FX, RQ, ↓reduceIte, Nat.reduceEqDiff, reduceCtorEq, Nat.reduceBEq, Nat.reduceAdd, Nat.reduceLeDiff, RA] <;> rfl) (.inl rfl) ?_
  simp (disch := first | assumption | omega | rfl | simp only [RH]) only [↓RP, RG, FX, RQ, ↓reduceIte, Nat.reduceEqDiff, reduceCtorEq, Nat.reduceBEq, Nat.reduceAdd, Nat.reduceLeDiff, beq_self_eq_true, bb1, bb2]
  refine callK_F 6 hM (by simp (disch := first | assumption | omega | rfl | simp only [RH]) only [↓RP, RG, FX, RQ, ↓reduceIte, Nat.reduceEqDiff, reduceCtorEq, Nat.reduceBEq, Nat.reduceAdd, Nat.reduceLeDiff, RA] <;> rfl) (.inl (by simp [allFresh, ints_fresh, bools_fresh])) ?_
  simp (disch := first | assumption | omega | rfl | simp only [RH]) only [↓RP, RG, FX, RQ, ↓reduceIte, Nat.reduceEqDiff, reduceCtorEq, Nat.reduceBEq, Nat.reduceAdd, Nat.reduceLeDiff, beq_self_eq_true, bb1, bb2]
  refine callK_F 6 hUa (by simp (disch := first | assumption | omega | rfl | simp only [RH]) only [↓RP, RG, FX, RQ, ↓reduceIte, Nat.reduceEqDiff, reduceCtorEq, Nat.reduceBEq, Nat.reduceAdd, Nat.reduceLeDiff, RA] <;> rfl) (.inl rfl) ?_
  simp (disch := first | assumption | omega | rfl | simp only [RH]) only [↓RP, RG, FX, RQ, ↓reduceIte, Nat.reduceEqDiff, reduceCtorEq, Nat.reduceBEq, Nat.reduceAdd, Nat.reduceLeDiff, beq_self_eq_true, bb1, bb2]
  refine callK_F 6 hR2 (by simp (disch := first | assumption | omega | rfl | simp only [RH]) only [↓RP, RG, FX, RQ, ↓reduceIte, Nat.reduceEqDiff, reduceCtorEq, Nat.reduceBEq, Nat.reduceAdd, Nat.reduceLeDiff, RA] <;> rfl) (.inl (by simp [allFresh, ints_fresh, bools_fresh])) ?_
  simp (disch := first | assumption | omega | rfl | simp only [RH]) only [↓RP, RG, FX, RQ, ↓reduceIte, Nat.reduceEqDiff, reduceCtorEq, Nat.reduceBEq, Nat.reduceAdd, Nat.reduceLeDiff, beq_self_eq_true, bb1, bb2]
  refine callK_F 6 hUa (by simp (disch := first | assumption | omega | rfl | simp only [RH]) only [↓RP, RG, FX, RQ, ↓reduceIte, Nat.reduceEqDiff, reduceCtorEq, Nat.reduceBEq, Nat.reduceAdd, Nat.reduceLeDiff, RA] <;> rfl) (.inl rfl) ?_
  simp (disch := first | assumption | omega | rfl | simp only [RH]) only [↓RP, RG, FX, RQ, ↓reduceIte, Nat.reduceEqDiff, reduceCtorEq, Nat.reduceBEq, Nat.reduceAdd, Nat.reduceLeDiff, beq_self_eq_true, bb1, bb2]
  refine callK_F 6 alive4_c (by rfl) (.inl rfl) ?_
  simp (disch := first | assumption | omega | rfl | simp only [RH]) only [↓RP, RG, FX, RQ, ↓reduceIte, Nat.reduceEqDiff, reduceCtorEq, Nat.reduceBEq, Nat.reduceAdd, Nat.reduceLeDiff]
  rw [resVal_1 rfl]; simp (disch := first | assumption | omega | rfl | simp only [RH]) only [↓RP, RG, FX, RQ, ↓reduceIte, Nat.reduceEqDiff, reduceCtorEq, Nat.reduceBEq, Nat.reduceAdd, Nat.reduceLeDiff, RS]
theorem same_BtX {n1 n2 : Bool} {m1 m2 : List Int} (hM : Contract Tryz.prog 8 [DA s t b1 th b2 td w h b3 l, DA s' t' b1' th' b2' td' w' h' b3' l'] (.tuple [LR n1 m1, LR n2 m2, I 2])) (hUa : Contract Tryz.prog 13 [DA s t b1 th b2 td w h b3 l] (B true)) (hUb : Contract Tryz.prog 13 [DA s' t' b1' th' b2' td' w' h' b3' l'] (B false)) {sn tn : Int} {b1n : Bool} {thn : List Int} {b2n : Bool} {tdn : List Int} {wn hn : Int} {b3n : Bool} {ln : List Bool} {k : Int} (hk : k ≠ 0) (hR2 : Contract Tryz.prog 9 [DA s t b1 th b2 td w h b3 l, LA x1 ls, LA x2 lt] (.tuple [DR sn tn b1n thn b2n tdn wn hn b3n ln, I k])) : Contract Tryz.prog 3 [DA s t b1 th b2 td w h b3 l, DA s' t' b1' th' b2' td' w' h' b3' l', LA x1 ls, LA x2 lt] (B true) := by
  refine Contract.intro (effS [] false) 6 follows Tryz.func3 rfl rfl (by kernel_rfl) (Nat.le_of_ble_eq_true rfl) ?_
  simp (disch := first | assumption | omega | rfl | simp only [RH]) only [↓RP, RG, FX, RQ, ↓reduceIte, Nat.reduceEqDiff, reduceCtorEq, Nat.reduceBEq, Nat.reduceAdd, Nat.reduceLeDiff, args0_4]
  refine callK_F 6 hv1 (by simp (disch := first | assumption | omega | rfl | simp only [RH]) only [↓RP, RG, FX, RQ, ↓reduceIte, Nat.reduceEqDiff, reduceCtorEq, Nat.reduceBEq, Nat.reduceAdd, Nat.reduceLeDiff, RA] <;> rfl) (.inl rfl) ?_
  simp (disch := first | assumption | omega | rfl | simp only [RH]) only [↓RP, RG, FX, RQ, ↓reduceIte, Nat.reduceEqDiff, reduceCtorEq, Nat.reduceBEq, Nat.reduceAdd, Nat.reduceLeDiff, beq_self_eq_true, bb1, bb2]
  refine callK_F 6 hv2 (by simp (disch := first | assumption | omega | rfl | simp only [RH]) only [↓RP, RG, FX, RQ, ↓reduceIte, Nat.reduceEqDiff, reduceCtorEq, Nat.reduceBEq, Nat.reduceAdd, Nat.reduceLeDiff, RA] <;> rfl) (.inl rfl) ?_
  simp (disch := first | assumption | omega | rfl | simp only [RH]) only [↓RP, RG, FX, RQ, ↓reduceIte, Nat.reduceEqDiff, reduceCtorEq, Nat.reduceBEq, Nat.reduceAdd, Nat.reduceLeDiff, beq_self_eq_true, bb1, bb2]
  refine callK_F 6 hM (by simp (disch := first | assumption | omega | rfl | simp only [RH]) only [↓RP, RG, FX, RQ, ↓reduceIte, Nat.reduceEqDiff, reduceCtorEq, Nat.reduceBEq, Nat.reduceAdd, Nat.reduceLeDiff, RA] <;> rfl) (.inl (by simp [allFresh, ints_fresh, bools_fresh])) ?_
  simp (disch := first | assumption | omega | rfl | simp only [RH]) only [↓RP, RG, FX, RQ, ↓reduceIte, Nat.reduceEqDiff, reduceCtorEq, Nat.reduceBEq, Nat.reduceAdd, Nat.reduceLeDiff, beq_self_eq_true, bb1, bb2]
  refine callK_F 6 hUa (by simp (disch := first | assumption | omega | rfl | simp only [RH]) only [↓RP, RG, FX, RQ, ↓reduceIte, Nat.reduceEqDiff, reduceCtorEq, Nat.reduceBEq, Nat.reduceAdd, Nat.reduceLeDiff, RA] <;> rfl) (.inl rfl) ?_
  simp (disch := first | assumption | omega | rfl | simp only [RH]) only [↓RP, RG, FX, RQ, ↓reduceIte, Nat.reduceEqDiff, reduceCtorEq, Nat.reduceBEq, Nat.reduceAdd, Nat.reduceLeDiff, beq_self_eq_true, bb1, bb2]
  refine callK_F 6 hUb (by simp (disch := first | assumption | omega | rfl | simp only [RH]) only [↓RP, RG, FX, RQ, ↓reduceIte, Nat.reduceEqDiff, reduceCtorEq, Nat.reduceBEq, Nat.reduceAdd, Nat.reduceLeDiff, RA] <;> rfl) (.inl rfl) ?_
  simp (disch := first | assumption | omega | rfl | simp only [RH]) only [↓RP, RG, FX, RQ, ↓reduceIte, Nat.reduceEqDiff, reduceCtorEq, Nat.reduceBEq, Nat.reduceAdd, Nat.reduceLeDiff, beq_self_eq_true, bb1, bb2]
  refine callK_F 6 hR2 (by simp (disch := first | assumption | omega | rfl | simp only [RH]) only [↓RP, RG, FX, RQ, ↓reduceIte, Nat.reduceEqDiff, reduceCtorEq, Nat.reduceBEq, Nat.reduceAdd, Nat.reduceLeDiff, RA] <;> rfl) (.inl (by simp [allFresh, ints_fresh, bools_fresh])) ?_
  simp (disch := first | assumption | omega | rfl | simp only [RH]) only [↓RP, RG, FX, RQ, ↓reduceIte, Nat.reduceEqDiff, reduceCtorEq, Nat.reduceBEq, Nat.reduceAdd, Nat.reduceLeDiff, beq_self_eq_true, bb1, bb2]
  refine callK_F 6 alive4_c (by rfl) (.inl rfl) ?_
  simp (disch := first | assumption | omega | rfl | simp only [RH]) only [↓RP, RG, FX, RQ, ↓reduceIte, Nat.reduceEqDiff, reduceCtorEq, Nat.reduceBEq, Nat.reduceAdd, Nat.reduceLeDiff]
  rw [resVal_1 rfl]; simp (disch := first | assumption | omega | rfl | simp only [RH]) only [↓RP, RG, FX, RQ, ↓reduceIte, Nat.reduceEqDiff, reduceCtorEq, Nat.reduceBEq, Nat.reduceAdd, Nat.reduceLeDiff, RS]
theorem same_BtZ {n1 n2 : Bool} {m1 m2 : List Int} (hM : Contract Tryz.prog 8 [DA s t b1 th b2 td w h b3 l, DA s' t' b1' th' b2' td' w' h' b3' l'] (.tuple [LR n1 m1, LR n2 m2, I 2])) (hUa : Contract Tryz.prog 13 [DA s t b1 th b2 td w h b3 l] (B true)) (hUb : Contract Tryz.prog 13 [DA s' t' b1' th' b2' td' w' h' b3' l'] (B false)) {sn tn : Int} {b1n : Bool} {thn : List Int} {b2n : Bool} {tdn : List Int} {wn hn : Int} {b3n : Bool} {ln : List Bool} (hR2 : Contract Tryz.prog 9 [DA s t b1 th b2 td w h b3 l, LA x1 ls, LA x2 lt] (.tuple [DR sn tn b1n thn b2n tdn wn hn b3n ln, I 0])) {y1 y2 : Bool} (hM2 : Contract Tryz.prog 8 [DA s t b1 th b2 td w h b3 l, DA sn tn b1n thn b2n tdn wn hn b3n ln] (.tuple [LR y1 ls, LR y2 lt, I 0])) {p1 p2 : Bool} {q1 q2 : List Int} (hM3 : Contract Tryz.prog 8 [DA s t b1 th b2 td w h b3 l, DA s t b1 th b2 td w h b3 l] (.tuple [LR p1 q1, LR p2 q2, I 0])) {so to : Int} {b1o : Bool} {tho : List Int} {b2o : Bool} {tdo : List Int} {wo ho : Int} {b3o : Bool} {lo : List Bool} (hR3 : Contract Tryz.prog 9 [DA s t b1 th b2 td w h b3 l, LA p1 q1, LA p2 q2] (.tuple [DR so to b1o tho b2o tdo wo ho b3o lo, I 0])) (hS3 : Contract Tryz.prog 14 [LA y1 ls, LA x1 ls] (B true)) (hS4 : Contract Tryz.prog 14 [LA y2 lt, LA x2 lt] (B true)) (hS5 : Contract Tryz.prog 11 [DA so to b1o tho b2o tdo wo ho b3o lo, DA s t b1 th b2 td w h b3 l] (B true)) : Contract Tryz.prog 3 [DA s t b1 th b2 td w h b3 l, DA s' t' b1' th' b2' td' w' h' b3' l', LA x1 ls, LA x2 lt] (B true) := by
  refine Contract.intro (effS [] false) 6 follows Tryz.func3 rfl rfl (by kernel_rfl) (Nat.le_of_ble_eq_true rfl) ?_
  simp (disch := first | assumption | omega | rfl | simp only [RH]) only [↓RP, RG, FX, RQ, ↓reduceIte, Nat.reduceEqDiff, reduceCtorEq, Nat.reduceBEq, Nat.reduceAdd, Nat.reduceLeDiff, args0_4]
  refine callK_F 6 hv1 (by simp (disch := first | assumption | omega | rfl | simp only [RH]) only [↓RP, RG, FX, RQ, ↓reduceIte, Nat.reduceEqDiff, reduceCtorEq, Nat.reduceBEq, Nat.reduceAdd, Nat.reduceLeDiff, RA] <;> rfl) (.inl rfl) ?_
  simp (disch := first | assumption | omega | rfl | simp only [RH]) only [↓RP, RG, FX, RQ, ↓reduceIte, Nat.reduceEqDiff, reduceCtorEq, Nat.reduceBEq, Nat.reduceAdd, Nat.reduceLeDiff, beq_self_eq_true, bb1, bb2]
  refine callK_F 6 hv2 (by simp (disch := first | assumption | omega | rfl | simp only [RH]) only [↓RP, RG, FX, RQ, ↓reduceIte, Nat.reduceEqDiff, reduceCtorEq, Nat.reduceBEq, Nat.reduceAdd, Nat.reduceLeDiff, RA] <;> rfl) (.inl rfl) ?_
  simp (disch := first | assumption | omega | rfl | simp only [RH]) only [↓RP, RG, FX, RQ, ↓reduceIte, Nat.reduceEqDiff, reduceCtorEq, Nat.reduceBEq, Nat.reduceAdd, Nat.reduceLeDiff, beq_self_eq_true, bb1, bb2]
  refine callK_F 6 hM (by simp (disch := first | assumption | omega | rfl | simp only [RH]) only [↓RP, RG, FX, RQ, ↓reduceIte, Nat.reduceEqDiff, reduceCtorEq, Nat.reduceBEq, Nat.reduceAdd, Nat.reduceLeDiff, RA] <;> rfl) (.inl (by simp [allFresh, ints_fresh, bools_fresh])) ?_
  simp (disch := first | assumption | omega | rfl | simp only [RH]) only [↓RP, RG, FX, RQ, ↓reduceIte, Nat.reduceEqDiff, reduceCtorEq, Nat.reduceBEq, Nat.reduceAdd, Nat.reduceLeDiff, beq_self_eq_true, bb1, bb2]
  refine callK_F 6 hUa (by simp (disch := first | assumption | omega | rfl | simp only [RH]) only [↓RP, RG, FX, RQ, ↓reduceIte, Nat.reduceEqDiff, reduceCtorEq, Nat.reduceBEq, Nat.reduceAdd, Nat.reduceLeDiff, RA] <;> rfl) (.inl rfl) ?_
  simp (disch := first | assumption | omega | rfl | simp only [RH]) only [↓RP, RG, FX, RQ, ↓reduceIte, Nat.reduceEqDiff, reduceCtorEq, Nat.reduceBEq, Nat.reduceAdd, Nat.reduceLeDiff, beq_self_eq_true, bb1, bb2]
  refine callK_F 6 hUb (by simp (disch := first | assumption | omega | rfl | simp only [RH]) only [↓RP, RG, FX, RQ, ↓reduceIte, Nat.reduceEqDiff, reduceCtorEq, Nat.reduceBEq, Nat.reduceAdd, Nat.reduceLeDiff, RA] <;> rfl) (.inl rfl) ?_
  simp (disch := first | assumption | omega | rfl | simp only [RH]) only [↓RP, RG, FX, RQ, ↓reduceIte, Nat.reduceEqDiff, reduceCtorEq, Nat.reduceBEq, Nat.reduceAdd, Nat.reduceLeDiff, beq_self_eq_true, bb1, bb2]
  refine callK_F 6 hR2 (by simp (disch := first | assumption | omega | rfl | simp only [RH]) only [↓RP, RG, FX, RQ, ↓reduceIte, Nat.reduceEqDiff, reduceCtorEq, Nat.reduceBEq, Nat.reduceAdd, Nat.reduceLeDiff, RA] <;> rfl) (.inl (by simp [allFresh, ints_fresh, bools_fresh])) ?_
  simp (disch := first | assumption | omega | rfl | simp only [RH]) only [↓RP, RG, FX, RQ, ↓reduceIte, Nat.reduceEqDiff, reduceCtorEq, Nat.reduceBEq, Nat.reduceAdd, Nat.reduceLeDiff, beq_self_eq_true, bb1, bb2]
  refine callK_F 6 hUa (by simp (disch := first | assumption | omega | rfl | simp only [RH]) only [↓RP, RG, FX, RQ, ↓reduceIte, Nat.reduceEqDiff, reduceCtorEq, Nat.reduceBEq, Nat.reduceAdd, Nat.reduceLeDiff, RA] <;> rfl) (.inl rfl) ?_
  simp (disch := first | assumption | omega | rfl | simp only [RH]) only [↓RP, RG, FX, RQ, ↓reduceIte, Nat.reduceEqDiff, reduceCtorEq, Nat.reduceBEq, Nat.reduceAdd, Nat.reduceLeDiff, beq_self_eq_true, bb1, bb2]
  refine callK_F 6 hM2 (by simp (disch := first | assumption | omega | rfl | simp only [RH]) only [↓RP, RG, FX, RQ, ↓reduceIte, Nat.reduceEqDiff, reduceCtorEq, Nat.reduceBEq, Nat.reduceAdd, Nat.reduceLeDiff, RA] <;> rfl) (.inl (by simp [allFresh, ints_fresh, bools_fresh])) ?_
  simp (disch := first | assumption | omega | rfl | simp only [RH]) only [↓RP, RG, FX, RQ, ↓reduceIte, Nat.reduceEqDiff, reduceCtorEq, Nat.reduceBEq, Nat.reduceAdd, Nat.reduceLeDiff, beq_self_eq_true, bb1, bb2]
  refine callK_F 6 hM3 (by simp (disch := first | assumption | omega | rfl | simp only [RH]) only [↓RP, RG, FX, RQ, ↓reduceIte, Nat.reduceEqDiff, reduceCtorEq, Nat.reduceBEq, Nat.reduceAdd, Nat.reduceLeDiff, RA] <;> rfl) (.inl (by simp [allFresh, ints_fresh, bools_fresh])) ?_
  simp (disch := first | assumption | omega | rfl | simp only [RH]) only [↓RP, RG, FX, RQ, ↓reduceIte, Nat.reduceEqDiff, reduceCtorEq, Nat.reduceBEq, Nat.reduceAdd, Nat.reduceLeDiff, beq_self_eq_true, bb1, bb2]
  refine callK_F 6 hR3 (by simp (disch := first | assumption | omega | rfl | simp only [RH]) only [↓RP, RG, FX, RQ, ↓reduceIte, Nat.reduceEqDiff, reduceCtorEq, Nat.reduceBEq, Nat.reduceAdd, Nat.reduceLeDiff, RA] <;> rfl) (.inl (by simp [allFresh, ints_fresh, bools_fresh])) ?_
  simp (disch := first | assumption | omega | rfl | simp only [RH]) only [↓RP, RG, FX, RQ, ↓reduceIte, Nat.reduceEqDiff, reduceCtorEq, Nat.reduceBEq, Nat.reduceAdd, Nat.reduceLeDiff, beq_self_eq_true, bb1, bb2]
  refine callK_F 6 hS3 (by simp (disch := first | assumption | omega | rfl | simp only [RH]) only [↓RP, RG, FX, RQ, ↓reduceIte, Nat.reduceEqDiff, reduceCtorEq, Nat.reduceBEq, Nat.reduceAdd, Nat.reduceLeDiff, RA] <;> rfl) (.inl rfl) ?_
  simp (disch := first | assumption | omega | rfl | simp only [RH]) only [↓RP, RG, FX, RQ, ↓reduceIte, Nat.reduceEqDiff, reduceCtorEq, Nat.reduceBEq, Nat.reduceAdd, Nat.reduceLeDiff, beq_self_eq_true, bb1, bb2]
  refine callK_F 6 hS4 (by simp (disch := first | assumption | omega | rfl | simp only [RH]) only [↓RP, RG, FX, RQ, ↓reduceIte, Nat.reduceEqDiff, reduceCtorEq, Nat.reduceBEq, Nat.reduceAdd, Nat.reduceLeDiff, RA] <;> rfl) (.inl rfl) ?_
  simp (disch := first | assumption | omega | rfl | simp only [RH]) only [↓RP, RG, FX, RQ, ↓reduceIte, Nat.reduceEqDiff, reduceCtorEq, Nat.reduceBEq, Nat.reduceAdd, Nat.reduceLeDiff, beq_self_eq_true, bb1, bb2]
  refine callK_F 6 hS5 (by simp (disch := first | assumption | omega | rfl | simp only [RH]) only [↓RP, RG, FX, RQ, ↓reduceIte, Nat.reduceEqDiff, reduceCtorEq, Nat.reduceBEq, Nat.reduceAdd, Nat.reduceLeDiff, RA] <;> rfl) (.inl rfl) ?_
  simp (disch := first | assumption | omega | rfl | simp only [RH]) only [↓RP, RG, FX, RQ, ↓reduceIte, Nat.reduceEqDiff, reduceCtorEq, Nat.reduceBEq, Nat.reduceAdd, Nat.reduceLeDiff, beq_self_eq_true, bb1, bb2]
  refine callK_F 6 alive4_c (by rfl) (.inl rfl) ?_
  simp (disch := first | assumption | omega | rfl | simp only [RH]) only [↓RP, RG, FX, RQ, ↓reduceIte, Nat.reduceEqDiff, reduceCtorEq, Nat.reduceBEq, Nat.reduceAdd, Nat.reduceLeDiff]
  rw [resVal_1 rfl]; simp (disch := first | assumption | omega | rfl | simp only [RH]) only [↓RP, RG, FX, RQ, ↓reduceIte, Nat.reduceEqDiff, reduceCtorEq, Nat.reduceBEq, Nat.reduceAdd, Nat.reduceLeDiff, RS]
theorem same_CX {n1 n2 : Bool} {m1 m2 : List Int} (hM : Contract Tryz.prog 8 [DA s t b1 th b2 td w h b3 l, DA s' t' b1' th' b2' td' w' h' b3' l'] (.tuple [LR n1 m1, LR n2 m2, I 6])) (hUa : Contract Tryz.prog 13 [DA s t b1 th b2 td w h b3 l] (B true)) (hUb : Contract Tryz.prog 13 [DA s' t' b1' th' b2' td' w' h' b3' l'] (B true)) {sn tn : Int} {b1n : Bool} {thn : List Int} {b2n : Bool} {tdn : List Int} {wn hn : Int} {b3n : Bool} {ln : List Bool} {k : Int} (hk : k ≠ 0) (hR2 : Contract Tryz.prog 9 [DA s t b1 th b2 td w h b3 l, LA x1 ls, LA x2 lt] (.tuple [DR sn tn b1n thn b2n tdn wn hn b3n ln, I k])) : Contract Tryz.prog 3 [DA s t b1 th b2 td w h b3 l, DA s' t' b1' th' b2' td' w' h' b3' l', LA x1 ls, LA x2 lt] (B true) := by
  refine Contract.intro (effS [] false) 6 follows Tryz.func3 rfl rfl (by kernel_rfl) (Nat.le_of_ble_eq_true rfl) ?_
  simp (disch := first | assumption | omega | rfl | simp only [RH]) only [↓RP, RG, FX, RQ, ↓reduceIte, Nat.reduceEqDiff, reduceCtorEq, Nat.reduceBEq, Nat.reduceAdd, Nat.reduceLeDiff, args0_4]
  refine callK_F 6 hv1 (by simp (disch := first | assumption | omega | rfl | simp only [RH]) only [↓RP, RG, FX, RQ, ↓reduceIte, Nat.reduceEqDiff, reduceCtorEq, Nat.reduceBEq, Nat.reduceAdd, Nat.reduceLeDiff, RA] <;> rfl) (.inl rfl) ?_
  simp (disch := first | assumption | omega | rfl | simp only [RH]) only [↓RP, RG, FX, RQ, ↓reduceIte, Nat.reduceEqDiff, reduceCtorEq, Nat.reduceBEq, Nat.reduceAdd, Nat.reduceLeDiff, beq_self_eq_true, bb1, bb2]
  refine callK_F 6 hv2 (by simp (disch := first | assumption | omega | rfl | simp only [RH]) only [↓RP, RG, FX, RQ, ↓reduceIte, Nat.reduceEqDiff, reduceCtorEq, Nat.reduceBEq, Nat.reduceAdd, Nat.reduceLeDiff, RA] <;> rfl) (.inl rfl) ?_
  simp (disch := first | assumption | omega | rfl | simp only [RH]) only [↓RP, RG, FX, RQ, ↓reduceIte, Nat.reduceEqDiff, reduceCtorEq, Nat.reduceBEq, Nat.reduceAdd, Nat.reduceLeDiff, beq_self_eq_true, bb1, bb2]
  refine callK_F 6 hM (by simp (disch := first | assumption | omega | rfl | simp only [RH]) only [↓RP, RG, FX, RQ, ↓reduceIte, Nat.reduceEqDiff, reduceCtorEq, Nat.reduceBEq, Nat.reduceAdd, Nat.reduceLeDiff, RA] <;> rfl) (.inl (by simp [allFresh, ints_fresh, bools_fresh])) ?_
  simp (disch := first | assumption | omega | rfl | simp only [RH]) only [↓RP, RG, FX, RQ, ↓reduceIte, Nat.reduceEqDiff, reduceCtorEq, Nat.reduceBEq, Nat.reduceAdd, Nat.reduceLeDiff, beq_self_eq_true, bb1, bb2]
  refine callK_F 6 hUa (by simp (disch := first | assumption | omega | rfl | simp only [RH]) only [↓RP, RG, FX, RQ, ↓reduceIte, Nat.reduceEqDiff, reduceCtorEq, Nat.reduceBEq, Nat.reduceAdd, Nat.reduceLeDiff, RA] <;> rfl) (.inl rfl) ?_
  simp (disch := first | assumption | omega | rfl | simp only [RH]) only [↓RP, RG, FX, RQ, ↓reduceIte, Nat.reduceEqDiff, reduceCtorEq, Nat.reduceBEq, Nat.reduceAdd, Nat.reduceLeDiff, beq_self_eq_true, bb1, bb2]
  refine callK_F 6 hUb (by simp (disch := first | assumption | omega | rfl | simp only [RH]) only [↓RP, RG, FX, RQ, ↓reduceIte, Nat.reduceEqDiff, reduceCtorEq, Nat.reduceBEq, Nat.reduceAdd, Nat.reduceLeDiff, RA] <;> rfl) (.inl rfl) ?_
  simp (disch := first | assumption | omega | rfl | simp only [RH]) only [↓RP, RG, FX, RQ, ↓reduceIte, Nat.reduceEqDiff, reduceCtorEq, Nat.reduceBEq, Nat.reduceAdd, Nat.reduceLeDiff, beq_self_eq_true, bb1, bb2]
  refine callK_F 6 hR2 (by simp (disch := first | assumption | omega | rfl | simp only [RH]) only [↓RP, RG, FX, RQ, ↓reduceIte, Nat.reduceEqDiff, reduceCtorEq, Nat.reduceBEq, Nat.reduceAdd, Nat.reduceLeDiff, RA] <;> rfl) (.inl (by simp [allFresh, ints_fresh, bools_fresh])) ?_
  simp (disch := first | assumption | omega | rfl | simp only [RH]) only [↓RP, RG, FX, RQ, ↓reduceIte, Nat.reduceEqDiff, reduceCtorEq, Nat.reduceBEq, Nat.reduceAdd, Nat.reduceLeDiff, beq_self_eq_true, bb1, bb2]
  refine callK_F 6 alive4_c (by rfl) (.inl rfl) ?_
  simp (disch := first | assumption | omega | rfl | simp only [RH]) only [↓RP, RG, FX, RQ, ↓reduceIte, Nat.reduceEqDiff, reduceCtorEq, Nat.reduceBEq, Nat.reduceAdd, Nat.reduceLeDiff]
  rw [resVal_1 rfl]; simp (disch := first | assumption | omega | rfl | simp only [RH]) only [↓RP, RG, FX, RQ, ↓reduceIte, Nat.reduceEqDiff, reduceCtorEq, Nat.reduceBEq, Nat.reduceAdd, Nat.reduceLeDiff, RS]
theorem same_CZ {n1 n2 : Bool} {m1 m2 : List Int} (hM : Contract Tryz.prog 8 [DA s t b1 th b2 td w h b3 l, DA s' t' b1' th' b2' td' w' h' b3' l'] (.tuple [LR n1 m1, LR n2 m2, I 6])) (hUa : Contract Tryz.prog 13 [DA s t b1 th b2 td w h b3 l] (B true)) (hUb : Contract Tryz.prog 13 [DA s' t' b1' th' b2' td' w' h' b3' l'] (B true)) {sn tn : Int} {b1n : Bool} {thn : List Int} {b2n : Bool} {tdn : List Int} {wn hn : Int} {b3n : Bool} {ln : List Bool} (hR2 : Contract Tryz.prog 9 [DA s t b1 th b2 td w h b3 l, LA x1 ls, LA x2 lt] (.tuple [DR sn tn b1n thn b2n tdn wn hn b3n ln, I 0])) {y1 y2 : Bool} (hM2 : Contract Tryz.prog 8 [DA s t b1 th b2 td w h b3 l, DA sn tn b1n thn b2n tdn wn hn b3n ln] (.tuple [LR y1 ls, LR y2 lt, I 0])) {p1 p2 : Bool} {q1 q2 : List Int} (hM3 : Contract Tryz.prog 8 [DA s t b1 th b2 td w h b3 l, DA s t b1 th b2 td w h b3 l] (.tuple [LR p1 q1, LR p2 q2, I 0])) {so to : Int} {b1o : Bool} {tho : List Int} {b2o : Bool} {tdo : List Int} {wo ho : Int} {b3o : Bool} {lo : List Bool} (hR3 : Contract Tryz.prog 9 [DA s t b1 th b2 td w h b3 l, LA p1 q1, LA p2 q2] (.tuple [DR so to b1o tho b2o tdo wo ho b3o lo, I 0])) (hS3 : Contract Tryz.prog 14 [LA y1 ls, LA x1 ls] (B true)) (hS4 : Contract Tryz.prog 14 [LA y2 lt, LA x2 lt] (B true)) (hS5 : Contract Tryz.prog 11 [DA so to b1o tho b2o tdo wo ho b3o lo, DA s t b1 th b2 td w h b3 l] (B true)) : Contract Tryz.prog 3 [DA s t b1 th b2 td w h b3 l, DA s' t' b1' th' b2' td' w' h' b3' l', LA x1 ls, LA x2 lt] (B true) := by
  refine Contract.intro (effS [] false) 6 follows Tryz.func3 rfl rfl (by kernel_rfl) (Nat.le_of_ble_eq_true rfl) ?_
  simp (disch := first | assumption | omega | rfl | simp only [RH]) only [↓RP, RG, FX, RQ, ↓reduceIte, Nat.reduceEqDiff, reduceCtorEq, Nat.reduceBEq, Nat.reduceAdd, Nat.reduceLeDiff, args0_4]
  refine callK_F 6 hv1 (by simp (disch := first | assumption | omega | rfl | simp only [RH]) only [↓RP, RG, FX, RQ, ↓reduceIte, Nat.reduceEqDiff, reduceCtorEq, Nat.reduceBEq, Nat.reduceAdd, Nat.reduceLeDiff, RA] <;> rfl) (.inl rfl) ?_
  simp (disch := first | assumption | omega | rfl | simp only [RH]) only [↓RP, RG, FX, RQ, ↓reduceIte, Nat.reduceEqDiff, reduceCtorEq, Nat.reduceBEq, Nat.reduceAdd, Nat.reduceLeDiff, beq_self_eq_true, bb1, bb2]
  refine callK_F 6 hv2 (by simp (disch := first | assumption | omega | rfl | simp only [RH]) only [↓RP, RG, FX, RQ, ↓reduceIte, Nat.reduceEqDiff, reduceCtorEq, Nat.reduceBEq, Nat.reduceAdd, Nat.reduceLeDiff, RA] <;> rfl) (.inl rfl) ?_
  simp (disch := first | assumption | omega | rfl | simp only [RH]) only [↓RP, RG, FX, RQ, ↓reduceIte, Nat.reduceEqDiff, reduceCtorEq, Nat.reduceBEq, Nat.reduceAdd, Nat.reduceLeDiff, beq_self_eq_true, bb1, bb2]
  refine callK_F 6 hM (by simp (disch := first | assumption | omega | rfl | simp only [RH]) only [↓RP, RG, FX, RQ, ↓reduceIte, Nat.reduceEqDiff, reduceCtorEq, Nat.reduceBEq, Nat.reduceAdd, Nat.reduceLeDiff, RA] <;> rfl) (.inl (by simp [allFresh, ints_fresh, bools_fresh])) ?_
  simp (disch := first | assumption | omega | rfl | simp only [RH]) only [↓RP, RG, FX, RQ, ↓reduceIte, Nat.reduceEqDiff, reduceCtorEq, Nat.reduceBEq, Nat.reduceAdd, Nat.reduceLeDiff, beq_self_eq_true, bb1, bb2]
  refine callK_F 6 hUa (by simp (disch := first | assumption | omega | rfl | simp only [RH]) only [↓RP, RG, FX, RQ, ↓reduceIte, Nat.reduceEqDiff, reduceCtorEq, Nat.reduceBEq, Nat.reduceAdd, Nat.reduceLeDiff, RA] <;> rfl) (.inl rfl) ?_
  simp (disch := first | assumption | omega | rfl | simp only [RH]) only [↓RP, RG, FX, RQ, ↓reduceIte, Nat.reduceEqDiff, reduceCtorEq, Nat.reduceBEq, Nat.reduceAdd, Nat.reduceLeDiff, beq_self_eq_true, bb1, bb2]
  refine callK_F 6 hUb (by simp (disch := first | assumption | omega | rfl | simp only [RH]) only [↓RP, RG, FX, RQ, ↓reduceIte, Nat.reduceEqDiff, reduceCtorEq, Nat.reduceBEq, Nat.reduceAdd, Nat.reduceLeDiff, RA] <;> rfl) (.inl rfl) ?_
  simp (disch := first | assumption | omega | rfl | simp only [RH]) only [↓RP, RG, FX, RQ, ↓reduceIte, Nat.reduceEqDiff, reduceCtorEq, Nat.reduceBEq, Nat.reduceAdd, Nat.reduceLeDiff, beq_self_eq_true, bb1, bb2]
  refine callK_F 6 hR2 (by simp (disch := first | assumption | omega | rfl | simp only [RH]) only [↓RP, RG, FX, RQ, ↓reduceIte, Nat.reduceEqDiff, reduceCtorEq, Nat.reduceBEq, Nat.reduceAdd, Nat.reduceLeDiff, RA] <;> rfl) (.inl (by simp [allFresh, ints_fresh, bools_fresh])) ?_
  simp (disch := first | assumption | omega | rfl | simp only [RH]) only [↓RP, RG, FX, RQ, ↓reduceIte, Nat.reduceEqDiff, reduceCtorEq, Nat.reduceBEq, Nat.reduceAdd, Nat.reduceLeDiff, beq_self_eq_true, bb1, bb2]
  refine callK_F 6 hUa (by simp (disch := first | assumption | omega | rfl | simp only [RH]) only [↓RP, RG, FX, RQ, ↓reduceIte, Nat.reduceEqDiff, reduceCtorEq, Nat.reduceBEq, Nat.reduceAdd, Nat.reduceLeDiff, RA] <;> rfl) (.inl rfl) ?_
  simp (disch := first | assumption | omega | rfl | simp only [RH]) only [↓RP, RG, FX, RQ, ↓reduceIte, Nat.reduceEqDiff, reduceCtorEq, Nat.reduceBEq, Nat.reduceAdd, Nat.reduceLeDiff, beq_self_eq_true, bb1, bb2]
  refine callK_F 6 hM2 (by simp (disch := first | assumption | omega | rfl | simp only [RH]) only [↓RP, RG, FX, RQ, ↓reduceIte, Nat.reduceEqDiff, reduceCtorEq, Nat.reduceBEq, Nat.reduceAdd, Nat.reduceLeDiff, RA] <;> rfl) (.inl (by simp [allFresh, ints_fresh, bools_fresh])) ?_
  simp (disch := first | assumption | omega | rfl | simp only [RH]) only [↓RP, RG, FX, RQ, ↓reduceIte, Nat.reduceEqDiff, reduceCtorEq, Nat.reduceBEq, Nat.reduceAdd, Nat.reduceLeDiff, beq_self_eq_true, bb1, bb2]
  refine callK_F 6 hM3 (by simp (disch := first | assumption | omega | rfl | simp only [RH]) only [↓RP, RG, FX, RQ, ↓reduceIte, Nat.reduceEqDiff, reduceCtorEq, Nat.reduceBEq, Nat.reduceAdd, Nat.reduceLeDiff, RA] <;> rfl) (.inl (by simp [allFresh, ints_fresh, bools_fresh])) ?_
  simp (disch := first | assumption | omega | rfl | simp only [RH]) only [↓RP, RG, FX, RQ, ↓reduceIte, Nat.reduceEqDiff, reduceCtorEq, Nat.reduceBEq, Nat.reduceAdd, Nat.reduceLeDiff, beq_self_eq_true, bb1, bb2]
  refine callK_F 6 hR3 (by simp (disch := first | assumption | omega | rfl | simp only [RH]) only [↓RP, RG, FX, RQ, ↓reduceIte, Nat.reduceEqDiff, reduceCtorEq, Nat.reduceBEq, Nat.reduceAdd, Nat.reduceLeDiff, RA] <;> rfl) (.inl (by simp [allFresh, ints_fresh, bools_fresh])) ?_
  simp (disch := first | assumption | omega | rfl | simp only [RH]) only [↓RP, RG, FX, RQ, ↓reduceIte, Nat.reduceEqDiff, reduceCtorEq, Nat.reduceBEq, Nat.reduceAdd, Nat.reduceLeDiff, beq_self_eq_true, bb1, bb2]
  refine callK_F 6 hS3 (by simp (disch := first | assumption | omega | rfl | simp only [RH]) only [↓RP, RG, FX, RQ, ↓reduceIte, Nat.reduceEqDiff, reduceCtorEq, Nat.reduceBEq, Nat.reduceAdd, Nat.reduceLeDiff, RA] <;> rfl) (.inl rfl) ?_
  simp (disch := first | assumption | omega | rfl | simp only [RH]) only [↓RP, RG, FX, RQ, ↓reduceIte, Nat.reduceEqDiff, reduceCtorEq, Nat.reduceBEq, Nat.reduceAdd, Nat.reduceLeDiff, beq_self_eq_true, bb1, bb2]
  refine callK_F 6 hS4 (by simp (disch := first | assumption | omega | rfl | simp only [RH]) only [↓RP, RG, FX, RQ, ↓reduceIte, Nat.reduceEqDiff, reduceCtorEq, Nat.reduceBEq, Nat.reduceAdd, Nat.reduceLeDiff, RA] <;> rfl) (.inl rfl) ?_
  simp (disch := first | assumption | omega | rfl | simp only [RH]) only [↓RP, RG, FX, RQ, ↓reduceIte, Nat.reduceEqDiff, reduceCtorEq, Nat.reduceBEq, Nat.reduceAdd, Nat.reduceLeDiff, beq_self_eq_true, bb1, bb2]
  refine callK_F 6 hS5 (by simp (disch := first | assumption | omega | rfl | simp only [RH]) only [↓RP, RG, FX, RQ, ↓reduceIte, Nat.reduceEqDiff, reduceCtorEq, Nat.reduceBEq, Nat.reduceAdd, Nat.reduceLeDiff, RA] <;> rfl) (.inl rfl) ?_
  simp (disch := first | assumption | omega | rfl | simp only [RH]) only [↓RP, RG, FX, RQ, ↓reduceIte, Nat.reduceEqDiff, reduceCtorEq, Nat.reduceBEq, Nat.reduceAdd, Nat.reduceLeDiff, beq_self_eq_true, bb1, bb2]
  refine callK_F 6 alive4_c (by rfl) (.inl rfl) ?_
  simp (disch := first | assumption | omega | rfl | simp only [RH]) only [↓RP, RG, FX, RQ, ↓reduceIte, Nat.reduceEqDiff, reduceCtorEq, Nat.reduceBEq, Nat.reduceAdd, Nat.reduceLeDiff]
  rw [resVal_1 rfl]; simp (disch := first | assumption | omega | rfl | simp only [RH]) only [↓RP, RG, FX, RQ, ↓reduceIte, Nat.reduceEqDiff, reduceCtorEq, Nat.reduceBEq, Nat.reduceAdd, Nat.reduceLeDiff, RS]
end
end Go.Proofs.YtbhkhaaifielkaaGreatDoor

/- Matches of a draft with what is made of it by renumbering. -/
set_option linter.unusedSimpArgs false
set_option linter.unusedVariables false
set_option maxRecDepth 100000
namespace Go.Proofs.YtbhkhaaifielkaaGreatDoor
open Go Go.Proofs Go.AW

theorem tmP {a b : List Int} (b1 b2 : Bool) (ha : thV a) (hb : thV b) (h0 : 0 < a.length) : ∃ (nb : Bool) (m : List Int) (e : Int), m.length ≤ 400 ∧
    Contract Tryz.prog 29 [LA b1 a, LA b2 b] (.tuple [LR nb m, I e]) := by
  by_cases hl : a.length = b.length
  rotate_left
  · exact ⟨true, [], 2, by simp, matchP_len b1 b2 ha hb hl⟩
  obtain ⟨jm, hjm, hme⟩ := mxl_mem a (a.length - 1)
  have hmb := ha.2 jm (by omega)
  obtain ⟨N, hN⟩ : ∃ N : Nat, (N : Int) = mxl a (a.length - 1) + 1 := ⟨(mxl a (a.length - 1) + 1).toNat, by omega⟩
  by_cases hp : pairs a b a.length
  · exact ⟨false, mtO a b N a.length, 0, by rw [mtO_len]; omega, matchP_c b1 b2 ha hb hl h0 hN 0 _ _ (fun _ => ⟨rfl, rfl, rfl⟩) (fun h => absurd hp h)⟩
  · exact ⟨true, [], 6, by simp, matchP_c b1 b2 ha hb hl h0 hN 6 _ _ (fun h => absurd h hp) (fun _ => ⟨rfl, rfl, rfl⟩)⟩
/-- Where all of the first are used: the match found. -/
theorem tm_use {a b : List Int} (b1 b2 : Bool) {S : Nat} (hw : wIn a S) (hS : S ≤ 400) (hal : a.length ≤ 400) (hb : thV b) (hu : nK a = S) (hl : a.length = b.length) (hp : pairs a b a.length) :
    Contract Tryz.prog 29 [LA b1 a, LA b2 b] (.tuple [LR false (mtO a b S a.length), I 0]) :=
  matchP_c b1 b2 (thV_of hw hal (by omega)) hb hl hw.1 (N := S) (use_max hw hu).symm 0 _ _ (fun _ => ⟨rfl, rfl, rfl⟩) (fun h => absurd hp h)
theorem nK_map {a s : List Int} {S : Nat} (hw : wIn a S) (ho : once s S S) : nK (mapd a s a.length) = nK a := by
  unfold nK
  rw [mapd_len]
  rw [knd_congr (rI (mapd a s a.length)) (rI a) a.length (fun i j hi hj => by
    show (mapd a s a.length).getD i 0 = (mapd a s a.length).getD j 0 ↔ a.getD i 0 = a.getD j 0
    rw [mapd_get hi, mapd_get hj]
    have h1 := hw.2 i hi
    have h2 := hw.2 j hj
    constructor
    · intro h
      have := once_inj ho (i := (a.getD i 0).toNat) (j := (a.getD j 0).toNat) (by omega) (by omega) h
      omega
    · intro h; rw [h])]
/-- The numbers themselves. -/
def idL (S : Nat) : List Int := nI (List.range S)
theorem idL_len (S : Nat) : (idL S).length = S := by simp [idL, nI]
theorem idL_get {S i : Nat} (hi : i < S) : (idL S).getD i 0 = (i : Int) := by
  rw [idL, nI_get]; simp [List.getD_eq_getElem?_getD, List.getElem?_range hi]
theorem idL_once (S : Nat) : once (idL S) S S := by
  intro i hi
  rw [idL_get hi]
  refine ⟨by omega, by omega, fun j hj => ?_⟩
  rw [idL_get (by omega)]
  omega
theorem idL_map {a : List Int} {S : Nat} (hw : wIn a S) : mapd a (idL S) a.length = a := by
  apply List.ext_getElem (by rw [mapd_len])
  intro i h1 h2
  rw [mapd_len] at h1
  have h3 := mapd_get (l := a) (m := idL S) h1
  have h4 := hw.2 i h1
  rw [idL_get (by omega)] at h3
  have h5 : (mapd a (idL S) a.length).getD i 0 = a.getD i 0 := by omega
  simpa only [List.getD_eq_getElem?_getD, List.getElem?_eq_getElem (show i < (mapd a (idL S) a.length).length by rw [mapd_len]; exact h1), List.getElem?_eq_getElem h2, Option.getD_some] using h5
theorem idL_inv {S v : Nat} (hv : v < S) : (invL (idL S) S S).getD v 0 = (v : Int) := by
  obtain ⟨i, h1, h2, h3⟩ := inv_of (idL_len S) (idL_once S) hv
  rw [idL_get h1] at h2
  omega
theorem idL_ren {S T : Nat} {l : List Bool} (hn : l.length = T * S) : rnT S T (idL S) (idL T) l = l := by
  refine Eq.trans ?_ (tab_own hn)
  unfold rnT
  refine tabN_congr fun x y hx hy => ?_
  unfold uN cell
  rw [idL_inv hx, idL_inv hy, idx_nat]
/-- A match of a draft with itself, and with what renumbering makes of it. -/
theorem tm_ren {a s : List Int} (b1 b2 : Bool) {S : Nat} (hw : wIn a S) (hS : S ≤ 400) (hal : a.length ≤ 400) (hu : nK a = S) (hs : s.length = S) (ho : once s S S) : Contract Tryz.prog 29 [LA b1 a, LA b2 (mapd a s a.length)] (.tuple [LR false s, I 0]) := by
  obtain ⟨h1, h2⟩ := mt_ren hw hu hs ho
  have h3 := tm_use b1 b2 hw hS hal (thV_of (mapd_win hw hs ho) (by rw [mapd_len]; exact hal) (by omega)) hu (mapd_len _ _ _).symm h1
  rw [h2] at h3
  exact h3
section
variable {S T : Nat} {th td : List Int} {l : List Bool} (hd : dOk S T th td T S l.length) (b1 b2 b3 : Bool)
include hd
theorem uses_a : Contract Tryz.prog 28 [DA S T b1 th b2 td T S b3 l] (B (decide ((nK th : Int) = S ∧ (nK td : Int) = T))) :=
  usesP_c S T b1 b2 T S b3 l (thV_of hd.2.2.2.2.1 (by have := hd.2.2.1; omega) (by have := hd.1; omega)) (thV_of hd.2.2.2.2.2.1 (by have := hd.2.2.2.1; omega) (by have := hd.2.1; omega)) hd.2.2.2.2.1.1 hd.2.2.2.2.2.1.1
theorem check_a : Contract Tryz.prog 27 [DA S T b1 th b2 td T S b3 l] (I 0) := by
  have h := dcheckP_c S T b1 th b2 td T S b3 l (by have := hd.2.2.1; omega) (by have := hd.2.2.2.1; omega)
  rwa [dchk_ok hd] at h
/-- A draft in which all is used, and the draft renumbered. -/
theorem match_ren (hu : nK th = S ∧ nK td = T) {s t : List Int} (hs : s.length = S) (os : once s S S) (ht : t.length = T) (ot : once t T T) (c1 c2 c3 : Bool) :
    Contract Tryz.prog 8 [DA S T b1 th b2 td T S b3 l, DA S T c1 (mapd th s th.length) c2 (mapd td t td.length) T S c3 (rnT S T s t l)] (.tuple [LR false s, LR false t, I 0]) := by
  have hd2 := ren_dok hd hs ht os ot
  have e1 := hd.2.2.1
  have e2 := hd.2.2.2.1
  have e3 := hd.1
  have e4 := hd.2.1
  have w1 := hd.2.2.2.2.1
  have w2 := hd.2.2.2.2.2.1
  have ua := uses_a hd b1 b2 b3
  have ub := uses_a hd2 c1 c2 c3
  rw [decide_eq_true ⟨by omega, by omega⟩] at ua
  rw [nK_map w1 os, nK_map w2 ot, decide_eq_true ⟨by omega, by omega⟩] at ub
  have q : T * S ≤ 64 * 64 := Nat.mul_le_mul (by omega) (by omega)
  have rP := renP_ok b1 b2 b3 hd false false hs ht os ot
  have sP := dsameP_c S T false (mapd th s th.length) false (mapd td t td.length) T S false (tabN T (uN T l (invL s S S) (invL t T T)) (T * S)) S T c1 (mapd th s th.length) c2 (mapd td t td.length) T S c3 (rnT S T s t l) (by rw [mapd_len]; omega) (by rw [mapd_len]; omega) (by rw [tabN_len]; omega)
  rw [decide_eq_true (show dEq S T (mapd th s th.length) (mapd td t td.length) T S (tabN T (uN T l (invL s S S) (invL t T T)) (T * S)) S T (mapd th s th.length) (mapd td t td.length) T S (rnT S T s t l) from ⟨rfl, rfl, rfl, rfl, rfl, rfl, rfl⟩)] at sP
  have k := mP_ren (check_a hd b1 b2 b3) (check_a hd2 c1 c2 c3) ua ub (tm_ren b1 c1 w1 (by omega) (by omega) hu.1 hs os) (tm_ren b2 c2 w2 (by omega) (by omega) hu.2 ht ot) rP sP
  rw [if_pos ⟨rfl, rfl⟩] at k
  exact k
theorem match_self (hu : nK th = S ∧ nK td = T) (c1 c2 c3 : Bool) : Contract Tryz.prog 8 [DA S T b1 th b2 td T S b3 l, DA S T c1 th c2 td T S c3 l] (.tuple [LR false (idL S), LR false (idL T), I 0]) := by
  obtain ⟨g1, g2, g3, g4, g5⟩ := hd.2.2.2.2.2.2.1
  have hn : l.length = T * S := by rw [← Int.natCast_mul] at g5; omega
  have k := match_ren hd b1 b2 b3 hu (idL_len S) (idL_once S) (idL_len T) (idL_once T) c1 c2 c3
  rwa [idL_map hd.2.2.2.2.1, idL_map hd.2.2.2.2.2.1, idL_ren hn] at k
/-- Any two valid drafts: what Match gives. -/
theorem match_any {s' t' : Int} {th' td' : List Int} {w' h' : Int} {l' : List Bool} (c1 c2 c3 : Bool) (hd' : dOk s' t' th' td' w' h' l'.length) :
    ∃ (n1 : Bool) (m1 : List Int) (n2 : Bool) (m2 : List Int) (e : Int), Contract Tryz.prog 8 [DA S T b1 th b2 td T S b3 l, DA s' t' c1 th' c2 td' w' h' c3 l'] (.tuple [LR n1 m1, LR n2 m2, I e]) ∧
      ((e = 0 ∧ ((nK th : Int) = S ∧ (nK td : Int) = T) ∧ (m1.length = S ∧ once m1 S S) ∧ (m2.length = T ∧ once m2 T T) ∧ dEq S T (mapd th m1 th.length) (mapd td m2 td.length) T S (rnT S T m1 m2 l) s' t' th' td' w' h' l') ∨
       (e = 2 ∧ ¬ (((nK th : Int) = S ∧ (nK td : Int) = T) ∧ (nK th' : Int) = s' ∧ (nK td' : Int) = t')) ∨ (e = 6 ∧ ((nK th : Int) = S ∧ (nK td : Int) = T) ∧ (nK th' : Int) = s' ∧ (nK td' : Int) = t')) := by
  have hca := check_a hd b1 b2 b3
  have hcb := dcheckP_c s' t' c1 th' c2 td' w' h' c3 l' (by have := hd'.2.2.1; omega) (by have := hd'.2.2.2.1; omega)
  rw [dchk_ok hd'] at hcb
  have v1 := thV_of hd.2.2.2.2.1 (by have := hd.2.2.1; omega) (by have := hd.1; omega)
  have v2 := thV_of hd.2.2.2.2.2.1 (by have := hd.2.2.2.1; omega) (by have := hd.2.1; omega)
  have v1' := thV_of hd'.2.2.2.2.1 (by have := hd'.2.2.1; omega) (by have := hd'.1; omega)
  have v2' := thV_of hd'.2.2.2.2.2.1 (by have := hd'.2.2.2.1; omega) (by have := hd'.2.1; omega)
  have hua := uses_a hd b1 b2 b3
  have hub := usesP_c s' t' c1 c2 w' h' c3 l' v1' v2' hd'.2.2.2.2.1.1 hd'.2.2.2.2.2.1.1
  by_cases hu : ((nK th : Int) = S ∧ (nK td : Int) = T) ∧ ((nK th' : Int) = s' ∧ (nK td' : Int) = t')
  rotate_left
  · have hu' : ¬ (decide ((nK th : Int) = S ∧ (nK td : Int) = T) = true ∧ decide ((nK th' : Int) = s' ∧ (nK td' : Int) = t') = true) := by
      rw [decide_eq_true_iff, decide_eq_true_iff]; exact hu
    exact ⟨_, [], _, [], _, mP_use hca hcb hua hub hu', .inr (.inl ⟨rfl, hu⟩)⟩
  rw [decide_eq_true hu.1] at hua
  rw [decide_eq_true hu.2] at hub
  obtain ⟨n1, m1, e1, q1, t1⟩ := tmP b1 c1 v1 v1' hd.2.2.2.2.1.1
  obtain ⟨n2, m2, e2, q2, t3⟩ := tmP b2 c2 v2 v2' hd.2.2.2.2.2.1.1
  by_cases he : e1 ≠ 0 ∨ e2 ≠ 0
  · exact ⟨_, [], _, [], _, mP_none hca hcb hua hub t1 t3 he, .inr (.inr ⟨rfl, hu⟩)⟩
  obtain rfl : e1 = 0 := by omega
  obtain rfl : e2 = 0 := by omega
  have d1 := hd.1
  have d2 := hd.2.1
  have d3 := hd.2.2.1
  have d4 := hd.2.2.2.1
  have q : T * S ≤ 64 * 64 := Nat.mul_le_mul (by omega) (by omega)
  by_cases h1 : (m1.length = S ∧ once m1 S S) ∧ (m2.length = T ∧ once m2 T T)
  · obtain ⟨⟨c1', o1⟩, c2', o2⟩ := id h1
    have rP := renP_ok b1 b2 b3 hd n1 n2 c1' c2' o1 o2
    have sP := dsameP_c S T false (mapd th m1 th.length) false (mapd td m2 td.length) T S false (tabN T (uN T l (invL m1 S S) (invL m2 T T)) (T * S)) s' t' c1 th' c2 td' w' h' c3 l' (by rw [mapd_len]; omega) (by rw [mapd_len]; omega) (by rw [tabN_len]; omega)
    have kP := mP_ren hca hcb hua hub t1 t3 rP sP
    by_cases hx : (0 : Int) = 0 ∧ decide (dEq S T (mapd th m1 th.length) (mapd td m2 td.length) T S (tabN T (uN T l (invL m1 S S) (invL m2 T T)) (T * S)) s' t' th' td' w' h' l') = true
    · rw [if_pos hx] at kP
      exact ⟨n1, m1, n2, m2, 0, kP, .inl ⟨rfl, hu.1, h1.1, h1.2, of_decide_eq_true hx.2⟩⟩
    · rw [if_neg hx] at kP
      exact ⟨_, [], _, [], _, kP, .inr (.inr ⟨rfl, hu⟩)⟩
  · have rP := renP_no b1 b2 b3 hd n1 n2 (by omega) (by omega) h1
    have sP := dsameP_c 0 0 true [] true [] 0 0 true [] s' t' c1 th' c2 td' w' h' c3 l' (by simp) (by simp) (by simp)
    have kP := mP_ren hca hcb hua hub t1 t3 rP sP
    rw [if_neg (fun hx => by cases hx.1)] at kP
    exact ⟨_, [], _, [], _, kP, .inr (.inr ⟨rfl, hu⟩)⟩
end
end Go.Proofs.YtbhkhaaifielkaaGreatDoor

/- The law FactorSame. -/
set_option linter.unusedSimpArgs false
set_option linter.unusedVariables false
set_option maxRecDepth 100000
namespace Go.Proofs.YtbhkhaaifielkaaGreatDoor
open Go Go.Proofs Go.AW

theorem factorSame_c (s t : Int) (b1 : Bool) (th : List Int) (b2 : Bool) (td : List Int) (w h : Int) (b3 : Bool) (l : List Bool) (s' t' : Int) (b1' : Bool) (th' : List Int) (b2' : Bool) (td' : List Int) (w' h' : Int) (b3' : Bool) (l' : List Bool) (x1 : Bool) (ls : List Int) (x2 : Bool) (lt : List Int) :
    Contract Tryz.prog 3 [DA s t b1 th b2 td w h b3 l, DA s' t' b1' th' b2' td' w' h' b3' l', LA x1 ls, LA x2 lt] (B true) := by
  by_cases hv : ¬ dGreat th td l ∧ dOk s t th td w h l.length
  rotate_left
  · have hv1 := valid4_c s t b1 th b2 td w h b3 l false (by simp [hv])
    refine Contract.intro (effS [] false) 6 follows Tryz.func3 rfl rfl (by kernel_rfl) (Nat.le_of_ble_eq_true rfl) ?_
    simp (disch := first | assumption | omega | rfl | simp only [RH]) only [↓RP, RG, FX, RQ, ↓reduceIte, Nat.reduceEqDiff, reduceCtorEq, Nat.reduceBEq, Nat.reduceAdd, Nat.reduceLeDiff, args0_4]
    refine callK_F 6 (hv1) (by simp (disch := first | assumption | omega | rfl | simp only [RH]) only [↓RP, RG, FX, RQ, ↓reduceIte, Nat.reduceEqDiff, reduceCtorEq, Nat.reduceBEq, Nat.reduceAdd, Nat.reduceLeDiff, RA] <;> rfl) (.inl (by simp [allFresh, ints_fresh, bools_fresh])) ?_
    simp (disch := first | assumption | omega | rfl | simp only [RH]) only [↓RP, RG, FX, RQ, ↓reduceIte, Nat.reduceEqDiff, reduceCtorEq, Nat.reduceBEq, Nat.reduceAdd, Nat.reduceLeDiff]
    refine callK_F 6 alive4_c (by rfl) (.inl rfl) ?_
    simp (disch := first | assumption | omega | rfl | simp only [RH]) only [↓RP, RG, FX, RQ, ↓reduceIte, Nat.reduceEqDiff, reduceCtorEq, Nat.reduceBEq, Nat.reduceAdd, Nat.reduceLeDiff]
    rw [resVal_1 rfl]; simp (disch := first | assumption | omega | rfl | simp only [RH]) only [↓RP, RG, FX, RQ, ↓reduceIte, Nat.reduceEqDiff, reduceCtorEq, Nat.reduceBEq, Nat.reduceAdd, Nat.reduceLeDiff, RS]
  have hv1 := valid4_c s t b1 th b2 td w h b3 l true ⟨fun _ => hv, fun _ => rfl⟩
  by_cases hv' : ¬ dGreat th' td' l' ∧ dOk s' t' th' td' w' h' l'.length
  rotate_left
  · have hv2 := valid4_c s' t' b1' th' b2' td' w' h' b3' l' false (by simp [hv'])
    refine Contract.intro (effS [] false) 6 follows Tryz.func3 rfl rfl (by kernel_rfl) (Nat.le_of_ble_eq_true rfl) ?_
    simp (disch := first | assumption | omega | rfl | simp only [RH]) only [↓RP, RG, FX, RQ, ↓reduceIte, Nat.reduceEqDiff, reduceCtorEq, Nat.reduceBEq, Nat.reduceAdd, Nat.reduceLeDiff, args0_4]
    refine callK_F 6 (hv1) (by simp (disch := first | assumption | omega | rfl | simp only [RH]) only [↓RP, RG, FX, RQ, ↓reduceIte, Nat.reduceEqDiff, reduceCtorEq, Nat.reduceBEq, Nat.reduceAdd, Nat.reduceLeDiff, RA] <;> rfl) (.inl (by simp [allFresh, ints_fresh, bools_fresh])) ?_
    simp (disch := first | assumption | omega | rfl | simp only [RH]) only [↓RP, RG, FX, RQ, ↓reduceIte, Nat.reduceEqDiff, reduceCtorEq, Nat.reduceBEq, Nat.reduceAdd, Nat.reduceLeDiff]
    refine callK_F 6 (hv2) (by simp (disch := first | assumption | omega | rfl | simp only [RH]) only [↓RP, RG, FX, RQ, ↓reduceIte, Nat.reduceEqDiff, reduceCtorEq, Nat.reduceBEq, Nat.reduceAdd, Nat.reduceLeDiff, RA] <;> rfl) (.inl (by simp [allFresh, ints_fresh, bools_fresh])) ?_
    simp (disch := first | assumption | omega | rfl | simp only [RH]) only [↓RP, RG, FX, RQ, ↓reduceIte, Nat.reduceEqDiff, reduceCtorEq, Nat.reduceBEq, Nat.reduceAdd, Nat.reduceLeDiff]
    refine callK_F 6 alive4_c (by rfl) (.inl rfl) ?_
    simp (disch := first | assumption | omega | rfl | simp only [RH]) only [↓RP, RG, FX, RQ, ↓reduceIte, Nat.reduceEqDiff, reduceCtorEq, Nat.reduceBEq, Nat.reduceAdd, Nat.reduceLeDiff]
    rw [resVal_1 rfl]; simp (disch := first | assumption | omega | rfl | simp only [RH]) only [↓RP, RG, FX, RQ, ↓reduceIte, Nat.reduceEqDiff, reduceCtorEq, Nat.reduceBEq, Nat.reduceAdd, Nat.reduceLeDiff, RS]
  have hv2 := valid4_c s' t' b1' th' b2' td' w' h' b3' l' true ⟨fun _ => hv', fun _ => rfl⟩
  by_cases h70 : 70 < (ls.length : Int)
  · refine Contract.intro (effS [] false) 6 follows Tryz.func3 rfl rfl (by kernel_rfl) (Nat.le_of_ble_eq_true rfl) ?_
    simp (disch := first | assumption | omega | rfl | simp only [RH]) only [↓RP, RG, FX, RQ, ↓reduceIte, Nat.reduceEqDiff, reduceCtorEq, Nat.reduceBEq, Nat.reduceAdd, Nat.reduceLeDiff, args0_4]
    refine callK_F 6 (hv1) (by simp (disch := first | assumption | omega | rfl | simp only [RH]) only [↓RP, RG, FX, RQ, ↓reduceIte, Nat.reduceEqDiff, reduceCtorEq, Nat.reduceBEq, Nat.reduceAdd, Nat.reduceLeDiff, RA] <;> rfl) (.inl (by simp [allFresh, ints_fresh, bools_fresh])) ?_
    simp (disch := first | assumption | omega | rfl | simp only [RH]) only [↓RP, RG, FX, RQ, ↓reduceIte, Nat.reduceEqDiff, reduceCtorEq, Nat.reduceBEq, Nat.reduceAdd, Nat.reduceLeDiff]
    refine callK_F 6 (hv2) (by simp (disch := first | assumption | omega | rfl | simp only [RH]) only [↓RP, RG, FX, RQ, ↓reduceIte, Nat.reduceEqDiff, reduceCtorEq, Nat.reduceBEq, Nat.reduceAdd, Nat.reduceLeDiff, RA] <;> rfl) (.inl (by simp [allFresh, ints_fresh, bools_fresh])) ?_
    simp (disch := first | assumption | omega | rfl | simp only [RH]) only [↓RP, RG, FX, RQ, ↓reduceIte, Nat.reduceEqDiff, reduceCtorEq, Nat.reduceBEq, Nat.reduceAdd, Nat.reduceLeDiff]
    refine callK_F 6 alive4_c (by rfl) (.inl rfl) ?_
    simp (disch := first | assumption | omega | rfl | simp only [RH]) only [↓RP, RG, FX, RQ, ↓reduceIte, Nat.reduceEqDiff, reduceCtorEq, Nat.reduceBEq, Nat.reduceAdd, Nat.reduceLeDiff]
    rw [resVal_1 rfl]; simp (disch := first | assumption | omega | rfl | simp only [RH]) only [↓RP, RG, FX, RQ, ↓reduceIte, Nat.reduceEqDiff, reduceCtorEq, Nat.reduceBEq, Nat.reduceAdd, Nat.reduceLeDiff, RS]
  by_cases h71 : 70 < (lt.length : Int)
  · refine Contract.intro (effS [] false) 6 follows Tryz.func3 rfl rfl (by kernel_rfl) (Nat.le_of_ble_eq_true rfl) ?_
    simp (disch := first | assumption | omega | rfl | simp only [RH]) only [↓RP, RG, FX, RQ, ↓reduceIte, Nat.reduceEqDiff, reduceCtorEq, Nat.reduceBEq, Nat.reduceAdd, Nat.reduceLeDiff, args0_4]
    refine callK_F 6 (hv1) (by simp (disch := first | assumption | omega | rfl | simp only [RH]) only [↓RP, RG, FX, RQ, ↓reduceIte, Nat.reduceEqDiff, reduceCtorEq, Nat.reduceBEq, Nat.reduceAdd, Nat.reduceLeDiff, RA] <;> rfl) (.inl (by simp [allFresh, ints_fresh, bools_fresh])) ?_
    simp (disch := first | assumption | omega | rfl | simp only [RH]) only [↓RP, RG, FX, RQ, ↓reduceIte, Nat.reduceEqDiff, reduceCtorEq, Nat.reduceBEq, Nat.reduceAdd, Nat.reduceLeDiff]
    refine callK_F 6 (hv2) (by simp (disch := first | assumption | omega | rfl | simp only [RH]) only [↓RP, RG, FX, RQ, ↓reduceIte, Nat.reduceEqDiff, reduceCtorEq, Nat.reduceBEq, Nat.reduceAdd, Nat.reduceLeDiff, RA] <;> rfl) (.inl (by simp [allFresh, ints_fresh, bools_fresh])) ?_
    simp (disch := first | assumption | omega | rfl | simp only [RH]) only [↓RP, RG, FX, RQ, ↓reduceIte, Nat.reduceEqDiff, reduceCtorEq, Nat.reduceBEq, Nat.reduceAdd, Nat.reduceLeDiff]
    refine callK_F 6 alive4_c (by rfl) (.inl rfl) ?_
    simp (disch := first | assumption | omega | rfl | simp only [RH]) only [↓RP, RG, FX, RQ, ↓reduceIte, Nat.reduceEqDiff, reduceCtorEq, Nat.reduceBEq, Nat.reduceAdd, Nat.reduceLeDiff]
    rw [resVal_1 rfl]; simp (disch := first | assumption | omega | rfl | simp only [RH]) only [↓RP, RG, FX, RQ, ↓reduceIte, Nat.reduceEqDiff, reduceCtorEq, Nat.reduceBEq, Nat.reduceAdd, Nat.reduceLeDiff, RS]
  obtain ⟨hng, hd⟩ := hv
  obtain ⟨hng', hd'⟩ := hv'
  have h70' : ls.length ≤ 70 := by omega
  have h71' : lt.length ≤ 70 := by omega
  have e1 := hd.1
  have e2 := hd.2.1
  have e3 := hd.2.2.1
  have e4 := hd.2.2.2.1
  have ps := wIn_pos hd.2.2.2.2.1
  have pt := wIn_pos hd.2.2.2.2.2.1
  obtain ⟨g1, g2, g3, g4, g5⟩ := hd.2.2.2.2.2.2.1
  obtain rfl : w = t := hd.2.2.2.2.2.2.2.1
  obtain rfl : h = s := hd.2.2.2.2.2.2.2.2
  obtain ⟨T, rfl⟩ : ∃ T : Nat, w = T := ⟨w.toNat, by omega⟩
  obtain ⟨S, rfl⟩ : ∃ S : Nat, h = S := ⟨h.toNat, by omega⟩
  have hn : l.length = T * S := by rw [← Int.natCast_mul] at g5; omega
  have q : T * S ≤ 64 * 64 := Nat.mul_le_mul (by omega) (by omega)
  have q2 : th.length * td.length ≤ 64 * 64 := Nat.mul_le_mul (by omega) (by omega)
  have ua := usesR_c S T b1 b2 T S b3 l (th := th) (td := td) (by omega) (by omega)
  have e3' := hd'.2.2.1
  have e4' := hd'.2.2.2.1
  have ub := usesR_c s' t' b1' b2' w' h' b3' l' (th := th') (td := td') (by omega) (by omega)
  obtain ⟨n1, m1, n2, m2, e, hM, hcase⟩ := match_any hd b1 b2 b3 b1' b2' b3' hd'
  -- what renumbering gives
  by_cases hno : (ls.length = S ∧ once ls S S) ∧ (lt.length = T ∧ once lt T T)
  rotate_left
  · have hR2 := renP_no b1 b2 b3 hd x1 x2 (m1 := ls) (m2 := lt) (by omega) (by omega) hno
    rcases hcase with ⟨rfl, hu, ⟨c1, o1⟩, ⟨c2, o2⟩, hEq⟩ | ⟨rfl, hu⟩ | ⟨rfl, hu⟩
    · obtain ⟨rfl, rfl, rfl, rfl, rfl, rfl, rfl⟩ := hEq
      have hR1 := renP_ok b1 b2 b3 hd n1 n2 c1 c2 o1 o2
      have hW1 := weaveV_c b1 b2 b3 hd
      have hW2 := weaveV_c b1' b2' b3' hd'
      rw [ren_weave hd c1 c2 o1 o2, mapd_len, mapd_len] at hW2
      have hS1 := dsameR_c S T false (mapd th m1 th.length) false (mapd td m2 td.length) T S false (rnT S T m1 m2 l) S T b1' (mapd th m1 th.length) b2' (mapd td m2 td.length) T S b3' (rnT S T m1 m2 l) (by rw [mapd_len]; omega) (by rw [mapd_len]; omega) (by rw [rnT_len]; omega)
      rw [decide_eq_true (show dEq S T (mapd th m1 th.length) (mapd td m2 td.length) T S (rnT S T m1 m2 l) S T (mapd th m1 th.length) (mapd td m2 td.length) T S (rnT S T m1 m2 l) from ⟨rfl, rfl, rfl, rfl, rfl, rfl, rfl⟩)] at hS1
      have hS2 := sameR_c th.length td.length th.length td.length false false (tabN th.length (uW T th td l) (th.length * td.length)) (tabN th.length (uW T th td l) (th.length * td.length)) (by rw [tabN_len]; omega)
      rw [decide_eq_true ⟨rfl, rfl, rfl⟩] at hS2
      exact same_AX hv1 hv2 h70' h71' hM hR1 hW1 hW2 hS1 hS2 (by omega) hR2
    · by_cases hua : (nK th : Int) = S ∧ (nK td : Int) = T
      · rw [decide_eq_true hua] at ua
        rw [decide_eq_false (fun h => hu ⟨hua, h⟩)] at ub
        exact same_BtX hv1 hv2 h70' h71' hM ua ub (by omega) hR2
      · rw [decide_eq_false hua] at ua
        exact same_BfX hv1 hv2 h70' h71' hM ua (by omega) hR2
    · rw [decide_eq_true hu.1] at ua
      rw [decide_eq_true hu.2] at ub
      exact same_CX hv1 hv2 h70' h71' hM ua ub (by omega) hR2
  obtain ⟨⟨k1, o3⟩, k2, o4⟩ := hno
  have hR2 := renP_ok b1 b2 b3 hd x1 x2 k1 k2 o3 o4
  by_cases hua : (nK th : Int) = S ∧ (nK td : Int) = T
  rotate_left
  · rw [decide_eq_false hua] at ua
    rcases hcase with ⟨rfl, hu, _⟩ | ⟨rfl, hu⟩ | ⟨rfl, hu⟩
    · exact absurd hu hua
    · exact same_BfY hv1 hv2 h70' h71' hM ua hR2
    · exact absurd hu.1 hua
  rw [decide_eq_true hua] at ua
  have huN : nK th = S ∧ nK td = T := by omega
  have hM2 := match_ren hd b1 b2 b3 huN k1 o3 k2 o4 false false false
  have hM3 := match_self hd b1 b2 b3 huN b1 b2 b3
  have hR3 := renP_ok b1 b2 b3 hd false false (idL_len S) (idL_len T) (idL_once S) (idL_once T)
  have hS3 := same02_c false x1 ls ls (by omega)
  have hS4 := same02_c false x2 lt lt (by omega)
  rw [decide_eq_true rfl] at hS3 hS4
  have hid := idL_ren hn
  unfold rnT at hid
  rw [idL_map hd.2.2.2.2.1, idL_map hd.2.2.2.2.2.1, hid] at hR3
  have hS5 := dsameR_c S T false th false td T S false l S T b1 th b2 td T S b3 l (by omega) (by omega) (by omega)
  rw [decide_eq_true (show dEq S T th td T S l S T th td T S l from ⟨rfl, rfl, rfl, rfl, rfl, rfl, rfl⟩)] at hS5
  rcases hcase with ⟨rfl, hu, ⟨c1, o1⟩, ⟨c2, o2⟩, hEq⟩ | ⟨rfl, hu⟩ | ⟨rfl, hu⟩
  · obtain ⟨rfl, rfl, rfl, rfl, rfl, rfl, rfl⟩ := hEq
    have hR1 := renP_ok b1 b2 b3 hd n1 n2 c1 c2 o1 o2
    have hW1 := weaveV_c b1 b2 b3 hd
    have hW2 := weaveV_c b1' b2' b3' hd'
    rw [ren_weave hd c1 c2 o1 o2, mapd_len, mapd_len] at hW2
    have hS1 := dsameR_c S T false (mapd th m1 th.length) false (mapd td m2 td.length) T S false (rnT S T m1 m2 l) S T b1' (mapd th m1 th.length) b2' (mapd td m2 td.length) T S b3' (rnT S T m1 m2 l) (by rw [mapd_len]; omega) (by rw [mapd_len]; omega) (by rw [rnT_len]; omega)
    rw [decide_eq_true (show dEq S T (mapd th m1 th.length) (mapd td m2 td.length) T S (rnT S T m1 m2 l) S T (mapd th m1 th.length) (mapd td m2 td.length) T S (rnT S T m1 m2 l) from ⟨rfl, rfl, rfl, rfl, rfl, rfl, rfl⟩)] at hS1
    have hS2 := sameR_c th.length td.length th.length td.length false false (tabN th.length (uW T th td l) (th.length * td.length)) (tabN th.length (uW T th td l) (th.length * td.length)) (by rw [tabN_len]; omega)
    rw [decide_eq_true ⟨rfl, rfl, rfl⟩] at hS2
    exact same_AZ hv1 hv2 h70' h71' hM hR1 hW1 hW2 hS1 hS2 ua hR2 hM2 hM3 hR3 hS3 hS4 hS5
  · rw [decide_eq_false (fun h => hu ⟨hua, h⟩)] at ub
    exact same_BtZ hv1 hv2 h70' h71' hM ua ub hR2 hM2 hM3 hR3 hS3 hS4 hS5
  · rw [decide_eq_true hu.2] at ub
    exact same_CZ hv1 hv2 h70' h71' hM ua ub hR2 hM2 hM3 hR3 hS3 hS4 hS5
end Go.Proofs.YtbhkhaaifielkaaGreatDoor
