/- Part 3 of the proof's own texts: the contracts of functions, and what they rest on. -/
import Derived.Test.YtdbpkjanlafajaaGreatDoorJ2
/- The law DoubleHangs. -/
set_option linter.unusedSimpArgs false
set_option linter.unusedVariables false
set_option maxRecDepth 100000
namespace Go.Proofs.YtdbpkjanlafajaaGreatDoor
open Go Go.Proofs Go.AW

theorem evenL_ne {z n : Nat} (h : 0 < n) : (evenL z n).isEmpty = false := by
  cases he : evenL z n with
  | nil => have := evenL_len z n; rw [he] at this; simp at this; omega
  | cons a t => rfl
/-- The layers of a double cloth that does not hang together. -/
theorem dbl_YV {W H z y : Nat} (hW0 : 0 < W) (hH0 : 0 < H) (hz : z ≤ 1) (hy : y ≤ 1) : YV (2 * W) [(List.range (2 * W + 2 * H)).filter (pD W z), (List.range (2 * W + 2 * H)).filter (pD W y)] = .list true false 2 [LR false (evenL z W), LR false (evenL z H), LR false (evenL y W), LR false (evenL y H)] := by
  obtain ⟨a1, a2, a3⟩ := dbl_lay (W := W) (H := H) hz
  obtain ⟨c1, c2, c3⟩ := dbl_lay (W := W) (H := H) hy
  generalize (List.range (2 * W + 2 * H)).filter (pD W z) = A at *
  generalize (List.range (2 * W + 2 * H)).filter (pD W y) = C at *
  have hb : big [A, C] = [A, C] := by
    unfold big
    rw [List.filter_cons_of_pos (by simp; omega), List.filter_cons_of_pos (by simp; omega), List.filter_nil]
  unfold YV
  rw [hb]
  show AVal.list true false 2 (lyC (2 * W) A ++ (lyC (2 * W) C ++ [])) = _
  unfold lyC
  rw [← nI_isEmpty, ← nI_isEmpty, ← nI_isEmpty, ← nI_isEmpty, a1, a2, c1, c2, evenL_ne hW0, evenL_ne hH0, evenL_ne hW0, evenL_ne hH0]
  rfl
set_option maxHeartbeats 1000000 in
theorem doubleHangs_c (w1 h1 : Int) (b1 : Bool) (l1 : List Bool) (w2 h2 : Int) (b2 : Bool) (l2 : List Bool) (w3 h3 : Int) (b3 : Bool) (l3 : List Bool) :
    Contract Tryz.prog 4 [GA w1 h1 b1 l1, GA w2 h2 b2 l2, GA w3 h3 b3 l3] (B true) := by
  classical
  have hV := threeL_c w1 h1 b1 l1 w2 h2 b2 l2 w3 h3 b3 l3 6 (decide (fit3 w1 h1 l1 w2 h2 l2 w3 h3 l3 6)) decide_eq_true_iff
  by_cases hv : fit3 w1 h1 l1 w2 h2 l2 w3 h3 l3 6
  rotate_left
  · rw [decide_eq_false hv] at hV
    refine Contract.intro (effS [] false) 6 follows Tryz.func4 rfl rfl (by kernel_rfl) (Nat.le_of_ble_eq_true rfl) ?_
    simp (disch := first | assumption | omega | rfl | simp only [RH]) only [↓RP, RG, FX, RQ, ↓reduceIte, Nat.reduceEqDiff, reduceCtorEq, Nat.reduceBEq, Nat.reduceAdd, Nat.reduceLeDiff, args0_3]
    refine callK_F 6 (hV) (by simp (disch := first | assumption | omega | rfl | simp only [RH]) only [↓RP, RG, FX, RQ, ↓reduceIte, Nat.reduceEqDiff, reduceCtorEq, Nat.reduceBEq, Nat.reduceAdd, Nat.reduceLeDiff, RA] <;> rfl) (.inl (by simp [allFresh, ints_fresh, bools_fresh])) ?_
    simp (disch := first | assumption | omega | rfl | simp only [RH]) only [↓RP, RG, FX, RQ, ↓reduceIte, Nat.reduceEqDiff, reduceCtorEq, Nat.reduceBEq, Nat.reduceAdd, Nat.reduceLeDiff]
    refine callK_F 6 (alive_c) (by simp (disch := first | assumption | omega | rfl | simp only [RH]) only [↓RP, RG, FX, RQ, ↓reduceIte, Nat.reduceEqDiff, reduceCtorEq, Nat.reduceBEq, Nat.reduceAdd, Nat.reduceLeDiff, RA] <;> rfl) (.inl (by simp [allFresh, ints_fresh, bools_fresh])) ?_
    simp (disch := first | assumption | omega | rfl | simp only [RH]) only [↓RP, RG, FX, RQ, ↓reduceIte, Nat.reduceEqDiff, reduceCtorEq, Nat.reduceBEq, Nat.reduceAdd, Nat.reduceLeDiff]
    rw [resVal_1 rfl]; simp (disch := first | assumption | omega | rfl | simp only [RH]) only [↓RP, RG, FX, RQ, ↓reduceIte, Nat.reduceEqDiff, reduceCtorEq, Nat.reduceBEq, Nat.reduceAdd, Nat.reduceLeDiff, RS]
  rw [decide_eq_true hv] at hV
  obtain ⟨W, H, rfl, rfl, rfl, rfl, rfl, rfl, hW0, hH0, hW8, hH8, hW, hH, n1, n2, n3⟩ := fit3_nat hv
  have hW32 : W ≤ 32 := by omega
  have hH32 : H ≤ 32 := by omega
  have hq : W * H ≤ 32 * 32 := Nat.mul_le_mul hW32 hH32
  have hq1 : 0 < W * H := Nat.mul_pos hW0 hH0
  have hq2 : 2 * W * (2 * H) ≤ 64 * 64 := Nat.mul_le_mul (by omega) (by omega)
  have hw := weaveP_c W H b1 l1 W H b2 l2 W H b3 l3
  have hwv : wv W H l1 W H l2 W H l3 = [GR ((2 * W : Nat) : Int) ((2 * H : Nat) : Int) false (tabN (2 * W) (uD W l1 l2 l3) (2 * W * (2 * H))), I 0] := by
    unfold wv
    rw [if_neg (by rw [thr_same hW0 hH0 hW hH n1 n2 n3]; omega), if_neg (by omega)]
    rfl
  rw [hwv] at hw
  have hDl := tabN_len (2 * W) (uD W l1 l2 l3) (2 * W * (2 * H))
  have hc := count_c (w := W) (h := H) b3 (l := l3) ⟨by omega, by omega, by omega, by omega, by rw [n3, Int.natCast_mul]⟩ (by omega)
  have hcl := cnt_le l3 l3.length
  have k1 := hangsP_c (n := W + H) rfl hW0 hH0 (by omega) b1 n1
  have k2 := hangsP_c (n := W + H) rfl hW0 hH0 (by omega) b2 n2
  have k3 := hangsP_c (W := 2 * W) (H := 2 * H) (n := 2 * W + 2 * H) rfl (by omega) (by omega) (by omega) false hDl
  have j1 : decide ((best W (W + H) l1 (W + H - 1)).length = W + H) = decide (Hg W (W + H) l1) := decide_eq_decide.2 (hg_best (by omega))
  have j2 : decide ((best W (W + H) l2 (W + H - 1)).length = W + H) = decide (Hg W (W + H) l2) := decide_eq_decide.2 (hg_best (by omega))
  have j3 : decide ((best (2 * W) (2 * W + 2 * H) (tabN (2 * W) (uD W l1 l2 l3) (2 * W * (2 * H))) (2 * W + 2 * H - 1)).length = 2 * W + 2 * H) = decide (Hg (2 * W) (2 * W + 2 * H) (tabN (2 * W) (uD W l1 l2 l3) (2 * W * (2 * H)))) := decide_eq_decide.2 (hg_best (by omega))
  rw [j1] at k1
  rw [j2] at k2
  rw [j3] at k3
  clear hwv j1 j2 j3
  have hlay := layersP_c (W := 2 * W) (H := 2 * H) (n := 2 * W + 2 * H) rfl (by omega) (by omega) (by omega) false hDl
  by_cases g1 : Hg W (W + H) l1
  rotate_left
  · rw [decide_eq_false g1] at k1
    obtain ⟨d2, k2⟩ : ∃ d2, Contract Tryz.prog 8 [GA W H b2 l2] (.tuple [B d2, I 0]) := ⟨_, k2⟩
    obtain ⟨d3, k3⟩ : ∃ d3, Contract Tryz.prog 8 [GA ((2 * W : Nat) : Int) ((2 * H : Nat) : Int) false (tabN (2 * W) (uD W l1 l2 l3) (2 * W * (2 * H)))] (.tuple [B d3, I 0]) := ⟨_, k3⟩
    generalize tabN (2 * W) (uD W l1 l2 l3) (2 * W * (2 * H)) = D at *
    generalize cnt l3 l3.length = cn at *
    refine Contract.intro (effS [] false) 6 follows Tryz.func4 rfl rfl (by kernel_rfl) (Nat.le_of_ble_eq_true rfl) ?_
    simp (disch := first | assumption | omega | rfl | simp only [RH]) only [↓RP, RG, FX, RQ, ↓reduceIte, Nat.reduceEqDiff, reduceCtorEq, Nat.reduceBEq, Nat.reduceAdd, Nat.reduceLeDiff, args0_3]
    refine callK_F 6 (hV) (by simp (disch := first | assumption | omega | rfl | simp only [RH]) only [↓RP, RG, FX, RQ, ↓reduceIte, Nat.reduceEqDiff, reduceCtorEq, Nat.reduceBEq, Nat.reduceAdd, Nat.reduceLeDiff, RA] <;> rfl) (.inl (by simp [allFresh, ints_fresh, bools_fresh])) ?_
    simp (disch := first | assumption | omega | rfl | simp only [RH]) only [↓RP, RG, FX, RQ, ↓reduceIte, Nat.reduceEqDiff, reduceCtorEq, Nat.reduceBEq, Nat.reduceAdd, Nat.reduceLeDiff]
    refine callK_F 6 (hw) (by simp (disch := first | assumption | omega | rfl | simp only [RH]) only [↓RP, RG, FX, RQ, ↓reduceIte, Nat.reduceEqDiff, reduceCtorEq, Nat.reduceBEq, Nat.reduceAdd, Nat.reduceLeDiff, RA] <;> rfl) (.inl (by simp [allFresh, ints_fresh, bools_fresh])) ?_
    simp (disch := first | assumption | omega | rfl | simp only [RH]) only [↓RP, RG, FX, RQ, ↓reduceIte, Nat.reduceEqDiff, reduceCtorEq, Nat.reduceBEq, Nat.reduceAdd, Nat.reduceLeDiff]
    refine callK_F 6 (k1) (by simp (disch := first | assumption | omega | rfl | simp only [RH]) only [↓RP, RG, FX, RQ, ↓reduceIte, Nat.reduceEqDiff, reduceCtorEq, Nat.reduceBEq, Nat.reduceAdd, Nat.reduceLeDiff, RA] <;> rfl) (.inl (by simp [allFresh, ints_fresh, bools_fresh])) ?_
    simp (disch := first | assumption | omega | rfl | simp only [RH]) only [↓RP, RG, FX, RQ, ↓reduceIte, Nat.reduceEqDiff, reduceCtorEq, Nat.reduceBEq, Nat.reduceAdd, Nat.reduceLeDiff]
    refine callK_F 6 (k2) (by simp (disch := first | assumption | omega | rfl | simp only [RH]) only [↓RP, RG, FX, RQ, ↓reduceIte, Nat.reduceEqDiff, reduceCtorEq, Nat.reduceBEq, Nat.reduceAdd, Nat.reduceLeDiff, RA] <;> rfl) (.inl (by simp [allFresh, ints_fresh, bools_fresh])) ?_
    simp (disch := first | assumption | omega | rfl | simp only [RH]) only [↓RP, RG, FX, RQ, ↓reduceIte, Nat.reduceEqDiff, reduceCtorEq, Nat.reduceBEq, Nat.reduceAdd, Nat.reduceLeDiff]
    refine callK_F 6 k3 (by simp (disch := first | assumption | omega | rfl | simp only [RH]) only [↓RP, RG, FX, RQ, ↓reduceIte, Nat.reduceEqDiff, reduceCtorEq, Nat.reduceBEq, Nat.reduceAdd, Nat.reduceLeDiff, RA] <;> rfl) (.inl rfl) ?_
    simp (disch := first | assumption | omega | rfl | simp only [RH]) only [↓RP, RG, FX, RQ, ↓reduceIte, Nat.reduceEqDiff, reduceCtorEq, Nat.reduceBEq, Nat.reduceAdd, Nat.reduceLeDiff]
    refine callK_F 6 (hc) (by simp (disch := first | assumption | omega | rfl | simp only [RH]) only [↓RP, RG, FX, RQ, ↓reduceIte, Nat.reduceEqDiff, reduceCtorEq, Nat.reduceBEq, Nat.reduceAdd, Nat.reduceLeDiff, RA] <;> rfl) (.inl (by simp [allFresh, ints_fresh, bools_fresh])) ?_
    simp (disch := first | assumption | omega | rfl | simp only [RH]) only [↓RP, RG, FX, RQ, ↓reduceIte, Nat.reduceEqDiff, reduceCtorEq, Nat.reduceBEq, Nat.reduceAdd, Nat.reduceLeDiff]
    refine callK_F 6 (alive_c) (by simp (disch := first | assumption | omega | rfl | simp only [RH]) only [↓RP, RG, FX, RQ, ↓reduceIte, Nat.reduceEqDiff, reduceCtorEq, Nat.reduceBEq, Nat.reduceAdd, Nat.reduceLeDiff, RA] <;> rfl) (.inl (by simp [allFresh, ints_fresh, bools_fresh])) ?_
    simp (disch := first | assumption | omega | rfl | simp only [RH]) only [↓RP, RG, FX, RQ, ↓reduceIte, Nat.reduceEqDiff, reduceCtorEq, Nat.reduceBEq, Nat.reduceAdd, Nat.reduceLeDiff]
    rw [resVal_1 rfl]; simp (disch := first | assumption | omega | rfl | simp only [RH]) only [↓RP, RG, FX, RQ, ↓reduceIte, Nat.reduceEqDiff, reduceCtorEq, Nat.reduceBEq, Nat.reduceAdd, Nat.reduceLeDiff, RS]
  by_cases g2 : Hg W (W + H) l2
  rotate_left
  · rw [decide_eq_true g1] at k1
    rw [decide_eq_false g2] at k2
    obtain ⟨d3, k3⟩ : ∃ d3, Contract Tryz.prog 8 [GA ((2 * W : Nat) : Int) ((2 * H : Nat) : Int) false (tabN (2 * W) (uD W l1 l2 l3) (2 * W * (2 * H)))] (.tuple [B d3, I 0]) := ⟨_, k3⟩
    generalize tabN (2 * W) (uD W l1 l2 l3) (2 * W * (2 * H)) = D at *
    generalize cnt l3 l3.length = cn at *
    refine Contract.intro (effS [] false) 6 follows Tryz.func4 rfl rfl (by kernel_rfl) (Nat.le_of_ble_eq_true rfl) ?_
    simp (disch := first | assumption | omega | rfl | simp only [RH]) only [↓RP, RG, FX, RQ, ↓reduceIte, Nat.reduceEqDiff, reduceCtorEq, Nat.reduceBEq, Nat.reduceAdd, Nat.reduceLeDiff, args0_3]
    refine callK_F 6 (hV) (by simp (disch := first | assumption | omega | rfl | simp only [RH]) only [↓RP, RG, FX, RQ, ↓reduceIte, Nat.reduceEqDiff, reduceCtorEq, Nat.reduceBEq, Nat.reduceAdd, Nat.reduceLeDiff, RA] <;> rfl) (.inl (by simp [allFresh, ints_fresh, bools_fresh])) ?_
    simp (disch := first | assumption | omega | rfl | simp only [RH]) only [↓RP, RG, FX, RQ, ↓reduceIte, Nat.reduceEqDiff, reduceCtorEq, Nat.reduceBEq, Nat.reduceAdd, Nat.reduceLeDiff]
    refine callK_F 6 (hw) (by simp (disch := first | assumption | omega | rfl | simp only [RH]) only [↓RP, RG, FX, RQ, ↓reduceIte, Nat.reduceEqDiff, reduceCtorEq, Nat.reduceBEq, Nat.reduceAdd, Nat.reduceLeDiff, RA] <;> rfl) (.inl (by simp [allFresh, ints_fresh, bools_fresh])) ?_
    simp (disch := first | assumption | omega | rfl | simp only [RH]) only [↓RP, RG, FX, RQ, ↓reduceIte, Nat.reduceEqDiff, reduceCtorEq, Nat.reduceBEq, Nat.reduceAdd, Nat.reduceLeDiff]
    refine callK_F 6 (k1) (by simp (disch := first | assumption | omega | rfl | simp only [RH]) only [↓RP, RG, FX, RQ, ↓reduceIte, Nat.reduceEqDiff, reduceCtorEq, Nat.reduceBEq, Nat.reduceAdd, Nat.reduceLeDiff, RA] <;> rfl) (.inl (by simp [allFresh, ints_fresh, bools_fresh])) ?_
    simp (disch := first | assumption | omega | rfl | simp only [RH]) only [↓RP, RG, FX, RQ, ↓reduceIte, Nat.reduceEqDiff, reduceCtorEq, Nat.reduceBEq, Nat.reduceAdd, Nat.reduceLeDiff]
    refine callK_F 6 (k2) (by simp (disch := first | assumption | omega | rfl | simp only [RH]) only [↓RP, RG, FX, RQ, ↓reduceIte, Nat.reduceEqDiff, reduceCtorEq, Nat.reduceBEq, Nat.reduceAdd, Nat.reduceLeDiff, RA] <;> rfl) (.inl (by simp [allFresh, ints_fresh, bools_fresh])) ?_
    simp (disch := first | assumption | omega | rfl | simp only [RH]) only [↓RP, RG, FX, RQ, ↓reduceIte, Nat.reduceEqDiff, reduceCtorEq, Nat.reduceBEq, Nat.reduceAdd, Nat.reduceLeDiff]
    refine callK_F 6 k3 (by simp (disch := first | assumption | omega | rfl | simp only [RH]) only [↓RP, RG, FX, RQ, ↓reduceIte, Nat.reduceEqDiff, reduceCtorEq, Nat.reduceBEq, Nat.reduceAdd, Nat.reduceLeDiff, RA] <;> rfl) (.inl rfl) ?_
    simp (disch := first | assumption | omega | rfl | simp only [RH]) only [↓RP, RG, FX, RQ, ↓reduceIte, Nat.reduceEqDiff, reduceCtorEq, Nat.reduceBEq, Nat.reduceAdd, Nat.reduceLeDiff]
    refine callK_F 6 (hc) (by simp (disch := first | assumption | omega | rfl | simp only [RH]) only [↓RP, RG, FX, RQ, ↓reduceIte, Nat.reduceEqDiff, reduceCtorEq, Nat.reduceBEq, Nat.reduceAdd, Nat.reduceLeDiff, RA] <;> rfl) (.inl (by simp [allFresh, ints_fresh, bools_fresh])) ?_
    simp (disch := first | assumption | omega | rfl | simp only [RH]) only [↓RP, RG, FX, RQ, ↓reduceIte, Nat.reduceEqDiff, reduceCtorEq, Nat.reduceBEq, Nat.reduceAdd, Nat.reduceLeDiff]
    refine callK_F 6 (alive_c) (by simp (disch := first | assumption | omega | rfl | simp only [RH]) only [↓RP, RG, FX, RQ, ↓reduceIte, Nat.reduceEqDiff, reduceCtorEq, Nat.reduceBEq, Nat.reduceAdd, Nat.reduceLeDiff, RA] <;> rfl) (.inl (by simp [allFresh, ints_fresh, bools_fresh])) ?_
    simp (disch := first | assumption | omega | rfl | simp only [RH]) only [↓RP, RG, FX, RQ, ↓reduceIte, Nat.reduceEqDiff, reduceCtorEq, Nat.reduceBEq, Nat.reduceAdd, Nat.reduceLeDiff]
    rw [resVal_1 rfl]; simp (disch := first | assumption | omega | rfl | simp only [RH]) only [↓RP, RG, FX, RQ, ↓reduceIte, Nat.reduceEqDiff, reduceCtorEq, Nat.reduceBEq, Nat.reduceAdd, Nat.reduceLeDiff, RS]
  rw [decide_eq_true g1] at k1
  rw [decide_eq_true g2] at k2
  have cells : ∀ (v : Bool), (∀ i, i < W * H → l3.getD i false = v) ↔ ∀ u y, u < W → y < H → cell W l3 u y = v := fun v => by
    constructor
    · intro h u y hu hy
      rw [cellD, h _ (idx_lt hu hy)]
    · intro h i hi
      have h1 : i / W < H := Nat.div_lt_of_lt_mul hi
      have := h (i % W) (i / W) (Nat.mod_lt _ hW0) h1
      rwa [cellD, Nat.div_add_mod] at this
  have q1 : cnt l3 l3.length = l3.length ↔ ∀ u y, u < W → y < H → cell W l3 u y = true := by rw [cnt_all, n3]; exact cells true
  have q0 : cnt l3 l3.length = 0 ↔ ∀ u y, u < W → y < H → cell W l3 u y = false := by rw [cnt_none, n3]; exact cells false
  by_cases cA : cnt l3 l3.length = l3.length
  · have hu := q1.1 cA
    have hng : ¬ Hg (2 * W) (2 * W + 2 * H) (tabN (2 * W) (uD W l1 l2 l3) (2 * W * (2 * H))) := fun hg => by
      obtain ⟨_, u, y, h1, h2, h3⟩ := (dbl_hangs hW0 hH0 g1 g2).1 hg
      rw [hu u y h1 h2] at h3; cases h3
    rw [decide_eq_false hng] at k3
    rw [dbl_parts (z := 0) hW0 hH0 (by omega) g1 g2 (fun u v h1 h2 => by rw [hu u v h1 h2]; rfl), dbl_YV hW0 hH0 (by omega) (by omega)] at hlay
    have ev1 := even_c W 0 (by omega) (by omega)
    have ev2 := even_c H 0 (by omega) (by omega)
    have ev3 := even_c W 1 (by omega) (by omega)
    have ev4 := even_c H 1 (by omega) (by omega)
    rw [evenL_ne hW0] at ev1 ev3
    rw [evenL_ne hH0] at ev2 ev4
    have s1 := same02_c false false (evenL 0 W) (evenL 0 W) (by rw [evenL_len]; omega)
    have s2 := same02_c false false (evenL 0 H) (evenL 0 H) (by rw [evenL_len]; omega)
    have s3 := same02_c false false (evenL 1 W) (evenL 1 W) (by rw [evenL_len]; omega)
    have s4 := same02_c false false (evenL 1 H) (evenL 1 H) (by rw [evenL_len]; omega)
    rw [decide_eq_true rfl] at s1 s2 s3 s4
    simp only [show 1 - 0 = 1 from rfl] at hlay
    have L1 := evenL_len 0 W
    have L2 := evenL_len 0 H
    have L3 := evenL_len 1 W
    have L4 := evenL_len 1 H
    generalize evenL 0 W = E1 at *
    generalize evenL 0 H = E2 at *
    generalize evenL 1 W = E3 at *
    generalize evenL 1 H = E4 at *
    generalize tabN (2 * W) (uD W l1 l2 l3) (2 * W * (2 * H)) = D at *
    generalize cnt l3 l3.length = cn at *
    refine Contract.intro (effS [] false) 6 follows Tryz.func4 rfl rfl (by kernel_rfl) (Nat.le_of_ble_eq_true rfl) ?_
    simp (disch := first | assumption | omega | rfl | simp only [RH]) only [↓RP, RG, FX, RQ, ↓reduceIte, Nat.reduceEqDiff, reduceCtorEq, Nat.reduceBEq, Nat.reduceAdd, Nat.reduceLeDiff, args0_3]
    refine callK_F 6 (hV) (by simp (disch := first | assumption | omega | rfl | simp only [RH]) only [↓RP, RG, FX, RQ, ↓reduceIte, Nat.reduceEqDiff, reduceCtorEq, Nat.reduceBEq, Nat.reduceAdd, Nat.reduceLeDiff, RA] <;> rfl) (.inl (by simp [allFresh, ints_fresh, bools_fresh])) ?_
    simp (disch := first | assumption | omega | rfl | simp only [RH]) only [↓RP, RG, FX, RQ, ↓reduceIte, Nat.reduceEqDiff, reduceCtorEq, Nat.reduceBEq, Nat.reduceAdd, Nat.reduceLeDiff]
    refine callK_F 6 (hw) (by simp (disch := first | assumption | omega | rfl | simp only [RH]) only [↓RP, RG, FX, RQ, ↓reduceIte, Nat.reduceEqDiff, reduceCtorEq, Nat.reduceBEq, Nat.reduceAdd, Nat.reduceLeDiff, RA] <;> rfl) (.inl (by simp [allFresh, ints_fresh, bools_fresh])) ?_
    simp (disch := first | assumption | omega | rfl | simp only [RH]) only [↓RP, RG, FX, RQ, ↓reduceIte, Nat.reduceEqDiff, reduceCtorEq, Nat.reduceBEq, Nat.reduceAdd, Nat.reduceLeDiff]
    refine callK_F 6 (k1) (by simp (disch := first | assumption | omega | rfl | simp only [RH]) only [↓RP, RG, FX, RQ, ↓reduceIte, Nat.reduceEqDiff, reduceCtorEq, Nat.reduceBEq, Nat.reduceAdd, Nat.reduceLeDiff, RA] <;> rfl) (.inl (by simp [allFresh, ints_fresh, bools_fresh])) ?_
    simp (disch := first | assumption | omega | rfl | simp only [RH]) only [↓RP, RG, FX, RQ, ↓reduceIte, Nat.reduceEqDiff, reduceCtorEq, Nat.reduceBEq, Nat.reduceAdd, Nat.reduceLeDiff]
    refine callK_F 6 (k2) (by simp (disch := first | assumption | omega | rfl | simp only [RH]) only [↓RP, RG, FX, RQ, ↓reduceIte, Nat.reduceEqDiff, reduceCtorEq, Nat.reduceBEq, Nat.reduceAdd, Nat.reduceLeDiff, RA] <;> rfl) (.inl (by simp [allFresh, ints_fresh, bools_fresh])) ?_
    simp (disch := first | assumption | omega | rfl | simp only [RH]) only [↓RP, RG, FX, RQ, ↓reduceIte, Nat.reduceEqDiff, reduceCtorEq, Nat.reduceBEq, Nat.reduceAdd, Nat.reduceLeDiff]
    refine callK_F 6 k3 (by simp (disch := first | assumption | omega | rfl | simp only [RH]) only [↓RP, RG, FX, RQ, ↓reduceIte, Nat.reduceEqDiff, reduceCtorEq, Nat.reduceBEq, Nat.reduceAdd, Nat.reduceLeDiff, RA] <;> rfl) (.inl rfl) ?_
    simp (disch := first | assumption | omega | rfl | simp only [RH]) only [↓RP, RG, FX, RQ, ↓reduceIte, Nat.reduceEqDiff, reduceCtorEq, Nat.reduceBEq, Nat.reduceAdd, Nat.reduceLeDiff]
    refine callK_F 6 (hc) (by simp (disch := first | assumption | omega | rfl | simp only [RH]) only [↓RP, RG, FX, RQ, ↓reduceIte, Nat.reduceEqDiff, reduceCtorEq, Nat.reduceBEq, Nat.reduceAdd, Nat.reduceLeDiff, RA] <;> rfl) (.inl (by simp [allFresh, ints_fresh, bools_fresh])) ?_
    simp (disch := first | assumption | omega | rfl | simp only [RH]) only [↓RP, RG, FX, RQ, ↓reduceIte, Nat.reduceEqDiff, reduceCtorEq, Nat.reduceBEq, Nat.reduceAdd, Nat.reduceLeDiff, bne_self_eq_false, beq_self_eq_true, Bool.not_true]
    have d0 : List.drop (Int.toNat 0 * 2) ([LR false E1, LR false E2, LR false E3, LR false E4] : List AVal) = [LR false E1, LR false E2, LR false E3, LR false E4] := rfl
    have d1 : List.drop (Int.toNat 1 * 2) ([LR false E1, LR false E2, LR false E3, LR false E4] : List AVal) = [LR false E3, LR false E4] := rfl
    refine callK_F 6 hlay (by simp (disch := first | assumption | omega | rfl | simp only [RH]) only [↓RP, RG, FX, RQ, ↓reduceIte, Nat.reduceEqDiff, reduceCtorEq, Nat.reduceBEq, Nat.reduceAdd, Nat.reduceLeDiff, RA] <;> rfl) (.inl (by simp [allFresh, ints_fresh])) ?_
    simp (disch := first | assumption | omega | rfl | simp only [RH]) only [↓RP, RG, FX, RQ, ↓reduceIte, Nat.reduceEqDiff, reduceCtorEq, Nat.reduceBEq, Nat.reduceAdd, Nat.reduceLeDiff, d0, d1, List.getElem?_cons_zero, List.drop_succ_cons, List.drop_zero]
    refine callK_F 6 ev1 (by simp (disch := first | assumption | omega | rfl | simp only [RH]) only [↓RP, RG, FX, RQ, ↓reduceIte, Nat.reduceEqDiff, reduceCtorEq, Nat.reduceBEq, Nat.reduceAdd, Nat.reduceLeDiff, RA] <;> rfl) (.inl (by simp [allFresh, ints_fresh])) ?_
    simp (disch := first | assumption | omega | rfl | simp only [RH]) only [↓RP, RG, FX, RQ, ↓reduceIte, Nat.reduceEqDiff, reduceCtorEq, Nat.reduceBEq, Nat.reduceAdd, Nat.reduceLeDiff, d0, d1, List.getElem?_cons_zero, List.drop_succ_cons, List.drop_zero]
    refine callK_F 6 s1 (by simp (disch := first | assumption | omega | rfl | simp only [RH]) only [↓RP, RG, FX, RQ, ↓reduceIte, Nat.reduceEqDiff, reduceCtorEq, Nat.reduceBEq, Nat.reduceAdd, Nat.reduceLeDiff, RA] <;> rfl) (.inl rfl) ?_
    simp (disch := first | assumption | omega | rfl | simp only [RH]) only [↓RP, RG, FX, RQ, ↓reduceIte, Nat.reduceEqDiff, reduceCtorEq, Nat.reduceBEq, Nat.reduceAdd, Nat.reduceLeDiff, d0, d1, List.getElem?_cons_zero, List.drop_succ_cons, List.drop_zero]
    refine callK_F 6 ev2 (by simp (disch := first | assumption | omega | rfl | simp only [RH]) only [↓RP, RG, FX, RQ, ↓reduceIte, Nat.reduceEqDiff, reduceCtorEq, Nat.reduceBEq, Nat.reduceAdd, Nat.reduceLeDiff, RA] <;> rfl) (.inl (by simp [allFresh, ints_fresh])) ?_
    simp (disch := first | assumption | omega | rfl | simp only [RH]) only [↓RP, RG, FX, RQ, ↓reduceIte, Nat.reduceEqDiff, reduceCtorEq, Nat.reduceBEq, Nat.reduceAdd, Nat.reduceLeDiff, d0, d1, List.getElem?_cons_zero, List.drop_succ_cons, List.drop_zero]
    refine callK_F 6 s2 (by simp (disch := first | assumption | omega | rfl | simp only [RH]) only [↓RP, RG, FX, RQ, ↓reduceIte, Nat.reduceEqDiff, reduceCtorEq, Nat.reduceBEq, Nat.reduceAdd, Nat.reduceLeDiff, RA] <;> rfl) (.inl rfl) ?_
    simp (disch := first | assumption | omega | rfl | simp only [RH]) only [↓RP, RG, FX, RQ, ↓reduceIte, Nat.reduceEqDiff, reduceCtorEq, Nat.reduceBEq, Nat.reduceAdd, Nat.reduceLeDiff, d0, d1, List.getElem?_cons_zero, List.drop_succ_cons, List.drop_zero]
    refine callK_F 6 ev3 (by simp (disch := first | assumption | omega | rfl | simp only [RH]) only [↓RP, RG, FX, RQ, ↓reduceIte, Nat.reduceEqDiff, reduceCtorEq, Nat.reduceBEq, Nat.reduceAdd, Nat.reduceLeDiff, RA] <;> rfl) (.inl (by simp [allFresh, ints_fresh])) ?_
    simp (disch := first | assumption | omega | rfl | simp only [RH]) only [↓RP, RG, FX, RQ, ↓reduceIte, Nat.reduceEqDiff, reduceCtorEq, Nat.reduceBEq, Nat.reduceAdd, Nat.reduceLeDiff, d0, d1, List.getElem?_cons_zero, List.drop_succ_cons, List.drop_zero]
    refine callK_F 6 s3 (by simp (disch := first | assumption | omega | rfl | simp only [RH]) only [↓RP, RG, FX, RQ, ↓reduceIte, Nat.reduceEqDiff, reduceCtorEq, Nat.reduceBEq, Nat.reduceAdd, Nat.reduceLeDiff, RA] <;> rfl) (.inl rfl) ?_
    simp (disch := first | assumption | omega | rfl | simp only [RH]) only [↓RP, RG, FX, RQ, ↓reduceIte, Nat.reduceEqDiff, reduceCtorEq, Nat.reduceBEq, Nat.reduceAdd, Nat.reduceLeDiff, d0, d1, List.getElem?_cons_zero, List.drop_succ_cons, List.drop_zero]
    refine callK_F 6 ev4 (by simp (disch := first | assumption | omega | rfl | simp only [RH]) only [↓RP, RG, FX, RQ, ↓reduceIte, Nat.reduceEqDiff, reduceCtorEq, Nat.reduceBEq, Nat.reduceAdd, Nat.reduceLeDiff, RA] <;> rfl) (.inl (by simp [allFresh, ints_fresh])) ?_
    simp (disch := first | assumption | omega | rfl | simp only [RH]) only [↓RP, RG, FX, RQ, ↓reduceIte, Nat.reduceEqDiff, reduceCtorEq, Nat.reduceBEq, Nat.reduceAdd, Nat.reduceLeDiff, d0, d1, List.getElem?_cons_zero, List.drop_succ_cons, List.drop_zero]
    refine callK_F 6 s4 (by simp (disch := first | assumption | omega | rfl | simp only [RH]) only [↓RP, RG, FX, RQ, ↓reduceIte, Nat.reduceEqDiff, reduceCtorEq, Nat.reduceBEq, Nat.reduceAdd, Nat.reduceLeDiff, RA] <;> rfl) (.inl rfl) ?_
    simp (disch := first | assumption | omega | rfl | simp only [RH]) only [↓RP, RG, FX, RQ, ↓reduceIte, Nat.reduceEqDiff, reduceCtorEq, Nat.reduceBEq, Nat.reduceAdd, Nat.reduceLeDiff, d0, d1, List.getElem?_cons_zero, List.drop_succ_cons, List.drop_zero]
    refine callK_F 6 (alive_c) (by simp (disch := first | assumption | omega | rfl | simp only [RH]) only [↓RP, RG, FX, RQ, ↓reduceIte, Nat.reduceEqDiff, reduceCtorEq, Nat.reduceBEq, Nat.reduceAdd, Nat.reduceLeDiff, RA] <;> rfl) (.inl (by simp [allFresh, ints_fresh, bools_fresh])) ?_
    simp (disch := first | assumption | omega | rfl | simp only [RH]) only [↓RP, RG, FX, RQ, ↓reduceIte, Nat.reduceEqDiff, reduceCtorEq, Nat.reduceBEq, Nat.reduceAdd, Nat.reduceLeDiff]
    rw [resVal_1 rfl]; simp (disch := first | assumption | omega | rfl | simp only [RH]) only [↓RP, RG, FX, RQ, ↓reduceIte, Nat.reduceEqDiff, reduceCtorEq, Nat.reduceBEq, Nat.reduceAdd, Nat.reduceLeDiff, RS]
  by_cases cN : cnt l3 l3.length = 0
  · have hu := q0.1 cN
    have hng : ¬ Hg (2 * W) (2 * W + 2 * H) (tabN (2 * W) (uD W l1 l2 l3) (2 * W * (2 * H))) := fun hg => by
      obtain ⟨⟨u, y, h1, h2, h3⟩, _⟩ := (dbl_hangs hW0 hH0 g1 g2).1 hg
      rw [hu u y h1 h2] at h3; cases h3
    rw [decide_eq_false hng] at k3
    rw [dbl_parts (z := 1) hW0 hH0 (by omega) g1 g2 (fun u v h1 h2 => by rw [hu u v h1 h2]; rfl), dbl_YV hW0 hH0 (by omega) (by omega)] at hlay
    have ev1 := even_c W 0 (by omega) (by omega)
    have ev2 := even_c H 0 (by omega) (by omega)
    have ev3 := even_c W 1 (by omega) (by omega)
    have ev4 := even_c H 1 (by omega) (by omega)
    rw [evenL_ne hW0] at ev1 ev3
    rw [evenL_ne hH0] at ev2 ev4
    have s1 := same02_c false false (evenL 0 W) (evenL 0 W) (by rw [evenL_len]; omega)
    have s2 := same02_c false false (evenL 0 H) (evenL 0 H) (by rw [evenL_len]; omega)
    have s3 := same02_c false false (evenL 1 W) (evenL 1 W) (by rw [evenL_len]; omega)
    have s4 := same02_c false false (evenL 1 H) (evenL 1 H) (by rw [evenL_len]; omega)
    rw [decide_eq_true rfl] at s1 s2 s3 s4
    simp only [show 1 - 1 = 0 from rfl] at hlay
    have L1 := evenL_len 0 W
    have L2 := evenL_len 0 H
    have L3 := evenL_len 1 W
    have L4 := evenL_len 1 H
    generalize evenL 0 W = E1 at *
    generalize evenL 0 H = E2 at *
    generalize evenL 1 W = E3 at *
    generalize evenL 1 H = E4 at *
    generalize tabN (2 * W) (uD W l1 l2 l3) (2 * W * (2 * H)) = D at *
    generalize cnt l3 l3.length = cn at *
    refine Contract.intro (effS [] false) 6 follows Tryz.func4 rfl rfl (by kernel_rfl) (Nat.le_of_ble_eq_true rfl) ?_
    simp (disch := first | assumption | omega | rfl | simp only [RH]) only [↓RP, RG, FX, RQ, ↓reduceIte, Nat.reduceEqDiff, reduceCtorEq, Nat.reduceBEq, Nat.reduceAdd, Nat.reduceLeDiff, args0_3]
    refine callK_F 6 (hV) (by simp (disch := first | assumption | omega | rfl | simp only [RH]) only [↓RP, RG, FX, RQ, ↓reduceIte, Nat.reduceEqDiff, reduceCtorEq, Nat.reduceBEq, Nat.reduceAdd, Nat.reduceLeDiff, RA] <;> rfl) (.inl (by simp [allFresh, ints_fresh, bools_fresh])) ?_
    simp (disch := first | assumption | omega | rfl | simp only [RH]) only [↓RP, RG, FX, RQ, ↓reduceIte, Nat.reduceEqDiff, reduceCtorEq, Nat.reduceBEq, Nat.reduceAdd, Nat.reduceLeDiff]
    refine callK_F 6 (hw) (by simp (disch := first | assumption | omega | rfl | simp only [RH]) only [↓RP, RG, FX, RQ, ↓reduceIte, Nat.reduceEqDiff, reduceCtorEq, Nat.reduceBEq, Nat.reduceAdd, Nat.reduceLeDiff, RA] <;> rfl) (.inl (by simp [allFresh, ints_fresh, bools_fresh])) ?_
    simp (disch := first | assumption | omega | rfl | simp only [RH]) only [↓RP, RG, FX, RQ, ↓reduceIte, Nat.reduceEqDiff, reduceCtorEq, Nat.reduceBEq, Nat.reduceAdd, Nat.reduceLeDiff]
    refine callK_F 6 (k1) (by simp (disch := first | assumption | omega | rfl | simp only [RH]) only [↓RP, RG, FX, RQ, ↓reduceIte, Nat.reduceEqDiff, reduceCtorEq, Nat.reduceBEq, Nat.reduceAdd, Nat.reduceLeDiff, RA] <;> rfl) (.inl (by simp [allFresh, ints_fresh, bools_fresh])) ?_
    simp (disch := first | assumption | omega | rfl | simp only [RH]) only [↓RP, RG, FX, RQ, ↓reduceIte, Nat.reduceEqDiff, reduceCtorEq, Nat.reduceBEq, Nat.reduceAdd, Nat.reduceLeDiff]
    refine callK_F 6 (k2) (by simp (disch := first | assumption | omega | rfl | simp only [RH]) only [↓RP, RG, FX, RQ, ↓reduceIte, Nat.reduceEqDiff, reduceCtorEq, Nat.reduceBEq, Nat.reduceAdd, Nat.reduceLeDiff, RA] <;> rfl) (.inl (by simp [allFresh, ints_fresh, bools_fresh])) ?_
    simp (disch := first | assumption | omega | rfl | simp only [RH]) only [↓RP, RG, FX, RQ, ↓reduceIte, Nat.reduceEqDiff, reduceCtorEq, Nat.reduceBEq, Nat.reduceAdd, Nat.reduceLeDiff]
    refine callK_F 6 k3 (by simp (disch := first | assumption | omega | rfl | simp only [RH]) only [↓RP, RG, FX, RQ, ↓reduceIte, Nat.reduceEqDiff, reduceCtorEq, Nat.reduceBEq, Nat.reduceAdd, Nat.reduceLeDiff, RA] <;> rfl) (.inl rfl) ?_
    simp (disch := first | assumption | omega | rfl | simp only [RH]) only [↓RP, RG, FX, RQ, ↓reduceIte, Nat.reduceEqDiff, reduceCtorEq, Nat.reduceBEq, Nat.reduceAdd, Nat.reduceLeDiff]
    refine callK_F 6 (hc) (by simp (disch := first | assumption | omega | rfl | simp only [RH]) only [↓RP, RG, FX, RQ, ↓reduceIte, Nat.reduceEqDiff, reduceCtorEq, Nat.reduceBEq, Nat.reduceAdd, Nat.reduceLeDiff, RA] <;> rfl) (.inl (by simp [allFresh, ints_fresh, bools_fresh])) ?_
    simp (disch := first | assumption | omega | rfl | simp only [RH]) only [↓RP, RG, FX, RQ, ↓reduceIte, Nat.reduceEqDiff, reduceCtorEq, Nat.reduceBEq, Nat.reduceAdd, Nat.reduceLeDiff, bne_self_eq_false, beq_self_eq_true, Bool.not_true]
    have d0 : List.drop (Int.toNat 0 * 2) ([LR false E3, LR false E4, LR false E1, LR false E2] : List AVal) = [LR false E3, LR false E4, LR false E1, LR false E2] := rfl
    have d1 : List.drop (Int.toNat 1 * 2) ([LR false E3, LR false E4, LR false E1, LR false E2] : List AVal) = [LR false E1, LR false E2] := rfl
    refine callK_F 6 hlay (by simp (disch := first | assumption | omega | rfl | simp only [RH]) only [↓RP, RG, FX, RQ, ↓reduceIte, Nat.reduceEqDiff, reduceCtorEq, Nat.reduceBEq, Nat.reduceAdd, Nat.reduceLeDiff, RA] <;> rfl) (.inl (by simp [allFresh, ints_fresh])) ?_
    simp (disch := first | assumption | omega | rfl | simp only [RH]) only [↓RP, RG, FX, RQ, ↓reduceIte, Nat.reduceEqDiff, reduceCtorEq, Nat.reduceBEq, Nat.reduceAdd, Nat.reduceLeDiff, d0, d1, List.getElem?_cons_zero, List.drop_succ_cons, List.drop_zero]
    refine callK_F 6 ev3 (by simp (disch := first | assumption | omega | rfl | simp only [RH]) only [↓RP, RG, FX, RQ, ↓reduceIte, Nat.reduceEqDiff, reduceCtorEq, Nat.reduceBEq, Nat.reduceAdd, Nat.reduceLeDiff, RA] <;> rfl) (.inl (by simp [allFresh, ints_fresh])) ?_
    simp (disch := first | assumption | omega | rfl | simp only [RH]) only [↓RP, RG, FX, RQ, ↓reduceIte, Nat.reduceEqDiff, reduceCtorEq, Nat.reduceBEq, Nat.reduceAdd, Nat.reduceLeDiff, d0, d1, List.getElem?_cons_zero, List.drop_succ_cons, List.drop_zero]
    refine callK_F 6 s3 (by simp (disch := first | assumption | omega | rfl | simp only [RH]) only [↓RP, RG, FX, RQ, ↓reduceIte, Nat.reduceEqDiff, reduceCtorEq, Nat.reduceBEq, Nat.reduceAdd, Nat.reduceLeDiff, RA] <;> rfl) (.inl rfl) ?_
    simp (disch := first | assumption | omega | rfl | simp only [RH]) only [↓RP, RG, FX, RQ, ↓reduceIte, Nat.reduceEqDiff, reduceCtorEq, Nat.reduceBEq, Nat.reduceAdd, Nat.reduceLeDiff, d0, d1, List.getElem?_cons_zero, List.drop_succ_cons, List.drop_zero]
    refine callK_F 6 ev4 (by simp (disch := first | assumption | omega | rfl | simp only [RH]) only [↓RP, RG, FX, RQ, ↓reduceIte, Nat.reduceEqDiff, reduceCtorEq, Nat.reduceBEq, Nat.reduceAdd, Nat.reduceLeDiff, RA] <;> rfl) (.inl (by simp [allFresh, ints_fresh])) ?_
    simp (disch := first | assumption | omega | rfl | simp only [RH]) only [↓RP, RG, FX, RQ, ↓reduceIte, Nat.reduceEqDiff, reduceCtorEq, Nat.reduceBEq, Nat.reduceAdd, Nat.reduceLeDiff, d0, d1, List.getElem?_cons_zero, List.drop_succ_cons, List.drop_zero]
    refine callK_F 6 s4 (by simp (disch := first | assumption | omega | rfl | simp only [RH]) only [↓RP, RG, FX, RQ, ↓reduceIte, Nat.reduceEqDiff, reduceCtorEq, Nat.reduceBEq, Nat.reduceAdd, Nat.reduceLeDiff, RA] <;> rfl) (.inl rfl) ?_
    simp (disch := first | assumption | omega | rfl | simp only [RH]) only [↓RP, RG, FX, RQ, ↓reduceIte, Nat.reduceEqDiff, reduceCtorEq, Nat.reduceBEq, Nat.reduceAdd, Nat.reduceLeDiff, d0, d1, List.getElem?_cons_zero, List.drop_succ_cons, List.drop_zero]
    refine callK_F 6 ev1 (by simp (disch := first | assumption | omega | rfl | simp only [RH]) only [↓RP, RG, FX, RQ, ↓reduceIte, Nat.reduceEqDiff, reduceCtorEq, Nat.reduceBEq, Nat.reduceAdd, Nat.reduceLeDiff, RA] <;> rfl) (.inl (by simp [allFresh, ints_fresh])) ?_
    simp (disch := first | assumption | omega | rfl | simp only [RH]) only [↓RP, RG, FX, RQ, ↓reduceIte, Nat.reduceEqDiff, reduceCtorEq, Nat.reduceBEq, Nat.reduceAdd, Nat.reduceLeDiff, d0, d1, List.getElem?_cons_zero, List.drop_succ_cons, List.drop_zero]
    refine callK_F 6 s1 (by simp (disch := first | assumption | omega | rfl | simp only [RH]) only [↓RP, RG, FX, RQ, ↓reduceIte, Nat.reduceEqDiff, reduceCtorEq, Nat.reduceBEq, Nat.reduceAdd, Nat.reduceLeDiff, RA] <;> rfl) (.inl rfl) ?_
    simp (disch := first | assumption | omega | rfl | simp only [RH]) only [↓RP, RG, FX, RQ, ↓reduceIte, Nat.reduceEqDiff, reduceCtorEq, Nat.reduceBEq, Nat.reduceAdd, Nat.reduceLeDiff, d0, d1, List.getElem?_cons_zero, List.drop_succ_cons, List.drop_zero]
    refine callK_F 6 ev2 (by simp (disch := first | assumption | omega | rfl | simp only [RH]) only [↓RP, RG, FX, RQ, ↓reduceIte, Nat.reduceEqDiff, reduceCtorEq, Nat.reduceBEq, Nat.reduceAdd, Nat.reduceLeDiff, RA] <;> rfl) (.inl (by simp [allFresh, ints_fresh])) ?_
    simp (disch := first | assumption | omega | rfl | simp only [RH]) only [↓RP, RG, FX, RQ, ↓reduceIte, Nat.reduceEqDiff, reduceCtorEq, Nat.reduceBEq, Nat.reduceAdd, Nat.reduceLeDiff, d0, d1, List.getElem?_cons_zero, List.drop_succ_cons, List.drop_zero]
    refine callK_F 6 s2 (by simp (disch := first | assumption | omega | rfl | simp only [RH]) only [↓RP, RG, FX, RQ, ↓reduceIte, Nat.reduceEqDiff, reduceCtorEq, Nat.reduceBEq, Nat.reduceAdd, Nat.reduceLeDiff, RA] <;> rfl) (.inl rfl) ?_
    simp (disch := first | assumption | omega | rfl | simp only [RH]) only [↓RP, RG, FX, RQ, ↓reduceIte, Nat.reduceEqDiff, reduceCtorEq, Nat.reduceBEq, Nat.reduceAdd, Nat.reduceLeDiff, d0, d1, List.getElem?_cons_zero, List.drop_succ_cons, List.drop_zero]
    refine callK_F 6 (alive_c) (by simp (disch := first | assumption | omega | rfl | simp only [RH]) only [↓RP, RG, FX, RQ, ↓reduceIte, Nat.reduceEqDiff, reduceCtorEq, Nat.reduceBEq, Nat.reduceAdd, Nat.reduceLeDiff, RA] <;> rfl) (.inl (by simp [allFresh, ints_fresh, bools_fresh])) ?_
    simp (disch := first | assumption | omega | rfl | simp only [RH]) only [↓RP, RG, FX, RQ, ↓reduceIte, Nat.reduceEqDiff, reduceCtorEq, Nat.reduceBEq, Nat.reduceAdd, Nat.reduceLeDiff]
    rw [resVal_1 rfl]; simp (disch := first | assumption | omega | rfl | simp only [RH]) only [↓RP, RG, FX, RQ, ↓reduceIte, Nat.reduceEqDiff, reduceCtorEq, Nat.reduceBEq, Nat.reduceAdd, Nat.reduceLeDiff, RS]
  have hy : Hg (2 * W) (2 * W + 2 * H) (tabN (2 * W) (uD W l1 l2 l3) (2 * W * (2 * H))) := by
    refine (dbl_hangs hW0 hH0 g1 g2).2 ⟨Classical.byContradiction fun hno => cN (q0.2 fun u y hu hy => ?_), Classical.byContradiction fun hno => cA (q1.2 fun u y hu hy => ?_)⟩
    · cases hc : cell W l3 u y with
      | false => rfl
      | true => exact absurd ⟨u, y, hu, hy, hc⟩ hno
    · cases hc : cell W l3 u y with
      | true => rfl
      | false => exact absurd ⟨u, y, hu, hy, hc⟩ hno
  rw [decide_eq_true hy] at k3
  generalize tabN (2 * W) (uD W l1 l2 l3) (2 * W * (2 * H)) = D at *
  generalize cnt l3 l3.length = cn at *
  refine Contract.intro (effS [] false) 6 follows Tryz.func4 rfl rfl (by kernel_rfl) (Nat.le_of_ble_eq_true rfl) ?_
  simp (disch := first | assumption | omega | rfl | simp only [RH]) only [↓RP, RG, FX, RQ, ↓reduceIte, Nat.reduceEqDiff, reduceCtorEq, Nat.reduceBEq, Nat.reduceAdd, Nat.reduceLeDiff, args0_3]
  refine callK_F 6 (hV) (by simp (disch := first | assumption | omega | rfl | simp only [RH]) only [↓RP, RG, FX, RQ, ↓reduceIte, Nat.reduceEqDiff, reduceCtorEq, Nat.reduceBEq, Nat.reduceAdd, Nat.reduceLeDiff, RA] <;> rfl) (.inl (by simp [allFresh, ints_fresh, bools_fresh])) ?_
  simp (disch := first | assumption | omega | rfl | simp only [RH]) only [↓RP, RG, FX, RQ, ↓reduceIte, Nat.reduceEqDiff, reduceCtorEq, Nat.reduceBEq, Nat.reduceAdd, Nat.reduceLeDiff]
  refine callK_F 6 (hw) (by simp (disch := first | assumption | omega | rfl | simp only [RH]) only [↓RP, RG, FX, RQ, ↓reduceIte, Nat.reduceEqDiff, reduceCtorEq, Nat.reduceBEq, Nat.reduceAdd, Nat.reduceLeDiff, RA] <;> rfl) (.inl (by simp [allFresh, ints_fresh, bools_fresh])) ?_
  simp (disch := first | assumption | omega | rfl | simp only [RH]) only [↓RP, RG, FX, RQ, ↓reduceIte, Nat.reduceEqDiff, reduceCtorEq, Nat.reduceBEq, Nat.reduceAdd, Nat.reduceLeDiff]
  refine callK_F 6 (k1) (by simp (disch := first | assumption | omega | rfl | simp only [RH]) only [↓RP, RG, FX, RQ, ↓reduceIte, Nat.reduceEqDiff, reduceCtorEq, Nat.reduceBEq, Nat.reduceAdd, Nat.reduceLeDiff, RA] <;> rfl) (.inl (by simp [allFresh, ints_fresh, bools_fresh])) ?_
  simp (disch := first | assumption | omega | rfl | simp only [RH]) only [↓RP, RG, FX, RQ, ↓reduceIte, Nat.reduceEqDiff, reduceCtorEq, Nat.reduceBEq, Nat.reduceAdd, Nat.reduceLeDiff]
  refine callK_F 6 (k2) (by simp (disch := first | assumption | omega | rfl | simp only [RH]) only [↓RP, RG, FX, RQ, ↓reduceIte, Nat.reduceEqDiff, reduceCtorEq, Nat.reduceBEq, Nat.reduceAdd, Nat.reduceLeDiff, RA] <;> rfl) (.inl (by simp [allFresh, ints_fresh, bools_fresh])) ?_
  simp (disch := first | assumption | omega | rfl | simp only [RH]) only [↓RP, RG, FX, RQ, ↓reduceIte, Nat.reduceEqDiff, reduceCtorEq, Nat.reduceBEq, Nat.reduceAdd, Nat.reduceLeDiff]
  refine callK_F 6 k3 (by simp (disch := first | assumption | omega | rfl | simp only [RH]) only [↓RP, RG, FX, RQ, ↓reduceIte, Nat.reduceEqDiff, reduceCtorEq, Nat.reduceBEq, Nat.reduceAdd, Nat.reduceLeDiff, RA] <;> rfl) (.inl rfl) ?_
  simp (disch := first | assumption | omega | rfl | simp only [RH]) only [↓RP, RG, FX, RQ, ↓reduceIte, Nat.reduceEqDiff, reduceCtorEq, Nat.reduceBEq, Nat.reduceAdd, Nat.reduceLeDiff]
  refine callK_F 6 (hc) (by simp (disch := first | assumption | omega | rfl | simp only [RH]) only [↓RP, RG, FX, RQ, ↓reduceIte, Nat.reduceEqDiff, reduceCtorEq, Nat.reduceBEq, Nat.reduceAdd, Nat.reduceLeDiff, RA] <;> rfl) (.inl (by simp [allFresh, ints_fresh, bools_fresh])) ?_
  simp (disch := first | assumption | omega | rfl | simp only [RH]) only [↓RP, RG, FX, RQ, ↓reduceIte, Nat.reduceEqDiff, reduceCtorEq, Nat.reduceBEq, Nat.reduceAdd, Nat.reduceLeDiff, bne_self_eq_false, beq_self_eq_true, Bool.not_true]
  refine callK_F 6 (alive_c) (by simp (disch := first | assumption | omega | rfl | simp only [RH]) only [↓RP, RG, FX, RQ, ↓reduceIte, Nat.reduceEqDiff, reduceCtorEq, Nat.reduceBEq, Nat.reduceAdd, Nat.reduceLeDiff, RA] <;> rfl) (.inl (by simp [allFresh, ints_fresh, bools_fresh])) ?_
  simp (disch := first | assumption | omega | rfl | simp only [RH]) only [↓RP, RG, FX, RQ, ↓reduceIte, Nat.reduceEqDiff, reduceCtorEq, Nat.reduceBEq, Nat.reduceAdd, Nat.reduceLeDiff]
  rw [resVal_1 rfl]; simp (disch := first | assumption | omega | rfl | simp only [RH]) only [↓RP, RG, FX, RQ, ↓reduceIte, Nat.reduceEqDiff, reduceCtorEq, Nat.reduceBEq, Nat.reduceAdd, Nat.reduceLeDiff, RS]
end Go.Proofs.YtdbpkjanlafajaaGreatDoor
