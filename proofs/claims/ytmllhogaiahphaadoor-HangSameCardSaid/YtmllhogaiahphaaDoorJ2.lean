/- Part 2 of the proof's own texts: the contracts of functions, and what they rest on. -/
import Derived.Test.YtmllhogaiahphaaDoorJ1
/- The least draft of a valid grid, by both. -/
set_option linter.unusedSimpArgs false
set_option linter.unusedVariables false
set_option maxRecDepth 100000
namespace Go.Proofs.YtmllhogaiahphaaDoor
open Go Go.Proofs Go.AW

/-- The tie-up of the least draft. -/
def uF (W : Nat) (l : List Bool) (es ps : List Nat) (t s : Nat) : Bool := l.getD (W * ps.getD t 0 + es.getD s 0) false
theorem fC_lt (W H : Nat) (l : List Bool) : ∀ j, j < (fC W H l).length → (fC W H l).getD j 0 < W := fun j hj =>
  knd_first _ _ _ (by rw [List.getD_eq_getElem?_getD, List.getElem?_eq_getElem hj]; exact List.getElem_mem hj)
theorem fR_lt (W H : Nat) (l : List Bool) : ∀ j, j < (fR W H l).length → (fR W H l).getD j 0 < H := fun j hj =>
  knd_first _ _ _ (by rw [List.getD_eq_getElem?_getD, List.getElem?_eq_getElem hj]; exact List.getElem_mem hj)
theorem fC_le (W H : Nat) (l : List Bool) : (fC W H l).length ≤ W := knd_le _ _
theorem fR_le (W H : Nat) (l : List Bool) : (fR W H l).length ≤ H := knd_le _ _
section
variable {W H : Nat} (hW1 : 1 ≤ W) (hW : W ≤ 64) (hH1 : 1 ≤ H) (hH : H ≤ 64) (b : Bool) {l : List Bool} (hn : l.length = W * H)
include hW1 hW hH1 hH hn
theorem ofP_c (c1 : (fC W H l).length ≤ 40) (c2 : (fR W H l).length ≤ 40) : Contract Tryd.prog 12 [GA W H b l]
    (.tuple [DR (fC W H l).length (fR W H l).length (nI (kC W H l)).isEmpty (nI (kC W H l)) (nI (kR W H l)).isEmpty (nI (kR W H l)) (fR W H l).length (fC W H l).length (tabN (fR W H l).length (uF W l (fC W H l) (fR W H l)) ((fR W H l).length * (fC W H l).length)).isEmpty (tabN (fR W H l).length (uF W l (fC W H l) (fR W H l)) ((fR W H l).length * (fC W H l).length)), I 0]) := by
  have h1 := both_c hW1 hW hH1 hH b hn
  have n1 := nI_len (fC W H l)
  have n2 := nI_len (fR W H l)
  have hCl := fC_lt W H l
  have hRl := fR_lt W H l
  generalize kC W H l = a1 at *
  generalize fC W H l = a2 at *
  generalize kR W H l = a3 at *
  generalize fR W H l = a4 at *
  refine Contract.intro (effS [] false) 6 follows Tryd.func12 rfl rfl (by kernel_rfl) (Nat.le_of_ble_eq_true rfl) ?_
  simp (disch := first | assumption | omega | rfl | simp only [RH]) only [↓RP, RG, FX, RQ, ↓reduceIte, Nat.reduceEqDiff, reduceCtorEq, Nat.reduceBEq, Nat.reduceAdd, Nat.reduceLeDiff, args0_1]
  refine callK_F 6 h1 (by simp (disch := first | assumption | omega | rfl | simp only [RH]) only [↓RP, RG, FX, RQ, ↓reduceIte, Nat.reduceEqDiff, reduceCtorEq, Nat.reduceBEq, Nat.reduceAdd, Nat.reduceLeDiff, RA] <;> rfl) (.inl (by simp [allFresh, ints_fresh])) ?_
  simp (disch := first | assumption | omega | rfl | simp only [RH]) only [↓RP, RG, FX, RQ, ↓reduceIte, Nat.reduceEqDiff, reduceCtorEq, Nat.reduceBEq, Nat.reduceAdd, Nat.reduceLeDiff, n1, n2]
  refine loopK_I [1, 2, 3, 4, 5, 6, 7, 32, 33] (fun z : Nat => z ≤ 2) (fun z : Nat => ⟨[(1, .ptr 0 0 3), (2, .ptr 1 0 7), (3, I 0), (4, LN a1), (5, LN a2), (6, LN a3), (7, LN a4), (32, .agg [I a2.length, I a4.length]), (33, I z)], [⟨24, 3, [I W, I H, BA b l]⟩, ⟨37, 7, [I 0, I 0, .cap0 true, .cap0 true, I 0, I 0, .cap0 true]⟩]⟩) (fun z => 2 - z) 0 (by omega) (by simp only [↓RP, RG, FX, RQ, ↓reduceIte, Nat.reduceEqDiff, reduceCtorEq, Nat.reduceBEq, Nat.reduceAdd, Nat.reduceLeDiff]; rfl) ?_
  intro z hz
  have hc : z = 0 ∨ z = 1 ∨ z = 2 := by omega
  rcases hc with rfl | rfl | rfl
  · simp (disch := first | assumption | omega | rfl | simp only [RH]) only [↓RP, RG, FX, RQ, ↓reduceIte, Nat.reduceEqDiff, reduceCtorEq, Nat.reduceBEq, Nat.reduceAdd, Nat.reduceLeDiff, opK_index, idxA_agg, idxA_spot, limE]
    exact ⟨1, by omega, rfl, by omega⟩
  · simp (disch := first | assumption | omega | rfl | simp only [RH]) only [↓RP, RG, FX, RQ, ↓reduceIte, Nat.reduceEqDiff, reduceCtorEq, Nat.reduceBEq, Nat.reduceAdd, Nat.reduceLeDiff, opK_index, idxA_agg, idxA_spot, limE]
    exact ⟨2, by omega, rfl, by omega⟩
  simp (disch := first | assumption | omega | rfl | simp only [RH]) only [↓RP, RG, FX, RQ, ↓reduceIte, Nat.reduceEqDiff, reduceCtorEq, Nat.reduceBEq, Nat.reduceAdd, Nat.reduceLeDiff, n1, n2]
  refine loopK_W [1, 2, 3, 7, 11, 57, 58, 59] (fun s : Nat => s ≤ a2.length) (fun s : Nat => ⟨[(1, .ptr 0 0 3), (2, .ptr 1 0 7), (3, I 0), (7, LN a4), (11, .ptr 2 0 7), (57, LN a2), (58, I a2.length), (59, I s)], [⟨24, 3, [I W, I H, BA b l]⟩, ⟨37, 7, [I 0, I 0, .cap0 true, .cap0 true, I 0, I 0, .cap0 true]⟩, ⟨37, 7, [I a2.length, I a4.length, LN a1, LN a3, I a4.length, I a2.length, gw true 3 (bools (tabN a4.length (uF W l a2 a4) (a4.length * s)))]⟩, go 4 (bools (tabN a4.length (uF W l a2 a4) (a4.length * s)))]⟩) (fun s => a2.length - s) 0 (by omega) ?_ ?_
  · simp only [↓RP, RG, FX, RQ, ↓reduceIte, Nat.reduceEqDiff, reduceCtorEq, Nat.reduceBEq, Nat.reduceAdd, Nat.reduceLeDiff]
    exact Wk.weak (fun t => .refl _) (.cons _ _ _ _ (WL.refl _) (.cons _ _ _ _ (WL.refl _) (.cons _ _ _ _ (.cons (.refl _) (.cons (.refl _) (.cons (.refl _) (.cons (.refl _) (.cons (.refl _) (.cons (.refl _) (.cons (.nil _) .nil))))))) (.nil _ (by simp [go, bools, tabN])))))
  intro s hs
  by_cases hs2 : s < a2.length
  · have hcs := hCl s hs2
    have g1 := nI_get a2 s
    simp (disch := first | assumption | omega | rfl | simp only [RH]) only [↓RP, RG, FX, RQ, ↓reduceIte, Nat.reduceEqDiff, reduceCtorEq, Nat.reduceBEq, Nat.reduceAdd, Nat.reduceLeDiff, n1, g1]
    refine loopK_I [1, 2, 3, 7, 11, 13, 57, 58, 59, 63, 64, 65] (fun t : Nat => t ≤ a4.length) (fun t : Nat => ⟨[(1, .ptr 0 0 3), (2, .ptr 1 0 7), (3, I 0), (7, LN a4), (11, .ptr 2 0 7), (13, I (a2.getD s 0 : Nat)), (57, LN a2), (58, I a2.length), (59, I s), (63, LN a4), (64, I a4.length), (65, I t)], [⟨24, 3, [I W, I H, BA b l]⟩, ⟨37, 7, [I 0, I 0, .cap0 true, .cap0 true, I 0, I 0, .cap0 true]⟩, ⟨37, 7, [I a2.length, I a4.length, LN a1, LN a3, I a4.length, I a2.length, gw true 3 (bools (tabN a4.length (uF W l a2 a4) (a4.length * s + t)))]⟩, go 4 (bools (tabN a4.length (uF W l a2 a4) (a4.length * s + t)))]⟩) (fun t => a4.length - t) 0 (by omega) (by simp only [↓RP, RG, FX, RQ, ↓reduceIte, Nat.reduceEqDiff, reduceCtorEq, Nat.reduceBEq, Nat.reduceAdd, Nat.reduceLeDiff, n2]; rfl) ?_
    intro t ht
    by_cases ht2 : t < a4.length
    · have hrt := hRl t ht2
      have g2 := nI_get a4 t
      have hil := idx_lt hcs hrt
      have m1 : ((a4.getD t 0 : Nat) : Int) * (W : Int) = ((W * a4.getD t 0 : Nat) : Int) := by rw [Int.natCast_mul, Int.mul_comm]
      have hWH : W * H ≤ 64 * 64 := Nat.mul_le_mul hW hH
      have m2 : ((W * a4.getD t 0 : Nat) : Int) + ((a2.getD s 0 : Nat) : Int) = ((W * a4.getD t 0 + a2.getD s 0 : Nat) : Int) := by omega
      have hbl : (tabN a4.length (uF W l a2 a4) (a4.length * s + t)).length ≤ 1000000000 := by
        rw [tabN_len]
        have : a4.length * s ≤ 40 * 40 := Nat.mul_le_mul (by omega) (by omega)
        omega
      simp (disch := first | assumption | omega | rfl | simp only [RH]) only [↓RP, RG, FX, RQ, ↓reduceIte, Nat.reduceEqDiff, reduceCtorEq, Nat.reduceBEq, Nat.reduceAdd, Nat.reduceLeDiff, g2, n2, m1, m2, append_bool, Int.toNat_natCast]
      exact ⟨t + 1, by omega, by rw [show a4.length * s + (t + 1) = a4.length * s + t + 1 from rfl, tabN_succ a4.length (uF W l a2 a4) ht2]; rfl, by omega⟩
    · obtain rfl : t = a4.length := by omega
      simp (disch := first | assumption | omega | rfl | simp only [RH]) only [↓RP, RG, FX, RQ, ↓reduceIte, Nat.reduceEqDiff, reduceCtorEq, Nat.reduceBEq, Nat.reduceAdd, Nat.reduceLeDiff, n2]
      exact ⟨s + 1, by omega, rfl, by omega⟩
  · obtain rfl : s = a2.length := by omega
    simp (disch := first | assumption | omega | rfl | simp only [RH]) only [↓RP, RG, FX, RQ, ↓reduceIte, Nat.reduceEqDiff, reduceCtorEq, Nat.reduceBEq, Nat.reduceAdd, Nat.reduceLeDiff, n1]
    rw [resVal_2 rfl]; simp (disch := first | assumption | omega | rfl | simp only [RH]) only [↓RP, RG, FX, RQ, ↓reduceIte, Nat.reduceEqDiff, reduceCtorEq, Nat.reduceBEq, Nat.reduceAdd, Nat.reduceLeDiff, RS]
    first | done | (simp only [bools_isEmpty, Bool.true_and])
end
end Go.Proofs.YtmllhogaiahphaaDoor

/- The tie-up of the least draft, turned, hangs like the cloth. Plain. -/
set_option linter.unusedSimpArgs false
set_option linter.unusedVariables false
set_option maxRecDepth 100000
namespace Go.Proofs.YtmllhogaiahphaaDoor
open Go Go.Proofs Go.AW

/-- The tie-up of a cloth's least draft. -/
def tieU (W H : Nat) (l : List Bool) : List Bool := tabN (fR W H l).length (uF W l (fC W H l) (fR W H l)) ((fR W H l).length * (fC W H l).length)
theorem tieU_get {W H : Nat} {l : List Bool} {t s : Nat} (ht : t < (fR W H l).length) (hs : s < (fC W H l).length) : (tieU W H l).getD ((fR W H l).length * s + t) false = l.getD (W * (fR W H l).getD t 0 + (fC W H l).getD s 0) false := by
  unfold tieU
  rw [tabN_get _ _ ht (idx_lt ht hs)]; rfl
/-- Columns are like the firsts of their kinds; so are rows. -/
theorem col_kin {W H : Nat} {l : List Bool} {x : Nat} (hx : x < W) : (kC W H l).getD x 0 < (fC W H l).length ∧ ∀ y, y < H → l.getD (W * y + (fC W H l).getD ((kC W H l).getD x 0) 0) false = l.getD (W * y + x) false := by
  have h := knd_like (rowN H (tgL W H l)) W x hx
  have h1 : (kC W H l).getD x 0 < (fC W H l).length := h.1
  refine ⟨h1, fun y hy => ?_⟩
  have h2 : rowN H (tgL W H l) ((fC W H l).getD ((kC W H l).getD x 0) 0) = rowN H (tgL W H l) x := h.2
  have hf := fC_lt W H l _ h1
  have := rowN_eq.1 h2 y hy
  have g1 : (tgL W H l).getD (H * (fC W H l).getD ((kC W H l).getD x 0) 0 + y) false = l.getD (W * y + (fC W H l).getD ((kC W H l).getD x 0) 0) false := by
    unfold tgL; rw [tabN_get _ _ hy (idx_lt hy hf)]; unfold uT cell; rw [idx_nat]
  have g2 : (tgL W H l).getD (H * x + y) false = l.getD (W * y + x) false := by
    unfold tgL; rw [tabN_get _ _ hy (idx_lt hy hx)]; unfold uT cell; rw [idx_nat]
  rwa [g1, g2] at this
theorem row_kin {W H : Nat} {l : List Bool} {y : Nat} (hy : y < H) : (kR W H l).getD y 0 < (fR W H l).length ∧ ∀ x, x < W → l.getD (W * (fR W H l).getD ((kR W H l).getD y 0) 0 + x) false = l.getD (W * y + x) false := by
  have h := knd_like (rowN W l) H y hy
  have h1 : (kR W H l).getD y 0 < (fR W H l).length := h.1
  refine ⟨h1, fun x hx => ?_⟩
  have h2 : rowN W l ((fR W H l).getD ((kR W H l).getD y 0) 0) = rowN W l y := h.2
  exact rowN_eq.1 h2 x hx
theorem kC_sur {W H : Nat} {l : List Bool} : ∀ s, s < (fC W H l).length → ∃ x, x < W ∧ (kC W H l).getD x 0 = s := by
  intro s hs
  have hf := fC_lt W H l s hs
  refine ⟨_, hf, ?_⟩
  have h := knd_like (rowN H (tgL W H l)) W _ hf
  have h1 : (kC W H l).getD ((fC W H l).getD s 0) 0 < (fC W H l).length := h.1
  have h2 : rowN H (tgL W H l) ((fC W H l).getD ((kC W H l).getD ((fC W H l).getD s 0) 0) 0) = rowN H (tgL W H l) ((fC W H l).getD s 0) := h.2
  rcases Nat.lt_trichotomy ((kC W H l).getD ((fC W H l).getD s 0) 0) s with c | c | c
  · exact absurd h2 (knd_diff (rowN H (tgL W H l)) W _ _ c hs)
  · exact c
  · exact absurd h2.symm (knd_diff (rowN H (tgL W H l)) W _ _ c h1)
theorem kR_sur {W H : Nat} {l : List Bool} : ∀ s, s < (fR W H l).length → ∃ y, y < H ∧ (kR W H l).getD y 0 = s := by
  intro s hs
  have hf := fR_lt W H l s hs
  refine ⟨_, hf, ?_⟩
  have h := knd_like (rowN W l) H _ hf
  have h1 : (kR W H l).getD ((fR W H l).getD s 0) 0 < (fR W H l).length := h.1
  have h2 : rowN W l ((fR W H l).getD ((kR W H l).getD ((fR W H l).getD s 0) 0) 0) = rowN W l ((fR W H l).getD s 0) := h.2
  rcases Nat.lt_trichotomy ((kR W H l).getD ((fR W H l).getD s 0) 0) s with c | c | c
  · exact absurd h2 (knd_diff (rowN W l) H _ _ c hs)
  · exact c
  · exact absurd h2.symm (knd_diff (rowN W l) H _ _ c h1)
theorem fC_pos {W H : Nat} {l : List Bool} (h : 0 < W) : 0 < (fC W H l).length := by
  have := (col_kin (H := H) (l := l) h).1; omega
theorem fR_pos {W H : Nat} {l : List Bool} (h : 0 < H) : 0 < (fR W H l).length := by
  have := (row_kin (W := W) (l := l) h).1; omega
theorem hg_tie {W H n n' : Nat} (hW : 0 < W) (hH : 0 < H) (hN : W + H = n) {l l' : List Bool} (hN' : (fC W H l).length + (fR W H l).length = n') (hl' : l' = tabN (fC W H l).length (uT (fR W H l).length (tieU W H l)) ((fC W H l).length * (fR W H l).length)) : Hg W n l ↔ Hg (fC W H l).length n' l' := by
  have p1 := fC_pos (H := H) (l := l) hW
  have p2 := fR_pos (W := W) (l := l) hH
  refine (hg_like hN' hN (by omega) (fun x => (kC W H l).getD x 0) (fun y => (kR W H l).getD y 0) (fun x hx => (col_kin (H := H) hx).1) kC_sur (fun y hy => (row_kin (W := W) hy).1) kR_sur fun x y hx hy => ?_).symm
  obtain ⟨c1, c2⟩ := col_kin (l := l) (H := H) hx
  obtain ⟨r1, r2⟩ := row_kin (l := l) (W := W) hy
  show _ = l'.getD ((fC W H l).length * (kR W H l).getD y 0 + (kC W H l).getD x 0) false
  rw [hl', tabN_get _ _ c1 (idx_lt c1 r1)]
  unfold uT cell
  rw [idx_nat, tieU_get r1 c1, r2 _ (fC_lt W H l _ c1), c2 y hy]
/-- A turned grid hangs like it. -/
theorem hg_turned {W H n : Nat} (hN : W + H = n) {l : List Bool} : Hg W n l ↔ Hg H n (tabN H (uT W l) (H * W)) :=
  hg_turn hN fun x y hx hy => by rw [tabN_get _ _ hx (idx_lt hx hy)]; unfold uT cell; rw [idx_nat]
/-- A row of grids. -/
def gcs (gs : List (Nat × Nat × List Bool)) : List AVal := gs.flatMap fun g => [I g.1, I g.2.1, BR false g.2.2]
theorem gcs_len (gs : List (Nat × Nat × List Bool)) : (gcs gs).length = gs.length * 3 := by
  induction gs with
  | nil => rfl
  | cons g gs ih => show (_ :: _ :: _ :: gcs gs).length = _; simp only [List.length_cons, ih]; omega
theorem gcs_drop {gs : List (Nat × Nat × List Bool)} : ∀ {i : Nat}, i < gs.length → (gcs gs).drop (i * 3) = I (gs.getD i (0, 0, [])).1 :: I (gs.getD i (0, 0, [])).2.1 :: BR false (gs.getD i (0, 0, [])).2.2 :: gcs (gs.drop (i + 1)) := by
  induction gs with
  | nil => intro i hi; simp at hi
  | cons g gs ih =>
    intro i hi
    cases i with
    | zero => rfl
    | succ i =>
      rw [show (i + 1) * 3 = i * 3 + 3 by omega]
      show (gcs gs).drop (i * 3) = _
      rw [ih (by simpa using hi)]
      simp
end Go.Proofs.YtmllhogaiahphaaDoor

/- The least draft of a valid grid, by the reference. -/
set_option linter.unusedSimpArgs false
set_option linter.unusedVariables false
set_option maxRecDepth 100000
namespace Go.Proofs.YtmllhogaiahphaaDoor
open Go Go.Proofs Go.AW

section
variable {W H : Nat} (hW1 : 1 ≤ W) (hW : W ≤ 64) (hH1 : 1 ≤ H) (hH : H ≤ 64) (b : Bool) {l : List Bool} (hn : l.length = W * H)
include hW1 hW hH1 hH hn
end
end Go.Proofs.YtmllhogaiahphaaDoor

/- The law HangSame. -/
set_option linter.unusedSimpArgs false
set_option linter.unusedVariables false
set_option maxRecDepth 100000
namespace Go.Proofs.YtmllhogaiahphaaDoor
open Go Go.Proofs Go.AW

/-- A literal of wide elements that grows. -/
theorem append_litW {P : Program} {t e s nb : Nat} [S : SlW P t e s nb] {h : List AObj} {n : Nat} {xs ys : List AVal} (hx : xs.length = n * s) (hy : ys.length = s) (c5 : ys.all AVal.one = true) (c6 : (n + 1) * nb ≤ 140737488355328) (c7 : n + 1 ≤ 140737488355328) :
    aAppend P t h (.lit n xs) (.lit 1 ys) = some (.ref h.length 0 (n + 1) ((n + 1) * s), h ++ [⟨e, s, xs ++ ys⟩]) := by
  obtain ⟨T, E, hT, he, hE, hs, hb, hz, h0⟩ := S.ex
  have ht : ys.take s = ys := List.take_of_length_le (by omega)
  simp only [aAppend, hT, he, hE, sview_lit, hs, hb, Nat.one_mul, ht]
  rw [if_pos ⟨hy, c5, by omega, hz⟩]
  simp only [if_neg (show ¬ (1 : Nat) = 0 by omega)]
  rw [if_pos ⟨hx, c6, c7⟩]
theorem append_refW {P : Program} {t e s nb : Nat} [S : SlW P t e s nb] {h : List AObj} {k n ext : Nat} {xs ys : List AVal} (ho : h[k]? = some ⟨e, s, xs⟩) (hn : n ≠ 0) (he0 : ext = n * s) (hx : xs.length = n * s) (hy : ys.length = s) (c5 : ys.all AVal.one = true) (c6 : (n + 1) * nb ≤ 140737488355328) (c7 : n + 1 ≤ 140737488355328) :
    aAppend P t h (.ref k 0 n ext) (.lit 1 ys) = some (.ref k 0 (n + 1) ((n + 1) * s), h.set k ⟨e, s, xs ++ ys⟩) := by
  obtain ⟨T, E, hT, he, hE, hs, hb, hz, h0⟩ := S.ex
  have ht : ys.take s = ys := List.take_of_length_le (by omega)
  simp only [aAppend, hT, he, hE, sview_lit, hs, hb, Nat.one_mul, ht]
  rw [if_pos ⟨hy, c5, by omega, hz⟩]
  subst he0
  simp only [if_neg (show ¬ (1 : Nat) = 0 by omega), ho]
  rw [if_pos ⟨hx, trivial, trivial, trivial, c6, c7⟩]
section
variable {W H n : Nat} (hN : W + H = n) (hW0 : 0 < W) (hH0 : 0 < H) (hn24 : n ≤ 24) (b : Bool) {l : List Bool} (hn : l.length = W * H)
include hN hW0 hH0 hn24 hn
theorem hangSame_b (hv : vld W H l) (dx dy axis : Int) (lm : List Bool) (hm : Contract Tryd.prog 10 [GA W H b l, I axis] (.tuple [GR W H false lm, I 0])) (hlm : lm.length = W * H) (hgm : Hg W n l ↔ Hg W n lm) :
    Contract Tryd.prog 3 [GA W H b l, I dx, I dy, I axis] (B true) := by
  classical
  have hV := valid10_c W H b l (decide (vld W H l)) decide_eq_true_iff
  rw [decide_eq_true hv] at hV
  have f1 := hangsP_c hN hW0 hH0 (by omega) b hn
  have f2 := notP_c hW0 hH0 (by omega) (by omega) b hn
  have f3 := gturnP_c hW0 hH0 (by omega) (by omega) b hn
  have f4 := shiftP_c hW0 hH0 (by omega) (by omega) b hn dx dy
  have f5 := tileP_c hW0 hH0 (by omega) (by omega) b hn
  have f6 := ofP_c (by omega) (by omega) (by omega) (by omega) b hn (by have := fC_le W H l; omega) (by have := fR_le W H l; omega)
  have q1 := fC_pos (H := H) (l := l) hW0
  have q2 := fR_pos (W := W) (l := l) hH0
  have q3 := fC_le W H l
  have q4 := fR_le W H l
  have f7 := gturnP_c (W := (fR W H l).length) (H := (fC W H l).length) (l := tieU W H l) q2 q1 (by omega) (by omega) ((tieU W H l).isEmpty) (tabN_len _ _ _)
  have e1 := tabN_len W (uN W l) (W * H)
  have e2 := tabN_len H (uT W l) (H * W)
  have e3 := tabN_len W (uS W H l (shN (arM dx ↑W) W) (shN (arM dy ↑H) H)) (W * H)
  have e5 := tabN_len (2 * W) (uS W H l (fun x => x % W) fun y => y % H) (2 * W * H)
  have e6 := tabN_len (fC W H l).length (uT (fR W H l).length (tieU W H l)) ((fC W H l).length * (fR W H l).length)
  have g1 := hg_not hN hn
  have g2 := hg_turned hN (l := l)
  have g3 : Hg W n l ↔ Hg W n (tabN W (uS W H l (shN (arM dx ↑W) W) (shN (arM dy ↑H) H)) (W * H)) :=
    hg_tab hN hN (by omega) _ _ (fun x _ => shN_lt hW0 x) (shN_sur hW0) (fun x _ => shN_lt hH0 x) (shN_sur hH0)
  have g5 : Hg W n l ↔ Hg (2 * W) (2 * W + H) (tabN (2 * W) (uS W H l (fun x => x % W) fun y => y % H) (2 * W * H)) :=
    hg_tab hN rfl (by omega) _ _ (fun x _ => Nat.mod_lt _ hW0) (fun x hx => ⟨x, by omega, Nat.mod_eq_of_lt hx⟩) (fun x _ => Nat.mod_lt _ hH0) (fun x hx => ⟨x, hx, Nat.mod_eq_of_lt hx⟩)
  have g6 := hg_tie hW0 hH0 hN (l := l) rfl rfl
  have hF : ∀ (W' H' n' : Nat) (l' : List Bool), W' + H' = n' → 0 < W' → 0 < H' → n' ≤ 64 → l'.length = W' * H' → (Hg W n l ↔ Hg W' n' l') → Contract Tryd.prog 6 [GA W' H' false l'] (.tuple [B (decide ((best W n l (n - 1)).length = n)), I 0]) := by
    intro W' H' n' l' a1 a2 a3 a4 a5 a6
    have hc := hangsP_c a1 a2 a3 a4 false a5
    rw [decide_eq_decide.2 (show ((best W' n' l' (n' - 1)).length = n') ↔ ((best W n l (n - 1)).length = n) from (hg_best (by omega)).trans (a6.symm.trans (hg_best (by omega)).symm))] at hc
    exact hc
  have k1 := hF _ _ _ _ hN hW0 hH0 (by omega) e1 g1
  have k2 := hF H W n _ (by omega) hH0 hW0 (by omega) e2 g2
  have k3 := hF _ _ _ _ hN hW0 hH0 (by omega) e3 g3
  have k4 := hF _ _ _ _ hN hW0 hH0 (by omega) hlm hgm
  have k5 := hF (2 * W) H _ _ rfl (by omega) hH0 (by omega) e5 g5
  have k6 := hF _ _ _ _ rfl q1 q2 (by omega) e6 g6
  rw [show tabN (fR W H l).length (uF W l (fC W H l) (fR W H l)) ((fR W H l).length * (fC W H l).length) = tieU W H l from rfl] at f6
  have e0 : (tieU W H l).length = (fR W H l).length * (fC W H l).length := tabN_len _ _ _
  clear g1 g2 g3 g5 g6 hF
  generalize decide ((best W n l (n - 1)).length = n) = r at *
  generalize tabN W (uN W l) (W * H) = l1 at *
  generalize tabN H (uT W l) (H * W) = l2 at *
  generalize tabN W (uS W H l (shN (arM dx ↑W) W) (shN (arM dy ↑H) H)) (W * H) = l3 at *
  generalize tabN (2 * W) (uS W H l (fun x => x % W) fun y => y % H) (2 * W * H) = l5 at *
  generalize tabN (fC W H l).length (uT (fR W H l).length (tieU W H l)) ((fC W H l).length * (fR W H l).length) = l6 at *
  generalize tieU W H l = lt at *
  generalize nI (kC W H l) = ks at *
  generalize nI (kR W H l) = ms at *
  generalize (fC W H l).length = c at *
  generalize (fR W H l).length = d at *
  generalize hW2 : 2 * W = W2 at *
  refine Contract.intro (effS [] false) 6 follows Tryd.func3 rfl rfl (by kernel_rfl) (Nat.le_of_ble_eq_true rfl) ?_
  simp (disch := first | assumption | omega | rfl | simp only [RH]) only [↓RP, RG, FX, RQ, ↓reduceIte, Nat.reduceEqDiff, reduceCtorEq, Nat.reduceBEq, Nat.reduceAdd, Nat.reduceLeDiff, args0_4]
  refine callK_F 6 (hV) (by simp (disch := first | assumption | omega | rfl | simp only [RH]) only [↓RP, RG, FX, RQ, ↓reduceIte, Nat.reduceEqDiff, reduceCtorEq, Nat.reduceBEq, Nat.reduceAdd, Nat.reduceLeDiff, RA] <;> rfl) (.inl (by simp [allFresh, ints_fresh, bools_fresh])) ?_
  simp (disch := first | assumption | omega | rfl | simp only [RH]) only [↓RP, RG, FX, RQ, ↓reduceIte, Nat.reduceEqDiff, reduceCtorEq, Nat.reduceBEq, Nat.reduceAdd, Nat.reduceLeDiff]
  refine callK_F 6 (f1) (by simp (disch := first | assumption | omega | rfl | simp only [RH]) only [↓RP, RG, FX, RQ, ↓reduceIte, Nat.reduceEqDiff, reduceCtorEq, Nat.reduceBEq, Nat.reduceAdd, Nat.reduceLeDiff, RA] <;> rfl) (.inl (by simp [allFresh, ints_fresh, bools_fresh])) ?_
  simp (disch := first | assumption | omega | rfl | simp only [RH]) only [↓RP, RG, FX, RQ, ↓reduceIte, Nat.reduceEqDiff, reduceCtorEq, Nat.reduceBEq, Nat.reduceAdd, Nat.reduceLeDiff]
  refine callK_F 6 (f2) (by simp (disch := first | assumption | omega | rfl | simp only [RH]) only [↓RP, RG, FX, RQ, ↓reduceIte, Nat.reduceEqDiff, reduceCtorEq, Nat.reduceBEq, Nat.reduceAdd, Nat.reduceLeDiff, RA] <;> rfl) (.inl (by simp [allFresh, ints_fresh, bools_fresh])) ?_
  simp (disch := first | assumption | omega | rfl | simp only [RH]) only [↓RP, RG, FX, RQ, ↓reduceIte, Nat.reduceEqDiff, reduceCtorEq, Nat.reduceBEq, Nat.reduceAdd, Nat.reduceLeDiff]
  refine callK_F 6 (f3) (by simp (disch := first | assumption | omega | rfl | simp only [RH]) only [↓RP, RG, FX, RQ, ↓reduceIte, Nat.reduceEqDiff, reduceCtorEq, Nat.reduceBEq, Nat.reduceAdd, Nat.reduceLeDiff, RA] <;> rfl) (.inl (by simp [allFresh, ints_fresh, bools_fresh])) ?_
  simp (disch := first | assumption | omega | rfl | simp only [RH]) only [↓RP, RG, FX, RQ, ↓reduceIte, Nat.reduceEqDiff, reduceCtorEq, Nat.reduceBEq, Nat.reduceAdd, Nat.reduceLeDiff]
  refine callK_F 6 (f4) (by simp (disch := first | assumption | omega | rfl | simp only [RH]) only [↓RP, RG, FX, RQ, ↓reduceIte, Nat.reduceEqDiff, reduceCtorEq, Nat.reduceBEq, Nat.reduceAdd, Nat.reduceLeDiff, RA] <;> rfl) (.inl (by simp [allFresh, ints_fresh, bools_fresh])) ?_
  simp (disch := first | assumption | omega | rfl | simp only [RH]) only [↓RP, RG, FX, RQ, ↓reduceIte, Nat.reduceEqDiff, reduceCtorEq, Nat.reduceBEq, Nat.reduceAdd, Nat.reduceLeDiff]
  refine callK_F 6 (hm) (by simp (disch := first | assumption | omega | rfl | simp only [RH]) only [↓RP, RG, FX, RQ, ↓reduceIte, Nat.reduceEqDiff, reduceCtorEq, Nat.reduceBEq, Nat.reduceAdd, Nat.reduceLeDiff, RA] <;> rfl) (.inl (by simp [allFresh, ints_fresh, bools_fresh])) ?_
  simp (disch := first | assumption | omega | rfl | simp only [RH]) only [↓RP, RG, FX, RQ, ↓reduceIte, Nat.reduceEqDiff, reduceCtorEq, Nat.reduceBEq, Nat.reduceAdd, Nat.reduceLeDiff]
  rw [append_litW (by rfl) (by rfl) (by rfl) (by omega) (by omega)]
  simp (disch := first | assumption | omega | rfl | simp only [RH]) only [↓RP, RG, FX, RQ, ↓reduceIte, Nat.reduceEqDiff, reduceCtorEq, Nat.reduceBEq, Nat.reduceAdd, Nat.reduceLeDiff]
  refine callK_F 6 (f5) (by simp (disch := first | assumption | omega | rfl | simp only [RH]) only [↓RP, RG, FX, RQ, ↓reduceIte, Nat.reduceEqDiff, reduceCtorEq, Nat.reduceBEq, Nat.reduceAdd, Nat.reduceLeDiff, RA] <;> rfl) (.inl (by simp [allFresh, ints_fresh, bools_fresh])) ?_
  simp (disch := first | assumption | omega | rfl | simp only [RH]) only [↓RP, RG, FX, RQ, ↓reduceIte, Nat.reduceEqDiff, reduceCtorEq, Nat.reduceBEq, Nat.reduceAdd, Nat.reduceLeDiff]
  rw [append_refW (by rfl) (by omega) (by rfl) (by rfl) (by rfl) (by rfl) (by omega) (by omega)]
  simp (disch := first | assumption | omega | rfl | simp only [RH]) only [↓RP, RG, FX, RQ, ↓reduceIte, Nat.reduceEqDiff, reduceCtorEq, Nat.reduceBEq, Nat.reduceAdd, Nat.reduceLeDiff]
  refine callK_F 6 (f6) (by simp (disch := first | assumption | omega | rfl | simp only [RH]) only [↓RP, RG, FX, RQ, ↓reduceIte, Nat.reduceEqDiff, reduceCtorEq, Nat.reduceBEq, Nat.reduceAdd, Nat.reduceLeDiff, RA] <;> rfl) (.inl (by simp [allFresh, ints_fresh, bools_fresh])) ?_
  simp (disch := first | assumption | omega | rfl | simp only [RH]) only [↓RP, RG, FX, RQ, ↓reduceIte, Nat.reduceEqDiff, reduceCtorEq, Nat.reduceBEq, Nat.reduceAdd, Nat.reduceLeDiff]
  refine callK_F 6 (f7) (by simp (disch := first | assumption | omega | rfl | simp only [RH]) only [↓RP, RG, FX, RQ, ↓reduceIte, Nat.reduceEqDiff, reduceCtorEq, Nat.reduceBEq, Nat.reduceAdd, Nat.reduceLeDiff, RA] <;> rfl) (.inl (by simp [allFresh, ints_fresh, bools_fresh])) ?_
  simp (disch := first | assumption | omega | rfl | simp only [RH]) only [↓RP, RG, FX, RQ, ↓reduceIte, Nat.reduceEqDiff, reduceCtorEq, Nat.reduceBEq, Nat.reduceAdd, Nat.reduceLeDiff]
  rw [append_refW (by rfl) (by omega) (by rfl) (by rfl) (by rfl) (by rfl) (by omega) (by omega)]
  simp (disch := first | assumption | omega | rfl | simp only [RH]) only [↓RP, RG, FX, RQ, ↓reduceIte, Nat.reduceEqDiff, reduceCtorEq, Nat.reduceBEq, Nat.reduceAdd, Nat.reduceLeDiff]
  obtain ⟨gs, hgs⟩ : ∃ gs : List (Nat × Nat × List Bool), gs = [(W, H, l1), (H, W, l2), (W, H, l3), (W, H, lm), (W2, H, l5), (c, d, l6)] := ⟨_, rfl⟩
  have hcs : [I W, I H, BR false l1, I H, I W, BR false l2, I W, I H, BR false l3, I W, I H, BR false lm, I W2, I H, BR false l5, I c, I d, BR false l6] = gcs gs := by rw [hgs]; rfl
  have hlen : gs.length = 6 := by rw [hgs]; rfl
  have hK : ∀ i, i < gs.length → Contract Tryd.prog 6 [GA (gs.getD i (0, 0, [])).1 (gs.getD i (0, 0, [])).2.1 false (gs.getD i (0, 0, [])).2.2] (.tuple [B r, I 0]) := by
    intro i hi
    rw [hlen] at hi
    rw [hgs]
    rcases (by omega : i = 0 ∨ i = 1 ∨ i = 2 ∨ i = 3 ∨ i = 4 ∨ i = 5) with rfl | rfl | rfl | rfl | rfl | rfl
    · exact k1
    · exact k2
    · exact k3
    · exact k4
    · exact k5
    · exact k6
  rw [hcs]
  have hgl := gcs_len gs
  have hgd := fun i hi => gcs_drop (gs := gs) (i := i) hi
  rw [hlen] at hgl hK
  generalize gcs gs = cs at *
  have hca : cA (some ⟨24, 3, cs⟩) (6 * 3) = some cs := by simp only [cA, hgl, if_true]
  refine loopK_I [9, 17, 26] (fun i : Nat => i ≤ 6) (fun i => ⟨[(9, B r), (17, .ref 5 0 6 (6 * 3)), (26, I i)], [⟨24, 3, [I W, I H, BA b l]⟩, ⟨24, 3, [I W, I H, BR false l1]⟩, ⟨24, 3, [I H, I W, BR false l2]⟩, ⟨24, 3, [I W, I H, BR false l3]⟩, ⟨24, 3, [I W, I H, BR false lm]⟩, ⟨24, 3, cs⟩, ⟨24, 3, [I W2, I H, BR false l5]⟩, ⟨37, 7, [I c, I d, LR ks.isEmpty ks, LR ms.isEmpty ms, I d, I c, BR lt.isEmpty lt]⟩, ⟨24, 3, [I c, I d, BR false l6]⟩]⟩) (fun i => 6 - i) 0 (by omega) (by simp only [↓RP, RG, FX, RQ, ↓reduceIte, Nat.reduceEqDiff, reduceCtorEq, Nat.reduceBEq, Nat.reduceAdd, Nat.reduceLeDiff]; rfl) ?_
  intro i hi
  by_cases hlt : i < 6
  · have hd := hgd i (by omega)
    have hk := hK i hlt
    simp (disch := first | assumption | omega | rfl | simp only [RH]) only [↓RP, RG, FX, RQ, ↓reduceIte, Nat.reduceEqDiff, reduceCtorEq, Nat.reduceBEq, Nat.reduceAdd, Nat.reduceLeDiff, Int.toNat_natCast, hd, hca, idxW_ref, Nat.zero_add, Option.map_some]
    refine callK_F 6 (hk) (by simp (disch := first | assumption | omega | rfl | simp only [RH]) only [↓RP, RG, FX, RQ, ↓reduceIte, Nat.reduceEqDiff, reduceCtorEq, Nat.reduceBEq, Nat.reduceAdd, Nat.reduceLeDiff, RA] <;> rfl) (.inl (by simp [allFresh, ints_fresh, bools_fresh])) ?_
    simp (disch := first | assumption | omega | rfl | simp only [RH]) only [↓RP, RG, FX, RQ, ↓reduceIte, Nat.reduceEqDiff, reduceCtorEq, Nat.reduceBEq, Nat.reduceAdd, Nat.reduceLeDiff, beq_self_eq_true, bne_self_eq_false]
    exact ⟨i + 1, by omega, rfl, by omega⟩
  · obtain rfl : i = 6 := by omega
    simp (disch := first | assumption | omega | rfl | simp only [RH]) only [↓RP, RG, FX, RQ, ↓reduceIte, Nat.reduceEqDiff, reduceCtorEq, Nat.reduceBEq, Nat.reduceAdd, Nat.reduceLeDiff, hca]
    refine callK_F 6 (hangAlive_c) (by simp (disch := first | assumption | omega | rfl | simp only [RH]) only [↓RP, RG, FX, RQ, ↓reduceIte, Nat.reduceEqDiff, reduceCtorEq, Nat.reduceBEq, Nat.reduceAdd, Nat.reduceLeDiff, RA] <;> rfl) (.inl (by simp [allFresh, ints_fresh, bools_fresh])) ?_
    simp (disch := first | assumption | omega | rfl | simp only [RH]) only [↓RP, RG, FX, RQ, ↓reduceIte, Nat.reduceEqDiff, reduceCtorEq, Nat.reduceBEq, Nat.reduceAdd, Nat.reduceLeDiff]
    rw [resVal_1 rfl]; simp (disch := first | assumption | omega | rfl | simp only [RH]) only [↓RP, RG, FX, RQ, ↓reduceIte, Nat.reduceEqDiff, reduceCtorEq, Nat.reduceBEq, Nat.reduceAdd, Nat.reduceLeDiff, RS]
theorem hangSame_a (hv : vld W H l) (dx dy axis : Int) (hm : Contract Tryd.prog 10 [GA W H b l, I axis] (.tuple [GR 0 0 true [], I 2])) :
    Contract Tryd.prog 3 [GA W H b l, I dx, I dy, I axis] (B true) := by
  classical
  have hV := valid10_c W H b l (decide (vld W H l)) decide_eq_true_iff
  rw [decide_eq_true hv] at hV
  have f1 := hangsP_c hN hW0 hH0 (by omega) b hn
  have f2 := notP_c hW0 hH0 (by omega) (by omega) b hn
  have f3 := gturnP_c hW0 hH0 (by omega) (by omega) b hn
  have f4 := shiftP_c hW0 hH0 (by omega) (by omega) b hn dx dy
  have f5 := tileP_c hW0 hH0 (by omega) (by omega) b hn
  have f6 := ofP_c (by omega) (by omega) (by omega) (by omega) b hn (by have := fC_le W H l; omega) (by have := fR_le W H l; omega)
  have q1 := fC_pos (H := H) (l := l) hW0
  have q2 := fR_pos (W := W) (l := l) hH0
  have q3 := fC_le W H l
  have q4 := fR_le W H l
  have f7 := gturnP_c (W := (fR W H l).length) (H := (fC W H l).length) (l := tieU W H l) q2 q1 (by omega) (by omega) ((tieU W H l).isEmpty) (tabN_len _ _ _)
  have e1 := tabN_len W (uN W l) (W * H)
  have e2 := tabN_len H (uT W l) (H * W)
  have e3 := tabN_len W (uS W H l (shN (arM dx ↑W) W) (shN (arM dy ↑H) H)) (W * H)
  have e5 := tabN_len (2 * W) (uS W H l (fun x => x % W) fun y => y % H) (2 * W * H)
  have e6 := tabN_len (fC W H l).length (uT (fR W H l).length (tieU W H l)) ((fC W H l).length * (fR W H l).length)
  have g1 := hg_not hN hn
  have g2 := hg_turned hN (l := l)
  have g3 : Hg W n l ↔ Hg W n (tabN W (uS W H l (shN (arM dx ↑W) W) (shN (arM dy ↑H) H)) (W * H)) :=
    hg_tab hN hN (by omega) _ _ (fun x _ => shN_lt hW0 x) (shN_sur hW0) (fun x _ => shN_lt hH0 x) (shN_sur hH0)
  have g5 : Hg W n l ↔ Hg (2 * W) (2 * W + H) (tabN (2 * W) (uS W H l (fun x => x % W) fun y => y % H) (2 * W * H)) :=
    hg_tab hN rfl (by omega) _ _ (fun x _ => Nat.mod_lt _ hW0) (fun x hx => ⟨x, by omega, Nat.mod_eq_of_lt hx⟩) (fun x _ => Nat.mod_lt _ hH0) (fun x hx => ⟨x, hx, Nat.mod_eq_of_lt hx⟩)
  have g6 := hg_tie hW0 hH0 hN (l := l) rfl rfl
  have hF : ∀ (W' H' n' : Nat) (l' : List Bool), W' + H' = n' → 0 < W' → 0 < H' → n' ≤ 64 → l'.length = W' * H' → (Hg W n l ↔ Hg W' n' l') → Contract Tryd.prog 6 [GA W' H' false l'] (.tuple [B (decide ((best W n l (n - 1)).length = n)), I 0]) := by
    intro W' H' n' l' a1 a2 a3 a4 a5 a6
    have hc := hangsP_c a1 a2 a3 a4 false a5
    rw [decide_eq_decide.2 (show ((best W' n' l' (n' - 1)).length = n') ↔ ((best W n l (n - 1)).length = n) from (hg_best (by omega)).trans (a6.symm.trans (hg_best (by omega)).symm))] at hc
    exact hc
  have k1 := hF _ _ _ _ hN hW0 hH0 (by omega) e1 g1
  have k2 := hF H W n _ (by omega) hH0 hW0 (by omega) e2 g2
  have k3 := hF _ _ _ _ hN hW0 hH0 (by omega) e3 g3
  have k5 := hF (2 * W) H _ _ rfl (by omega) hH0 (by omega) e5 g5
  have k6 := hF _ _ _ _ rfl q1 q2 (by omega) e6 g6
  rw [show tabN (fR W H l).length (uF W l (fC W H l) (fR W H l)) ((fR W H l).length * (fC W H l).length) = tieU W H l from rfl] at f6
  have e0 : (tieU W H l).length = (fR W H l).length * (fC W H l).length := tabN_len _ _ _
  clear g1 g2 g3 g5 g6 hF
  generalize decide ((best W n l (n - 1)).length = n) = r at *
  generalize tabN W (uN W l) (W * H) = l1 at *
  generalize tabN H (uT W l) (H * W) = l2 at *
  generalize tabN W (uS W H l (shN (arM dx ↑W) W) (shN (arM dy ↑H) H)) (W * H) = l3 at *
  generalize tabN (2 * W) (uS W H l (fun x => x % W) fun y => y % H) (2 * W * H) = l5 at *
  generalize tabN (fC W H l).length (uT (fR W H l).length (tieU W H l)) ((fC W H l).length * (fR W H l).length) = l6 at *
  generalize tieU W H l = lt at *
  generalize nI (kC W H l) = ks at *
  generalize nI (kR W H l) = ms at *
  generalize (fC W H l).length = c at *
  generalize (fR W H l).length = d at *
  generalize hW2 : 2 * W = W2 at *
  refine Contract.intro (effS [] false) 6 follows Tryd.func3 rfl rfl (by kernel_rfl) (Nat.le_of_ble_eq_true rfl) ?_
  simp (disch := first | assumption | omega | rfl | simp only [RH]) only [↓RP, RG, FX, RQ, ↓reduceIte, Nat.reduceEqDiff, reduceCtorEq, Nat.reduceBEq, Nat.reduceAdd, Nat.reduceLeDiff, args0_4]
  refine callK_F 6 (hV) (by simp (disch := first | assumption | omega | rfl | simp only [RH]) only [↓RP, RG, FX, RQ, ↓reduceIte, Nat.reduceEqDiff, reduceCtorEq, Nat.reduceBEq, Nat.reduceAdd, Nat.reduceLeDiff, RA] <;> rfl) (.inl (by simp [allFresh, ints_fresh, bools_fresh])) ?_
  simp (disch := first | assumption | omega | rfl | simp only [RH]) only [↓RP, RG, FX, RQ, ↓reduceIte, Nat.reduceEqDiff, reduceCtorEq, Nat.reduceBEq, Nat.reduceAdd, Nat.reduceLeDiff]
  refine callK_F 6 (f1) (by simp (disch := first | assumption | omega | rfl | simp only [RH]) only [↓RP, RG, FX, RQ, ↓reduceIte, Nat.reduceEqDiff, reduceCtorEq, Nat.reduceBEq, Nat.reduceAdd, Nat.reduceLeDiff, RA] <;> rfl) (.inl (by simp [allFresh, ints_fresh, bools_fresh])) ?_
  simp (disch := first | assumption | omega | rfl | simp only [RH]) only [↓RP, RG, FX, RQ, ↓reduceIte, Nat.reduceEqDiff, reduceCtorEq, Nat.reduceBEq, Nat.reduceAdd, Nat.reduceLeDiff]
  refine callK_F 6 (f2) (by simp (disch := first | assumption | omega | rfl | simp only [RH]) only [↓RP, RG, FX, RQ, ↓reduceIte, Nat.reduceEqDiff, reduceCtorEq, Nat.reduceBEq, Nat.reduceAdd, Nat.reduceLeDiff, RA] <;> rfl) (.inl (by simp [allFresh, ints_fresh, bools_fresh])) ?_
  simp (disch := first | assumption | omega | rfl | simp only [RH]) only [↓RP, RG, FX, RQ, ↓reduceIte, Nat.reduceEqDiff, reduceCtorEq, Nat.reduceBEq, Nat.reduceAdd, Nat.reduceLeDiff]
  refine callK_F 6 (f3) (by simp (disch := first | assumption | omega | rfl | simp only [RH]) only [↓RP, RG, FX, RQ, ↓reduceIte, Nat.reduceEqDiff, reduceCtorEq, Nat.reduceBEq, Nat.reduceAdd, Nat.reduceLeDiff, RA] <;> rfl) (.inl (by simp [allFresh, ints_fresh, bools_fresh])) ?_
  simp (disch := first | assumption | omega | rfl | simp only [RH]) only [↓RP, RG, FX, RQ, ↓reduceIte, Nat.reduceEqDiff, reduceCtorEq, Nat.reduceBEq, Nat.reduceAdd, Nat.reduceLeDiff]
  refine callK_F 6 (f4) (by simp (disch := first | assumption | omega | rfl | simp only [RH]) only [↓RP, RG, FX, RQ, ↓reduceIte, Nat.reduceEqDiff, reduceCtorEq, Nat.reduceBEq, Nat.reduceAdd, Nat.reduceLeDiff, RA] <;> rfl) (.inl (by simp [allFresh, ints_fresh, bools_fresh])) ?_
  simp (disch := first | assumption | omega | rfl | simp only [RH]) only [↓RP, RG, FX, RQ, ↓reduceIte, Nat.reduceEqDiff, reduceCtorEq, Nat.reduceBEq, Nat.reduceAdd, Nat.reduceLeDiff]
  refine callK_F 6 (hm) (by simp (disch := first | assumption | omega | rfl | simp only [RH]) only [↓RP, RG, FX, RQ, ↓reduceIte, Nat.reduceEqDiff, reduceCtorEq, Nat.reduceBEq, Nat.reduceAdd, Nat.reduceLeDiff, RA] <;> rfl) (.inl (by simp [allFresh, ints_fresh, bools_fresh])) ?_
  simp (disch := first | assumption | omega | rfl | simp only [RH]) only [↓RP, RG, FX, RQ, ↓reduceIte, Nat.reduceEqDiff, reduceCtorEq, Nat.reduceBEq, Nat.reduceAdd, Nat.reduceLeDiff]
  refine callK_F 6 (f5) (by simp (disch := first | assumption | omega | rfl | simp only [RH]) only [↓RP, RG, FX, RQ, ↓reduceIte, Nat.reduceEqDiff, reduceCtorEq, Nat.reduceBEq, Nat.reduceAdd, Nat.reduceLeDiff, RA] <;> rfl) (.inl (by simp [allFresh, ints_fresh, bools_fresh])) ?_
  simp (disch := first | assumption | omega | rfl | simp only [RH]) only [↓RP, RG, FX, RQ, ↓reduceIte, Nat.reduceEqDiff, reduceCtorEq, Nat.reduceBEq, Nat.reduceAdd, Nat.reduceLeDiff]
  rw [append_litW (by rfl) (by rfl) (by rfl) (by omega) (by omega)]
  simp (disch := first | assumption | omega | rfl | simp only [RH]) only [↓RP, RG, FX, RQ, ↓reduceIte, Nat.reduceEqDiff, reduceCtorEq, Nat.reduceBEq, Nat.reduceAdd, Nat.reduceLeDiff]
  refine callK_F 6 (f6) (by simp (disch := first | assumption | omega | rfl | simp only [RH]) only [↓RP, RG, FX, RQ, ↓reduceIte, Nat.reduceEqDiff, reduceCtorEq, Nat.reduceBEq, Nat.reduceAdd, Nat.reduceLeDiff, RA] <;> rfl) (.inl (by simp [allFresh, ints_fresh, bools_fresh])) ?_
  simp (disch := first | assumption | omega | rfl | simp only [RH]) only [↓RP, RG, FX, RQ, ↓reduceIte, Nat.reduceEqDiff, reduceCtorEq, Nat.reduceBEq, Nat.reduceAdd, Nat.reduceLeDiff]
  refine callK_F 6 (f7) (by simp (disch := first | assumption | omega | rfl | simp only [RH]) only [↓RP, RG, FX, RQ, ↓reduceIte, Nat.reduceEqDiff, reduceCtorEq, Nat.reduceBEq, Nat.reduceAdd, Nat.reduceLeDiff, RA] <;> rfl) (.inl (by simp [allFresh, ints_fresh, bools_fresh])) ?_
  simp (disch := first | assumption | omega | rfl | simp only [RH]) only [↓RP, RG, FX, RQ, ↓reduceIte, Nat.reduceEqDiff, reduceCtorEq, Nat.reduceBEq, Nat.reduceAdd, Nat.reduceLeDiff]
  rw [append_refW (by rfl) (by omega) (by rfl) (by rfl) (by rfl) (by rfl) (by omega) (by omega)]
  simp (disch := first | assumption | omega | rfl | simp only [RH]) only [↓RP, RG, FX, RQ, ↓reduceIte, Nat.reduceEqDiff, reduceCtorEq, Nat.reduceBEq, Nat.reduceAdd, Nat.reduceLeDiff]
  obtain ⟨gs, hgs⟩ : ∃ gs : List (Nat × Nat × List Bool), gs = [(W, H, l1), (H, W, l2), (W, H, l3), (W2, H, l5), (c, d, l6)] := ⟨_, rfl⟩
  have hcs : [I W, I H, BR false l1, I H, I W, BR false l2, I W, I H, BR false l3, I W2, I H, BR false l5, I c, I d, BR false l6] = gcs gs := by rw [hgs]; rfl
  have hlen : gs.length = 5 := by rw [hgs]; rfl
  have hK : ∀ i, i < gs.length → Contract Tryd.prog 6 [GA (gs.getD i (0, 0, [])).1 (gs.getD i (0, 0, [])).2.1 false (gs.getD i (0, 0, [])).2.2] (.tuple [B r, I 0]) := by
    intro i hi
    rw [hlen] at hi
    rw [hgs]
    rcases (by omega : i = 0 ∨ i = 1 ∨ i = 2 ∨ i = 3 ∨ i = 4) with rfl | rfl | rfl | rfl | rfl
    · exact k1
    · exact k2
    · exact k3
    · exact k5
    · exact k6
  rw [hcs]
  have hgl := gcs_len gs
  have hgd := fun i hi => gcs_drop (gs := gs) (i := i) hi
  rw [hlen] at hgl hK
  generalize gcs gs = cs at *
  have hca : cA (some ⟨24, 3, cs⟩) (5 * 3) = some cs := by simp only [cA, hgl, if_true]
  refine loopK_I [9, 17, 26] (fun i : Nat => i ≤ 5) (fun i => ⟨[(9, B r), (17, .ref 6 0 5 (5 * 3)), (26, I i)], [⟨24, 3, [I W, I H, BA b l]⟩, ⟨24, 3, [I W, I H, BR false l1]⟩, ⟨24, 3, [I H, I W, BR false l2]⟩, ⟨24, 3, [I W, I H, BR false l3]⟩, ⟨24, 3, [I 0, I 0, BR true []]⟩, ⟨24, 3, [I W2, I H, BR false l5]⟩, ⟨24, 3, cs⟩, ⟨37, 7, [I c, I d, LR ks.isEmpty ks, LR ms.isEmpty ms, I d, I c, BR lt.isEmpty lt]⟩, ⟨24, 3, [I c, I d, BR false l6]⟩]⟩) (fun i => 5 - i) 0 (by omega) (by simp only [↓RP, RG, FX, RQ, ↓reduceIte, Nat.reduceEqDiff, reduceCtorEq, Nat.reduceBEq, Nat.reduceAdd, Nat.reduceLeDiff]; rfl) ?_
  intro i hi
  by_cases hlt : i < 5
  · have hd := hgd i (by omega)
    have hk := hK i hlt
    simp (disch := first | assumption | omega | rfl | simp only [RH]) only [↓RP, RG, FX, RQ, ↓reduceIte, Nat.reduceEqDiff, reduceCtorEq, Nat.reduceBEq, Nat.reduceAdd, Nat.reduceLeDiff, Int.toNat_natCast, hd, hca, idxW_ref, Nat.zero_add, Option.map_some]
    refine callK_F 6 (hk) (by simp (disch := first | assumption | omega | rfl | simp only [RH]) only [↓RP, RG, FX, RQ, ↓reduceIte, Nat.reduceEqDiff, reduceCtorEq, Nat.reduceBEq, Nat.reduceAdd, Nat.reduceLeDiff, RA] <;> rfl) (.inl (by simp [allFresh, ints_fresh, bools_fresh])) ?_
    simp (disch := first | assumption | omega | rfl | simp only [RH]) only [↓RP, RG, FX, RQ, ↓reduceIte, Nat.reduceEqDiff, reduceCtorEq, Nat.reduceBEq, Nat.reduceAdd, Nat.reduceLeDiff, beq_self_eq_true, bne_self_eq_false]
    exact ⟨i + 1, by omega, rfl, by omega⟩
  · obtain rfl : i = 5 := by omega
    simp (disch := first | assumption | omega | rfl | simp only [RH]) only [↓RP, RG, FX, RQ, ↓reduceIte, Nat.reduceEqDiff, reduceCtorEq, Nat.reduceBEq, Nat.reduceAdd, Nat.reduceLeDiff, hca]
    refine callK_F 6 (hangAlive_c) (by simp (disch := first | assumption | omega | rfl | simp only [RH]) only [↓RP, RG, FX, RQ, ↓reduceIte, Nat.reduceEqDiff, reduceCtorEq, Nat.reduceBEq, Nat.reduceAdd, Nat.reduceLeDiff, RA] <;> rfl) (.inl (by simp [allFresh, ints_fresh, bools_fresh])) ?_
    simp (disch := first | assumption | omega | rfl | simp only [RH]) only [↓RP, RG, FX, RQ, ↓reduceIte, Nat.reduceEqDiff, reduceCtorEq, Nat.reduceBEq, Nat.reduceAdd, Nat.reduceLeDiff]
    rw [resVal_1 rfl]; simp (disch := first | assumption | omega | rfl | simp only [RH]) only [↓RP, RG, FX, RQ, ↓reduceIte, Nat.reduceEqDiff, reduceCtorEq, Nat.reduceBEq, Nat.reduceAdd, Nat.reduceLeDiff, RS]
end
theorem hangSame_c (w h : Int) (b : Bool) (l : List Bool) (dx dy axis : Int) : Contract Tryd.prog 3 [GA w h b l, I dx, I dy, I axis] (B true) := by
  classical
  by_cases hv : vld w h l
  rotate_left
  · have hV := valid10_c w h b l (decide (vld w h l)) decide_eq_true_iff
    rw [decide_eq_false hv] at hV
    refine Contract.intro (effS [] false) 6 follows Tryd.func3 rfl rfl (by kernel_rfl) (Nat.le_of_ble_eq_true rfl) ?_
    simp (disch := first | assumption | omega | rfl | simp only [RH]) only [↓RP, RG, FX, RQ, ↓reduceIte, Nat.reduceEqDiff, reduceCtorEq, Nat.reduceBEq, Nat.reduceAdd, Nat.reduceLeDiff, args0_4]
    refine callK_F 6 (hV) (by simp (disch := first | assumption | omega | rfl | simp only [RH]) only [↓RP, RG, FX, RQ, ↓reduceIte, Nat.reduceEqDiff, reduceCtorEq, Nat.reduceBEq, Nat.reduceAdd, Nat.reduceLeDiff, RA] <;> rfl) (.inl (by simp [allFresh, ints_fresh, bools_fresh])) ?_
    simp (disch := first | assumption | omega | rfl | simp only [RH]) only [↓RP, RG, FX, RQ, ↓reduceIte, Nat.reduceEqDiff, reduceCtorEq, Nat.reduceBEq, Nat.reduceAdd, Nat.reduceLeDiff]
    refine callK_F 6 (hangAlive_c) (by simp (disch := first | assumption | omega | rfl | simp only [RH]) only [↓RP, RG, FX, RQ, ↓reduceIte, Nat.reduceEqDiff, reduceCtorEq, Nat.reduceBEq, Nat.reduceAdd, Nat.reduceLeDiff, RA] <;> rfl) (.inl (by simp [allFresh, ints_fresh, bools_fresh])) ?_
    simp (disch := first | assumption | omega | rfl | simp only [RH]) only [↓RP, RG, FX, RQ, ↓reduceIte, Nat.reduceEqDiff, reduceCtorEq, Nat.reduceBEq, Nat.reduceAdd, Nat.reduceLeDiff]
    rw [resVal_1 rfl]; simp (disch := first | assumption | omega | rfl | simp only [RH]) only [↓RP, RG, FX, RQ, ↓reduceIte, Nat.reduceEqDiff, reduceCtorEq, Nat.reduceBEq, Nat.reduceAdd, Nat.reduceLeDiff, RS]
  obtain ⟨W, H, n, rfl, rfl, hN, hW0, hH0, hn24, hn⟩ := vld_nat hv
  have hm := mirrorP_c hW0 hH0 (by omega) (by omega) b hn axis
  by_cases c0 : axis = 0
  · rw [if_pos c0] at hm
    exact hangSame_b hN hW0 hH0 hn24 b hn hv dx dy axis _ hm (tabN_len _ _ _) (hg_tab hN hN (by omega) _ _ (fun x _ => by omega) (fun x hx => ⟨W - 1 - x, by omega, by show W - 1 - (W - 1 - x) = x; omega⟩) (fun x hx => hx) (fun x hx => ⟨x, hx, rfl⟩))
  rw [if_neg c0] at hm
  by_cases c1 : axis = 1
  · rw [if_pos c1] at hm
    exact hangSame_b hN hW0 hH0 hn24 b hn hv dx dy axis _ hm (tabN_len _ _ _) (hg_tab hN hN (by omega) _ _ (fun x hx => hx) (fun x hx => ⟨x, hx, rfl⟩) (fun x _ => by omega) (fun x hx => ⟨H - 1 - x, by omega, by show H - 1 - (H - 1 - x) = x; omega⟩))
  rw [if_neg c1] at hm
  exact hangSame_a hN hW0 hH0 hn24 b hn hv dx dy axis hm
end Go.Proofs.YtmllhogaiahphaaDoor
