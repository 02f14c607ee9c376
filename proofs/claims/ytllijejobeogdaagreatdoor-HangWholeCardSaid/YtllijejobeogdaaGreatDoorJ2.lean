/- Part 2 of the proof's own texts: the contracts of functions, and what they rest on. -/
import Derived.Test.YtllijejobeogdaaGreatDoorJ1
import Derived.Test.YtllijejobeogdaaGreatDoorBw5
/- Chapter 8: the floats of one side of a thread, yielded. -/
set_option linter.unusedSimpArgs false
set_option linter.unusedVariables false
set_option maxRecDepth 100000
namespace Go.Proofs.YtllijejobeogdaaGreatDoor
open Go Go.Proofs Go.AW

/-- The objects name no others than these, whatever is kept of others. -/
def ShutA (m : Nat) (h : List AObj) : Prop := h.length = m ∧ ∀ o ∈ h, ∀ x ∈ o.cells, ∀ ks, ren (keepF m ks) 8 x = x
theorem ShutA.shut {m : Nat} {h : List AObj} (hs : ShutA m h) : Shut m h := ⟨hs.1, fun o ho x hx => hs.2 o ho x hx []⟩
theorem rem_nat {x n : Nat} (hn : 0 < n) (hn2 : n ≤ 1000000000) : aInt .rem .i64 (x : Int) (n : Int) = some (I (x % n : Nat)) := by
  have : (n : Int) ≠ 0 := by omega
  have hx : (x : Int).tmod n = ((x % n : Nat) : Int) := by rw [Int.tmod_eq_emod_of_nonneg (by omega)]; exact (Int.natCast_emod x n).symm
  simp only [aInt]; rw [if_neg (by omega), hx]
section
variable {f : List Bool} {n : Nat} (hn : f.length = n) (h0 : 0 < n) (hn2 : n ≤ 1000) (w c : Bool) (a m k p1 p2 : Nat) (hs ex : Nat → List AObj)
include hn h0 hn2
theorem floatsY_w (hsh : ∀ j, j ≤ 1 → ShutA m (hs j)) (hc : ∀ i, i < n → f.getD i false = c) (q1 : (hs 0)[p1]? = some ⟨61, 3, [B w, I a, .ref k 0 n n]⟩) (q2 : (hs 0)[p2]? = some ⟨4, 1, [B c]⟩) (q3 : (hs 0)[k]? = some ⟨4, 1, bools f⟩) :
    SpecY Tryz.prog 42 (stepsO 1 hs (fun _ => []) ex (fun j => flA (flD [flW w a f] j))) [.ptr p1 0 3, .ptr p2 0 1] (hs 0) (hs 1) := by
  have hm0 : (hs 0).length = m := (hsh 0 (by omega)).1
  have hm1 : (hs 1).length = m := (hsh 1 (by omega)).1
  have hix := indexB_no (c := c) (show f.length ≤ 1000000 by omega) (by rw [hn]; exact hc)
  refine SpecY.intro (effS [] false) follows Tryz.func42 rfl rfl (by kernel_rfl) (Nat.le_of_ble_eq_true rfl) rfl (fun yv => ?_)
  have q4 : cA (hs 0)[k]? n = some (bools f) := by rw [q3, cA_bools hn]
  simp (disch := first | assumption | omega | rfl | simp only [RH]) only [↓RP, RG, FX, RQ, ↓reduceIte, Nat.reduceEqDiff, reduceCtorEq, Nat.reduceBEq, Nat.reduceAdd, Nat.reduceLeDiff, args0_3, q1, q2, q4]
  refine callK_F 6 hix (by simp (disch := first | assumption | omega | rfl | simp only [RH]) only [↓RP, RG, FX, RQ, ↓reduceIte, Nat.reduceEqDiff, reduceCtorEq, Nat.reduceBEq, Nat.reduceAdd, Nat.reduceLeDiff, RA, q1, q2, q3, aX_bools hn.symm hn.symm] <;> rfl) (.inl rfl) ?_
  simp (disch := first | assumption | omega | rfl | simp only [RH]) only [↓RP, RG, FX, RQ, ↓reduceIte, Nat.reduceEqDiff, reduceCtorEq, Nat.reduceBEq, Nat.reduceAdd, Nat.reduceLeDiff, q1, q2]
  refine callK_Y rfl (stepsO_at 0 (by omega) (by show _ = flA (flW w a f); unfold flA flW flc; rw [hn]; rfl) (by simp) rfl) ?_
  simp (disch := first | assumption | omega | rfl | simp only [RH]) only [↓RP, RG, FX, RQ, ↓reduceIte, Nat.reduceEqDiff, reduceCtorEq, Nat.reduceBEq, Nat.reduceAdd, Nat.reduceLeDiff]
  have := Wk.shut (hb := hs 0) (h1 := hs 1) (gs := [] ++ ex 0) (env := []) (by omega) (by rw [hm0]; exact (hsh 1 (by omega)).shut)
  simpa using this
/-- The floats that are found, and one's own variable. -/
def owF (w : Bool) (a : Nat) (f : List Bool) (c : Bool) (j : Nat) : List AObj := [goW 37 5 (fls (stL w a f c)), ⟨37, 5, flc (flD (stL w a f c) j)⟩]
theorem floatsY_s {s : Nat} (hk : k < m) (hp1 : p1 < m) (hp2 : p2 < m) (hsn : s < n) (hcs : f.getD s false ≠ c) (hcf : ∀ i, i < s → f.getD i false = c) (hsh : ∀ j, j ≤ (sts f c).length → ShutA m (hs j)) (q1 : (hs 0)[p1]? = some ⟨61, 3, [B w, I a, .ref k 0 n n]⟩) (q2 : (hs 0)[p2]? = some ⟨4, 1, [B c]⟩) (q3 : (hs 0)[k]? = some ⟨4, 1, bools f⟩) :
    SpecY Tryz.prog 42 (stepsO (sts f c).length hs (owF w a f c) ex (fun j => flA (flD (stL w a f c) j))) [.ptr p1 0 3, .ptr p2 0 1] (hs 0) (hs (sts f c).length) := by
  have hm : ∀ j, j ≤ (sts f c).length → (hs j).length = m := fun j hj => (hsh j hj).1
  have hm0 : (hs 0).length = m := hm 0 (by omega)
  have hix := indexB_yes (show f.length ≤ 1000000 by omega) (by rw [hn]; exact hsn) hcs hcf
  have hmi : ∀ i, (mets f c s i).length ≤ i := fun i => mets_len f c s i
  have hrl : (rotF f s).length = n := by rw [rotF_len, hn]
  refine SpecY.intro (effS [] false) follows Tryz.func42 rfl rfl (by kernel_rfl) (Nat.le_of_ble_eq_true rfl) rfl (fun yv => ?_)
  have q4 : cA (hs 0)[k]? n = some (bools f) := by rw [q3, cA_bools hn]
  simp (disch := first | assumption | omega | rfl | simp only [RH]) only [↓RP, RG, FX, RQ, ↓reduceIte, Nat.reduceEqDiff, reduceCtorEq, Nat.reduceBEq, Nat.reduceAdd, Nat.reduceLeDiff, args0_3, q1, q2, q4]
  refine callK_F 6 hix (by simp (disch := first | assumption | omega | rfl | simp only [RH]) only [↓RP, RG, FX, RQ, ↓reduceIte, Nat.reduceEqDiff, reduceCtorEq, Nat.reduceBEq, Nat.reduceAdd, Nat.reduceLeDiff, RA, q1, q2, q3, aX_bools hn.symm hn.symm] <;> rfl) (.inl rfl) ?_
  simp (disch := first | assumption | omega | rfl | simp only [RH]) only [↓RP, RG, FX, RQ, ↓reduceIte, Nat.reduceEqDiff, reduceCtorEq, Nat.reduceBEq, Nat.reduceAdd, Nat.reduceLeDiff, q1, q2]
  have g1 : ∀ r, (hs 0 ++ r)[p1]? = some ⟨61, 3, [B w, I a, .ref k 0 n n]⟩ := fun r => by rw [hAt_low _ (by omega)]; exact q1
  have g2 : ∀ r, (hs 0 ++ r)[p2]? = some ⟨4, 1, [B c]⟩ := fun r => by rw [hAt_low _ (by omega)]; exact q2
  have g4 : ∀ r, cA (hs 0 ++ r)[k]? n = some (bools f) := fun r => by rw [hAt_low _ (by omega)]; exact q4
  refine loopK_WW [0, 1, 2, 4, 5, 6, 7] (fun i : Nat => 1 ≤ i ∧ i ≤ n + 1 ∧ (i ≤ n → (rotF f s).getD (i - 1) false ≠ c)) (fun i => ⟨[(0, .val yv), (1, .ptr p1 0 3), (2, .ptr p2 0 1), (4, I n), (5, I s), (6, gwW 5 (hs 0).length (mets f c s i).length), (7, I i)], hs 0 ++ [goW 37 5 (fls (mtF w a f c s i))]⟩) (fun i => n + 1 - i) 1 ⟨by omega, by omega, fun _ => by rw [rotF_get (by omega), hn, Nat.add_zero, Nat.mod_eq_of_lt hsn]; exact hcs⟩ ?_ ?_
  · simp only [↓RP, RG, FX, RQ, ↓reduceIte, Nat.reduceEqDiff, reduceCtorEq, Nat.reduceBEq, Nat.reduceAdd, Nat.reduceLeDiff]
    have e1 : mets f c s 1 = [] := mets_1 f c s
    rw [e1, show mtF w a f c s 1 = [] by simp [mtF, e1]]
    refine Wk.weak (WE.cons _ (.refl _) (WE.cons _ (.refl _) (WE.cons _ (.refl _) (WE.cons _ (.refl _) (WE.cons _ (.refl _) (WE.cons _ (.nil _) (WE.cons _ (.refl _) WE.nil))))))) ?_
    have h9 : WO (hs 0 ++ []) (hs 0 ++ [goW 37 5 (fls [])]) := .app (hs 0) (.nil _ (by simp [goW, fls_nil]))
    rwa [List.append_nil] at h9
  intro i ⟨hi1, hi2, hi3⟩
  by_cases hlt : i < n
  · obtain ⟨at', hat⟩ : ∃ at' : Nat, at' = (s + i) % n := ⟨_, rfl⟩
    have hatn : at' < n := by rw [hat]; exact Nat.mod_lt _ h0
    have hrem : aInt .rem .i64 ((s : Int) + (i : Int)) (n : Int) = some (I at') := by
      rw [show (s : Int) + (i : Int) = ((s + i : Nat) : Int) by omega, hat]; exact rem_nat h0 (by omega)
    have hrg : (rotF f s).getD i false = f.getD at' false := by rw [rotF_get (by omega), hn, ← hat]
    by_cases hq : f.getD at' false = c
    · have hq2 : (!(f.getD at' false == c)) = false := by rw [hq]; simp
      have hst : stF (rotF f s) c i = true := stF_iff.2 ⟨by omega, by omega, by rw [hrg]; exact hq, hi3 (by omega)⟩
      have hrun := runF_le (rotF f s) c i
      simp (disch := first | assumption | omega | rfl | simp only [RH]) only [↓RP, RG, FX, RQ, ↓reduceIte, Nat.reduceEqDiff, reduceCtorEq, Nat.reduceBEq, Nat.reduceAdd, Nat.reduceLeDiff, g1, g2, g4, hrem, hq2, Int.toNat_natCast, effY_b, effY_n, effY_f, effY_l, effY_z, effY_D]
      refine loopK_WW [0, 1, 2, 4, 5, 6, 7, 9] (fun t : Nat => t ≤ runF (rotF f s) c i) (fun t => ⟨[(0, .val yv), (1, .ptr p1 0 3), (2, .ptr p2 0 1), (4, I n), (5, I s), (6, gwW 5 (hs 0).length (mets f c s i).length), (7, I (i + t : Nat)), (9, .ptr ((hs 0).length + 1) 0 5)], hs 0 ++ [goW 37 5 (fls (mtF w a f c s i)), ⟨37, 5, [B w, I a, I at', I t, B false]⟩]⟩) (fun t => n - t) 0 (by omega) (Wk.of_eq (by simp only [↓RP, RG, FX, RQ, ↓reduceIte, Nat.reduceEqDiff, reduceCtorEq, Nat.reduceBEq, Nat.reduceAdd, Nat.reduceLeDiff]; rfl)) ?_
      intro t ht
      obtain ⟨at2, hat2⟩ : ∃ at2 : Nat, at2 = (s + (i + t)) % n := ⟨_, rfl⟩
      have hatn2 : at2 < n := by rw [hat2]; exact Nat.mod_lt _ h0
      have hrem2 : aInt .rem .i64 ((s : Int) + ((i + t : Nat) : Int)) (n : Int) = some (I at2) := by
        rw [show (s : Int) + ((i + t : Nat) : Int) = ((s + (i + t) : Nat) : Int) by omega, hat2]; exact rem_nat h0 (by omega)
      have hrl2 := runF_lt ht
      rw [hrl] at hrl2
      by_cases hx : t < runF (rotF f s) c i
      · obtain ⟨hy1, hy2⟩ := hrl2.1 hx
        have hg2 : f.getD at2 false = c := by rw [← hy2, rotF_get (by omega), hn, ← hat2]
        have hq3 : (f.getD at2 false == c) = true := by rw [hg2]; simp
        simp (disch := first | assumption | omega | rfl | simp only [RH]) only [↓RP, RG, FX, RQ, ↓reduceIte, Nat.reduceEqDiff, reduceCtorEq, Nat.reduceBEq, Nat.reduceAdd, Nat.reduceLeDiff, g1, g2, g4, hrem2, hq3, Int.toNat_natCast, effY_b, effY_n, effY_f, effY_l, effY_z, effY_D]
        exact ⟨t + 1, by omega, Wk.of_eq rfl, by omega⟩
      · have hap : ∀ ys, aAppend Tryz.prog 30 (hs 0 ++ [goW 37 5 (fls (mtF w a f c s i)), ys]) (gwW 5 (hs 0).length (mets f c s i).length) (.lit 1 [B w, I a, I at', I t, B false]) = some (gwW 5 (hs 0).length ((mets f c s i).length + 1), (hs 0 ++ [goW 37 5 (fls (mtF w a f c s i)), ys]).set (hs 0).length (goW 37 5 (fls (mtF w a f c s i) ++ [B w, I a, I at', I t, B false]))) := fun ys => append_W (by rw [hAt_app0]; rfl) (by rw [fls_length, mtF_len]) rfl rfl (by have := hmi i; omega) (by have := hmi i; omega)
        have hm1 : mets f c s (i + t + 1) = mets f c s i ++ [at'] := by
          have : t = runF (rotF f s) c i := by omega
          rw [this, mets_run hst, hn]; simp only [hereF, ← hat]
        have hm2 : mtF w a f c s (i + t + 1) = mtF w a f c s i ++ [⟨w, a, at', t, false⟩] := by
          have h1 : lenR f c at' = t := by
            have := run_len (f := f) (c := c) (s := s) (r := i) (by omega) hcs (by omega)
            rw [hn] at this
            have h2 : hereF n s i = at' := hat.symm
            rw [h2] at this; omega
          simp only [mtF, hm1, List.map_append, List.map_cons, List.map_nil, flI, h1]
        have hlast : i + t + 1 ≤ n → (rotF f s).getD (i + t + 1 - 1) false ≠ c := fun hle => by
          have : t = runF (rotF f s) c i := by omega
          rw [Nat.add_sub_cancel, this]; exact runF_end (by omega)
        have fin : ∃ y : Nat, (1 ≤ y ∧ y ≤ n + 1 ∧ (y ≤ n → (rotF f s).getD (y - 1) false ≠ c)) ∧ Wk (hs 0) ⟨[(0, .val yv), (1, .ptr p1 0 3), (2, .ptr p2 0 1), (4, I n), (5, I s), (6, gwW 5 (hs 0).length ((mets f c s i).length + 1)), (7, I ((i + t : Nat) + 1))], hs 0 ++ [goW 37 5 (fls (mtF w a f c s i) ++ [B w, I a, I at', I t, B false]), ⟨37, 5, [B w, I a, I at', I t, B false]⟩]⟩ ⟨[(0, .val yv), (1, .ptr p1 0 3), (2, .ptr p2 0 1), (4, I n), (5, I s), (6, gwW 5 (hs 0).length (mets f c s y).length), (7, I y)], hs 0 ++ [goW 37 5 (fls (mtF w a f c s y))]⟩ ∧ n + 1 - y < n + 1 - i := by
          refine ⟨i + t + 1, ⟨by omega, by omega, hlast⟩, (Wk.drop (hb := hs 0) (h1 := hs 0) (gs := [_, _]) 8 [0] rfl (by simp) (by simp) (fun i o ho => .inl ho)).trans (Wk.of_eq ?_), by omega⟩
          rw [hm1, hm2, fls_app, fls_one1]
          have e1 : goW 37 5 (fls (mtF w a f c s i) ++ [B w, I a, I at', I t, B false]) = goW 37 5 (fls (mtF w a f c s i ++ [⟨w, a, at', t, false⟩])) := by rw [fls_app, fls_one1]; rfl
          have e2 : goW 37 5 (fls (mtF w a f c s i) ++ flc ⟨w, a, at', t, false⟩) = goW 37 5 (fls (mtF w a f c s i ++ [⟨w, a, at', t, false⟩])) := by rw [fls_app, fls_one1]
          rw [e1, e2]
          simp only [List.map_cons, List.map_nil, List.getD_cons_zero, renO_goF, List.length_append, List.length_singleton, ren_gwF _ _ _ _ _ (show keepF (hs 0).length [0] (hs 0).length = some (hs 0).length by simp [keepF])]
          simp only [ren, keepF, hm0, if_pos hp1, if_pos hp2]
          rfl
        by_cases hx2 : i + t < n
        · have hg2 : f.getD at2 false ≠ c := fun h => hx (hrl2.2 ⟨hx2, by rw [rotF_get (by omega), hn, ← hat2]; exact h⟩)
          have hq3 : (f.getD at2 false == c) = false := by simpa using hg2
          simp (disch := first | assumption | omega | rfl | simp only [RH]) only [↓RP, RG, FX, RQ, ↓reduceIte, Nat.reduceEqDiff, reduceCtorEq, Nat.reduceBEq, Nat.reduceAdd, Nat.reduceLeDiff, g1, g2, g4, hrem2, hq3, Int.toNat_natCast, effY_b, effY_n, effY_f, effY_l, effY_z, effY_D, hap]
          exact fin
        · simp (disch := first | assumption | omega | rfl | simp only [RH]) only [↓RP, RG, FX, RQ, ↓reduceIte, Nat.reduceEqDiff, reduceCtorEq, Nat.reduceBEq, Nat.reduceAdd, Nat.reduceLeDiff, g1, g2, g4, hrem2, Int.toNat_natCast, effY_b, effY_n, effY_f, effY_l, effY_z, effY_D, hap]
          exact fin
    · have hq2 : (!(f.getD at' false == c)) = true := by simpa using hq
      simp (disch := first | assumption | omega | rfl | simp only [RH]) only [↓RP, RG, FX, RQ, ↓reduceIte, Nat.reduceEqDiff, reduceCtorEq, Nat.reduceBEq, Nat.reduceAdd, Nat.reduceLeDiff, g1, g2, g4, hrem, hq2, Int.toNat_natCast, effY_b, effY_n, effY_f, effY_l, effY_z, effY_D]
      have e1 : mets f c s (i + 1) = mets f c s i := mets_no (by rw [hrg]; exact hq)
      exact ⟨i + 1, ⟨by omega, by omega, fun _ => by rw [Nat.add_sub_cancel, hrg]; exact hq⟩, Wk.of_eq (by rw [show mtF w a f c s (i + 1) = mtF w a f c s i by simp only [mtF, e1], e1]; rfl), by omega⟩
  · have hN : (mets f c s n).length = (sts f c).length := by
      have hnd := mets_nodup (f := f) (c := c) (s := s) (by omega)
      have hnd2 : (sts f c).Nodup := (sts_sorted f c).imp (fun h => by omega)
      rw [← hn]
      exact ((List.perm_ext_iff_of_nodup hnd hnd2).2 fun x => mets_mem (by omega) hcs x).length_eq
    have hov : mets f c s i = mets f c s n := by rw [mets_over (by omega), hn]
    have hov2 : mtF w a f c s i = mtF w a f c s n := by simp only [mtF, hov]
    rw [hov, hov2, hN]
    by_cases hN0 : (sts f c).length = 0
    · have e1 : stL w a f c = [] := List.eq_nil_of_length_eq_zero (by rw [stL_len]; exact hN0)
      rw [hN0, show gwW 5 (hs 0).length 0 = .res (hs 0).length from rfl]
      simp (disch := first | assumption | omega | rfl | simp only [RH]) only [↓RP, RG, FX, RQ, ↓reduceIte, Nat.reduceEqDiff, reduceCtorEq, Nat.reduceBEq, Nat.reduceAdd, Nat.reduceLeDiff]
      refine callK_F 6 (sortF_nil _) (by simp (disch := first | assumption | omega | rfl | simp only [RH]) only [↓RP, RG, FX, RQ, ↓reduceIte, Nat.reduceEqDiff, reduceCtorEq, Nat.reduceBEq, Nat.reduceAdd, Nat.reduceLeDiff, RA] <;> rfl) (.inl rfl) ?_
      simp (disch := first | assumption | omega | rfl | simp only [RH]) only [↓RP, RG, FX, RQ, ↓reduceIte, Nat.reduceEqDiff, reduceCtorEq, Nat.reduceBEq, Nat.reduceAdd, Nat.reduceLeDiff]
      refine loopK_WW [82, 83] (fun _ : Nat => True) (fun _ => ⟨[(82, I 0), (83, I 0)], hs 0⟩) (fun x => x) 0 trivial ?_ (fun x _ => ?_)
      · simp only [↓RP, RG, FX, RQ, ↓reduceIte, Nat.reduceEqDiff, reduceCtorEq, Nat.reduceBEq, Nat.reduceAdd, Nat.reduceLeDiff]
        exact (Wk.shut (hb := hs 0) (h1 := hs 0) rfl (by rw [hm0]; exact (hsh 0 (by omega)).shut)).trans (Wk.of_eq rfl)
      · simp (disch := first | assumption | omega | rfl | simp only [RH]) only [↓RP, RG, FX, RQ, ↓reduceIte, Nat.reduceEqDiff, reduceCtorEq, Nat.reduceBEq, Nat.reduceAdd, Nat.reduceLeDiff]
        exact Wk.refl _ _
    · have hpos : 0 < (sts f c).length := by omega
      have hmp : 0 < (mtF w a f c s n).length := by rw [mtF_len, hN]; exact hpos
      have hsp : 0 < (stL w a f c).length := by rw [stL_len]; exact hpos
      rw [gwW_pos hpos, goF_pos hmp]
      have hso := sortF_s w c a (f := f) (s := s) (h := hs 0 ++ [⟨37, 5, fls (mtF w a f c s n)⟩]) (id := (hs 0).length) (by omega) (by omega) hcs (by rw [hAt_app0, hn]; rfl) hpos
      rw [hSet_app0] at hso
      simp (disch := first | assumption | omega | rfl | simp only [RH]) only [↓RP, RG, FX, RQ, ↓reduceIte, Nat.reduceEqDiff, reduceCtorEq, Nat.reduceBEq, Nat.reduceAdd, Nat.reduceLeDiff]
      refine callK_T rfl hso ?_
      have hcA : cA (some ⟨37, 5, fls (stL w a f c)⟩) ((sts f c).length * 5) = some (fls (stL w a f c)) := cA_fls (by rw [stL_len])
      have hNl : (sts f c).length ≤ 1000 := by have := sts_len f c; omega
      simp (disch := first | assumption | omega | rfl | simp only [RH]) only [↓RP, RG, FX, RQ, ↓reduceIte, Nat.reduceEqDiff, reduceCtorEq, Nat.reduceBEq, Nat.reduceAdd, Nat.reduceLeDiff, hcA]
      refine loopK_WW [0, 81, 82, 83] (fun j : Nat => j ≤ (sts f c).length) (fun j => ⟨[(0, .val yv), (81, .ref (hs 0).length 0 (sts f c).length ((sts f c).length * 5)), (82, I (sts f c).length), (83, I j)], hs j ++ [⟨37, 5, fls (stL w a f c)⟩]⟩) (fun j => (sts f c).length - j) 0 (by omega) (Wk.of_eq (by simp only [↓RP, RG, FX, RQ, ↓reduceIte, Nat.reduceEqDiff, reduceCtorEq, Nat.reduceBEq, Nat.reduceAdd, Nat.reduceLeDiff]; rfl)) ?_
      intro j hj
      by_cases hlt : j < (sts f c).length
      · have hmj : (hs j).length = (hs 0).length := by rw [hm j hj, hm0]
        have hmj1 : (hs (j + 1)).length = (hs 0).length := by rw [hm (j + 1) hlt, hm0]
        have hpx : pX (some (true, 5)) ((fls (stL w a f c)).drop (j * 5)) = some (.agg [B (flD (stL w a f c) j).w, I (flD (stL w a f c) j).a, I (flD (stL w a f c) j).f, I (flD (stL w a f c) j).n, B (flD (stL w a f c) j).z]) := pX_fls (by rw [stL_len]; exact hlt)
        have hgj : (hs j ++ [(⟨37, 5, fls (stL w a f c)⟩ : AObj)])[(hs 0).length]? = some ⟨37, 5, fls (stL w a f c)⟩ := by rw [← hmj, hAt_app0]; rfl
        have hix2 : aIdx Tryz.prog 30 (hs j ++ [(⟨37, 5, fls (stL w a f c)⟩ : AObj)]) (.ref (hs 0).length 0 (sts f c).length ((sts f c).length * 5)) (I j) = some (.ptr (hs 0).length (j * 5) ((sts f c).length * 5)) := by
          rw [idxW_ref (by omega) (by omega), hgj, hcA]; simp
        simp (disch := first | assumption | omega | rfl | simp only [RH]) only [↓RP, RG, FX, RQ, ↓reduceIte, Nat.reduceEqDiff, reduceCtorEq, Nat.reduceBEq, Nat.reduceAdd, Nat.reduceLeDiff, hgj, hcA, hpx, hix2, Int.toNat_natCast]
        refine callK_Y rfl (stepsO_at j hlt rfl (by unfold owF; rw [goF_pos hsp]; rfl) rfl) ?_
        simp (disch := first | assumption | omega | rfl | simp only [RH]) only [↓RP, RG, FX, RQ, ↓reduceIte, Nat.reduceEqDiff, reduceCtorEq, Nat.reduceBEq, Nat.reduceAdd, Nat.reduceLeDiff]
        refine ⟨j + 1, hlt, (Wk.drop (hb := hs 0) (h1 := hs (j + 1)) (gs := owF w a f c j ++ ex j) 8 [0] hmj1 (by simp) (by simp [owF]) (fun i o ho => .inr ?_)).trans (Wk.of_eq ?_), by omega⟩
        · exact fun x hx => by rw [hm0]; exact (hsh (j + 1) hlt).2 o (List.mem_of_getElem? ho) x hx [0]
        · have e1 := renO_goF (keepF (hs 0).length [0]) 7 37 5 (stL w a f c)
          simp only [owF, List.map_cons, List.map_nil, List.cons_append, List.getD_cons_zero, e1]
          rw [goF_pos hsp]
          simp [ren, keepF]
      · obtain rfl : (sts f c).length = j := by omega
        simp (disch := first | assumption | omega | rfl | simp only [RH]) only [↓RP, RG, FX, RQ, ↓reduceIte, Nat.reduceEqDiff, reduceCtorEq, Nat.reduceBEq, Nat.reduceAdd, Nat.reduceLeDiff]
        exact (Wk.shut (hb := hs 0) (h1 := hs (sts f c).length) (by rw [hm _ (by omega), hm0]) (by rw [hm0]; exact (hsh _ (by omega)).shut)).trans (Wk.of_eq rfl)
end
end Go.Proofs.YtllijejobeogdaaGreatDoor

/- Chapter 8: the floats of one side of a cloth. -/
set_option linter.unusedSimpArgs false
set_option linter.unusedVariables false
set_option maxRecDepth 100000
namespace Go.Proofs.YtllijejobeogdaaGreatDoor
open Go Go.Proofs Go.AW

/-- The floats of one side of a thread. -/
def thF (w : Bool) (a : Nat) (f : List Bool) (c : Bool) : List Fl := if tw c f = f.length then [flW w a f] else stL w a f c
theorem tw_all {c : Bool} {f : List Bool} (h : tw c f = f.length) : ∀ i, i < f.length → f.getD i false = c := fun i hi => tw_in c f i (by omega)
theorem thF_len (w : Bool) (a : Nat) {f : List Bool} (c : Bool) (h0 : 0 < f.length) : (thF w a f c).length ≤ f.length := by
  unfold thF
  split
  · simp; omega
  · rw [stL_len]; exact sts_len f c
/-- .. of thread number k. -/
def thK (W H : Nat) (l : List Bool) (c : Bool) (k : Nat) : List Fl := thF (decide (k < W)) (if k < W then k else k - W) (faK W H l k) c
theorem faK_len (W H : Nat) (l : List Bool) (k : Nat) : (faK W H l k).length = if k < W then H else W := by
  unfold faK; split
  · exact faC_len W H l k
  · exact faR_len W l (k - W)
def sdK (W H : Nat) (l : List Bool) (c : Bool) (wt : Fl → Bool) (k : Nat) : List Fl := (List.range k).flatMap fun i => (thK W H l c i).filter wt
theorem sdK_0 (W H : Nat) (l : List Bool) (c : Bool) (wt : Fl → Bool) : sdK W H l c wt 0 = [] := rfl
theorem sdK_succ (W H : Nat) (l : List Bool) (c : Bool) (wt : Fl → Bool) (k : Nat) : sdK W H l c wt (k + 1) = sdK W H l c wt k ++ (thK W H l c k).filter wt := by
  simp [sdK, List.range_succ]
theorem filter_take {xs : List Fl} (wt : Fl → Bool) {j : Nat} (hj : j < xs.length) : (xs.take (j + 1)).filter wt = (xs.take j).filter wt ++ if wt (flD xs j) then [flD xs j] else [] := by
  rw [List.take_add_one, List.getElem?_eq_getElem hj, List.filter_append, flD_get hj]
  simp [List.filter_cons]
theorem sdK_len {W H : Nat} (hW0 : 0 < W) (hH0 : 0 < H) (hW : W ≤ 64) (hH : H ≤ 64) (l : List Bool) (c : Bool) (wt : Fl → Bool) : ∀ k, (sdK W H l c wt k).length ≤ k * 64
  | 0 => by simp [sdK_0]
  | k + 1 => by
    have h1 := sdK_len hW0 hH0 hW hH l c wt k
    have h2 := List.length_filter_le wt (thK W H l c k)
    have hl := faK_len W H l k
    have h3 : (thK W H l c k).length ≤ (faK W H l k).length := thF_len _ _ _ (by rw [hl]; split <;> omega)
    have h4 : (faK W H l k).length ≤ 64 := by rw [hl]; split <;> omega
    rw [sdK_succ, List.length_append]; omega
/-- The objects name no others than these, wherever they stand. -/
def ShutB (h : List AObj) : Prop := ∀ o ∈ h, ∀ x ∈ o.cells, ∀ m ks, h.length ≤ m → ren (keepF m ks) 8 x = x
theorem keepF_low {m id : Nat} (ks : List Nat) (h : id < m) : keepF m ks id = some id := by simp [keepF, h]
/-- .. as a loop's rounds meet them. -/
theorem floatsY_k (c : Bool) {k : Nat} (a m i0 p1 p2 n : Nat) (w : Bool) {f : List Bool} (hf : f.length = n) (hn0 : 0 < n) (hn2 : n ≤ 64) (hi0 : i0 < m) (hp1 : p1 < m) (hp2 : p2 < m) (hs ex : Nat → List AObj) (hsh : ∀ j, j ≤ (thF w a f c).length → ShutA m (hs j))
    (q1 : (hs 0)[p1]? = some ⟨61, 3, [B w, I a, .ref i0 0 n n]⟩) (q2 : (hs 0)[p2]? = some ⟨4, 1, [B c]⟩) (q3 : (hs 0)[i0]? = some ⟨4, 1, bools f⟩) :
    ∃ own, SpecY Tryz.prog 42 (stepsO (thF w a f c).length hs own ex (fun j => flA (flD (thF w a f c) j))) [.ptr p1 0 3, .ptr p2 0 1] (hs 0) (hs (thF w a f c).length) := by
  by_cases hw : tw c f = f.length
  · have e : thF w a f c = [flW w a f] := if_pos hw
    rw [e] at hsh ⊢
    exact ⟨_, floatsY_w hf hn0 (by omega) w c a m i0 p1 p2 hs ex hsh (by rw [← hf]; exact tw_all hw) q1 q2 q3⟩
  · have e : thF w a f c = stL w a f c := if_neg hw
    have hle := tw_le c f
    rw [e] at hsh ⊢
    rw [stL_len] at hsh ⊢
    exact ⟨_, floatsY_s hf hn0 (by omega) w c a m i0 p1 p2 hs ex (s := tw c f) hi0 hp1 hp2 (by omega) (tw_end c f (by omega)) (fun i hi => tw_in c f i hi) hsh q1 q2 q3⟩
/-- The heap of side: its own five objects behind the caller's. -/
def sdH (W H : Nat) (b : Bool) (l : List Bool) (c : Bool) (fw : Nat) (cs : List AVal) (h : List AObj) (ys : List Fl) (r : List AObj) : List AObj :=
  h ++ (⟨24, 3, [I W, I H, BA b l]⟩ :: ⟨4, 1, [B c]⟩ :: ⟨44, 1, [.func (.func fw) [] cs]⟩ :: ⟨30, 1, [gwW 5 (h.length + 4) ys.length]⟩ :: goW 37 5 (fls ys) :: r)
theorem sdH_len (W H : Nat) (b : Bool) (l : List Bool) (c : Bool) (fw : Nat) (cs : List AVal) (h : List AObj) (ys : List Fl) (r : List AObj) : (sdH W H b l c fw cs h ys r).length = h.length + 5 + r.length := by simp [sdH]; omega
theorem sdH_shut (W H : Nat) (b : Bool) (l : List Bool) (c : Bool) (fw : Nat) {cs : List AVal} (hcs : ∀ f, cs.map (ren f 7) = cs) {h : List AObj} (hsh : ShutB h) (ys : List Fl) {r : List AObj} {m : Nat} (hm : m = h.length + 5 + r.length) (hr : ∀ o ∈ r, ∀ x ∈ o.cells, ∀ ks, ren (keepF m ks) 8 x = x) : ShutA m (sdH W H b l c fw cs h ys r) := by
  refine ⟨by rw [sdH_len, hm], fun o ho x hx ks => ?_⟩
  simp only [sdH, List.mem_append, List.mem_cons] at ho
  rcases ho with ho | rfl | rfl | rfl | rfl | rfl | ho
  · exact hsh o ho x hx m ks (by omega)
  · simp only [List.mem_cons, List.not_mem_nil, or_false] at hx
    rcases hx with rfl | rfl | rfl
    · rfl
    · rfl
    · simp only [ren, map_ren_bools]
  · simp only [List.mem_cons, List.not_mem_nil, or_false] at hx
    subst hx; rfl
  · simp only [List.mem_cons, List.not_mem_nil, or_false] at hx
    subst hx
    simp only [ren, hcs, List.map_nil]
  · simp only [List.mem_cons, List.not_mem_nil, or_false] at hx
    subst hx
    exact ren_gwF _ _ _ _ _ (keepF_low ks (by omega))
  · rw [goW_cells] at hx
    exact fls_all (fun x => ren (keepF m ks) 8 x = x) (fun _ => rfl) (fun _ => rfl) _ x hx
  · exact hr o ho x hx ks
section
variable {W H : Nat} (hW0 : 0 < W) (hH0 : 0 < H) (hW : W ≤ 64) (hH : H ≤ 64) (b : Bool) {l : List Bool} (hn : l.length = W * H)
include hW0 hH0 hW hH hn
theorem side_s (c : Bool) (fw : Nat) (cs cs' : List AVal) (wt : Fl → Bool) (hcs : ∀ f, cs.map (ren f 7) = cs) (hca : ∀ h, cs.map (argOf h 6) = cs') (hwt : ∀ x : Fl, Contract Tryz.prog fw (.agg [B x.w, I x.a, I x.f, I x.n, B x.z] :: cs') (B (wt x))) (h : List AObj) (hsh : ShutB h) :
    SpecTo Tryz.prog 19 [GA W H b l, B c, .func (.func fw) [] cs] h (gwW 5 h.length (sdK W H l c wt (W + H)).length) (h ++ [goW 37 5 (fls (sdK W H l c wt (W + H)))]) := by
  refine SpecTo.intro (effS [] false) follows Tryz.func19 rfl rfl (by kernel_rfl) (Nat.le_of_ble_eq_true rfl) ?_
  simp (disch := first | assumption | omega | rfl | simp only [RH]) only [↓RP, RG, FX, RQ, ↓reduceIte, Nat.reduceEqDiff, reduceCtorEq, Nat.reduceBEq, Nat.reduceAdd, Nat.reduceLeDiff, args0_3, parts_func, one_func]
  refine callK_F 6 (lines_c W H b l) (by simp (disch := first | assumption | omega | rfl | simp only [RH]) only [↓RP, RG, FX, RQ, ↓reduceIte, Nat.reduceEqDiff, reduceCtorEq, Nat.reduceBEq, Nat.reduceAdd, Nat.reduceLeDiff, RA] <;> rfl) (.inr (by simp [noRef, bools_noRef])) ?_
  simp (disch := first | assumption | omega | rfl | simp only [RH]) only [↓RP, RG, FX, RQ, ↓reduceIte, Nat.reduceEqDiff, reduceCtorEq, Nat.reduceBEq, Nat.reduceAdd, Nat.reduceLeDiff]
  refine rangeK_O (s := ⟨[(3, .ptr h.length 0 3), (4, .ptr (h.length + 1) 0 1), (5, .ptr (h.length + 2) 0 1), (7, .ptr (h.length + 3) 0 1), (11, .func (.func 41) [] [.spot true [I W, I H, BA b l]])], sdH W H b l c fw cs h (sdK W H l c wt 0) []⟩) [3, 4, 5, 7, 11] (W + H) (fun k => sdH W H b l c fw cs h (sdK W H l c wt k) []) (lineO (h.length + 5) W H l) (fun k => [⟨61, 3, [B (decide (k < W)), I (if k < W then k else k - W : Nat), .ref (h.length + 6) 0 (if k < W then H else W) (if k < W then H else W)]⟩, ⟨61, 3, [B (decide (k < W)), I (if k < W then k else k - W : Nat), .ref (h.length + 6) 0 (if k < W then H else W) (if k < W then H else W)]⟩, ⟨4, 1, [B c]⟩]) (lineA (h.length + 5) W H l) ?_ rfl rfl (linesF_y hW0 hH0 (by omega) (by omega) true b hn (h.length + 5) _ _ (fun k hk => (sdH_shut W H b l c fw hcs hsh _ rfl (fun o ho => by cases ho)).shut)) ?_ ?_
  · simp only [↓RP, RG, FX, RQ, ↓reduceIte, Nat.reduceEqDiff, reduceCtorEq, Nat.reduceBEq, Nat.reduceAdd, Nat.reduceLeDiff]
    exact Wk.weak (fun t => .refl _) (.app h (.cons _ _ _ _ (WL.refl _) (.cons _ _ _ _ (WL.refl _) (.cons _ _ _ _ (WL.refl _) (.cons _ _ _ _ (.cons (.nil _) .nil) (.nil _ (by simp [sdK_0, fls_nil, goW])))))))
  · intro i hi
    obtain ⟨wk, hwk⟩ : ∃ wk, decide (i < W) = wk := ⟨_, rfl⟩
    obtain ⟨ak, hak⟩ : ∃ ak, (if i < W then i else i - W) = ak := ⟨_, rfl⟩
    obtain ⟨nk, hnk⟩ : ∃ nk, (if i < W then H else W) = nk := ⟨_, rfl⟩
    have hl1 : (faK W H l i).length = nk := by rw [faK_len, hnk]
    have hn0 : 0 < nk := by rw [← hnk]; split <;> omega
    have hn6 : nk ≤ 64 := by rw [← hnk]; split <;> omega
    have hA : lineA (h.length + 5) W H l i = .agg [B wk, I ak, .ref (h.length + 6) 0 nk nk] := by unfold lineA; rw [hwk, hak, hnk]
    have hO : lineO (h.length + 5) W H l i = [⟨61, 3, [B wk, I ak, .ref (h.length + 6) 0 nk nk]⟩, ⟨4, 1, bools (faK W H l i)⟩] := by unfold lineO; rw [hwk, hak, hnk]
    have hT : thK W H l c i = thF wk ak (faK W H l i) c := by unfold thK; rw [hwk, hak]
    simp only [hwk, hak, hnk, hA, hO]
    obtain ⟨rest, hrest⟩ : ∃ rest : List AObj, rest = [⟨61, 3, [B wk, I ak, .ref (h.length + 6) 0 nk nk]⟩, ⟨4, 1, bools (faK W H l i)⟩, ⟨61, 3, [B wk, I ak, .ref (h.length + 6) 0 nk nk]⟩, ⟨61, 3, [B wk, I ak, .ref (h.length + 6) 0 nk nk]⟩, ⟨4, 1, [B c]⟩] := ⟨_, rfl⟩
    obtain ⟨own, hY⟩ := floatsY_k c (k := i) ak (h.length + 10) (h.length + 6) (h.length + 8) (h.length + 9) nk wk hl1 hn0 hn6 (by omega) (by omega) (by omega) (fun j => sdH W H b l c fw cs h (sdK W H l c wt i ++ ((thF wk ak (faK W H l i) c).take j).filter wt) rest) (fun j => [⟨37, 5, flc (flD (thF wk ak (faK W H l i) c) j)⟩]) (fun j hj => sdH_shut W H b l c fw hcs hsh _ (by rw [hrest]; rfl) (fun o ho x hx ks => by
      rw [hrest] at ho
      have hk1 := keepF_low (m := h.length + 10) (id := h.length + 6) ks (by omega)
      simp only [List.mem_cons, List.not_mem_nil, or_false] at ho
      rcases ho with rfl | rfl | rfl | rfl | rfl
      · simp only [List.mem_cons, List.not_mem_nil, or_false] at hx
        rcases hx with rfl | rfl | rfl <;> simp [ren, hk1]
      · simp only [bools, List.mem_map] at hx
        obtain ⟨u, _, rfl⟩ := hx; rfl
      · simp only [List.mem_cons, List.not_mem_nil, or_false] at hx
        rcases hx with rfl | rfl | rfl <;> simp [ren, hk1]
      · simp only [List.mem_cons, List.not_mem_nil, or_false] at hx
        rcases hx with rfl | rfl | rfl <;> simp [ren, hk1]
      · simp only [List.mem_cons, List.not_mem_nil, or_false] at hx
        subst hx; rfl)) (by simp [sdH, hrest]) (by simp [sdH, hrest]) (by simp [sdH, hrest]; try rfl)
    simp (disch := first | assumption | omega | rfl | simp only [RH]) only [↓RP, RG, FX, RQ, ↓reduceIte, Nat.reduceEqDiff, reduceCtorEq, Nat.reduceBEq, Nat.reduceAdd, Nat.reduceLeDiff, sdH]
    refine callK_T rfl (floats_s wk c ak (h.length + 6) nk _) ?_
    simp (disch := first | assumption | omega | rfl | simp only [RH]) only [↓RP, RG, FX, RQ, ↓reduceIte, Nat.reduceEqDiff, reduceCtorEq, Nat.reduceBEq, Nat.reduceAdd, Nat.reduceLeDiff]
    refine rangeK_O (s := ⟨[(3, .ptr h.length 0 3), (4, .ptr (h.length + 1) 0 1), (5, .ptr (h.length + 2) 0 1), (7, .ptr (h.length + 3) 0 1), (15, .func (.func 42) [] [.ptr (h.length + 8) 0 3, .ptr (h.length + 9) 0 1])], sdH W H b l c fw cs h (sdK W H l c wt i ++ ((thF wk ak (faK W H l i) c).take 0).filter wt) rest⟩) [3, 4, 5, 7, 15] _ (fun j => sdH W H b l c fw cs h (sdK W H l c wt i ++ ((thF wk ak (faK W H l i) c).take j).filter wt) rest) own _ (fun j => flA (flD (thF wk ak (faK W H l i) c) j)) (Wk.of_eq ?_) rfl rfl hY ?_ ?_
    · simp only [↓RP, RG, FX, RQ, ↓reduceIte, Nat.reduceEqDiff, reduceCtorEq, Nat.reduceBEq, Nat.reduceAdd, Nat.reduceLeDiff]
      simp [sdH, hrest, keepEnv, look]
    · intro j hj
      simp only []
      obtain ⟨ys, hys⟩ : ∃ ys, ys = sdK W H l c wt i ++ ((thF wk ak (faK W H l i) c).take j).filter wt := ⟨_, rfl⟩
      obtain ⟨fx, hfx⟩ : ∃ fx, fx = flD (thF wk ak (faK W H l i) c) j := ⟨_, rfl⟩
      obtain ⟨hh, hhe⟩ : ∃ hh, hh = sdH W H b l c fw cs h ys rest ++ own j := ⟨_, rfl⟩
      rw [← hys, ← hfx, ← hhe]
      have hM : h.length + 10 ≤ hh.length := by rw [hhe, List.length_append, sdH_len, hrest]; simp
      have hyl : ys.length ≤ 100000 := by
        have h1 := sdK_len hW0 hH0 hW hH l c wt i
        have h2 := List.length_filter_le wt ((thF wk ak (faK W H l i) c).take j)
        have h3 := thF_len wk ak (f := faK W H l i) c (by omega)
        rw [List.length_take] at h2
        rw [hys, List.length_append]; omega
      have g5 : ∀ r, (hh ++ r)[h.length + 2]? = some ⟨44, 1, [.func (.func fw) [] cs]⟩ := fun r => by rw [hhe]; simp [sdH]
      have g7 : ∀ r, (hh ++ r)[h.length + 3]? = some ⟨30, 1, [gwW 5 (h.length + 4) ys.length]⟩ := fun r => by rw [hhe]; simp [sdH]
      have g8 : ∀ r, (hh ++ r)[h.length + 4]? = some (goW 37 5 (fls ys)) := fun r => by rw [hhe]; simp [sdH]
      simp (disch := first | assumption | omega | rfl | simp only [RH]) only [↓RP, RG, FX, RQ, ↓reduceIte, Nat.reduceEqDiff, reduceCtorEq, Nat.reduceBEq, Nat.reduceAdd, Nat.reduceLeDiff, flA, flc, g5]
      refine callK_V 6 (hwt fx) (by simp only [List.nil_append, List.map_append, hca]; rfl) (.inl rfl) ?_
      by_cases hw : wt fx = true
      · have hap : aAppend Tryz.prog 30 (hh ++ [(⟨37, 5, [B fx.w, I fx.a, I fx.f, I fx.n, B fx.z]⟩ : AObj)]) (gwW 5 (h.length + 4) ys.length) (.lit 1 [B fx.w, I fx.a, I fx.f, I fx.n, B fx.z]) = some (gwW 5 (h.length + 4) (ys.length + 1), (hh ++ [(⟨37, 5, [B fx.w, I fx.a, I fx.f, I fx.n, B fx.z]⟩ : AObj)]).set (h.length + 4) (goW 37 5 (fls ys ++ [B fx.w, I fx.a, I fx.f, I fx.n, B fx.z]))) := append_W (g8 _) (by rw [fls_length]) rfl rfl (by omega) (by omega)
        have hst7 : ∀ o r, (hh ++ r).set (h.length + 4) o = hh.set (h.length + 4) o ++ r := fun o r => hSet_low _ _ (by omega)
        have hst7b : ∀ o r, (hh.set (h.length + 4) (goW 37 5 (fls ys ++ [B fx.w, I fx.a, I fx.f, I fx.n, B fx.z])) ++ r).set (h.length + 3) o = (hh.set (h.length + 4) (goW 37 5 (fls ys ++ [B fx.w, I fx.a, I fx.f, I fx.n, B fx.z]))).set (h.length + 3) o ++ r := fun o r => hSet_low _ _ (by simp; omega)
        have g7b : ∀ o r, (hh.set (h.length + 4) o ++ r)[h.length + 3]? = some ⟨30, 1, [gwW 5 (h.length + 4) ys.length]⟩ := fun o r => by
          rw [hhe]; simp [sdH]
        simp (disch := first | assumption | omega | rfl | simp only [RH]) only [↓RP, RG, FX, RQ, ↓reduceIte, Nat.reduceEqDiff, reduceCtorEq, Nat.reduceBEq, Nat.reduceAdd, Nat.reduceLeDiff, hw, g7, hap, hst7, g7b, hst7b, parts_gwW, one_gwW]
        refine Wk.of_eq ?_
        rw [filter_take wt hj, ← hfx, hw, hhe]
        have e : fls (ys ++ [fx]) = fls ys ++ [B fx.w, I fx.a, I fx.f, I fx.n, B fx.z] := by rw [fls_app, fls_one1]; rfl
        have e2 : sdK W H l c wt i ++ (((thF wk ak (faK W H l i) c).take j).filter wt ++ [fx]) = ys ++ [fx] := by rw [hys, List.append_assoc]
        rw [if_pos rfl, e2]
        simp [sdH, e, flc, List.set_append, show ¬ h.length + 4 < h.length by omega, show ¬ h.length + 3 < h.length by omega]
      · have hw2 : wt fx = false := by simpa using hw
        simp (disch := first | assumption | omega | rfl | simp only [RH]) only [↓RP, RG, FX, RQ, ↓reduceIte, Nat.reduceEqDiff, reduceCtorEq, Nat.reduceBEq, Nat.reduceAdd, Nat.reduceLeDiff, hw2]
        refine Wk.of_eq ?_
        rw [filter_take wt hj, ← hfx, hw2, hhe, hys]
        simp [flc]
    · simp (disch := first | assumption | omega | rfl | simp only [RH]) only [↓RP, RG, FX, RQ, ↓reduceIte, Nat.reduceEqDiff, reduceCtorEq, Nat.reduceBEq, Nat.reduceAdd, Nat.reduceLeDiff]
      refine Wk.of_eq ?_
      rw [List.take_length, sdK_succ, hT, hrest]
      simp [sdH]
  · simp (disch := first | assumption | omega | rfl | simp only [RH]) only [↓RP, RG, FX, RQ, ↓reduceIte, Nat.reduceEqDiff, reduceCtorEq, Nat.reduceBEq, Nat.reduceAdd, Nat.reduceLeDiff, sdH]
    refine ⟨_, by rw [resVal_1 rfl]; simp (disch := first | assumption | omega | rfl | simp only [RH]) only [↓RP, RG, FX, RQ, ↓reduceIte, Nat.reduceEqDiff, reduceCtorEq, Nat.reduceBEq, Nat.reduceAdd, Nat.reduceLeDiff, raX_tmp, raX_cell, rvX_0, rvX_1, rvX_2, rvX_3, rvX_4, rvX_5]; rfl, (Wk.drop (hb := h) (h1 := h) (gs := [_, _, _, _, _]) 8 [4] rfl (by simp) (by simp) (fun i o ho => .inl ho)).trans (Wk.of_eq ?_)⟩
    simp only [List.map_cons, List.map_nil, List.getD_cons_zero, List.getD_cons_succ, renO_goF]
    have e1 : ren (keepF h.length [4]) 8 (gwW 5 (h.length + 4) (sdK W H l c wt (W + H)).length) = gwW 5 h.length (sdK W H l c wt (W + H)).length := by
      have e0 : keepF h.length [4] (h.length + 4) = some h.length := by simp [keepF, show ¬ h.length + 4 < h.length by omega]
      unfold gwW; split <;> simp [ren, e0]
    rw [e1]
end
end Go.Proofs.YtllijejobeogdaaGreatDoor

/- Chapter 8: float.List, float.Longest, float.Over. -/
set_option linter.unusedSimpArgs false
set_option linter.unusedVariables false
set_option maxRecDepth 100000
namespace Go.Proofs.YtllijejobeogdaaGreatDoor
open Go Go.Proofs Go.AW

/-- A list of floats. -/
def flV (p : Bool) (xs : List Fl) : AVal := .list p xs.isEmpty xs.length (fls xs)
theorem resOf_gwF {h : List AObj} {n k : Nat} {xs : List Fl} (ho : h[k]? = some (goW 37 5 (fls xs))) : resOf h (n + 2) (gwW 5 k xs.length) = flV true xs := by
  cases xs with
  | nil => rfl
  | cons x r =>
    have e1 := fls_res h n (x :: r)
    have e2 := fls_length (x :: r)
    rw [gwW_pos (by simp)]
    simp only [resOf, ho]
    rw [goF_pos (by simp), if_pos e2]
    simp only [List.drop_zero, flV]
    rw [List.take_of_length_le (by omega), e1]
    rfl
/-- Is it a float at all? -/
def wl (x : Fl) : Bool := !(x.w == false && ((x.a : Int) == 0 && ((x.f : Int) == 0 && ((x.n : Int) == 0 && x.z == false))))
theorem wl_c (x : Fl) : Contract Tryz.prog 20 [.agg [B x.w, I x.a, I x.f, I x.n, B x.z]] (B (wl x)) := by
  refine Contract.intro (effS [] false) 6 follows Tryz.func20 rfl rfl (by kernel_rfl) (Nat.le_of_ble_eq_true rfl) ?_
  simp (disch := first | assumption | omega | rfl | simp only [RH]) only [↓RP, RG, FX, RQ, ↓reduceIte, Nat.reduceEqDiff, reduceCtorEq, Nat.reduceBEq, Nat.reduceAdd, Nat.reduceLeDiff, args0_1, eqK_bool, eqK_int, eqK_nil, neqKT, Option.map_some]
  rw [resVal_1 rfl]; simp (disch := first | assumption | omega | rfl | simp only [RH]) only [↓RP, RG, FX, RQ, ↓reduceIte, Nat.reduceEqDiff, reduceCtorEq, Nat.reduceBEq, Nat.reduceAdd, Nat.reduceLeDiff, RS]
  first | done | rfl
/-- Is it over a length? -/
def wo (m : Int) (x : Fl) : Bool := x.z || decide (m < (x.n : Int))
theorem wo_c (p : Bool) (m : Int) (x : Fl) : Contract Tryz.prog 18 [.agg [B x.w, I x.a, I x.f, I x.n, B x.z], .spot p [I m]] (B (wo m x)) := by
  unfold wo
  refine Contract.intro (effS [] false) 6 follows Tryz.func18 rfl rfl (by kernel_rfl) (Nat.le_of_ble_eq_true rfl) ?_
  cases hz : x.z with
  | true =>
    simp (disch := first | assumption | omega | rfl | simp only [RH]) only [↓RP, RG, FX, RQ, ↓reduceIte, Nat.reduceEqDiff, reduceCtorEq, Nat.reduceBEq, Nat.reduceAdd, Nat.reduceLeDiff, args0_2]
    rw [resVal_1 rfl]; simp (disch := first | assumption | omega | rfl | simp only [RH]) only [↓RP, RG, FX, RQ, ↓reduceIte, Nat.reduceEqDiff, reduceCtorEq, Nat.reduceBEq, Nat.reduceAdd, Nat.reduceLeDiff, RS]
    first | done | rfl
  | false =>
    simp (disch := first | assumption | omega | rfl | simp only [RH]) only [↓RP, RG, FX, RQ, ↓reduceIte, Nat.reduceEqDiff, reduceCtorEq, Nat.reduceBEq, Nat.reduceAdd, Nat.reduceLeDiff, args0_2]
    rw [resVal_1 rfl]; simp (disch := first | assumption | omega | rfl | simp only [RH]) only [↓RP, RG, FX, RQ, ↓reduceIte, Nat.reduceEqDiff, reduceCtorEq, Nat.reduceBEq, Nat.reduceAdd, Nat.reduceLeDiff, RS]
    first | done | (simp; done) | rfl
theorem shutB_1 (W H : Nat) (b : Bool) (l : List Bool) : ShutB [⟨24, 3, [I W, I H, BA b l]⟩] := by
  intro o ho x hx m ks hm
  simp only [List.mem_cons, List.not_mem_nil, or_false] at ho
  subst ho
  simp only [List.mem_cons, List.not_mem_nil, or_false] at hx
  rcases hx with rfl | rfl | rfl
  · rfl
  · rfl
  · simp only [ren, map_ren_bools]
theorem shutB_2 (xs : List Fl) : ShutB [goW 37 5 (fls xs)] := by
  intro o ho x hx m ks hm
  simp only [List.mem_cons, List.not_mem_nil, or_false] at ho
  subst ho
  rw [goW_cells] at hx
  exact fls_all (fun x => ren (keepF m ks) 8 x = x) (fun _ => rfl) (fun _ => rfl) _ x hx
section
variable {W H : Nat} (hW0 : 0 < W) (hH0 : 0 < H) (hW : W ≤ 64) (hH : H ≤ 64) (b : Bool) {l : List Bool} (hn : l.length = W * H)
include hW0 hH0 hW hH hn
theorem listP_c (c : Bool) : Contract Tryz.prog 8 [GA W H b l, I (if c then 0 else 1)] (.tuple [flV true (sdK W H l c wl (W + H)), I 0]) := by
  have hz : gchk W H l.length = 0 := gchk_ok ⟨by omega, by omega, by omega, by omega, by rw [hn, Int.natCast_mul]⟩
  have hck := gcheckP_c W H b l
  rw [hz] at hck
  have hsd := side_s hW0 hH0 hW hH b hn c 20 [] [] wl (fun _ => rfl) (fun _ => rfl) wl_c [⟨24, 3, [I W, I H, BA b l]⟩] (shutB_1 W H b l)
  cases c with
  | true =>
    refine Contract.intro (effS [] false) 6 follows Tryz.func8 rfl rfl (by kernel_rfl) (Nat.le_of_ble_eq_true rfl) ?_
    simp (disch := first | assumption | omega | rfl | simp only [RH]) only [↓RP, RG, FX, RQ, ↓reduceIte, Nat.reduceEqDiff, reduceCtorEq, Nat.reduceBEq, Nat.reduceAdd, Nat.reduceLeDiff, args0_2, Bool.false_eq_true]
    refine callK_F 6 (hck) (by simp (disch := first | assumption | omega | rfl | simp only [RH]) only [↓RP, RG, FX, RQ, ↓reduceIte, Nat.reduceEqDiff, reduceCtorEq, Nat.reduceBEq, Nat.reduceAdd, Nat.reduceLeDiff, RA] <;> rfl) (.inl (by simp [allFresh, ints_fresh, bools_fresh])) ?_
    simp (disch := first | assumption | omega | rfl | simp only [RH]) only [↓RP, RG, FX, RQ, ↓reduceIte, Nat.reduceEqDiff, reduceCtorEq, Nat.reduceBEq, Nat.reduceAdd, Nat.reduceLeDiff]
    refine callK_T rfl hsd ?_
    simp (disch := first | assumption | omega | rfl | simp only [RH]) only [↓RP, RG, FX, RQ, ↓reduceIte, Nat.reduceEqDiff, reduceCtorEq, Nat.reduceBEq, Nat.reduceAdd, Nat.reduceLeDiff]
    rw [resVal_2 rfl]; simp (disch := first | assumption | omega | rfl | simp only [RH]) only [↓RP, RG, FX, RQ, ↓reduceIte, Nat.reduceEqDiff, reduceCtorEq, Nat.reduceBEq, Nat.reduceAdd, Nat.reduceLeDiff, RS]
    rw [resOf_gwF (by rfl)]
  | false =>
    refine Contract.intro (effS [] false) 6 follows Tryz.func8 rfl rfl (by kernel_rfl) (Nat.le_of_ble_eq_true rfl) ?_
    simp (disch := first | assumption | omega | rfl | simp only [RH]) only [↓RP, RG, FX, RQ, ↓reduceIte, Nat.reduceEqDiff, reduceCtorEq, Nat.reduceBEq, Nat.reduceAdd, Nat.reduceLeDiff, args0_2, Bool.false_eq_true]
    refine callK_F 6 (hck) (by simp (disch := first | assumption | omega | rfl | simp only [RH]) only [↓RP, RG, FX, RQ, ↓reduceIte, Nat.reduceEqDiff, reduceCtorEq, Nat.reduceBEq, Nat.reduceAdd, Nat.reduceLeDiff, RA] <;> rfl) (.inl (by simp [allFresh, ints_fresh, bools_fresh])) ?_
    simp (disch := first | assumption | omega | rfl | simp only [RH]) only [↓RP, RG, FX, RQ, ↓reduceIte, Nat.reduceEqDiff, reduceCtorEq, Nat.reduceBEq, Nat.reduceAdd, Nat.reduceLeDiff]
    refine callK_T rfl hsd ?_
    simp (disch := first | assumption | omega | rfl | simp only [RH]) only [↓RP, RG, FX, RQ, ↓reduceIte, Nat.reduceEqDiff, reduceCtorEq, Nat.reduceBEq, Nat.reduceAdd, Nat.reduceLeDiff]
    rw [resVal_2 rfl]; simp (disch := first | assumption | omega | rfl | simp only [RH]) only [↓RP, RG, FX, RQ, ↓reduceIte, Nat.reduceEqDiff, reduceCtorEq, Nat.reduceBEq, Nat.reduceAdd, Nat.reduceLeDiff, RS]
    rw [resOf_gwF (by rfl)]
end
theorem pX_fl4 {l : List Fl} {j : Nat} (h : j < l.length) : (((fls l).drop (j * 5)).drop 4)[0]? = some (B (flD l j).z) := by
  rw [fls_drop h, flD_get h]; rfl
section
variable {W H : Nat} (hW0 : 0 < W) (hH0 : 0 < H) (hW : W ≤ 64) (hH : H ≤ 64) (b : Bool) {l : List Bool} (hn : l.length = W * H)
include hW0 hH0 hW hH hn
theorem overFP_c {m : Int} (h0 : 0 ≤ m) : Contract Tryz.prog 7 [GA W H b l, I m] (.tuple [flV true (sdK W H l true (wo m) (W + H) ++ sdK W H l false (wo m) (W + H)), I 0]) := by
  have hz : gchk W H l.length = 0 := gchk_ok ⟨by omega, by omega, by omega, by omega, by rw [hn, Int.natCast_mul]⟩
  have hck := gcheckP_c W H b l
  rw [hz] at hck
  have hs1 := side_s hW0 hH0 hW hH b hn true 18 [.spot true [I m]] [.spot false [I m]] (wo m) (fun _ => rfl) (fun _ => rfl) (wo_c false m) [] (fun o ho => by cases ho)
  have hs2 := side_s hW0 hH0 hW hH b hn false 18 [.spot true [I m]] [.spot false [I m]] (wo m) (fun _ => rfl) (fun _ => rfl) (wo_c false m) [goW 37 5 (fls (sdK W H l true (wo m) (W + H)))] (shutB_2 _)
  have hl1 := sdK_len hW0 hH0 hW hH l true (wo m) (W + H)
  have hl2 := sdK_len hW0 hH0 hW hH l false (wo m) (W + H)
  have hc : (sdK W H l true (wo m) (W + H) ++ sdK W H l false (wo m) (W + H)).length = (sdK W H l true (wo m) (W + H)).length + (sdK W H l false (wo m) (W + H)).length := List.length_append
  generalize sdK W H l true (wo m) (W + H) = xs at *
  generalize sdK W H l false (wo m) (W + H) = ys at *
  refine Contract.intro (effS [19] false [2] [0, 1]) 6 follows Tryz.func7 rfl rfl (by kernel_rfl) (Nat.le_of_ble_eq_true rfl) ?_
  simp (disch := first | assumption | omega | rfl | simp only [RH]) only [↓RP, RG, FX, RQ, ↓reduceIte, Nat.reduceEqDiff, reduceCtorEq, Nat.reduceBEq, Nat.reduceAdd, Nat.reduceLeDiff, args0_2]
  refine callK_F 6 (hck) (by simp (disch := first | assumption | omega | rfl | simp only [RH]) only [↓RP, RG, FX, RQ, ↓reduceIte, Nat.reduceEqDiff, reduceCtorEq, Nat.reduceBEq, Nat.reduceAdd, Nat.reduceLeDiff, RA] <;> rfl) (.inl (by simp [allFresh, ints_fresh, bools_fresh])) ?_
  simp (disch := first | assumption | omega | rfl | simp only [RH]) only [↓RP, RG, FX, RQ, ↓reduceIte, Nat.reduceEqDiff, reduceCtorEq, Nat.reduceBEq, Nat.reduceAdd, Nat.reduceLeDiff]
  refine callK_T rfl hs1 ?_
  simp (disch := first | assumption | omega | rfl | simp only [RH]) only [↓RP, RG, FX, RQ, ↓reduceIte, Nat.reduceEqDiff, reduceCtorEq, Nat.reduceBEq, Nat.reduceAdd, Nat.reduceLeDiff]
  refine callK_T rfl hs2 ?_
  have hap : aAppend Tryz.prog 30 [goW 37 5 (fls xs), goW 37 5 (fls ys)] (gwW 5 0 xs.length) (gwW 5 1 ys.length) = some (gwW 5 0 (xs.length + ys.length), [goW 37 5 (fls xs ++ fls ys), goW 37 5 (fls ys)]) :=
    append_WW (xs := fls xs) (ys := fls ys) rfl (fls_length xs) (by rw [sview_gwW]; exact gSW_go (fls_length ys)) (fls_length ys) (fls_one ys) (by omega) (by omega)
  simp (disch := first | assumption | omega | rfl | simp only [RH]) only [↓RP, RG, FX, RQ, ↓reduceIte, Nat.reduceEqDiff, reduceCtorEq, Nat.reduceBEq, Nat.reduceAdd, Nat.reduceLeDiff, hap]
  rw [← fls_app]
  rw [resVal_2 rfl]; simp (disch := first | assumption | omega | rfl | simp only [RH]) only [↓RP, RG, FX, RQ, ↓reduceIte, Nat.reduceEqDiff, reduceCtorEq, Nat.reduceBEq, Nat.reduceAdd, Nat.reduceLeDiff, RS]
  rw [← hc, resOf_gwF (by rfl)]
end
end Go.Proofs.YtllijejobeogdaaGreatDoor

/- Chapter 8: the floats of a thread in the reference. -/
set_option linter.unusedSimpArgs false
set_option linter.unusedVariables false
set_option maxRecDepth 100000
namespace Go.Proofs.YtllijejobeogdaaGreatDoor
open Go Go.Proofs Go.AW

theorem tw_of_all {c : Bool} {f : List Bool} (h : ∀ i, i < f.length → f.getD i false = c) : tw c f = f.length := by
  refine Classical.byContradiction fun hne => ?_
  have hle := tw_le c f
  exact tw_end c f (by omega) (h _ (by omega))
end Go.Proofs.YtllijejobeogdaaGreatDoor

/- Chapter 8: List, Longest, Over of the reference. -/
set_option linter.unusedSimpArgs false
set_option linter.unusedVariables false
set_option maxRecDepth 100000
namespace Go.Proofs.YtllijejobeogdaaGreatDoor
open Go Go.Proofs Go.AW

/-- All floats of one side. -/
def alK (W H : Nat) (l : List Bool) (c : Bool) (k : Nat) : List Fl := (List.range k).flatMap (thK W H l c)
theorem alK_succ (W H : Nat) (l : List Bool) (c : Bool) (k : Nat) : alK W H l c (k + 1) = alK W H l c k ++ thK W H l c k := by simp [alK, List.range_succ]
theorem sdK_filter (W H : Nat) (l : List Bool) (c : Bool) (wt : Fl → Bool) (k : Nat) : sdK W H l c wt k = (alK W H l c k).filter wt := by
  induction k with
  | zero => rfl
  | succ k ih => rw [sdK_succ, alK_succ, List.filter_append, ih]
theorem thF_pos {w : Bool} {a : Nat} {f : List Bool} {c : Bool} (h0 : 0 < f.length) : ∀ x ∈ thF w a f c, 0 < x.n := by
  intro x hx
  unfold thF at hx
  split at hx
  · simp only [List.mem_singleton] at hx; subst hx; exact h0
  · simp only [stL, List.mem_map] at hx
    obtain ⟨i, hi, rfl⟩ := hx
    obtain ⟨h1, h2⟩ := sts_mem.1 hi
    unfold stR at h2
    simp only [Bool.and_eq_true, beq_iff_eq] at h2
    exact lenR_pos h1 h2.1
theorem wl_pos {x : Fl} (h : 0 < x.n) : wl x = true := by
  have : ((x.n : Int) == 0) = false := by simpa using (by omega : ¬ x.n = 0)
  unfold wl; rw [this]; simp
theorem alK_pos {W H : Nat} (hW0 : 0 < W) (hH0 : 0 < H) (l : List Bool) (c : Bool) (k : Nat) : ∀ x ∈ alK W H l c k, 0 < x.n := by
  intro x hx
  rw [alK, List.mem_flatMap] at hx
  obtain ⟨i, _, hi⟩ := hx
  exact thF_pos (by rw [faK_len]; split <;> omega) x hi
theorem sdK_all {W H : Nat} (hW0 : 0 < W) (hH0 : 0 < H) (l : List Bool) (c : Bool) (k : Nat) : sdK W H l c wl k = alK W H l c k := by
  rw [sdK_filter, List.filter_eq_self]
  exact fun x hx => wl_pos (alK_pos hW0 hH0 l c k x hx)
theorem alK_len {W H : Nat} (hW0 : 0 < W) (hH0 : 0 < H) (hW : W ≤ 64) (hH : H ≤ 64) (l : List Bool) (c : Bool) (k : Nat) : (alK W H l c k).length ≤ k * 64 := by
  rw [← sdK_all hW0 hH0]; exact sdK_len hW0 hH0 hW hH l c wl k
theorem thK_c {W k : Nat} (H : Nat) (l : List Bool) (c : Bool) (h : k < W) : thK W H l c k = thF true k (faC W H l k) c := by
  unfold thK faK; rw [decide_eq_true h, if_pos h, if_pos h]
theorem thK_r (W H : Nat) (l : List Bool) (c : Bool) (y : Nat) : thK W H l c (W + y) = thF false y (faR W l y) c := by
  unfold thK faK; rw [decide_eq_false (by omega), if_neg (by omega), if_neg (by omega), Nat.add_sub_cancel_left]
section
variable {W H : Nat} (hW0 : 0 < W) (hH0 : 0 < H) (hW : W ≤ 64) (hH : H ≤ 64) (b : Bool) {l : List Bool} (hn : l.length = W * H)
include hW0 hH0 hW hH hn
end
section
variable {W H : Nat} (hW0 : 0 < W) (hH0 : 0 < H) (hW : W ≤ 64) (hH : H ≤ 64) (b : Bool) {l : List Bool} (hn : l.length = W * H)
include hW0 hH0 hW hH hn
end
end Go.Proofs.YtllijejobeogdaaGreatDoor

/- Chapter 8: the floats of a cloth seen from below, of a turned cloth. Plain. -/
set_option linter.unusedSimpArgs false
set_option linter.unusedVariables false
set_option maxRecDepth 100000
namespace Go.Proofs.YtllijejobeogdaaGreatDoor
open Go Go.Proofs Go.AW

theorem fm_congr {α β : Type} {f g : α → List β} {l : List α} (h : ∀ a ∈ l, f a = g a) : l.flatMap f = l.flatMap g := by
  rw [List.flatMap_def, List.flatMap_def, List.map_congr_left h]
theorem alK_split (W H : Nat) (l : List Bool) (c : Bool) : alK W H l c (W + H) = ((List.range W).flatMap fun x => thF true x (faC W H l x) c) ++ (List.range H).flatMap fun y => thF false y (faR W l y) c := by
  unfold alK
  rw [List.range_add, List.flatMap_append]
  congr 1
  · exact fm_congr fun x hx => thK_c H l c (List.mem_range.1 hx)
  · rw [List.flatMap_map]
    exact fm_congr fun y hy => thK_r W H l c y
end Go.Proofs.YtllijejobeogdaaGreatDoor

/- Numbers modulo others; where the cells of a shifted cloth were. Plain. -/
set_option linter.unusedSimpArgs false
set_option linter.unusedVariables false
set_option maxRecDepth 100000
namespace Go.Proofs.YtllijejobeogdaaGreatDoor
open Go Go.Proofs Go.AW

end Go.Proofs.YtllijejobeogdaaGreatDoor

/- Threads that are turned round, and threads twice over. Plain. -/
set_option linter.unusedSimpArgs false
set_option linter.unusedVariables false
set_option maxRecDepth 100000
namespace Go.Proofs.YtllijejobeogdaaGreatDoor
open Go Go.Proofs Go.AW

theorem pvF_mod {f : List Bool} {i : Nat} (hi : i < f.length) : pvF f i = f.getD ((i + (f.length - 1)) % f.length) false := by
  unfold pvF
  split
  · rename_i h; subst h; rw [Nat.zero_add, Nat.mod_eq_of_lt (by omega)]
  · rw [show i + (f.length - 1) = (i - 1) + f.length by omega, Nat.add_mod_right, Nat.mod_eq_of_lt (by omega)]
theorem whole_iff {f : List Bool} {c : Bool} : tw c f = f.length ↔ ∀ i, i < f.length → f.getD i false = c := ⟨tw_all, tw_of_all⟩
end Go.Proofs.YtllijejobeogdaaGreatDoor

/- Floats of a moved cloth, of a cloth twice over. Plain. -/
set_option linter.unusedSimpArgs false
set_option linter.unusedVariables false
set_option maxRecDepth 100000
namespace Go.Proofs.YtllijejobeogdaaGreatDoor
open Go Go.Proofs Go.AW

theorem faC_get {W H : Nat} {l : List Bool} {x y : Nat} (hy : y < H) : (faC W H l x).getD y false = l.getD (W * y + x) false := by simp [faC, List.getD_eq_getElem?_getD, hy]
theorem faR_get {W : Nat} {l : List Bool} {x y : Nat} (hx : x < W) : (faR W l y).getD x false = !l.getD (W * y + x) false := by simp [faR, List.getD_eq_getElem?_getD, hx]
theorem alK_mem {W H : Nat} {l : List Bool} {c : Bool} {x : Fl} : x ∈ alK W H l c (W + H) ↔ (∃ a, a < W ∧ x ∈ thF true a (faC W H l a) c) ∨ ∃ a, a < H ∧ x ∈ thF false a (faR W l a) c := by
  rw [alK_split, List.mem_append, List.mem_flatMap, List.mem_flatMap]
  simp only [List.mem_range]
end Go.Proofs.YtllijejobeogdaaGreatDoor

/- The floats have each cell just once. Plain. -/
set_option linter.unusedSimpArgs false
set_option linter.unusedVariables false
set_option maxRecDepth 100000
namespace Go.Proofs.YtllijejobeogdaaGreatDoor
open Go Go.Proofs Go.AW

theorem stR_iff {f : List Bool} {c : Bool} {i : Nat} : stR f c i = true ↔ f.getD i false = c ∧ pvF f i ≠ c := by
  unfold stR
  simp only [Bool.and_eq_true, beq_iff_eq, Bool.not_eq_true', beq_eq_false_iff_ne]
/-- All that is known of a thread's floats. -/
theorem thF_facts {w : Bool} {a : Nat} {f : List Bool} {c : Bool} (h0 : 0 < f.length) {x : Fl} (hx : x ∈ thF w a f c) :
    x.w = w ∧ x.a = a ∧ x.f < f.length ∧ 1 ≤ x.n ∧ x.n ≤ f.length ∧ (x.z = decide (x.n = f.length)) ∧ (x.z = true → x.f = 0) ∧ (∀ k, k < x.n → f.getD ((x.f + k) % f.length) false = c) ∧ (x.z = false → f.getD ((x.f + (f.length - 1)) % f.length) false ≠ c ∧ f.getD ((x.f + x.n) % f.length) false ≠ c) := by
  unfold thF at hx
  by_cases h : tw c f = f.length
  · rw [if_pos h, List.mem_singleton] at hx
    subst hx
    refine ⟨rfl, rfl, h0, h0, Nat.le_refl _, (decide_eq_true rfl).symm, fun _ => rfl, fun k hk => ?_, (fun hz => by cases hz)⟩
    exact tw_all h _ (Nat.mod_lt _ h0)
  · rw [if_neg h] at hx
    unfold stL at hx
    obtain ⟨i, hi, rfl⟩ := List.mem_map.1 hx
    obtain ⟨i1, i2⟩ := sts_mem.1 hi
    obtain ⟨s1, s2⟩ := stR_iff.1 i2
    obtain ⟨s, hs, hsc⟩ : ∃ s, s < f.length ∧ f.getD s false ≠ c := by
      refine Classical.byContradiction fun hno => h (whole_iff.2 fun s hs => Classical.byContradiction fun hne => hno ⟨s, hs, hne⟩)
    have hlt := lenR_lt i1 hs hsc
    refine ⟨rfl, rfl, i1, lenR_pos i1 s1, lenR_le f c i, ?_, (fun hz => by cases hz), fun k hk => lenR_in hk, fun _ => ⟨?_, lenR_end hlt⟩⟩
    · show false = decide (lenR f c i = f.length)
      rw [decide_eq_false (by omega)]
    · rw [pvF_mod i1] at s2; exact s2
end Go.Proofs.YtllijejobeogdaaGreatDoor

/- Threads that never change sides. Plain. -/
set_option linter.unusedSimpArgs false
set_option linter.unusedVariables false
set_option maxRecDepth 100000
namespace Go.Proofs.YtllijejobeogdaaGreatDoor
open Go Go.Proofs Go.AW

theorem offs_nhg {W n : Nat} {l : List Bool} {p : Nat → Bool} (h : Offs W n l p) : ¬ Hg W n l := fun hg => by
  obtain ⟨h0, h1, h2⟩ := offs_iff.2 h
  exact h1 (off_hg hg (fil_okS n p) h0 h2)
/-- The face of a thread is up everywhere where nothing lies over it. -/
theorem whole_up {W H : Nat} {l : List Bool} {t : Nat} (ht : t < W + H) : (∀ i, i < (faK W H l t).length → (faK W H l t).getD i false = true) ↔ ∀ c, c < W + H → ov W l c t = false := by
  unfold faK ov
  by_cases h : t < W
  · simp only [if_pos h, faC_len]
    constructor
    · intro hall c hc
      by_cases h2 : c < W
      · rw [if_pos h2]
      · rw [if_neg h2]
        have := hall (c - W) (by omega)
        rw [faC_get (by omega)] at this
        rw [this]; rfl
    · intro hall y hy
      have := hall (W + y) (by omega)
      rw [if_neg (by omega), show W + y - W = y by omega] at this
      rw [faC_get hy]
      simpa using this
  · simp only [if_neg h, faR_len]
    constructor
    · intro hall c hc
      by_cases h2 : c < W
      · rw [if_pos h2]
        have := hall c h2
        rw [faR_get h2] at this
        simpa using this
      · rw [if_neg h2]
    · intro hall x hx
      have := hall x (by omega)
      rw [if_pos hx] at this
      rw [faR_get hx, this]; rfl
theorem whole_dn {W H : Nat} {l : List Bool} {t : Nat} (ht : t < W + H) : (∀ i, i < (faK W H l t).length → (faK W H l t).getD i false = false) ↔ ∀ c, c < W + H → ov W l t c = false := by
  unfold faK ov
  by_cases h : t < W
  · simp only [if_pos h, faC_len]
    constructor
    · intro hall c hc
      by_cases h2 : c < W
      · rw [if_pos h2]
      · rw [if_neg h2]
        have := hall (c - W) (by omega)
        rwa [faC_get (by omega)] at this
    · intro hall y hy
      have := hall (W + y) (by omega)
      rw [if_neg (by omega), show W + y - W = y by omega] at this
      rw [faC_get hy]; exact this
  · simp only [if_neg h, faR_len]
    constructor
    · intro hall c hc
      by_cases h2 : c < W
      · rw [if_pos h2]
        have := hall c h2
        rwa [faR_get h2] at this
      · rw [if_neg h2]
    · intro hall x hx
      have := hall x (by omega)
      rw [if_pos hx] at this
      rw [faR_get hx]; exact this
theorem ov_self (W : Nat) (l : List Bool) (t : Nat) : ov W l t t = false := by
  unfold ov
  by_cases h : t < W
  · rw [if_pos h, if_pos h]
  · rw [if_neg h, if_neg h]
/-- A single thread comes off just where nothing lies over it. -/
theorem offs_one {W n : Nat} {l : List Bool} {t : Nat} (hn : 2 ≤ n) (ht : t < n) : Offs W n l (fun a => decide (a = t)) ↔ ∀ c, c < n → ov W l c t = false := by
  constructor
  · rintro ⟨_, _, h⟩ c hc
    by_cases e : c = t
    · rw [e]; exact ov_self W l t
    · cases ho : ov W l c t with
      | false => rfl
      | true => exact absurd ⟨decide_eq_false e, decide_eq_true rfl, ho⟩ (h c hc t ht)
  · intro h
    obtain ⟨o, ho, hne⟩ : ∃ o, o < n ∧ o ≠ t := by
      by_cases e : t = 0
      · exact ⟨1, by omega, by omega⟩
      · exact ⟨0, by omega, by omega⟩
    refine ⟨⟨t, ht, decide_eq_true rfl⟩, ⟨o, ho, decide_eq_false hne⟩, fun a ha c hc => ?_⟩
    rintro ⟨h1, h2, h3⟩
    have e : c = t := of_decide_eq_true h2
    rw [e, h a ha] at h3; cases h3
theorem offs_rest {W n : Nat} {l : List Bool} {t : Nat} (hn : 2 ≤ n) (ht : t < n) (h : ∀ c, c < n → ov W l t c = false) : Offs W n l fun a => !decide (a = t) := by
  obtain ⟨o, ho, hne⟩ : ∃ o, o < n ∧ o ≠ t := by
    by_cases e : t = 0
    · exact ⟨1, by omega, by omega⟩
    · exact ⟨0, by omega, by omega⟩
  refine ⟨⟨o, ho, by simp [hne]⟩, ⟨t, ht, by simp⟩, fun a ha c hc => ?_⟩
  rintro ⟨h1, h2, h3⟩
  have e : a = t := by simpa using h1
  rw [e, h c hc] at h3; cases h3
/-- The thread of a float. -/
def tno (W : Nat) (x : Fl) : Nat := if x.w then x.a else W + x.a
theorem thF_z {w : Bool} {a : Nat} {f : List Bool} {c : Bool} : (∃ x ∈ thF w a f c, x.z = true) ↔ tw c f = f.length := by
  unfold thF
  by_cases h : tw c f = f.length
  · rw [if_pos h]
    exact ⟨fun _ => h, fun _ => ⟨flW w a f, by simp, rfl⟩⟩
  · rw [if_neg h]
    refine ⟨fun ⟨x, hx, hz⟩ => ?_, fun h' => absurd h' h⟩
    unfold stL at hx
    obtain ⟨i, _, rfl⟩ := List.mem_map.1 hx
    cases hz
/-- A whole float is there just where its thread is on one side. -/
theorem al_whole {W H : Nat} (hW0 : 0 < W) (hH0 : 0 < H) {l : List Bool} {c : Bool} {t : Nat} (ht : t < W + H) : (∃ x ∈ alK W H l c (W + H), x.z = true ∧ tno W x = t) ↔ ∀ i, i < (faK W H l t).length → (faK W H l t).getD i false = c := by
  rw [← whole_iff]
  constructor
  · rintro ⟨x, hx, hz, e⟩
    rcases alK_mem.1 hx with ⟨a, ha, h⟩ | ⟨a, ha, h⟩
    · obtain ⟨h1, h2, _⟩ := thF_facts (by rw [faC_len]; exact hH0) h
      unfold tno at e
      rw [h1, if_pos rfl, h2] at e
      subst e
      unfold faK
      rw [if_pos ha]
      exact thF_z.1 ⟨x, h, hz⟩
    · obtain ⟨h1, h2, _⟩ := thF_facts (by rw [faR_len]; exact hW0) h
      unfold tno at e
      rw [h1, if_neg (by simp), h2] at e
      subst e
      unfold faK
      rw [if_neg (by omega), show W + a - W = a by omega]
      exact thF_z.1 ⟨x, h, hz⟩
  · intro h
    unfold faK at h
    by_cases hW : t < W
    · rw [if_pos hW] at h
      obtain ⟨x, hx, hz⟩ := (thF_z (w := true) (a := t)).2 h
      obtain ⟨h1, h2, _⟩ := thF_facts (by rw [faC_len]; exact hH0) hx
      exact ⟨x, alK_mem.2 (.inl ⟨t, hW, hx⟩), hz, by unfold tno; rw [h1, if_pos rfl, h2]⟩
    · rw [if_neg hW] at h
      obtain ⟨x, hx, hz⟩ := (thF_z (w := false) (a := t - W)).2 h
      obtain ⟨h1, h2, _⟩ := thF_facts (by rw [faR_len]; exact hW0) hx
      exact ⟨x, alK_mem.2 (.inr ⟨t - W, by omega, hx⟩), hz, by unfold tno; rw [h1, if_neg (by simp), h2]; omega⟩
theorem al_tno {W H : Nat} (hW0 : 0 < W) (hH0 : 0 < H) {l : List Bool} {c : Bool} {x : Fl} (hx : x ∈ alK W H l c (W + H)) : tno W x < W + H ∧ x.a < W + H ∧ x.n ≤ max W H := by
  unfold tno
  rcases alK_mem.1 hx with ⟨a, ha, h⟩ | ⟨a, ha, h⟩
  · obtain ⟨h1, h2, _, _, h5, _⟩ := thF_facts (by rw [faC_len]; exact hH0) h
    rw [faC_len] at h5
    rw [h1, if_pos rfl, h2]; omega
  · obtain ⟨h1, h2, _, _, h5, _⟩ := thF_facts (by rw [faR_len]; exact hW0) h
    rw [faR_len] at h5
    rw [h1, if_neg (by simp), h2]; omega
/-- A whole float on either side: the cloth falls apart. -/
theorem whole_apart {W H : Nat} (hW0 : 0 < W) (hH0 : 0 < H) {l : List Bool} {c : Bool} {x : Fl} (hx : x ∈ alK W H l c (W + H)) (hz : x.z = true) : ¬ Hg W (W + H) l := by
  obtain ⟨ht, _⟩ := al_tno hW0 hH0 hx
  have hw := (al_whole hW0 hH0 (c := c) ht).1 ⟨x, hx, hz, rfl⟩
  cases c with
  | true => exact offs_nhg ((offs_one (by omega) ht).2 ((whole_up ht).1 hw))
  | false => exact offs_nhg (offs_rest (by omega) ht ((whole_dn ht).1 hw))
/-- The floats over 64 are the whole ones. -/
theorem over64 {W H : Nat} (hW0 : 0 < W) (hH0 : 0 < H) (hW : W ≤ 64) (hH : H ≤ 64) {l : List Bool} (h : 0 < (sdK W H l true (wo 64) (W + H) ++ sdK W H l false (wo 64) (W + H)).length) : ¬ Hg W (W + H) l := by
  have key : ∀ c, 0 < (sdK W H l c (wo 64) (W + H)).length → ¬ Hg W (W + H) l := fun c hc => by
    rw [sdK_filter] at hc
    obtain ⟨x, hx⟩ := List.exists_mem_of_length_pos hc
    obtain ⟨h1, h2⟩ := List.mem_filter.1 hx
    obtain ⟨_, _, h3⟩ := al_tno hW0 hH0 h1
    unfold wo at h2
    have hz : x.z = true := by
      cases hz : x.z with
      | true => rfl
      | false =>
        rw [hz, Bool.false_or] at h2
        have := of_decide_eq_true h2
        omega
    exact whole_apart hW0 hH0 h1 hz
  rw [List.length_append] at h
  by_cases h1 : 0 < (sdK W H l true (wo 64) (W + H)).length
  · exact key true h1
  · exact key false (by omega)
theorem fil_one {n t : Nat} (ht : t < n) : fil n (fun a => decide (a = t)) = [(t : Int)] := by
  refine sinc_ext _ _ (nI_inc (List.Pairwise.filter _ List.pairwise_lt_range)) (by simp) fun x => ?_
  rw [List.mem_singleton]
  constructor
  · intro hx
    unfold fil nI at hx
    obtain ⟨a, ha, rfl⟩ := List.mem_map.1 hx
    have := of_decide_eq_true (List.mem_filter.1 ha).2
    rw [this]
  · rintro rfl
    exact List.mem_map.2 ⟨t, List.mem_filter.2 ⟨List.mem_range.2 ht, decide_eq_true rfl⟩, rfl⟩
/-- Off of a single thread. -/
theorem offP_one {W H n : Nat} (hN : W + H = n) (hW0 : 0 < W) (hH0 : 0 < H) (hn40 : n ≤ 64) (b : Bool) {l : List Bool} (hn : l.length = W * H) {t : Nat} (ht : t < n) (r : Bool) (hr : r = true ↔ ∀ c, c < n → ov W l c t = false) :
    Contract Tryz.prog 9 [GA W H b l, LA false [(t : Int)]] (.tuple [B r, I 0]) := by
  have := offP_fil hN hW0 hH0 hn40 b false hn (fun a => decide (a = t)) r (hr.trans (offs_one (by omega) ht).symm)
  rwa [fil_one ht] at this
theorem offP_not {W H n : Nat} (hN : W + H = n) (hW0 : 0 < W) (hH0 : 0 < H) (hn40 : n ≤ 64) (b : Bool) {l : List Bool} (hn : l.length = W * H) {a : Int} (ha : ¬ (0 ≤ a ∧ a < (W : Int) + H)) :
    Contract Tryz.prog 9 [GA W H b l, LA false [a]] (.tuple [B false, I 2]) :=
  offP_c hN hW0 hH0 hn40 b false hn [a] (by simp) false 2 (fun _ => ⟨rfl, rfl⟩) (fun h => absurd (h 0 (by simp)).1 (by simp only [List.getD_cons_zero]; omega))
end Go.Proofs.YtllijejobeogdaaGreatDoor

/- Chapter 8: lists of floats, by the program. -/
set_option linter.unusedSimpArgs false
set_option linter.unusedVariables false
set_option maxRecDepth 100000
namespace Go.Proofs.YtllijejobeogdaaGreatDoor
open Go Go.Proofs Go.AW

theorem listA_c {W H : Nat} (hW0 : 0 < W) (hH0 : 0 < H) (hW : W ≤ 64) (hH : H ≤ 64) (b : Bool) {l : List Bool} (hn : l.length = W * H) (c : Bool) : Contract Tryz.prog 8 [GA W H b l, I (if c then 0 else 1)] (.tuple [flV true (alK W H l c (W + H)), I 0]) := by
  have := listP_c hW0 hH0 hW hH b hn c
  rwa [sdK_all hW0 hH0] at this
theorem pX_fl0 {l : List Fl} {j : Nat} (h : j < l.length) : ((fls l).drop (j * 5))[0]? = some (B (flD l j).w) := by
  rw [fls_drop h, flD_get h]; rfl
theorem flV_fresh (xs : List Fl) (e : Int) : allFresh 6 (.tuple [flV true xs, I e]) = true := by simp [flV, allFresh, fls_fresh]
end Go.Proofs.YtllijejobeogdaaGreatDoor

/- The walk, by the reference. -/
set_option linter.unusedSimpArgs false
set_option linter.unusedVariables false
set_option maxRecDepth 100000
namespace Go.Proofs.YtllijejobeogdaaGreatDoor
open Go Go.Proofs Go.AW

end Go.Proofs.YtllijejobeogdaaGreatDoor

/- The walk, by the program. -/
set_option linter.unusedSimpArgs false
set_option linter.unusedVariables false
set_option maxRecDepth 100000
namespace Go.Proofs.YtllijejobeogdaaGreatDoor
open Go Go.Proofs Go.AW

/-- The walk as yet: the literal, or a row of its own at id. -/
def pv (id : Nat) (p : Bool) (o : List Int) : AVal := if p then .ref id 0 o.length o.length else .lit 1 (ints [0])
end Go.Proofs.YtllijejobeogdaaGreatDoor

/- The different numbers of a list: sequences of its values, sorted, compacted. -/
set_option linter.unusedSimpArgs false
set_option linter.unusedVariables false
set_option maxRecDepth 100000
namespace Go.Proofs.YtllijejobeogdaaGreatDoor
open Go Go.Proofs Go.AW

end Go.Proofs.YtllijejobeogdaaGreatDoor

/- The different numbers of a list, and its elements' places among them. -/
set_option linter.unusedSimpArgs false
set_option linter.unusedVariables false
set_option maxRecDepth 100000
namespace Go.Proofs.YtllijejobeogdaaGreatDoor
open Go Go.Proofs Go.AW

end Go.Proofs.YtllijejobeogdaaGreatDoor

/- Parts of Accept, by the program. -/
set_option linter.unusedSimpArgs false
set_option linter.unusedVariables false
set_option maxRecDepth 100000
namespace Go.Proofs.YtllijejobeogdaaGreatDoor
open Go Go.Proofs Go.AW

end Go.Proofs.YtllijejobeogdaaGreatDoor

/- Accept, by the program. -/
set_option linter.unusedSimpArgs false
set_option linter.unusedVariables false
set_option maxRecDepth 100000
namespace Go.Proofs.YtllijejobeogdaaGreatDoor
open Go Go.Proofs Go.AW

end Go.Proofs.YtllijejobeogdaaGreatDoor

/- The law HangWalks. -/
set_option linter.unusedSimpArgs false
set_option linter.unusedVariables false
set_option maxRecDepth 100000
namespace Go.Proofs.YtllijejobeogdaaGreatDoor
open Go Go.Proofs Go.AW

end Go.Proofs.YtllijejobeogdaaGreatDoor

/- The examples of chapters 10 and 12 hold. -/
set_option maxRecDepth 100000
namespace Go.Proofs.YtllijejobeogdaaGreatDoor
open Go Go.Proofs Go.AW
theorem hangAlive_c : Contract Tryz.prog 5 [] (B true) := Contract.run xGood 5000 (by kernel_rfl)
end Go.Proofs.YtllijejobeogdaaGreatDoor

/- The law HangExactly. -/
set_option linter.unusedSimpArgs false
set_option linter.unusedVariables false
set_option maxRecDepth 100000
namespace Go.Proofs.YtllijejobeogdaaGreatDoor
open Go Go.Proofs Go.AW

/-- A cloth that chapter 10's statements speak of. -/
def vld (w h : Int) (l : List Bool) : Prop := ¬ 200 < (l.length : Int) ∧ gchk w h l.length = 0 ∧ w + h ≤ 24
theorem vld_nat {w h : Int} {l : List Bool} (hv : vld w h l) : ∃ W H n : Nat, w = W ∧ h = H ∧ W + H = n ∧ 0 < W ∧ 0 < H ∧ n ≤ 24 ∧ l.length = W * H := by
  obtain ⟨h1, hz, h2⟩ := hv
  obtain ⟨g1, g2, g3, g4, g5⟩ := gchk_iff.1 hz
  refine ⟨w.toNat, h.toNat, w.toNat + h.toNat, by omega, by omega, rfl, by omega, by omega, by omega, ?_⟩
  have e1 : ((w.toNat * h.toNat : Nat) : Int) = (w.toNat : Int) * h.toNat := Int.natCast_mul _ _
  rw [show ((w.toNat : Nat) : Int) = w by omega, show ((h.toNat : Nat) : Int) = h by omega] at e1
  omega
theorem valid10_c (w h : Int) (b : Bool) (l : List Bool) (r : Bool) (hr : r = true ↔ vld w h l) : Contract Tryz.prog 4 [GA w h b l] (B r) := by
  have hno : ¬ vld w h l → r = false := fun hn => by
    cases r with
    | false => rfl
    | true => exact absurd (hr.1 rfl) hn
  by_cases c1 : 200 < (l.length : Int)
  · obtain rfl := hno fun hv => hv.1 c1
    refine Contract.intro (effS [] false) 6 follows Tryz.func4 rfl rfl (by kernel_rfl) (Nat.le_of_ble_eq_true rfl) ?_
    simp (disch := first | assumption | omega | rfl | simp only [RH]) only [↓RP, RG, FX, RQ, ↓reduceIte, Nat.reduceEqDiff, reduceCtorEq, Nat.reduceBEq, Nat.reduceAdd, Nat.reduceLeDiff, args0_1]
    refine callK_F 6 (great10_a w h b l c1) (by simp (disch := first | assumption | omega | rfl | simp only [RH]) only [↓RP, RG, FX, RQ, ↓reduceIte, Nat.reduceEqDiff, reduceCtorEq, Nat.reduceBEq, Nat.reduceAdd, Nat.reduceLeDiff, RA] <;> rfl) (.inl (by simp [allFresh, ints_fresh, bools_fresh])) ?_
    simp (disch := first | assumption | omega | rfl | simp only [RH]) only [↓RP, RG, FX, RQ, ↓reduceIte, Nat.reduceEqDiff, reduceCtorEq, Nat.reduceBEq, Nat.reduceAdd, Nat.reduceLeDiff]
    rw [resVal_1 rfl]; simp (disch := first | assumption | omega | rfl | simp only [RH]) only [↓RP, RG, FX, RQ, ↓reduceIte, Nat.reduceEqDiff, reduceCtorEq, Nat.reduceBEq, Nat.reduceAdd, Nat.reduceLeDiff, RS]
  by_cases hz : gchk w h l.length = 0
  · obtain ⟨g1, g2, g3, g4, g5⟩ := gchk_iff.1 hz
    obtain ⟨W, rfl⟩ : ∃ W : Nat, w = W := ⟨w.toNat, by omega⟩
    obtain ⟨H, rfl⟩ : ∃ H : Nat, h = H := ⟨h.toNat, by omega⟩
    have hG := great10_c W H b l c1 hz (by omega) (by omega)
    by_cases c3 : 24 < (W : Int) + H
    · rw [decide_eq_true c3] at hG
      obtain rfl := hno fun hv => by have := hv.2.2; omega
      refine Contract.intro (effS [] false) 6 follows Tryz.func4 rfl rfl (by kernel_rfl) (Nat.le_of_ble_eq_true rfl) ?_
      simp (disch := first | assumption | omega | rfl | simp only [RH]) only [↓RP, RG, FX, RQ, ↓reduceIte, Nat.reduceEqDiff, reduceCtorEq, Nat.reduceBEq, Nat.reduceAdd, Nat.reduceLeDiff, args0_1]
      refine callK_F 6 (hG) (by simp (disch := first | assumption | omega | rfl | simp only [RH]) only [↓RP, RG, FX, RQ, ↓reduceIte, Nat.reduceEqDiff, reduceCtorEq, Nat.reduceBEq, Nat.reduceAdd, Nat.reduceLeDiff, RA] <;> rfl) (.inl (by simp [allFresh, ints_fresh, bools_fresh])) ?_
      simp (disch := first | assumption | omega | rfl | simp only [RH]) only [↓RP, RG, FX, RQ, ↓reduceIte, Nat.reduceEqDiff, reduceCtorEq, Nat.reduceBEq, Nat.reduceAdd, Nat.reduceLeDiff]
      rw [resVal_1 rfl]; simp (disch := first | assumption | omega | rfl | simp only [RH]) only [↓RP, RG, FX, RQ, ↓reduceIte, Nat.reduceEqDiff, reduceCtorEq, Nat.reduceBEq, Nat.reduceAdd, Nat.reduceLeDiff, RS]
    · rw [decide_eq_false c3] at hG
      obtain rfl := hr.2 ⟨c1, hz, by omega⟩
      refine Contract.intro (effS [] false) 6 follows Tryz.func4 rfl rfl (by kernel_rfl) (Nat.le_of_ble_eq_true rfl) ?_
      simp (disch := first | assumption | omega | rfl | simp only [RH]) only [↓RP, RG, FX, RQ, ↓reduceIte, Nat.reduceEqDiff, reduceCtorEq, Nat.reduceBEq, Nat.reduceAdd, Nat.reduceLeDiff, args0_1]
      refine callK_F 6 (hG) (by simp (disch := first | assumption | omega | rfl | simp only [RH]) only [↓RP, RG, FX, RQ, ↓reduceIte, Nat.reduceEqDiff, reduceCtorEq, Nat.reduceBEq, Nat.reduceAdd, Nat.reduceLeDiff, RA] <;> rfl) (.inl (by simp [allFresh, ints_fresh, bools_fresh])) ?_
      simp (disch := first | assumption | omega | rfl | simp only [RH]) only [↓RP, RG, FX, RQ, ↓reduceIte, Nat.reduceEqDiff, reduceCtorEq, Nat.reduceBEq, Nat.reduceAdd, Nat.reduceLeDiff]
      refine callK_F 6 (gcheckR_c W H b l) (by simp (disch := first | assumption | omega | rfl | simp only [RH]) only [↓RP, RG, FX, RQ, ↓reduceIte, Nat.reduceEqDiff, reduceCtorEq, Nat.reduceBEq, Nat.reduceAdd, Nat.reduceLeDiff, RA] <;> rfl) (.inl (by simp [allFresh, ints_fresh, bools_fresh])) ?_
      simp (disch := first | assumption | omega | rfl | simp only [RH]) only [↓RP, RG, FX, RQ, ↓reduceIte, Nat.reduceEqDiff, reduceCtorEq, Nat.reduceBEq, Nat.reduceAdd, Nat.reduceLeDiff, hz]
      rw [resVal_1 rfl]; simp (disch := first | assumption | omega | rfl | simp only [RH]) only [↓RP, RG, FX, RQ, ↓reduceIte, Nat.reduceEqDiff, reduceCtorEq, Nat.reduceBEq, Nat.reduceAdd, Nat.reduceLeDiff, RS]
  · obtain rfl := hno fun hv => hz hv.2.1
    refine Contract.intro (effS [] false) 6 follows Tryz.func4 rfl rfl (by kernel_rfl) (Nat.le_of_ble_eq_true rfl) ?_
    simp (disch := first | assumption | omega | rfl | simp only [RH]) only [↓RP, RG, FX, RQ, ↓reduceIte, Nat.reduceEqDiff, reduceCtorEq, Nat.reduceBEq, Nat.reduceAdd, Nat.reduceLeDiff, args0_1]
    refine callK_F 6 (great10_b w h b l c1 hz) (by simp (disch := first | assumption | omega | rfl | simp only [RH]) only [↓RP, RG, FX, RQ, ↓reduceIte, Nat.reduceEqDiff, reduceCtorEq, Nat.reduceBEq, Nat.reduceAdd, Nat.reduceLeDiff, RA] <;> rfl) (.inl (by simp [allFresh, ints_fresh, bools_fresh])) ?_
    simp (disch := first | assumption | omega | rfl | simp only [RH]) only [↓RP, RG, FX, RQ, ↓reduceIte, Nat.reduceEqDiff, reduceCtorEq, Nat.reduceBEq, Nat.reduceAdd, Nat.reduceLeDiff]
    refine callK_F 6 (gcheckR_c w h b l) (by simp (disch := first | assumption | omega | rfl | simp only [RH]) only [↓RP, RG, FX, RQ, ↓reduceIte, Nat.reduceEqDiff, reduceCtorEq, Nat.reduceBEq, Nat.reduceAdd, Nat.reduceLeDiff, RA] <;> rfl) (.inl (by simp [allFresh, ints_fresh, bools_fresh])) ?_
    simp (disch := first | assumption | omega | rfl | simp only [RH]) only [↓RP, RG, FX, RQ, ↓reduceIte, Nat.reduceEqDiff, reduceCtorEq, Nat.reduceBEq, Nat.reduceAdd, Nat.reduceLeDiff]
    rw [resVal_1 rfl]; simp (disch := first | assumption | omega | rfl | simp only [RH]) only [↓RP, RG, FX, RQ, ↓reduceIte, Nat.reduceEqDiff, reduceCtorEq, Nat.reduceBEq, Nat.reduceAdd, Nat.reduceLeDiff, RS]
    first | done | exact okF (by simpa using hz)
end Go.Proofs.YtllijejobeogdaaGreatDoor

/- The law HangWhole. -/
set_option linter.unusedSimpArgs false
set_option linter.unusedVariables false
set_option maxRecDepth 100000
namespace Go.Proofs.YtllijejobeogdaaGreatDoor
open Go Go.Proofs Go.AW

noncomputable local instance : DecidableEq Fl := fun _ _ => Classical.propDecidable _
set_option maxHeartbeats 2000000 in
theorem hangWhole_c (w h : Int) (b : Bool) (l : List Bool) (t : Int) : Contract Tryz.prog 3 [GA w h b l, I t] (B true) := by
  classical
  have hV := valid10_c w h b l (decide (vld w h l)) decide_eq_true_iff
  by_cases hv : vld w h l
  rotate_left
  · rw [decide_eq_false hv] at hV
    refine Contract.intro (effS [] false) 6 follows Tryz.func3 rfl rfl (by kernel_rfl) (Nat.le_of_ble_eq_true rfl) ?_
    simp (disch := first | assumption | omega | rfl | simp only [RH]) only [↓RP, RG, FX, RQ, ↓reduceIte, Nat.reduceEqDiff, reduceCtorEq, Nat.reduceBEq, Nat.reduceAdd, Nat.reduceLeDiff, args0_2]
    refine callK_F 6 (hV) (by simp (disch := first | assumption | omega | rfl | simp only [RH]) only [↓RP, RG, FX, RQ, ↓reduceIte, Nat.reduceEqDiff, reduceCtorEq, Nat.reduceBEq, Nat.reduceAdd, Nat.reduceLeDiff, RA] <;> rfl) (.inl (by simp [allFresh, ints_fresh, bools_fresh])) ?_
    simp (disch := first | assumption | omega | rfl | simp only [RH]) only [↓RP, RG, FX, RQ, ↓reduceIte, Nat.reduceEqDiff, reduceCtorEq, Nat.reduceBEq, Nat.reduceAdd, Nat.reduceLeDiff]
    refine callK_F 6 (hangAlive_c) (by simp (disch := first | assumption | omega | rfl | simp only [RH]) only [↓RP, RG, FX, RQ, ↓reduceIte, Nat.reduceEqDiff, reduceCtorEq, Nat.reduceBEq, Nat.reduceAdd, Nat.reduceLeDiff, RA] <;> rfl) (.inl (by simp [allFresh, ints_fresh, bools_fresh])) ?_
    simp (disch := first | assumption | omega | rfl | simp only [RH]) only [↓RP, RG, FX, RQ, ↓reduceIte, Nat.reduceEqDiff, reduceCtorEq, Nat.reduceBEq, Nat.reduceAdd, Nat.reduceLeDiff]
    rw [resVal_1 rfl]; simp (disch := first | assumption | omega | rfl | simp only [RH]) only [↓RP, RG, FX, RQ, ↓reduceIte, Nat.reduceEqDiff, reduceCtorEq, Nat.reduceBEq, Nat.reduceAdd, Nat.reduceLeDiff, RS]
  rw [decide_eq_true hv] at hV
  obtain ⟨W, H, n, rfl, rfl, hN, hW0, hH0, hn24, hn⟩ := vld_nat hv
  subst hN
  have hW : W ≤ 64 := by omega
  have hH : H ≤ 64 := by omega
  have k1 := hangsP_c (n := W + H) rfl hW0 hH0 (by omega) b hn
  have j1 : decide ((best W (W + H) l (W + H - 1)).length = W + H) = decide (Hg W (W + H) l) := decide_eq_decide.2 (hg_best (by omega))
  rw [j1] at k1
  clear j1
  have k2 := overFP_c hW0 hH0 hW hH b hn (m := 64) (by omega)
  have k3 := listA_c hW0 hH0 hW hH b hn true
  simp only [if_true] at k3
  have q1 := alK_len hW0 hH0 hW hH l true (W + H)
  have hov := over64 hW0 hH0 hW hH (l := l)
  have hxs : ∀ x ∈ alK W H l true (W + H), tno W x < W + H ∧ x.a < W + H := fun x hx => by
    obtain ⟨h1, h2, _⟩ := al_tno hW0 hH0 hx
    exact ⟨h1, h2⟩
  have hwh : ∀ u, u < W + H → ((∃ x ∈ alK W H l true (W + H), x.z = true ∧ tno W x = u) ↔ ∀ c, c < W + H → ov W l c u = false) := fun u hu => (al_whole hW0 hH0 hu).trans (whole_up hu)
  have hno : 0 < (sdK W H l true (wo 64) (W + H) ++ sdK W H l false (wo 64) (W + H)).length → decide (Hg W (W + H) l) = false := fun h => decide_eq_false (hov h)
  generalize sdK W H l true (wo 64) (W + H) ++ sdK W H l false (wo 64) (W + H) = os at *
  generalize alK W H l true (W + H) = xs at *
  generalize decide (Hg W (W + H) l) = dh at *
  have hvis := is_c W H b l t hW hH
  by_cases ht : 0 ≤ t ∧ t < (W : Int) + H
  rotate_left
  · rw [decide_eq_false ht] at hvis
    have ho := offP_not (n := W + H) rfl hW0 hH0 (by omega) b hn ht
    by_cases h0 : 0 < os.length
    · rw [hno h0] at k1
      refine Contract.intro (effS [] false) 6 follows Tryz.func3 rfl rfl (by kernel_rfl) (Nat.le_of_ble_eq_true rfl) ?_
      simp (disch := first | assumption | omega | rfl | simp only [RH]) only [↓RP, RG, FX, RQ, ↓reduceIte, Nat.reduceEqDiff, reduceCtorEq, Nat.reduceBEq, Nat.reduceAdd, Nat.reduceLeDiff, args0_2]
      refine callK_F 6 (hV) (by simp (disch := first | assumption | omega | rfl | simp only [RH]) only [↓RP, RG, FX, RQ, ↓reduceIte, Nat.reduceEqDiff, reduceCtorEq, Nat.reduceBEq, Nat.reduceAdd, Nat.reduceLeDiff, RA] <;> rfl) (.inl (by simp [allFresh, ints_fresh, bools_fresh])) ?_
      simp (disch := first | assumption | omega | rfl | simp only [RH]) only [↓RP, RG, FX, RQ, ↓reduceIte, Nat.reduceEqDiff, reduceCtorEq, Nat.reduceBEq, Nat.reduceAdd, Nat.reduceLeDiff]
      refine callK_F 6 (k1) (by simp (disch := first | assumption | omega | rfl | simp only [RH]) only [↓RP, RG, FX, RQ, ↓reduceIte, Nat.reduceEqDiff, reduceCtorEq, Nat.reduceBEq, Nat.reduceAdd, Nat.reduceLeDiff, RA] <;> rfl) (.inl (by simp [allFresh, ints_fresh, bools_fresh])) ?_
      simp (disch := first | assumption | omega | rfl | simp only [RH]) only [↓RP, RG, FX, RQ, ↓reduceIte, Nat.reduceEqDiff, reduceCtorEq, Nat.reduceBEq, Nat.reduceAdd, Nat.reduceLeDiff]
      refine callK_F 6 k2 (by simp (disch := first | assumption | omega | rfl | simp only [RH]) only [↓RP, RG, FX, RQ, ↓reduceIte, Nat.reduceEqDiff, reduceCtorEq, Nat.reduceBEq, Nat.reduceAdd, Nat.reduceLeDiff, RA] <;> rfl) (.inl (flV_fresh _ _)) ?_
      simp (disch := first | assumption | omega | rfl | simp only [RH]) only [↓RP, RG, FX, RQ, ↓reduceIte, Nat.reduceEqDiff, reduceCtorEq, Nat.reduceBEq, Nat.reduceAdd, Nat.reduceLeDiff, flV]
      refine callK_F 6 k3 (by simp (disch := first | assumption | omega | rfl | simp only [RH]) only [↓RP, RG, FX, RQ, ↓reduceIte, Nat.reduceEqDiff, reduceCtorEq, Nat.reduceBEq, Nat.reduceAdd, Nat.reduceLeDiff, RA] <;> rfl) (.inl (flV_fresh _ _)) ?_
      simp (disch := first | assumption | omega | rfl | simp only [RH]) only [↓RP, RG, FX, RQ, ↓reduceIte, Nat.reduceEqDiff, reduceCtorEq, Nat.reduceBEq, Nat.reduceAdd, Nat.reduceLeDiff, flV]
      refine callK_F 6 (ho) (by simp (disch := first | assumption | omega | rfl | simp only [RH]) only [↓RP, RG, FX, RQ, ↓reduceIte, Nat.reduceEqDiff, reduceCtorEq, Nat.reduceBEq, Nat.reduceAdd, Nat.reduceLeDiff, RA] <;> rfl) (.inl (by simp [allFresh, ints_fresh, bools_fresh])) ?_
      simp (disch := first | assumption | omega | rfl | simp only [RH]) only [↓RP, RG, FX, RQ, ↓reduceIte, Nat.reduceEqDiff, reduceCtorEq, Nat.reduceBEq, Nat.reduceAdd, Nat.reduceLeDiff]
      refine callK_F 6 (hvis) (by simp (disch := first | assumption | omega | rfl | simp only [RH]) only [↓RP, RG, FX, RQ, ↓reduceIte, Nat.reduceEqDiff, reduceCtorEq, Nat.reduceBEq, Nat.reduceAdd, Nat.reduceLeDiff, RA] <;> rfl) (.inl (by simp [allFresh, ints_fresh, bools_fresh])) ?_
      simp (disch := first | assumption | omega | rfl | simp only [RH]) only [↓RP, RG, FX, RQ, ↓reduceIte, Nat.reduceEqDiff, reduceCtorEq, Nat.reduceBEq, Nat.reduceAdd, Nat.reduceLeDiff]
      refine callK_F 6 (hangAlive_c) (by simp (disch := first | assumption | omega | rfl | simp only [RH]) only [↓RP, RG, FX, RQ, ↓reduceIte, Nat.reduceEqDiff, reduceCtorEq, Nat.reduceBEq, Nat.reduceAdd, Nat.reduceLeDiff, RA] <;> rfl) (.inl (by simp [allFresh, ints_fresh, bools_fresh])) ?_
      simp (disch := first | assumption | omega | rfl | simp only [RH]) only [↓RP, RG, FX, RQ, ↓reduceIte, Nat.reduceEqDiff, reduceCtorEq, Nat.reduceBEq, Nat.reduceAdd, Nat.reduceLeDiff]
      rw [resVal_1 rfl]; simp (disch := first | assumption | omega | rfl | simp only [RH]) only [↓RP, RG, FX, RQ, ↓reduceIte, Nat.reduceEqDiff, reduceCtorEq, Nat.reduceBEq, Nat.reduceAdd, Nat.reduceLeDiff, RS]
    · refine Contract.intro (effS [] false) 6 follows Tryz.func3 rfl rfl (by kernel_rfl) (Nat.le_of_ble_eq_true rfl) ?_
      simp (disch := first | assumption | omega | rfl | simp only [RH]) only [↓RP, RG, FX, RQ, ↓reduceIte, Nat.reduceEqDiff, reduceCtorEq, Nat.reduceBEq, Nat.reduceAdd, Nat.reduceLeDiff, args0_2]
      refine callK_F 6 (hV) (by simp (disch := first | assumption | omega | rfl | simp only [RH]) only [↓RP, RG, FX, RQ, ↓reduceIte, Nat.reduceEqDiff, reduceCtorEq, Nat.reduceBEq, Nat.reduceAdd, Nat.reduceLeDiff, RA] <;> rfl) (.inl (by simp [allFresh, ints_fresh, bools_fresh])) ?_
      simp (disch := first | assumption | omega | rfl | simp only [RH]) only [↓RP, RG, FX, RQ, ↓reduceIte, Nat.reduceEqDiff, reduceCtorEq, Nat.reduceBEq, Nat.reduceAdd, Nat.reduceLeDiff]
      refine callK_F 6 (k1) (by simp (disch := first | assumption | omega | rfl | simp only [RH]) only [↓RP, RG, FX, RQ, ↓reduceIte, Nat.reduceEqDiff, reduceCtorEq, Nat.reduceBEq, Nat.reduceAdd, Nat.reduceLeDiff, RA] <;> rfl) (.inl (by simp [allFresh, ints_fresh, bools_fresh])) ?_
      simp (disch := first | assumption | omega | rfl | simp only [RH]) only [↓RP, RG, FX, RQ, ↓reduceIte, Nat.reduceEqDiff, reduceCtorEq, Nat.reduceBEq, Nat.reduceAdd, Nat.reduceLeDiff]
      refine callK_F 6 k2 (by simp (disch := first | assumption | omega | rfl | simp only [RH]) only [↓RP, RG, FX, RQ, ↓reduceIte, Nat.reduceEqDiff, reduceCtorEq, Nat.reduceBEq, Nat.reduceAdd, Nat.reduceLeDiff, RA] <;> rfl) (.inl (flV_fresh _ _)) ?_
      simp (disch := first | assumption | omega | rfl | simp only [RH]) only [↓RP, RG, FX, RQ, ↓reduceIte, Nat.reduceEqDiff, reduceCtorEq, Nat.reduceBEq, Nat.reduceAdd, Nat.reduceLeDiff, flV]
      refine callK_F 6 k3 (by simp (disch := first | assumption | omega | rfl | simp only [RH]) only [↓RP, RG, FX, RQ, ↓reduceIte, Nat.reduceEqDiff, reduceCtorEq, Nat.reduceBEq, Nat.reduceAdd, Nat.reduceLeDiff, RA] <;> rfl) (.inl (flV_fresh _ _)) ?_
      simp (disch := first | assumption | omega | rfl | simp only [RH]) only [↓RP, RG, FX, RQ, ↓reduceIte, Nat.reduceEqDiff, reduceCtorEq, Nat.reduceBEq, Nat.reduceAdd, Nat.reduceLeDiff, flV]
      refine callK_F 6 (ho) (by simp (disch := first | assumption | omega | rfl | simp only [RH]) only [↓RP, RG, FX, RQ, ↓reduceIte, Nat.reduceEqDiff, reduceCtorEq, Nat.reduceBEq, Nat.reduceAdd, Nat.reduceLeDiff, RA] <;> rfl) (.inl (by simp [allFresh, ints_fresh, bools_fresh])) ?_
      simp (disch := first | assumption | omega | rfl | simp only [RH]) only [↓RP, RG, FX, RQ, ↓reduceIte, Nat.reduceEqDiff, reduceCtorEq, Nat.reduceBEq, Nat.reduceAdd, Nat.reduceLeDiff]
      refine callK_F 6 (hvis) (by simp (disch := first | assumption | omega | rfl | simp only [RH]) only [↓RP, RG, FX, RQ, ↓reduceIte, Nat.reduceEqDiff, reduceCtorEq, Nat.reduceBEq, Nat.reduceAdd, Nat.reduceLeDiff, RA] <;> rfl) (.inl (by simp [allFresh, ints_fresh, bools_fresh])) ?_
      simp (disch := first | assumption | omega | rfl | simp only [RH]) only [↓RP, RG, FX, RQ, ↓reduceIte, Nat.reduceEqDiff, reduceCtorEq, Nat.reduceBEq, Nat.reduceAdd, Nat.reduceLeDiff]
      refine callK_F 6 (hangAlive_c) (by simp (disch := first | assumption | omega | rfl | simp only [RH]) only [↓RP, RG, FX, RQ, ↓reduceIte, Nat.reduceEqDiff, reduceCtorEq, Nat.reduceBEq, Nat.reduceAdd, Nat.reduceLeDiff, RA] <;> rfl) (.inl (by simp [allFresh, ints_fresh, bools_fresh])) ?_
      simp (disch := first | assumption | omega | rfl | simp only [RH]) only [↓RP, RG, FX, RQ, ↓reduceIte, Nat.reduceEqDiff, reduceCtorEq, Nat.reduceBEq, Nat.reduceAdd, Nat.reduceLeDiff]
      rw [resVal_1 rfl]; simp (disch := first | assumption | omega | rfl | simp only [RH]) only [↓RP, RG, FX, RQ, ↓reduceIte, Nat.reduceEqDiff, reduceCtorEq, Nat.reduceBEq, Nat.reduceAdd, Nat.reduceLeDiff, RS]
  rw [decide_eq_true ht] at hvis
  obtain ⟨u, rfl⟩ : ∃ u : Nat, t = u := ⟨t.toNat, by omega⟩
  have hu : u < W + H := by omega
  have ho := offP_one (n := W + H) rfl hW0 hH0 (by omega) b hn hu (decide (∃ x ∈ xs, x.z = true ∧ tno W x = u)) (decide_eq_true_iff.trans (hwh u hu))
  obtain ⟨on, hon⟩ : ∃ on : Nat → Bool, on = fun i => decide (∃ x ∈ xs.take i, x.z = true ∧ tno W x = u) := ⟨_, rfl⟩
  have hon0 : on 0 = false := by rw [hon]; simp
  have hone : decide (∃ x ∈ xs, x.z = true ∧ tno W x = u) = on xs.length := by rw [hon]; simp only [List.take_length]
  have hons : ∀ i, i < xs.length → on (i + 1) = (on i || ((flD xs i).z && decide (tno W (flD xs i) = u))) := fun i hi => by
    have htk : xs.take (i + 1) = xs.take i ++ [flD xs i] := by rw [List.take_add_one, List.getElem?_eq_getElem hi, flD_get hi]; rfl
    rw [hon, Bool.eq_iff_iff]
    simp only [htk, Bool.or_eq_true, Bool.and_eq_true, decide_eq_true_eq]
    constructor
    · rintro ⟨x, hx, h1, h2⟩
      rcases List.mem_append.1 hx with hx | hx
      · exact .inl ⟨x, hx, h1, h2⟩
      · rw [List.mem_singleton.1 hx] at h1 h2
        exact .inr ⟨h1, h2⟩
    · rintro (⟨x, hx, h1, h2⟩ | ⟨h1, h2⟩)
      · exact ⟨x, List.mem_append_left _ hx, h1, h2⟩
      · exact ⟨_, List.mem_append_right _ (by simp), h1, h2⟩
  rw [hone] at ho
  clear hon hone hwh
  by_cases h0 : 0 < os.length
  · rw [hno h0] at k1
    refine Contract.intro (effS [] false) 6 follows Tryz.func3 rfl rfl (by kernel_rfl) (Nat.le_of_ble_eq_true rfl) ?_
    simp (disch := first | assumption | omega | rfl | simp only [RH]) only [↓RP, RG, FX, RQ, ↓reduceIte, Nat.reduceEqDiff, reduceCtorEq, Nat.reduceBEq, Nat.reduceAdd, Nat.reduceLeDiff, args0_2]
    refine callK_F 6 (hV) (by simp (disch := first | assumption | omega | rfl | simp only [RH]) only [↓RP, RG, FX, RQ, ↓reduceIte, Nat.reduceEqDiff, reduceCtorEq, Nat.reduceBEq, Nat.reduceAdd, Nat.reduceLeDiff, RA] <;> rfl) (.inl (by simp [allFresh, ints_fresh, bools_fresh])) ?_
    simp (disch := first | assumption | omega | rfl | simp only [RH]) only [↓RP, RG, FX, RQ, ↓reduceIte, Nat.reduceEqDiff, reduceCtorEq, Nat.reduceBEq, Nat.reduceAdd, Nat.reduceLeDiff]
    refine callK_F 6 (k1) (by simp (disch := first | assumption | omega | rfl | simp only [RH]) only [↓RP, RG, FX, RQ, ↓reduceIte, Nat.reduceEqDiff, reduceCtorEq, Nat.reduceBEq, Nat.reduceAdd, Nat.reduceLeDiff, RA] <;> rfl) (.inl (by simp [allFresh, ints_fresh, bools_fresh])) ?_
    simp (disch := first | assumption | omega | rfl | simp only [RH]) only [↓RP, RG, FX, RQ, ↓reduceIte, Nat.reduceEqDiff, reduceCtorEq, Nat.reduceBEq, Nat.reduceAdd, Nat.reduceLeDiff]
    refine callK_F 6 k2 (by simp (disch := first | assumption | omega | rfl | simp only [RH]) only [↓RP, RG, FX, RQ, ↓reduceIte, Nat.reduceEqDiff, reduceCtorEq, Nat.reduceBEq, Nat.reduceAdd, Nat.reduceLeDiff, RA] <;> rfl) (.inl (flV_fresh _ _)) ?_
    simp (disch := first | assumption | omega | rfl | simp only [RH]) only [↓RP, RG, FX, RQ, ↓reduceIte, Nat.reduceEqDiff, reduceCtorEq, Nat.reduceBEq, Nat.reduceAdd, Nat.reduceLeDiff, flV]
    refine callK_F 6 k3 (by simp (disch := first | assumption | omega | rfl | simp only [RH]) only [↓RP, RG, FX, RQ, ↓reduceIte, Nat.reduceEqDiff, reduceCtorEq, Nat.reduceBEq, Nat.reduceAdd, Nat.reduceLeDiff, RA] <;> rfl) (.inl (flV_fresh _ _)) ?_
    simp (disch := first | assumption | omega | rfl | simp only [RH]) only [↓RP, RG, FX, RQ, ↓reduceIte, Nat.reduceEqDiff, reduceCtorEq, Nat.reduceBEq, Nat.reduceAdd, Nat.reduceLeDiff, flV]
    refine callK_F 6 ho (by simp (disch := first | assumption | omega | rfl | simp only [RH]) only [↓RP, RG, FX, RQ, ↓reduceIte, Nat.reduceEqDiff, reduceCtorEq, Nat.reduceBEq, Nat.reduceAdd, Nat.reduceLeDiff, RA] <;> rfl) (.inl rfl) ?_
    simp (disch := first | assumption | omega | rfl | simp only [RH]) only [↓RP, RG, FX, RQ, ↓reduceIte, Nat.reduceEqDiff, reduceCtorEq, Nat.reduceBEq, Nat.reduceAdd, Nat.reduceLeDiff, flV]
    refine callK_F 6 (hvis) (by simp (disch := first | assumption | omega | rfl | simp only [RH]) only [↓RP, RG, FX, RQ, ↓reduceIte, Nat.reduceEqDiff, reduceCtorEq, Nat.reduceBEq, Nat.reduceAdd, Nat.reduceLeDiff, RA] <;> rfl) (.inl (by simp [allFresh, ints_fresh, bools_fresh])) ?_
    simp (disch := first | assumption | omega | rfl | simp only [RH]) only [↓RP, RG, FX, RQ, ↓reduceIte, Nat.reduceEqDiff, reduceCtorEq, Nat.reduceBEq, Nat.reduceAdd, Nat.reduceLeDiff, flV]
    refine loopK_I [1, 2, 9, 11, 12, 13, 14] (fun i : Nat => i ≤ xs.length) (fun i => ⟨[(1, I u), (2, .ptr 0 0 3), (9, flV true xs), (11, B (on xs.length)), (12, I 0), (13, B (on i)), (14, I i)], [⟨24, 3, [I W, I H, BA b l]⟩]⟩) (fun i => xs.length - i) 0 (by omega) (by simp only [↓RP, RG, FX, RQ, ↓reduceIte, Nat.reduceEqDiff, reduceCtorEq, Nat.reduceBEq, Nat.reduceAdd, Nat.reduceLeDiff]; rw [hon0]; rfl) ?_
    intro i hi
    by_cases hlt : i < xs.length
    · have z0 := pX_fl0 hlt
      have z1' : (((fls xs).drop (i * 5)).drop 1)[0]? = some (I (flD xs i).a) := by rw [fls_drop hlt, flD_get hlt]; rfl
      have z1 : ((fls xs).drop (i * 5 + 1))[0]? = some (I (flD xs i).a) := by rw [← List.drop_drop]; exact z1'
      have z4' := pX_fl4 hlt
      have z4 : ((fls xs).drop (i * 5 + 4))[0]? = some (B (flD xs i).z) := by rw [← List.drop_drop]; exact z4'
      have hxm : flD xs i ∈ xs := by rw [flD_get hlt]; exact List.getElem_mem hlt
      obtain ⟨b1, b2⟩ := hxs _ hxm
      have hoi := hons i hlt
      cases hw : (flD xs i).w with
      | true =>
        have ht : tno W (flD xs i) = (flD xs i).a := by unfold tno; rw [hw]; rfl
        rw [ht] at hoi b1
        rw [hw] at z0
        cases hoc : on i with
        | true =>
          rw [hoc, Bool.true_or] at hoi
          simp (disch := first | assumption | omega | rfl | simp only [RH]) only [↓RP, RG, FX, RQ, ↓reduceIte, Nat.reduceEqDiff, reduceCtorEq, Nat.reduceBEq, Nat.reduceAdd, Nat.reduceLeDiff, flV, z0, z1, z1', Int.toNat_natCast]
          exact ⟨i + 1, hlt, by rw [hoi]; rfl, by omega⟩
        | false =>
          rw [hoc, Bool.false_or] at hoi
          cases hz : (flD xs i).z with
          | false =>
            rw [hz, Bool.false_and] at hoi
            rw [hz] at z4 z4'
            simp (disch := first | assumption | omega | rfl | simp only [RH]) only [↓RP, RG, FX, RQ, ↓reduceIte, Nat.reduceEqDiff, reduceCtorEq, Nat.reduceBEq, Nat.reduceAdd, Nat.reduceLeDiff, flV, z0, z1, z1', z4, z4', Int.toNat_natCast]
            exact ⟨i + 1, hlt, by rw [hoi]; rfl, by omega⟩
          | true =>
            rw [hz, Bool.true_and] at hoi
            rw [hz] at z4 z4'
            by_cases hu : (flD xs i).a = u
            · rw [decide_eq_true hu] at hoi
              simp (disch := first | assumption | omega | rfl | simp only [RH]) only [↓RP, RG, FX, RQ, ↓reduceIte, Nat.reduceEqDiff, reduceCtorEq, Nat.reduceBEq, Nat.reduceAdd, Nat.reduceLeDiff, flV, z0, z1, z1', z4, z4', Int.toNat_natCast]
              exact ⟨i + 1, hlt, by rw [hoi]; first | rfl | (simp [hu]), by omega⟩
            · rw [decide_eq_false hu] at hoi
              simp (disch := first | assumption | omega | rfl | simp only [RH]) only [↓RP, RG, FX, RQ, ↓reduceIte, Nat.reduceEqDiff, reduceCtorEq, Nat.reduceBEq, Nat.reduceAdd, Nat.reduceLeDiff, flV, z0, z1, z1', z4, z4', Int.toNat_natCast]
              exact ⟨i + 1, hlt, by rw [hoi]; first | rfl | (simp [hu]), by omega⟩
      | false =>
        have ht : tno W (flD xs i) = W + (flD xs i).a := by unfold tno; rw [hw]; rfl
        rw [ht] at hoi b1
        rw [hw] at z0
        cases hoc : on i with
        | true =>
          rw [hoc, Bool.true_or] at hoi
          simp (disch := first | assumption | omega | rfl | simp only [RH]) only [↓RP, RG, FX, RQ, ↓reduceIte, Nat.reduceEqDiff, reduceCtorEq, Nat.reduceBEq, Nat.reduceAdd, Nat.reduceLeDiff, flV, z0, z1, z1', Int.toNat_natCast]
          exact ⟨i + 1, hlt, by rw [hoi]; rfl, by omega⟩
        | false =>
          rw [hoc, Bool.false_or] at hoi
          cases hz : (flD xs i).z with
          | false =>
            rw [hz, Bool.false_and] at hoi
            rw [hz] at z4 z4'
            simp (disch := first | assumption | omega | rfl | simp only [RH]) only [↓RP, RG, FX, RQ, ↓reduceIte, Nat.reduceEqDiff, reduceCtorEq, Nat.reduceBEq, Nat.reduceAdd, Nat.reduceLeDiff, flV, z0, z1, z1', z4, z4', Int.toNat_natCast]
            exact ⟨i + 1, hlt, by rw [hoi]; rfl, by omega⟩
          | true =>
            rw [hz, Bool.true_and] at hoi
            rw [hz] at z4 z4'
            by_cases hu : W + (flD xs i).a = u
            · rw [decide_eq_true hu] at hoi
              simp (disch := first | assumption | omega | rfl | simp only [RH]) only [↓RP, RG, FX, RQ, ↓reduceIte, Nat.reduceEqDiff, reduceCtorEq, Nat.reduceBEq, Nat.reduceAdd, Nat.reduceLeDiff, flV, z0, z1, z1', z4, z4', Int.toNat_natCast]
              exact ⟨i + 1, hlt, by rw [hoi]; first | rfl | (simp; omega), by omega⟩
            · rw [decide_eq_false hu] at hoi
              simp (disch := first | assumption | omega | rfl | simp only [RH]) only [↓RP, RG, FX, RQ, ↓reduceIte, Nat.reduceEqDiff, reduceCtorEq, Nat.reduceBEq, Nat.reduceAdd, Nat.reduceLeDiff, flV, z0, z1, z1', z4, z4', Int.toNat_natCast]
              exact ⟨i + 1, hlt, by rw [hoi]; first | rfl | (simp; omega), by omega⟩
    · obtain rfl : xs.length = i := by omega
      generalize on xs.length = ob at *
      simp (disch := first | assumption | omega | rfl | simp only [RH]) only [↓RP, RG, FX, RQ, ↓reduceIte, Nat.reduceEqDiff, reduceCtorEq, Nat.reduceBEq, Nat.reduceAdd, Nat.reduceLeDiff, flV, beq_self_eq_true]
      refine callK_F 6 (hangAlive_c) (by simp (disch := first | assumption | omega | rfl | simp only [RH]) only [↓RP, RG, FX, RQ, ↓reduceIte, Nat.reduceEqDiff, reduceCtorEq, Nat.reduceBEq, Nat.reduceAdd, Nat.reduceLeDiff, RA] <;> rfl) (.inl (by simp [allFresh, ints_fresh, bools_fresh])) ?_
      simp (disch := first | assumption | omega | rfl | simp only [RH]) only [↓RP, RG, FX, RQ, ↓reduceIte, Nat.reduceEqDiff, reduceCtorEq, Nat.reduceBEq, Nat.reduceAdd, Nat.reduceLeDiff]
      rw [resVal_1 rfl]; simp (disch := first | assumption | omega | rfl | simp only [RH]) only [↓RP, RG, FX, RQ, ↓reduceIte, Nat.reduceEqDiff, reduceCtorEq, Nat.reduceBEq, Nat.reduceAdd, Nat.reduceLeDiff, RS]
  · refine Contract.intro (effS [] false) 6 follows Tryz.func3 rfl rfl (by kernel_rfl) (Nat.le_of_ble_eq_true rfl) ?_
    simp (disch := first | assumption | omega | rfl | simp only [RH]) only [↓RP, RG, FX, RQ, ↓reduceIte, Nat.reduceEqDiff, reduceCtorEq, Nat.reduceBEq, Nat.reduceAdd, Nat.reduceLeDiff, args0_2]
    refine callK_F 6 (hV) (by simp (disch := first | assumption | omega | rfl | simp only [RH]) only [↓RP, RG, FX, RQ, ↓reduceIte, Nat.reduceEqDiff, reduceCtorEq, Nat.reduceBEq, Nat.reduceAdd, Nat.reduceLeDiff, RA] <;> rfl) (.inl (by simp [allFresh, ints_fresh, bools_fresh])) ?_
    simp (disch := first | assumption | omega | rfl | simp only [RH]) only [↓RP, RG, FX, RQ, ↓reduceIte, Nat.reduceEqDiff, reduceCtorEq, Nat.reduceBEq, Nat.reduceAdd, Nat.reduceLeDiff]
    refine callK_F 6 (k1) (by simp (disch := first | assumption | omega | rfl | simp only [RH]) only [↓RP, RG, FX, RQ, ↓reduceIte, Nat.reduceEqDiff, reduceCtorEq, Nat.reduceBEq, Nat.reduceAdd, Nat.reduceLeDiff, RA] <;> rfl) (.inl (by simp [allFresh, ints_fresh, bools_fresh])) ?_
    simp (disch := first | assumption | omega | rfl | simp only [RH]) only [↓RP, RG, FX, RQ, ↓reduceIte, Nat.reduceEqDiff, reduceCtorEq, Nat.reduceBEq, Nat.reduceAdd, Nat.reduceLeDiff]
    refine callK_F 6 k2 (by simp (disch := first | assumption | omega | rfl | simp only [RH]) only [↓RP, RG, FX, RQ, ↓reduceIte, Nat.reduceEqDiff, reduceCtorEq, Nat.reduceBEq, Nat.reduceAdd, Nat.reduceLeDiff, RA] <;> rfl) (.inl (flV_fresh _ _)) ?_
    simp (disch := first | assumption | omega | rfl | simp only [RH]) only [↓RP, RG, FX, RQ, ↓reduceIte, Nat.reduceEqDiff, reduceCtorEq, Nat.reduceBEq, Nat.reduceAdd, Nat.reduceLeDiff, flV]
    refine callK_F 6 k3 (by simp (disch := first | assumption | omega | rfl | simp only [RH]) only [↓RP, RG, FX, RQ, ↓reduceIte, Nat.reduceEqDiff, reduceCtorEq, Nat.reduceBEq, Nat.reduceAdd, Nat.reduceLeDiff, RA] <;> rfl) (.inl (flV_fresh _ _)) ?_
    simp (disch := first | assumption | omega | rfl | simp only [RH]) only [↓RP, RG, FX, RQ, ↓reduceIte, Nat.reduceEqDiff, reduceCtorEq, Nat.reduceBEq, Nat.reduceAdd, Nat.reduceLeDiff, flV]
    refine callK_F 6 ho (by simp (disch := first | assumption | omega | rfl | simp only [RH]) only [↓RP, RG, FX, RQ, ↓reduceIte, Nat.reduceEqDiff, reduceCtorEq, Nat.reduceBEq, Nat.reduceAdd, Nat.reduceLeDiff, RA] <;> rfl) (.inl rfl) ?_
    simp (disch := first | assumption | omega | rfl | simp only [RH]) only [↓RP, RG, FX, RQ, ↓reduceIte, Nat.reduceEqDiff, reduceCtorEq, Nat.reduceBEq, Nat.reduceAdd, Nat.reduceLeDiff, flV]
    refine callK_F 6 (hvis) (by simp (disch := first | assumption | omega | rfl | simp only [RH]) only [↓RP, RG, FX, RQ, ↓reduceIte, Nat.reduceEqDiff, reduceCtorEq, Nat.reduceBEq, Nat.reduceAdd, Nat.reduceLeDiff, RA] <;> rfl) (.inl (by simp [allFresh, ints_fresh, bools_fresh])) ?_
    simp (disch := first | assumption | omega | rfl | simp only [RH]) only [↓RP, RG, FX, RQ, ↓reduceIte, Nat.reduceEqDiff, reduceCtorEq, Nat.reduceBEq, Nat.reduceAdd, Nat.reduceLeDiff, flV]
    refine loopK_I [1, 2, 9, 11, 12, 13, 14] (fun i : Nat => i ≤ xs.length) (fun i => ⟨[(1, I u), (2, .ptr 0 0 3), (9, flV true xs), (11, B (on xs.length)), (12, I 0), (13, B (on i)), (14, I i)], [⟨24, 3, [I W, I H, BA b l]⟩]⟩) (fun i => xs.length - i) 0 (by omega) (by simp only [↓RP, RG, FX, RQ, ↓reduceIte, Nat.reduceEqDiff, reduceCtorEq, Nat.reduceBEq, Nat.reduceAdd, Nat.reduceLeDiff]; rw [hon0]; rfl) ?_
    intro i hi
    by_cases hlt : i < xs.length
    · have z0 := pX_fl0 hlt
      have z1' : (((fls xs).drop (i * 5)).drop 1)[0]? = some (I (flD xs i).a) := by rw [fls_drop hlt, flD_get hlt]; rfl
      have z1 : ((fls xs).drop (i * 5 + 1))[0]? = some (I (flD xs i).a) := by rw [← List.drop_drop]; exact z1'
      have z4' := pX_fl4 hlt
      have z4 : ((fls xs).drop (i * 5 + 4))[0]? = some (B (flD xs i).z) := by rw [← List.drop_drop]; exact z4'
      have hxm : flD xs i ∈ xs := by rw [flD_get hlt]; exact List.getElem_mem hlt
      obtain ⟨b1, b2⟩ := hxs _ hxm
      have hoi := hons i hlt
      cases hw : (flD xs i).w with
      | true =>
        have ht : tno W (flD xs i) = (flD xs i).a := by unfold tno; rw [hw]; rfl
        rw [ht] at hoi b1
        rw [hw] at z0
        cases hoc : on i with
        | true =>
          rw [hoc, Bool.true_or] at hoi
          simp (disch := first | assumption | omega | rfl | simp only [RH]) only [↓RP, RG, FX, RQ, ↓reduceIte, Nat.reduceEqDiff, reduceCtorEq, Nat.reduceBEq, Nat.reduceAdd, Nat.reduceLeDiff, flV, z0, z1, z1', Int.toNat_natCast]
          exact ⟨i + 1, hlt, by rw [hoi]; rfl, by omega⟩
        | false =>
          rw [hoc, Bool.false_or] at hoi
          cases hz : (flD xs i).z with
          | false =>
            rw [hz, Bool.false_and] at hoi
            rw [hz] at z4 z4'
            simp (disch := first | assumption | omega | rfl | simp only [RH]) only [↓RP, RG, FX, RQ, ↓reduceIte, Nat.reduceEqDiff, reduceCtorEq, Nat.reduceBEq, Nat.reduceAdd, Nat.reduceLeDiff, flV, z0, z1, z1', z4, z4', Int.toNat_natCast]
            exact ⟨i + 1, hlt, by rw [hoi]; rfl, by omega⟩
          | true =>
            rw [hz, Bool.true_and] at hoi
            rw [hz] at z4 z4'
            by_cases hu : (flD xs i).a = u
            · rw [decide_eq_true hu] at hoi
              simp (disch := first | assumption | omega | rfl | simp only [RH]) only [↓RP, RG, FX, RQ, ↓reduceIte, Nat.reduceEqDiff, reduceCtorEq, Nat.reduceBEq, Nat.reduceAdd, Nat.reduceLeDiff, flV, z0, z1, z1', z4, z4', Int.toNat_natCast]
              exact ⟨i + 1, hlt, by rw [hoi]; first | rfl | (simp [hu]), by omega⟩
            · rw [decide_eq_false hu] at hoi
              simp (disch := first | assumption | omega | rfl | simp only [RH]) only [↓RP, RG, FX, RQ, ↓reduceIte, Nat.reduceEqDiff, reduceCtorEq, Nat.reduceBEq, Nat.reduceAdd, Nat.reduceLeDiff, flV, z0, z1, z1', z4, z4', Int.toNat_natCast]
              exact ⟨i + 1, hlt, by rw [hoi]; first | rfl | (simp [hu]), by omega⟩
      | false =>
        have ht : tno W (flD xs i) = W + (flD xs i).a := by unfold tno; rw [hw]; rfl
        rw [ht] at hoi b1
        rw [hw] at z0
        cases hoc : on i with
        | true =>
          rw [hoc, Bool.true_or] at hoi
          simp (disch := first | assumption | omega | rfl | simp only [RH]) only [↓RP, RG, FX, RQ, ↓reduceIte, Nat.reduceEqDiff, reduceCtorEq, Nat.reduceBEq, Nat.reduceAdd, Nat.reduceLeDiff, flV, z0, z1, z1', Int.toNat_natCast]
          exact ⟨i + 1, hlt, by rw [hoi]; rfl, by omega⟩
        | false =>
          rw [hoc, Bool.false_or] at hoi
          cases hz : (flD xs i).z with
          | false =>
            rw [hz, Bool.false_and] at hoi
            rw [hz] at z4 z4'
            simp (disch := first | assumption | omega | rfl | simp only [RH]) only [↓RP, RG, FX, RQ, ↓reduceIte, Nat.reduceEqDiff, reduceCtorEq, Nat.reduceBEq, Nat.reduceAdd, Nat.reduceLeDiff, flV, z0, z1, z1', z4, z4', Int.toNat_natCast]
            exact ⟨i + 1, hlt, by rw [hoi]; rfl, by omega⟩
          | true =>
            rw [hz, Bool.true_and] at hoi
            rw [hz] at z4 z4'
            by_cases hu : W + (flD xs i).a = u
            · rw [decide_eq_true hu] at hoi
              simp (disch := first | assumption | omega | rfl | simp only [RH]) only [↓RP, RG, FX, RQ, ↓reduceIte, Nat.reduceEqDiff, reduceCtorEq, Nat.reduceBEq, Nat.reduceAdd, Nat.reduceLeDiff, flV, z0, z1, z1', z4, z4', Int.toNat_natCast]
              exact ⟨i + 1, hlt, by rw [hoi]; first | rfl | (simp; omega), by omega⟩
            · rw [decide_eq_false hu] at hoi
              simp (disch := first | assumption | omega | rfl | simp only [RH]) only [↓RP, RG, FX, RQ, ↓reduceIte, Nat.reduceEqDiff, reduceCtorEq, Nat.reduceBEq, Nat.reduceAdd, Nat.reduceLeDiff, flV, z0, z1, z1', z4, z4', Int.toNat_natCast]
              exact ⟨i + 1, hlt, by rw [hoi]; first | rfl | (simp; omega), by omega⟩
    · obtain rfl : xs.length = i := by omega
      generalize on xs.length = ob at *
      simp (disch := first | assumption | omega | rfl | simp only [RH]) only [↓RP, RG, FX, RQ, ↓reduceIte, Nat.reduceEqDiff, reduceCtorEq, Nat.reduceBEq, Nat.reduceAdd, Nat.reduceLeDiff, flV, beq_self_eq_true]
      refine callK_F 6 (hangAlive_c) (by simp (disch := first | assumption | omega | rfl | simp only [RH]) only [↓RP, RG, FX, RQ, ↓reduceIte, Nat.reduceEqDiff, reduceCtorEq, Nat.reduceBEq, Nat.reduceAdd, Nat.reduceLeDiff, RA] <;> rfl) (.inl (by simp [allFresh, ints_fresh, bools_fresh])) ?_
      simp (disch := first | assumption | omega | rfl | simp only [RH]) only [↓RP, RG, FX, RQ, ↓reduceIte, Nat.reduceEqDiff, reduceCtorEq, Nat.reduceBEq, Nat.reduceAdd, Nat.reduceLeDiff]
      rw [resVal_1 rfl]; simp (disch := first | assumption | omega | rfl | simp only [RH]) only [↓RP, RG, FX, RQ, ↓reduceIte, Nat.reduceEqDiff, reduceCtorEq, Nat.reduceBEq, Nat.reduceAdd, Nat.reduceLeDiff, RS]
end Go.Proofs.YtllijejobeogdaaGreatDoor
