/- Part 2 of the proof's own texts: the contracts of functions, and what they rest on. -/
import Derived.Test.YtbhkhaaifielkaaJ1
/- The kinds of rows, by the program. -/
set_option linter.unusedSimpArgs false
set_option linter.unusedVariables false
set_option maxRecDepth 100000
namespace Go.Proofs.Ytbhkhaaifielkaa
open Go Go.Proofs Go.AW

theorem padR_eq {W : Nat} (hW : W ≤ 64) {l : List Bool} {a b : Nat} : padR W l a = padR W l b ↔ rowN W l a = rowN W l b := by
  rw [rowN_eq]
  constructor
  · intro h x hx
    have := congrArg (fun r : List Bool => r.getD x false) h
    simpa [padR, List.getD_eq_getElem?_getD, List.getElem?_range (show x < 64 by omega), hx] using this
  · intro h
    refine List.map_congr_left fun x hx => ?_
    by_cases hxW : x < W
    · rw [h x hxW]
    · simp [hxW]
theorem eq_line {W : Nat} (hW : W ≤ 64) (l : List Bool) (a b : Nat) : eqK (List.replicate 64 true ++ [false]) (lineA W l a) (lineA W l b) = some (decide (rowN W l a = rowN W l b)) := by
  have h := eqK_bools (padR W l a) (padR W l b) [false] [I W] [I W] (by rw [padR_len, padR_len])
  rw [padR_len] at h
  unfold lineA
  rw [h, eqK_int, eqK_nil]
  simp only [Option.map_some, beq_self_eq_true, Bool.and_true]
  congr 1
  rw [Bool.eq_iff_iff, beq_iff_eq, decide_eq_true_iff]
  exact padR_eq hW
/-- The lines of some rows, one after the other. -/
def seenC (W : Nat) (l : List Bool) (fs : List Nat) : List AVal := fs.flatMap (lineA W l)
theorem seenC_len (W : Nat) (l : List Bool) (fs : List Nat) : (seenC W l fs).length = fs.length * 65 := by
  induction fs with
  | nil => rfl
  | cons f fs ih => simp only [seenC, List.flatMap_cons, List.length_append, List.length_cons, lineA_len] at ih ⊢; omega
theorem seenC_app (W : Nat) (l : List Bool) (fs : List Nat) (y : Nat) : seenC W l (fs ++ [y]) = seenC W l fs ++ lineA W l y := by simp [seenC]
theorem seenC_at (W : Nat) (l : List Bool) : ∀ (fs : List Nat) (k : Nat), k < fs.length → ((seenC W l fs).drop (k * 65)).take 65 = lineA W l (fs.getD k 0)
  | [], k, h => by simp at h
  | f :: fs, 0, _ => by
    simp only [seenC, List.flatMap_cons, Nat.zero_mul, List.drop_zero, List.getD_cons_zero]
    rw [List.take_append_of_le_length (by rw [lineA_len]; exact Nat.le_refl _), List.take_of_length_le (by rw [lineA_len]; exact Nat.le_refl _)]
  | f :: fs, k + 1, h => by
    have ih := seenC_at W l fs k (by simpa using h)
    have e : (k + 1) * 65 = (lineA W l f).length + k * 65 := by rw [lineA_len]; omega
    simp only [seenC, List.flatMap_cons, List.getD_cons_succ] at ih ⊢
    rw [e, List.drop_append, List.drop_eq_nil_of_le (by omega), List.nil_append, Nat.add_sub_cancel_left]
    exact ih
theorem lineA_one (W : Nat) (l : List Bool) (y : Nat) : (lineA W l y).all AVal.one = true := by
  rw [lineA, List.all_append, bools_one]; rfl
theorem lineA_ren (f : Nat → Option Nat) (n : Nat) (W : Nat) (l : List Bool) (y : Nat) : (lineA W l y).map (ren f (n + 1)) = lineA W l y := by
  simp only [lineA, List.map_append, map_ren_bools]; rfl
theorem seenC_ren (f : Nat → Option Nat) (n : Nat) (W : Nat) (l : List Bool) (fs : List Nat) : (seenC W l fs).map (ren f (n + 1)) = seenC W l fs := by
  induction fs with
  | nil => rfl
  | cons g fs ih => simp only [seenC, List.flatMap_cons, List.map_append, lineA_ren] at ih ⊢; rw [ih]
theorem take_line (W : Nat) (l : List Bool) (y : Nat) : (lineA W l y).take 65 = lineA W l y := List.take_of_length_le (by rw [lineA_len]; exact Nat.le_refl _)
theorem lnC_fr (n W H : Nat) (l : List Bool) (y : Nat) : (lnC W H l y).all (allFresh (n + 1)) = true := by
  rw [List.all_eq_true]
  intro x hx
  simp only [lnC, List.mem_map] at hx
  obtain ⟨i, _, rfl⟩ := hx
  simp only [lnZ]
  split <;> split <;> rfl
theorem lnC_ren (f : Nat → Option Nat) (n W H : Nat) (l : List Bool) (y : Nat) : (lnC W H l y).map (ren f (n + 1)) = lnC W H l y := by
  simp only [lnC, List.map_map]
  refine List.map_congr_left fun i _ => ?_
  simp only [Function.comp, lnZ]
  split <;> split <;> rfl
theorem ren_gwW (f : Nat → Option Nat) (n s k m : Nat) (hk : f k = some k) : ren f (n + 1) (gwW s k m) = gwW s k m := by
  unfold gwW
  split
  · simp [ren, hk]
  · simp [ren, hk]
theorem renO_goW (f : Nat → Option Nat) (n e s : Nat) (xs : List AVal) (hx : xs.map (ren f n) = xs) : renO f n (goW e s xs) = goW e s xs := by
  cases xs with
  | nil => rfl
  | cons x xr =>
    show AObj.mk e s ((x :: xr).map (ren f n)) = _
    rw [hx]; rfl
theorem lnC_len65 (W H : Nat) (l : List Bool) {y : Nat} (hy : y < H) : 65 ≤ ((lnC W H l H).drop (y * 65)).length := by rw [List.length_drop, lnC_len]; omega
theorem seenC_len65 (W : Nat) (l : List Bool) (fs : List Nat) {k : Nat} (hk : k < fs.length) : 65 ≤ ((seenC W l fs).drop (k * 65)).length := by rw [List.length_drop, seenC_len]; omega
theorem spl_line {cs : List AVal} (W : Nat) (l : List Bool) (y : Nat) (hc : cs.length = 65) : splice cs 0 (lineA W l y) = lineA W l y := by
  have hl := splice_length cs 0 (lineA W l y) (by rw [lineA_len]; omega)
  refine List.ext_getElem (by rw [hl, lineA_len, hc]) fun i h1 h2 => ?_
  rw [splice_get cs 0 (lineA W l y) (by rw [lineA_len]; omega) i h1, dif_pos ⟨Nat.zero_le _, by omega⟩]
  rfl
theorem sX_line {g : Bool} {h : List AObj} {id ty es : Nat} {cs : List AVal} (W : Nat) (l : List Bool) (y : Nat) (hty : ty ≠ 1000003) (hc : cs.length = 65) : sX (some (g, 65)) h id 0 65 (some ⟨ty, es, cs⟩) (some (lineA W l y)) = some (h.set id ⟨ty, es, lineA W l y⟩) := by
  rw [sX_mk hty, if_pos ⟨hc, lineA_len W l y, by rw [lineA_len]; omega, lineA_one W l y⟩, spl_line W l y hc]
theorem kindsP_c {W H : Nat} (hW1 : 1 ≤ W) (hW : W ≤ 64) (hH1 : 1 ≤ H) (hH : H ≤ 64) (b : Bool) {l : List Bool} (hn : l.length = W * H) :
    Contract Try.prog 27 [GA W H b l] (.tuple [LR (nI (knd (rowN W l) H).1).isEmpty (nI (knd (rowN W l) H).1), LR (nI (knd (rowN W l) H).2).isEmpty (nI (knd (rowN W l) H).2)]) := by
  refine Contract.intro (effS [] false) 6 follows Try.func27 rfl rfl (by kernel_rfl) (Nat.le_of_ble_eq_true rfl) ?_
  simp (disch := first | assumption | omega | rfl | simp only [RH]) only [↓RP, RG, FX, RQ, ↓reduceIte, Nat.reduceEqDiff, reduceCtorEq, Nat.reduceBEq, Nat.reduceAdd, Nat.reduceLeDiff, args0_1]
  refine callK_F 6 (lines_c hW1 hW hH1 hH b hn) (by simp (disch := first | assumption | omega | rfl | simp only [RH]) only [↓RP, RG, FX, RQ, ↓reduceIte, Nat.reduceEqDiff, reduceCtorEq, Nat.reduceBEq, Nat.reduceAdd, Nat.reduceLeDiff, RA] <;> rfl) (.inl (by simp [allFresh, lnC_fr])) ?_
  simp (disch := first | assumption | omega | rfl | simp only [RH]) only [↓RP, RG, FX, RQ, ↓reduceIte, Nat.reduceEqDiff, reduceCtorEq, Nat.reduceBEq, Nat.reduceAdd, Nat.reduceLeDiff]
  refine loopK_WW [2, 3, 4, 9, 10, 11] (fun y : Nat => y ≤ H) (fun y : Nat => ⟨[(2, gw true 1 (ints (nI (knd (rowN W l) y).1))), (3, gw true 2 (ints (nI (knd (rowN W l) y).2))), (4, gwW 65 3 (knd (rowN W l) y).2.length), (9, .list true false H (lnC W H l H)), (10, I H), (11, I y)], [⟨25, 3, [I W, I H, BA b l]⟩, go 3 (ints (nI (knd (rowN W l) y).1)), go 3 (ints (nI (knd (rowN W l) y).2)), goW 83 65 (seenC W l (knd (rowN W l) y).2)]⟩) (fun y => H - y) 0 (by omega) ?_ ?_
  · simp only [↓RP, RG, FX, RQ, ↓reduceIte, Nat.reduceEqDiff, reduceCtorEq, Nat.reduceBEq, Nat.reduceAdd, Nat.reduceLeDiff]
    exact Wk.weak (WE.cons _ (.nil _) (WE.cons _ (.nil _) (WE.cons _ (.nil _) (WE.cons _ (.refl _) (WE.cons _ (.refl _) (WE.cons _ (.refl _) WE.nil)))))) (.cons _ _ _ _ (WL.refl _) (.nil _ (by simp [go, ints, nI, knd, goW, seenC])))
  intro y hy
  by_cases hy2 : y < H
  · have hl1 := knd_len (rowN W l) y
    have hl2 := knd_le (rowN W l) y
    have hfi := knd_first (rowN W l) y
    have hkn : knd (rowN W l) (y + 1) = ((knd (rowN W l) y).1 ++ [plc (rowN W l) (knd (rowN W l) y).2 y], if plc (rowN W l) (knd (rowN W l) y).2 y = (knd (rowN W l) y).2.length then (knd (rowN W l) y).2 ++ [y] else (knd (rowN W l) y).2) := rfl
    generalize (knd (rowN W l) y).1 = ks at *
    generalize (knd (rowN W l) y).2 = fs at *
    have hk1 := nI_len ks
    have hk2 := nI_len fs
    have hk3 : (ints (nI ks)).length = ks.length := by rw [ints_length, nI_len]
    have hk4 : (ints (nI fs)).length = fs.length := by rw [ints_length, nI_len]
    have hlc := lnC_line W H l hy2
    have hl65 := lnC_len65 W H l hy2
    have hsl := seenC_len W l fs
    have hz65 : (bools (List.replicate 64 false) ++ [I 0]).length = 65 := by simp [bools_length]
    simp (disch := first | assumption | omega | rfl | simp only [RH]) only [↓RP, RG, FX, RQ, ↓reduceIte, Nat.reduceEqDiff, reduceCtorEq, Nat.reduceBEq, Nat.reduceAdd, Nat.reduceLeDiff, idxM_list, Int.toNat_natCast, hlc, hl65, take_line, parts_agg, sX_line]
    refine loopK_I [2, 3, 4, 5, 6, 7, 9, 10, 11] (fun k : Nat => k ≤ fs.length ∧ ∀ j, j < k → rowN W l (fs.getD j 0) ≠ rowN W l y) (fun k : Nat => ⟨[(2, gw true 1 (ints (nI ks))), (3, gw true 2 (ints (nI fs))), (4, gwW 65 3 fs.length), (5, I y), (6, .ptr 4 0 65), (7, I k), (9, .list true false H (lnC W H l H)), (10, I H), (11, I y)], [⟨25, 3, [I W, I H, BA b l]⟩, go 3 (ints (nI ks)), go 3 (ints (nI fs)), goW 83 65 (seenC W l fs), ⟨83, 65, lineA W l y⟩]⟩) (fun k => fs.length - k) 0 ⟨by omega, fun j hj => by omega⟩ (by simp only [↓RP, RG, FX, RQ, ↓reduceIte, Nat.reduceEqDiff, reduceCtorEq, Nat.reduceBEq, Nat.reduceAdd, Nat.reduceLeDiff]; rfl) ?_
    rintro k ⟨hk, hne⟩
    have hll := lineA_len W l y
    have hone := lineA_one W l y
    by_cases hlt : k < fs.length
    · have hat := seenC_at W l fs k hlt
      have hs65 := seenC_len65 W l fs hlt
      have heq := eq_line hW l (fs.getD k 0) y
      by_cases he : rowN W l (fs.getD k 0) = rowN W l y
      · have hp := plc_eq (rowN W l) hk hne (fun _ => he)
        rw [hp, if_neg (by omega)] at hkn
        rw [decide_eq_true he] at heq
        simp (disch := first | assumption | omega | rfl | simp only [RH]) only [↓RP, RG, FX, RQ, ↓reduceIte, Nat.reduceEqDiff, reduceCtorEq, Nat.reduceBEq, Nat.reduceAdd, Nat.reduceLeDiff, sview_gwW, gSW_go, idxW_gw, cA_goW, cA_lenW, hat, hs65, take_line, hll, heq, neqKT, append_int, Int.toNat_natCast]
        exact ⟨y + 1, by omega, (Wk.drop (hb := []) (h1 := []) (gs := [_, _, _, _, _]) 8 [0, 1, 2, 3] rfl (by decide) (by simp) (by simp)).trans (Wk.of_eq (by simp (disch := omega) only [RK, List.idxOf?_cons, List.idxOf?_nil, Nat.reduceBEq, Option.map_some, Option.map_none, List.map_cons, List.map_nil, List.getD_cons_zero, List.getD_cons_succ, Bool.false_eq_true, ↓reduceIte, Nat.add_zero, List.append_nil, seenC_ren, lnC_ren, ren_gwW _ _ _ _ _ (show keepF ([] : List AObj).length [0, 1, 2, 3] 3 = some 3 from rfl), renO_goW _ _ _ _ _ (seenC_ren _ _ _ _ _)]; rw [hkn]; simp only [nI_app, seenC_app, List.length_append, List.length_singleton]; rfl)), by omega⟩
      · rw [decide_eq_false he] at heq
        simp (disch := first | assumption | omega | rfl | simp only [RH]) only [↓RP, RG, FX, RQ, ↓reduceIte, Nat.reduceEqDiff, reduceCtorEq, Nat.reduceBEq, Nat.reduceAdd, Nat.reduceLeDiff, sview_gwW, gSW_go, idxW_gw, cA_goW, cA_lenW, hat, hs65, take_line, hll, heq, neqKT, Int.toNat_natCast]
        refine ⟨k + 1, ⟨by omega, fun j hj => ?_⟩, rfl, by omega⟩
        by_cases hjk : j = k
        · subst hjk; exact he
        · exact hne j (by omega)
    · obtain rfl : k = fs.length := by omega
      have hp := plc_eq (rowN W l) (Nat.le_refl _) hne (fun h => absurd h (by omega))
      rw [hp, if_pos rfl] at hkn
      simp (disch := first | assumption | omega | rfl | simp only [RH]) only [↓RP, RG, FX, RQ, ↓reduceIte, Nat.reduceEqDiff, reduceCtorEq, Nat.reduceBEq, Nat.reduceAdd, Nat.reduceLeDiff, sview_gwW, gSW_go, cA_lenW, hll, take_line, append_int, List.length_replicate, spl_line]
      rw [append_W (xs := seenC W l fs) rfl hsl hll hone (by omega) (by omega), ← seenC_app]
      simp (disch := first | assumption | omega | rfl | simp only [RH]) only [↓RP, RG, FX, RQ, ↓reduceIte, Nat.reduceEqDiff, reduceCtorEq, Nat.reduceBEq, Nat.reduceAdd, Nat.reduceLeDiff, append_int]
      exact ⟨y + 1, by omega, (Wk.drop (hb := []) (h1 := []) (gs := [_, _, _, _, _]) 8 [0, 1, 2, 3] rfl (by decide) (by simp) (by simp)).trans (Wk.of_eq (by simp (disch := omega) only [RK, List.idxOf?_cons, List.idxOf?_nil, Nat.reduceBEq, Option.map_some, Option.map_none, List.map_cons, List.map_nil, List.getD_cons_zero, List.getD_cons_succ, Bool.false_eq_true, ↓reduceIte, Nat.add_zero, List.append_nil, seenC_ren, lnC_ren, ren_gwW _ _ _ _ _ (show keepF ([] : List AObj).length [0, 1, 2, 3] 3 = some 3 from rfl), renO_goW _ _ _ _ _ (seenC_ren _ _ _ _ _)]; rw [hkn]; simp only [nI_app, seenC_app, List.length_append, List.length_singleton]; rfl)), by omega⟩
  · obtain rfl : y = H := by omega
    simp (disch := first | assumption | omega | rfl | simp only [RH]) only [↓RP, RG, FX, RQ, ↓reduceIte, Nat.reduceEqDiff, reduceCtorEq, Nat.reduceBEq, Nat.reduceAdd, Nat.reduceLeDiff]
    rw [resVal_2 rfl]; simp (disch := first | assumption | omega | rfl | simp only [RH]) only [↓RP, RG, FX, RQ, ↓reduceIte, Nat.reduceEqDiff, reduceCtorEq, Nat.reduceBEq, Nat.reduceAdd, Nat.reduceLeDiff, RS]
    simp only [Bool.true_and, ints_isEmpty]
end Go.Proofs.Ytbhkhaaifielkaa

/- Grids: made cell by cell, turned. -/
set_option linter.unusedSimpArgs false
set_option linter.unusedVariables false
set_option maxRecDepth 100000
namespace Go.Proofs.Ytbhkhaaifielkaa
open Go Go.Proofs Go.AW

theorem build_c (f : FuncId) (caps : List AVal) (W H : Nat) (u : Nat → Nat → Bool) (hw : W ≤ 10000) (hh : H ≤ 10000) (hcaps : ∀ r : List AObj, caps.map (argOf r 6) = caps) (hup : ∀ x y : Nat, x < W → y < H → Contract Try.prog f ([I x, I y] ++ caps) (B (u x y))) :
    Contract Try.prog 50 [I W, I H, .func (.func f) [] caps] (GR W H false (tabN W u (W * H))) := by
  have hm := mul_bd (W := W) (H := H) hw hh
  refine Contract.intro (effS [] false) 6 follows Try.func50 rfl rfl (by kernel_rfl) (Nat.le_of_ble_eq_true rfl) ?_
  simp (disch := first | assumption | omega | rfl | simp only [RH]) only [↓RP, RG, FX, RQ, ↓reduceIte, Nat.reduceEqDiff, reduceCtorEq, Nat.reduceBEq, Nat.reduceAdd, Nat.reduceLeDiff, args0_3, make_bool, Int.toNat_zero]
  refine loopK_I [0, 1, 2, 6, 7, 17, 18] (fun y : Nat => y ≤ H) (fun y => ⟨[(0, I W), (1, I H), (2, .func (.func f) [] caps), (6, .ptr 0 0 3), (7, .ptr 2 0 3), (17, I H), (18, I y)], [⟨25, 3, [I 0, I 0, .cap0 true]⟩, ⟨4, 1, bools (tabN W u (W * y))⟩, ⟨25, 3, [I W, I H, .ref 1 0 (W * y) (W * y)]⟩]⟩) (fun y => H - y) 0 (by omega) (by simp only [↓RP, RG, FX, RQ, ↓reduceIte, Nat.reduceEqDiff, reduceCtorEq, Nat.reduceBEq, Nat.reduceAdd, Nat.reduceLeDiff, List.replicate_zero, Nat.mul_zero]; rfl) ?_
  intro y hy
  by_cases hlt : y < H
  · simp (disch := first | assumption | omega | rfl | simp only [RH]) only [↓RP, RG, FX, RQ, ↓reduceIte, Nat.reduceEqDiff, reduceCtorEq, Nat.reduceBEq, Nat.reduceAdd, Nat.reduceLeDiff]
    refine loopK_I [0, 1, 2, 6, 7, 8, 17, 18, 21, 22] (fun x : Nat => x ≤ W) (fun x => ⟨[(0, I W), (1, I H), (2, .func (.func f) [] caps), (6, .ptr 0 0 3), (7, .ptr 2 0 3), (8, I y), (17, I H), (18, I y), (21, I W), (22, I x)], [⟨25, 3, [I 0, I 0, .cap0 true]⟩, ⟨4, 1, bools (tabN W u (W * y + x))⟩, ⟨25, 3, [I W, I H, .ref 1 0 (W * y + x) (W * y + x)]⟩]⟩) (fun x => W - x) 0 (by omega) (by simp only [↓RP, RG, FX, RQ, ↓reduceIte, Nat.reduceEqDiff, reduceCtorEq, Nat.reduceBEq, Nat.reduceAdd, Nat.reduceLeDiff]; rfl) ?_
    intro x hx
    by_cases hlt2 : x < W
    · have hl := tabN_len W u (W * y + x)
      have hb : W * y + x ≤ 1000000000 := by
        have : W * y ≤ 10000 * 10000 := Nat.mul_le_mul hw (by omega)
        omega
      simp (disch := first | assumption | omega | rfl | simp only [RH]) only [↓RP, RG, FX, RQ, ↓reduceIte, Nat.reduceEqDiff, reduceCtorEq, Nat.reduceBEq, Nat.reduceAdd, Nat.reduceLeDiff]
      refine callK_V 6 (hup x y hlt2 hlt) (by rw [List.nil_append, List.map_append, hcaps]; rfl) (.inl rfl) ?_
      simp (disch := first | assumption | omega | rfl | simp only [RH]) only [↓RP, RG, FX, RQ, ↓reduceIte, Nat.reduceEqDiff, reduceCtorEq, Nat.reduceBEq, Nat.reduceAdd, Nat.reduceLeDiff, append_refB, apRX_bools]
      exact ⟨x + 1, by omega, by rw [show W * y + (x + 1) = W * y + x + 1 from rfl, tabN_succ W u hlt2]; rfl, by omega⟩
    · obtain rfl : x = W := by omega
      simp (disch := first | assumption | omega | rfl | simp only [RH]) only [↓RP, RG, FX, RQ, ↓reduceIte, Nat.reduceEqDiff, reduceCtorEq, Nat.reduceBEq, Nat.reduceAdd, Nat.reduceLeDiff]
      exact ⟨y + 1, by omega, rfl, by omega⟩
  · obtain rfl : y = H := by omega
    have hl := tabN_len W u (W * y)
    simp (disch := first | assumption | omega | rfl | simp only [RH]) only [↓RP, RG, FX, RQ, ↓reduceIte, Nat.reduceEqDiff, reduceCtorEq, Nat.reduceBEq, Nat.reduceAdd, Nat.reduceLeDiff]
    rw [resVal_1 rfl]; simp (disch := first | assumption | omega | rfl | simp only [RH]) only [↓RP, RG, FX, RQ, ↓reduceIte, Nat.reduceEqDiff, reduceCtorEq, Nat.reduceBEq, Nat.reduceAdd, Nat.reduceLeDiff, RS]
    first | done | rw [hl]

/-- A grid turned. -/
def uT (W : Nat) (l : List Bool) (x y : Nat) : Bool := cell W l y x
theorem turnF_c {W H : Nat} (hW : W ≤ 64) (hH : H ≤ 64) (b : Bool) {l : List Bool} (hn : l.length = W * H) {x y : Nat} (hx : x < H) (hy : y < W) :
    Contract Try.prog 51 [I x, I y, .spot false [I W, I H, BA b l]] (B (uT W l x y)) := by
  have h1 := idx_lt (W := W) (H := H) (x := y) (y := x) hy hx
  have h2 := idx_nat W x y
  have h3 : W * H ≤ 64 * 64 := Nat.mul_le_mul hW hH
  have h4 : (x : Int) * (W : Int) = ((W * x : Nat) : Int) := by rw [Int.natCast_mul, Int.mul_comm]
  have h5 : W * x ≤ 64 * 64 := Nat.mul_le_mul hW (by omega)
  refine Contract.intro (effS [] false) 6 follows Try.func51 rfl rfl (by kernel_rfl) (Nat.le_of_ble_eq_true rfl) ?_
  simp (disch := first | assumption | omega | rfl | simp only [RH]) only [↓RP, RG, FX, RQ, ↓reduceIte, Nat.reduceEqDiff, reduceCtorEq, Nat.reduceBEq, Nat.reduceAdd, Nat.reduceLeDiff, args0_3]
  rw [resVal_1 rfl]; simp (disch := first | assumption | omega | rfl | simp only [RH]) only [↓RP, RG, FX, RQ, ↓reduceIte, Nat.reduceEqDiff, reduceCtorEq, Nat.reduceBEq, Nat.reduceAdd, Nat.reduceLeDiff, RS]
  first | done | (unfold uT cell; rfl)

theorem gturnP_c {W H : Nat} (hW0 : 0 < W) (hH0 : 0 < H) (hW : W ≤ 64) (hH : H ≤ 64) (b : Bool) {l : List Bool} (hn : l.length = W * H) :
    Contract Try.prog 26 [GA W H b l] (.tuple [GR H W false (tabN H (uT W l) (H * W)), I 0]) := by
  have hz : gchk W H l.length = 0 := gchk_ok ⟨by omega, by omega, by omega, by omega, by rw [hn, Int.natCast_mul]⟩
  refine Contract.intro (effS [] false) 6 follows Try.func26 rfl rfl (by kernel_rfl) (Nat.le_of_ble_eq_true rfl) ?_
  simp (disch := first | assumption | omega | rfl | simp only [RH]) only [↓RP, RG, FX, RQ, ↓reduceIte, Nat.reduceEqDiff, reduceCtorEq, Nat.reduceBEq, Nat.reduceAdd, Nat.reduceLeDiff, args0_1]
  refine callK_F 6 (gcheckP_c W H b l) (by simp (disch := first | assumption | omega | rfl | simp only [RH]) only [↓RP, RG, FX, RQ, ↓reduceIte, Nat.reduceEqDiff, reduceCtorEq, Nat.reduceBEq, Nat.reduceAdd, Nat.reduceLeDiff, RA] <;> rfl) (.inl (by simp [allFresh, ints_fresh, bools_fresh])) ?_
  simp (disch := first | assumption | omega | rfl | simp only [RH]) only [↓RP, RG, FX, RQ, ↓reduceIte, Nat.reduceEqDiff, reduceCtorEq, Nat.reduceBEq, Nat.reduceAdd, Nat.reduceLeDiff]
  refine callK_F 6 (build_c 51 [.spot false [I W, I H, BA b l]] H W (uT W l) (by omega) (by omega) (fun r => by simp [argOf]; exact bools_arg l r 3) (fun x y hx hy => turnF_c hW hH b hn hx hy)) (by simp (disch := first | assumption | omega | rfl | simp only [RH]) only [↓RP, RG, FX, RQ, ↓reduceIte, Nat.reduceEqDiff, reduceCtorEq, Nat.reduceBEq, Nat.reduceAdd, Nat.reduceLeDiff, RA] <;> rfl) (.inl (by simp [allFresh, ints_fresh, bools_fresh])) ?_
  simp (disch := first | assumption | omega | rfl | simp only [RH]) only [↓RP, RG, FX, RQ, ↓reduceIte, Nat.reduceEqDiff, reduceCtorEq, Nat.reduceBEq, Nat.reduceAdd, Nat.reduceLeDiff]
  rw [resVal_2 rfl]; simp (disch := first | assumption | omega | rfl | simp only [RH]) only [↓RP, RG, FX, RQ, ↓reduceIte, Nat.reduceEqDiff, reduceCtorEq, Nat.reduceBEq, Nat.reduceAdd, Nat.reduceLeDiff, RS]
end Go.Proofs.Ytbhkhaaifielkaa

/- The kinds of columns and rows, by both. -/
set_option linter.unusedSimpArgs false
set_option linter.unusedVariables false
set_option maxRecDepth 100000
namespace Go.Proofs.Ytbhkhaaifielkaa
open Go Go.Proofs Go.AW

theorem turnedR_c {W H : Nat} (hW0 : 0 < W) (hH0 : 0 < H) (hW : W ≤ 64) (hH : H ≤ 64) (b : Bool) {l : List Bool} (hn : l.length = W * H) :
    Contract Try.prog 16 [GA W H b l] (GR H W false (tabN H (uT W l) (H * W))) := by
  have hWH : H * W ≤ 64 * 64 := Nat.mul_le_mul (by omega) (by omega)
  have hWH2 : W * H ≤ 64 * 64 := Nat.mul_le_mul (by omega) (by omega)
  have r1 := tabN_len H (uT W l) (H * W)
  refine Contract.intro (effS [33] false) 6 follows Try.func16 rfl rfl (by kernel_rfl) (Nat.le_of_ble_eq_true rfl) ?_
  simp (disch := first | assumption | omega | rfl | simp only [RH]) only [↓RP, RG, FX, RQ, ↓reduceIte, Nat.reduceEqDiff, reduceCtorEq, Nat.reduceBEq, Nat.reduceAdd, Nat.reduceLeDiff, args0_1]
  refine callK_T rfl (zero_n _ H W (by omega) (by omega)) ?_
  simp (disch := first | assumption | omega | rfl | simp only [RH]) only [↓RP, RG, FX, RQ, ↓reduceIte, Nat.reduceEqDiff, reduceCtorEq, Nat.reduceBEq, Nat.reduceAdd, Nat.reduceLeDiff]
  refine loopK_I [1, 2, 3, 4] (fun x : Nat => x ≤ H) (fun x => ⟨[(1, .ptr 0 0 3), (2, .ptr 1 0 3), (3, .ptr 3 0 3), (4, I x)], [⟨25, 3, [I W, I H, BA b l]⟩, ⟨25, 3, [I 0, I 0, .cap0 true]⟩, ⟨4, 1, bools (colN H (uT W l) (H * W) x 0)⟩, ⟨25, 3, [I H, I W, .ref 2 0 (H * W) (H * W)]⟩]⟩) (fun x => H - x) 0 (by omega) (by simp only [↓RP, RG, FX, RQ, ↓reduceIte, Nat.reduceEqDiff, reduceCtorEq, Nat.reduceBEq, Nat.reduceAdd, Nat.reduceLeDiff, colN_zero]; rfl) ?_
  intro x hx
  by_cases hlt : x < H
  · simp (disch := first | assumption | omega | rfl | simp only [RH]) only [↓RP, RG, FX, RQ, ↓reduceIte, Nat.reduceEqDiff, reduceCtorEq, Nat.reduceBEq, Nat.reduceAdd, Nat.reduceLeDiff]
    refine loopK_I [1, 2, 3, 4, 5] (fun y : Nat => y ≤ W) (fun y => ⟨[(1, .ptr 0 0 3), (2, .ptr 1 0 3), (3, .ptr 3 0 3), (4, I x), (5, I y)], [⟨25, 3, [I W, I H, BA b l]⟩, ⟨25, 3, [I 0, I 0, .cap0 true]⟩, ⟨4, 1, bools (colN H (uT W l) (H * W) x y)⟩, ⟨25, 3, [I H, I W, .ref 2 0 (H * W) (H * W)]⟩]⟩) (fun y => W - y) 0 (by omega) (by simp only [↓RP, RG, FX, RQ, ↓reduceIte, Nat.reduceEqDiff, reduceCtorEq, Nat.reduceBEq, Nat.reduceAdd, Nat.reduceLeDiff]; rfl) ?_
    intro y hy
    by_cases hlt2 : y < W
    · have hcl := colN_len H (uT W l) (H * W) x y
      have hil := idx_lt hlt hlt2
      have hix := idx_lt hlt2 hlt
      have hxw : (x : Int) * (W : Int) = ((W * x : Nat) : Int) := by rw [Int.natCast_mul, Int.mul_comm]
      have hwx : W * x ≤ 64 * 64 := Nat.mul_le_mul (by omega) (by omega)
      have hA : Contract Try.prog 34 [GA W H b l, I y, I x] (B (uT W l x y)) := at_c W H b l y x (by omega) (by omega) (by omega) (by omega) (by omega)
      simp (disch := first | assumption | omega | rfl | simp only [RH]) only [↓RP, RG, FX, RQ, ↓reduceIte, Nat.reduceEqDiff, reduceCtorEq, Nat.reduceBEq, Nat.reduceAdd, Nat.reduceLeDiff]
      refine callK_F 6 (hA) (by simp (disch := first | assumption | omega | rfl | simp only [RH]) only [↓RP, RG, FX, RQ, ↓reduceIte, Nat.reduceEqDiff, reduceCtorEq, Nat.reduceBEq, Nat.reduceAdd, Nat.reduceLeDiff, RA] <;> rfl) (.inl (by simp [allFresh, ints_fresh, bools_fresh])) ?_
      simp (disch := first | assumption | omega | rfl | simp only [RH]) only [↓RP, RG, FX, RQ, ↓reduceIte, Nat.reduceEqDiff, reduceCtorEq, Nat.reduceBEq, Nat.reduceAdd, Nat.reduceLeDiff]
      refine callK_T rfl (set_n _ 2 (H * W) H x y _ W _ (by rfl) hcl hil (by omega)) ?_
      simp (disch := first | assumption | omega | rfl | simp only [RH]) only [↓RP, RG, FX, RQ, ↓reduceIte, Nat.reduceEqDiff, reduceCtorEq, Nat.reduceBEq, Nat.reduceAdd, Nat.reduceLeDiff]
      exact ⟨y + 1, by omega, by rw [← colN_step H (uT W l) hlt]; rfl, by omega⟩
    · obtain rfl : y = W := by omega
      simp (disch := first | assumption | omega | rfl | simp only [RH]) only [↓RP, RG, FX, RQ, ↓reduceIte, Nat.reduceEqDiff, reduceCtorEq, Nat.reduceBEq, Nat.reduceAdd, Nat.reduceLeDiff]
      exact ⟨x + 1, by omega, by rw [colN_row]; rfl, by omega⟩
  · obtain rfl : x = H := by omega
    simp (disch := first | assumption | omega | rfl | simp only [RH]) only [↓RP, RG, FX, RQ, ↓reduceIte, Nat.reduceEqDiff, reduceCtorEq, Nat.reduceBEq, Nat.reduceAdd, Nat.reduceLeDiff]
    rw [colN_end]
    generalize tabN x (uT W l) (x * W) = q at *
    generalize x * W = n at *
    subst r1
    rw [resVal_1 rfl]; simp (disch := first | assumption | omega | rfl | simp only [RH]) only [↓RP, RG, FX, RQ, ↓reduceIte, Nat.reduceEqDiff, reduceCtorEq, Nat.reduceBEq, Nat.reduceAdd, Nat.reduceLeDiff, RS]

/-- Kinds of columns and their firsts; of rows. -/
def tgL (W H : Nat) (l : List Bool) : List Bool := tabN H (uT W l) (H * W)
theorem tgL_len (W H : Nat) (l : List Bool) : (tgL W H l).length = H * W := tabN_len _ _ _
def kC (W H : Nat) (l : List Bool) : List Nat := (knd (rowN H (tgL W H l)) W).1
def fC (W H : Nat) (l : List Bool) : List Nat := (knd (rowN H (tgL W H l)) W).2
def kR (W H : Nat) (l : List Bool) : List Nat := (knd (rowN W l) H).1
def fR (W H : Nat) (l : List Bool) : List Nat := (knd (rowN W l) H).2
abbrev LN (l : List Nat) : AVal := LR (nI l).isEmpty (nI l)
section
variable {W H : Nat} (hW1 : 1 ≤ W) (hW : W ≤ 64) (hH1 : 1 ≤ H) (hH : H ≤ 64) (b : Bool) {l : List Bool} (hn : l.length = W * H)
include hW1 hW hH1 hH hn
theorem both_c : Contract Try.prog 12 [GA W H b l] (.tuple [LN (kC W H l), LN (fC W H l), LN (kR W H l), LN (fR W H l), I 0]) := by
  have h1 := gturnP_c (by omega) (by omega) hW hH b hn
  have h2 := fun b' => kindsP_c (W := H) (H := W) hH1 hH hW1 hW b' (l := tgL W H l) (tgL_len W H l)
  have h3 := kindsP_c hW1 hW hH1 hH b hn
  have ht := tgL_len W H l
  rw [show tabN H (uT W l) (H * W) = tgL W H l from rfl] at h1
  simp only [show (knd (rowN H (tgL W H l)) W).1 = kC W H l from rfl, show (knd (rowN H (tgL W H l)) W).2 = fC W H l from rfl] at h2
  simp only [show (knd (rowN W l) H).1 = kR W H l from rfl, show (knd (rowN W l) H).2 = fR W H l from rfl] at h3
  generalize tgL W H l = tg at *
  generalize kC W H l = a1 at *
  generalize fC W H l = a2 at *
  generalize kR W H l = a3 at *
  generalize fR W H l = a4 at *
  refine Contract.intro (effS [] false) 6 follows Try.func12 rfl rfl (by kernel_rfl) (Nat.le_of_ble_eq_true rfl) ?_
  simp (disch := first | assumption | omega | rfl | simp only [RH]) only [↓RP, RG, FX, RQ, ↓reduceIte, Nat.reduceEqDiff, reduceCtorEq, Nat.reduceBEq, Nat.reduceAdd, Nat.reduceLeDiff, args0_1]
  refine callK_F 6 (h1) (by simp (disch := first | assumption | omega | rfl | simp only [RH]) only [↓RP, RG, FX, RQ, ↓reduceIte, Nat.reduceEqDiff, reduceCtorEq, Nat.reduceBEq, Nat.reduceAdd, Nat.reduceLeDiff, RA] <;> rfl) (.inl (by simp [allFresh, ints_fresh, bools_fresh])) ?_
  simp (disch := first | assumption | omega | rfl | simp only [RH]) only [↓RP, RG, FX, RQ, ↓reduceIte, Nat.reduceEqDiff, reduceCtorEq, Nat.reduceBEq, Nat.reduceAdd, Nat.reduceLeDiff]
  refine callK_F 6 (h2 _) (by simp (disch := first | assumption | omega | rfl | simp only [RH]) only [↓RP, RG, FX, RQ, ↓reduceIte, Nat.reduceEqDiff, reduceCtorEq, Nat.reduceBEq, Nat.reduceAdd, Nat.reduceLeDiff, RA] <;> rfl) (.inl (by simp [allFresh, ints_fresh])) ?_
  simp (disch := first | assumption | omega | rfl | simp only [RH]) only [↓RP, RG, FX, RQ, ↓reduceIte, Nat.reduceEqDiff, reduceCtorEq, Nat.reduceBEq, Nat.reduceAdd, Nat.reduceLeDiff]
  refine callK_F 6 h3 (by simp (disch := first | assumption | omega | rfl | simp only [RH]) only [↓RP, RG, FX, RQ, ↓reduceIte, Nat.reduceEqDiff, reduceCtorEq, Nat.reduceBEq, Nat.reduceAdd, Nat.reduceLeDiff, RA] <;> rfl) (.inl (by simp [allFresh, ints_fresh])) ?_
  simp (disch := first | assumption | omega | rfl | simp only [RH]) only [↓RP, RG, FX, RQ, ↓reduceIte, Nat.reduceEqDiff, reduceCtorEq, Nat.reduceBEq, Nat.reduceAdd, Nat.reduceLeDiff]
  rw [resVal_5 rfl]; simp (disch := first | assumption | omega | rfl | simp only [RH]) only [↓RP, RG, FX, RQ, ↓reduceIte, Nat.reduceEqDiff, reduceCtorEq, Nat.reduceBEq, Nat.reduceAdd, Nat.reduceLeDiff, RS]
  first | done | rfl
end
end Go.Proofs.Ytbhkhaaifielkaa

/- The least draft of a grid, by both; grids that are not valid. -/
set_option linter.unusedSimpArgs false
set_option linter.unusedVariables false
set_option maxRecDepth 100000
namespace Go.Proofs.Ytbhkhaaifielkaa
open Go Go.Proofs Go.AW

section
variable (w h : Int) (b : Bool) (l : List Bool) (hz : gchk w h l.length ≠ 0)
include hz
end
end Go.Proofs.Ytbhkhaaifielkaa

/- A table filled in another order. -/
set_option linter.unusedSimpArgs false
set_option linter.unusedVariables false
set_option maxRecDepth 100000
namespace Go.Proofs.Ytbhkhaaifielkaa
open Go Go.Proofs Go.AW

/-- The table where the columns ahead of the i-th, and k cells of it, are filled; columns and rows are numbered by v2 and v1. -/
def prN (T : Nat) (v2 v1 : Nat → Nat) (u : Nat → Nat → Bool) (n i k : Nat) : List Bool := (List.range n).map fun j => if v2 (j % T) < i ∨ (v2 (j % T) = i ∧ v1 (j / T) < k) then u (j % T) (j / T) else false
theorem prN_len (T : Nat) (v2 v1 : Nat → Nat) (u : Nat → Nat → Bool) (n i k : Nat) : (prN T v2 v1 u n i k).length = n := by simp [prN]
theorem prN_zero (T : Nat) (v2 v1 : Nat → Nat) (u : Nat → Nat → Bool) (n : Nat) : prN T v2 v1 u n 0 0 = List.replicate n false := by
  apply List.ext_getElem
  · simp [prN]
  · intro i h1 h2; simp [prN]
theorem prN_step {T S : Nat} {v2 v1 : Nat → Nat} (u : Nat → Nat → Bool) {i k x y : Nat} (hx : x < T) (hy : y < S) (e2 : v2 x = i) (e1 : v1 y = k) (j2 : ∀ a, a < T → v2 a = i → a = x) (j1 : ∀ b, b < S → v1 b = k → b = y) :
    (prN T v2 v1 u (T * S) i k).set (T * y + x) (u x y) = prN T v2 v1 u (T * S) i (k + 1) := by
  have m1 : (T * y + x) % T = x := by rw [Nat.mul_add_mod]; exact Nat.mod_eq_of_lt hx
  have m2 : (T * y + x) / T = y := by rw [Nat.mul_add_div (by omega), Nat.div_eq_of_lt hx]; omega
  apply List.ext_getElem
  · simp [prN]
  intro j h1 h2
  have hj : j < T * S := by rw [prN_len] at h2; exact h2
  rw [List.getElem_set]
  split
  · rename_i he
    subst he
    simp only [prN, List.getElem_map, List.getElem_range, m1, m2, e1, e2]
    rw [if_pos (.inr ⟨trivial, by omega⟩)]
  · rename_i he
    simp only [prN, List.getElem_map, List.getElem_range]
    have hT : 0 < T := by omega
    have ha := Nat.mod_lt j hT
    have hb : j / T < S := by rw [Nat.div_lt_iff_lt_mul hT, Nat.mul_comm]; exact hj
    have hjj := Nat.div_add_mod j T
    have hc : (v2 (j % T) < i ∨ (v2 (j % T) = i ∧ v1 (j / T) < k)) ↔ (v2 (j % T) < i ∨ (v2 (j % T) = i ∧ v1 (j / T) < k + 1)) := by
      constructor
      · rintro (h | ⟨h, h'⟩)
        · exact .inl h
        · exact .inr ⟨h, by omega⟩
      · rintro (h | ⟨h, h'⟩)
        · exact .inl h
        · right
          refine ⟨h, ?_⟩
          rcases Nat.lt_or_ge (v1 (j / T)) k with h3 | h3
          · exact h3
          · exfalso
            have g1 := j2 _ ha h
            have g2 := j1 _ hb (by omega)
            rw [g1, g2] at hjj
            exact he hjj
    by_cases hd : v2 (j % T) < i ∨ (v2 (j % T) = i ∧ v1 (j / T) < k)
    · rw [if_pos hd, if_pos (hc.1 hd)]
    · rw [if_neg hd, if_neg (fun h => hd (hc.2 h))]
theorem prN_row {T S : Nat} {v2 v1 : Nat → Nat} (u : Nat → Nat → Bool) (i : Nat) (h1 : ∀ b, b < S → v1 b < S) : prN T v2 v1 u (T * S) i S = prN T v2 v1 u (T * S) (i + 1) 0 := by
  rcases Nat.eq_zero_or_pos T with h0 | h0
  · subst h0; simp [prN]
  apply List.ext_getElem
  · simp [prN]
  intro j g1 g2
  have hj : j < T * S := by rw [prN_len] at g2; exact g2
  simp only [prN, List.getElem_map, List.getElem_range]
  have hb : j / T < S := by rw [Nat.div_lt_iff_lt_mul h0, Nat.mul_comm]; exact hj
  have := h1 _ hb
  by_cases hd : v2 (j % T) < i + 1
  · rw [if_pos (by omega), if_pos (.inl hd)]
  · rw [if_neg (by omega), if_neg (by omega)]
theorem prN_end {T S : Nat} {v2 v1 : Nat → Nat} (u : Nat → Nat → Bool) (h2 : ∀ a, a < T → v2 a < T) : prN T v2 v1 u (T * S) T 0 = tabN T u (T * S) := by
  rcases Nat.eq_zero_or_pos T with h0 | h0
  · subst h0; simp [prN, tabN]
  apply List.ext_getElem
  · rw [prN_len, tabN_len]
  intro j g1 g2
  simp only [prN, tabN, List.getElem_map, List.getElem_range]
  rw [if_pos (.inl (h2 _ (Nat.mod_lt j h0)))]

/-- The inverse of a list that has each number once. -/
theorem inv_nat {l : List Int} {n : Nat} (hl : l.length = n) (ho : once l n n) :
    (∀ x, x < n → ((invL l n n).getD x 0).toNat < n) ∧ (∀ i, i < n → ∃ x : Nat, x < n ∧ l.getD i 0 = x ∧ ((invL l n n).getD x 0).toNat = i ∧ (invL l n n).getD x 0 = i ∧ ∀ a, a < n → ((invL l n n).getD a 0).toNat = i → a = x) := by
  refine ⟨fun x hx => ?_, fun i hi => ?_⟩
  · have := invL_in hl ho hx; omega
  · obtain ⟨g1, g2, g3⟩ := ho i hi
    obtain ⟨x, hx⟩ : ∃ x : Nat, l.getD i 0 = x := ⟨(l.getD i 0).toNat, by omega⟩
    have hxn : x < n := by omega
    have key : ∀ a, a < n → ∃ i', i' < n ∧ l.getD i' 0 = (a : Int) ∧ (invL l n n).getD a 0 = (i' : Int) := by
      intro a ha
      rcases invL_at ho a ha with h | ⟨h1, _⟩
      · exact h
      · obtain ⟨q, hq, e⟩ := (each_once.2 ⟨hl, ho⟩).2 a ha
        exact absurd e (h1 q (by omega))
    have uniq' : ∀ i', i' < n → l.getD i' 0 = l.getD i 0 → i' = i := by
      intro i' hi' he
      rcases Nat.lt_trichotomy i' i with h | h | h
      · exact absurd he (g3 i' h)
      · exact h
      · exact absurd he.symm ((ho i' hi').2.2 i h)
    obtain ⟨i', h1, h2, h3⟩ := key x hxn
    have hii := uniq' i' h1 (by rw [h2, hx])
    subst hii
    refine ⟨x, hxn, hx, by omega, h3, fun a ha he => ?_⟩
    obtain ⟨i2, k1, k2, k3⟩ := key a ha
    have : i2 = i' := by omega
    subst this
    omega
end Go.Proofs.Ytbhkhaaifielkaa

/- Drafts renumbered, by the reference. -/
set_option linter.unusedSimpArgs false
set_option linter.unusedVariables false
set_option maxRecDepth 100000
namespace Go.Proofs.Ytbhkhaaifielkaa
open Go Go.Proofs Go.AW

theorem bools_vals (l : List Bool) : ∀ x ∈ bools l, ∃ u, x = .val u := by intro x hx; simp [bools] at hx; rcases hx with ⟨_, rfl⟩ | ⟨_, rfl⟩ <;> exact ⟨_, rfl⟩

theorem renR_no {S T : Nat} (b1 : Bool) {th : List Int} (b2 : Bool) {td : List Int} {w h : Int} (b3 : Bool) {l : List Bool} (hd : dOk S T th td w h l.length) (c1 c2 : Bool) {m1 m2 : List Int} (k1 : m1.length ≤ 100000) (k2 : m2.length ≤ 100000) (hno : ¬ ((m1.length = S ∧ once m1 S S) ∧ (m2.length = T ∧ once m2 T T))) :
    Contract Try.prog 22 [DA S T b1 th b2 td w h b3 l, LA c1 m1, LA c2 m2] (.tuple [DN, I 2]) := by
  have e1 := hd.1
  have e2 := hd.2.1
  have p1 := hd.2.2.1
  have p2 := hd.2.2.2.1
  by_cases h1 : m1.length = S ∧ once m1 S S
  · have h2 : ¬ (m2.length = T ∧ once m2 T T) := fun h => hno ⟨h1, h⟩
    refine Contract.intro (effS [33, 32] false [] [] [] (fun _ => true) [] [32]) 6 follows Try.func22 rfl rfl (by kernel_rfl) (Nat.le_of_ble_eq_true rfl) ?_
    simp (disch := first | assumption | omega | rfl | simp only [RH]) only [↓RP, RG, FX, RQ, ↓reduceIte, Nat.reduceEqDiff, reduceCtorEq, Nat.reduceBEq, Nat.reduceAdd, Nat.reduceLeDiff, args0_3]
    refine callK_F 6 (dcheckR_c S T b1 th b2 td w h b3 l (by omega) (by omega)) (by simp (disch := first | assumption | omega | rfl | simp only [RH]) only [↓RP, RG, FX, RQ, ↓reduceIte, Nat.reduceEqDiff, reduceCtorEq, Nat.reduceBEq, Nat.reduceAdd, Nat.reduceLeDiff, RA] <;> rfl) (.inl (by simp [allFresh, ints_fresh, bools_fresh])) ?_
    simp (disch := first | assumption | omega | rfl | simp only [RH]) only [↓RP, RG, FX, RQ, ↓reduceIte, Nat.reduceEqDiff, reduceCtorEq, Nat.reduceBEq, Nat.reduceAdd, Nat.reduceLeDiff, dchk_ok hd]
    refine callK_F 6 (each_c c1 m1 S k1 (by omega) true ⟨fun _ => each_once.2 h1, fun _ => rfl⟩) (by simp (disch := first | assumption | omega | rfl | simp only [RH]) only [↓RP, RG, FX, RQ, ↓reduceIte, Nat.reduceEqDiff, reduceCtorEq, Nat.reduceBEq, Nat.reduceAdd, Nat.reduceLeDiff, RA] <;> rfl) (.inl (by simp [allFresh, ints_fresh, bools_fresh])) ?_
    simp (disch := first | assumption | omega | rfl | simp only [RH]) only [↓RP, RG, FX, RQ, ↓reduceIte, Nat.reduceEqDiff, reduceCtorEq, Nat.reduceBEq, Nat.reduceAdd, Nat.reduceLeDiff]
    refine callK_F 6 (each_c c2 m2 T k2 (by omega) false ⟨(fun h => by cases h), fun h => absurd (each_once.1 h) h2⟩) (by simp (disch := first | assumption | omega | rfl | simp only [RH]) only [↓RP, RG, FX, RQ, ↓reduceIte, Nat.reduceEqDiff, reduceCtorEq, Nat.reduceBEq, Nat.reduceAdd, Nat.reduceLeDiff, RA] <;> rfl) (.inl (by simp [allFresh, ints_fresh, bools_fresh])) ?_
    simp (disch := first | assumption | omega | rfl | simp only [RH]) only [↓RP, RG, FX, RQ, ↓reduceIte, Nat.reduceEqDiff, reduceCtorEq, Nat.reduceBEq, Nat.reduceAdd, Nat.reduceLeDiff]
    rw [resVal_2 rfl]; simp (disch := first | assumption | omega | rfl | simp only [RH]) only [↓RP, RG, FX, RQ, ↓reduceIte, Nat.reduceEqDiff, reduceCtorEq, Nat.reduceBEq, Nat.reduceAdd, Nat.reduceLeDiff, RS]
    first | done | rfl
  · refine Contract.intro (effS [33, 32] false [] [] [] (fun _ => true) [] [32]) 6 follows Try.func22 rfl rfl (by kernel_rfl) (Nat.le_of_ble_eq_true rfl) ?_
    simp (disch := first | assumption | omega | rfl | simp only [RH]) only [↓RP, RG, FX, RQ, ↓reduceIte, Nat.reduceEqDiff, reduceCtorEq, Nat.reduceBEq, Nat.reduceAdd, Nat.reduceLeDiff, args0_3]
    refine callK_F 6 (dcheckR_c S T b1 th b2 td w h b3 l (by omega) (by omega)) (by simp (disch := first | assumption | omega | rfl | simp only [RH]) only [↓RP, RG, FX, RQ, ↓reduceIte, Nat.reduceEqDiff, reduceCtorEq, Nat.reduceBEq, Nat.reduceAdd, Nat.reduceLeDiff, RA] <;> rfl) (.inl (by simp [allFresh, ints_fresh, bools_fresh])) ?_
    simp (disch := first | assumption | omega | rfl | simp only [RH]) only [↓RP, RG, FX, RQ, ↓reduceIte, Nat.reduceEqDiff, reduceCtorEq, Nat.reduceBEq, Nat.reduceAdd, Nat.reduceLeDiff, dchk_ok hd]
    refine callK_F 6 (each_c c1 m1 S k1 (by omega) false ⟨(fun h => by cases h), fun h => absurd (each_once.1 h) h1⟩) (by simp (disch := first | assumption | omega | rfl | simp only [RH]) only [↓RP, RG, FX, RQ, ↓reduceIte, Nat.reduceEqDiff, reduceCtorEq, Nat.reduceBEq, Nat.reduceAdd, Nat.reduceLeDiff, RA] <;> rfl) (.inl (by simp [allFresh, ints_fresh, bools_fresh])) ?_
    simp (disch := first | assumption | omega | rfl | simp only [RH]) only [↓RP, RG, FX, RQ, ↓reduceIte, Nat.reduceEqDiff, reduceCtorEq, Nat.reduceBEq, Nat.reduceAdd, Nat.reduceLeDiff]
    rw [resVal_2 rfl]; simp (disch := first | assumption | omega | rfl | simp only [RH]) only [↓RP, RG, FX, RQ, ↓reduceIte, Nat.reduceEqDiff, reduceCtorEq, Nat.reduceBEq, Nat.reduceAdd, Nat.reduceLeDiff, RS]
    first | done | rfl

theorem renR_ok {S T : Nat} (b1 : Bool) {th : List Int} (b2 : Bool) {td : List Int} {w h : Int} (b3 : Bool) {l : List Bool} (hd : dOk S T th td w h l.length) (c1 c2 : Bool) {m1 m2 : List Int} (n1 : m1.length = S) (n2 : m2.length = T) (o1 : once m1 S S) (o2 : once m2 T T) :
    Contract Try.prog 22 [DA S T b1 th b2 td w h b3 l, LA c1 m1, LA c2 m2] (.tuple [DR S T false (mapd th m1 th.length) false (mapd td m2 td.length) T S false (tabN T (uN T l (invL m1 S S) (invL m2 T T)) (T * S)), I 0]) := by
  have e1 := hd.1
  have e2 := hd.2.1
  have p1 := hd.2.2.1
  have p2 := hd.2.2.2.1
  have w1 := hd.2.2.2.2.1
  have w2 := hd.2.2.2.2.2.1
  have hwt : w = T := hd.2.2.2.2.2.2.2.1
  have hS := wIn_pos w1
  have hT := wIn_pos w2
  have hTS : T * S ≤ 64 * 64 := Nat.mul_le_mul (by omega) (by omega)
  obtain ⟨q2, z2⟩ := inv_nat n2 o2
  obtain ⟨q1, z1⟩ := inv_nat n1 o1
  generalize hv1 : invL m1 S S = v1 at *
  generalize hv2 : invL m2 T T = v2 at *
  have hZ := fun h2 => zero_n h2 T S (by omega) (by omega)
  have pT := w1.1
  have pD := w2.1
  refine Contract.intro (effS [33, 32] false [] [] [] (fun _ => true) [] [32]) 6 follows Try.func22 rfl rfl (by kernel_rfl) (Nat.le_of_ble_eq_true rfl) ?_
  simp (disch := first | assumption | omega | rfl | simp only [RH]) only [↓RP, RG, FX, RQ, ↓reduceIte, Nat.reduceEqDiff, reduceCtorEq, Nat.reduceBEq, Nat.reduceAdd, Nat.reduceLeDiff, args0_3]
  refine callK_F 6 (dcheckR_c S T b1 th b2 td w h b3 l (by omega) (by omega)) (by simp (disch := first | assumption | omega | rfl | simp only [RH]) only [↓RP, RG, FX, RQ, ↓reduceIte, Nat.reduceEqDiff, reduceCtorEq, Nat.reduceBEq, Nat.reduceAdd, Nat.reduceLeDiff, RA] <;> rfl) (.inl (by simp [allFresh, ints_fresh, bools_fresh])) ?_
  simp (disch := first | assumption | omega | rfl | simp only [RH]) only [↓RP, RG, FX, RQ, ↓reduceIte, Nat.reduceEqDiff, reduceCtorEq, Nat.reduceBEq, Nat.reduceAdd, Nat.reduceLeDiff, dchk_ok hd]
  refine callK_F 6 (each_c c1 m1 S (by omega) (by omega) true ⟨fun _ => each_once.2 ⟨n1, o1⟩, fun _ => rfl⟩) (by simp (disch := first | assumption | omega | rfl | simp only [RH]) only [↓RP, RG, FX, RQ, ↓reduceIte, Nat.reduceEqDiff, reduceCtorEq, Nat.reduceBEq, Nat.reduceAdd, Nat.reduceLeDiff, RA] <;> rfl) (.inl (by simp [allFresh, ints_fresh, bools_fresh])) ?_
  simp (disch := first | assumption | omega | rfl | simp only [RH]) only [↓RP, RG, FX, RQ, ↓reduceIte, Nat.reduceEqDiff, reduceCtorEq, Nat.reduceBEq, Nat.reduceAdd, Nat.reduceLeDiff]
  refine callK_F 6 (each_c c2 m2 T (by omega) (by omega) true ⟨fun _ => each_once.2 ⟨n2, o2⟩, fun _ => rfl⟩) (by simp (disch := first | assumption | omega | rfl | simp only [RH]) only [↓RP, RG, FX, RQ, ↓reduceIte, Nat.reduceEqDiff, reduceCtorEq, Nat.reduceBEq, Nat.reduceAdd, Nat.reduceLeDiff, RA] <;> rfl) (.inl (by simp [allFresh, ints_fresh, bools_fresh])) ?_
  simp (disch := first | assumption | omega | rfl | simp only [RH]) only [↓RP, RG, FX, RQ, ↓reduceIte, Nat.reduceEqDiff, reduceCtorEq, Nat.reduceBEq, Nat.reduceAdd, Nat.reduceLeDiff]
  refine callK_M (fun k => .agg [I T, I S, .ref k 0 (T * S) (T * S)]) (.agg _ _ 0 _ _) rfl rfl hZ ?_ (by simp) (bools_vals _)
  simp (disch := first | assumption | omega | rfl | simp only [RH]) only [↓RP, RG, FX, RQ, ↓reduceIte, Nat.reduceEqDiff, reduceCtorEq, Nat.reduceBEq, Nat.reduceAdd, Nat.reduceLeDiff]
  refine loopK_W [1, 2, 3, 6, 8, 9] (fun k : Nat => k ≤ th.length) (fun k : Nat => ⟨[(1, LA c1 m1), (2, LA c2 m2), (3, .ptr 0 0 7), (6, .ptr 1 0 7), (8, .ptr 3 0 7), (9, I k)], [⟨27, 7, [I S, I T, LA b1 th, LA b2 td, I w, I h, BA b3 l]⟩, ⟨27, 7, [I 0, I 0, .cap0 true, .cap0 true, I 0, I 0, .cap0 true]⟩, ⟨4, 1, bools (List.replicate (T * S) false)⟩, ⟨27, 7, [I S, I T, gw true 4 (ints (mapd th m1 k)), gw true 5 (ints (mapd td m2 0)), I T, I S, .ref 2 0 (T * S) (T * S)]⟩, go 3 (ints (mapd th m1 k)), go 3 (ints (mapd td m2 0))]⟩) (fun k => th.length - k) 0 (by omega) ?_ ?_
  · simp only [↓RP, RG, FX, RQ, ↓reduceIte, Nat.reduceEqDiff, reduceCtorEq, Nat.reduceBEq, Nat.reduceAdd, Nat.reduceLeDiff]
    exact Wk.weak (fun t => .refl _) (.cons _ _ _ _ (WL.refl _) (.cons _ _ _ _ (WL.refl _) (.cons _ _ _ _ (WL.refl _) (.cons _ _ _ _ (.cons (.refl _) (.cons (.refl _) (.cons (.nil _) (.cons (.nil _) (.cons (.refl _) (.cons (.refl _) (.cons (.refl _) .nil))))))) (.nil _ (by simp [go, ints, mapd]))))))
  intro k hk
  have hml := mapd_len th m1 k
  by_cases hlt : k < th.length
  · have g1 := w1.2 k hlt
    simp (disch := first | assumption | omega | rfl | simp only [RH]) only [↓RP, RG, FX, RQ, ↓reduceIte, Nat.reduceEqDiff, reduceCtorEq, Nat.reduceBEq, Nat.reduceAdd, Nat.reduceLeDiff, append_int]
    exact ⟨k + 1, by omega, by rw [mapd_succ]; rfl, by omega⟩
  obtain rfl : k = th.length := by omega
  simp (disch := first | assumption | omega | rfl | simp only [RH]) only [↓RP, RG, FX, RQ, ↓reduceIte, Nat.reduceEqDiff, reduceCtorEq, Nat.reduceBEq, Nat.reduceAdd, Nat.reduceLeDiff]
  refine loopK_I [1, 2, 3, 6, 8, 10] (fun k : Nat => k ≤ td.length) (fun k : Nat => ⟨[(1, LA c1 m1), (2, LA c2 m2), (3, .ptr 0 0 7), (6, .ptr 1 0 7), (8, .ptr 3 0 7), (10, I k)], [⟨27, 7, [I S, I T, LA b1 th, LA b2 td, I w, I h, BA b3 l]⟩, ⟨27, 7, [I 0, I 0, .cap0 true, .cap0 true, I 0, I 0, .cap0 true]⟩, ⟨4, 1, bools (List.replicate (T * S) false)⟩, ⟨27, 7, [I S, I T, gw true 4 (ints (mapd th m1 th.length)), gw true 5 (ints (mapd td m2 k)), I T, I S, .ref 2 0 (T * S) (T * S)]⟩, go 3 (ints (mapd th m1 th.length)), go 3 (ints (mapd td m2 k))]⟩) (fun k => td.length - k) 0 (by omega) (by simp only [↓RP, RG, FX, RQ, ↓reduceIte, Nat.reduceEqDiff, reduceCtorEq, Nat.reduceBEq, Nat.reduceAdd, Nat.reduceLeDiff]; rfl) ?_
  intro k hk
  have hml2 := mapd_len td m2 k
  by_cases hlt : k < td.length
  · have g2 := w2.2 k hlt
    simp (disch := first | assumption | omega | rfl | simp only [RH]) only [↓RP, RG, FX, RQ, ↓reduceIte, Nat.reduceEqDiff, reduceCtorEq, Nat.reduceBEq, Nat.reduceAdd, Nat.reduceLeDiff, append_int]
    exact ⟨k + 1, by omega, by rw [mapd_succ]; rfl, by omega⟩
  obtain rfl : k = td.length := by omega
  simp (disch := first | assumption | omega | rfl | simp only [RH]) only [↓RP, RG, FX, RQ, ↓reduceIte, Nat.reduceEqDiff, reduceCtorEq, Nat.reduceBEq, Nat.reduceAdd, Nat.reduceLeDiff]
  generalize mapd th m1 th.length = a1 at *
  generalize mapd td m2 td.length = a2 at *
  refine loopK_I [1, 2, 3, 6, 8, 11] (fun x : Nat => x ≤ T) (fun x : Nat => ⟨[(1, LA c1 m1), (2, LA c2 m2), (3, .ptr 0 0 7), (6, .ptr 1 0 7), (8, .ptr 3 0 7), (11, I x)], [⟨27, 7, [I S, I T, LA b1 th, LA b2 td, I w, I h, BA b3 l]⟩, ⟨27, 7, [I 0, I 0, .cap0 true, .cap0 true, I 0, I 0, .cap0 true]⟩, ⟨4, 1, bools (prN T (fun a => (v2.getD a 0).toNat) (fun a => (v1.getD a 0).toNat) (uN T l v1 v2) (T * S) x 0)⟩, ⟨27, 7, [I S, I T, gw true 4 (ints a1), gw true 5 (ints a2), I T, I S, .ref 2 0 (T * S) (T * S)]⟩, go 3 (ints a1), go 3 (ints a2)]⟩) (fun x => T - x) 0 (by omega) (by simp only [↓RP, RG, FX, RQ, ↓reduceIte, Nat.reduceEqDiff, reduceCtorEq, Nat.reduceBEq, Nat.reduceAdd, Nat.reduceLeDiff, prN_zero]; rfl) ?_
  intro i hi
  by_cases hlt : i < T
  · obtain ⟨x, x1, x2, x3, x5, x4⟩ := z2 i hlt
    simp (disch := first | assumption | omega | rfl | simp only [RH]) only [↓RP, RG, FX, RQ, ↓reduceIte, Nat.reduceEqDiff, reduceCtorEq, Nat.reduceBEq, Nat.reduceAdd, Nat.reduceLeDiff]
    refine loopK_I [1, 2, 3, 6, 8, 11, 12] (fun y : Nat => y ≤ S) (fun y : Nat => ⟨[(1, LA c1 m1), (2, LA c2 m2), (3, .ptr 0 0 7), (6, .ptr 1 0 7), (8, .ptr 3 0 7), (11, I i), (12, I y)], [⟨27, 7, [I S, I T, LA b1 th, LA b2 td, I w, I h, BA b3 l]⟩, ⟨27, 7, [I 0, I 0, .cap0 true, .cap0 true, I 0, I 0, .cap0 true]⟩, ⟨4, 1, bools (prN T (fun a => (v2.getD a 0).toNat) (fun a => (v1.getD a 0).toNat) (uN T l v1 v2) (T * S) i y)⟩, ⟨27, 7, [I S, I T, gw true 4 (ints a1), gw true 5 (ints a2), I T, I S, .ref 2 0 (T * S) (T * S)]⟩, go 3 (ints a1), go 3 (ints a2)]⟩) (fun y => S - y) 0 (by omega) (by simp only [↓RP, RG, FX, RQ, ↓reduceIte, Nat.reduceEqDiff, reduceCtorEq, Nat.reduceBEq, Nat.reduceAdd, Nat.reduceLeDiff]; rfl) ?_
    intro k hk
    by_cases hlt2 : k < S
    · obtain ⟨y, y1, y2, y3, y5, y4⟩ := z1 k hlt2
      have hb := dOk_cell hd (show (0 : Int) ≤ k by omega) (show (k : Int) < S by omega) (show (0 : Int) ≤ i by omega) (show (i : Int) < T by omega)
      have hpl := prN_len T (fun a => (v2.getD a 0).toNat) (fun a => (v1.getD a 0).toNat) (uN T l v1 v2) (T * S) i k
      have hil := idx_lt x1 y1
      have hst := prN_step (v2 := fun a => (v2.getD a 0).toNat) (v1 := fun a => (v1.getD a 0).toNat) (uN T l v1 v2) x1 y1 x3 y3 x4 y4
      have hu : uN T l v1 v2 x y = cell T l i k := by unfold uN; rw [x5, y5]
      subst hwt
      simp (disch := first | assumption | omega | rfl | simp only [RH]) only [↓RP, RG, FX, RQ, ↓reduceIte, Nat.reduceEqDiff, reduceCtorEq, Nat.reduceBEq, Nat.reduceAdd, Nat.reduceLeDiff, x2, y2]
      refine callK_F 6 (liftsR_c S T b1 th b2 td T h b3 l i k (by omega) (by omega) (by omega) (by omega)) (by simp (disch := first | assumption | omega | rfl | simp only [RH]) only [↓RP, RG, FX, RQ, ↓reduceIte, Nat.reduceEqDiff, reduceCtorEq, Nat.reduceBEq, Nat.reduceAdd, Nat.reduceLeDiff, RA] <;> rfl) (.inl (by simp [allFresh, ints_fresh, bools_fresh])) ?_
      simp (disch := first | assumption | omega | rfl | simp only [RH]) only [↓RP, RG, FX, RQ, ↓reduceIte, Nat.reduceEqDiff, reduceCtorEq, Nat.reduceBEq, Nat.reduceAdd, Nat.reduceLeDiff]
      rw [← hu]
      refine callK_T rfl (set_n _ 2 (T * S) T x y _ S _ (by rfl) hpl hil (by omega)) ?_
      simp (disch := first | assumption | omega | rfl | simp only [RH]) only [↓RP, RG, FX, RQ, ↓reduceIte, Nat.reduceEqDiff, reduceCtorEq, Nat.reduceBEq, Nat.reduceAdd, Nat.reduceLeDiff]
      exact ⟨k + 1, by omega, by rw [← hst]; rfl, by omega⟩
    · obtain rfl : k = S := by omega
      simp (disch := first | assumption | omega | rfl | simp only [RH]) only [↓RP, RG, FX, RQ, ↓reduceIte, Nat.reduceEqDiff, reduceCtorEq, Nat.reduceBEq, Nat.reduceAdd, Nat.reduceLeDiff]
      exact ⟨i + 1, by omega, by rw [prN_row _ _ q1]; rfl, by omega⟩
  · obtain rfl : i = T := by omega
    have r1 := tabN_len i (uN i l v1 v2) (i * S)
    have hp1 : 0 < (ints a1).length := by rw [ints_length]; omega
    have hp2 : 0 < (ints a2).length := by rw [ints_length]; omega
    simp (disch := first | assumption | omega | rfl | simp only [RH]) only [↓RP, RG, FX, RQ, ↓reduceIte, Nat.reduceEqDiff, reduceCtorEq, Nat.reduceBEq, Nat.reduceAdd, Nat.reduceLeDiff, gw_pos hp1, go_pos hp1, gw_pos hp2, go_pos hp2, ints_length]
    rw [prN_end _ q2]
    generalize tabN i (uN i l v1 v2) (i * S) = q at *
    generalize i * S = n at *
    subst r1
    rw [resVal_2 rfl]; simp (disch := first | assumption | omega | rfl | simp only [RH]) only [↓RP, RG, FX, RQ, ↓reduceIte, Nat.reduceEqDiff, reduceCtorEq, Nat.reduceBEq, Nat.reduceAdd, Nat.reduceLeDiff, RS]
end Go.Proofs.Ytbhkhaaifielkaa

/- Least and Match of drafts, by both. -/
set_option linter.unusedSimpArgs false
set_option linter.unusedVariables false
set_option maxRecDepth 100000
namespace Go.Proofs.Ytbhkhaaifielkaa
open Go Go.Proofs Go.AW

section
variable {s t : Int} {b1 : Bool} {th : List Int} {b2 : Bool} {td : List Int} {w h : Int} {b3 : Bool} {l : List Bool}
theorem leastP_err {e : Int} (he : e ≠ 0) (hc : Contract Try.prog 11 [DA s t b1 th b2 td w h b3 l] (I e)) : Contract Try.prog 5 [DA s t b1 th b2 td w h b3 l] (.tuple [B false, I e]) := by
  refine Contract.intro (effS [] false) 6 follows Try.func5 rfl rfl (by kernel_rfl) (Nat.le_of_ble_eq_true rfl) ?_
  simp (disch := first | assumption | omega | rfl | simp only [RH]) only [↓RP, RG, FX, RQ, ↓reduceIte, Nat.reduceEqDiff, reduceCtorEq, Nat.reduceBEq, Nat.reduceAdd, Nat.reduceLeDiff, args0_1]
  refine callK_F 6 (hc) (by simp (disch := first | assumption | omega | rfl | simp only [RH]) only [↓RP, RG, FX, RQ, ↓reduceIte, Nat.reduceEqDiff, reduceCtorEq, Nat.reduceBEq, Nat.reduceAdd, Nat.reduceLeDiff, RA] <;> rfl) (.inl (by simp [allFresh, ints_fresh, bools_fresh])) ?_
  simp (disch := first | assumption | omega | rfl | simp only [RH]) only [↓RP, RG, FX, RQ, ↓reduceIte, Nat.reduceEqDiff, reduceCtorEq, Nat.reduceBEq, Nat.reduceAdd, Nat.reduceLeDiff]
  rw [resVal_2 rfl]; simp (disch := first | assumption | omega | rfl | simp only [RH]) only [↓RP, RG, FX, RQ, ↓reduceIte, Nat.reduceEqDiff, reduceCtorEq, Nat.reduceBEq, Nat.reduceAdd, Nat.reduceLeDiff, RS]
  first | done | rfl
theorem leastR_err {e : Int} (he : e ≠ 0) (hc : Contract Try.prog 14 [DA s t b1 th b2 td w h b3 l] (I e)) : Contract Try.prog 6 [DA s t b1 th b2 td w h b3 l] (.tuple [B false, I e]) := by
  refine Contract.intro (effS [] false) 6 follows Try.func6 rfl rfl (by kernel_rfl) (Nat.le_of_ble_eq_true rfl) ?_
  simp (disch := first | assumption | omega | rfl | simp only [RH]) only [↓RP, RG, FX, RQ, ↓reduceIte, Nat.reduceEqDiff, reduceCtorEq, Nat.reduceBEq, Nat.reduceAdd, Nat.reduceLeDiff, args0_1]
  refine callK_F 6 (hc) (by simp (disch := first | assumption | omega | rfl | simp only [RH]) only [↓RP, RG, FX, RQ, ↓reduceIte, Nat.reduceEqDiff, reduceCtorEq, Nat.reduceBEq, Nat.reduceAdd, Nat.reduceLeDiff, RA] <;> rfl) (.inl (by simp [allFresh, ints_fresh, bools_fresh])) ?_
  simp (disch := first | assumption | omega | rfl | simp only [RH]) only [↓RP, RG, FX, RQ, ↓reduceIte, Nat.reduceEqDiff, reduceCtorEq, Nat.reduceBEq, Nat.reduceAdd, Nat.reduceLeDiff]
  refine callK_F 6 (hc) (by simp (disch := first | assumption | omega | rfl | simp only [RH]) only [↓RP, RG, FX, RQ, ↓reduceIte, Nat.reduceEqDiff, reduceCtorEq, Nat.reduceBEq, Nat.reduceAdd, Nat.reduceLeDiff, RA] <;> rfl) (.inl (by simp [allFresh, ints_fresh, bools_fresh])) ?_
  simp (disch := first | assumption | omega | rfl | simp only [RH]) only [↓RP, RG, FX, RQ, ↓reduceIte, Nat.reduceEqDiff, reduceCtorEq, Nat.reduceBEq, Nat.reduceAdd, Nat.reduceLeDiff]
  rw [resVal_2 rfl]; simp (disch := first | assumption | omega | rfl | simp only [RH]) only [↓RP, RG, FX, RQ, ↓reduceIte, Nat.reduceEqDiff, reduceCtorEq, Nat.reduceBEq, Nat.reduceAdd, Nat.reduceLeDiff, RS]
  first | done | rfl
/-- All is used, and no two shafts or treadles are alike. -/
def lst4 (S T : Int) (th td : List Int) (l : List Bool) : Prop := ((nK th : Int) = S ∧ (nK td : Int) = T) ∧ ((fR T.toNat S.toNat l).length : Int) = S ∧ ((fC T.toNat S.toNat l).length : Int) = T
theorem leastP_ok (b1 b2 b3 : Bool) (hd : dOk s t th td w h l.length) (r : Bool) (hr : r = true ↔ lst4 s t th td l) : Contract Try.prog 5 [DA s t b1 th b2 td w h b3 l] (.tuple [B r, I 0]) := by
  have e1 := hd.2.2.1
  have e2 := hd.2.2.2.1
  have p1 := hd.2.2.2.2.1.1
  have p2 := hd.2.2.2.2.2.1.1
  obtain ⟨g1, g2, g3, g4, g5⟩ := hd.2.2.2.2.2.2.1
  obtain rfl : w = t := hd.2.2.2.2.2.2.2.1
  obtain rfl : h = s := hd.2.2.2.2.2.2.2.2
  obtain ⟨T, rfl⟩ : ∃ T : Nat, w = T := ⟨w.toNat, by omega⟩
  obtain ⟨S, rfl⟩ : ∃ S : Nat, h = S := ⟨h.toNat, by omega⟩
  have hn : l.length = T * S := by rw [← Int.natCast_mul] at g5; omega
  have hc := dcheckP_c S T b1 th b2 td T S b3 l (by omega) (by omega)
  rw [dchk_ok hd] at hc
  have hb := both_c (W := T) (H := S) (by omega) (by omega) (by omega) (by omega) b3 hn
  have hu := usesP_c S T b1 b2 T S b3 l (thV_of hd.2.2.2.2.1 (by omega) (by omega)) (thV_of hd.2.2.2.2.2.1 (by omega) (by omega)) p1 p2
  have n1 := nI_len (fC T S l)
  have n2 := nI_len (fR T S l)
  unfold lst4 at hr
  rw [Int.toNat_natCast, Int.toNat_natCast] at hr
  simp only [LN] at hb
  generalize nI (kC T S l) = a1 at *
  generalize nI (fC T S l) = a2 at *
  generalize nI (kR T S l) = a3 at *
  generalize nI (fR T S l) = a4 at *
  rw [← n1, ← n2] at hr
  have hno : ¬ (((nK th : Int) = S ∧ (nK td : Int) = T) ∧ (a4.length : Int) = S ∧ (a2.length : Int) = T) → r = false := fun h => by cases r with | false => rfl | true => exact absurd (hr.1 rfl) h
  by_cases c1 : (nK th : Int) = S ∧ (nK td : Int) = T
  · rw [decide_eq_true c1] at hu
    by_cases c2 : (a4.length : Int) = S
    · by_cases c3 : (a2.length : Int) = T
      · skip
        obtain rfl := hr.2 ⟨c1, c2, c3⟩
        refine Contract.intro (effS [] false) 6 follows Try.func5 rfl rfl (by kernel_rfl) (Nat.le_of_ble_eq_true rfl) ?_
        simp (disch := first | assumption | omega | rfl | simp only [RH]) only [↓RP, RG, FX, RQ, ↓reduceIte, Nat.reduceEqDiff, reduceCtorEq, Nat.reduceBEq, Nat.reduceAdd, Nat.reduceLeDiff, args0_1]
        refine callK_F 6 (hc) (by simp (disch := first | assumption | omega | rfl | simp only [RH]) only [↓RP, RG, FX, RQ, ↓reduceIte, Nat.reduceEqDiff, reduceCtorEq, Nat.reduceBEq, Nat.reduceAdd, Nat.reduceLeDiff, RA] <;> rfl) (.inl (by simp [allFresh, ints_fresh, bools_fresh])) ?_
        simp (disch := first | assumption | omega | rfl | simp only [RH]) only [↓RP, RG, FX, RQ, ↓reduceIte, Nat.reduceEqDiff, reduceCtorEq, Nat.reduceBEq, Nat.reduceAdd, Nat.reduceLeDiff]
        refine callK_F 6 hb (by simp (disch := first | assumption | omega | rfl | simp only [RH]) only [↓RP, RG, FX, RQ, ↓reduceIte, Nat.reduceEqDiff, reduceCtorEq, Nat.reduceBEq, Nat.reduceAdd, Nat.reduceLeDiff, RA] <;> rfl) (.inl (by simp [allFresh, ints_fresh])) ?_
        simp (disch := first | assumption | omega | rfl | simp only [RH]) only [↓RP, RG, FX, RQ, ↓reduceIte, Nat.reduceEqDiff, reduceCtorEq, Nat.reduceBEq, Nat.reduceAdd, Nat.reduceLeDiff]
        refine callK_F 6 (hu) (by simp (disch := first | assumption | omega | rfl | simp only [RH]) only [↓RP, RG, FX, RQ, ↓reduceIte, Nat.reduceEqDiff, reduceCtorEq, Nat.reduceBEq, Nat.reduceAdd, Nat.reduceLeDiff, RA] <;> rfl) (.inl (by simp [allFresh, ints_fresh, bools_fresh])) ?_
        simp (disch := first | assumption | omega | rfl | simp only [RH]) only [↓RP, RG, FX, RQ, ↓reduceIte, Nat.reduceEqDiff, reduceCtorEq, Nat.reduceBEq, Nat.reduceAdd, Nat.reduceLeDiff, c2, c3, beq_self_eq_true]
        rw [resVal_2 rfl]; simp (disch := first | assumption | omega | rfl | simp only [RH]) only [↓RP, RG, FX, RQ, ↓reduceIte, Nat.reduceEqDiff, reduceCtorEq, Nat.reduceBEq, Nat.reduceAdd, Nat.reduceLeDiff, RS]
        first | done | rfl
      · skip
        obtain rfl := hno fun h => c3 h.2.2
        refine Contract.intro (effS [] false) 6 follows Try.func5 rfl rfl (by kernel_rfl) (Nat.le_of_ble_eq_true rfl) ?_
        simp (disch := first | assumption | omega | rfl | simp only [RH]) only [↓RP, RG, FX, RQ, ↓reduceIte, Nat.reduceEqDiff, reduceCtorEq, Nat.reduceBEq, Nat.reduceAdd, Nat.reduceLeDiff, args0_1]
        refine callK_F 6 (hc) (by simp (disch := first | assumption | omega | rfl | simp only [RH]) only [↓RP, RG, FX, RQ, ↓reduceIte, Nat.reduceEqDiff, reduceCtorEq, Nat.reduceBEq, Nat.reduceAdd, Nat.reduceLeDiff, RA] <;> rfl) (.inl (by simp [allFresh, ints_fresh, bools_fresh])) ?_
        simp (disch := first | assumption | omega | rfl | simp only [RH]) only [↓RP, RG, FX, RQ, ↓reduceIte, Nat.reduceEqDiff, reduceCtorEq, Nat.reduceBEq, Nat.reduceAdd, Nat.reduceLeDiff]
        refine callK_F 6 hb (by simp (disch := first | assumption | omega | rfl | simp only [RH]) only [↓RP, RG, FX, RQ, ↓reduceIte, Nat.reduceEqDiff, reduceCtorEq, Nat.reduceBEq, Nat.reduceAdd, Nat.reduceLeDiff, RA] <;> rfl) (.inl (by simp [allFresh, ints_fresh])) ?_
        simp (disch := first | assumption | omega | rfl | simp only [RH]) only [↓RP, RG, FX, RQ, ↓reduceIte, Nat.reduceEqDiff, reduceCtorEq, Nat.reduceBEq, Nat.reduceAdd, Nat.reduceLeDiff]
        refine callK_F 6 (hu) (by simp (disch := first | assumption | omega | rfl | simp only [RH]) only [↓RP, RG, FX, RQ, ↓reduceIte, Nat.reduceEqDiff, reduceCtorEq, Nat.reduceBEq, Nat.reduceAdd, Nat.reduceLeDiff, RA] <;> rfl) (.inl (by simp [allFresh, ints_fresh, bools_fresh])) ?_
        simp (disch := first | assumption | omega | rfl | simp only [RH]) only [↓RP, RG, FX, RQ, ↓reduceIte, Nat.reduceEqDiff, reduceCtorEq, Nat.reduceBEq, Nat.reduceAdd, Nat.reduceLeDiff, c2, beq_self_eq_true]
        rw [resVal_2 rfl]; simp (disch := first | assumption | omega | rfl | simp only [RH]) only [↓RP, RG, FX, RQ, ↓reduceIte, Nat.reduceEqDiff, reduceCtorEq, Nat.reduceBEq, Nat.reduceAdd, Nat.reduceLeDiff, RS]
        first | done | rfl
    · obtain rfl := hno fun h => c2 h.2.1
      refine Contract.intro (effS [] false) 6 follows Try.func5 rfl rfl (by kernel_rfl) (Nat.le_of_ble_eq_true rfl) ?_
      simp (disch := first | assumption | omega | rfl | simp only [RH]) only [↓RP, RG, FX, RQ, ↓reduceIte, Nat.reduceEqDiff, reduceCtorEq, Nat.reduceBEq, Nat.reduceAdd, Nat.reduceLeDiff, args0_1]
      refine callK_F 6 (hc) (by simp (disch := first | assumption | omega | rfl | simp only [RH]) only [↓RP, RG, FX, RQ, ↓reduceIte, Nat.reduceEqDiff, reduceCtorEq, Nat.reduceBEq, Nat.reduceAdd, Nat.reduceLeDiff, RA] <;> rfl) (.inl (by simp [allFresh, ints_fresh, bools_fresh])) ?_
      simp (disch := first | assumption | omega | rfl | simp only [RH]) only [↓RP, RG, FX, RQ, ↓reduceIte, Nat.reduceEqDiff, reduceCtorEq, Nat.reduceBEq, Nat.reduceAdd, Nat.reduceLeDiff]
      refine callK_F 6 hb (by simp (disch := first | assumption | omega | rfl | simp only [RH]) only [↓RP, RG, FX, RQ, ↓reduceIte, Nat.reduceEqDiff, reduceCtorEq, Nat.reduceBEq, Nat.reduceAdd, Nat.reduceLeDiff, RA] <;> rfl) (.inl (by simp [allFresh, ints_fresh])) ?_
      simp (disch := first | assumption | omega | rfl | simp only [RH]) only [↓RP, RG, FX, RQ, ↓reduceIte, Nat.reduceEqDiff, reduceCtorEq, Nat.reduceBEq, Nat.reduceAdd, Nat.reduceLeDiff]
      refine callK_F 6 (hu) (by simp (disch := first | assumption | omega | rfl | simp only [RH]) only [↓RP, RG, FX, RQ, ↓reduceIte, Nat.reduceEqDiff, reduceCtorEq, Nat.reduceBEq, Nat.reduceAdd, Nat.reduceLeDiff, RA] <;> rfl) (.inl (by simp [allFresh, ints_fresh, bools_fresh])) ?_
      simp (disch := first | assumption | omega | rfl | simp only [RH]) only [↓RP, RG, FX, RQ, ↓reduceIte, Nat.reduceEqDiff, reduceCtorEq, Nat.reduceBEq, Nat.reduceAdd, Nat.reduceLeDiff]
      rw [resVal_2 rfl]; simp (disch := first | assumption | omega | rfl | simp only [RH]) only [↓RP, RG, FX, RQ, ↓reduceIte, Nat.reduceEqDiff, reduceCtorEq, Nat.reduceBEq, Nat.reduceAdd, Nat.reduceLeDiff, RS]
      first | done | rfl
  · rw [decide_eq_false c1] at hu
    obtain rfl := hno fun h => c1 h.1
    refine Contract.intro (effS [] false) 6 follows Try.func5 rfl rfl (by kernel_rfl) (Nat.le_of_ble_eq_true rfl) ?_
    simp (disch := first | assumption | omega | rfl | simp only [RH]) only [↓RP, RG, FX, RQ, ↓reduceIte, Nat.reduceEqDiff, reduceCtorEq, Nat.reduceBEq, Nat.reduceAdd, Nat.reduceLeDiff, args0_1]
    refine callK_F 6 (hc) (by simp (disch := first | assumption | omega | rfl | simp only [RH]) only [↓RP, RG, FX, RQ, ↓reduceIte, Nat.reduceEqDiff, reduceCtorEq, Nat.reduceBEq, Nat.reduceAdd, Nat.reduceLeDiff, RA] <;> rfl) (.inl (by simp [allFresh, ints_fresh, bools_fresh])) ?_
    simp (disch := first | assumption | omega | rfl | simp only [RH]) only [↓RP, RG, FX, RQ, ↓reduceIte, Nat.reduceEqDiff, reduceCtorEq, Nat.reduceBEq, Nat.reduceAdd, Nat.reduceLeDiff]
    refine callK_F 6 hb (by simp (disch := first | assumption | omega | rfl | simp only [RH]) only [↓RP, RG, FX, RQ, ↓reduceIte, Nat.reduceEqDiff, reduceCtorEq, Nat.reduceBEq, Nat.reduceAdd, Nat.reduceLeDiff, RA] <;> rfl) (.inl (by simp [allFresh, ints_fresh])) ?_
    simp (disch := first | assumption | omega | rfl | simp only [RH]) only [↓RP, RG, FX, RQ, ↓reduceIte, Nat.reduceEqDiff, reduceCtorEq, Nat.reduceBEq, Nat.reduceAdd, Nat.reduceLeDiff]
    refine callK_F 6 (hu) (by simp (disch := first | assumption | omega | rfl | simp only [RH]) only [↓RP, RG, FX, RQ, ↓reduceIte, Nat.reduceEqDiff, reduceCtorEq, Nat.reduceBEq, Nat.reduceAdd, Nat.reduceLeDiff, RA] <;> rfl) (.inl (by simp [allFresh, ints_fresh, bools_fresh])) ?_
    simp (disch := first | assumption | omega | rfl | simp only [RH]) only [↓RP, RG, FX, RQ, ↓reduceIte, Nat.reduceEqDiff, reduceCtorEq, Nat.reduceBEq, Nat.reduceAdd, Nat.reduceLeDiff]
    rw [resVal_2 rfl]; simp (disch := first | assumption | omega | rfl | simp only [RH]) only [↓RP, RG, FX, RQ, ↓reduceIte, Nat.reduceEqDiff, reduceCtorEq, Nat.reduceBEq, Nat.reduceAdd, Nat.reduceLeDiff, RS]
    first | done | rfl
theorem leastR_ok (b1 b2 b3 : Bool) (hd : dOk s t th td w h l.length) (r : Bool) (hr : r = true ↔ lst4 s t th td l) : Contract Try.prog 6 [DA s t b1 th b2 td w h b3 l] (.tuple [B r, I 0]) := by
  have e1 := hd.2.2.1
  have e2 := hd.2.2.2.1
  obtain ⟨g1, g2, g3, g4, g5⟩ := hd.2.2.2.2.2.2.1
  obtain rfl : w = t := hd.2.2.2.2.2.2.2.1
  obtain rfl : h = s := hd.2.2.2.2.2.2.2.2
  obtain ⟨T, rfl⟩ : ∃ T : Nat, w = T := ⟨w.toNat, by omega⟩
  obtain ⟨S, rfl⟩ : ∃ S : Nat, h = S := ⟨h.toNat, by omega⟩
  have hn : l.length = T * S := by rw [← Int.natCast_mul] at g5; omega
  have hc := dcheckR_c S T b1 th b2 td T S b3 l (by omega) (by omega)
  rw [dchk_ok hd] at hc
  have h1 := turnedR_c (W := T) (H := S) (by omega) (by omega) (by omega) (by omega) b3 hn
  have h2 := fun b' => kindsR_c (W := S) (H := T) (by omega) (by omega) b' (l := tgL T S l) (tgL_len T S l)
  have h3 := kindsR_c (W := T) (H := S) (by omega) (by omega) b3 hn
  have ht := tgL_len T S l
  have hu := usesR_c S T b1 b2 T S b3 l (th := th) (td := td) (by omega) (by omega)
  have n1 := nI_len (fC T S l)
  have n2 := nI_len (fR T S l)
  rw [show tabN S (uT T l) (S * T) = tgL T S l from rfl] at h1
  simp only [show (knd (rowN S (tgL T S l)) T).1 = kC T S l from rfl, show (knd (rowN S (tgL T S l)) T).2 = fC T S l from rfl] at h2
  simp only [show (knd (rowN T l) S).1 = kR T S l from rfl, show (knd (rowN T l) S).2 = fR T S l from rfl] at h3
  unfold lst4 at hr
  rw [Int.toNat_natCast, Int.toNat_natCast] at hr
  generalize tgL T S l = tg at *
  generalize nI (kC T S l) = a1 at *
  generalize nI (fC T S l) = a2 at *
  generalize nI (kR T S l) = a3 at *
  generalize nI (fR T S l) = a4 at *
  rw [← n1, ← n2] at hr
  have hno : ¬ (((nK th : Int) = S ∧ (nK td : Int) = T) ∧ (a4.length : Int) = S ∧ (a2.length : Int) = T) → r = false := fun h => by cases r with | false => rfl | true => exact absurd (hr.1 rfl) h
  by_cases c1 : (nK th : Int) = S ∧ (nK td : Int) = T
  · rw [decide_eq_true c1] at hu
    by_cases c2 : (a4.length : Int) = S
    · by_cases c3 : (a2.length : Int) = T
      · skip
        obtain rfl := hr.2 ⟨c1, c2, c3⟩
        refine Contract.intro (effS [] false) 6 follows Try.func6 rfl rfl (by kernel_rfl) (Nat.le_of_ble_eq_true rfl) ?_
        simp (disch := first | assumption | omega | rfl | simp only [RH]) only [↓RP, RG, FX, RQ, ↓reduceIte, Nat.reduceEqDiff, reduceCtorEq, Nat.reduceBEq, Nat.reduceAdd, Nat.reduceLeDiff, args0_1]
        refine callK_F 6 (hc) (by simp (disch := first | assumption | omega | rfl | simp only [RH]) only [↓RP, RG, FX, RQ, ↓reduceIte, Nat.reduceEqDiff, reduceCtorEq, Nat.reduceBEq, Nat.reduceAdd, Nat.reduceLeDiff, RA] <;> rfl) (.inl (by simp [allFresh, ints_fresh, bools_fresh])) ?_
        simp (disch := first | assumption | omega | rfl | simp only [RH]) only [↓RP, RG, FX, RQ, ↓reduceIte, Nat.reduceEqDiff, reduceCtorEq, Nat.reduceBEq, Nat.reduceAdd, Nat.reduceLeDiff]
        refine callK_F 6 h3 (by simp (disch := first | assumption | omega | rfl | simp only [RH]) only [↓RP, RG, FX, RQ, ↓reduceIte, Nat.reduceEqDiff, reduceCtorEq, Nat.reduceBEq, Nat.reduceAdd, Nat.reduceLeDiff, RA] <;> rfl) (.inl (by simp [allFresh, ints_fresh])) ?_
        simp (disch := first | assumption | omega | rfl | simp only [RH]) only [↓RP, RG, FX, RQ, ↓reduceIte, Nat.reduceEqDiff, reduceCtorEq, Nat.reduceBEq, Nat.reduceAdd, Nat.reduceLeDiff]
        refine callK_F 6 (h1) (by simp (disch := first | assumption | omega | rfl | simp only [RH]) only [↓RP, RG, FX, RQ, ↓reduceIte, Nat.reduceEqDiff, reduceCtorEq, Nat.reduceBEq, Nat.reduceAdd, Nat.reduceLeDiff, RA] <;> rfl) (.inl (by simp [allFresh, ints_fresh, bools_fresh])) ?_
        simp (disch := first | assumption | omega | rfl | simp only [RH]) only [↓RP, RG, FX, RQ, ↓reduceIte, Nat.reduceEqDiff, reduceCtorEq, Nat.reduceBEq, Nat.reduceAdd, Nat.reduceLeDiff]
        refine callK_F 6 (h2 _) (by simp (disch := first | assumption | omega | rfl | simp only [RH]) only [↓RP, RG, FX, RQ, ↓reduceIte, Nat.reduceEqDiff, reduceCtorEq, Nat.reduceBEq, Nat.reduceAdd, Nat.reduceLeDiff, RA] <;> rfl) (.inl (by simp [allFresh, ints_fresh])) ?_
        simp (disch := first | assumption | omega | rfl | simp only [RH]) only [↓RP, RG, FX, RQ, ↓reduceIte, Nat.reduceEqDiff, reduceCtorEq, Nat.reduceBEq, Nat.reduceAdd, Nat.reduceLeDiff]
        refine callK_F 6 (hu) (by simp (disch := first | assumption | omega | rfl | simp only [RH]) only [↓RP, RG, FX, RQ, ↓reduceIte, Nat.reduceEqDiff, reduceCtorEq, Nat.reduceBEq, Nat.reduceAdd, Nat.reduceLeDiff, RA] <;> rfl) (.inl (by simp [allFresh, ints_fresh, bools_fresh])) ?_
        simp (disch := first | assumption | omega | rfl | simp only [RH]) only [↓RP, RG, FX, RQ, ↓reduceIte, Nat.reduceEqDiff, reduceCtorEq, Nat.reduceBEq, Nat.reduceAdd, Nat.reduceLeDiff, c2, c3, beq_self_eq_true]
        rw [resVal_2 rfl]; simp (disch := first | assumption | omega | rfl | simp only [RH]) only [↓RP, RG, FX, RQ, ↓reduceIte, Nat.reduceEqDiff, reduceCtorEq, Nat.reduceBEq, Nat.reduceAdd, Nat.reduceLeDiff, RS]
        first | done | rfl
      · skip
        obtain rfl := hno fun h => c3 h.2.2
        refine Contract.intro (effS [] false) 6 follows Try.func6 rfl rfl (by kernel_rfl) (Nat.le_of_ble_eq_true rfl) ?_
        simp (disch := first | assumption | omega | rfl | simp only [RH]) only [↓RP, RG, FX, RQ, ↓reduceIte, Nat.reduceEqDiff, reduceCtorEq, Nat.reduceBEq, Nat.reduceAdd, Nat.reduceLeDiff, args0_1]
        refine callK_F 6 (hc) (by simp (disch := first | assumption | omega | rfl | simp only [RH]) only [↓RP, RG, FX, RQ, ↓reduceIte, Nat.reduceEqDiff, reduceCtorEq, Nat.reduceBEq, Nat.reduceAdd, Nat.reduceLeDiff, RA] <;> rfl) (.inl (by simp [allFresh, ints_fresh, bools_fresh])) ?_
        simp (disch := first | assumption | omega | rfl | simp only [RH]) only [↓RP, RG, FX, RQ, ↓reduceIte, Nat.reduceEqDiff, reduceCtorEq, Nat.reduceBEq, Nat.reduceAdd, Nat.reduceLeDiff]
        refine callK_F 6 h3 (by simp (disch := first | assumption | omega | rfl | simp only [RH]) only [↓RP, RG, FX, RQ, ↓reduceIte, Nat.reduceEqDiff, reduceCtorEq, Nat.reduceBEq, Nat.reduceAdd, Nat.reduceLeDiff, RA] <;> rfl) (.inl (by simp [allFresh, ints_fresh])) ?_
        simp (disch := first | assumption | omega | rfl | simp only [RH]) only [↓RP, RG, FX, RQ, ↓reduceIte, Nat.reduceEqDiff, reduceCtorEq, Nat.reduceBEq, Nat.reduceAdd, Nat.reduceLeDiff]
        refine callK_F 6 (h1) (by simp (disch := first | assumption | omega | rfl | simp only [RH]) only [↓RP, RG, FX, RQ, ↓reduceIte, Nat.reduceEqDiff, reduceCtorEq, Nat.reduceBEq, Nat.reduceAdd, Nat.reduceLeDiff, RA] <;> rfl) (.inl (by simp [allFresh, ints_fresh, bools_fresh])) ?_
        simp (disch := first | assumption | omega | rfl | simp only [RH]) only [↓RP, RG, FX, RQ, ↓reduceIte, Nat.reduceEqDiff, reduceCtorEq, Nat.reduceBEq, Nat.reduceAdd, Nat.reduceLeDiff]
        refine callK_F 6 (h2 _) (by simp (disch := first | assumption | omega | rfl | simp only [RH]) only [↓RP, RG, FX, RQ, ↓reduceIte, Nat.reduceEqDiff, reduceCtorEq, Nat.reduceBEq, Nat.reduceAdd, Nat.reduceLeDiff, RA] <;> rfl) (.inl (by simp [allFresh, ints_fresh])) ?_
        simp (disch := first | assumption | omega | rfl | simp only [RH]) only [↓RP, RG, FX, RQ, ↓reduceIte, Nat.reduceEqDiff, reduceCtorEq, Nat.reduceBEq, Nat.reduceAdd, Nat.reduceLeDiff]
        refine callK_F 6 (hu) (by simp (disch := first | assumption | omega | rfl | simp only [RH]) only [↓RP, RG, FX, RQ, ↓reduceIte, Nat.reduceEqDiff, reduceCtorEq, Nat.reduceBEq, Nat.reduceAdd, Nat.reduceLeDiff, RA] <;> rfl) (.inl (by simp [allFresh, ints_fresh, bools_fresh])) ?_
        simp (disch := first | assumption | omega | rfl | simp only [RH]) only [↓RP, RG, FX, RQ, ↓reduceIte, Nat.reduceEqDiff, reduceCtorEq, Nat.reduceBEq, Nat.reduceAdd, Nat.reduceLeDiff, c2, beq_self_eq_true]
        rw [resVal_2 rfl]; simp (disch := first | assumption | omega | rfl | simp only [RH]) only [↓RP, RG, FX, RQ, ↓reduceIte, Nat.reduceEqDiff, reduceCtorEq, Nat.reduceBEq, Nat.reduceAdd, Nat.reduceLeDiff, RS]
        first | done | rfl
    · obtain rfl := hno fun h => c2 h.2.1
      refine Contract.intro (effS [] false) 6 follows Try.func6 rfl rfl (by kernel_rfl) (Nat.le_of_ble_eq_true rfl) ?_
      simp (disch := first | assumption | omega | rfl | simp only [RH]) only [↓RP, RG, FX, RQ, ↓reduceIte, Nat.reduceEqDiff, reduceCtorEq, Nat.reduceBEq, Nat.reduceAdd, Nat.reduceLeDiff, args0_1]
      refine callK_F 6 (hc) (by simp (disch := first | assumption | omega | rfl | simp only [RH]) only [↓RP, RG, FX, RQ, ↓reduceIte, Nat.reduceEqDiff, reduceCtorEq, Nat.reduceBEq, Nat.reduceAdd, Nat.reduceLeDiff, RA] <;> rfl) (.inl (by simp [allFresh, ints_fresh, bools_fresh])) ?_
      simp (disch := first | assumption | omega | rfl | simp only [RH]) only [↓RP, RG, FX, RQ, ↓reduceIte, Nat.reduceEqDiff, reduceCtorEq, Nat.reduceBEq, Nat.reduceAdd, Nat.reduceLeDiff]
      refine callK_F 6 h3 (by simp (disch := first | assumption | omega | rfl | simp only [RH]) only [↓RP, RG, FX, RQ, ↓reduceIte, Nat.reduceEqDiff, reduceCtorEq, Nat.reduceBEq, Nat.reduceAdd, Nat.reduceLeDiff, RA] <;> rfl) (.inl (by simp [allFresh, ints_fresh])) ?_
      simp (disch := first | assumption | omega | rfl | simp only [RH]) only [↓RP, RG, FX, RQ, ↓reduceIte, Nat.reduceEqDiff, reduceCtorEq, Nat.reduceBEq, Nat.reduceAdd, Nat.reduceLeDiff]
      refine callK_F 6 (h1) (by simp (disch := first | assumption | omega | rfl | simp only [RH]) only [↓RP, RG, FX, RQ, ↓reduceIte, Nat.reduceEqDiff, reduceCtorEq, Nat.reduceBEq, Nat.reduceAdd, Nat.reduceLeDiff, RA] <;> rfl) (.inl (by simp [allFresh, ints_fresh, bools_fresh])) ?_
      simp (disch := first | assumption | omega | rfl | simp only [RH]) only [↓RP, RG, FX, RQ, ↓reduceIte, Nat.reduceEqDiff, reduceCtorEq, Nat.reduceBEq, Nat.reduceAdd, Nat.reduceLeDiff]
      refine callK_F 6 (h2 _) (by simp (disch := first | assumption | omega | rfl | simp only [RH]) only [↓RP, RG, FX, RQ, ↓reduceIte, Nat.reduceEqDiff, reduceCtorEq, Nat.reduceBEq, Nat.reduceAdd, Nat.reduceLeDiff, RA] <;> rfl) (.inl (by simp [allFresh, ints_fresh])) ?_
      simp (disch := first | assumption | omega | rfl | simp only [RH]) only [↓RP, RG, FX, RQ, ↓reduceIte, Nat.reduceEqDiff, reduceCtorEq, Nat.reduceBEq, Nat.reduceAdd, Nat.reduceLeDiff]
      refine callK_F 6 (hu) (by simp (disch := first | assumption | omega | rfl | simp only [RH]) only [↓RP, RG, FX, RQ, ↓reduceIte, Nat.reduceEqDiff, reduceCtorEq, Nat.reduceBEq, Nat.reduceAdd, Nat.reduceLeDiff, RA] <;> rfl) (.inl (by simp [allFresh, ints_fresh, bools_fresh])) ?_
      simp (disch := first | assumption | omega | rfl | simp only [RH]) only [↓RP, RG, FX, RQ, ↓reduceIte, Nat.reduceEqDiff, reduceCtorEq, Nat.reduceBEq, Nat.reduceAdd, Nat.reduceLeDiff]
      rw [resVal_2 rfl]; simp (disch := first | assumption | omega | rfl | simp only [RH]) only [↓RP, RG, FX, RQ, ↓reduceIte, Nat.reduceEqDiff, reduceCtorEq, Nat.reduceBEq, Nat.reduceAdd, Nat.reduceLeDiff, RS]
      first | done | rfl
  · rw [decide_eq_false c1] at hu
    obtain rfl := hno fun h => c1 h.1
    refine Contract.intro (effS [] false) 6 follows Try.func6 rfl rfl (by kernel_rfl) (Nat.le_of_ble_eq_true rfl) ?_
    simp (disch := first | assumption | omega | rfl | simp only [RH]) only [↓RP, RG, FX, RQ, ↓reduceIte, Nat.reduceEqDiff, reduceCtorEq, Nat.reduceBEq, Nat.reduceAdd, Nat.reduceLeDiff, args0_1]
    refine callK_F 6 (hc) (by simp (disch := first | assumption | omega | rfl | simp only [RH]) only [↓RP, RG, FX, RQ, ↓reduceIte, Nat.reduceEqDiff, reduceCtorEq, Nat.reduceBEq, Nat.reduceAdd, Nat.reduceLeDiff, RA] <;> rfl) (.inl (by simp [allFresh, ints_fresh, bools_fresh])) ?_
    simp (disch := first | assumption | omega | rfl | simp only [RH]) only [↓RP, RG, FX, RQ, ↓reduceIte, Nat.reduceEqDiff, reduceCtorEq, Nat.reduceBEq, Nat.reduceAdd, Nat.reduceLeDiff]
    refine callK_F 6 h3 (by simp (disch := first | assumption | omega | rfl | simp only [RH]) only [↓RP, RG, FX, RQ, ↓reduceIte, Nat.reduceEqDiff, reduceCtorEq, Nat.reduceBEq, Nat.reduceAdd, Nat.reduceLeDiff, RA] <;> rfl) (.inl (by simp [allFresh, ints_fresh])) ?_
    simp (disch := first | assumption | omega | rfl | simp only [RH]) only [↓RP, RG, FX, RQ, ↓reduceIte, Nat.reduceEqDiff, reduceCtorEq, Nat.reduceBEq, Nat.reduceAdd, Nat.reduceLeDiff]
    refine callK_F 6 (h1) (by simp (disch := first | assumption | omega | rfl | simp only [RH]) only [↓RP, RG, FX, RQ, ↓reduceIte, Nat.reduceEqDiff, reduceCtorEq, Nat.reduceBEq, Nat.reduceAdd, Nat.reduceLeDiff, RA] <;> rfl) (.inl (by simp [allFresh, ints_fresh, bools_fresh])) ?_
    simp (disch := first | assumption | omega | rfl | simp only [RH]) only [↓RP, RG, FX, RQ, ↓reduceIte, Nat.reduceEqDiff, reduceCtorEq, Nat.reduceBEq, Nat.reduceAdd, Nat.reduceLeDiff]
    refine callK_F 6 (h2 _) (by simp (disch := first | assumption | omega | rfl | simp only [RH]) only [↓RP, RG, FX, RQ, ↓reduceIte, Nat.reduceEqDiff, reduceCtorEq, Nat.reduceBEq, Nat.reduceAdd, Nat.reduceLeDiff, RA] <;> rfl) (.inl (by simp [allFresh, ints_fresh])) ?_
    simp (disch := first | assumption | omega | rfl | simp only [RH]) only [↓RP, RG, FX, RQ, ↓reduceIte, Nat.reduceEqDiff, reduceCtorEq, Nat.reduceBEq, Nat.reduceAdd, Nat.reduceLeDiff]
    refine callK_F 6 (hu) (by simp (disch := first | assumption | omega | rfl | simp only [RH]) only [↓RP, RG, FX, RQ, ↓reduceIte, Nat.reduceEqDiff, reduceCtorEq, Nat.reduceBEq, Nat.reduceAdd, Nat.reduceLeDiff, RA] <;> rfl) (.inl (by simp [allFresh, ints_fresh, bools_fresh])) ?_
    simp (disch := first | assumption | omega | rfl | simp only [RH]) only [↓RP, RG, FX, RQ, ↓reduceIte, Nat.reduceEqDiff, reduceCtorEq, Nat.reduceBEq, Nat.reduceAdd, Nat.reduceLeDiff]
    rw [resVal_2 rfl]; simp (disch := first | assumption | omega | rfl | simp only [RH]) only [↓RP, RG, FX, RQ, ↓reduceIte, Nat.reduceEqDiff, reduceCtorEq, Nat.reduceBEq, Nat.reduceAdd, Nat.reduceLeDiff, RS]
    first | done | rfl
end
end Go.Proofs.Ytbhkhaaifielkaa

/- Match of drafts: the walks. -/
set_option linter.unusedSimpArgs false
set_option linter.unusedVariables false
set_option maxRecDepth 100000
namespace Go.Proofs.Ytbhkhaaifielkaa
open Go Go.Proofs Go.AW

section
variable {s t : Int} {b1 : Bool} {th : List Int} {b2 : Bool} {td : List Int} {w h : Int} {b3 : Bool} {l : List Bool} {s' t' : Int} {b1' : Bool} {th' : List Int} {b2' : Bool} {td' : List Int} {w' h' : Int} {b3' : Bool} {l' : List Bool}
theorem mP_err1 {e : Int} (he : e ≠ 0) (hca : Contract Try.prog 11 [DA s t b1 th b2 td w h b3 l] (I e)) : Contract Try.prog 7 [DA s t b1 th b2 td w h b3 l, DA s' t' b1' th' b2' td' w' h' b3' l'] (.tuple [LR true [], LR true [], I e]) := by
  refine Contract.intro (effS [] false) 6 follows Try.func7 rfl rfl (by kernel_rfl) (Nat.le_of_ble_eq_true rfl) ?_
  simp (disch := first | assumption | omega | rfl | simp only [RH]) only [↓RP, RG, FX, RQ, ↓reduceIte, Nat.reduceEqDiff, reduceCtorEq, Nat.reduceBEq, Nat.reduceAdd, Nat.reduceLeDiff, args0_2]
  refine callK_F 6 (hca) (by simp (disch := first | assumption | omega | rfl | simp only [RH]) only [↓RP, RG, FX, RQ, ↓reduceIte, Nat.reduceEqDiff, reduceCtorEq, Nat.reduceBEq, Nat.reduceAdd, Nat.reduceLeDiff, RA] <;> rfl) (.inl (by simp [allFresh, ints_fresh, bools_fresh])) ?_
  simp (disch := first | assumption | omega | rfl | simp only [RH]) only [↓RP, RG, FX, RQ, ↓reduceIte, Nat.reduceEqDiff, reduceCtorEq, Nat.reduceBEq, Nat.reduceAdd, Nat.reduceLeDiff]
  rw [resVal_3 rfl]; simp (disch := first | assumption | omega | rfl | simp only [RH]) only [↓RP, RG, FX, RQ, ↓reduceIte, Nat.reduceEqDiff, reduceCtorEq, Nat.reduceBEq, Nat.reduceAdd, Nat.reduceLeDiff, RS]
  first | done | rfl
theorem mP_err2 {e : Int} (he : e ≠ 0) (hca : Contract Try.prog 11 [DA s t b1 th b2 td w h b3 l] (I 0)) (hcb : Contract Try.prog 11 [DA s' t' b1' th' b2' td' w' h' b3' l'] (I e)) : Contract Try.prog 7 [DA s t b1 th b2 td w h b3 l, DA s' t' b1' th' b2' td' w' h' b3' l'] (.tuple [LR true [], LR true [], I e]) := by
  refine Contract.intro (effS [] false) 6 follows Try.func7 rfl rfl (by kernel_rfl) (Nat.le_of_ble_eq_true rfl) ?_
  simp (disch := first | assumption | omega | rfl | simp only [RH]) only [↓RP, RG, FX, RQ, ↓reduceIte, Nat.reduceEqDiff, reduceCtorEq, Nat.reduceBEq, Nat.reduceAdd, Nat.reduceLeDiff, args0_2]
  refine callK_F 6 (hca) (by simp (disch := first | assumption | omega | rfl | simp only [RH]) only [↓RP, RG, FX, RQ, ↓reduceIte, Nat.reduceEqDiff, reduceCtorEq, Nat.reduceBEq, Nat.reduceAdd, Nat.reduceLeDiff, RA] <;> rfl) (.inl (by simp [allFresh, ints_fresh, bools_fresh])) ?_
  simp (disch := first | assumption | omega | rfl | simp only [RH]) only [↓RP, RG, FX, RQ, ↓reduceIte, Nat.reduceEqDiff, reduceCtorEq, Nat.reduceBEq, Nat.reduceAdd, Nat.reduceLeDiff]
  refine callK_F 6 (hcb) (by simp (disch := first | assumption | omega | rfl | simp only [RH]) only [↓RP, RG, FX, RQ, ↓reduceIte, Nat.reduceEqDiff, reduceCtorEq, Nat.reduceBEq, Nat.reduceAdd, Nat.reduceLeDiff, RA] <;> rfl) (.inl (by simp [allFresh, ints_fresh, bools_fresh])) ?_
  simp (disch := first | assumption | omega | rfl | simp only [RH]) only [↓RP, RG, FX, RQ, ↓reduceIte, Nat.reduceEqDiff, reduceCtorEq, Nat.reduceBEq, Nat.reduceAdd, Nat.reduceLeDiff]
  rw [resVal_3 rfl]; simp (disch := first | assumption | omega | rfl | simp only [RH]) only [↓RP, RG, FX, RQ, ↓reduceIte, Nat.reduceEqDiff, reduceCtorEq, Nat.reduceBEq, Nat.reduceAdd, Nat.reduceLeDiff, RS]
  first | done | rfl
section
variable (hca : Contract Try.prog 11 [DA s t b1 th b2 td w h b3 l] (I 0)) (hcb : Contract Try.prog 11 [DA s' t' b1' th' b2' td' w' h' b3' l'] (I 0))
include hca hcb
theorem mP_use {u v : Bool} (hua : Contract Try.prog 13 [DA s t b1 th b2 td w h b3 l] (B u)) (hub : Contract Try.prog 13 [DA s' t' b1' th' b2' td' w' h' b3' l'] (B v)) (hn : ¬ (u = true ∧ v = true)) : Contract Try.prog 7 [DA s t b1 th b2 td w h b3 l, DA s' t' b1' th' b2' td' w' h' b3' l'] (.tuple [LR true [], LR true [], I 2]) := by
  cases u with
  | false =>
    refine Contract.intro (effS [] false) 6 follows Try.func7 rfl rfl (by kernel_rfl) (Nat.le_of_ble_eq_true rfl) ?_
    simp (disch := first | assumption | omega | rfl | simp only [RH]) only [↓RP, RG, FX, RQ, ↓reduceIte, Nat.reduceEqDiff, reduceCtorEq, Nat.reduceBEq, Nat.reduceAdd, Nat.reduceLeDiff, args0_2]
    refine callK_F 6 (hca) (by simp (disch := first | assumption | omega | rfl | simp only [RH]) only [↓RP, RG, FX, RQ, ↓reduceIte, Nat.reduceEqDiff, reduceCtorEq, Nat.reduceBEq, Nat.reduceAdd, Nat.reduceLeDiff, RA] <;> rfl) (.inl (by simp [allFresh, ints_fresh, bools_fresh])) ?_
    simp (disch := first | assumption | omega | rfl | simp only [RH]) only [↓RP, RG, FX, RQ, ↓reduceIte, Nat.reduceEqDiff, reduceCtorEq, Nat.reduceBEq, Nat.reduceAdd, Nat.reduceLeDiff]
    refine callK_F 6 (hcb) (by simp (disch := first | assumption | omega | rfl | simp only [RH]) only [↓RP, RG, FX, RQ, ↓reduceIte, Nat.reduceEqDiff, reduceCtorEq, Nat.reduceBEq, Nat.reduceAdd, Nat.reduceLeDiff, RA] <;> rfl) (.inl (by simp [allFresh, ints_fresh, bools_fresh])) ?_
    simp (disch := first | assumption | omega | rfl | simp only [RH]) only [↓RP, RG, FX, RQ, ↓reduceIte, Nat.reduceEqDiff, reduceCtorEq, Nat.reduceBEq, Nat.reduceAdd, Nat.reduceLeDiff]
    refine callK_F 6 (hua) (by simp (disch := first | assumption | omega | rfl | simp only [RH]) only [↓RP, RG, FX, RQ, ↓reduceIte, Nat.reduceEqDiff, reduceCtorEq, Nat.reduceBEq, Nat.reduceAdd, Nat.reduceLeDiff, RA] <;> rfl) (.inl (by simp [allFresh, ints_fresh, bools_fresh])) ?_
    simp (disch := first | assumption | omega | rfl | simp only [RH]) only [↓RP, RG, FX, RQ, ↓reduceIte, Nat.reduceEqDiff, reduceCtorEq, Nat.reduceBEq, Nat.reduceAdd, Nat.reduceLeDiff]
    rw [resVal_3 rfl]; simp (disch := first | assumption | omega | rfl | simp only [RH]) only [↓RP, RG, FX, RQ, ↓reduceIte, Nat.reduceEqDiff, reduceCtorEq, Nat.reduceBEq, Nat.reduceAdd, Nat.reduceLeDiff, RS]
    first | done | rfl
  | true =>
    obtain rfl : v = false := by cases v with | false => rfl | true => exact absurd ⟨rfl, rfl⟩ hn
    refine Contract.intro (effS [] false) 6 follows Try.func7 rfl rfl (by kernel_rfl) (Nat.le_of_ble_eq_true rfl) ?_
    simp (disch := first | assumption | omega | rfl | simp only [RH]) only [↓RP, RG, FX, RQ, ↓reduceIte, Nat.reduceEqDiff, reduceCtorEq, Nat.reduceBEq, Nat.reduceAdd, Nat.reduceLeDiff, args0_2]
    refine callK_F 6 (hca) (by simp (disch := first | assumption | omega | rfl | simp only [RH]) only [↓RP, RG, FX, RQ, ↓reduceIte, Nat.reduceEqDiff, reduceCtorEq, Nat.reduceBEq, Nat.reduceAdd, Nat.reduceLeDiff, RA] <;> rfl) (.inl (by simp [allFresh, ints_fresh, bools_fresh])) ?_
    simp (disch := first | assumption | omega | rfl | simp only [RH]) only [↓RP, RG, FX, RQ, ↓reduceIte, Nat.reduceEqDiff, reduceCtorEq, Nat.reduceBEq, Nat.reduceAdd, Nat.reduceLeDiff]
    refine callK_F 6 (hcb) (by simp (disch := first | assumption | omega | rfl | simp only [RH]) only [↓RP, RG, FX, RQ, ↓reduceIte, Nat.reduceEqDiff, reduceCtorEq, Nat.reduceBEq, Nat.reduceAdd, Nat.reduceLeDiff, RA] <;> rfl) (.inl (by simp [allFresh, ints_fresh, bools_fresh])) ?_
    simp (disch := first | assumption | omega | rfl | simp only [RH]) only [↓RP, RG, FX, RQ, ↓reduceIte, Nat.reduceEqDiff, reduceCtorEq, Nat.reduceBEq, Nat.reduceAdd, Nat.reduceLeDiff]
    refine callK_F 6 (hua) (by simp (disch := first | assumption | omega | rfl | simp only [RH]) only [↓RP, RG, FX, RQ, ↓reduceIte, Nat.reduceEqDiff, reduceCtorEq, Nat.reduceBEq, Nat.reduceAdd, Nat.reduceLeDiff, RA] <;> rfl) (.inl (by simp [allFresh, ints_fresh, bools_fresh])) ?_
    simp (disch := first | assumption | omega | rfl | simp only [RH]) only [↓RP, RG, FX, RQ, ↓reduceIte, Nat.reduceEqDiff, reduceCtorEq, Nat.reduceBEq, Nat.reduceAdd, Nat.reduceLeDiff]
    refine callK_F 6 (hub) (by simp (disch := first | assumption | omega | rfl | simp only [RH]) only [↓RP, RG, FX, RQ, ↓reduceIte, Nat.reduceEqDiff, reduceCtorEq, Nat.reduceBEq, Nat.reduceAdd, Nat.reduceLeDiff, RA] <;> rfl) (.inl (by simp [allFresh, ints_fresh, bools_fresh])) ?_
    simp (disch := first | assumption | omega | rfl | simp only [RH]) only [↓RP, RG, FX, RQ, ↓reduceIte, Nat.reduceEqDiff, reduceCtorEq, Nat.reduceBEq, Nat.reduceAdd, Nat.reduceLeDiff]
    rw [resVal_3 rfl]; simp (disch := first | assumption | omega | rfl | simp only [RH]) only [↓RP, RG, FX, RQ, ↓reduceIte, Nat.reduceEqDiff, reduceCtorEq, Nat.reduceBEq, Nat.reduceAdd, Nat.reduceLeDiff, RS]
    first | done | rfl
variable (hua : Contract Try.prog 13 [DA s t b1 th b2 td w h b3 l] (B true)) (hub : Contract Try.prog 13 [DA s' t' b1' th' b2' td' w' h' b3' l'] (B true))
include hua hub
theorem mP_none {n1 n2 : Bool} {m1 m2 : List Int} {e1 e2 : Int} (h1 : Contract Try.prog 18 [LA b1 th, LA b1' th'] (.tuple [LR n1 m1, I e1])) (h2 : Contract Try.prog 18 [LA b2 td, LA b2' td'] (.tuple [LR n2 m2, I e2])) (he : e1 ≠ 0 ∨ e2 ≠ 0) :
    Contract Try.prog 7 [DA s t b1 th b2 td w h b3 l, DA s' t' b1' th' b2' td' w' h' b3' l'] (.tuple [LR true [], LR true [], I 6]) := by
  by_cases c1 : e1 = 0
  · have c2 : e2 ≠ 0 := he.resolve_left (fun h => h c1)
    subst c1
    refine Contract.intro (effS [] false) 6 follows Try.func7 rfl rfl (by kernel_rfl) (Nat.le_of_ble_eq_true rfl) ?_
    simp (disch := first | assumption | omega | rfl | simp only [RH]) only [↓RP, RG, FX, RQ, ↓reduceIte, Nat.reduceEqDiff, reduceCtorEq, Nat.reduceBEq, Nat.reduceAdd, Nat.reduceLeDiff, args0_2]
    refine callK_F 6 (hca) (by simp (disch := first | assumption | omega | rfl | simp only [RH]) only [↓RP, RG, FX, RQ, ↓reduceIte, Nat.reduceEqDiff, reduceCtorEq, Nat.reduceBEq, Nat.reduceAdd, Nat.reduceLeDiff, RA] <;> rfl) (.inl (by simp [allFresh, ints_fresh, bools_fresh])) ?_
    simp (disch := first | assumption | omega | rfl | simp only [RH]) only [↓RP, RG, FX, RQ, ↓reduceIte, Nat.reduceEqDiff, reduceCtorEq, Nat.reduceBEq, Nat.reduceAdd, Nat.reduceLeDiff]
    refine callK_F 6 (hcb) (by simp (disch := first | assumption | omega | rfl | simp only [RH]) only [↓RP, RG, FX, RQ, ↓reduceIte, Nat.reduceEqDiff, reduceCtorEq, Nat.reduceBEq, Nat.reduceAdd, Nat.reduceLeDiff, RA] <;> rfl) (.inl (by simp [allFresh, ints_fresh, bools_fresh])) ?_
    simp (disch := first | assumption | omega | rfl | simp only [RH]) only [↓RP, RG, FX, RQ, ↓reduceIte, Nat.reduceEqDiff, reduceCtorEq, Nat.reduceBEq, Nat.reduceAdd, Nat.reduceLeDiff]
    refine callK_F 6 (hua) (by simp (disch := first | assumption | omega | rfl | simp only [RH]) only [↓RP, RG, FX, RQ, ↓reduceIte, Nat.reduceEqDiff, reduceCtorEq, Nat.reduceBEq, Nat.reduceAdd, Nat.reduceLeDiff, RA] <;> rfl) (.inl (by simp [allFresh, ints_fresh, bools_fresh])) ?_
    simp (disch := first | assumption | omega | rfl | simp only [RH]) only [↓RP, RG, FX, RQ, ↓reduceIte, Nat.reduceEqDiff, reduceCtorEq, Nat.reduceBEq, Nat.reduceAdd, Nat.reduceLeDiff]
    refine callK_F 6 (hub) (by simp (disch := first | assumption | omega | rfl | simp only [RH]) only [↓RP, RG, FX, RQ, ↓reduceIte, Nat.reduceEqDiff, reduceCtorEq, Nat.reduceBEq, Nat.reduceAdd, Nat.reduceLeDiff, RA] <;> rfl) (.inl (by simp [allFresh, ints_fresh, bools_fresh])) ?_
    simp (disch := first | assumption | omega | rfl | simp only [RH]) only [↓RP, RG, FX, RQ, ↓reduceIte, Nat.reduceEqDiff, reduceCtorEq, Nat.reduceBEq, Nat.reduceAdd, Nat.reduceLeDiff]
    refine callK_F 6 h1 (by simp (disch := first | assumption | omega | rfl | simp only [RH]) only [↓RP, RG, FX, RQ, ↓reduceIte, Nat.reduceEqDiff, reduceCtorEq, Nat.reduceBEq, Nat.reduceAdd, Nat.reduceLeDiff, RA] <;> rfl) (.inl (by simp [allFresh, ints_fresh])) ?_
    simp (disch := first | assumption | omega | rfl | simp only [RH]) only [↓RP, RG, FX, RQ, ↓reduceIte, Nat.reduceEqDiff, reduceCtorEq, Nat.reduceBEq, Nat.reduceAdd, Nat.reduceLeDiff]
    refine callK_F 6 h2 (by simp (disch := first | assumption | omega | rfl | simp only [RH]) only [↓RP, RG, FX, RQ, ↓reduceIte, Nat.reduceEqDiff, reduceCtorEq, Nat.reduceBEq, Nat.reduceAdd, Nat.reduceLeDiff, RA] <;> rfl) (.inl (by simp [allFresh, ints_fresh])) ?_
    simp (disch := first | assumption | omega | rfl | simp only [RH]) only [↓RP, RG, FX, RQ, ↓reduceIte, Nat.reduceEqDiff, reduceCtorEq, Nat.reduceBEq, Nat.reduceAdd, Nat.reduceLeDiff]
    rw [resVal_3 rfl]; simp (disch := first | assumption | omega | rfl | simp only [RH]) only [↓RP, RG, FX, RQ, ↓reduceIte, Nat.reduceEqDiff, reduceCtorEq, Nat.reduceBEq, Nat.reduceAdd, Nat.reduceLeDiff, RS]
    first | done | rfl
  · refine Contract.intro (effS [] false) 6 follows Try.func7 rfl rfl (by kernel_rfl) (Nat.le_of_ble_eq_true rfl) ?_
    simp (disch := first | assumption | omega | rfl | simp only [RH]) only [↓RP, RG, FX, RQ, ↓reduceIte, Nat.reduceEqDiff, reduceCtorEq, Nat.reduceBEq, Nat.reduceAdd, Nat.reduceLeDiff, args0_2]
    refine callK_F 6 (hca) (by simp (disch := first | assumption | omega | rfl | simp only [RH]) only [↓RP, RG, FX, RQ, ↓reduceIte, Nat.reduceEqDiff, reduceCtorEq, Nat.reduceBEq, Nat.reduceAdd, Nat.reduceLeDiff, RA] <;> rfl) (.inl (by simp [allFresh, ints_fresh, bools_fresh])) ?_
    simp (disch := first | assumption | omega | rfl | simp only [RH]) only [↓RP, RG, FX, RQ, ↓reduceIte, Nat.reduceEqDiff, reduceCtorEq, Nat.reduceBEq, Nat.reduceAdd, Nat.reduceLeDiff]
    refine callK_F 6 (hcb) (by simp (disch := first | assumption | omega | rfl | simp only [RH]) only [↓RP, RG, FX, RQ, ↓reduceIte, Nat.reduceEqDiff, reduceCtorEq, Nat.reduceBEq, Nat.reduceAdd, Nat.reduceLeDiff, RA] <;> rfl) (.inl (by simp [allFresh, ints_fresh, bools_fresh])) ?_
    simp (disch := first | assumption | omega | rfl | simp only [RH]) only [↓RP, RG, FX, RQ, ↓reduceIte, Nat.reduceEqDiff, reduceCtorEq, Nat.reduceBEq, Nat.reduceAdd, Nat.reduceLeDiff]
    refine callK_F 6 (hua) (by simp (disch := first | assumption | omega | rfl | simp only [RH]) only [↓RP, RG, FX, RQ, ↓reduceIte, Nat.reduceEqDiff, reduceCtorEq, Nat.reduceBEq, Nat.reduceAdd, Nat.reduceLeDiff, RA] <;> rfl) (.inl (by simp [allFresh, ints_fresh, bools_fresh])) ?_
    simp (disch := first | assumption | omega | rfl | simp only [RH]) only [↓RP, RG, FX, RQ, ↓reduceIte, Nat.reduceEqDiff, reduceCtorEq, Nat.reduceBEq, Nat.reduceAdd, Nat.reduceLeDiff]
    refine callK_F 6 (hub) (by simp (disch := first | assumption | omega | rfl | simp only [RH]) only [↓RP, RG, FX, RQ, ↓reduceIte, Nat.reduceEqDiff, reduceCtorEq, Nat.reduceBEq, Nat.reduceAdd, Nat.reduceLeDiff, RA] <;> rfl) (.inl (by simp [allFresh, ints_fresh, bools_fresh])) ?_
    simp (disch := first | assumption | omega | rfl | simp only [RH]) only [↓RP, RG, FX, RQ, ↓reduceIte, Nat.reduceEqDiff, reduceCtorEq, Nat.reduceBEq, Nat.reduceAdd, Nat.reduceLeDiff]
    refine callK_F 6 h1 (by simp (disch := first | assumption | omega | rfl | simp only [RH]) only [↓RP, RG, FX, RQ, ↓reduceIte, Nat.reduceEqDiff, reduceCtorEq, Nat.reduceBEq, Nat.reduceAdd, Nat.reduceLeDiff, RA] <;> rfl) (.inl (by simp [allFresh, ints_fresh])) ?_
    simp (disch := first | assumption | omega | rfl | simp only [RH]) only [↓RP, RG, FX, RQ, ↓reduceIte, Nat.reduceEqDiff, reduceCtorEq, Nat.reduceBEq, Nat.reduceAdd, Nat.reduceLeDiff]
    refine callK_F 6 h2 (by simp (disch := first | assumption | omega | rfl | simp only [RH]) only [↓RP, RG, FX, RQ, ↓reduceIte, Nat.reduceEqDiff, reduceCtorEq, Nat.reduceBEq, Nat.reduceAdd, Nat.reduceLeDiff, RA] <;> rfl) (.inl (by simp [allFresh, ints_fresh])) ?_
    simp (disch := first | assumption | omega | rfl | simp only [RH]) only [↓RP, RG, FX, RQ, ↓reduceIte, Nat.reduceEqDiff, reduceCtorEq, Nat.reduceBEq, Nat.reduceAdd, Nat.reduceLeDiff]
    rw [resVal_3 rfl]; simp (disch := first | assumption | omega | rfl | simp only [RH]) only [↓RP, RG, FX, RQ, ↓reduceIte, Nat.reduceEqDiff, reduceCtorEq, Nat.reduceBEq, Nat.reduceAdd, Nat.reduceLeDiff, RS]
    first | done | rfl
variable {n1 n2 : Bool} {m1 m2 : List Int} (h1 : Contract Try.prog 18 [LA b1 th, LA b1' th'] (.tuple [LR n1 m1, I 0])) (h2 : Contract Try.prog 18 [LA b2 td, LA b2' td'] (.tuple [LR n2 m2, I 0]))
include h1 h2
theorem mP_ren {s2 t2 : Int} {c1 : Bool} {th2 : List Int} {c2 : Bool} {td2 : List Int} {w2 h2' : Int} {c3 : Bool} {l2 : List Bool} {e : Int} {r : Bool} (hr : Contract Try.prog 19 [DA s t b1 th b2 td w h b3 l, LA n1 m1, LA n2 m2] (.tuple [DR s2 t2 c1 th2 c2 td2 w2 h2' c3 l2, I e]))
    (hs : Contract Try.prog 20 [DA s2 t2 c1 th2 c2 td2 w2 h2' c3 l2, DA s' t' b1' th' b2' td' w' h' b3' l'] (B r)) :
    Contract Try.prog 7 [DA s t b1 th b2 td w h b3 l, DA s' t' b1' th' b2' td' w' h' b3' l'] (.tuple (if e = 0 ∧ r = true then [LR n1 m1, LR n2 m2, I 0] else [LR true [], LR true [], I 6])) := by
  by_cases c1 : e = 0
  · subst c1
    cases r with
    | true =>
      rw [if_pos ⟨rfl, rfl⟩]
      refine Contract.intro (effS [] false) 6 follows Try.func7 rfl rfl (by kernel_rfl) (Nat.le_of_ble_eq_true rfl) ?_
      simp (disch := first | assumption | omega | rfl | simp only [RH]) only [↓RP, RG, FX, RQ, ↓reduceIte, Nat.reduceEqDiff, reduceCtorEq, Nat.reduceBEq, Nat.reduceAdd, Nat.reduceLeDiff, args0_2]
      refine callK_F 6 (hca) (by simp (disch := first | assumption | omega | rfl | simp only [RH]) only [↓RP, RG, FX, RQ, ↓reduceIte, Nat.reduceEqDiff, reduceCtorEq, Nat.reduceBEq, Nat.reduceAdd, Nat.reduceLeDiff, RA] <;> rfl) (.inl (by simp [allFresh, ints_fresh, bools_fresh])) ?_
      simp (disch := first | assumption | omega | rfl | simp only [RH]) only [↓RP, RG, FX, RQ, ↓reduceIte, Nat.reduceEqDiff, reduceCtorEq, Nat.reduceBEq, Nat.reduceAdd, Nat.reduceLeDiff]
      refine callK_F 6 (hcb) (by simp (disch := first | assumption | omega | rfl | simp only [RH]) only [↓RP, RG, FX, RQ, ↓reduceIte, Nat.reduceEqDiff, reduceCtorEq, Nat.reduceBEq, Nat.reduceAdd, Nat.reduceLeDiff, RA] <;> rfl) (.inl (by simp [allFresh, ints_fresh, bools_fresh])) ?_
      simp (disch := first | assumption | omega | rfl | simp only [RH]) only [↓RP, RG, FX, RQ, ↓reduceIte, Nat.reduceEqDiff, reduceCtorEq, Nat.reduceBEq, Nat.reduceAdd, Nat.reduceLeDiff]
      refine callK_F 6 (hua) (by simp (disch := first | assumption | omega | rfl | simp only [RH]) only [↓RP, RG, FX, RQ, ↓reduceIte, Nat.reduceEqDiff, reduceCtorEq, Nat.reduceBEq, Nat.reduceAdd, Nat.reduceLeDiff, RA] <;> rfl) (.inl (by simp [allFresh, ints_fresh, bools_fresh])) ?_
      simp (disch := first | assumption | omega | rfl | simp only [RH]) only [↓RP, RG, FX, RQ, ↓reduceIte, Nat.reduceEqDiff, reduceCtorEq, Nat.reduceBEq, Nat.reduceAdd, Nat.reduceLeDiff]
      refine callK_F 6 (hub) (by simp (disch := first | assumption | omega | rfl | simp only [RH]) only [↓RP, RG, FX, RQ, ↓reduceIte, Nat.reduceEqDiff, reduceCtorEq, Nat.reduceBEq, Nat.reduceAdd, Nat.reduceLeDiff, RA] <;> rfl) (.inl (by simp [allFresh, ints_fresh, bools_fresh])) ?_
      simp (disch := first | assumption | omega | rfl | simp only [RH]) only [↓RP, RG, FX, RQ, ↓reduceIte, Nat.reduceEqDiff, reduceCtorEq, Nat.reduceBEq, Nat.reduceAdd, Nat.reduceLeDiff]
      refine callK_F 6 h1 (by simp (disch := first | assumption | omega | rfl | simp only [RH]) only [↓RP, RG, FX, RQ, ↓reduceIte, Nat.reduceEqDiff, reduceCtorEq, Nat.reduceBEq, Nat.reduceAdd, Nat.reduceLeDiff, RA] <;> rfl) (.inl (by simp [allFresh, ints_fresh])) ?_
      simp (disch := first | assumption | omega | rfl | simp only [RH]) only [↓RP, RG, FX, RQ, ↓reduceIte, Nat.reduceEqDiff, reduceCtorEq, Nat.reduceBEq, Nat.reduceAdd, Nat.reduceLeDiff]
      refine callK_F 6 h2 (by simp (disch := first | assumption | omega | rfl | simp only [RH]) only [↓RP, RG, FX, RQ, ↓reduceIte, Nat.reduceEqDiff, reduceCtorEq, Nat.reduceBEq, Nat.reduceAdd, Nat.reduceLeDiff, RA] <;> rfl) (.inl (by simp [allFresh, ints_fresh])) ?_
      simp (disch := first | assumption | omega | rfl | simp only [RH]) only [↓RP, RG, FX, RQ, ↓reduceIte, Nat.reduceEqDiff, reduceCtorEq, Nat.reduceBEq, Nat.reduceAdd, Nat.reduceLeDiff]
      refine callK_F 6 hr (by simp (disch := first | assumption | omega | rfl | simp only [RH]) only [↓RP, RG, FX, RQ, ↓reduceIte, Nat.reduceEqDiff, reduceCtorEq, Nat.reduceBEq, Nat.reduceAdd, Nat.reduceLeDiff, RA] <;> rfl) (.inl (by simp [allFresh, ints_fresh, bools_fresh])) ?_
      simp (disch := first | assumption | omega | rfl | simp only [RH]) only [↓RP, RG, FX, RQ, ↓reduceIte, Nat.reduceEqDiff, reduceCtorEq, Nat.reduceBEq, Nat.reduceAdd, Nat.reduceLeDiff]
      refine callK_F 6 hs (by simp (disch := first | assumption | omega | rfl | simp only [RH]) only [↓RP, RG, FX, RQ, ↓reduceIte, Nat.reduceEqDiff, reduceCtorEq, Nat.reduceBEq, Nat.reduceAdd, Nat.reduceLeDiff, RA] <;> rfl) (.inl rfl) ?_
      simp (disch := first | assumption | omega | rfl | simp only [RH]) only [↓RP, RG, FX, RQ, ↓reduceIte, Nat.reduceEqDiff, reduceCtorEq, Nat.reduceBEq, Nat.reduceAdd, Nat.reduceLeDiff]
      rw [resVal_3 rfl]; simp (disch := first | assumption | omega | rfl | simp only [RH]) only [↓RP, RG, FX, RQ, ↓reduceIte, Nat.reduceEqDiff, reduceCtorEq, Nat.reduceBEq, Nat.reduceAdd, Nat.reduceLeDiff, RS]
      first | done | rfl
    | false =>
      rw [if_neg (fun h => by cases h.2)]
      refine Contract.intro (effS [] false) 6 follows Try.func7 rfl rfl (by kernel_rfl) (Nat.le_of_ble_eq_true rfl) ?_
      simp (disch := first | assumption | omega | rfl | simp only [RH]) only [↓RP, RG, FX, RQ, ↓reduceIte, Nat.reduceEqDiff, reduceCtorEq, Nat.reduceBEq, Nat.reduceAdd, Nat.reduceLeDiff, args0_2]
      refine callK_F 6 (hca) (by simp (disch := first | assumption | omega | rfl | simp only [RH]) only [↓RP, RG, FX, RQ, ↓reduceIte, Nat.reduceEqDiff, reduceCtorEq, Nat.reduceBEq, Nat.reduceAdd, Nat.reduceLeDiff, RA] <;> rfl) (.inl (by simp [allFresh, ints_fresh, bools_fresh])) ?_
      simp (disch := first | assumption | omega | rfl | simp only [RH]) only [↓RP, RG, FX, RQ, ↓reduceIte, Nat.reduceEqDiff, reduceCtorEq, Nat.reduceBEq, Nat.reduceAdd, Nat.reduceLeDiff]
      refine callK_F 6 (hcb) (by simp (disch := first | assumption | omega | rfl | simp only [RH]) only [↓RP, RG, FX, RQ, ↓reduceIte, Nat.reduceEqDiff, reduceCtorEq, Nat.reduceBEq, Nat.reduceAdd, Nat.reduceLeDiff, RA] <;> rfl) (.inl (by simp [allFresh, ints_fresh, bools_fresh])) ?_
      simp (disch := first | assumption | omega | rfl | simp only [RH]) only [↓RP, RG, FX, RQ, ↓reduceIte, Nat.reduceEqDiff, reduceCtorEq, Nat.reduceBEq, Nat.reduceAdd, Nat.reduceLeDiff]
      refine callK_F 6 (hua) (by simp (disch := first | assumption | omega | rfl | simp only [RH]) only [↓RP, RG, FX, RQ, ↓reduceIte, Nat.reduceEqDiff, reduceCtorEq, Nat.reduceBEq, Nat.reduceAdd, Nat.reduceLeDiff, RA] <;> rfl) (.inl (by simp [allFresh, ints_fresh, bools_fresh])) ?_
      simp (disch := first | assumption | omega | rfl | simp only [RH]) only [↓RP, RG, FX, RQ, ↓reduceIte, Nat.reduceEqDiff, reduceCtorEq, Nat.reduceBEq, Nat.reduceAdd, Nat.reduceLeDiff]
      refine callK_F 6 (hub) (by simp (disch := first | assumption | omega | rfl | simp only [RH]) only [↓RP, RG, FX, RQ, ↓reduceIte, Nat.reduceEqDiff, reduceCtorEq, Nat.reduceBEq, Nat.reduceAdd, Nat.reduceLeDiff, RA] <;> rfl) (.inl (by simp [allFresh, ints_fresh, bools_fresh])) ?_
      simp (disch := first | assumption | omega | rfl | simp only [RH]) only [↓RP, RG, FX, RQ, ↓reduceIte, Nat.reduceEqDiff, reduceCtorEq, Nat.reduceBEq, Nat.reduceAdd, Nat.reduceLeDiff]
      refine callK_F 6 h1 (by simp (disch := first | assumption | omega | rfl | simp only [RH]) only [↓RP, RG, FX, RQ, ↓reduceIte, Nat.reduceEqDiff, reduceCtorEq, Nat.reduceBEq, Nat.reduceAdd, Nat.reduceLeDiff, RA] <;> rfl) (.inl (by simp [allFresh, ints_fresh])) ?_
      simp (disch := first | assumption | omega | rfl | simp only [RH]) only [↓RP, RG, FX, RQ, ↓reduceIte, Nat.reduceEqDiff, reduceCtorEq, Nat.reduceBEq, Nat.reduceAdd, Nat.reduceLeDiff]
      refine callK_F 6 h2 (by simp (disch := first | assumption | omega | rfl | simp only [RH]) only [↓RP, RG, FX, RQ, ↓reduceIte, Nat.reduceEqDiff, reduceCtorEq, Nat.reduceBEq, Nat.reduceAdd, Nat.reduceLeDiff, RA] <;> rfl) (.inl (by simp [allFresh, ints_fresh])) ?_
      simp (disch := first | assumption | omega | rfl | simp only [RH]) only [↓RP, RG, FX, RQ, ↓reduceIte, Nat.reduceEqDiff, reduceCtorEq, Nat.reduceBEq, Nat.reduceAdd, Nat.reduceLeDiff]
      refine callK_F 6 hr (by simp (disch := first | assumption | omega | rfl | simp only [RH]) only [↓RP, RG, FX, RQ, ↓reduceIte, Nat.reduceEqDiff, reduceCtorEq, Nat.reduceBEq, Nat.reduceAdd, Nat.reduceLeDiff, RA] <;> rfl) (.inl (by simp [allFresh, ints_fresh, bools_fresh])) ?_
      simp (disch := first | assumption | omega | rfl | simp only [RH]) only [↓RP, RG, FX, RQ, ↓reduceIte, Nat.reduceEqDiff, reduceCtorEq, Nat.reduceBEq, Nat.reduceAdd, Nat.reduceLeDiff]
      refine callK_F 6 hs (by simp (disch := first | assumption | omega | rfl | simp only [RH]) only [↓RP, RG, FX, RQ, ↓reduceIte, Nat.reduceEqDiff, reduceCtorEq, Nat.reduceBEq, Nat.reduceAdd, Nat.reduceLeDiff, RA] <;> rfl) (.inl rfl) ?_
      simp (disch := first | assumption | omega | rfl | simp only [RH]) only [↓RP, RG, FX, RQ, ↓reduceIte, Nat.reduceEqDiff, reduceCtorEq, Nat.reduceBEq, Nat.reduceAdd, Nat.reduceLeDiff]
      rw [resVal_3 rfl]; simp (disch := first | assumption | omega | rfl | simp only [RH]) only [↓RP, RG, FX, RQ, ↓reduceIte, Nat.reduceEqDiff, reduceCtorEq, Nat.reduceBEq, Nat.reduceAdd, Nat.reduceLeDiff, RS]
      first | done | rfl
  · rw [if_neg (fun h => c1 h.1)]
    refine Contract.intro (effS [] false) 6 follows Try.func7 rfl rfl (by kernel_rfl) (Nat.le_of_ble_eq_true rfl) ?_
    simp (disch := first | assumption | omega | rfl | simp only [RH]) only [↓RP, RG, FX, RQ, ↓reduceIte, Nat.reduceEqDiff, reduceCtorEq, Nat.reduceBEq, Nat.reduceAdd, Nat.reduceLeDiff, args0_2]
    refine callK_F 6 (hca) (by simp (disch := first | assumption | omega | rfl | simp only [RH]) only [↓RP, RG, FX, RQ, ↓reduceIte, Nat.reduceEqDiff, reduceCtorEq, Nat.reduceBEq, Nat.reduceAdd, Nat.reduceLeDiff, RA] <;> rfl) (.inl (by simp [allFresh, ints_fresh, bools_fresh])) ?_
    simp (disch := first | assumption | omega | rfl | simp only [RH]) only [↓RP, RG, FX, RQ, ↓reduceIte, Nat.reduceEqDiff, reduceCtorEq, Nat.reduceBEq, Nat.reduceAdd, Nat.reduceLeDiff]
    refine callK_F 6 (hcb) (by simp (disch := first | assumption | omega | rfl | simp only [RH]) only [↓RP, RG, FX, RQ, ↓reduceIte, Nat.reduceEqDiff, reduceCtorEq, Nat.reduceBEq, Nat.reduceAdd, Nat.reduceLeDiff, RA] <;> rfl) (.inl (by simp [allFresh, ints_fresh, bools_fresh])) ?_
    simp (disch := first | assumption | omega | rfl | simp only [RH]) only [↓RP, RG, FX, RQ, ↓reduceIte, Nat.reduceEqDiff, reduceCtorEq, Nat.reduceBEq, Nat.reduceAdd, Nat.reduceLeDiff]
    refine callK_F 6 (hua) (by simp (disch := first | assumption | omega | rfl | simp only [RH]) only [↓RP, RG, FX, RQ, ↓reduceIte, Nat.reduceEqDiff, reduceCtorEq, Nat.reduceBEq, Nat.reduceAdd, Nat.reduceLeDiff, RA] <;> rfl) (.inl (by simp [allFresh, ints_fresh, bools_fresh])) ?_
    simp (disch := first | assumption | omega | rfl | simp only [RH]) only [↓RP, RG, FX, RQ, ↓reduceIte, Nat.reduceEqDiff, reduceCtorEq, Nat.reduceBEq, Nat.reduceAdd, Nat.reduceLeDiff]
    refine callK_F 6 (hub) (by simp (disch := first | assumption | omega | rfl | simp only [RH]) only [↓RP, RG, FX, RQ, ↓reduceIte, Nat.reduceEqDiff, reduceCtorEq, Nat.reduceBEq, Nat.reduceAdd, Nat.reduceLeDiff, RA] <;> rfl) (.inl (by simp [allFresh, ints_fresh, bools_fresh])) ?_
    simp (disch := first | assumption | omega | rfl | simp only [RH]) only [↓RP, RG, FX, RQ, ↓reduceIte, Nat.reduceEqDiff, reduceCtorEq, Nat.reduceBEq, Nat.reduceAdd, Nat.reduceLeDiff]
    refine callK_F 6 h1 (by simp (disch := first | assumption | omega | rfl | simp only [RH]) only [↓RP, RG, FX, RQ, ↓reduceIte, Nat.reduceEqDiff, reduceCtorEq, Nat.reduceBEq, Nat.reduceAdd, Nat.reduceLeDiff, RA] <;> rfl) (.inl (by simp [allFresh, ints_fresh])) ?_
    simp (disch := first | assumption | omega | rfl | simp only [RH]) only [↓RP, RG, FX, RQ, ↓reduceIte, Nat.reduceEqDiff, reduceCtorEq, Nat.reduceBEq, Nat.reduceAdd, Nat.reduceLeDiff]
    refine callK_F 6 h2 (by simp (disch := first | assumption | omega | rfl | simp only [RH]) only [↓RP, RG, FX, RQ, ↓reduceIte, Nat.reduceEqDiff, reduceCtorEq, Nat.reduceBEq, Nat.reduceAdd, Nat.reduceLeDiff, RA] <;> rfl) (.inl (by simp [allFresh, ints_fresh])) ?_
    simp (disch := first | assumption | omega | rfl | simp only [RH]) only [↓RP, RG, FX, RQ, ↓reduceIte, Nat.reduceEqDiff, reduceCtorEq, Nat.reduceBEq, Nat.reduceAdd, Nat.reduceLeDiff]
    refine callK_F 6 hr (by simp (disch := first | assumption | omega | rfl | simp only [RH]) only [↓RP, RG, FX, RQ, ↓reduceIte, Nat.reduceEqDiff, reduceCtorEq, Nat.reduceBEq, Nat.reduceAdd, Nat.reduceLeDiff, RA] <;> rfl) (.inl (by simp [allFresh, ints_fresh, bools_fresh])) ?_
    simp (disch := first | assumption | omega | rfl | simp only [RH]) only [↓RP, RG, FX, RQ, ↓reduceIte, Nat.reduceEqDiff, reduceCtorEq, Nat.reduceBEq, Nat.reduceAdd, Nat.reduceLeDiff]
    rw [resVal_3 rfl]; simp (disch := first | assumption | omega | rfl | simp only [RH]) only [↓RP, RG, FX, RQ, ↓reduceIte, Nat.reduceEqDiff, reduceCtorEq, Nat.reduceBEq, Nat.reduceAdd, Nat.reduceLeDiff, RS]
    first | done | rfl
end
theorem mR_err1 {e : Int} (he : e ≠ 0) (hca : Contract Try.prog 14 [DA s t b1 th b2 td w h b3 l] (I e)) : Contract Try.prog 8 [DA s t b1 th b2 td w h b3 l, DA s' t' b1' th' b2' td' w' h' b3' l'] (.tuple [LR true [], LR true [], I e]) := by
  refine Contract.intro (effS [] false) 6 follows Try.func8 rfl rfl (by kernel_rfl) (Nat.le_of_ble_eq_true rfl) ?_
  simp (disch := first | assumption | omega | rfl | simp only [RH]) only [↓RP, RG, FX, RQ, ↓reduceIte, Nat.reduceEqDiff, reduceCtorEq, Nat.reduceBEq, Nat.reduceAdd, Nat.reduceLeDiff, args0_2]
  refine callK_F 6 (hca) (by simp (disch := first | assumption | omega | rfl | simp only [RH]) only [↓RP, RG, FX, RQ, ↓reduceIte, Nat.reduceEqDiff, reduceCtorEq, Nat.reduceBEq, Nat.reduceAdd, Nat.reduceLeDiff, RA] <;> rfl) (.inl (by simp [allFresh, ints_fresh, bools_fresh])) ?_
  simp (disch := first | assumption | omega | rfl | simp only [RH]) only [↓RP, RG, FX, RQ, ↓reduceIte, Nat.reduceEqDiff, reduceCtorEq, Nat.reduceBEq, Nat.reduceAdd, Nat.reduceLeDiff]
  refine callK_F 6 (hca) (by simp (disch := first | assumption | omega | rfl | simp only [RH]) only [↓RP, RG, FX, RQ, ↓reduceIte, Nat.reduceEqDiff, reduceCtorEq, Nat.reduceBEq, Nat.reduceAdd, Nat.reduceLeDiff, RA] <;> rfl) (.inl (by simp [allFresh, ints_fresh, bools_fresh])) ?_
  simp (disch := first | assumption | omega | rfl | simp only [RH]) only [↓RP, RG, FX, RQ, ↓reduceIte, Nat.reduceEqDiff, reduceCtorEq, Nat.reduceBEq, Nat.reduceAdd, Nat.reduceLeDiff]
  rw [resVal_3 rfl]; simp (disch := first | assumption | omega | rfl | simp only [RH]) only [↓RP, RG, FX, RQ, ↓reduceIte, Nat.reduceEqDiff, reduceCtorEq, Nat.reduceBEq, Nat.reduceAdd, Nat.reduceLeDiff, RS]
  first | done | rfl
theorem mR_err2 {e : Int} (he : e ≠ 0) (hca : Contract Try.prog 14 [DA s t b1 th b2 td w h b3 l] (I 0)) (hcb : Contract Try.prog 14 [DA s' t' b1' th' b2' td' w' h' b3' l'] (I e)) : Contract Try.prog 8 [DA s t b1 th b2 td w h b3 l, DA s' t' b1' th' b2' td' w' h' b3' l'] (.tuple [LR true [], LR true [], I e]) := by
  refine Contract.intro (effS [] false) 6 follows Try.func8 rfl rfl (by kernel_rfl) (Nat.le_of_ble_eq_true rfl) ?_
  simp (disch := first | assumption | omega | rfl | simp only [RH]) only [↓RP, RG, FX, RQ, ↓reduceIte, Nat.reduceEqDiff, reduceCtorEq, Nat.reduceBEq, Nat.reduceAdd, Nat.reduceLeDiff, args0_2]
  refine callK_F 6 (hca) (by simp (disch := first | assumption | omega | rfl | simp only [RH]) only [↓RP, RG, FX, RQ, ↓reduceIte, Nat.reduceEqDiff, reduceCtorEq, Nat.reduceBEq, Nat.reduceAdd, Nat.reduceLeDiff, RA] <;> rfl) (.inl (by simp [allFresh, ints_fresh, bools_fresh])) ?_
  simp (disch := first | assumption | omega | rfl | simp only [RH]) only [↓RP, RG, FX, RQ, ↓reduceIte, Nat.reduceEqDiff, reduceCtorEq, Nat.reduceBEq, Nat.reduceAdd, Nat.reduceLeDiff]
  refine callK_F 6 (hcb) (by simp (disch := first | assumption | omega | rfl | simp only [RH]) only [↓RP, RG, FX, RQ, ↓reduceIte, Nat.reduceEqDiff, reduceCtorEq, Nat.reduceBEq, Nat.reduceAdd, Nat.reduceLeDiff, RA] <;> rfl) (.inl (by simp [allFresh, ints_fresh, bools_fresh])) ?_
  simp (disch := first | assumption | omega | rfl | simp only [RH]) only [↓RP, RG, FX, RQ, ↓reduceIte, Nat.reduceEqDiff, reduceCtorEq, Nat.reduceBEq, Nat.reduceAdd, Nat.reduceLeDiff]
  refine callK_F 6 (hcb) (by simp (disch := first | assumption | omega | rfl | simp only [RH]) only [↓RP, RG, FX, RQ, ↓reduceIte, Nat.reduceEqDiff, reduceCtorEq, Nat.reduceBEq, Nat.reduceAdd, Nat.reduceLeDiff, RA] <;> rfl) (.inl (by simp [allFresh, ints_fresh, bools_fresh])) ?_
  simp (disch := first | assumption | omega | rfl | simp only [RH]) only [↓RP, RG, FX, RQ, ↓reduceIte, Nat.reduceEqDiff, reduceCtorEq, Nat.reduceBEq, Nat.reduceAdd, Nat.reduceLeDiff]
  rw [resVal_3 rfl]; simp (disch := first | assumption | omega | rfl | simp only [RH]) only [↓RP, RG, FX, RQ, ↓reduceIte, Nat.reduceEqDiff, reduceCtorEq, Nat.reduceBEq, Nat.reduceAdd, Nat.reduceLeDiff, RS]
  first | done | rfl
section
variable (hca : Contract Try.prog 14 [DA s t b1 th b2 td w h b3 l] (I 0)) (hcb : Contract Try.prog 14 [DA s' t' b1' th' b2' td' w' h' b3' l'] (I 0))
include hca hcb
theorem mR_use {u v : Bool} (hua : Contract Try.prog 17 [DA s t b1 th b2 td w h b3 l] (B u)) (hub : Contract Try.prog 17 [DA s' t' b1' th' b2' td' w' h' b3' l'] (B v)) (hn : ¬ (u = true ∧ v = true)) : Contract Try.prog 8 [DA s t b1 th b2 td w h b3 l, DA s' t' b1' th' b2' td' w' h' b3' l'] (.tuple [LR true [], LR true [], I 2]) := by
  cases u with
  | false =>
    refine Contract.intro (effS [] false) 6 follows Try.func8 rfl rfl (by kernel_rfl) (Nat.le_of_ble_eq_true rfl) ?_
    simp (disch := first | assumption | omega | rfl | simp only [RH]) only [↓RP, RG, FX, RQ, ↓reduceIte, Nat.reduceEqDiff, reduceCtorEq, Nat.reduceBEq, Nat.reduceAdd, Nat.reduceLeDiff, args0_2]
    refine callK_F 6 (hca) (by simp (disch := first | assumption | omega | rfl | simp only [RH]) only [↓RP, RG, FX, RQ, ↓reduceIte, Nat.reduceEqDiff, reduceCtorEq, Nat.reduceBEq, Nat.reduceAdd, Nat.reduceLeDiff, RA] <;> rfl) (.inl (by simp [allFresh, ints_fresh, bools_fresh])) ?_
    simp (disch := first | assumption | omega | rfl | simp only [RH]) only [↓RP, RG, FX, RQ, ↓reduceIte, Nat.reduceEqDiff, reduceCtorEq, Nat.reduceBEq, Nat.reduceAdd, Nat.reduceLeDiff]
    refine callK_F 6 (hcb) (by simp (disch := first | assumption | omega | rfl | simp only [RH]) only [↓RP, RG, FX, RQ, ↓reduceIte, Nat.reduceEqDiff, reduceCtorEq, Nat.reduceBEq, Nat.reduceAdd, Nat.reduceLeDiff, RA] <;> rfl) (.inl (by simp [allFresh, ints_fresh, bools_fresh])) ?_
    simp (disch := first | assumption | omega | rfl | simp only [RH]) only [↓RP, RG, FX, RQ, ↓reduceIte, Nat.reduceEqDiff, reduceCtorEq, Nat.reduceBEq, Nat.reduceAdd, Nat.reduceLeDiff]
    refine callK_F 6 (hua) (by simp (disch := first | assumption | omega | rfl | simp only [RH]) only [↓RP, RG, FX, RQ, ↓reduceIte, Nat.reduceEqDiff, reduceCtorEq, Nat.reduceBEq, Nat.reduceAdd, Nat.reduceLeDiff, RA] <;> rfl) (.inl (by simp [allFresh, ints_fresh, bools_fresh])) ?_
    simp (disch := first | assumption | omega | rfl | simp only [RH]) only [↓RP, RG, FX, RQ, ↓reduceIte, Nat.reduceEqDiff, reduceCtorEq, Nat.reduceBEq, Nat.reduceAdd, Nat.reduceLeDiff]
    rw [resVal_3 rfl]; simp (disch := first | assumption | omega | rfl | simp only [RH]) only [↓RP, RG, FX, RQ, ↓reduceIte, Nat.reduceEqDiff, reduceCtorEq, Nat.reduceBEq, Nat.reduceAdd, Nat.reduceLeDiff, RS]
    first | done | rfl
  | true =>
    obtain rfl : v = false := by cases v with | false => rfl | true => exact absurd ⟨rfl, rfl⟩ hn
    refine Contract.intro (effS [] false) 6 follows Try.func8 rfl rfl (by kernel_rfl) (Nat.le_of_ble_eq_true rfl) ?_
    simp (disch := first | assumption | omega | rfl | simp only [RH]) only [↓RP, RG, FX, RQ, ↓reduceIte, Nat.reduceEqDiff, reduceCtorEq, Nat.reduceBEq, Nat.reduceAdd, Nat.reduceLeDiff, args0_2]
    refine callK_F 6 (hca) (by simp (disch := first | assumption | omega | rfl | simp only [RH]) only [↓RP, RG, FX, RQ, ↓reduceIte, Nat.reduceEqDiff, reduceCtorEq, Nat.reduceBEq, Nat.reduceAdd, Nat.reduceLeDiff, RA] <;> rfl) (.inl (by simp [allFresh, ints_fresh, bools_fresh])) ?_
    simp (disch := first | assumption | omega | rfl | simp only [RH]) only [↓RP, RG, FX, RQ, ↓reduceIte, Nat.reduceEqDiff, reduceCtorEq, Nat.reduceBEq, Nat.reduceAdd, Nat.reduceLeDiff]
    refine callK_F 6 (hcb) (by simp (disch := first | assumption | omega | rfl | simp only [RH]) only [↓RP, RG, FX, RQ, ↓reduceIte, Nat.reduceEqDiff, reduceCtorEq, Nat.reduceBEq, Nat.reduceAdd, Nat.reduceLeDiff, RA] <;> rfl) (.inl (by simp [allFresh, ints_fresh, bools_fresh])) ?_
    simp (disch := first | assumption | omega | rfl | simp only [RH]) only [↓RP, RG, FX, RQ, ↓reduceIte, Nat.reduceEqDiff, reduceCtorEq, Nat.reduceBEq, Nat.reduceAdd, Nat.reduceLeDiff]
    refine callK_F 6 (hua) (by simp (disch := first | assumption | omega | rfl | simp only [RH]) only [↓RP, RG, FX, RQ, ↓reduceIte, Nat.reduceEqDiff, reduceCtorEq, Nat.reduceBEq, Nat.reduceAdd, Nat.reduceLeDiff, RA] <;> rfl) (.inl (by simp [allFresh, ints_fresh, bools_fresh])) ?_
    simp (disch := first | assumption | omega | rfl | simp only [RH]) only [↓RP, RG, FX, RQ, ↓reduceIte, Nat.reduceEqDiff, reduceCtorEq, Nat.reduceBEq, Nat.reduceAdd, Nat.reduceLeDiff]
    refine callK_F 6 (hub) (by simp (disch := first | assumption | omega | rfl | simp only [RH]) only [↓RP, RG, FX, RQ, ↓reduceIte, Nat.reduceEqDiff, reduceCtorEq, Nat.reduceBEq, Nat.reduceAdd, Nat.reduceLeDiff, RA] <;> rfl) (.inl (by simp [allFresh, ints_fresh, bools_fresh])) ?_
    simp (disch := first | assumption | omega | rfl | simp only [RH]) only [↓RP, RG, FX, RQ, ↓reduceIte, Nat.reduceEqDiff, reduceCtorEq, Nat.reduceBEq, Nat.reduceAdd, Nat.reduceLeDiff]
    rw [resVal_3 rfl]; simp (disch := first | assumption | omega | rfl | simp only [RH]) only [↓RP, RG, FX, RQ, ↓reduceIte, Nat.reduceEqDiff, reduceCtorEq, Nat.reduceBEq, Nat.reduceAdd, Nat.reduceLeDiff, RS]
    first | done | rfl
variable (hua : Contract Try.prog 17 [DA s t b1 th b2 td w h b3 l] (B true)) (hub : Contract Try.prog 17 [DA s' t' b1' th' b2' td' w' h' b3' l'] (B true))
include hua hub
theorem mR_none {n1 n2 : Bool} {m1 m2 : List Int} {e1 e2 : Int} (h1 : Contract Try.prog 21 [LA b1 th, LA b1' th'] (.tuple [LR n1 m1, I e1])) (h2 : Contract Try.prog 21 [LA b2 td, LA b2' td'] (.tuple [LR n2 m2, I e2])) (he : e1 ≠ 0 ∨ e2 ≠ 0) :
    Contract Try.prog 8 [DA s t b1 th b2 td w h b3 l, DA s' t' b1' th' b2' td' w' h' b3' l'] (.tuple [LR true [], LR true [], I 6]) := by
  by_cases c1 : e1 = 0
  · have c2 : e2 ≠ 0 := he.resolve_left (fun h => h c1)
    subst c1
    refine Contract.intro (effS [] false) 6 follows Try.func8 rfl rfl (by kernel_rfl) (Nat.le_of_ble_eq_true rfl) ?_
    simp (disch := first | assumption | omega | rfl | simp only [RH]) only [↓RP, RG, FX, RQ, ↓reduceIte, Nat.reduceEqDiff, reduceCtorEq, Nat.reduceBEq, Nat.reduceAdd, Nat.reduceLeDiff, args0_2]
    refine callK_F 6 (hca) (by simp (disch := first | assumption | omega | rfl | simp only [RH]) only [↓RP, RG, FX, RQ, ↓reduceIte, Nat.reduceEqDiff, reduceCtorEq, Nat.reduceBEq, Nat.reduceAdd, Nat.reduceLeDiff, RA] <;> rfl) (.inl (by simp [allFresh, ints_fresh, bools_fresh])) ?_
    simp (disch := first | assumption | omega | rfl | simp only [RH]) only [↓RP, RG, FX, RQ, ↓reduceIte, Nat.reduceEqDiff, reduceCtorEq, Nat.reduceBEq, Nat.reduceAdd, Nat.reduceLeDiff]
    refine callK_F 6 (hcb) (by simp (disch := first | assumption | omega | rfl | simp only [RH]) only [↓RP, RG, FX, RQ, ↓reduceIte, Nat.reduceEqDiff, reduceCtorEq, Nat.reduceBEq, Nat.reduceAdd, Nat.reduceLeDiff, RA] <;> rfl) (.inl (by simp [allFresh, ints_fresh, bools_fresh])) ?_
    simp (disch := first | assumption | omega | rfl | simp only [RH]) only [↓RP, RG, FX, RQ, ↓reduceIte, Nat.reduceEqDiff, reduceCtorEq, Nat.reduceBEq, Nat.reduceAdd, Nat.reduceLeDiff]
    refine callK_F 6 (hua) (by simp (disch := first | assumption | omega | rfl | simp only [RH]) only [↓RP, RG, FX, RQ, ↓reduceIte, Nat.reduceEqDiff, reduceCtorEq, Nat.reduceBEq, Nat.reduceAdd, Nat.reduceLeDiff, RA] <;> rfl) (.inl (by simp [allFresh, ints_fresh, bools_fresh])) ?_
    simp (disch := first | assumption | omega | rfl | simp only [RH]) only [↓RP, RG, FX, RQ, ↓reduceIte, Nat.reduceEqDiff, reduceCtorEq, Nat.reduceBEq, Nat.reduceAdd, Nat.reduceLeDiff]
    refine callK_F 6 (hub) (by simp (disch := first | assumption | omega | rfl | simp only [RH]) only [↓RP, RG, FX, RQ, ↓reduceIte, Nat.reduceEqDiff, reduceCtorEq, Nat.reduceBEq, Nat.reduceAdd, Nat.reduceLeDiff, RA] <;> rfl) (.inl (by simp [allFresh, ints_fresh, bools_fresh])) ?_
    simp (disch := first | assumption | omega | rfl | simp only [RH]) only [↓RP, RG, FX, RQ, ↓reduceIte, Nat.reduceEqDiff, reduceCtorEq, Nat.reduceBEq, Nat.reduceAdd, Nat.reduceLeDiff]
    refine callK_F 6 h1 (by simp (disch := first | assumption | omega | rfl | simp only [RH]) only [↓RP, RG, FX, RQ, ↓reduceIte, Nat.reduceEqDiff, reduceCtorEq, Nat.reduceBEq, Nat.reduceAdd, Nat.reduceLeDiff, RA] <;> rfl) (.inl (by simp [allFresh, ints_fresh])) ?_
    simp (disch := first | assumption | omega | rfl | simp only [RH]) only [↓RP, RG, FX, RQ, ↓reduceIte, Nat.reduceEqDiff, reduceCtorEq, Nat.reduceBEq, Nat.reduceAdd, Nat.reduceLeDiff]
    refine callK_F 6 h2 (by simp (disch := first | assumption | omega | rfl | simp only [RH]) only [↓RP, RG, FX, RQ, ↓reduceIte, Nat.reduceEqDiff, reduceCtorEq, Nat.reduceBEq, Nat.reduceAdd, Nat.reduceLeDiff, RA] <;> rfl) (.inl (by simp [allFresh, ints_fresh])) ?_
    simp (disch := first | assumption | omega | rfl | simp only [RH]) only [↓RP, RG, FX, RQ, ↓reduceIte, Nat.reduceEqDiff, reduceCtorEq, Nat.reduceBEq, Nat.reduceAdd, Nat.reduceLeDiff]
    rw [resVal_3 rfl]; simp (disch := first | assumption | omega | rfl | simp only [RH]) only [↓RP, RG, FX, RQ, ↓reduceIte, Nat.reduceEqDiff, reduceCtorEq, Nat.reduceBEq, Nat.reduceAdd, Nat.reduceLeDiff, RS]
    first | done | rfl
  · refine Contract.intro (effS [] false) 6 follows Try.func8 rfl rfl (by kernel_rfl) (Nat.le_of_ble_eq_true rfl) ?_
    simp (disch := first | assumption | omega | rfl | simp only [RH]) only [↓RP, RG, FX, RQ, ↓reduceIte, Nat.reduceEqDiff, reduceCtorEq, Nat.reduceBEq, Nat.reduceAdd, Nat.reduceLeDiff, args0_2]
    refine callK_F 6 (hca) (by simp (disch := first | assumption | omega | rfl | simp only [RH]) only [↓RP, RG, FX, RQ, ↓reduceIte, Nat.reduceEqDiff, reduceCtorEq, Nat.reduceBEq, Nat.reduceAdd, Nat.reduceLeDiff, RA] <;> rfl) (.inl (by simp [allFresh, ints_fresh, bools_fresh])) ?_
    simp (disch := first | assumption | omega | rfl | simp only [RH]) only [↓RP, RG, FX, RQ, ↓reduceIte, Nat.reduceEqDiff, reduceCtorEq, Nat.reduceBEq, Nat.reduceAdd, Nat.reduceLeDiff]
    refine callK_F 6 (hcb) (by simp (disch := first | assumption | omega | rfl | simp only [RH]) only [↓RP, RG, FX, RQ, ↓reduceIte, Nat.reduceEqDiff, reduceCtorEq, Nat.reduceBEq, Nat.reduceAdd, Nat.reduceLeDiff, RA] <;> rfl) (.inl (by simp [allFresh, ints_fresh, bools_fresh])) ?_
    simp (disch := first | assumption | omega | rfl | simp only [RH]) only [↓RP, RG, FX, RQ, ↓reduceIte, Nat.reduceEqDiff, reduceCtorEq, Nat.reduceBEq, Nat.reduceAdd, Nat.reduceLeDiff]
    refine callK_F 6 (hua) (by simp (disch := first | assumption | omega | rfl | simp only [RH]) only [↓RP, RG, FX, RQ, ↓reduceIte, Nat.reduceEqDiff, reduceCtorEq, Nat.reduceBEq, Nat.reduceAdd, Nat.reduceLeDiff, RA] <;> rfl) (.inl (by simp [allFresh, ints_fresh, bools_fresh])) ?_
    simp (disch := first | assumption | omega | rfl | simp only [RH]) only [↓RP, RG, FX, RQ, ↓reduceIte, Nat.reduceEqDiff, reduceCtorEq, Nat.reduceBEq, Nat.reduceAdd, Nat.reduceLeDiff]
    refine callK_F 6 (hub) (by simp (disch := first | assumption | omega | rfl | simp only [RH]) only [↓RP, RG, FX, RQ, ↓reduceIte, Nat.reduceEqDiff, reduceCtorEq, Nat.reduceBEq, Nat.reduceAdd, Nat.reduceLeDiff, RA] <;> rfl) (.inl (by simp [allFresh, ints_fresh, bools_fresh])) ?_
    simp (disch := first | assumption | omega | rfl | simp only [RH]) only [↓RP, RG, FX, RQ, ↓reduceIte, Nat.reduceEqDiff, reduceCtorEq, Nat.reduceBEq, Nat.reduceAdd, Nat.reduceLeDiff]
    refine callK_F 6 h1 (by simp (disch := first | assumption | omega | rfl | simp only [RH]) only [↓RP, RG, FX, RQ, ↓reduceIte, Nat.reduceEqDiff, reduceCtorEq, Nat.reduceBEq, Nat.reduceAdd, Nat.reduceLeDiff, RA] <;> rfl) (.inl (by simp [allFresh, ints_fresh])) ?_
    simp (disch := first | assumption | omega | rfl | simp only [RH]) only [↓RP, RG, FX, RQ, ↓reduceIte, Nat.reduceEqDiff, reduceCtorEq, Nat.reduceBEq, Nat.reduceAdd, Nat.reduceLeDiff]
    refine callK_F 6 h2 (by simp (disch := first | assumption | omega | rfl | simp only [RH]) only [↓RP, RG, FX, RQ, ↓reduceIte, Nat.reduceEqDiff, reduceCtorEq, Nat.reduceBEq, Nat.reduceAdd, Nat.reduceLeDiff, RA] <;> rfl) (.inl (by simp [allFresh, ints_fresh])) ?_
    simp (disch := first | assumption | omega | rfl | simp only [RH]) only [↓RP, RG, FX, RQ, ↓reduceIte, Nat.reduceEqDiff, reduceCtorEq, Nat.reduceBEq, Nat.reduceAdd, Nat.reduceLeDiff]
    rw [resVal_3 rfl]; simp (disch := first | assumption | omega | rfl | simp only [RH]) only [↓RP, RG, FX, RQ, ↓reduceIte, Nat.reduceEqDiff, reduceCtorEq, Nat.reduceBEq, Nat.reduceAdd, Nat.reduceLeDiff, RS]
    first | done | rfl
variable {n1 n2 : Bool} {m1 m2 : List Int} (h1 : Contract Try.prog 21 [LA b1 th, LA b1' th'] (.tuple [LR n1 m1, I 0])) (h2 : Contract Try.prog 21 [LA b2 td, LA b2' td'] (.tuple [LR n2 m2, I 0]))
include h1 h2
theorem mR_shafts (hne : s ≠ s' ∨ t ≠ t') : Contract Try.prog 8 [DA s t b1 th b2 td w h b3 l, DA s' t' b1' th' b2' td' w' h' b3' l'] (.tuple [LR true [], LR true [], I 6]) := by
  by_cases c1 : s = s'
  · have c2 : t ≠ t' := hne.resolve_left (fun h => h c1)
    subst c1
    refine Contract.intro (effS [] false) 6 follows Try.func8 rfl rfl (by kernel_rfl) (Nat.le_of_ble_eq_true rfl) ?_
    simp (disch := first | assumption | omega | rfl | simp only [RH]) only [↓RP, RG, FX, RQ, ↓reduceIte, Nat.reduceEqDiff, reduceCtorEq, Nat.reduceBEq, Nat.reduceAdd, Nat.reduceLeDiff, args0_2]
    refine callK_F 6 (hca) (by simp (disch := first | assumption | omega | rfl | simp only [RH]) only [↓RP, RG, FX, RQ, ↓reduceIte, Nat.reduceEqDiff, reduceCtorEq, Nat.reduceBEq, Nat.reduceAdd, Nat.reduceLeDiff, RA] <;> rfl) (.inl (by simp [allFresh, ints_fresh, bools_fresh])) ?_
    simp (disch := first | assumption | omega | rfl | simp only [RH]) only [↓RP, RG, FX, RQ, ↓reduceIte, Nat.reduceEqDiff, reduceCtorEq, Nat.reduceBEq, Nat.reduceAdd, Nat.reduceLeDiff]
    refine callK_F 6 (hcb) (by simp (disch := first | assumption | omega | rfl | simp only [RH]) only [↓RP, RG, FX, RQ, ↓reduceIte, Nat.reduceEqDiff, reduceCtorEq, Nat.reduceBEq, Nat.reduceAdd, Nat.reduceLeDiff, RA] <;> rfl) (.inl (by simp [allFresh, ints_fresh, bools_fresh])) ?_
    simp (disch := first | assumption | omega | rfl | simp only [RH]) only [↓RP, RG, FX, RQ, ↓reduceIte, Nat.reduceEqDiff, reduceCtorEq, Nat.reduceBEq, Nat.reduceAdd, Nat.reduceLeDiff]
    refine callK_F 6 (hua) (by simp (disch := first | assumption | omega | rfl | simp only [RH]) only [↓RP, RG, FX, RQ, ↓reduceIte, Nat.reduceEqDiff, reduceCtorEq, Nat.reduceBEq, Nat.reduceAdd, Nat.reduceLeDiff, RA] <;> rfl) (.inl (by simp [allFresh, ints_fresh, bools_fresh])) ?_
    simp (disch := first | assumption | omega | rfl | simp only [RH]) only [↓RP, RG, FX, RQ, ↓reduceIte, Nat.reduceEqDiff, reduceCtorEq, Nat.reduceBEq, Nat.reduceAdd, Nat.reduceLeDiff]
    refine callK_F 6 (hub) (by simp (disch := first | assumption | omega | rfl | simp only [RH]) only [↓RP, RG, FX, RQ, ↓reduceIte, Nat.reduceEqDiff, reduceCtorEq, Nat.reduceBEq, Nat.reduceAdd, Nat.reduceLeDiff, RA] <;> rfl) (.inl (by simp [allFresh, ints_fresh, bools_fresh])) ?_
    simp (disch := first | assumption | omega | rfl | simp only [RH]) only [↓RP, RG, FX, RQ, ↓reduceIte, Nat.reduceEqDiff, reduceCtorEq, Nat.reduceBEq, Nat.reduceAdd, Nat.reduceLeDiff]
    refine callK_F 6 h1 (by simp (disch := first | assumption | omega | rfl | simp only [RH]) only [↓RP, RG, FX, RQ, ↓reduceIte, Nat.reduceEqDiff, reduceCtorEq, Nat.reduceBEq, Nat.reduceAdd, Nat.reduceLeDiff, RA] <;> rfl) (.inl (by simp [allFresh, ints_fresh])) ?_
    simp (disch := first | assumption | omega | rfl | simp only [RH]) only [↓RP, RG, FX, RQ, ↓reduceIte, Nat.reduceEqDiff, reduceCtorEq, Nat.reduceBEq, Nat.reduceAdd, Nat.reduceLeDiff]
    refine callK_F 6 h2 (by simp (disch := first | assumption | omega | rfl | simp only [RH]) only [↓RP, RG, FX, RQ, ↓reduceIte, Nat.reduceEqDiff, reduceCtorEq, Nat.reduceBEq, Nat.reduceAdd, Nat.reduceLeDiff, RA] <;> rfl) (.inl (by simp [allFresh, ints_fresh])) ?_
    simp (disch := first | assumption | omega | rfl | simp only [RH]) only [↓RP, RG, FX, RQ, ↓reduceIte, Nat.reduceEqDiff, reduceCtorEq, Nat.reduceBEq, Nat.reduceAdd, Nat.reduceLeDiff]
    rw [resVal_3 rfl]; simp (disch := first | assumption | omega | rfl | simp only [RH]) only [↓RP, RG, FX, RQ, ↓reduceIte, Nat.reduceEqDiff, reduceCtorEq, Nat.reduceBEq, Nat.reduceAdd, Nat.reduceLeDiff, RS]
    first | done | rfl
  · skip
    refine Contract.intro (effS [] false) 6 follows Try.func8 rfl rfl (by kernel_rfl) (Nat.le_of_ble_eq_true rfl) ?_
    simp (disch := first | assumption | omega | rfl | simp only [RH]) only [↓RP, RG, FX, RQ, ↓reduceIte, Nat.reduceEqDiff, reduceCtorEq, Nat.reduceBEq, Nat.reduceAdd, Nat.reduceLeDiff, args0_2]
    refine callK_F 6 (hca) (by simp (disch := first | assumption | omega | rfl | simp only [RH]) only [↓RP, RG, FX, RQ, ↓reduceIte, Nat.reduceEqDiff, reduceCtorEq, Nat.reduceBEq, Nat.reduceAdd, Nat.reduceLeDiff, RA] <;> rfl) (.inl (by simp [allFresh, ints_fresh, bools_fresh])) ?_
    simp (disch := first | assumption | omega | rfl | simp only [RH]) only [↓RP, RG, FX, RQ, ↓reduceIte, Nat.reduceEqDiff, reduceCtorEq, Nat.reduceBEq, Nat.reduceAdd, Nat.reduceLeDiff]
    refine callK_F 6 (hcb) (by simp (disch := first | assumption | omega | rfl | simp only [RH]) only [↓RP, RG, FX, RQ, ↓reduceIte, Nat.reduceEqDiff, reduceCtorEq, Nat.reduceBEq, Nat.reduceAdd, Nat.reduceLeDiff, RA] <;> rfl) (.inl (by simp [allFresh, ints_fresh, bools_fresh])) ?_
    simp (disch := first | assumption | omega | rfl | simp only [RH]) only [↓RP, RG, FX, RQ, ↓reduceIte, Nat.reduceEqDiff, reduceCtorEq, Nat.reduceBEq, Nat.reduceAdd, Nat.reduceLeDiff]
    refine callK_F 6 (hua) (by simp (disch := first | assumption | omega | rfl | simp only [RH]) only [↓RP, RG, FX, RQ, ↓reduceIte, Nat.reduceEqDiff, reduceCtorEq, Nat.reduceBEq, Nat.reduceAdd, Nat.reduceLeDiff, RA] <;> rfl) (.inl (by simp [allFresh, ints_fresh, bools_fresh])) ?_
    simp (disch := first | assumption | omega | rfl | simp only [RH]) only [↓RP, RG, FX, RQ, ↓reduceIte, Nat.reduceEqDiff, reduceCtorEq, Nat.reduceBEq, Nat.reduceAdd, Nat.reduceLeDiff]
    refine callK_F 6 (hub) (by simp (disch := first | assumption | omega | rfl | simp only [RH]) only [↓RP, RG, FX, RQ, ↓reduceIte, Nat.reduceEqDiff, reduceCtorEq, Nat.reduceBEq, Nat.reduceAdd, Nat.reduceLeDiff, RA] <;> rfl) (.inl (by simp [allFresh, ints_fresh, bools_fresh])) ?_
    simp (disch := first | assumption | omega | rfl | simp only [RH]) only [↓RP, RG, FX, RQ, ↓reduceIte, Nat.reduceEqDiff, reduceCtorEq, Nat.reduceBEq, Nat.reduceAdd, Nat.reduceLeDiff]
    refine callK_F 6 h1 (by simp (disch := first | assumption | omega | rfl | simp only [RH]) only [↓RP, RG, FX, RQ, ↓reduceIte, Nat.reduceEqDiff, reduceCtorEq, Nat.reduceBEq, Nat.reduceAdd, Nat.reduceLeDiff, RA] <;> rfl) (.inl (by simp [allFresh, ints_fresh])) ?_
    simp (disch := first | assumption | omega | rfl | simp only [RH]) only [↓RP, RG, FX, RQ, ↓reduceIte, Nat.reduceEqDiff, reduceCtorEq, Nat.reduceBEq, Nat.reduceAdd, Nat.reduceLeDiff]
    refine callK_F 6 h2 (by simp (disch := first | assumption | omega | rfl | simp only [RH]) only [↓RP, RG, FX, RQ, ↓reduceIte, Nat.reduceEqDiff, reduceCtorEq, Nat.reduceBEq, Nat.reduceAdd, Nat.reduceLeDiff, RA] <;> rfl) (.inl (by simp [allFresh, ints_fresh])) ?_
    simp (disch := first | assumption | omega | rfl | simp only [RH]) only [↓RP, RG, FX, RQ, ↓reduceIte, Nat.reduceEqDiff, reduceCtorEq, Nat.reduceBEq, Nat.reduceAdd, Nat.reduceLeDiff]
    rw [resVal_3 rfl]; simp (disch := first | assumption | omega | rfl | simp only [RH]) only [↓RP, RG, FX, RQ, ↓reduceIte, Nat.reduceEqDiff, reduceCtorEq, Nat.reduceBEq, Nat.reduceAdd, Nat.reduceLeDiff, RS]
    first | done | rfl
theorem mR_ren (hs1 : s' = s) (ht1 : t' = t) {s2 t2 : Int} {c1 : Bool} {th2 : List Int} {c2 : Bool} {td2 : List Int} {w2 h2' : Int} {c3 : Bool} {l2 : List Bool} {e : Int} {r : Bool} (hr : Contract Try.prog 22 [DA s t b1 th b2 td w h b3 l, LA n1 m1, LA n2 m2] (.tuple [DR s2 t2 c1 th2 c2 td2 w2 h2' c3 l2, I e]))
    (hs : Contract Try.prog 23 [DA s2 t2 c1 th2 c2 td2 w2 h2' c3 l2, DA s' t' b1' th' b2' td' w' h' b3' l'] (B r)) :
    Contract Try.prog 8 [DA s t b1 th b2 td w h b3 l, DA s' t' b1' th' b2' td' w' h' b3' l'] (.tuple (if e = 0 ∧ r = true then [LR n1 m1, LR n2 m2, I 0] else [LR true [], LR true [], I 6])) := by
  subst hs1; subst ht1
  by_cases c1 : e = 0
  · subst c1
    cases r with
    | true =>
      rw [if_pos ⟨rfl, rfl⟩]
      refine Contract.intro (effS [] false) 6 follows Try.func8 rfl rfl (by kernel_rfl) (Nat.le_of_ble_eq_true rfl) ?_
      simp (disch := first | assumption | omega | rfl | simp only [RH]) only [↓RP, RG, FX, RQ, ↓reduceIte, Nat.reduceEqDiff, reduceCtorEq, Nat.reduceBEq, Nat.reduceAdd, Nat.reduceLeDiff, args0_2]
      refine callK_F 6 (hca) (by simp (disch := first | assumption | omega | rfl | simp only [RH]) only [↓RP, RG, FX, RQ, ↓reduceIte, Nat.reduceEqDiff, reduceCtorEq, Nat.reduceBEq, Nat.reduceAdd, Nat.reduceLeDiff, RA] <;> rfl) (.inl (by simp [allFresh, ints_fresh, bools_fresh])) ?_
      simp (disch := first | assumption | omega | rfl | simp only [RH]) only [↓RP, RG, FX, RQ, ↓reduceIte, Nat.reduceEqDiff, reduceCtorEq, Nat.reduceBEq, Nat.reduceAdd, Nat.reduceLeDiff]
      refine callK_F 6 (hcb) (by simp (disch := first | assumption | omega | rfl | simp only [RH]) only [↓RP, RG, FX, RQ, ↓reduceIte, Nat.reduceEqDiff, reduceCtorEq, Nat.reduceBEq, Nat.reduceAdd, Nat.reduceLeDiff, RA] <;> rfl) (.inl (by simp [allFresh, ints_fresh, bools_fresh])) ?_
      simp (disch := first | assumption | omega | rfl | simp only [RH]) only [↓RP, RG, FX, RQ, ↓reduceIte, Nat.reduceEqDiff, reduceCtorEq, Nat.reduceBEq, Nat.reduceAdd, Nat.reduceLeDiff]
      refine callK_F 6 (hua) (by simp (disch := first | assumption | omega | rfl | simp only [RH]) only [↓RP, RG, FX, RQ, ↓reduceIte, Nat.reduceEqDiff, reduceCtorEq, Nat.reduceBEq, Nat.reduceAdd, Nat.reduceLeDiff, RA] <;> rfl) (.inl (by simp [allFresh, ints_fresh, bools_fresh])) ?_
      simp (disch := first | assumption | omega | rfl | simp only [RH]) only [↓RP, RG, FX, RQ, ↓reduceIte, Nat.reduceEqDiff, reduceCtorEq, Nat.reduceBEq, Nat.reduceAdd, Nat.reduceLeDiff]
      refine callK_F 6 (hub) (by simp (disch := first | assumption | omega | rfl | simp only [RH]) only [↓RP, RG, FX, RQ, ↓reduceIte, Nat.reduceEqDiff, reduceCtorEq, Nat.reduceBEq, Nat.reduceAdd, Nat.reduceLeDiff, RA] <;> rfl) (.inl (by simp [allFresh, ints_fresh, bools_fresh])) ?_
      simp (disch := first | assumption | omega | rfl | simp only [RH]) only [↓RP, RG, FX, RQ, ↓reduceIte, Nat.reduceEqDiff, reduceCtorEq, Nat.reduceBEq, Nat.reduceAdd, Nat.reduceLeDiff]
      refine callK_F 6 h1 (by simp (disch := first | assumption | omega | rfl | simp only [RH]) only [↓RP, RG, FX, RQ, ↓reduceIte, Nat.reduceEqDiff, reduceCtorEq, Nat.reduceBEq, Nat.reduceAdd, Nat.reduceLeDiff, RA] <;> rfl) (.inl (by simp [allFresh, ints_fresh])) ?_
      simp (disch := first | assumption | omega | rfl | simp only [RH]) only [↓RP, RG, FX, RQ, ↓reduceIte, Nat.reduceEqDiff, reduceCtorEq, Nat.reduceBEq, Nat.reduceAdd, Nat.reduceLeDiff]
      refine callK_F 6 h2 (by simp (disch := first | assumption | omega | rfl | simp only [RH]) only [↓RP, RG, FX, RQ, ↓reduceIte, Nat.reduceEqDiff, reduceCtorEq, Nat.reduceBEq, Nat.reduceAdd, Nat.reduceLeDiff, RA] <;> rfl) (.inl (by simp [allFresh, ints_fresh])) ?_
      simp (disch := first | assumption | omega | rfl | simp only [RH]) only [↓RP, RG, FX, RQ, ↓reduceIte, Nat.reduceEqDiff, reduceCtorEq, Nat.reduceBEq, Nat.reduceAdd, Nat.reduceLeDiff]
      refine callK_F 6 hr (by simp (disch := first | assumption | omega | rfl | simp only [RH]) only [↓RP, RG, FX, RQ, ↓reduceIte, Nat.reduceEqDiff, reduceCtorEq, Nat.reduceBEq, Nat.reduceAdd, Nat.reduceLeDiff, RA] <;> rfl) (.inl (by simp [allFresh, ints_fresh, bools_fresh])) ?_
      simp (disch := first | assumption | omega | rfl | simp only [RH]) only [↓RP, RG, FX, RQ, ↓reduceIte, Nat.reduceEqDiff, reduceCtorEq, Nat.reduceBEq, Nat.reduceAdd, Nat.reduceLeDiff]
      refine callK_F 6 hs (by simp (disch := first | assumption | omega | rfl | simp only [RH]) only [↓RP, RG, FX, RQ, ↓reduceIte, Nat.reduceEqDiff, reduceCtorEq, Nat.reduceBEq, Nat.reduceAdd, Nat.reduceLeDiff, RA] <;> rfl) (.inl rfl) ?_
      simp (disch := first | assumption | omega | rfl | simp only [RH]) only [↓RP, RG, FX, RQ, ↓reduceIte, Nat.reduceEqDiff, reduceCtorEq, Nat.reduceBEq, Nat.reduceAdd, Nat.reduceLeDiff]
      rw [resVal_3 rfl]; simp (disch := first | assumption | omega | rfl | simp only [RH]) only [↓RP, RG, FX, RQ, ↓reduceIte, Nat.reduceEqDiff, reduceCtorEq, Nat.reduceBEq, Nat.reduceAdd, Nat.reduceLeDiff, RS]
      first | done | rfl
    | false =>
      rw [if_neg (fun h => by cases h.2)]
      refine Contract.intro (effS [] false) 6 follows Try.func8 rfl rfl (by kernel_rfl) (Nat.le_of_ble_eq_true rfl) ?_
      simp (disch := first | assumption | omega | rfl | simp only [RH]) only [↓RP, RG, FX, RQ, ↓reduceIte, Nat.reduceEqDiff, reduceCtorEq, Nat.reduceBEq, Nat.reduceAdd, Nat.reduceLeDiff, args0_2]
      refine callK_F 6 (hca) (by simp (disch := first | assumption | omega | rfl | simp only [RH]) only [↓RP, RG, FX, RQ, ↓reduceIte, Nat.reduceEqDiff, reduceCtorEq, Nat.reduceBEq, Nat.reduceAdd, Nat.reduceLeDiff, RA] <;> rfl) (.inl (by simp [allFresh, ints_fresh, bools_fresh])) ?_
      simp (disch := first | assumption | omega | rfl | simp only [RH]) only [↓RP, RG, FX, RQ, ↓reduceIte, Nat.reduceEqDiff, reduceCtorEq, Nat.reduceBEq, Nat.reduceAdd, Nat.reduceLeDiff]
      refine callK_F 6 (hcb) (by simp (disch := first | assumption | omega | rfl | simp only [RH]) only [↓RP, RG, FX, RQ, ↓reduceIte, Nat.reduceEqDiff, reduceCtorEq, Nat.reduceBEq, Nat.reduceAdd, Nat.reduceLeDiff, RA] <;> rfl) (.inl (by simp [allFresh, ints_fresh, bools_fresh])) ?_
      simp (disch := first | assumption | omega | rfl | simp only [RH]) only [↓RP, RG, FX, RQ, ↓reduceIte, Nat.reduceEqDiff, reduceCtorEq, Nat.reduceBEq, Nat.reduceAdd, Nat.reduceLeDiff]
      refine callK_F 6 (hua) (by simp (disch := first | assumption | omega | rfl | simp only [RH]) only [↓RP, RG, FX, RQ, ↓reduceIte, Nat.reduceEqDiff, reduceCtorEq, Nat.reduceBEq, Nat.reduceAdd, Nat.reduceLeDiff, RA] <;> rfl) (.inl (by simp [allFresh, ints_fresh, bools_fresh])) ?_
      simp (disch := first | assumption | omega | rfl | simp only [RH]) only [↓RP, RG, FX, RQ, ↓reduceIte, Nat.reduceEqDiff, reduceCtorEq, Nat.reduceBEq, Nat.reduceAdd, Nat.reduceLeDiff]
      refine callK_F 6 (hub) (by simp (disch := first | assumption | omega | rfl | simp only [RH]) only [↓RP, RG, FX, RQ, ↓reduceIte, Nat.reduceEqDiff, reduceCtorEq, Nat.reduceBEq, Nat.reduceAdd, Nat.reduceLeDiff, RA] <;> rfl) (.inl (by simp [allFresh, ints_fresh, bools_fresh])) ?_
      simp (disch := first | assumption | omega | rfl | simp only [RH]) only [↓RP, RG, FX, RQ, ↓reduceIte, Nat.reduceEqDiff, reduceCtorEq, Nat.reduceBEq, Nat.reduceAdd, Nat.reduceLeDiff]
      refine callK_F 6 h1 (by simp (disch := first | assumption | omega | rfl | simp only [RH]) only [↓RP, RG, FX, RQ, ↓reduceIte, Nat.reduceEqDiff, reduceCtorEq, Nat.reduceBEq, Nat.reduceAdd, Nat.reduceLeDiff, RA] <;> rfl) (.inl (by simp [allFresh, ints_fresh])) ?_
      simp (disch := first | assumption | omega | rfl | simp only [RH]) only [↓RP, RG, FX, RQ, ↓reduceIte, Nat.reduceEqDiff, reduceCtorEq, Nat.reduceBEq, Nat.reduceAdd, Nat.reduceLeDiff]
      refine callK_F 6 h2 (by simp (disch := first | assumption | omega | rfl | simp only [RH]) only [↓RP, RG, FX, RQ, ↓reduceIte, Nat.reduceEqDiff, reduceCtorEq, Nat.reduceBEq, Nat.reduceAdd, Nat.reduceLeDiff, RA] <;> rfl) (.inl (by simp [allFresh, ints_fresh])) ?_
      simp (disch := first | assumption | omega | rfl | simp only [RH]) only [↓RP, RG, FX, RQ, ↓reduceIte, Nat.reduceEqDiff, reduceCtorEq, Nat.reduceBEq, Nat.reduceAdd, Nat.reduceLeDiff]
      refine callK_F 6 hr (by simp (disch := first | assumption | omega | rfl | simp only [RH]) only [↓RP, RG, FX, RQ, ↓reduceIte, Nat.reduceEqDiff, reduceCtorEq, Nat.reduceBEq, Nat.reduceAdd, Nat.reduceLeDiff, RA] <;> rfl) (.inl (by simp [allFresh, ints_fresh, bools_fresh])) ?_
      simp (disch := first | assumption | omega | rfl | simp only [RH]) only [↓RP, RG, FX, RQ, ↓reduceIte, Nat.reduceEqDiff, reduceCtorEq, Nat.reduceBEq, Nat.reduceAdd, Nat.reduceLeDiff]
      refine callK_F 6 hs (by simp (disch := first | assumption | omega | rfl | simp only [RH]) only [↓RP, RG, FX, RQ, ↓reduceIte, Nat.reduceEqDiff, reduceCtorEq, Nat.reduceBEq, Nat.reduceAdd, Nat.reduceLeDiff, RA] <;> rfl) (.inl rfl) ?_
      simp (disch := first | assumption | omega | rfl | simp only [RH]) only [↓RP, RG, FX, RQ, ↓reduceIte, Nat.reduceEqDiff, reduceCtorEq, Nat.reduceBEq, Nat.reduceAdd, Nat.reduceLeDiff]
      rw [resVal_3 rfl]; simp (disch := first | assumption | omega | rfl | simp only [RH]) only [↓RP, RG, FX, RQ, ↓reduceIte, Nat.reduceEqDiff, reduceCtorEq, Nat.reduceBEq, Nat.reduceAdd, Nat.reduceLeDiff, RS]
      first | done | rfl
  · rw [if_neg (fun h => c1 h.1)]
    refine Contract.intro (effS [] false) 6 follows Try.func8 rfl rfl (by kernel_rfl) (Nat.le_of_ble_eq_true rfl) ?_
    simp (disch := first | assumption | omega | rfl | simp only [RH]) only [↓RP, RG, FX, RQ, ↓reduceIte, Nat.reduceEqDiff, reduceCtorEq, Nat.reduceBEq, Nat.reduceAdd, Nat.reduceLeDiff, args0_2]
    refine callK_F 6 (hca) (by simp (disch := first | assumption | omega | rfl | simp only [RH]) only [↓RP, RG, FX, RQ, ↓reduceIte, Nat.reduceEqDiff, reduceCtorEq, Nat.reduceBEq, Nat.reduceAdd, Nat.reduceLeDiff, RA] <;> rfl) (.inl (by simp [allFresh, ints_fresh, bools_fresh])) ?_
    simp (disch := first | assumption | omega | rfl | simp only [RH]) only [↓RP, RG, FX, RQ, ↓reduceIte, Nat.reduceEqDiff, reduceCtorEq, Nat.reduceBEq, Nat.reduceAdd, Nat.reduceLeDiff]
    refine callK_F 6 (hcb) (by simp (disch := first | assumption | omega | rfl | simp only [RH]) only [↓RP, RG, FX, RQ, ↓reduceIte, Nat.reduceEqDiff, reduceCtorEq, Nat.reduceBEq, Nat.reduceAdd, Nat.reduceLeDiff, RA] <;> rfl) (.inl (by simp [allFresh, ints_fresh, bools_fresh])) ?_
    simp (disch := first | assumption | omega | rfl | simp only [RH]) only [↓RP, RG, FX, RQ, ↓reduceIte, Nat.reduceEqDiff, reduceCtorEq, Nat.reduceBEq, Nat.reduceAdd, Nat.reduceLeDiff]
    refine callK_F 6 (hua) (by simp (disch := first | assumption | omega | rfl | simp only [RH]) only [↓RP, RG, FX, RQ, ↓reduceIte, Nat.reduceEqDiff, reduceCtorEq, Nat.reduceBEq, Nat.reduceAdd, Nat.reduceLeDiff, RA] <;> rfl) (.inl (by simp [allFresh, ints_fresh, bools_fresh])) ?_
    simp (disch := first | assumption | omega | rfl | simp only [RH]) only [↓RP, RG, FX, RQ, ↓reduceIte, Nat.reduceEqDiff, reduceCtorEq, Nat.reduceBEq, Nat.reduceAdd, Nat.reduceLeDiff]
    refine callK_F 6 (hub) (by simp (disch := first | assumption | omega | rfl | simp only [RH]) only [↓RP, RG, FX, RQ, ↓reduceIte, Nat.reduceEqDiff, reduceCtorEq, Nat.reduceBEq, Nat.reduceAdd, Nat.reduceLeDiff, RA] <;> rfl) (.inl (by simp [allFresh, ints_fresh, bools_fresh])) ?_
    simp (disch := first | assumption | omega | rfl | simp only [RH]) only [↓RP, RG, FX, RQ, ↓reduceIte, Nat.reduceEqDiff, reduceCtorEq, Nat.reduceBEq, Nat.reduceAdd, Nat.reduceLeDiff]
    refine callK_F 6 h1 (by simp (disch := first | assumption | omega | rfl | simp only [RH]) only [↓RP, RG, FX, RQ, ↓reduceIte, Nat.reduceEqDiff, reduceCtorEq, Nat.reduceBEq, Nat.reduceAdd, Nat.reduceLeDiff, RA] <;> rfl) (.inl (by simp [allFresh, ints_fresh])) ?_
    simp (disch := first | assumption | omega | rfl | simp only [RH]) only [↓RP, RG, FX, RQ, ↓reduceIte, Nat.reduceEqDiff, reduceCtorEq, Nat.reduceBEq, Nat.reduceAdd, Nat.reduceLeDiff]
    refine callK_F 6 h2 (by simp (disch := first | assumption | omega | rfl | simp only [RH]) only [↓RP, RG, FX, RQ, ↓reduceIte, Nat.reduceEqDiff, reduceCtorEq, Nat.reduceBEq, Nat.reduceAdd, Nat.reduceLeDiff, RA] <;> rfl) (.inl (by simp [allFresh, ints_fresh])) ?_
    simp (disch := first | assumption | omega | rfl | simp only [RH]) only [↓RP, RG, FX, RQ, ↓reduceIte, Nat.reduceEqDiff, reduceCtorEq, Nat.reduceBEq, Nat.reduceAdd, Nat.reduceLeDiff]
    refine callK_F 6 hr (by simp (disch := first | assumption | omega | rfl | simp only [RH]) only [↓RP, RG, FX, RQ, ↓reduceIte, Nat.reduceEqDiff, reduceCtorEq, Nat.reduceBEq, Nat.reduceAdd, Nat.reduceLeDiff, RA] <;> rfl) (.inl (by simp [allFresh, ints_fresh, bools_fresh])) ?_
    simp (disch := first | assumption | omega | rfl | simp only [RH]) only [↓RP, RG, FX, RQ, ↓reduceIte, Nat.reduceEqDiff, reduceCtorEq, Nat.reduceBEq, Nat.reduceAdd, Nat.reduceLeDiff]
    rw [resVal_3 rfl]; simp (disch := first | assumption | omega | rfl | simp only [RH]) only [↓RP, RG, FX, RQ, ↓reduceIte, Nat.reduceEqDiff, reduceCtorEq, Nat.reduceBEq, Nat.reduceAdd, Nat.reduceLeDiff, RS]
    first | done | rfl
end
end
end Go.Proofs.Ytbhkhaaifielkaa

/- Both match drafts alike: the law FactorMatches. -/
set_option linter.unusedSimpArgs false
set_option linter.unusedVariables false
set_option maxRecDepth 100000
namespace Go.Proofs.Ytbhkhaaifielkaa
open Go Go.Proofs Go.AW

/-- Both match lists alike. -/
theorem tm_both {a b : List Int} (b1 b2 : Bool) (ha : thV a) (hb : thV b) (h0 : 0 < a.length) : ∃ (nb : Bool) (m : List Int) (e : Int), m.length ≤ 400 ∧
    Contract Try.prog 18 [LA b1 a, LA b2 b] (.tuple [LR nb m, I e]) ∧ Contract Try.prog 21 [LA b1 a, LA b2 b] (.tuple [LR nb m, I e]) := by
  by_cases hl : a.length = b.length
  rotate_left
  · exact ⟨true, [], 2, by simp, matchP_len b1 b2 ha hb hl, matchR_len b1 b2 ha hb hl⟩
  obtain ⟨jm, hjm, hme⟩ := mxl_mem a (a.length - 1)
  have hmb := ha.2 jm (by omega)
  obtain ⟨N, hN⟩ : ∃ N : Nat, (N : Int) = mxl a (a.length - 1) + 1 := ⟨(mxl a (a.length - 1) + 1).toNat, by omega⟩
  by_cases hp : pairs a b a.length
  · exact ⟨false, mtO a b N a.length, 0, by rw [mtO_len]; omega, matchP_c b1 b2 ha hb hl h0 hN 0 _ _ (fun _ => ⟨rfl, rfl, rfl⟩) (fun h => absurd hp h), matchR_c b1 b2 ha hb hl h0 hN 0 _ _ (fun _ => ⟨rfl, rfl, rfl⟩) (fun h => absurd hp h)⟩
  · exact ⟨true, [], 6, by simp, matchP_c b1 b2 ha hb hl h0 hN 6 _ _ (fun h => absurd h hp) (fun _ => ⟨rfl, rfl, rfl⟩), matchR_c b1 b2 ha hb hl h0 hN 6 _ _ (fun h => absurd h hp) (fun _ => ⟨rfl, rfl, rfl⟩)⟩
section
variable (s t : Int) (b1 : Bool) (th : List Int) (b2 : Bool) (td : List Int) (w h : Int) (b3 : Bool) (l : List Bool) (s' t' : Int) (b1' : Bool) (th' : List Int) (b2' : Bool) (td' : List Int) (w' h' : Int) (b3' : Bool) (l' : List Bool)
theorem least4_both (g : ¬ dGreat th td l) : ∃ (r : Bool) (e : Int), Contract Try.prog 5 [DA s t b1 th b2 td w h b3 l] (.tuple [B r, I e]) ∧ Contract Try.prog 6 [DA s t b1 th b2 td w h b3 l] (.tuple [B r, I e]) := by
  have g0 := g
  unfold dGreat at g0
  by_cases hd : dOk s t th td w h l.length
  · have hr : ∃ r : Bool, r = true ↔ lst4 s t th td l := by
      by_cases hx : lst4 s t th td l
      · exact ⟨true, by simp [hx]⟩
      · exact ⟨false, by simp [hx]⟩
    obtain ⟨r, hr⟩ := hr
    exact ⟨r, 0, leastP_ok b1 b2 b3 hd r hr, leastR_ok b1 b2 b3 hd r hr⟩
  · have hz : dchk s t th td w h l.length ≠ 0 := fun hz => hd (dchk_iff.1 hz)
    exact ⟨false, _, leastP_err hz (dcheckP_c s t b1 th b2 td w h b3 l (by omega) (by omega)), leastR_err hz (dcheckR_c s t b1 th b2 td w h b3 l (by omega) (by omega))⟩
theorem matchD_both (g : ¬ dGreat th td l) (g' : ¬ dGreat th' td' l') : ∃ (n1 : Bool) (m1 : List Int) (n2 : Bool) (m2 : List Int) (e : Int), m1.length ≤ 400 ∧ m2.length ≤ 400 ∧
    Contract Try.prog 7 [DA s t b1 th b2 td w h b3 l, DA s' t' b1' th' b2' td' w' h' b3' l'] (.tuple [LR n1 m1, LR n2 m2, I e]) ∧
    Contract Try.prog 8 [DA s t b1 th b2 td w h b3 l, DA s' t' b1' th' b2' td' w' h' b3' l'] (.tuple [LR n1 m1, LR n2 m2, I e]) := by
  have g0 := g
  have g0' := g'
  unfold dGreat at g0 g0'
  have hca := dcheckP_c s t b1 th b2 td w h b3 l (by omega) (by omega)
  have hra := dcheckR_c s t b1 th b2 td w h b3 l (by omega) (by omega)
  have hcb := dcheckP_c s' t' b1' th' b2' td' w' h' b3' l' (by omega) (by omega)
  have hrb := dcheckR_c s' t' b1' th' b2' td' w' h' b3' l' (by omega) (by omega)
  by_cases hd : dOk s t th td w h l.length
  rotate_left
  · have hz : dchk s t th td w h l.length ≠ 0 := fun hz => hd (dchk_iff.1 hz)
    exact ⟨_, [], _, [], _, by simp, by simp, mP_err1 hz hca, mR_err1 hz hra⟩
  rw [dchk_ok hd] at hca hra
  by_cases hd' : dOk s' t' th' td' w' h' l'.length
  rotate_left
  · have hz : dchk s' t' th' td' w' h' l'.length ≠ 0 := fun hz => hd' (dchk_iff.1 hz)
    exact ⟨_, [], _, [], _, by simp, by simp, mP_err2 hz hca hcb, mR_err2 hz hra hrb⟩
  rw [dchk_ok hd'] at hcb hrb
  have v1 := thV_of hd.2.2.2.2.1 (by have := hd.2.2.1; omega) (by have := hd.1; omega)
  have v2 := thV_of hd.2.2.2.2.2.1 (by have := hd.2.2.2.1; omega) (by have := hd.2.1; omega)
  have v1' := thV_of hd'.2.2.2.2.1 (by have := hd'.2.2.1; omega) (by have := hd'.1; omega)
  have v2' := thV_of hd'.2.2.2.2.2.1 (by have := hd'.2.2.2.1; omega) (by have := hd'.2.1; omega)
  have p1 := hd.2.2.2.2.1.1
  have p2 := hd.2.2.2.2.2.1.1
  have p1' := hd'.2.2.2.2.1.1
  have p2' := hd'.2.2.2.2.2.1.1
  have hua := usesP_c s t b1 b2 w h b3 l v1 v2 p1 p2
  have hub := usesP_c s' t' b1' b2' w' h' b3' l' v1' v2' p1' p2'
  have kua := usesR_c s t b1 b2 w h b3 l (th := th) (td := td) (by omega) (by omega)
  have kub := usesR_c s' t' b1' b2' w' h' b3' l' (th := th') (td := td') (by omega) (by omega)
  by_cases hu : ((nK th : Int) = s ∧ (nK td : Int) = t) ∧ ((nK th' : Int) = s' ∧ (nK td' : Int) = t')
  rotate_left
  · have hu' : ¬ (decide ((nK th : Int) = s ∧ (nK td : Int) = t) = true ∧ decide ((nK th' : Int) = s' ∧ (nK td' : Int) = t') = true) := by
      rw [decide_eq_true_iff, decide_eq_true_iff]; exact hu
    exact ⟨_, [], _, [], _, by simp, by simp, mP_use hca hcb hua hub hu', mR_use hra hrb kua kub hu'⟩
  rw [decide_eq_true hu.1] at hua kua
  rw [decide_eq_true hu.2] at hub kub
  obtain ⟨n1, m1, e1, q1, t1, t2⟩ := tm_both b1 b1' v1 v1' p1
  obtain ⟨n2, m2, e2, q2, t3, t4⟩ := tm_both b2 b2' v2 v2' p2
  by_cases he : e1 ≠ 0 ∨ e2 ≠ 0
  · exact ⟨_, [], _, [], _, by simp, by simp, mP_none hca hcb hua hub t1 t3 he, mR_none hra hrb kua kub t2 t4 he⟩
  obtain rfl : e1 = 0 := by omega
  obtain rfl : e2 = 0 := by omega
  have hs := wIn_pos hd.2.2.2.2.1
  have ht := wIn_pos hd.2.2.2.2.2.1
  have d1 := hd.1
  have d2 := hd.2.1
  obtain ⟨S, rfl⟩ : ∃ S : Nat, s = S := ⟨s.toNat, by omega⟩
  obtain ⟨T, rfl⟩ : ∃ T : Nat, t = T := ⟨t.toNat, by omega⟩
  have q : T * S ≤ 64 * 64 := Nat.mul_le_mul (by omega) (by omega)
  by_cases h1 : (m1.length = S ∧ once m1 S S) ∧ (m2.length = T ∧ once m2 T T)
  · obtain ⟨⟨c1, o1⟩, c2, o2⟩ := h1
    have rP := renP_ok b1 b2 b3 hd n1 n2 c1 c2 o1 o2
    have rR := renR_ok b1 b2 b3 hd n1 n2 c1 c2 o1 o2
    have sP := dsameP_c S T false (mapd th m1 th.length) false (mapd td m2 td.length) T S false (tabN T (uN T l (invL m1 S S) (invL m2 T T)) (T * S)) s' t' b1' th' b2' td' w' h' b3' l' (by rw [mapd_len]; omega) (by rw [mapd_len]; omega) (by rw [tabN_len]; omega)
    have sR := dsameR_c S T false (mapd th m1 th.length) false (mapd td m2 td.length) T S false (tabN T (uN T l (invL m1 S S) (invL m2 T T)) (T * S)) s' t' b1' th' b2' td' w' h' b3' l' (by rw [mapd_len]; omega) (by rw [mapd_len]; omega) (by rw [tabN_len]; omega)
    have kP := mP_ren hca hcb hua hub t1 t3 rP sP
    by_cases hne : (S : Int) ≠ s' ∨ (T : Int) ≠ t'
    · rw [if_neg (fun hx => by
        have := of_decide_eq_true hx.2
        obtain ⟨x1, x2, _⟩ := this
        rcases hne with hne | hne
        · exact hne x1
        · exact hne x2)] at kP
      exact ⟨_, [], _, [], _, by simp, by simp, kP, mR_shafts hra hrb kua kub t2 t4 hne⟩
    · have kR := mR_ren hra hrb kua kub t2 t4 (by omega) (by omega) rR sR
      by_cases hx : (0 : Int) = 0 ∧ decide (dEq S T (mapd th m1 th.length) (mapd td m2 td.length) T S (tabN T (uN T l (invL m1 S S) (invL m2 T T)) (T * S)) s' t' th' td' w' h' l') = true
      · rw [if_pos hx] at kP kR
        exact ⟨n1, m1, n2, m2, 0, q1, q2, kP, kR⟩
      · rw [if_neg hx] at kP kR
        exact ⟨_, [], _, [], _, by simp, by simp, kP, kR⟩
  · have rP := renP_no b1 b2 b3 hd n1 n2 (by omega) (by omega) h1
    have rR := renR_no b1 b2 b3 hd n1 n2 (by omega) (by omega) h1
    have sP := dsameP_c 0 0 true [] true [] 0 0 true [] s' t' b1' th' b2' td' w' h' b3' l' (by simp) (by simp) (by simp)
    have sR := dsameR_c 0 0 true [] true [] 0 0 true [] s' t' b1' th' b2' td' w' h' b3' l' (by simp) (by simp) (by simp)
    have kP := mP_ren hca hcb hua hub t1 t3 rP sP
    rw [if_neg (fun hx => by cases hx.1)] at kP
    by_cases hne : (S : Int) ≠ s' ∨ (T : Int) ≠ t'
    · exact ⟨_, [], _, [], _, by simp, by simp, kP, mR_shafts hra hrb kua kub t2 t4 hne⟩
    · have kR := mR_ren hra hrb kua kub t2 t4 (by omega) (by omega) rR sR
      rw [if_neg (fun hx => by cases hx.1)] at kR
      exact ⟨_, [], _, [], _, by simp, by simp, kP, kR⟩
theorem factorMatches_c : Contract Try.prog 3 [DA s t b1 th b2 td w h b3 l, DA s' t' b1' th' b2' td' w' h' b3' l'] (B true) := by
  have hg := great03_c s t b1 th b2 td w h b3 l
  have hg' := great03_c s' t' b1' th' b2' td' w' h' b3' l'
  by_cases g : dGreat th td l
  · rw [decide_eq_true g] at hg
    refine Contract.intro (effS [] false) 6 follows Try.func3 rfl rfl (by kernel_rfl) (Nat.le_of_ble_eq_true rfl) ?_
    simp (disch := first | assumption | omega | rfl | simp only [RH]) only [↓RP, RG, FX, RQ, ↓reduceIte, Nat.reduceEqDiff, reduceCtorEq, Nat.reduceBEq, Nat.reduceAdd, Nat.reduceLeDiff, args0_2]
    refine callK_F 6 (hg) (by simp (disch := first | assumption | omega | rfl | simp only [RH]) only [↓RP, RG, FX, RQ, ↓reduceIte, Nat.reduceEqDiff, reduceCtorEq, Nat.reduceBEq, Nat.reduceAdd, Nat.reduceLeDiff, RA] <;> rfl) (.inl (by simp [allFresh, ints_fresh, bools_fresh])) ?_
    simp (disch := first | assumption | omega | rfl | simp only [RH]) only [↓RP, RG, FX, RQ, ↓reduceIte, Nat.reduceEqDiff, reduceCtorEq, Nat.reduceBEq, Nat.reduceAdd, Nat.reduceLeDiff]
    rw [resVal_1 rfl]; simp (disch := first | assumption | omega | rfl | simp only [RH]) only [↓RP, RG, FX, RQ, ↓reduceIte, Nat.reduceEqDiff, reduceCtorEq, Nat.reduceBEq, Nat.reduceAdd, Nat.reduceLeDiff, RS]
  rw [decide_eq_false g] at hg
  by_cases g' : dGreat th' td' l'
  · rw [decide_eq_true g'] at hg'
    refine Contract.intro (effS [] false) 6 follows Try.func3 rfl rfl (by kernel_rfl) (Nat.le_of_ble_eq_true rfl) ?_
    simp (disch := first | assumption | omega | rfl | simp only [RH]) only [↓RP, RG, FX, RQ, ↓reduceIte, Nat.reduceEqDiff, reduceCtorEq, Nat.reduceBEq, Nat.reduceAdd, Nat.reduceLeDiff, args0_2]
    refine callK_F 6 (hg) (by simp (disch := first | assumption | omega | rfl | simp only [RH]) only [↓RP, RG, FX, RQ, ↓reduceIte, Nat.reduceEqDiff, reduceCtorEq, Nat.reduceBEq, Nat.reduceAdd, Nat.reduceLeDiff, RA] <;> rfl) (.inl (by simp [allFresh, ints_fresh, bools_fresh])) ?_
    simp (disch := first | assumption | omega | rfl | simp only [RH]) only [↓RP, RG, FX, RQ, ↓reduceIte, Nat.reduceEqDiff, reduceCtorEq, Nat.reduceBEq, Nat.reduceAdd, Nat.reduceLeDiff]
    refine callK_F 6 (hg') (by simp (disch := first | assumption | omega | rfl | simp only [RH]) only [↓RP, RG, FX, RQ, ↓reduceIte, Nat.reduceEqDiff, reduceCtorEq, Nat.reduceBEq, Nat.reduceAdd, Nat.reduceLeDiff, RA] <;> rfl) (.inl (by simp [allFresh, ints_fresh, bools_fresh])) ?_
    simp (disch := first | assumption | omega | rfl | simp only [RH]) only [↓RP, RG, FX, RQ, ↓reduceIte, Nat.reduceEqDiff, reduceCtorEq, Nat.reduceBEq, Nat.reduceAdd, Nat.reduceLeDiff]
    rw [resVal_1 rfl]; simp (disch := first | assumption | omega | rfl | simp only [RH]) only [↓RP, RG, FX, RQ, ↓reduceIte, Nat.reduceEqDiff, reduceCtorEq, Nat.reduceBEq, Nat.reduceAdd, Nat.reduceLeDiff, RS]
  rw [decide_eq_false g'] at hg'
  obtain ⟨r, e, k1, k2⟩ := least4_both s t b1 th b2 td w h b3 l g
  obtain ⟨n1, m1, n2, m2, e2, q1, q2, k3, k4⟩ := matchD_both s t b1 th b2 td w h b3 l s' t' b1' th' b2' td' w' h' b3' l' g g'
  have s1 := same02_c n1 n1 m1 m1 (by omega)
  have s2 := same02_c n2 n2 m2 m2 (by omega)
  rw [decide_eq_true rfl] at s1 s2
  refine Contract.intro (effS [] false) 6 follows Try.func3 rfl rfl (by kernel_rfl) (Nat.le_of_ble_eq_true rfl) ?_
  simp (disch := first | assumption | omega | rfl | simp only [RH]) only [↓RP, RG, FX, RQ, ↓reduceIte, Nat.reduceEqDiff, reduceCtorEq, Nat.reduceBEq, Nat.reduceAdd, Nat.reduceLeDiff, args0_2]
  refine callK_F 6 (hg) (by simp (disch := first | assumption | omega | rfl | simp only [RH]) only [↓RP, RG, FX, RQ, ↓reduceIte, Nat.reduceEqDiff, reduceCtorEq, Nat.reduceBEq, Nat.reduceAdd, Nat.reduceLeDiff, RA] <;> rfl) (.inl (by simp [allFresh, ints_fresh, bools_fresh])) ?_
  simp (disch := first | assumption | omega | rfl | simp only [RH]) only [↓RP, RG, FX, RQ, ↓reduceIte, Nat.reduceEqDiff, reduceCtorEq, Nat.reduceBEq, Nat.reduceAdd, Nat.reduceLeDiff]
  refine callK_F 6 (hg') (by simp (disch := first | assumption | omega | rfl | simp only [RH]) only [↓RP, RG, FX, RQ, ↓reduceIte, Nat.reduceEqDiff, reduceCtorEq, Nat.reduceBEq, Nat.reduceAdd, Nat.reduceLeDiff, RA] <;> rfl) (.inl (by simp [allFresh, ints_fresh, bools_fresh])) ?_
  simp (disch := first | assumption | omega | rfl | simp only [RH]) only [↓RP, RG, FX, RQ, ↓reduceIte, Nat.reduceEqDiff, reduceCtorEq, Nat.reduceBEq, Nat.reduceAdd, Nat.reduceLeDiff]
  refine callK_F 6 (k1) (by simp (disch := first | assumption | omega | rfl | simp only [RH]) only [↓RP, RG, FX, RQ, ↓reduceIte, Nat.reduceEqDiff, reduceCtorEq, Nat.reduceBEq, Nat.reduceAdd, Nat.reduceLeDiff, RA] <;> rfl) (.inl (by simp [allFresh, ints_fresh, bools_fresh])) ?_
  simp (disch := first | assumption | omega | rfl | simp only [RH]) only [↓RP, RG, FX, RQ, ↓reduceIte, Nat.reduceEqDiff, reduceCtorEq, Nat.reduceBEq, Nat.reduceAdd, Nat.reduceLeDiff]
  refine callK_F 6 (k2) (by simp (disch := first | assumption | omega | rfl | simp only [RH]) only [↓RP, RG, FX, RQ, ↓reduceIte, Nat.reduceEqDiff, reduceCtorEq, Nat.reduceBEq, Nat.reduceAdd, Nat.reduceLeDiff, RA] <;> rfl) (.inl (by simp [allFresh, ints_fresh, bools_fresh])) ?_
  simp (disch := first | assumption | omega | rfl | simp only [RH]) only [↓RP, RG, FX, RQ, ↓reduceIte, Nat.reduceEqDiff, reduceCtorEq, Nat.reduceBEq, Nat.reduceAdd, Nat.reduceLeDiff]
  refine callK_F 6 k3 (by simp (disch := first | assumption | omega | rfl | simp only [RH]) only [↓RP, RG, FX, RQ, ↓reduceIte, Nat.reduceEqDiff, reduceCtorEq, Nat.reduceBEq, Nat.reduceAdd, Nat.reduceLeDiff, RA] <;> rfl) (.inl (by simp [allFresh, ints_fresh])) ?_
  simp (disch := first | assumption | omega | rfl | simp only [RH]) only [↓RP, RG, FX, RQ, ↓reduceIte, Nat.reduceEqDiff, reduceCtorEq, Nat.reduceBEq, Nat.reduceAdd, Nat.reduceLeDiff]
  refine callK_F 6 k4 (by simp (disch := first | assumption | omega | rfl | simp only [RH]) only [↓RP, RG, FX, RQ, ↓reduceIte, Nat.reduceEqDiff, reduceCtorEq, Nat.reduceBEq, Nat.reduceAdd, Nat.reduceLeDiff, RA] <;> rfl) (.inl (by simp [allFresh, ints_fresh])) ?_
  simp (disch := first | assumption | omega | rfl | simp only [RH]) only [↓RP, RG, FX, RQ, ↓reduceIte, Nat.reduceEqDiff, reduceCtorEq, Nat.reduceBEq, Nat.reduceAdd, Nat.reduceLeDiff, beq_self_eq_true]
  refine callK_F 6 s1 (by simp (disch := first | assumption | omega | rfl | simp only [RH]) only [↓RP, RG, FX, RQ, ↓reduceIte, Nat.reduceEqDiff, reduceCtorEq, Nat.reduceBEq, Nat.reduceAdd, Nat.reduceLeDiff, RA] <;> rfl) (.inl rfl) ?_
  simp (disch := first | assumption | omega | rfl | simp only [RH]) only [↓RP, RG, FX, RQ, ↓reduceIte, Nat.reduceEqDiff, reduceCtorEq, Nat.reduceBEq, Nat.reduceAdd, Nat.reduceLeDiff, beq_self_eq_true]
  refine callK_F 6 s2 (by simp (disch := first | assumption | omega | rfl | simp only [RH]) only [↓RP, RG, FX, RQ, ↓reduceIte, Nat.reduceEqDiff, reduceCtorEq, Nat.reduceBEq, Nat.reduceAdd, Nat.reduceLeDiff, RA] <;> rfl) (.inl rfl) ?_
  simp (disch := first | assumption | omega | rfl | simp only [RH]) only [↓RP, RG, FX, RQ, ↓reduceIte, Nat.reduceEqDiff, reduceCtorEq, Nat.reduceBEq, Nat.reduceAdd, Nat.reduceLeDiff, beq_self_eq_true]
  rw [resVal_1 rfl]; simp (disch := first | assumption | omega | rfl | simp only [RH]) only [↓RP, RG, FX, RQ, ↓reduceIte, Nat.reduceEqDiff, reduceCtorEq, Nat.reduceBEq, Nat.reduceAdd, Nat.reduceLeDiff, RS]
end
end Go.Proofs.Ytbhkhaaifielkaa
