/- Part 2 of the proof's own texts: the contracts of functions, and what they rest on. -/
import Derived.Test.YtgjjdcoeleddaaaDoorJ1
/- The law FloatCovers. (Written by wip/dev/gen27.py.) -/
set_option linter.unusedSimpArgs false
set_option linter.unusedVariables false
set_option maxRecDepth 100000
namespace Go.Proofs.YtgjjdcoeleddaaaDoor
open Go Go.Proofs Go.AW

theorem Bool.eq_false_of_ne {x : Bool} (h : x ≠ true) : x = false := by cases x with | false => rfl | true => exact absurd rfl h
theorem Bool.eq_true_of_ne {x : Bool} (h : x ≠ false) : x = true := by cases x with | true => rfl | false => exact absurd rfl h
/-- What is known of a float, by its thread. -/
def FFx (W H : Nat) (l : List Bool) (c w z : Bool) (x : Fl) : Prop :=
  x.a < (if w then W else H) ∧ x.f < (if w then H else W) ∧ 1 ≤ x.n ∧ x.n ≤ (if w then H else W) ∧ (z = decide (x.n = if w then H else W)) ∧ (z = true → x.f = 0) ∧ (∀ k, k < x.n → (if w then faC W H l x.a else faR W l x.a).getD ((x.f + k) % (if w then H else W)) false = c)
    ∧ (z = false → (if w then faC W H l x.a else faR W l x.a).getD ((x.f + ((if w then H else W) - 1)) % (if w then H else W)) false ≠ c ∧ (if w then faC W H l x.a else faR W l x.a).getD ((x.f + x.n) % (if w then H else W)) false ≠ c)
theorem al_facts {W H : Nat} (hW0 : 0 < W) (hH0 : 0 < H) {l : List Bool} {c : Bool} : ∀ x ∈ alK W H l c (W + H), FFx W H l c x.w x.z x := by
  intro x hx
  unfold FFx
  rcases alK_mem.1 hx with ⟨a, ha, h⟩ | ⟨a, ha, h⟩
  · obtain ⟨h1, h2, h3, h4, h5, h6, h7, h8, h9⟩ := thF_facts (by rw [faC_len]; exact hH0) h
    rw [faC_len] at h3 h5 h6 h8 h9
    simp only [h1, if_true, h2]
    exact ⟨ha, h3, h4, h5, h6, h7, h8, h9⟩
  · obtain ⟨h1, h2, h3, h4, h5, h6, h7, h8, h9⟩ := thF_facts (by rw [faR_len]; exact hW0) h
    rw [faR_len] at h3 h5 h6 h8 h9
    simp only [h1, if_false, Bool.false_eq_true, h2]
    exact ⟨ha, h3, h4, h5, h6, h7, h8, h9⟩
section
variable {W H : Nat} (hW0 : 0 < W) (hH0 : 0 < H) (hW : W ≤ 64) (hH : H ≤ 64) (b : Bool) {l : List Bool} (hn : l.length = W * H) (hl : l.length ≤ 600)
include hW0 hH0 hW hH hn hl
set_option maxHeartbeats 8000000 in
theorem covers_c : Contract Tryd.prog 3 [GA W H b l] (B true) := by
  have hv := valid8_c W H b l
  rw [decide_eq_false (show ¬ 600 < (l.length : Int) by omega), decide_eq_true (show gchk W H l.length = 0 from gchk_ok ⟨by omega, by omega, by omega, by omega, by rw [hn, Int.natCast_mul]⟩)] at hv
  have q1t := listA_c hW0 hH0 hW hH b hn true
  have q1f := listA_c hW0 hH0 hW hH b hn false
  have k1t := alK_len hW0 hH0 hW hH l true (W + H)
  have k1f := alK_len hW0 hH0 hW hH l false (W + H)
  have hft := al_facts hW0 hH0 (l := l) (c := true)
  have hff := al_facts hW0 hH0 (l := l) (c := false)
  have p1 := countP_c hW0 hH0 hW hH b hn
  have hall := fun i (hi : i < W * H) => count_all hW0 hH0 l hi
  obtain ⟨hh1, hh2⟩ := nw_halves W H l
  have hwh := wh_le hW0 hH0 l
  have hWH0 : 0 < W * H := Nat.mul_pos hW0 hH0
  simp only [if_true, if_false, Bool.false_eq_true] at q1t q1f
  replace k1t : (alK W H l true (W + H)).length ≤ 8192 := by omega
  replace k1f : (alK W H l false (W + H)).length ≤ 8192 := by omega
  generalize alK W H l true (W + H) = xt at *
  generalize alK W H l false (W + H) = xf at *
  have hn64t : ∀ x ∈ xt, x.n ≤ 64 := fun x hx => by have := (hft x hx).2.2.2.1; split at this <;> omega
  have hn64f : ∀ x ∈ xf, x.n ≤ 64 := fun x hx => by have := (hff x hx).2.2.2.1; split at this <;> omega
  have hd0 : ∀ x y : AVal, (List.drop (Int.toNat 0) [x, y])[0]? = some x := fun _ _ => rfl
  have hd1 : ∀ x y : AVal, (List.drop (Int.toNat 1) [x, y])[0]? = some y := fun _ _ => rfl
  have t0 : Int.toNat 0 = 0 := rfl
  have t5 : Int.toNat 1 = 1 := rfl
  have t1 : (true == true) = true := rfl
  have t2 : (true == false) = false := rfl
  have t3 : (false == true) = false := rfl
  have t4 : (false == false) = true := rfl
  obtain ⟨nt, hnt⟩ : ∃ nt : Nat, (xt.filter fun x => !x.z).length = nt := ⟨_, rfl⟩
  obtain ⟨nf, hnf⟩ : ∃ nf : Nat, (xf.filter fun x => !x.z).length = nf := ⟨_, rfl⟩
  have hntl : nt ≤ 8192 := by rw [← hnt]; exact Nat.le_trans (List.length_filter_le _ _) k1t
  have hnfl : nf ≤ 8192 := by rw [← hnf]; exact Nat.le_trans (List.length_filter_le _ _) k1f
  rw [hnt, hnf] at hh1 hh2
  obtain ⟨dn, hdn0, hdn1, hdn2⟩ : ∃ dn : Nat → List Fl, dn 0 = [] ∧ dn 1 = xt ∧ dn 2 = xt ++ xf := ⟨fun z => if z = 0 then [] else if z = 1 then xt else xt ++ xf, rfl, rfl, rfl⟩
  obtain ⟨n0, hc00, hc01, hc02⟩ : ∃ n0 : Nat → Nat, n0 0 = 0 ∧ n0 1 = nt ∧ n0 2 = nt := ⟨fun z => if z = 0 then 0 else nt, rfl, rfl, rfl⟩
  obtain ⟨n1, hc10, hc11, hc12⟩ : ∃ n1 : Nat → Nat, n1 0 = 0 ∧ n1 1 = 0 ∧ n1 2 = nf := ⟨fun z => if z = 2 then nf else 0, rfl, rfl, rfl⟩
  refine Contract.intro (effS [] false [] [] [1, 24, 25, 28, 29] (fun i => !(i == 0))) 6 follows Tryd.func3 rfl rfl (by kernel_rfl) (Nat.le_of_ble_eq_true rfl) ?_
  simp (disch := first | assumption | omega | rfl | simp only [RH]) only [↓RP, RG, FX, RQ, ↓reduceIte, Nat.reduceEqDiff, reduceCtorEq, Nat.reduceBEq, Nat.reduceAdd, Nat.reduceLeDiff, args0_1]
  refine callK_F 6 (hv) (by simp (disch := first | assumption | omega | rfl | simp only [RH]) only [↓RP, RG, FX, RQ, ↓reduceIte, Nat.reduceEqDiff, reduceCtorEq, Nat.reduceBEq, Nat.reduceAdd, Nat.reduceLeDiff, RA] <;> rfl) (.inl (by simp [allFresh, ints_fresh, bools_fresh])) ?_
  simp (disch := first | assumption | omega | rfl | simp only [RH]) only [↓RP, RG, FX, RQ, ↓reduceIte, Nat.reduceEqDiff, reduceCtorEq, Nat.reduceBEq, Nat.reduceAdd, Nat.reduceLeDiff, make_int, hn, Int.toNat_natCast]
  refine loopK_I [1, 3, 4, 5, 6, 7] (fun z : Nat => z ≤ 2) (fun z => ⟨[(1, .ptr 0 0 3), (3, .ref 1 0 (W * H) (W * H)), (4, .ref 2 0 (W * H) (W * H)), (5, .ptr 3 0 2), (6, I ((dn z).filter fun x => x.z).length), (7, I z)], [(⟨24, 3, [I W, I H, BA b l]⟩ : AObj), ⟨3, 1, ints (cnI (W * H) ((dn z).flatMap (gE W H)))⟩, ⟨3, 1, ints (cnI (W * H) ((dn z).flatMap (gP W)))⟩, ⟨28, 2, [I (n0 z), I (n1 z)]⟩]⟩) (fun z => 2 - z) 0 (by omega) (by simp only [↓RP, RG, FX, RQ, ↓reduceIte, Nat.reduceEqDiff, reduceCtorEq, Nat.reduceBEq, Nat.reduceAdd, Nat.reduceLeDiff]; simp [hdn0, hc00, hc10, cnI_nil]) ?_
  intro z hz2
  rcases (show z = 0 ∨ z = 1 ∨ z = 2 by omega) with rfl | rfl | rfl
  · rw [hdn0, hc00, hc10]
    obtain ⟨xs, hxs⟩ : ∃ xs, xt = xs := ⟨_, rfl⟩
    obtain ⟨dE, hdE⟩ : ∃ dE, ([] : List Nat) = dE := ⟨_, rfl⟩
    obtain ⟨dP, hdP⟩ : ∃ dP, ([] : List Nat) = dP := ⟨_, rfl⟩
    obtain ⟨wd, hwd⟩ : ∃ wd : Nat, 0 = wd := ⟨_, rfl⟩
    have q1 := q1t
    have hfac := hft
    have hxl : xs.length ≤ 8192 := by rw [← hxs]; exact k1t
    have hdEl : dE.length ≤ 600000 := by rw [← hdE]; simp
    have hdPl : dP.length ≤ 600000 := by rw [← hdP]; simp
    have hwdl : wd ≤ 8192 := by rw [← hwd]; omega
    have hn64 : ∀ x ∈ xs, x.n ≤ 64 := by rw [← hxs]; exact hn64t
    rw [hxs] at q1 hfac
    have hEl : ∀ i, dE.length + ((xs.take i).flatMap (gE W H)).length ≤ 1200000 := fun i => by
      have h5 := fm_len (g := gE W H) (m := 64) (xs := xs.take i) fun x hx => Nat.le_trans (gE_len W H x) (hn64 x (List.mem_of_mem_take hx))
      rw [List.length_take] at h5
      have h6 : min i xs.length * 64 ≤ 8192 * 64 := Nat.mul_le_mul_right _ (by omega)
      omega
    have hPl : ∀ i, dP.length + ((xs.take i).flatMap (gP W)).length ≤ 1200000 := fun i => by
      have h5 := fm_len (g := gP W) (m := 64) (xs := xs.take i) fun x hx => Nat.le_trans (gP_len W x) (hn64 x (List.mem_of_mem_take hx))
      rw [List.length_take] at h5
      have h6 : min i xs.length * 64 ≤ 8192 * 64 := Nat.mul_le_mul_right _ (by omega)
      omega
    simp (disch := first | assumption | omega | rfl | simp only [RH]) only [↓RP, RG, FX, RQ, ↓reduceIte, Nat.reduceEqDiff, reduceCtorEq, Nat.reduceBEq, Nat.reduceAdd, Nat.reduceLeDiff, flV]
    refine callK_F 6 q1 (by simp (disch := first | assumption | omega | rfl | simp only [RH]) only [↓RP, RG, FX, RQ, ↓reduceIte, Nat.reduceEqDiff, reduceCtorEq, Nat.reduceBEq, Nat.reduceAdd, Nat.reduceLeDiff, RA] <;> rfl) (.inl (flV_fresh _ _)) ?_
    simp (disch := first | assumption | omega | rfl | simp only [RH]) only [↓RP, RG, FX, RQ, ↓reduceIte, Nat.reduceEqDiff, reduceCtorEq, Nat.reduceBEq, Nat.reduceAdd, Nat.reduceLeDiff, flV]
    refine loopK_WW [1, 3, 4, 5, 6, 7, 8, 10] (fun i : Nat => i ≤ xs.length) (fun i => ⟨[(1, .ptr 0 0 3), (3, .ref 1 0 (W * H) (W * H)), (4, .ref 2 0 (W * H) (W * H)), (5, .ptr 3 0 2), (6, I ((wd + ((xs.take i).filter fun x => x.z).length : Nat) : Int)), (7, I 0), (8, flV true xs), (10, I i)], [(⟨24, 3, [I W, I H, BA b l]⟩ : AObj), ⟨3, 1, ints (cnI (W * H) (dE ++ ((xs.take i).flatMap (gE W H))))⟩, ⟨3, 1, ints (cnI (W * H) (dP ++ ((xs.take i).flatMap (gP W))))⟩, ⟨28, 2, [I ((xs.take i).filter fun x => !x.z).length, I 0]⟩]⟩) (fun i => xs.length - i) 0 (by omega) (by simp only [↓RP, RG, FX, RQ, ↓reduceIte, Nat.reduceEqDiff, reduceCtorEq, Nat.reduceBEq, Nat.reduceAdd, Nat.reduceLeDiff]; refine Wk.of_eq ?_; subst hdE hdP hwd; simp [flV, hdn0, hc00, hc10]) ?_
    intro i hi
    by_cases hlt : i < xs.length
    · have hpx : pX (some (true, 5)) ((fls xs).drop (i * 5)) = some (.agg [B (flD xs i).w, I (flD xs i).a, I (flD xs i).f, I (flD xs i).n, B (flD xs i).z]) := pX_fls hlt
      have hxm : flD xs i ∈ xs := by rw [flD_get hlt]; exact List.getElem_mem hlt
      have hfa := hfac _ hxm
      have htk : xs.take (i + 1) = xs.take i ++ [flD xs i] := by rw [List.take_add_one, List.getElem?_eq_getElem hlt, flD_get hlt]; rfl
      have htkE : (xs.take (i + 1)).flatMap (gE W H) = (xs.take i).flatMap (gE W H) ++ gE W H (flD xs i) := by rw [htk, List.flatMap_append]; simp
      have htkP : (xs.take (i + 1)).flatMap (gP W) = (xs.take i).flatMap (gP W) ++ gP W (flD xs i) := by rw [htk, List.flatMap_append]; simp
      have hftz := filter_take (fun x : Fl => x.z) hlt
      have hftn := filter_take (fun x : Fl => !x.z) hlt
      have hfl1 := List.length_filter_le (fun x : Fl => x.z) (xs.take i)
      have hfl2 := List.length_filter_le (fun x : Fl => !x.z) (xs.take i)
      have htl : (xs.take i).length ≤ xs.length := by rw [List.length_take]; omega
      have hn6 := hn64 _ hxm
      cases hw : (flD xs i).w with
      | true =>
        cases hz : (flD xs i).z with
        | true =>
          rw [hw, hz] at hpx hfa
          unfold FFx at hfa
          simp only [↓reduceIte, Bool.false_eq_true] at hfa
          obtain ⟨f1, f2, f3, f4, f5, f6, f7, f8⟩ := hfa
          have hgE : gE W H (flD xs i) = (List.range (flD xs i).n).map (fun j => W * (((flD xs i).f + j) % H) + (flD xs i).a) := by
            unfold gE psF; rw [hw]; rw [if_pos rfl, List.map_map]; rfl
          have hgP : gP W (flD xs i) = [] := by
            unfold gP psF; rw [hw]; rfl
          have hzl : (((flD xs i).n : Int) == (H : Int)) = true := by
            rw [Bool.eq_iff_iff, beq_iff_eq]; have := of_decide_eq_true f5.symm; simp; omega
          have hface : ∀ k : Nat, k < (flD xs i).n → Contract Tryd.prog 10 [GA W H b l, B true, I (flD xs i).a, I (((flD xs i).f : Int) + (k : Int))] (B true) := fun k hk => by
            have h9 := faceC_c hW0 hH0 hW hH b hn f1 (i := ((flD xs i).f : Int) + (k : Int)) (by omega) (by omega)
            rw [show ((flD xs i).f : Int) + (k : Int) = (((flD xs i).f + k : Nat) : Int) by omega, at_mod2, f7 k hk] at h9
            rw [show ((flD xs i).f : Int) + (k : Int) = (((flD xs i).f + k : Nat) : Int) by omega]
            exact h9
          have f60 : (flD xs i).f = 0 := f6 (by simp)
          simp (disch := first | assumption | omega | rfl | simp only [RH]) only [↓RP, RG, FX, RQ, ↓reduceIte, Nat.reduceEqDiff, reduceCtorEq, Nat.reduceBEq, Nat.reduceAdd, Nat.reduceLeDiff, flV, hpx, Int.toNat_natCast]
          refine callK_F 6 (cellsC_c W H b l) (by simp (disch := first | assumption | omega | rfl | simp only [RH]) only [↓RP, RG, FX, RQ, ↓reduceIte, Nat.reduceEqDiff, reduceCtorEq, Nat.reduceBEq, Nat.reduceAdd, Nat.reduceLeDiff, RA] <;> rfl) (.inl rfl) ?_
          simp (disch := first | assumption | omega | rfl | simp only [RH]) only [↓RP, RG, FX, RQ, ↓reduceIte, Nat.reduceEqDiff, reduceCtorEq, Nat.reduceBEq, Nat.reduceAdd, Nat.reduceLeDiff, flV, Int.toNat_natCast]
          refine callK_F 6 (cellsR_c W H b l) (by simp (disch := first | assumption | omega | rfl | simp only [RH]) only [↓RP, RG, FX, RQ, ↓reduceIte, Nat.reduceEqDiff, reduceCtorEq, Nat.reduceBEq, Nat.reduceAdd, Nat.reduceLeDiff, RA] <;> rfl) (.inl rfl) ?_
          simp (disch := first | assumption | omega | rfl | simp only [RH]) only [↓RP, RG, FX, RQ, ↓reduceIte, Nat.reduceEqDiff, reduceCtorEq, Nat.reduceBEq, Nat.reduceAdd, Nat.reduceLeDiff, flV, hzl, t1, t2, t3, t4, Bool.not_true, Bool.not_false, Int.toNat_natCast]
          refine loopK_I [1, 3, 4, 5, 6, 7, 8, 10, 11, 14, 15] (fun k : Nat => k ≤ (flD xs i).n) (fun k => ⟨[(1, .ptr 0 0 3), (3, .ref 1 0 (W * H) (W * H)), (4, .ref 2 0 (W * H) (W * H)), (5, .ptr 3 0 2), (6, I ((wd + ((xs.take i).filter fun x => x.z).length : Nat) : Int)), (7, I 0), (8, flV true xs), (10, I i), (11, .ptr 4 0 5), (14, B true), (15, I k)], [(⟨24, 3, [I W, I H, BA b l]⟩ : AObj), ⟨3, 1, ints (cnI (W * H) (dE ++ ((xs.take i).flatMap (gE W H)) ++ (List.range k).map (fun j => W * (((flD xs i).f + j) % H) + (flD xs i).a)))⟩, ⟨3, 1, ints (cnI (W * H) (dP ++ ((xs.take i).flatMap (gP W))))⟩, ⟨28, 2, [I ((xs.take i).filter fun x => !x.z).length, I 0]⟩, ⟨34, 5, [B true, I (flD xs i).a, I (flD xs i).f, I (flD xs i).n, B true]⟩]⟩) (fun k => (flD xs i).n - k) 0 (by omega) (by simp only [↓RP, RG, FX, RQ, ↓reduceIte, Nat.reduceEqDiff, reduceCtorEq, Nat.reduceBEq, Nat.reduceAdd, Nat.reduceLeDiff]; simp [flV]) ?_
          · intro k hk
            by_cases hlk : k < (flD xs i).n
            · have hfk := hface k hlk
              have hr := rem_int2 (a := ((flD xs i).f : Int) + (k : Int)) (b := (H : Int)) (by omega) (by omega)
              rw [show (((flD xs i).f : Int) + (k : Int)).toNat = (flD xs i).f + k by omega, Int.toNat_natCast] at hr
              have hpL : ((flD xs i).f + k) % H < H := Nat.mod_lt _ (by omega)
              have hstep : (List.range (k + 1)).map (fun j => W * (((flD xs i).f + j) % H) + (flD xs i).a) = (List.range k).map (fun j => W * (((flD xs i).f + j) % H) + (flD xs i).a) ++ [W * (((flD xs i).f + k) % H) + (flD xs i).a] := by rw [List.range_succ, List.map_append]; rfl
              have hjn : W * (((flD xs i).f + k) % H) + (flD xs i).a < W * H := idx_lt f1 hpL
              have hb1 : (dE ++ ((xs.take i).flatMap (gE W H)) ++ (List.range k).map (fun j => W * (((flD xs i).f + j) % H) + (flD xs i).a)).length ≤ 3000000 := by
                rw [List.length_append, List.length_append, List.length_map, List.length_range]
                have := hEl i; omega
              have hcn := List.count_le_length (a := W * (((flD xs i).f + k) % H) + (flD xs i).a) (l := dE ++ ((xs.take i).flatMap (gE W H)) ++ (List.range k).map (fun j => W * (((flD xs i).f + j) % H) + (flD xs i).a))
              have hget := cnI_get (n := W * H) (S := dE ++ ((xs.take i).flatMap (gE W H)) ++ (List.range k).map (fun j => W * (((flD xs i).f + j) % H) + (flD xs i).a)) hjn
              have hset := cnI_set (n := W * H) (S := dE ++ ((xs.take i).flatMap (gE W H)) ++ (List.range k).map (fun j => W * (((flD xs i).f + j) % H) + (flD xs i).a)) hjn
              have hcl := cnI_len (W * H) (dE ++ ((xs.take i).flatMap (gE W H)) ++ (List.range k).map (fun j => W * (((flD xs i).f + j) % H) + (flD xs i).a))
              rw [show dE ++ ((xs.take i).flatMap (gE W H)) ++ (List.range k).map (fun j => W * (((flD xs i).f + j) % H) + (flD xs i).a) ++ [W * (((flD xs i).f + k) % H) + (flD xs i).a] = dE ++ ((xs.take i).flatMap (gE W H)) ++ (List.range (k + 1)).map (fun j => W * (((flD xs i).f + j) % H) + (flD xs i).a) by rw [hstep, ← List.append_assoc]] at hset
              generalize ((flD xs i).f + k) % H = p at *
              generalize (dE ++ ((xs.take i).flatMap (gE W H)) ++ (List.range k).map (fun j => W * (((flD xs i).f + j) % H) + (flD xs i).a)).count (W * p + (flD xs i).a) = cc at *
              generalize cnI (W * H) (dE ++ ((xs.take i).flatMap (gE W H)) ++ (List.range k).map (fun j => W * (((flD xs i).f + j) % H) + (flD xs i).a)) = S1 at *
              have m1 : (p : Int) * (W : Int) = ((W * p : Nat) : Int) := by rw [Int.natCast_mul, Int.mul_comm]
              have m2 : ((W * p : Nat) : Int) + ((flD xs i).a : Int) = ((W * p + (flD xs i).a : Nat) : Int) := by omega
              simp (disch := first | assumption | omega | rfl | simp only [RH]) only [↓RP, RG, FX, RQ, ↓reduceIte, Nat.reduceEqDiff, reduceCtorEq, Nat.reduceBEq, Nat.reduceAdd, Nat.reduceLeDiff, flV, Int.toNat_natCast]
              refine callK_F 6 hfk (by simp (disch := first | assumption | omega | rfl | simp only [RH]) only [↓RP, RG, FX, RQ, ↓reduceIte, Nat.reduceEqDiff, reduceCtorEq, Nat.reduceBEq, Nat.reduceAdd, Nat.reduceLeDiff, RA] <;> rfl) (.inl rfl) ?_
              simp (disch := first | assumption | omega | rfl | simp only [RH]) only [↓RP, RG, FX, RQ, ↓reduceIte, Nat.reduceEqDiff, reduceCtorEq, Nat.reduceBEq, Nat.reduceAdd, Nat.reduceLeDiff, flV, hr, m1, m2, hget, t1, t2, t3, t4, Bool.not_true, Bool.not_false, Int.toNat_natCast]
              exact ⟨k + 1, hlk, by rw [hset]; first | rfl | (simp only [List.append_assoc]; rfl), by omega⟩
            · obtain rfl : (flD xs i).n = k := by omega
              rw [← hgE]
              simp (disch := first | assumption | omega | rfl | simp only [RH]) only [↓RP, RG, FX, RQ, ↓reduceIte, Nat.reduceEqDiff, reduceCtorEq, Nat.reduceBEq, Nat.reduceAdd, Nat.reduceLeDiff, flV, idxA_ptr, hd0, hd1, t0, t5, Int.toNat_natCast]
              refine ⟨i + 1, hlt, (Wk.drop (hb := []) (h1 := []) (gs := [_, _, _, _, _]) 8 [0, 1, 2, 3] rfl (by decide) (by simp) (by simp)).trans (Wk.of_eq ?_), by omega⟩
              rw [hftz, hftn, htkE, htkP, hz, hgP]
              simp only [RK, List.idxOf?_cons, List.idxOf?_nil, Nat.reduceBEq, Option.map_some, Option.map_none, List.map_cons, List.map_nil, List.getD_cons_zero, List.getD_cons_succ, Bool.false_eq_true, ↓reduceIte, Nat.add_zero, List.append_nil, map_ren_bools, map_ren_ints, map_ren_fls, Bool.not_true, Bool.not_false, if_true, if_false, Bool.false_eq_true, List.append_nil, List.length_append, List.length_singleton, List.append_assoc]
              rfl
        | false =>
          rw [hw, hz] at hpx hfa
          unfold FFx at hfa
          simp only [↓reduceIte, Bool.false_eq_true] at hfa
          obtain ⟨f1, f2, f3, f4, f5, f6, f7, f8⟩ := hfa
          have hgE : gE W H (flD xs i) = (List.range (flD xs i).n).map (fun j => W * (((flD xs i).f + j) % H) + (flD xs i).a) := by
            unfold gE psF; rw [hw]; rw [if_pos rfl, List.map_map]; rfl
          have hgP : gP W (flD xs i) = [] := by
            unfold gP psF; rw [hw]; rfl
          have hzl : (((flD xs i).n : Int) == (H : Int)) = false := by
            rw [Bool.eq_iff_iff, beq_iff_eq]; have := of_decide_eq_false f5.symm; simp; omega
          have hface : ∀ k : Nat, k < (flD xs i).n → Contract Tryd.prog 10 [GA W H b l, B true, I (flD xs i).a, I (((flD xs i).f : Int) + (k : Int))] (B true) := fun k hk => by
            have h9 := faceC_c hW0 hH0 hW hH b hn f1 (i := ((flD xs i).f : Int) + (k : Int)) (by omega) (by omega)
            rw [show ((flD xs i).f : Int) + (k : Int) = (((flD xs i).f + k : Nat) : Int) by omega, at_mod2, f7 k hk] at h9
            rw [show ((flD xs i).f : Int) + (k : Int) = (((flD xs i).f + k : Nat) : Int) by omega]
            exact h9
          obtain ⟨g1, g2⟩ := f8 (by simp)
          have hfm : Contract Tryd.prog 10 [GA W H b l, B true, I (flD xs i).a, I (((flD xs i).f : Int) - 1)] (B false) := by
            have h9 := faceC_c hW0 hH0 hW hH b hn f1 (i := ((flD xs i).f : Int) - 1) (by omega) (by omega)
            have e9 : (((flD xs i).f : Int) - 1) % (H : Int) = (((flD xs i).f + (H - 1) : Nat) : Int) % (H : Int) := by
              rw [show (((flD xs i).f + (H - 1) : Nat) : Int) = (((flD xs i).f : Int) - 1) + (H : Int) by omega, Int.add_emod_right]
            rw [e9, at_mod2, Bool.eq_false_of_ne g1] at h9
            exact h9
          have hfp : Contract Tryd.prog 10 [GA W H b l, B true, I (flD xs i).a, I (((flD xs i).f : Int) + ((flD xs i).n : Int))] (B false) := by
            have h9 := faceC_c hW0 hH0 hW hH b hn f1 (i := ((flD xs i).f : Int) + ((flD xs i).n : Int)) (by omega) (by omega)
            rw [show ((flD xs i).f : Int) + ((flD xs i).n : Int) = (((flD xs i).f + (flD xs i).n : Nat) : Int) by omega, at_mod2, Bool.eq_false_of_ne g2] at h9
            rw [show ((flD xs i).f : Int) + ((flD xs i).n : Int) = (((flD xs i).f + (flD xs i).n : Nat) : Int) by omega]
            exact h9
          simp (disch := first | assumption | omega | rfl | simp only [RH]) only [↓RP, RG, FX, RQ, ↓reduceIte, Nat.reduceEqDiff, reduceCtorEq, Nat.reduceBEq, Nat.reduceAdd, Nat.reduceLeDiff, flV, hpx, Int.toNat_natCast]
          refine callK_F 6 (cellsC_c W H b l) (by simp (disch := first | assumption | omega | rfl | simp only [RH]) only [↓RP, RG, FX, RQ, ↓reduceIte, Nat.reduceEqDiff, reduceCtorEq, Nat.reduceBEq, Nat.reduceAdd, Nat.reduceLeDiff, RA] <;> rfl) (.inl rfl) ?_
          simp (disch := first | assumption | omega | rfl | simp only [RH]) only [↓RP, RG, FX, RQ, ↓reduceIte, Nat.reduceEqDiff, reduceCtorEq, Nat.reduceBEq, Nat.reduceAdd, Nat.reduceLeDiff, flV, Int.toNat_natCast]
          refine callK_F 6 (cellsR_c W H b l) (by simp (disch := first | assumption | omega | rfl | simp only [RH]) only [↓RP, RG, FX, RQ, ↓reduceIte, Nat.reduceEqDiff, reduceCtorEq, Nat.reduceBEq, Nat.reduceAdd, Nat.reduceLeDiff, RA] <;> rfl) (.inl rfl) ?_
          simp (disch := first | assumption | omega | rfl | simp only [RH]) only [↓RP, RG, FX, RQ, ↓reduceIte, Nat.reduceEqDiff, reduceCtorEq, Nat.reduceBEq, Nat.reduceAdd, Nat.reduceLeDiff, flV, hzl, t1, t2, t3, t4, Bool.not_true, Bool.not_false, Int.toNat_natCast]
          refine callK_F 6 hfm (by simp (disch := first | assumption | omega | rfl | simp only [RH]) only [↓RP, RG, FX, RQ, ↓reduceIte, Nat.reduceEqDiff, reduceCtorEq, Nat.reduceBEq, Nat.reduceAdd, Nat.reduceLeDiff, RA] <;> rfl) (.inl rfl) ?_
          simp (disch := first | assumption | omega | rfl | simp only [RH]) only [↓RP, RG, FX, RQ, ↓reduceIte, Nat.reduceEqDiff, reduceCtorEq, Nat.reduceBEq, Nat.reduceAdd, Nat.reduceLeDiff, flV, t1, t2, t3, t4, Bool.not_true, Bool.not_false, Int.toNat_natCast]
          refine callK_F 6 hfp (by simp (disch := first | assumption | omega | rfl | simp only [RH]) only [↓RP, RG, FX, RQ, ↓reduceIte, Nat.reduceEqDiff, reduceCtorEq, Nat.reduceBEq, Nat.reduceAdd, Nat.reduceLeDiff, RA] <;> rfl) (.inl rfl) ?_
          simp (disch := first | assumption | omega | rfl | simp only [RH]) only [↓RP, RG, FX, RQ, ↓reduceIte, Nat.reduceEqDiff, reduceCtorEq, Nat.reduceBEq, Nat.reduceAdd, Nat.reduceLeDiff, flV, t1, t2, t3, t4, Bool.not_true, Bool.not_false, Int.toNat_natCast]
          refine loopK_I [1, 3, 4, 5, 6, 7, 8, 10, 11, 14, 15] (fun k : Nat => k ≤ (flD xs i).n) (fun k => ⟨[(1, .ptr 0 0 3), (3, .ref 1 0 (W * H) (W * H)), (4, .ref 2 0 (W * H) (W * H)), (5, .ptr 3 0 2), (6, I ((wd + ((xs.take i).filter fun x => x.z).length : Nat) : Int)), (7, I 0), (8, flV true xs), (10, I i), (11, .ptr 4 0 5), (14, B true), (15, I k)], [(⟨24, 3, [I W, I H, BA b l]⟩ : AObj), ⟨3, 1, ints (cnI (W * H) (dE ++ ((xs.take i).flatMap (gE W H)) ++ (List.range k).map (fun j => W * (((flD xs i).f + j) % H) + (flD xs i).a)))⟩, ⟨3, 1, ints (cnI (W * H) (dP ++ ((xs.take i).flatMap (gP W))))⟩, ⟨28, 2, [I ((xs.take i).filter fun x => !x.z).length, I 0]⟩, ⟨34, 5, [B true, I (flD xs i).a, I (flD xs i).f, I (flD xs i).n, B false]⟩]⟩) (fun k => (flD xs i).n - k) 0 (by omega) (by simp only [↓RP, RG, FX, RQ, ↓reduceIte, Nat.reduceEqDiff, reduceCtorEq, Nat.reduceBEq, Nat.reduceAdd, Nat.reduceLeDiff]; simp [flV]) ?_
          · intro k hk
            by_cases hlk : k < (flD xs i).n
            · have hfk := hface k hlk
              have hr := rem_int2 (a := ((flD xs i).f : Int) + (k : Int)) (b := (H : Int)) (by omega) (by omega)
              rw [show (((flD xs i).f : Int) + (k : Int)).toNat = (flD xs i).f + k by omega, Int.toNat_natCast] at hr
              have hpL : ((flD xs i).f + k) % H < H := Nat.mod_lt _ (by omega)
              have hstep : (List.range (k + 1)).map (fun j => W * (((flD xs i).f + j) % H) + (flD xs i).a) = (List.range k).map (fun j => W * (((flD xs i).f + j) % H) + (flD xs i).a) ++ [W * (((flD xs i).f + k) % H) + (flD xs i).a] := by rw [List.range_succ, List.map_append]; rfl
              have hjn : W * (((flD xs i).f + k) % H) + (flD xs i).a < W * H := idx_lt f1 hpL
              have hb1 : (dE ++ ((xs.take i).flatMap (gE W H)) ++ (List.range k).map (fun j => W * (((flD xs i).f + j) % H) + (flD xs i).a)).length ≤ 3000000 := by
                rw [List.length_append, List.length_append, List.length_map, List.length_range]
                have := hEl i; omega
              have hcn := List.count_le_length (a := W * (((flD xs i).f + k) % H) + (flD xs i).a) (l := dE ++ ((xs.take i).flatMap (gE W H)) ++ (List.range k).map (fun j => W * (((flD xs i).f + j) % H) + (flD xs i).a))
              have hget := cnI_get (n := W * H) (S := dE ++ ((xs.take i).flatMap (gE W H)) ++ (List.range k).map (fun j => W * (((flD xs i).f + j) % H) + (flD xs i).a)) hjn
              have hset := cnI_set (n := W * H) (S := dE ++ ((xs.take i).flatMap (gE W H)) ++ (List.range k).map (fun j => W * (((flD xs i).f + j) % H) + (flD xs i).a)) hjn
              have hcl := cnI_len (W * H) (dE ++ ((xs.take i).flatMap (gE W H)) ++ (List.range k).map (fun j => W * (((flD xs i).f + j) % H) + (flD xs i).a))
              rw [show dE ++ ((xs.take i).flatMap (gE W H)) ++ (List.range k).map (fun j => W * (((flD xs i).f + j) % H) + (flD xs i).a) ++ [W * (((flD xs i).f + k) % H) + (flD xs i).a] = dE ++ ((xs.take i).flatMap (gE W H)) ++ (List.range (k + 1)).map (fun j => W * (((flD xs i).f + j) % H) + (flD xs i).a) by rw [hstep, ← List.append_assoc]] at hset
              generalize ((flD xs i).f + k) % H = p at *
              generalize (dE ++ ((xs.take i).flatMap (gE W H)) ++ (List.range k).map (fun j => W * (((flD xs i).f + j) % H) + (flD xs i).a)).count (W * p + (flD xs i).a) = cc at *
              generalize cnI (W * H) (dE ++ ((xs.take i).flatMap (gE W H)) ++ (List.range k).map (fun j => W * (((flD xs i).f + j) % H) + (flD xs i).a)) = S1 at *
              have m1 : (p : Int) * (W : Int) = ((W * p : Nat) : Int) := by rw [Int.natCast_mul, Int.mul_comm]
              have m2 : ((W * p : Nat) : Int) + ((flD xs i).a : Int) = ((W * p + (flD xs i).a : Nat) : Int) := by omega
              simp (disch := first | assumption | omega | rfl | simp only [RH]) only [↓RP, RG, FX, RQ, ↓reduceIte, Nat.reduceEqDiff, reduceCtorEq, Nat.reduceBEq, Nat.reduceAdd, Nat.reduceLeDiff, flV, Int.toNat_natCast]
              refine callK_F 6 hfk (by simp (disch := first | assumption | omega | rfl | simp only [RH]) only [↓RP, RG, FX, RQ, ↓reduceIte, Nat.reduceEqDiff, reduceCtorEq, Nat.reduceBEq, Nat.reduceAdd, Nat.reduceLeDiff, RA] <;> rfl) (.inl rfl) ?_
              simp (disch := first | assumption | omega | rfl | simp only [RH]) only [↓RP, RG, FX, RQ, ↓reduceIte, Nat.reduceEqDiff, reduceCtorEq, Nat.reduceBEq, Nat.reduceAdd, Nat.reduceLeDiff, flV, hr, m1, m2, hget, t1, t2, t3, t4, Bool.not_true, Bool.not_false, Int.toNat_natCast]
              exact ⟨k + 1, hlk, by rw [hset]; first | rfl | (simp only [List.append_assoc]; rfl), by omega⟩
            · obtain rfl : (flD xs i).n = k := by omega
              rw [← hgE]
              simp (disch := first | assumption | omega | rfl | simp only [RH]) only [↓RP, RG, FX, RQ, ↓reduceIte, Nat.reduceEqDiff, reduceCtorEq, Nat.reduceBEq, Nat.reduceAdd, Nat.reduceLeDiff, flV, idxA_ptr, hd0, hd1, t0, t5, Int.toNat_natCast]
              refine ⟨i + 1, hlt, (Wk.drop (hb := []) (h1 := []) (gs := [_, _, _, _, _]) 8 [0, 1, 2, 3] rfl (by decide) (by simp) (by simp)).trans (Wk.of_eq ?_), by omega⟩
              rw [hftz, hftn, htkE, htkP, hz, hgP]
              simp only [RK, List.idxOf?_cons, List.idxOf?_nil, Nat.reduceBEq, Option.map_some, Option.map_none, List.map_cons, List.map_nil, List.getD_cons_zero, List.getD_cons_succ, Bool.false_eq_true, ↓reduceIte, Nat.add_zero, List.append_nil, map_ren_bools, map_ren_ints, map_ren_fls, Bool.not_true, Bool.not_false, if_true, if_false, Bool.false_eq_true, List.append_nil, List.length_append, List.length_singleton, List.append_assoc]
              rfl
      | false =>
        cases hz : (flD xs i).z with
        | true =>
          rw [hw, hz] at hpx hfa
          unfold FFx at hfa
          simp only [↓reduceIte, Bool.false_eq_true] at hfa
          obtain ⟨f1, f2, f3, f4, f5, f6, f7, f8⟩ := hfa
          have hgE : gE W H (flD xs i) = [] := by
            unfold gE psF; rw [hw]; rfl
          have hgP : gP W (flD xs i) = (List.range (flD xs i).n).map (fun j => W * (flD xs i).a + ((flD xs i).f + j) % W) := by
            unfold gP psF; rw [hw]; rw [if_neg (by simp), List.map_map]; rfl
          have hzl : (((flD xs i).n : Int) == (W : Int)) = true := by
            rw [Bool.eq_iff_iff, beq_iff_eq]; have := of_decide_eq_true f5.symm; simp; omega
          have hface : ∀ k : Nat, k < (flD xs i).n → Contract Tryd.prog 10 [GA W H b l, B false, I (flD xs i).a, I (((flD xs i).f : Int) + (k : Int))] (B true) := fun k hk => by
            have h9 := faceR_c hW0 hH0 hW hH b hn f1 (i := ((flD xs i).f : Int) + (k : Int)) (by omega) (by omega)
            rw [show ((flD xs i).f : Int) + (k : Int) = (((flD xs i).f + k : Nat) : Int) by omega, at_mod2, f7 k hk] at h9
            rw [show ((flD xs i).f : Int) + (k : Int) = (((flD xs i).f + k : Nat) : Int) by omega]
            exact h9
          have f60 : (flD xs i).f = 0 := f6 (by simp)
          simp (disch := first | assumption | omega | rfl | simp only [RH]) only [↓RP, RG, FX, RQ, ↓reduceIte, Nat.reduceEqDiff, reduceCtorEq, Nat.reduceBEq, Nat.reduceAdd, Nat.reduceLeDiff, flV, hpx, Int.toNat_natCast]
          refine callK_F 6 (cellsR_c W H b l) (by simp (disch := first | assumption | omega | rfl | simp only [RH]) only [↓RP, RG, FX, RQ, ↓reduceIte, Nat.reduceEqDiff, reduceCtorEq, Nat.reduceBEq, Nat.reduceAdd, Nat.reduceLeDiff, RA] <;> rfl) (.inl rfl) ?_
          simp (disch := first | assumption | omega | rfl | simp only [RH]) only [↓RP, RG, FX, RQ, ↓reduceIte, Nat.reduceEqDiff, reduceCtorEq, Nat.reduceBEq, Nat.reduceAdd, Nat.reduceLeDiff, flV, Int.toNat_natCast]
          refine callK_F 6 (cellsC_c W H b l) (by simp (disch := first | assumption | omega | rfl | simp only [RH]) only [↓RP, RG, FX, RQ, ↓reduceIte, Nat.reduceEqDiff, reduceCtorEq, Nat.reduceBEq, Nat.reduceAdd, Nat.reduceLeDiff, RA] <;> rfl) (.inl rfl) ?_
          simp (disch := first | assumption | omega | rfl | simp only [RH]) only [↓RP, RG, FX, RQ, ↓reduceIte, Nat.reduceEqDiff, reduceCtorEq, Nat.reduceBEq, Nat.reduceAdd, Nat.reduceLeDiff, flV, hzl, t1, t2, t3, t4, Bool.not_true, Bool.not_false, Int.toNat_natCast]
          refine loopK_I [1, 3, 4, 5, 6, 7, 8, 10, 11, 14, 15] (fun k : Nat => k ≤ (flD xs i).n) (fun k => ⟨[(1, .ptr 0 0 3), (3, .ref 1 0 (W * H) (W * H)), (4, .ref 2 0 (W * H) (W * H)), (5, .ptr 3 0 2), (6, I ((wd + ((xs.take i).filter fun x => x.z).length : Nat) : Int)), (7, I 0), (8, flV true xs), (10, I i), (11, .ptr 4 0 5), (14, B true), (15, I k)], [(⟨24, 3, [I W, I H, BA b l]⟩ : AObj), ⟨3, 1, ints (cnI (W * H) (dE ++ ((xs.take i).flatMap (gE W H))))⟩, ⟨3, 1, ints (cnI (W * H) (dP ++ ((xs.take i).flatMap (gP W)) ++ (List.range k).map (fun j => W * (flD xs i).a + ((flD xs i).f + j) % W)))⟩, ⟨28, 2, [I ((xs.take i).filter fun x => !x.z).length, I 0]⟩, ⟨34, 5, [B false, I (flD xs i).a, I (flD xs i).f, I (flD xs i).n, B true]⟩]⟩) (fun k => (flD xs i).n - k) 0 (by omega) (by simp only [↓RP, RG, FX, RQ, ↓reduceIte, Nat.reduceEqDiff, reduceCtorEq, Nat.reduceBEq, Nat.reduceAdd, Nat.reduceLeDiff]; simp [flV]) ?_
          · intro k hk
            by_cases hlk : k < (flD xs i).n
            · have hfk := hface k hlk
              have hr := rem_int2 (a := ((flD xs i).f : Int) + (k : Int)) (b := (W : Int)) (by omega) (by omega)
              rw [show (((flD xs i).f : Int) + (k : Int)).toNat = (flD xs i).f + k by omega, Int.toNat_natCast] at hr
              have hpL : ((flD xs i).f + k) % W < W := Nat.mod_lt _ (by omega)
              have hstep : (List.range (k + 1)).map (fun j => W * (flD xs i).a + ((flD xs i).f + j) % W) = (List.range k).map (fun j => W * (flD xs i).a + ((flD xs i).f + j) % W) ++ [W * (flD xs i).a + ((flD xs i).f + k) % W] := by rw [List.range_succ, List.map_append]; rfl
              have hjn : W * (flD xs i).a + ((flD xs i).f + k) % W < W * H := idx_lt hpL f1
              have hb1 : (dP ++ ((xs.take i).flatMap (gP W)) ++ (List.range k).map (fun j => W * (flD xs i).a + ((flD xs i).f + j) % W)).length ≤ 3000000 := by
                rw [List.length_append, List.length_append, List.length_map, List.length_range]
                have := hPl i; omega
              have hcn := List.count_le_length (a := W * (flD xs i).a + ((flD xs i).f + k) % W) (l := dP ++ ((xs.take i).flatMap (gP W)) ++ (List.range k).map (fun j => W * (flD xs i).a + ((flD xs i).f + j) % W))
              have hget := cnI_get (n := W * H) (S := dP ++ ((xs.take i).flatMap (gP W)) ++ (List.range k).map (fun j => W * (flD xs i).a + ((flD xs i).f + j) % W)) hjn
              have hset := cnI_set (n := W * H) (S := dP ++ ((xs.take i).flatMap (gP W)) ++ (List.range k).map (fun j => W * (flD xs i).a + ((flD xs i).f + j) % W)) hjn
              have hcl := cnI_len (W * H) (dP ++ ((xs.take i).flatMap (gP W)) ++ (List.range k).map (fun j => W * (flD xs i).a + ((flD xs i).f + j) % W))
              rw [show dP ++ ((xs.take i).flatMap (gP W)) ++ (List.range k).map (fun j => W * (flD xs i).a + ((flD xs i).f + j) % W) ++ [W * (flD xs i).a + ((flD xs i).f + k) % W] = dP ++ ((xs.take i).flatMap (gP W)) ++ (List.range (k + 1)).map (fun j => W * (flD xs i).a + ((flD xs i).f + j) % W) by rw [hstep, ← List.append_assoc]] at hset
              generalize ((flD xs i).f + k) % W = p at *
              generalize (dP ++ ((xs.take i).flatMap (gP W)) ++ (List.range k).map (fun j => W * (flD xs i).a + ((flD xs i).f + j) % W)).count (W * (flD xs i).a + p) = cc at *
              generalize cnI (W * H) (dP ++ ((xs.take i).flatMap (gP W)) ++ (List.range k).map (fun j => W * (flD xs i).a + ((flD xs i).f + j) % W)) = S2 at *
              have m1 : ((flD xs i).a : Int) * (W : Int) = ((W * (flD xs i).a : Nat) : Int) := by rw [Int.natCast_mul, Int.mul_comm]
              have m2 : ((W * (flD xs i).a : Nat) : Int) + (p : Int) = ((W * (flD xs i).a + p : Nat) : Int) := by omega
              simp (disch := first | assumption | omega | rfl | simp only [RH]) only [↓RP, RG, FX, RQ, ↓reduceIte, Nat.reduceEqDiff, reduceCtorEq, Nat.reduceBEq, Nat.reduceAdd, Nat.reduceLeDiff, flV, Int.toNat_natCast]
              refine callK_F 6 hfk (by simp (disch := first | assumption | omega | rfl | simp only [RH]) only [↓RP, RG, FX, RQ, ↓reduceIte, Nat.reduceEqDiff, reduceCtorEq, Nat.reduceBEq, Nat.reduceAdd, Nat.reduceLeDiff, RA] <;> rfl) (.inl rfl) ?_
              simp (disch := first | assumption | omega | rfl | simp only [RH]) only [↓RP, RG, FX, RQ, ↓reduceIte, Nat.reduceEqDiff, reduceCtorEq, Nat.reduceBEq, Nat.reduceAdd, Nat.reduceLeDiff, flV, hr, m1, m2, hget, t1, t2, t3, t4, Bool.not_true, Bool.not_false, Int.toNat_natCast]
              exact ⟨k + 1, hlk, by rw [hset]; first | rfl | (simp only [List.append_assoc]; rfl), by omega⟩
            · obtain rfl : (flD xs i).n = k := by omega
              rw [← hgP]
              simp (disch := first | assumption | omega | rfl | simp only [RH]) only [↓RP, RG, FX, RQ, ↓reduceIte, Nat.reduceEqDiff, reduceCtorEq, Nat.reduceBEq, Nat.reduceAdd, Nat.reduceLeDiff, flV, idxA_ptr, hd0, hd1, t0, t5, Int.toNat_natCast]
              refine ⟨i + 1, hlt, (Wk.drop (hb := []) (h1 := []) (gs := [_, _, _, _, _]) 8 [0, 1, 2, 3] rfl (by decide) (by simp) (by simp)).trans (Wk.of_eq ?_), by omega⟩
              rw [hftz, hftn, htkE, htkP, hz, hgE]
              simp only [RK, List.idxOf?_cons, List.idxOf?_nil, Nat.reduceBEq, Option.map_some, Option.map_none, List.map_cons, List.map_nil, List.getD_cons_zero, List.getD_cons_succ, Bool.false_eq_true, ↓reduceIte, Nat.add_zero, List.append_nil, map_ren_bools, map_ren_ints, map_ren_fls, Bool.not_true, Bool.not_false, if_true, if_false, Bool.false_eq_true, List.append_nil, List.length_append, List.length_singleton, List.append_assoc]
              rfl
        | false =>
          rw [hw, hz] at hpx hfa
          unfold FFx at hfa
          simp only [↓reduceIte, Bool.false_eq_true] at hfa
          obtain ⟨f1, f2, f3, f4, f5, f6, f7, f8⟩ := hfa
          have hgE : gE W H (flD xs i) = [] := by
            unfold gE psF; rw [hw]; rfl
          have hgP : gP W (flD xs i) = (List.range (flD xs i).n).map (fun j => W * (flD xs i).a + ((flD xs i).f + j) % W) := by
            unfold gP psF; rw [hw]; rw [if_neg (by simp), List.map_map]; rfl
          have hzl : (((flD xs i).n : Int) == (W : Int)) = false := by
            rw [Bool.eq_iff_iff, beq_iff_eq]; have := of_decide_eq_false f5.symm; simp; omega
          have hface : ∀ k : Nat, k < (flD xs i).n → Contract Tryd.prog 10 [GA W H b l, B false, I (flD xs i).a, I (((flD xs i).f : Int) + (k : Int))] (B true) := fun k hk => by
            have h9 := faceR_c hW0 hH0 hW hH b hn f1 (i := ((flD xs i).f : Int) + (k : Int)) (by omega) (by omega)
            rw [show ((flD xs i).f : Int) + (k : Int) = (((flD xs i).f + k : Nat) : Int) by omega, at_mod2, f7 k hk] at h9
            rw [show ((flD xs i).f : Int) + (k : Int) = (((flD xs i).f + k : Nat) : Int) by omega]
            exact h9
          obtain ⟨g1, g2⟩ := f8 (by simp)
          have hfm : Contract Tryd.prog 10 [GA W H b l, B false, I (flD xs i).a, I (((flD xs i).f : Int) - 1)] (B false) := by
            have h9 := faceR_c hW0 hH0 hW hH b hn f1 (i := ((flD xs i).f : Int) - 1) (by omega) (by omega)
            have e9 : (((flD xs i).f : Int) - 1) % (W : Int) = (((flD xs i).f + (W - 1) : Nat) : Int) % (W : Int) := by
              rw [show (((flD xs i).f + (W - 1) : Nat) : Int) = (((flD xs i).f : Int) - 1) + (W : Int) by omega, Int.add_emod_right]
            rw [e9, at_mod2, Bool.eq_false_of_ne g1] at h9
            exact h9
          have hfp : Contract Tryd.prog 10 [GA W H b l, B false, I (flD xs i).a, I (((flD xs i).f : Int) + ((flD xs i).n : Int))] (B false) := by
            have h9 := faceR_c hW0 hH0 hW hH b hn f1 (i := ((flD xs i).f : Int) + ((flD xs i).n : Int)) (by omega) (by omega)
            rw [show ((flD xs i).f : Int) + ((flD xs i).n : Int) = (((flD xs i).f + (flD xs i).n : Nat) : Int) by omega, at_mod2, Bool.eq_false_of_ne g2] at h9
            rw [show ((flD xs i).f : Int) + ((flD xs i).n : Int) = (((flD xs i).f + (flD xs i).n : Nat) : Int) by omega]
            exact h9
          simp (disch := first | assumption | omega | rfl | simp only [RH]) only [↓RP, RG, FX, RQ, ↓reduceIte, Nat.reduceEqDiff, reduceCtorEq, Nat.reduceBEq, Nat.reduceAdd, Nat.reduceLeDiff, flV, hpx, Int.toNat_natCast]
          refine callK_F 6 (cellsR_c W H b l) (by simp (disch := first | assumption | omega | rfl | simp only [RH]) only [↓RP, RG, FX, RQ, ↓reduceIte, Nat.reduceEqDiff, reduceCtorEq, Nat.reduceBEq, Nat.reduceAdd, Nat.reduceLeDiff, RA] <;> rfl) (.inl rfl) ?_
          simp (disch := first | assumption | omega | rfl | simp only [RH]) only [↓RP, RG, FX, RQ, ↓reduceIte, Nat.reduceEqDiff, reduceCtorEq, Nat.reduceBEq, Nat.reduceAdd, Nat.reduceLeDiff, flV, Int.toNat_natCast]
          refine callK_F 6 (cellsC_c W H b l) (by simp (disch := first | assumption | omega | rfl | simp only [RH]) only [↓RP, RG, FX, RQ, ↓reduceIte, Nat.reduceEqDiff, reduceCtorEq, Nat.reduceBEq, Nat.reduceAdd, Nat.reduceLeDiff, RA] <;> rfl) (.inl rfl) ?_
          simp (disch := first | assumption | omega | rfl | simp only [RH]) only [↓RP, RG, FX, RQ, ↓reduceIte, Nat.reduceEqDiff, reduceCtorEq, Nat.reduceBEq, Nat.reduceAdd, Nat.reduceLeDiff, flV, hzl, t1, t2, t3, t4, Bool.not_true, Bool.not_false, Int.toNat_natCast]
          refine callK_F 6 hfm (by simp (disch := first | assumption | omega | rfl | simp only [RH]) only [↓RP, RG, FX, RQ, ↓reduceIte, Nat.reduceEqDiff, reduceCtorEq, Nat.reduceBEq, Nat.reduceAdd, Nat.reduceLeDiff, RA] <;> rfl) (.inl rfl) ?_
          simp (disch := first | assumption | omega | rfl | simp only [RH]) only [↓RP, RG, FX, RQ, ↓reduceIte, Nat.reduceEqDiff, reduceCtorEq, Nat.reduceBEq, Nat.reduceAdd, Nat.reduceLeDiff, flV, t1, t2, t3, t4, Bool.not_true, Bool.not_false, Int.toNat_natCast]
          refine callK_F 6 hfp (by simp (disch := first | assumption | omega | rfl | simp only [RH]) only [↓RP, RG, FX, RQ, ↓reduceIte, Nat.reduceEqDiff, reduceCtorEq, Nat.reduceBEq, Nat.reduceAdd, Nat.reduceLeDiff, RA] <;> rfl) (.inl rfl) ?_
          simp (disch := first | assumption | omega | rfl | simp only [RH]) only [↓RP, RG, FX, RQ, ↓reduceIte, Nat.reduceEqDiff, reduceCtorEq, Nat.reduceBEq, Nat.reduceAdd, Nat.reduceLeDiff, flV, t1, t2, t3, t4, Bool.not_true, Bool.not_false, Int.toNat_natCast]
          refine loopK_I [1, 3, 4, 5, 6, 7, 8, 10, 11, 14, 15] (fun k : Nat => k ≤ (flD xs i).n) (fun k => ⟨[(1, .ptr 0 0 3), (3, .ref 1 0 (W * H) (W * H)), (4, .ref 2 0 (W * H) (W * H)), (5, .ptr 3 0 2), (6, I ((wd + ((xs.take i).filter fun x => x.z).length : Nat) : Int)), (7, I 0), (8, flV true xs), (10, I i), (11, .ptr 4 0 5), (14, B true), (15, I k)], [(⟨24, 3, [I W, I H, BA b l]⟩ : AObj), ⟨3, 1, ints (cnI (W * H) (dE ++ ((xs.take i).flatMap (gE W H))))⟩, ⟨3, 1, ints (cnI (W * H) (dP ++ ((xs.take i).flatMap (gP W)) ++ (List.range k).map (fun j => W * (flD xs i).a + ((flD xs i).f + j) % W)))⟩, ⟨28, 2, [I ((xs.take i).filter fun x => !x.z).length, I 0]⟩, ⟨34, 5, [B false, I (flD xs i).a, I (flD xs i).f, I (flD xs i).n, B false]⟩]⟩) (fun k => (flD xs i).n - k) 0 (by omega) (by simp only [↓RP, RG, FX, RQ, ↓reduceIte, Nat.reduceEqDiff, reduceCtorEq, Nat.reduceBEq, Nat.reduceAdd, Nat.reduceLeDiff]; simp [flV]) ?_
          · intro k hk
            by_cases hlk : k < (flD xs i).n
            · have hfk := hface k hlk
              have hr := rem_int2 (a := ((flD xs i).f : Int) + (k : Int)) (b := (W : Int)) (by omega) (by omega)
              rw [show (((flD xs i).f : Int) + (k : Int)).toNat = (flD xs i).f + k by omega, Int.toNat_natCast] at hr
              have hpL : ((flD xs i).f + k) % W < W := Nat.mod_lt _ (by omega)
              have hstep : (List.range (k + 1)).map (fun j => W * (flD xs i).a + ((flD xs i).f + j) % W) = (List.range k).map (fun j => W * (flD xs i).a + ((flD xs i).f + j) % W) ++ [W * (flD xs i).a + ((flD xs i).f + k) % W] := by rw [List.range_succ, List.map_append]; rfl
              have hjn : W * (flD xs i).a + ((flD xs i).f + k) % W < W * H := idx_lt hpL f1
              have hb1 : (dP ++ ((xs.take i).flatMap (gP W)) ++ (List.range k).map (fun j => W * (flD xs i).a + ((flD xs i).f + j) % W)).length ≤ 3000000 := by
                rw [List.length_append, List.length_append, List.length_map, List.length_range]
                have := hPl i; omega
              have hcn := List.count_le_length (a := W * (flD xs i).a + ((flD xs i).f + k) % W) (l := dP ++ ((xs.take i).flatMap (gP W)) ++ (List.range k).map (fun j => W * (flD xs i).a + ((flD xs i).f + j) % W))
              have hget := cnI_get (n := W * H) (S := dP ++ ((xs.take i).flatMap (gP W)) ++ (List.range k).map (fun j => W * (flD xs i).a + ((flD xs i).f + j) % W)) hjn
              have hset := cnI_set (n := W * H) (S := dP ++ ((xs.take i).flatMap (gP W)) ++ (List.range k).map (fun j => W * (flD xs i).a + ((flD xs i).f + j) % W)) hjn
              have hcl := cnI_len (W * H) (dP ++ ((xs.take i).flatMap (gP W)) ++ (List.range k).map (fun j => W * (flD xs i).a + ((flD xs i).f + j) % W))
              rw [show dP ++ ((xs.take i).flatMap (gP W)) ++ (List.range k).map (fun j => W * (flD xs i).a + ((flD xs i).f + j) % W) ++ [W * (flD xs i).a + ((flD xs i).f + k) % W] = dP ++ ((xs.take i).flatMap (gP W)) ++ (List.range (k + 1)).map (fun j => W * (flD xs i).a + ((flD xs i).f + j) % W) by rw [hstep, ← List.append_assoc]] at hset
              generalize ((flD xs i).f + k) % W = p at *
              generalize (dP ++ ((xs.take i).flatMap (gP W)) ++ (List.range k).map (fun j => W * (flD xs i).a + ((flD xs i).f + j) % W)).count (W * (flD xs i).a + p) = cc at *
              generalize cnI (W * H) (dP ++ ((xs.take i).flatMap (gP W)) ++ (List.range k).map (fun j => W * (flD xs i).a + ((flD xs i).f + j) % W)) = S2 at *
              have m1 : ((flD xs i).a : Int) * (W : Int) = ((W * (flD xs i).a : Nat) : Int) := by rw [Int.natCast_mul, Int.mul_comm]
              have m2 : ((W * (flD xs i).a : Nat) : Int) + (p : Int) = ((W * (flD xs i).a + p : Nat) : Int) := by omega
              simp (disch := first | assumption | omega | rfl | simp only [RH]) only [↓RP, RG, FX, RQ, ↓reduceIte, Nat.reduceEqDiff, reduceCtorEq, Nat.reduceBEq, Nat.reduceAdd, Nat.reduceLeDiff, flV, Int.toNat_natCast]
              refine callK_F 6 hfk (by simp (disch := first | assumption | omega | rfl | simp only [RH]) only [↓RP, RG, FX, RQ, ↓reduceIte, Nat.reduceEqDiff, reduceCtorEq, Nat.reduceBEq, Nat.reduceAdd, Nat.reduceLeDiff, RA] <;> rfl) (.inl rfl) ?_
              simp (disch := first | assumption | omega | rfl | simp only [RH]) only [↓RP, RG, FX, RQ, ↓reduceIte, Nat.reduceEqDiff, reduceCtorEq, Nat.reduceBEq, Nat.reduceAdd, Nat.reduceLeDiff, flV, hr, m1, m2, hget, t1, t2, t3, t4, Bool.not_true, Bool.not_false, Int.toNat_natCast]
              exact ⟨k + 1, hlk, by rw [hset]; first | rfl | (simp only [List.append_assoc]; rfl), by omega⟩
            · obtain rfl : (flD xs i).n = k := by omega
              rw [← hgP]
              simp (disch := first | assumption | omega | rfl | simp only [RH]) only [↓RP, RG, FX, RQ, ↓reduceIte, Nat.reduceEqDiff, reduceCtorEq, Nat.reduceBEq, Nat.reduceAdd, Nat.reduceLeDiff, flV, idxA_ptr, hd0, hd1, t0, t5, Int.toNat_natCast]
              refine ⟨i + 1, hlt, (Wk.drop (hb := []) (h1 := []) (gs := [_, _, _, _, _]) 8 [0, 1, 2, 3] rfl (by decide) (by simp) (by simp)).trans (Wk.of_eq ?_), by omega⟩
              rw [hftz, hftn, htkE, htkP, hz, hgE]
              simp only [RK, List.idxOf?_cons, List.idxOf?_nil, Nat.reduceBEq, Option.map_some, Option.map_none, List.map_cons, List.map_nil, List.getD_cons_zero, List.getD_cons_succ, Bool.false_eq_true, ↓reduceIte, Nat.add_zero, List.append_nil, map_ren_bools, map_ren_ints, map_ren_fls, Bool.not_true, Bool.not_false, if_true, if_false, Bool.false_eq_true, List.append_nil, List.length_append, List.length_singleton, List.append_assoc]
              rfl
    · obtain rfl : xs.length = i := by omega
      simp (disch := first | assumption | omega | rfl | simp only [RH]) only [↓RP, RG, FX, RQ, ↓reduceIte, Nat.reduceEqDiff, reduceCtorEq, Nat.reduceBEq, Nat.reduceAdd, Nat.reduceLeDiff, flV]
      refine ⟨1, by omega, ?_, by omega⟩
      rw [List.take_length]
      subst hdE hdP hwd hxs
      simp [hdn1, hc01, hc11, hnt]
  · rw [hdn1, hc01, hc11]
    obtain ⟨xs, hxs⟩ : ∃ xs, xf = xs := ⟨_, rfl⟩
    obtain ⟨dE, hdE⟩ : ∃ dE, xt.flatMap (gE W H) = dE := ⟨_, rfl⟩
    obtain ⟨dP, hdP⟩ : ∃ dP, xt.flatMap (gP W) = dP := ⟨_, rfl⟩
    obtain ⟨wd, hwd⟩ : ∃ wd : Nat, (xt.filter fun x => x.z).length = wd := ⟨_, rfl⟩
    have q1 := q1f
    have hfac := hff
    have hxl : xs.length ≤ 8192 := by rw [← hxs]; exact k1f
    have hdEl : dE.length ≤ 600000 := by rw [← hdE]; have := fm_len (g := gE W H) (m := 64) (xs := xt) (fun x hx => Nat.le_trans (gE_len W H x) (hn64t x hx)); omega
    have hdPl : dP.length ≤ 600000 := by rw [← hdP]; have := fm_len (g := gP W) (m := 64) (xs := xt) (fun x hx => Nat.le_trans (gP_len W x) (hn64t x hx)); omega
    have hwdl : wd ≤ 8192 := by rw [← hwd]; exact Nat.le_trans (List.length_filter_le _ _) k1t
    have hn64 : ∀ x ∈ xs, x.n ≤ 64 := by rw [← hxs]; exact hn64f
    rw [hxs] at q1 hfac
    have hEl : ∀ i, dE.length + ((xs.take i).flatMap (gE W H)).length ≤ 1200000 := fun i => by
      have h5 := fm_len (g := gE W H) (m := 64) (xs := xs.take i) fun x hx => Nat.le_trans (gE_len W H x) (hn64 x (List.mem_of_mem_take hx))
      rw [List.length_take] at h5
      have h6 : min i xs.length * 64 ≤ 8192 * 64 := Nat.mul_le_mul_right _ (by omega)
      omega
    have hPl : ∀ i, dP.length + ((xs.take i).flatMap (gP W)).length ≤ 1200000 := fun i => by
      have h5 := fm_len (g := gP W) (m := 64) (xs := xs.take i) fun x hx => Nat.le_trans (gP_len W x) (hn64 x (List.mem_of_mem_take hx))
      rw [List.length_take] at h5
      have h6 : min i xs.length * 64 ≤ 8192 * 64 := Nat.mul_le_mul_right _ (by omega)
      omega
    simp (disch := first | assumption | omega | rfl | simp only [RH]) only [↓RP, RG, FX, RQ, ↓reduceIte, Nat.reduceEqDiff, reduceCtorEq, Nat.reduceBEq, Nat.reduceAdd, Nat.reduceLeDiff, flV]
    refine callK_F 6 q1 (by simp (disch := first | assumption | omega | rfl | simp only [RH]) only [↓RP, RG, FX, RQ, ↓reduceIte, Nat.reduceEqDiff, reduceCtorEq, Nat.reduceBEq, Nat.reduceAdd, Nat.reduceLeDiff, RA] <;> rfl) (.inl (flV_fresh _ _)) ?_
    simp (disch := first | assumption | omega | rfl | simp only [RH]) only [↓RP, RG, FX, RQ, ↓reduceIte, Nat.reduceEqDiff, reduceCtorEq, Nat.reduceBEq, Nat.reduceAdd, Nat.reduceLeDiff, flV]
    refine loopK_WW [1, 3, 4, 5, 6, 7, 8, 10] (fun i : Nat => i ≤ xs.length) (fun i => ⟨[(1, .ptr 0 0 3), (3, .ref 1 0 (W * H) (W * H)), (4, .ref 2 0 (W * H) (W * H)), (5, .ptr 3 0 2), (6, I ((wd + ((xs.take i).filter fun x => x.z).length : Nat) : Int)), (7, I 1), (8, flV true xs), (10, I i)], [(⟨24, 3, [I W, I H, BA b l]⟩ : AObj), ⟨3, 1, ints (cnI (W * H) (dE ++ ((xs.take i).flatMap (gE W H))))⟩, ⟨3, 1, ints (cnI (W * H) (dP ++ ((xs.take i).flatMap (gP W))))⟩, ⟨28, 2, [I nt, I ((xs.take i).filter fun x => !x.z).length]⟩]⟩) (fun i => xs.length - i) 0 (by omega) (by simp only [↓RP, RG, FX, RQ, ↓reduceIte, Nat.reduceEqDiff, reduceCtorEq, Nat.reduceBEq, Nat.reduceAdd, Nat.reduceLeDiff]; refine Wk.of_eq ?_; subst hdE hdP hwd; simp [flV, hdn1, hc01, hc11]) ?_
    intro i hi
    by_cases hlt : i < xs.length
    · have hpx : pX (some (true, 5)) ((fls xs).drop (i * 5)) = some (.agg [B (flD xs i).w, I (flD xs i).a, I (flD xs i).f, I (flD xs i).n, B (flD xs i).z]) := pX_fls hlt
      have hxm : flD xs i ∈ xs := by rw [flD_get hlt]; exact List.getElem_mem hlt
      have hfa := hfac _ hxm
      have htk : xs.take (i + 1) = xs.take i ++ [flD xs i] := by rw [List.take_add_one, List.getElem?_eq_getElem hlt, flD_get hlt]; rfl
      have htkE : (xs.take (i + 1)).flatMap (gE W H) = (xs.take i).flatMap (gE W H) ++ gE W H (flD xs i) := by rw [htk, List.flatMap_append]; simp
      have htkP : (xs.take (i + 1)).flatMap (gP W) = (xs.take i).flatMap (gP W) ++ gP W (flD xs i) := by rw [htk, List.flatMap_append]; simp
      have hftz := filter_take (fun x : Fl => x.z) hlt
      have hftn := filter_take (fun x : Fl => !x.z) hlt
      have hfl1 := List.length_filter_le (fun x : Fl => x.z) (xs.take i)
      have hfl2 := List.length_filter_le (fun x : Fl => !x.z) (xs.take i)
      have htl : (xs.take i).length ≤ xs.length := by rw [List.length_take]; omega
      have hn6 := hn64 _ hxm
      cases hw : (flD xs i).w with
      | true =>
        cases hz : (flD xs i).z with
        | true =>
          rw [hw, hz] at hpx hfa
          unfold FFx at hfa
          simp only [↓reduceIte, Bool.false_eq_true] at hfa
          obtain ⟨f1, f2, f3, f4, f5, f6, f7, f8⟩ := hfa
          have hgE : gE W H (flD xs i) = (List.range (flD xs i).n).map (fun j => W * (((flD xs i).f + j) % H) + (flD xs i).a) := by
            unfold gE psF; rw [hw]; rw [if_pos rfl, List.map_map]; rfl
          have hgP : gP W (flD xs i) = [] := by
            unfold gP psF; rw [hw]; rfl
          have hzl : (((flD xs i).n : Int) == (H : Int)) = true := by
            rw [Bool.eq_iff_iff, beq_iff_eq]; have := of_decide_eq_true f5.symm; simp; omega
          have hface : ∀ k : Nat, k < (flD xs i).n → Contract Tryd.prog 10 [GA W H b l, B true, I (flD xs i).a, I (((flD xs i).f : Int) + (k : Int))] (B false) := fun k hk => by
            have h9 := faceC_c hW0 hH0 hW hH b hn f1 (i := ((flD xs i).f : Int) + (k : Int)) (by omega) (by omega)
            rw [show ((flD xs i).f : Int) + (k : Int) = (((flD xs i).f + k : Nat) : Int) by omega, at_mod2, f7 k hk] at h9
            rw [show ((flD xs i).f : Int) + (k : Int) = (((flD xs i).f + k : Nat) : Int) by omega]
            exact h9
          have f60 : (flD xs i).f = 0 := f6 (by simp)
          simp (disch := first | assumption | omega | rfl | simp only [RH]) only [↓RP, RG, FX, RQ, ↓reduceIte, Nat.reduceEqDiff, reduceCtorEq, Nat.reduceBEq, Nat.reduceAdd, Nat.reduceLeDiff, flV, hpx, Int.toNat_natCast]
          refine callK_F 6 (cellsC_c W H b l) (by simp (disch := first | assumption | omega | rfl | simp only [RH]) only [↓RP, RG, FX, RQ, ↓reduceIte, Nat.reduceEqDiff, reduceCtorEq, Nat.reduceBEq, Nat.reduceAdd, Nat.reduceLeDiff, RA] <;> rfl) (.inl rfl) ?_
          simp (disch := first | assumption | omega | rfl | simp only [RH]) only [↓RP, RG, FX, RQ, ↓reduceIte, Nat.reduceEqDiff, reduceCtorEq, Nat.reduceBEq, Nat.reduceAdd, Nat.reduceLeDiff, flV, Int.toNat_natCast]
          refine callK_F 6 (cellsR_c W H b l) (by simp (disch := first | assumption | omega | rfl | simp only [RH]) only [↓RP, RG, FX, RQ, ↓reduceIte, Nat.reduceEqDiff, reduceCtorEq, Nat.reduceBEq, Nat.reduceAdd, Nat.reduceLeDiff, RA] <;> rfl) (.inl rfl) ?_
          simp (disch := first | assumption | omega | rfl | simp only [RH]) only [↓RP, RG, FX, RQ, ↓reduceIte, Nat.reduceEqDiff, reduceCtorEq, Nat.reduceBEq, Nat.reduceAdd, Nat.reduceLeDiff, flV, hzl, t1, t2, t3, t4, Bool.not_true, Bool.not_false, Int.toNat_natCast]
          refine loopK_I [1, 3, 4, 5, 6, 7, 8, 10, 11, 14, 15] (fun k : Nat => k ≤ (flD xs i).n) (fun k => ⟨[(1, .ptr 0 0 3), (3, .ref 1 0 (W * H) (W * H)), (4, .ref 2 0 (W * H) (W * H)), (5, .ptr 3 0 2), (6, I ((wd + ((xs.take i).filter fun x => x.z).length : Nat) : Int)), (7, I 1), (8, flV true xs), (10, I i), (11, .ptr 4 0 5), (14, B false), (15, I k)], [(⟨24, 3, [I W, I H, BA b l]⟩ : AObj), ⟨3, 1, ints (cnI (W * H) (dE ++ ((xs.take i).flatMap (gE W H)) ++ (List.range k).map (fun j => W * (((flD xs i).f + j) % H) + (flD xs i).a)))⟩, ⟨3, 1, ints (cnI (W * H) (dP ++ ((xs.take i).flatMap (gP W))))⟩, ⟨28, 2, [I nt, I ((xs.take i).filter fun x => !x.z).length]⟩, ⟨34, 5, [B true, I (flD xs i).a, I (flD xs i).f, I (flD xs i).n, B true]⟩]⟩) (fun k => (flD xs i).n - k) 0 (by omega) (by simp only [↓RP, RG, FX, RQ, ↓reduceIte, Nat.reduceEqDiff, reduceCtorEq, Nat.reduceBEq, Nat.reduceAdd, Nat.reduceLeDiff]; simp [flV]) ?_
          · intro k hk
            by_cases hlk : k < (flD xs i).n
            · have hfk := hface k hlk
              have hr := rem_int2 (a := ((flD xs i).f : Int) + (k : Int)) (b := (H : Int)) (by omega) (by omega)
              rw [show (((flD xs i).f : Int) + (k : Int)).toNat = (flD xs i).f + k by omega, Int.toNat_natCast] at hr
              have hpL : ((flD xs i).f + k) % H < H := Nat.mod_lt _ (by omega)
              have hstep : (List.range (k + 1)).map (fun j => W * (((flD xs i).f + j) % H) + (flD xs i).a) = (List.range k).map (fun j => W * (((flD xs i).f + j) % H) + (flD xs i).a) ++ [W * (((flD xs i).f + k) % H) + (flD xs i).a] := by rw [List.range_succ, List.map_append]; rfl
              have hjn : W * (((flD xs i).f + k) % H) + (flD xs i).a < W * H := idx_lt f1 hpL
              have hb1 : (dE ++ ((xs.take i).flatMap (gE W H)) ++ (List.range k).map (fun j => W * (((flD xs i).f + j) % H) + (flD xs i).a)).length ≤ 3000000 := by
                rw [List.length_append, List.length_append, List.length_map, List.length_range]
                have := hEl i; omega
              have hcn := List.count_le_length (a := W * (((flD xs i).f + k) % H) + (flD xs i).a) (l := dE ++ ((xs.take i).flatMap (gE W H)) ++ (List.range k).map (fun j => W * (((flD xs i).f + j) % H) + (flD xs i).a))
              have hget := cnI_get (n := W * H) (S := dE ++ ((xs.take i).flatMap (gE W H)) ++ (List.range k).map (fun j => W * (((flD xs i).f + j) % H) + (flD xs i).a)) hjn
              have hset := cnI_set (n := W * H) (S := dE ++ ((xs.take i).flatMap (gE W H)) ++ (List.range k).map (fun j => W * (((flD xs i).f + j) % H) + (flD xs i).a)) hjn
              have hcl := cnI_len (W * H) (dE ++ ((xs.take i).flatMap (gE W H)) ++ (List.range k).map (fun j => W * (((flD xs i).f + j) % H) + (flD xs i).a))
              rw [show dE ++ ((xs.take i).flatMap (gE W H)) ++ (List.range k).map (fun j => W * (((flD xs i).f + j) % H) + (flD xs i).a) ++ [W * (((flD xs i).f + k) % H) + (flD xs i).a] = dE ++ ((xs.take i).flatMap (gE W H)) ++ (List.range (k + 1)).map (fun j => W * (((flD xs i).f + j) % H) + (flD xs i).a) by rw [hstep, ← List.append_assoc]] at hset
              generalize ((flD xs i).f + k) % H = p at *
              generalize (dE ++ ((xs.take i).flatMap (gE W H)) ++ (List.range k).map (fun j => W * (((flD xs i).f + j) % H) + (flD xs i).a)).count (W * p + (flD xs i).a) = cc at *
              generalize cnI (W * H) (dE ++ ((xs.take i).flatMap (gE W H)) ++ (List.range k).map (fun j => W * (((flD xs i).f + j) % H) + (flD xs i).a)) = S1 at *
              have m1 : (p : Int) * (W : Int) = ((W * p : Nat) : Int) := by rw [Int.natCast_mul, Int.mul_comm]
              have m2 : ((W * p : Nat) : Int) + ((flD xs i).a : Int) = ((W * p + (flD xs i).a : Nat) : Int) := by omega
              simp (disch := first | assumption | omega | rfl | simp only [RH]) only [↓RP, RG, FX, RQ, ↓reduceIte, Nat.reduceEqDiff, reduceCtorEq, Nat.reduceBEq, Nat.reduceAdd, Nat.reduceLeDiff, flV, Int.toNat_natCast]
              refine callK_F 6 hfk (by simp (disch := first | assumption | omega | rfl | simp only [RH]) only [↓RP, RG, FX, RQ, ↓reduceIte, Nat.reduceEqDiff, reduceCtorEq, Nat.reduceBEq, Nat.reduceAdd, Nat.reduceLeDiff, RA] <;> rfl) (.inl rfl) ?_
              simp (disch := first | assumption | omega | rfl | simp only [RH]) only [↓RP, RG, FX, RQ, ↓reduceIte, Nat.reduceEqDiff, reduceCtorEq, Nat.reduceBEq, Nat.reduceAdd, Nat.reduceLeDiff, flV, hr, m1, m2, hget, t1, t2, t3, t4, Bool.not_true, Bool.not_false, Int.toNat_natCast]
              exact ⟨k + 1, hlk, by rw [hset]; first | rfl | (simp only [List.append_assoc]; rfl), by omega⟩
            · obtain rfl : (flD xs i).n = k := by omega
              rw [← hgE]
              simp (disch := first | assumption | omega | rfl | simp only [RH]) only [↓RP, RG, FX, RQ, ↓reduceIte, Nat.reduceEqDiff, reduceCtorEq, Nat.reduceBEq, Nat.reduceAdd, Nat.reduceLeDiff, flV, idxA_ptr, hd0, hd1, t0, t5, Int.toNat_natCast]
              refine ⟨i + 1, hlt, (Wk.drop (hb := []) (h1 := []) (gs := [_, _, _, _, _]) 8 [0, 1, 2, 3] rfl (by decide) (by simp) (by simp)).trans (Wk.of_eq ?_), by omega⟩
              rw [hftz, hftn, htkE, htkP, hz, hgP]
              simp only [RK, List.idxOf?_cons, List.idxOf?_nil, Nat.reduceBEq, Option.map_some, Option.map_none, List.map_cons, List.map_nil, List.getD_cons_zero, List.getD_cons_succ, Bool.false_eq_true, ↓reduceIte, Nat.add_zero, List.append_nil, map_ren_bools, map_ren_ints, map_ren_fls, Bool.not_true, Bool.not_false, if_true, if_false, Bool.false_eq_true, List.append_nil, List.length_append, List.length_singleton, List.append_assoc]
              rfl
        | false =>
          rw [hw, hz] at hpx hfa
          unfold FFx at hfa
          simp only [↓reduceIte, Bool.false_eq_true] at hfa
          obtain ⟨f1, f2, f3, f4, f5, f6, f7, f8⟩ := hfa
          have hgE : gE W H (flD xs i) = (List.range (flD xs i).n).map (fun j => W * (((flD xs i).f + j) % H) + (flD xs i).a) := by
            unfold gE psF; rw [hw]; rw [if_pos rfl, List.map_map]; rfl
          have hgP : gP W (flD xs i) = [] := by
            unfold gP psF; rw [hw]; rfl
          have hzl : (((flD xs i).n : Int) == (H : Int)) = false := by
            rw [Bool.eq_iff_iff, beq_iff_eq]; have := of_decide_eq_false f5.symm; simp; omega
          have hface : ∀ k : Nat, k < (flD xs i).n → Contract Tryd.prog 10 [GA W H b l, B true, I (flD xs i).a, I (((flD xs i).f : Int) + (k : Int))] (B false) := fun k hk => by
            have h9 := faceC_c hW0 hH0 hW hH b hn f1 (i := ((flD xs i).f : Int) + (k : Int)) (by omega) (by omega)
            rw [show ((flD xs i).f : Int) + (k : Int) = (((flD xs i).f + k : Nat) : Int) by omega, at_mod2, f7 k hk] at h9
            rw [show ((flD xs i).f : Int) + (k : Int) = (((flD xs i).f + k : Nat) : Int) by omega]
            exact h9
          obtain ⟨g1, g2⟩ := f8 (by simp)
          have hfm : Contract Tryd.prog 10 [GA W H b l, B true, I (flD xs i).a, I (((flD xs i).f : Int) - 1)] (B true) := by
            have h9 := faceC_c hW0 hH0 hW hH b hn f1 (i := ((flD xs i).f : Int) - 1) (by omega) (by omega)
            have e9 : (((flD xs i).f : Int) - 1) % (H : Int) = (((flD xs i).f + (H - 1) : Nat) : Int) % (H : Int) := by
              rw [show (((flD xs i).f + (H - 1) : Nat) : Int) = (((flD xs i).f : Int) - 1) + (H : Int) by omega, Int.add_emod_right]
            rw [e9, at_mod2, Bool.eq_true_of_ne g1] at h9
            exact h9
          have hfp : Contract Tryd.prog 10 [GA W H b l, B true, I (flD xs i).a, I (((flD xs i).f : Int) + ((flD xs i).n : Int))] (B true) := by
            have h9 := faceC_c hW0 hH0 hW hH b hn f1 (i := ((flD xs i).f : Int) + ((flD xs i).n : Int)) (by omega) (by omega)
            rw [show ((flD xs i).f : Int) + ((flD xs i).n : Int) = (((flD xs i).f + (flD xs i).n : Nat) : Int) by omega, at_mod2, Bool.eq_true_of_ne g2] at h9
            rw [show ((flD xs i).f : Int) + ((flD xs i).n : Int) = (((flD xs i).f + (flD xs i).n : Nat) : Int) by omega]
            exact h9
          simp (disch := first | assumption | omega | rfl | simp only [RH]) only [↓RP, RG, FX, RQ, ↓reduceIte, Nat.reduceEqDiff, reduceCtorEq, Nat.reduceBEq, Nat.reduceAdd, Nat.reduceLeDiff, flV, hpx, Int.toNat_natCast]
          refine callK_F 6 (cellsC_c W H b l) (by simp (disch := first | assumption | omega | rfl | simp only [RH]) only [↓RP, RG, FX, RQ, ↓reduceIte, Nat.reduceEqDiff, reduceCtorEq, Nat.reduceBEq, Nat.reduceAdd, Nat.reduceLeDiff, RA] <;> rfl) (.inl rfl) ?_
          simp (disch := first | assumption | omega | rfl | simp only [RH]) only [↓RP, RG, FX, RQ, ↓reduceIte, Nat.reduceEqDiff, reduceCtorEq, Nat.reduceBEq, Nat.reduceAdd, Nat.reduceLeDiff, flV, Int.toNat_natCast]
          refine callK_F 6 (cellsR_c W H b l) (by simp (disch := first | assumption | omega | rfl | simp only [RH]) only [↓RP, RG, FX, RQ, ↓reduceIte, Nat.reduceEqDiff, reduceCtorEq, Nat.reduceBEq, Nat.reduceAdd, Nat.reduceLeDiff, RA] <;> rfl) (.inl rfl) ?_
          simp (disch := first | assumption | omega | rfl | simp only [RH]) only [↓RP, RG, FX, RQ, ↓reduceIte, Nat.reduceEqDiff, reduceCtorEq, Nat.reduceBEq, Nat.reduceAdd, Nat.reduceLeDiff, flV, hzl, t1, t2, t3, t4, Bool.not_true, Bool.not_false, Int.toNat_natCast]
          refine callK_F 6 hfm (by simp (disch := first | assumption | omega | rfl | simp only [RH]) only [↓RP, RG, FX, RQ, ↓reduceIte, Nat.reduceEqDiff, reduceCtorEq, Nat.reduceBEq, Nat.reduceAdd, Nat.reduceLeDiff, RA] <;> rfl) (.inl rfl) ?_
          simp (disch := first | assumption | omega | rfl | simp only [RH]) only [↓RP, RG, FX, RQ, ↓reduceIte, Nat.reduceEqDiff, reduceCtorEq, Nat.reduceBEq, Nat.reduceAdd, Nat.reduceLeDiff, flV, t1, t2, t3, t4, Bool.not_true, Bool.not_false, Int.toNat_natCast]
          refine callK_F 6 hfp (by simp (disch := first | assumption | omega | rfl | simp only [RH]) only [↓RP, RG, FX, RQ, ↓reduceIte, Nat.reduceEqDiff, reduceCtorEq, Nat.reduceBEq, Nat.reduceAdd, Nat.reduceLeDiff, RA] <;> rfl) (.inl rfl) ?_
          simp (disch := first | assumption | omega | rfl | simp only [RH]) only [↓RP, RG, FX, RQ, ↓reduceIte, Nat.reduceEqDiff, reduceCtorEq, Nat.reduceBEq, Nat.reduceAdd, Nat.reduceLeDiff, flV, t1, t2, t3, t4, Bool.not_true, Bool.not_false, Int.toNat_natCast]
          refine loopK_I [1, 3, 4, 5, 6, 7, 8, 10, 11, 14, 15] (fun k : Nat => k ≤ (flD xs i).n) (fun k => ⟨[(1, .ptr 0 0 3), (3, .ref 1 0 (W * H) (W * H)), (4, .ref 2 0 (W * H) (W * H)), (5, .ptr 3 0 2), (6, I ((wd + ((xs.take i).filter fun x => x.z).length : Nat) : Int)), (7, I 1), (8, flV true xs), (10, I i), (11, .ptr 4 0 5), (14, B false), (15, I k)], [(⟨24, 3, [I W, I H, BA b l]⟩ : AObj), ⟨3, 1, ints (cnI (W * H) (dE ++ ((xs.take i).flatMap (gE W H)) ++ (List.range k).map (fun j => W * (((flD xs i).f + j) % H) + (flD xs i).a)))⟩, ⟨3, 1, ints (cnI (W * H) (dP ++ ((xs.take i).flatMap (gP W))))⟩, ⟨28, 2, [I nt, I ((xs.take i).filter fun x => !x.z).length]⟩, ⟨34, 5, [B true, I (flD xs i).a, I (flD xs i).f, I (flD xs i).n, B false]⟩]⟩) (fun k => (flD xs i).n - k) 0 (by omega) (by simp only [↓RP, RG, FX, RQ, ↓reduceIte, Nat.reduceEqDiff, reduceCtorEq, Nat.reduceBEq, Nat.reduceAdd, Nat.reduceLeDiff]; simp [flV]) ?_
          · intro k hk
            by_cases hlk : k < (flD xs i).n
            · have hfk := hface k hlk
              have hr := rem_int2 (a := ((flD xs i).f : Int) + (k : Int)) (b := (H : Int)) (by omega) (by omega)
              rw [show (((flD xs i).f : Int) + (k : Int)).toNat = (flD xs i).f + k by omega, Int.toNat_natCast] at hr
              have hpL : ((flD xs i).f + k) % H < H := Nat.mod_lt _ (by omega)
              have hstep : (List.range (k + 1)).map (fun j => W * (((flD xs i).f + j) % H) + (flD xs i).a) = (List.range k).map (fun j => W * (((flD xs i).f + j) % H) + (flD xs i).a) ++ [W * (((flD xs i).f + k) % H) + (flD xs i).a] := by rw [List.range_succ, List.map_append]; rfl
              have hjn : W * (((flD xs i).f + k) % H) + (flD xs i).a < W * H := idx_lt f1 hpL
              have hb1 : (dE ++ ((xs.take i).flatMap (gE W H)) ++ (List.range k).map (fun j => W * (((flD xs i).f + j) % H) + (flD xs i).a)).length ≤ 3000000 := by
                rw [List.length_append, List.length_append, List.length_map, List.length_range]
                have := hEl i; omega
              have hcn := List.count_le_length (a := W * (((flD xs i).f + k) % H) + (flD xs i).a) (l := dE ++ ((xs.take i).flatMap (gE W H)) ++ (List.range k).map (fun j => W * (((flD xs i).f + j) % H) + (flD xs i).a))
              have hget := cnI_get (n := W * H) (S := dE ++ ((xs.take i).flatMap (gE W H)) ++ (List.range k).map (fun j => W * (((flD xs i).f + j) % H) + (flD xs i).a)) hjn
              have hset := cnI_set (n := W * H) (S := dE ++ ((xs.take i).flatMap (gE W H)) ++ (List.range k).map (fun j => W * (((flD xs i).f + j) % H) + (flD xs i).a)) hjn
              have hcl := cnI_len (W * H) (dE ++ ((xs.take i).flatMap (gE W H)) ++ (List.range k).map (fun j => W * (((flD xs i).f + j) % H) + (flD xs i).a))
              rw [show dE ++ ((xs.take i).flatMap (gE W H)) ++ (List.range k).map (fun j => W * (((flD xs i).f + j) % H) + (flD xs i).a) ++ [W * (((flD xs i).f + k) % H) + (flD xs i).a] = dE ++ ((xs.take i).flatMap (gE W H)) ++ (List.range (k + 1)).map (fun j => W * (((flD xs i).f + j) % H) + (flD xs i).a) by rw [hstep, ← List.append_assoc]] at hset
              generalize ((flD xs i).f + k) % H = p at *
              generalize (dE ++ ((xs.take i).flatMap (gE W H)) ++ (List.range k).map (fun j => W * (((flD xs i).f + j) % H) + (flD xs i).a)).count (W * p + (flD xs i).a) = cc at *
              generalize cnI (W * H) (dE ++ ((xs.take i).flatMap (gE W H)) ++ (List.range k).map (fun j => W * (((flD xs i).f + j) % H) + (flD xs i).a)) = S1 at *
              have m1 : (p : Int) * (W : Int) = ((W * p : Nat) : Int) := by rw [Int.natCast_mul, Int.mul_comm]
              have m2 : ((W * p : Nat) : Int) + ((flD xs i).a : Int) = ((W * p + (flD xs i).a : Nat) : Int) := by omega
              simp (disch := first | assumption | omega | rfl | simp only [RH]) only [↓RP, RG, FX, RQ, ↓reduceIte, Nat.reduceEqDiff, reduceCtorEq, Nat.reduceBEq, Nat.reduceAdd, Nat.reduceLeDiff, flV, Int.toNat_natCast]
              refine callK_F 6 hfk (by simp (disch := first | assumption | omega | rfl | simp only [RH]) only [↓RP, RG, FX, RQ, ↓reduceIte, Nat.reduceEqDiff, reduceCtorEq, Nat.reduceBEq, Nat.reduceAdd, Nat.reduceLeDiff, RA] <;> rfl) (.inl rfl) ?_
              simp (disch := first | assumption | omega | rfl | simp only [RH]) only [↓RP, RG, FX, RQ, ↓reduceIte, Nat.reduceEqDiff, reduceCtorEq, Nat.reduceBEq, Nat.reduceAdd, Nat.reduceLeDiff, flV, hr, m1, m2, hget, t1, t2, t3, t4, Bool.not_true, Bool.not_false, Int.toNat_natCast]
              exact ⟨k + 1, hlk, by rw [hset]; first | rfl | (simp only [List.append_assoc]; rfl), by omega⟩
            · obtain rfl : (flD xs i).n = k := by omega
              rw [← hgE]
              simp (disch := first | assumption | omega | rfl | simp only [RH]) only [↓RP, RG, FX, RQ, ↓reduceIte, Nat.reduceEqDiff, reduceCtorEq, Nat.reduceBEq, Nat.reduceAdd, Nat.reduceLeDiff, flV, idxA_ptr, hd0, hd1, t0, t5, Int.toNat_natCast]
              refine ⟨i + 1, hlt, (Wk.drop (hb := []) (h1 := []) (gs := [_, _, _, _, _]) 8 [0, 1, 2, 3] rfl (by decide) (by simp) (by simp)).trans (Wk.of_eq ?_), by omega⟩
              rw [hftz, hftn, htkE, htkP, hz, hgP]
              simp only [RK, List.idxOf?_cons, List.idxOf?_nil, Nat.reduceBEq, Option.map_some, Option.map_none, List.map_cons, List.map_nil, List.getD_cons_zero, List.getD_cons_succ, Bool.false_eq_true, ↓reduceIte, Nat.add_zero, List.append_nil, map_ren_bools, map_ren_ints, map_ren_fls, Bool.not_true, Bool.not_false, if_true, if_false, Bool.false_eq_true, List.append_nil, List.length_append, List.length_singleton, List.append_assoc]
              rfl
      | false =>
        cases hz : (flD xs i).z with
        | true =>
          rw [hw, hz] at hpx hfa
          unfold FFx at hfa
          simp only [↓reduceIte, Bool.false_eq_true] at hfa
          obtain ⟨f1, f2, f3, f4, f5, f6, f7, f8⟩ := hfa
          have hgE : gE W H (flD xs i) = [] := by
            unfold gE psF; rw [hw]; rfl
          have hgP : gP W (flD xs i) = (List.range (flD xs i).n).map (fun j => W * (flD xs i).a + ((flD xs i).f + j) % W) := by
            unfold gP psF; rw [hw]; rw [if_neg (by simp), List.map_map]; rfl
          have hzl : (((flD xs i).n : Int) == (W : Int)) = true := by
            rw [Bool.eq_iff_iff, beq_iff_eq]; have := of_decide_eq_true f5.symm; simp; omega
          have hface : ∀ k : Nat, k < (flD xs i).n → Contract Tryd.prog 10 [GA W H b l, B false, I (flD xs i).a, I (((flD xs i).f : Int) + (k : Int))] (B false) := fun k hk => by
            have h9 := faceR_c hW0 hH0 hW hH b hn f1 (i := ((flD xs i).f : Int) + (k : Int)) (by omega) (by omega)
            rw [show ((flD xs i).f : Int) + (k : Int) = (((flD xs i).f + k : Nat) : Int) by omega, at_mod2, f7 k hk] at h9
            rw [show ((flD xs i).f : Int) + (k : Int) = (((flD xs i).f + k : Nat) : Int) by omega]
            exact h9
          have f60 : (flD xs i).f = 0 := f6 (by simp)
          simp (disch := first | assumption | omega | rfl | simp only [RH]) only [↓RP, RG, FX, RQ, ↓reduceIte, Nat.reduceEqDiff, reduceCtorEq, Nat.reduceBEq, Nat.reduceAdd, Nat.reduceLeDiff, flV, hpx, Int.toNat_natCast]
          refine callK_F 6 (cellsR_c W H b l) (by simp (disch := first | assumption | omega | rfl | simp only [RH]) only [↓RP, RG, FX, RQ, ↓reduceIte, Nat.reduceEqDiff, reduceCtorEq, Nat.reduceBEq, Nat.reduceAdd, Nat.reduceLeDiff, RA] <;> rfl) (.inl rfl) ?_
          simp (disch := first | assumption | omega | rfl | simp only [RH]) only [↓RP, RG, FX, RQ, ↓reduceIte, Nat.reduceEqDiff, reduceCtorEq, Nat.reduceBEq, Nat.reduceAdd, Nat.reduceLeDiff, flV, Int.toNat_natCast]
          refine callK_F 6 (cellsC_c W H b l) (by simp (disch := first | assumption | omega | rfl | simp only [RH]) only [↓RP, RG, FX, RQ, ↓reduceIte, Nat.reduceEqDiff, reduceCtorEq, Nat.reduceBEq, Nat.reduceAdd, Nat.reduceLeDiff, RA] <;> rfl) (.inl rfl) ?_
          simp (disch := first | assumption | omega | rfl | simp only [RH]) only [↓RP, RG, FX, RQ, ↓reduceIte, Nat.reduceEqDiff, reduceCtorEq, Nat.reduceBEq, Nat.reduceAdd, Nat.reduceLeDiff, flV, hzl, t1, t2, t3, t4, Bool.not_true, Bool.not_false, Int.toNat_natCast]
          refine loopK_I [1, 3, 4, 5, 6, 7, 8, 10, 11, 14, 15] (fun k : Nat => k ≤ (flD xs i).n) (fun k => ⟨[(1, .ptr 0 0 3), (3, .ref 1 0 (W * H) (W * H)), (4, .ref 2 0 (W * H) (W * H)), (5, .ptr 3 0 2), (6, I ((wd + ((xs.take i).filter fun x => x.z).length : Nat) : Int)), (7, I 1), (8, flV true xs), (10, I i), (11, .ptr 4 0 5), (14, B false), (15, I k)], [(⟨24, 3, [I W, I H, BA b l]⟩ : AObj), ⟨3, 1, ints (cnI (W * H) (dE ++ ((xs.take i).flatMap (gE W H))))⟩, ⟨3, 1, ints (cnI (W * H) (dP ++ ((xs.take i).flatMap (gP W)) ++ (List.range k).map (fun j => W * (flD xs i).a + ((flD xs i).f + j) % W)))⟩, ⟨28, 2, [I nt, I ((xs.take i).filter fun x => !x.z).length]⟩, ⟨34, 5, [B false, I (flD xs i).a, I (flD xs i).f, I (flD xs i).n, B true]⟩]⟩) (fun k => (flD xs i).n - k) 0 (by omega) (by simp only [↓RP, RG, FX, RQ, ↓reduceIte, Nat.reduceEqDiff, reduceCtorEq, Nat.reduceBEq, Nat.reduceAdd, Nat.reduceLeDiff]; simp [flV]) ?_
          · intro k hk
            by_cases hlk : k < (flD xs i).n
            · have hfk := hface k hlk
              have hr := rem_int2 (a := ((flD xs i).f : Int) + (k : Int)) (b := (W : Int)) (by omega) (by omega)
              rw [show (((flD xs i).f : Int) + (k : Int)).toNat = (flD xs i).f + k by omega, Int.toNat_natCast] at hr
              have hpL : ((flD xs i).f + k) % W < W := Nat.mod_lt _ (by omega)
              have hstep : (List.range (k + 1)).map (fun j => W * (flD xs i).a + ((flD xs i).f + j) % W) = (List.range k).map (fun j => W * (flD xs i).a + ((flD xs i).f + j) % W) ++ [W * (flD xs i).a + ((flD xs i).f + k) % W] := by rw [List.range_succ, List.map_append]; rfl
              have hjn : W * (flD xs i).a + ((flD xs i).f + k) % W < W * H := idx_lt hpL f1
              have hb1 : (dP ++ ((xs.take i).flatMap (gP W)) ++ (List.range k).map (fun j => W * (flD xs i).a + ((flD xs i).f + j) % W)).length ≤ 3000000 := by
                rw [List.length_append, List.length_append, List.length_map, List.length_range]
                have := hPl i; omega
              have hcn := List.count_le_length (a := W * (flD xs i).a + ((flD xs i).f + k) % W) (l := dP ++ ((xs.take i).flatMap (gP W)) ++ (List.range k).map (fun j => W * (flD xs i).a + ((flD xs i).f + j) % W))
              have hget := cnI_get (n := W * H) (S := dP ++ ((xs.take i).flatMap (gP W)) ++ (List.range k).map (fun j => W * (flD xs i).a + ((flD xs i).f + j) % W)) hjn
              have hset := cnI_set (n := W * H) (S := dP ++ ((xs.take i).flatMap (gP W)) ++ (List.range k).map (fun j => W * (flD xs i).a + ((flD xs i).f + j) % W)) hjn
              have hcl := cnI_len (W * H) (dP ++ ((xs.take i).flatMap (gP W)) ++ (List.range k).map (fun j => W * (flD xs i).a + ((flD xs i).f + j) % W))
              rw [show dP ++ ((xs.take i).flatMap (gP W)) ++ (List.range k).map (fun j => W * (flD xs i).a + ((flD xs i).f + j) % W) ++ [W * (flD xs i).a + ((flD xs i).f + k) % W] = dP ++ ((xs.take i).flatMap (gP W)) ++ (List.range (k + 1)).map (fun j => W * (flD xs i).a + ((flD xs i).f + j) % W) by rw [hstep, ← List.append_assoc]] at hset
              generalize ((flD xs i).f + k) % W = p at *
              generalize (dP ++ ((xs.take i).flatMap (gP W)) ++ (List.range k).map (fun j => W * (flD xs i).a + ((flD xs i).f + j) % W)).count (W * (flD xs i).a + p) = cc at *
              generalize cnI (W * H) (dP ++ ((xs.take i).flatMap (gP W)) ++ (List.range k).map (fun j => W * (flD xs i).a + ((flD xs i).f + j) % W)) = S2 at *
              have m1 : ((flD xs i).a : Int) * (W : Int) = ((W * (flD xs i).a : Nat) : Int) := by rw [Int.natCast_mul, Int.mul_comm]
              have m2 : ((W * (flD xs i).a : Nat) : Int) + (p : Int) = ((W * (flD xs i).a + p : Nat) : Int) := by omega
              simp (disch := first | assumption | omega | rfl | simp only [RH]) only [↓RP, RG, FX, RQ, ↓reduceIte, Nat.reduceEqDiff, reduceCtorEq, Nat.reduceBEq, Nat.reduceAdd, Nat.reduceLeDiff, flV, Int.toNat_natCast]
              refine callK_F 6 hfk (by simp (disch := first | assumption | omega | rfl | simp only [RH]) only [↓RP, RG, FX, RQ, ↓reduceIte, Nat.reduceEqDiff, reduceCtorEq, Nat.reduceBEq, Nat.reduceAdd, Nat.reduceLeDiff, RA] <;> rfl) (.inl rfl) ?_
              simp (disch := first | assumption | omega | rfl | simp only [RH]) only [↓RP, RG, FX, RQ, ↓reduceIte, Nat.reduceEqDiff, reduceCtorEq, Nat.reduceBEq, Nat.reduceAdd, Nat.reduceLeDiff, flV, hr, m1, m2, hget, t1, t2, t3, t4, Bool.not_true, Bool.not_false, Int.toNat_natCast]
              exact ⟨k + 1, hlk, by rw [hset]; first | rfl | (simp only [List.append_assoc]; rfl), by omega⟩
            · obtain rfl : (flD xs i).n = k := by omega
              rw [← hgP]
              simp (disch := first | assumption | omega | rfl | simp only [RH]) only [↓RP, RG, FX, RQ, ↓reduceIte, Nat.reduceEqDiff, reduceCtorEq, Nat.reduceBEq, Nat.reduceAdd, Nat.reduceLeDiff, flV, idxA_ptr, hd0, hd1, t0, t5, Int.toNat_natCast]
              refine ⟨i + 1, hlt, (Wk.drop (hb := []) (h1 := []) (gs := [_, _, _, _, _]) 8 [0, 1, 2, 3] rfl (by decide) (by simp) (by simp)).trans (Wk.of_eq ?_), by omega⟩
              rw [hftz, hftn, htkE, htkP, hz, hgE]
              simp only [RK, List.idxOf?_cons, List.idxOf?_nil, Nat.reduceBEq, Option.map_some, Option.map_none, List.map_cons, List.map_nil, List.getD_cons_zero, List.getD_cons_succ, Bool.false_eq_true, ↓reduceIte, Nat.add_zero, List.append_nil, map_ren_bools, map_ren_ints, map_ren_fls, Bool.not_true, Bool.not_false, if_true, if_false, Bool.false_eq_true, List.append_nil, List.length_append, List.length_singleton, List.append_assoc]
              rfl
        | false =>
          rw [hw, hz] at hpx hfa
          unfold FFx at hfa
          simp only [↓reduceIte, Bool.false_eq_true] at hfa
          obtain ⟨f1, f2, f3, f4, f5, f6, f7, f8⟩ := hfa
          have hgE : gE W H (flD xs i) = [] := by
            unfold gE psF; rw [hw]; rfl
          have hgP : gP W (flD xs i) = (List.range (flD xs i).n).map (fun j => W * (flD xs i).a + ((flD xs i).f + j) % W) := by
            unfold gP psF; rw [hw]; rw [if_neg (by simp), List.map_map]; rfl
          have hzl : (((flD xs i).n : Int) == (W : Int)) = false := by
            rw [Bool.eq_iff_iff, beq_iff_eq]; have := of_decide_eq_false f5.symm; simp; omega
          have hface : ∀ k : Nat, k < (flD xs i).n → Contract Tryd.prog 10 [GA W H b l, B false, I (flD xs i).a, I (((flD xs i).f : Int) + (k : Int))] (B false) := fun k hk => by
            have h9 := faceR_c hW0 hH0 hW hH b hn f1 (i := ((flD xs i).f : Int) + (k : Int)) (by omega) (by omega)
            rw [show ((flD xs i).f : Int) + (k : Int) = (((flD xs i).f + k : Nat) : Int) by omega, at_mod2, f7 k hk] at h9
            rw [show ((flD xs i).f : Int) + (k : Int) = (((flD xs i).f + k : Nat) : Int) by omega]
            exact h9
          obtain ⟨g1, g2⟩ := f8 (by simp)
          have hfm : Contract Tryd.prog 10 [GA W H b l, B false, I (flD xs i).a, I (((flD xs i).f : Int) - 1)] (B true) := by
            have h9 := faceR_c hW0 hH0 hW hH b hn f1 (i := ((flD xs i).f : Int) - 1) (by omega) (by omega)
            have e9 : (((flD xs i).f : Int) - 1) % (W : Int) = (((flD xs i).f + (W - 1) : Nat) : Int) % (W : Int) := by
              rw [show (((flD xs i).f + (W - 1) : Nat) : Int) = (((flD xs i).f : Int) - 1) + (W : Int) by omega, Int.add_emod_right]
            rw [e9, at_mod2, Bool.eq_true_of_ne g1] at h9
            exact h9
          have hfp : Contract Tryd.prog 10 [GA W H b l, B false, I (flD xs i).a, I (((flD xs i).f : Int) + ((flD xs i).n : Int))] (B true) := by
            have h9 := faceR_c hW0 hH0 hW hH b hn f1 (i := ((flD xs i).f : Int) + ((flD xs i).n : Int)) (by omega) (by omega)
            rw [show ((flD xs i).f : Int) + ((flD xs i).n : Int) = (((flD xs i).f + (flD xs i).n : Nat) : Int) by omega, at_mod2, Bool.eq_true_of_ne g2] at h9
            rw [show ((flD xs i).f : Int) + ((flD xs i).n : Int) = (((flD xs i).f + (flD xs i).n : Nat) : Int) by omega]
            exact h9
          simp (disch := first | assumption | omega | rfl | simp only [RH]) only [↓RP, RG, FX, RQ, ↓reduceIte, Nat.reduceEqDiff, reduceCtorEq, Nat.reduceBEq, Nat.reduceAdd, Nat.reduceLeDiff, flV, hpx, Int.toNat_natCast]
          refine callK_F 6 (cellsR_c W H b l) (by simp (disch := first | assumption | omega | rfl | simp only [RH]) only [↓RP, RG, FX, RQ, ↓reduceIte, Nat.reduceEqDiff, reduceCtorEq, Nat.reduceBEq, Nat.reduceAdd, Nat.reduceLeDiff, RA] <;> rfl) (.inl rfl) ?_
          simp (disch := first | assumption | omega | rfl | simp only [RH]) only [↓RP, RG, FX, RQ, ↓reduceIte, Nat.reduceEqDiff, reduceCtorEq, Nat.reduceBEq, Nat.reduceAdd, Nat.reduceLeDiff, flV, Int.toNat_natCast]
          refine callK_F 6 (cellsC_c W H b l) (by simp (disch := first | assumption | omega | rfl | simp only [RH]) only [↓RP, RG, FX, RQ, ↓reduceIte, Nat.reduceEqDiff, reduceCtorEq, Nat.reduceBEq, Nat.reduceAdd, Nat.reduceLeDiff, RA] <;> rfl) (.inl rfl) ?_
          simp (disch := first | assumption | omega | rfl | simp only [RH]) only [↓RP, RG, FX, RQ, ↓reduceIte, Nat.reduceEqDiff, reduceCtorEq, Nat.reduceBEq, Nat.reduceAdd, Nat.reduceLeDiff, flV, hzl, t1, t2, t3, t4, Bool.not_true, Bool.not_false, Int.toNat_natCast]
          refine callK_F 6 hfm (by simp (disch := first | assumption | omega | rfl | simp only [RH]) only [↓RP, RG, FX, RQ, ↓reduceIte, Nat.reduceEqDiff, reduceCtorEq, Nat.reduceBEq, Nat.reduceAdd, Nat.reduceLeDiff, RA] <;> rfl) (.inl rfl) ?_
          simp (disch := first | assumption | omega | rfl | simp only [RH]) only [↓RP, RG, FX, RQ, ↓reduceIte, Nat.reduceEqDiff, reduceCtorEq, Nat.reduceBEq, Nat.reduceAdd, Nat.reduceLeDiff, flV, t1, t2, t3, t4, Bool.not_true, Bool.not_false, Int.toNat_natCast]
          refine callK_F 6 hfp (by simp (disch := first | assumption | omega | rfl | simp only [RH]) only [↓RP, RG, FX, RQ, ↓reduceIte, Nat.reduceEqDiff, reduceCtorEq, Nat.reduceBEq, Nat.reduceAdd, Nat.reduceLeDiff, RA] <;> rfl) (.inl rfl) ?_
          simp (disch := first | assumption | omega | rfl | simp only [RH]) only [↓RP, RG, FX, RQ, ↓reduceIte, Nat.reduceEqDiff, reduceCtorEq, Nat.reduceBEq, Nat.reduceAdd, Nat.reduceLeDiff, flV, t1, t2, t3, t4, Bool.not_true, Bool.not_false, Int.toNat_natCast]
          refine loopK_I [1, 3, 4, 5, 6, 7, 8, 10, 11, 14, 15] (fun k : Nat => k ≤ (flD xs i).n) (fun k => ⟨[(1, .ptr 0 0 3), (3, .ref 1 0 (W * H) (W * H)), (4, .ref 2 0 (W * H) (W * H)), (5, .ptr 3 0 2), (6, I ((wd + ((xs.take i).filter fun x => x.z).length : Nat) : Int)), (7, I 1), (8, flV true xs), (10, I i), (11, .ptr 4 0 5), (14, B false), (15, I k)], [(⟨24, 3, [I W, I H, BA b l]⟩ : AObj), ⟨3, 1, ints (cnI (W * H) (dE ++ ((xs.take i).flatMap (gE W H))))⟩, ⟨3, 1, ints (cnI (W * H) (dP ++ ((xs.take i).flatMap (gP W)) ++ (List.range k).map (fun j => W * (flD xs i).a + ((flD xs i).f + j) % W)))⟩, ⟨28, 2, [I nt, I ((xs.take i).filter fun x => !x.z).length]⟩, ⟨34, 5, [B false, I (flD xs i).a, I (flD xs i).f, I (flD xs i).n, B false]⟩]⟩) (fun k => (flD xs i).n - k) 0 (by omega) (by simp only [↓RP, RG, FX, RQ, ↓reduceIte, Nat.reduceEqDiff, reduceCtorEq, Nat.reduceBEq, Nat.reduceAdd, Nat.reduceLeDiff]; simp [flV]) ?_
          · intro k hk
            by_cases hlk : k < (flD xs i).n
            · have hfk := hface k hlk
              have hr := rem_int2 (a := ((flD xs i).f : Int) + (k : Int)) (b := (W : Int)) (by omega) (by omega)
              rw [show (((flD xs i).f : Int) + (k : Int)).toNat = (flD xs i).f + k by omega, Int.toNat_natCast] at hr
              have hpL : ((flD xs i).f + k) % W < W := Nat.mod_lt _ (by omega)
              have hstep : (List.range (k + 1)).map (fun j => W * (flD xs i).a + ((flD xs i).f + j) % W) = (List.range k).map (fun j => W * (flD xs i).a + ((flD xs i).f + j) % W) ++ [W * (flD xs i).a + ((flD xs i).f + k) % W] := by rw [List.range_succ, List.map_append]; rfl
              have hjn : W * (flD xs i).a + ((flD xs i).f + k) % W < W * H := idx_lt hpL f1
              have hb1 : (dP ++ ((xs.take i).flatMap (gP W)) ++ (List.range k).map (fun j => W * (flD xs i).a + ((flD xs i).f + j) % W)).length ≤ 3000000 := by
                rw [List.length_append, List.length_append, List.length_map, List.length_range]
                have := hPl i; omega
              have hcn := List.count_le_length (a := W * (flD xs i).a + ((flD xs i).f + k) % W) (l := dP ++ ((xs.take i).flatMap (gP W)) ++ (List.range k).map (fun j => W * (flD xs i).a + ((flD xs i).f + j) % W))
              have hget := cnI_get (n := W * H) (S := dP ++ ((xs.take i).flatMap (gP W)) ++ (List.range k).map (fun j => W * (flD xs i).a + ((flD xs i).f + j) % W)) hjn
              have hset := cnI_set (n := W * H) (S := dP ++ ((xs.take i).flatMap (gP W)) ++ (List.range k).map (fun j => W * (flD xs i).a + ((flD xs i).f + j) % W)) hjn
              have hcl := cnI_len (W * H) (dP ++ ((xs.take i).flatMap (gP W)) ++ (List.range k).map (fun j => W * (flD xs i).a + ((flD xs i).f + j) % W))
              rw [show dP ++ ((xs.take i).flatMap (gP W)) ++ (List.range k).map (fun j => W * (flD xs i).a + ((flD xs i).f + j) % W) ++ [W * (flD xs i).a + ((flD xs i).f + k) % W] = dP ++ ((xs.take i).flatMap (gP W)) ++ (List.range (k + 1)).map (fun j => W * (flD xs i).a + ((flD xs i).f + j) % W) by rw [hstep, ← List.append_assoc]] at hset
              generalize ((flD xs i).f + k) % W = p at *
              generalize (dP ++ ((xs.take i).flatMap (gP W)) ++ (List.range k).map (fun j => W * (flD xs i).a + ((flD xs i).f + j) % W)).count (W * (flD xs i).a + p) = cc at *
              generalize cnI (W * H) (dP ++ ((xs.take i).flatMap (gP W)) ++ (List.range k).map (fun j => W * (flD xs i).a + ((flD xs i).f + j) % W)) = S2 at *
              have m1 : ((flD xs i).a : Int) * (W : Int) = ((W * (flD xs i).a : Nat) : Int) := by rw [Int.natCast_mul, Int.mul_comm]
              have m2 : ((W * (flD xs i).a : Nat) : Int) + (p : Int) = ((W * (flD xs i).a + p : Nat) : Int) := by omega
              simp (disch := first | assumption | omega | rfl | simp only [RH]) only [↓RP, RG, FX, RQ, ↓reduceIte, Nat.reduceEqDiff, reduceCtorEq, Nat.reduceBEq, Nat.reduceAdd, Nat.reduceLeDiff, flV, Int.toNat_natCast]
              refine callK_F 6 hfk (by simp (disch := first | assumption | omega | rfl | simp only [RH]) only [↓RP, RG, FX, RQ, ↓reduceIte, Nat.reduceEqDiff, reduceCtorEq, Nat.reduceBEq, Nat.reduceAdd, Nat.reduceLeDiff, RA] <;> rfl) (.inl rfl) ?_
              simp (disch := first | assumption | omega | rfl | simp only [RH]) only [↓RP, RG, FX, RQ, ↓reduceIte, Nat.reduceEqDiff, reduceCtorEq, Nat.reduceBEq, Nat.reduceAdd, Nat.reduceLeDiff, flV, hr, m1, m2, hget, t1, t2, t3, t4, Bool.not_true, Bool.not_false, Int.toNat_natCast]
              exact ⟨k + 1, hlk, by rw [hset]; first | rfl | (simp only [List.append_assoc]; rfl), by omega⟩
            · obtain rfl : (flD xs i).n = k := by omega
              rw [← hgP]
              simp (disch := first | assumption | omega | rfl | simp only [RH]) only [↓RP, RG, FX, RQ, ↓reduceIte, Nat.reduceEqDiff, reduceCtorEq, Nat.reduceBEq, Nat.reduceAdd, Nat.reduceLeDiff, flV, idxA_ptr, hd0, hd1, t0, t5, Int.toNat_natCast]
              refine ⟨i + 1, hlt, (Wk.drop (hb := []) (h1 := []) (gs := [_, _, _, _, _]) 8 [0, 1, 2, 3] rfl (by decide) (by simp) (by simp)).trans (Wk.of_eq ?_), by omega⟩
              rw [hftz, hftn, htkE, htkP, hz, hgE]
              simp only [RK, List.idxOf?_cons, List.idxOf?_nil, Nat.reduceBEq, Option.map_some, Option.map_none, List.map_cons, List.map_nil, List.getD_cons_zero, List.getD_cons_succ, Bool.false_eq_true, ↓reduceIte, Nat.add_zero, List.append_nil, map_ren_bools, map_ren_ints, map_ren_fls, Bool.not_true, Bool.not_false, if_true, if_false, Bool.false_eq_true, List.append_nil, List.length_append, List.length_singleton, List.append_assoc]
              rfl
    · obtain rfl : xs.length = i := by omega
      simp (disch := first | assumption | omega | rfl | simp only [RH]) only [↓RP, RG, FX, RQ, ↓reduceIte, Nat.reduceEqDiff, reduceCtorEq, Nat.reduceBEq, Nat.reduceAdd, Nat.reduceLeDiff, flV]
      refine ⟨2, by omega, ?_, by omega⟩
      rw [List.take_length]
      subst hdE hdP hwd hxs
      simp [hdn2, hc02, hc12, hnf]
  · rw [hdn2, hc02, hc12]
    simp (disch := first | assumption | omega | rfl | simp only [RH]) only [↓RP, RG, FX, RQ, ↓reduceIte, Nat.reduceEqDiff, reduceCtorEq, Nat.reduceBEq, Nat.reduceAdd, Nat.reduceLeDiff, flV]
    rw [show ((xt ++ xf).filter fun x => x.z).length = (xt.filter fun x => x.z).length + (xf.filter fun x => x.z).length by rw [List.filter_append, List.length_append]]
    generalize (xt.filter fun x => x.z).length = w0 at *
    generalize (xf.filter fun x => x.z).length = w1 at *
    refine loopK_I [1, 3, 4, 5, 6, 16] (fun i : Nat => i ≤ W * H) (fun i => ⟨[(1, .ptr 0 0 3), (3, .ref 1 0 (W * H) (W * H)), (4, .ref 2 0 (W * H) (W * H)), (5, .ptr 3 0 2), (6, I ((w0 + w1 : Nat) : Int)), (16, I i)], [(⟨24, 3, [I W, I H, BA b l]⟩ : AObj), ⟨3, 1, ints (cnI (W * H) ((xt ++ xf).flatMap (gE W H)))⟩, ⟨3, 1, ints (cnI (W * H) ((xt ++ xf).flatMap (gP W)))⟩, ⟨28, 2, [I nt, I nf]⟩]⟩) (fun i => W * H - i) 0 (by omega) (by simp only [↓RP, RG, FX, RQ, ↓reduceIte, Nat.reduceEqDiff, reduceCtorEq, Nat.reduceBEq, Nat.reduceAdd, Nat.reduceLeDiff]; rfl) ?_
    intro i hi
    by_cases hlt : i < W * H
    · obtain ⟨a1, a2⟩ := hall i hlt
      have e1 := cnI_get (n := W * H) (S := (xt ++ xf).flatMap (gE W H)) hlt
      have e2 := cnI_get (n := W * H) (S := (xt ++ xf).flatMap (gP W)) hlt
      rw [a1] at e1
      rw [a2] at e2
      have l1 := cnI_len (W * H) ((xt ++ xf).flatMap (gE W H))
      have l2 := cnI_len (W * H) ((xt ++ xf).flatMap (gP W))
      generalize cnI (W * H) ((xt ++ xf).flatMap (gE W H)) = S1 at *
      generalize cnI (W * H) ((xt ++ xf).flatMap (gP W)) = S2 at *
      simp (disch := first | assumption | omega | rfl | simp only [RH]) only [↓RP, RG, FX, RQ, ↓reduceIte, Nat.reduceEqDiff, reduceCtorEq, Nat.reduceBEq, Nat.reduceAdd, Nat.reduceLeDiff, hn, e1, e2, Int.toNat_natCast]
      exact ⟨i + 1, hlt, rfl, by omega⟩
    · obtain rfl : W * H = i := by omega
      simp (disch := first | assumption | omega | rfl | simp only [RH]) only [↓RP, RG, FX, RQ, ↓reduceIte, Nat.reduceEqDiff, reduceCtorEq, Nat.reduceBEq, Nat.reduceAdd, Nat.reduceLeDiff, hn]
      refine callK_F 6 (p1) (by simp (disch := first | assumption | omega | rfl | simp only [RH]) only [↓RP, RG, FX, RQ, ↓reduceIte, Nat.reduceEqDiff, reduceCtorEq, Nat.reduceBEq, Nat.reduceAdd, Nat.reduceLeDiff, RA] <;> rfl) (.inl (by simp [allFresh, ints_fresh, bools_fresh])) ?_
      simp (disch := first | assumption | omega | rfl | simp only [RH]) only [↓RP, RG, FX, RQ, ↓reduceIte, Nat.reduceEqDiff, reduceCtorEq, Nat.reduceBEq, Nat.reduceAdd, Nat.reduceLeDiff, idxA_ptr, hd0, hd1, t0, t5]
      refine callK_F 6 (alive8_c) (by simp (disch := first | assumption | omega | rfl | simp only [RH]) only [↓RP, RG, FX, RQ, ↓reduceIte, Nat.reduceEqDiff, reduceCtorEq, Nat.reduceBEq, Nat.reduceAdd, Nat.reduceLeDiff, RA] <;> rfl) (.inl (by simp [allFresh, ints_fresh, bools_fresh])) ?_
      simp (disch := first | assumption | omega | rfl | simp only [RH]) only [↓RP, RG, FX, RQ, ↓reduceIte, Nat.reduceEqDiff, reduceCtorEq, Nat.reduceBEq, Nat.reduceAdd, Nat.reduceLeDiff]
      rw [resVal_1 rfl]; simp (disch := first | assumption | omega | rfl | simp only [RH]) only [↓RP, RG, FX, RQ, ↓reduceIte, Nat.reduceEqDiff, reduceCtorEq, Nat.reduceBEq, Nat.reduceAdd, Nat.reduceLeDiff, RS]
end
theorem floatCovers_c (w h : Int) (b : Bool) (l : List Bool) : Contract Tryd.prog 3 [GA w h b l] (B true) := by
  by_cases hv : (!decide (600 < (l.length : Int)) && decide (gchk w h l.length = 0)) = true
  rotate_left
  · have hV := valid8_c w h b l
    rw [Bool.eq_false_iff.2 hv] at hV
    refine Contract.intro (effS [] false [] [] [1, 24, 25, 28, 29] (fun i => !(i == 0))) 6 follows Tryd.func3 rfl rfl (by kernel_rfl) (Nat.le_of_ble_eq_true rfl) ?_
    simp (disch := first | assumption | omega | rfl | simp only [RH]) only [↓RP, RG, FX, RQ, ↓reduceIte, Nat.reduceEqDiff, reduceCtorEq, Nat.reduceBEq, Nat.reduceAdd, Nat.reduceLeDiff, args0_1]
    refine callK_F 6 (hV) (by simp (disch := first | assumption | omega | rfl | simp only [RH]) only [↓RP, RG, FX, RQ, ↓reduceIte, Nat.reduceEqDiff, reduceCtorEq, Nat.reduceBEq, Nat.reduceAdd, Nat.reduceLeDiff, RA] <;> rfl) (.inl (by simp [allFresh, ints_fresh, bools_fresh])) ?_
    simp (disch := first | assumption | omega | rfl | simp only [RH]) only [↓RP, RG, FX, RQ, ↓reduceIte, Nat.reduceEqDiff, reduceCtorEq, Nat.reduceBEq, Nat.reduceAdd, Nat.reduceLeDiff]
    refine callK_F 6 (alive8_c) (by simp (disch := first | assumption | omega | rfl | simp only [RH]) only [↓RP, RG, FX, RQ, ↓reduceIte, Nat.reduceEqDiff, reduceCtorEq, Nat.reduceBEq, Nat.reduceAdd, Nat.reduceLeDiff, RA] <;> rfl) (.inl (by simp [allFresh, ints_fresh, bools_fresh])) ?_
    simp (disch := first | assumption | omega | rfl | simp only [RH]) only [↓RP, RG, FX, RQ, ↓reduceIte, Nat.reduceEqDiff, reduceCtorEq, Nat.reduceBEq, Nat.reduceAdd, Nat.reduceLeDiff]
    rw [resVal_1 rfl]; simp (disch := first | assumption | omega | rfl | simp only [RH]) only [↓RP, RG, FX, RQ, ↓reduceIte, Nat.reduceEqDiff, reduceCtorEq, Nat.reduceBEq, Nat.reduceAdd, Nat.reduceLeDiff, RS]
  obtain ⟨W, H, rfl, rfl, hW0, hH0, hW, hH, hn, hl⟩ := valid8_of hv
  exact covers_c hW0 hH0 hW hH b hn hl
end Go.Proofs.YtgjjdcoeleddaaaDoor
