/- Part 3 of the proof's own texts: the contracts of functions, and what they rest on. -/
import Derived.Test.YtllijejobeogdaaGreatJ2
import Derived.Test.YtllijejobeogdaaGreatJ1
import Derived.Test.YtllijejobeogdaaGreatBw5
set_option linter.unusedVariables false
set_option linter.unusedSimpArgs false
set_option maxRecDepth 100000
namespace Go.Proofs.YtllijejobeogdaaGreat
open Go Go.Proofs Go.AW
theorem snan_c (x : Int) : Contract Tryz.prog 75 [I x] (B false) := by
  refine zi Tryz.func75 ?_
  refine zs ?_
  exact zq1
  first | done | simp
theorem bsearchF_c (b : Bool) (u : List Int) (hl : u.length ≤ 1000000) (x : Int) {p : Nat} (hp : p ≤ u.length) (hm : ∀ h : Nat, h < u.length → (u.getD h 0 < x ↔ h < p)) (r : Bool) (hr : r = true ↔ p < u.length ∧ u.getD p 0 = x) :
    Contract Tryz.prog 55 [LA b u, I x] (.tuple [I p, B r]) := by
  refine zi Tryz.func55 ?_
  refine zs ?_
  obtain ⟨T3, hT3, hk3⟩ := kiI
  obtain ⟨T9, hT9, hk9⟩ := kiU
  refine loopK_I [0, 1, 6, 7, 8] (fun s : Nat × Nat => s.1 ≤ p ∧ p ≤ s.2 ∧ s.2 ≤ u.length) (fun s : Nat × Nat => ⟨[(0, LA b u), (1, I x), (6, I u.length), (7, I s.1), (8, I s.2)], []⟩) (fun s => s.2 - s.1) (0, u.length) ⟨by omega, by omega, Nat.le_refl _⟩ kz ?_
  rintro ⟨i, j⟩ ⟨h1, h2, h3⟩
  simp only at h1 h2 h3 ⊢
  by_cases hlt : i < j
  · have q : ((i : Int) + (j : Int)) / 2 = (((i + j) / 2 : Nat) : Int) := by omega
    simp (disch := first | assumption | omega | rfl | simp only [RH]) only [↓RP, RZ, ↓reduceIte, Nat.reduceEqDiff, reduceCtorEq, Nat.reduceBEq, Nat.reduceAdd, Nat.reduceLeDiff, hT3, hT9, hk3, hk9, wrapU, wrap_id, shr1]
    rw [q]
    generalize hh : (i + j) / 2 = m
    have hm1 := hm m (by omega)
    refine zx6 @hT3 @hT9 @hk3 @hk9 @wrapU @wrap_id ?_
    refine zc (less_c (u.getD m 0) x) ?_
    by_cases hc : u.getD m 0 < x
    · have hmp := hm1.1 hc
      refine zs ?_
      exact ⟨(m + 1, j), ⟨by simp only; omega, h2, h3⟩, rfl, by simp only; omega⟩
    · have hmp : ¬ m < p := fun h => hc (hm1.2 h)
      refine zs ?_
      exact ⟨(i, m), ⟨h1, by simp only; omega, by simp only; omega⟩, rfl, by simp only; omega⟩
  · obtain rfl : i = p := by omega
    obtain rfl : j = i := by omega
    by_cases c1 : j < u.length
    · by_cases c2 : u.getD j 0 = x
      · have hrt : r = true := hr.2 ⟨c1, c2⟩
        subst hrt
        refine zx6 @hT3 @hT9 @hk3 @hk9 @wrapU @wrap_id ?_
        exact zq2
      · have hrf : r = false := by
          cases r with
          | false => rfl
          | true => exact absurd (hr.1 rfl).2 c2
        subst hrf
        refine zx6 @hT3 @hT9 @hk3 @hk9 @wrapU @wrap_id ?_
        refine zc (snan_c (u.getD j 0)) ?_
        refine zs ?_
        exact zq2
    · have hrf : r = false := by
        cases r with
        | false => rfl
        | true => exact absurd (hr.1 rfl).1 c1
      subst hrf
      refine zx6 @hT3 @hT9 @hk3 @hk9 @wrapU @wrap_id ?_
      exact zq2
theorem notThread_c {W H n : Nat} (hN : W + H = n) (hW : W ≤ 64) (hH : H ≤ 64) (b : Bool) (l : List Bool) (a : Int) (r : Bool) (hr : r = true ↔ ¬ (0 ≤ a ∧ a < n)) :
    Contract Tryz.prog 54 [I a, .spot false [I W, I H, BA b l]] (B r) := by
  have hI := isThread_c W H b l a hW hH
  have hNc : (W : Int) + (H : Int) = (n : Int) := by omega
  rw [hNc] at hI
  refine zi Tryz.func54 ?_
  refine zs ?_
  refine zc (hI) ?_
  by_cases h : 0 ≤ a ∧ a < n
  · have hrf : r = false := by
      cases r with
      | false => rfl
      | true => exact absurd h (hr.1 rfl)
    subst hrf
    rw [decide_eq_true h]
    refine zs ?_
    exact zq1
    first | done | rfl
  · have hrf : r = true := hr.2 h
    subst hrf
    rw [decide_eq_false h]
    refine zs ?_
    exact zq1
    first | done | rfl
theorem someNot_c {W H n : Nat} (hN : W + H = n) (hW : W ≤ 64) (hH : H ≤ 64) (b bs : Bool) (l : List Bool) (s : List Int) (hs : s.length ≤ 1000000) (r : Bool) (hr : r = true ↔ ∃ i, i < s.length ∧ ¬ (0 ≤ s.getD i 0 ∧ s.getD i 0 < n)) :
    Contract Tryz.prog 49 [LA bs s, .func (.func 54) [] [.spot false [I W, I H, BA b l]]] (B r) := by
  have key : Contract Tryz.prog 52 [LA bs s, .func (.func 54) [] [.spot false [I W, I H, BA b l]]] (I (if r = true then (s.findIdx fun x => !decide (0 ≤ x ∧ x < (n : Int)) : Nat) else -1)) := by
    refine zi Tryz.func52 ?_
    refine zs ?_
    refine loopK_I [0, 1, 7, 8] (fun k : Nat => k ≤ s.length ∧ ∀ j, j < k → 0 ≤ s.getD j 0 ∧ s.getD j 0 < n) (fun k : Nat => ⟨[(0, LA bs s), (1, .func (.func 54) [] [.spot false [I W, I H, BA b l]]), (7, I s.length), (8, I k)], []⟩) (fun k => s.length - k) 0 ⟨by omega, fun j hj => by omega⟩ kz ?_
    rintro k ⟨hk, hall⟩
    by_cases hlt : k < s.length
    · have hgd : ∀ (j : Nat) (hj : j < s.length), s.getD j 0 = s[j]'hj := fun j hj => by rw [List.getD_eq_getElem?_getD, List.getElem?_eq_getElem hj]; rfl
      by_cases hc : 0 ≤ s.getD k 0 ∧ s.getD k 0 < n
      · have hNI := notThread_c hN hW hH b l (s.getD k 0) false ⟨fun h => (by cases h), fun h => absurd hc h⟩
        refine zs ?_
        refine callK_V 6 hNI (by simp (disch := omega) only [↓RP, RG, FX, RQ, ↓reduceIte, Nat.reduceEqDiff, reduceCtorEq, Nat.reduceBEq, Nat.reduceAdd, Nat.reduceLeDiff, RA] <;> rfl) (.inl rfl) ?_
        refine zs ?_
        refine ⟨k + 1, ⟨hlt, fun j hj => ?_⟩, rfl, by omega⟩
        by_cases e : j = k
        · subst e; exact hc
        · exact hall j (by omega)
      · have hNI := notThread_c hN hW hH b l (s.getD k 0) true ⟨fun _ => hc, fun _ => rfl⟩
        have hrt : r = true := hr.2 ⟨k, hlt, hc⟩
        have hf : (s.findIdx fun x => !decide (0 ≤ x ∧ x < (n : Int))) = k := by
          refine (List.findIdx_eq hlt).2 ⟨?_, fun j hj => ?_⟩
          · rw [hgd k hlt] at hc
            simp only [decide_eq_false hc, Bool.not_false]
          · have := hall j hj
            rw [hgd j (by omega)] at this
            simp only [decide_eq_true this, Bool.not_true]
        rw [if_pos hrt, hf]
        refine zs ?_
        refine callK_V 6 hNI (by simp (disch := omega) only [↓RP, RG, FX, RQ, ↓reduceIte, Nat.reduceEqDiff, reduceCtorEq, Nat.reduceBEq, Nat.reduceAdd, Nat.reduceLeDiff, RA] <;> rfl) (.inl rfl) ?_
        refine zs ?_
        exact zq1
    · obtain rfl : k = s.length := by omega
      have hrf : r = false := by
        cases r with
        | false => rfl
        | true =>
          obtain ⟨i, h1, h2⟩ := hr.1 rfl
          exact absurd (hall i h1) h2
      subst hrf
      refine zs ?_
      exact zq1
      first | done | rfl
  refine zi Tryz.func49 ?_
  refine zs ?_
  refine callK_F 6 key (by simp (disch := omega) only [↓RP, RG, FX, RQ, ↓reduceIte, Nat.reduceEqDiff, reduceCtorEq, Nat.reduceBEq, Nat.reduceAdd, Nat.reduceLeDiff, RA] <;> rfl) (.inl rfl) ?_
  cases r with
  | false =>
    rw [if_neg (by simp)]
    refine zs ?_
    exact zq1
  | true =>
    rw [if_pos rfl]
    refine zs ?_
    exact zq1
def iota (n : Nat) : List Int := (List.range n).map fun i : Nat => (i : Int)
theorem iota_len (n : Nat) : (iota n).length = n := by simp [iota]
theorem iota_inc (n : Nat) : (iota n).Pairwise (· < ·) := by
  rw [List.pairwise_iff_getElem]
  intro i j hi hj hij
  simp [iota]; omega
theorem mem_iota {n : Nat} {x : Int} : x ∈ iota n ↔ 0 ≤ x ∧ x < n := by
  simp only [iota, List.mem_map, List.mem_range]
  constructor
  · rintro ⟨i, hi, rfl⟩; omega
  · intro h; exact ⟨x.toNat, by omega, by omega⟩
theorem inc_le {u : List Int} (hu : u.Pairwise (· < ·)) {n : Nat} (h : ∀ k, k < u.length → 0 ≤ u.getD k 0 ∧ u.getD k 0 < n) : u.length ≤ n := by
  have hk : ∀ k : Nat, k < u.length → (k : Int) ≤ u.getD k 0 := by
    intro k
    induction k with
    | zero => intro hk; exact (h 0 hk).1
    | succ k ih =>
      intro hk
      have h1 := ih (by omega)
      have h2 := List.pairwise_iff_getElem.1 hu k (k + 1) (by omega) hk (by omega)
      simp only [List.getD_eq_getElem?_getD, List.getElem?_eq_getElem hk, List.getElem?_eq_getElem (show k < u.length by omega), Option.getD_some] at h1 ⊢
      omega
  rcases Nat.eq_zero_or_pos u.length with h0 | h0
  · omega
  · have h1 := hk (u.length - 1) (by omega)
    have h2 := (h (u.length - 1) (by omega)).2
    omega
theorem uniq_snoc_out {l : List Int} {x : Int} (h : x ∉ l) : (uniq (l ++ [x])).length = (uniq l).length + 1 := by
  obtain ⟨hu, hm⟩ := uniq_spec l
  have hx : x ∉ uniq l := fun h1 => h ((hm x).1 h1)
  generalize uniq l = u at *
  have e : uniq (l ++ [x]) = u.filter (fun y => decide (y < x)) ++ (x :: u.filter (fun y => decide (x < y))) := by
    refine uniq_eq ?_ fun y => ?_
    · refine List.pairwise_append.2 ⟨hu.filter _, List.pairwise_cons.2 ⟨fun y hy => ?_, hu.filter _⟩, fun a ha b hb => ?_⟩
      · have := (List.mem_filter.1 hy).2; simpa using this
      · have h1 := (List.mem_filter.1 ha).2
        simp only [decide_eq_true_eq] at h1
        rcases List.mem_cons.1 hb with rfl | hb
        · exact h1
        · have h2 := (List.mem_filter.1 hb).2
          simp only [decide_eq_true_eq] at h2
          omega
    · rw [List.mem_append, List.mem_cons, List.mem_filter, List.mem_filter, hm, List.mem_append, List.mem_singleton]
      simp only [decide_eq_true_eq]
      constructor
      · rintro (h1 | h1 | h1)
        · exact .inl h1.1
        · exact .inr h1
        · exact .inl h1.1
      · rintro (h1 | h1)
        · rcases Int.lt_trichotomy y x with h2 | h2 | h2
          · exact .inl ⟨h1, h2⟩
          · exact .inr (.inl h2)
          · exact .inr (.inr ⟨h1, h2⟩)
        · exact .inr (.inl h1)
  rw [e, List.length_append, List.length_cons]
  have hc : ∀ v : List Int, x ∉ v → (v.filter (fun y => decide (y < x))).length + (v.filter (fun y => decide (x < y))).length = v.length := by
    intro v
    induction v with
    | nil => intro _; rfl
    | cons y v ih =>
      intro hv
      have h1 := ih fun h1 => hv (List.mem_cons_of_mem _ h1)
      have h2 : y ≠ x := fun e => hv (by rw [e]; simp)
      rcases Int.lt_or_gt_of_ne h2 with h3 | h3
      · rw [List.filter_cons_of_pos (by simpa using h3), List.filter_cons_of_neg (by simp; omega), List.length_cons, List.length_cons]; omega
      · rw [List.filter_cons_of_neg (by simp; omega), List.filter_cons_of_pos (by simpa using h3), List.length_cons, List.length_cons]; omega
  have := hc u hx
  omega
theorem uniq_all {s : List Int} {n : Nat} (h : ∀ i, i < s.length → 0 ≤ s.getD i 0 ∧ s.getD i 0 < n) : (uniq s).length = n ↔ ∀ a : Nat, a < n → ∃ i, i < s.length ∧ s.getD i 0 = a := by
  have hin : ∀ x ∈ s, 0 ≤ x ∧ x < n := by
    intro x hx
    obtain ⟨i, hi, e⟩ := mem_getD.1 hx
    rw [← e]; exact h i hi
  constructor
  · intro hl a ha
    refine Classical.byContradiction fun hc => ?_
    have hna : (a : Int) ∉ s := fun hm => hc (mem_getD.1 hm)
    have h1 := uniq_snoc_out hna
    obtain ⟨u1, u2⟩ := uniq_spec (s ++ [(a : Int)])
    have h2 := inc_le (n := n) u1 fun k hk => by
      have : (uniq (s ++ [(a : Int)])).getD k 0 ∈ s ++ [(a : Int)] := (u2 _).1 (mem_getD.2 ⟨k, hk, rfl⟩)
      rcases List.mem_append.1 this with h3 | h3
      · exact hin _ h3
      · rw [List.mem_singleton] at h3; omega
    omega
  · intro hall
    rw [uniq_eq (iota_inc n) (fun x => ?_), iota_len]
    rw [mem_iota]
    constructor
    · rintro ⟨h1, h2⟩
      obtain ⟨i, hi, e⟩ := hall x.toNat (by omega)
      exact mem_getD.2 ⟨i, hi, by omega⟩
    · exact hin x
theorem bs_some (b : Bool) {u : List Int} (hu : u.Pairwise (· < ·)) (hl : u.length ≤ 1000000) (x : Int) (r : Bool) (hr : r = true ↔ x ∈ u) : ∃ p : Nat, Contract Tryz.prog 55 [LA b u, I x] (.tuple [I p, B r]) := by
  have hgd : ∀ (j : Nat) (hj : j < u.length), u.getD j 0 = u[j]'hj := fun j hj => by rw [List.getD_eq_getElem?_getD, List.getElem?_eq_getElem hj]; rfl
  have hp : (u.findIdx fun y => decide (x ≤ y)) ≤ u.length := List.findIdx_le_length
  have hm : ∀ h : Nat, h < u.length → (u.getD h 0 < x ↔ h < (u.findIdx fun y => decide (x ≤ y))) := by
    intro h hh
    rw [hgd h hh]
    constructor
    · intro h1
      refine Classical.byContradiction fun h2 => ?_
      have h3 : (u.findIdx fun y => decide (x ≤ y)) < u.length := by omega
      have h4 := List.findIdx_getElem (w := h3)
      simp only [decide_eq_true_eq] at h4
      rcases Nat.eq_or_lt_of_le (Nat.le_of_not_lt h2) with h5 | h5
      · simp only [h5] at h4; omega
      · have := List.pairwise_iff_getElem.1 hu _ h h3 hh h5; omega
    · intro h1
      have := List.not_of_lt_findIdx h1
      simp only [decide_eq_true_eq, decide_eq_false_iff_not] at this
      omega
  refine ⟨_, bsearchF_c b u hl x hp hm r (hr.trans ?_)⟩
  rw [mem_getD]
  constructor
  · rintro ⟨i, hi, e⟩
    have h1 := hm i hi
    rw [e] at h1
    have h2 : ¬ i < (u.findIdx fun y => decide (x ≤ y)) := fun h => by have := h1.2 h; omega
    have h3 : (u.findIdx fun y => decide (x ≤ y)) < u.length := by omega
    refine ⟨h3, ?_⟩
    have h4 := List.findIdx_getElem (w := h3)
    simp only [decide_eq_true_eq] at h4
    rw [← hgd _ h3] at h4
    have h5 : ¬ u.getD (u.findIdx fun y => decide (x ≤ y)) 0 < x := by omega
    rcases Nat.eq_or_lt_of_le (Nat.le_of_not_lt h2) with h6 | h6
    · rw [h6]; exact e
    · have h7 := List.pairwise_iff_getElem.1 hu _ i h3 hi h6
      rw [← hgd _ h3, ← hgd _ hi, e] at h7
      omega
  · rintro ⟨h1, h2⟩; exact ⟨_, h1, h2⟩
theorem bel_inc (W n : Nat) (l : List Bool) (c : Nat) : (nI (belT W n l c)).Pairwise (· < ·) := nI_inc (List.Pairwise.filter _ List.pairwise_lt_range)
theorem mem_bel {W n : Nat} {l : List Bool} {c y : Nat} (hy : y < n) : (y : Int) ∈ nI (belT W n l c) ↔ ov W l c y = true := by
  unfold nI
  rw [List.mem_map]
  constructor
  · rintro ⟨z, hz, e⟩
    have : z = y := by omega
    subst this
    simp only [belT, List.mem_filter] at hz; exact hz.2
  · intro h
    exact ⟨y, by simp only [belT, List.mem_filter, List.mem_range]; exact ⟨hy, h⟩, rfl⟩
theorem acceptP_c {W H n : Nat} (hN : W + H = n) (hW0 : 0 < W) (hH0 : 0 < H) (hn40 : n ≤ 64) (b bs : Bool) {l : List Bool} (hn : l.length = W * H) (s : List Int) (hs : ¬ 20000 < (s.length : Int)) (r : Bool) (hr : r = true ↔ accD W n l s) :
    Contract Tryz.prog 37 [GA W H b l, LA bs s] (.tuple [B r, I 0]) := by
  have hz : gchk W H l.length = 0 := gchk_ok ⟨by omega, by omega, by omega, by omega, by rw [hn, Int.natCast_mul]⟩
  have hNc : (W : Int) + (H : Int) = (n : Int) := by omega
  have hno : ¬ accD W n l s → r = false := fun h => by
    cases r with
    | false => rfl
    | true => exact absurd (hr.1 rfl) h
  have he : ((s.length : Int) - 1).toNat = s.length - 1 := by omega
  refine Contract.intro (effS [57, 56] false) 6 follows Tryz.func37 rfl rfl (by kernel_rfl) (Nat.le_of_ble_eq_true rfl) ?_
  refine zs ?_
  refine zc (gcheckP_c W H b l) ?_
  refine zx1 @hz ?_
  by_cases c2 : s.length < 2
  · have hrf := hno fun h => by have := h.2.1; omega
    subst hrf
    refine zs ?_
    exact zq2
  by_cases c3 : s.getD 0 0 = s.getD (s.length - 1) 0
  rotate_left
  · have hrf := hno fun h => c3 h.2.2.1
    subst hrf
    refine zx2 @he @Int.toNat_zero ?_
    exact zq2
  by_cases c4 : ∃ i, i < s.length ∧ ¬ (0 ≤ s.getD i 0 ∧ s.getD i 0 < n)
  · have hrf := hno fun h => by
      obtain ⟨i, h1, h2⟩ := c4
      exact h2 (h.1 i h1).1
    subst hrf
    have hS := someNot_c hN (by omega) (by omega) b bs l s (by omega) true ⟨fun _ => c4, fun _ => rfl⟩
    refine zx2 @he @Int.toNat_zero ?_
    refine callK_F 6 hS (by simp (disch := omega) only [↓RP, RG, FX, RQ, ↓reduceIte, Nat.reduceEqDiff, reduceCtorEq, Nat.reduceBEq, Nat.reduceAdd, Nat.reduceLeDiff, RA] <;> rfl) (.inl rfl) ?_
    refine zs ?_
    exact zq2
  have hS := someNot_c hN (by omega) (by omega) b bs l s (by omega) false ⟨fun h => (by cases h), fun h => absurd h c4⟩
  have hin : ∀ i, i < s.length → 0 ≤ s.getD i 0 ∧ s.getD i 0 < n := fun i hi => Classical.byContradiction fun h => c4 ⟨i, hi, h⟩
  have hO := order_c hN hW0 hH0 (by omega) (by omega) b hn
  have hbb : (bel W n l).length = n := by simp [bel]
  have hat : ∀ c, c < n → ((LL (bel W n l)).drop c)[0]? = some (LR (nI (belT W n l c)).isEmpty (nI (belT W n l c))) := by
    intro c hc
    rw [LL_at (rs := bel W n l) (by omega), bel_adj hc]
  generalize LL (abv W n l) = la at *
  generalize LL (bel W n l) = ld at *
  refine zx2 @he @Int.toNat_zero ?_
  refine callK_F 6 hS (by simp (disch := omega) only [↓RP, RG, FX, RQ, ↓reduceIte, Nat.reduceEqDiff, reduceCtorEq, Nat.reduceBEq, Nat.reduceAdd, Nat.reduceLeDiff, RA] <;> rfl) (.inl rfl) ?_
  refine zs ?_
  refine callK_F 6 hO (by simp (disch := first | assumption | omega | rfl | simp only [RH]) only [↓RP, RZ, ↓reduceIte, Nat.reduceEqDiff, reduceCtorEq, Nat.reduceBEq, Nat.reduceAdd, Nat.reduceLeDiff, RA] <;> rfl) (.inr (by simp [noRef, bools_noRef])) ?_
  refine zs ?_
  have htl : (s.drop (Int.toNat 1)).length = s.length - 1 := by rw [List.length_drop]; rfl
  have htg : ∀ k, (s.drop (Int.toNat 1)).getD k 0 = s.getD (k + 1) 0 := fun k => by
    rw [List.getD_eq_getElem?_getD, List.getD_eq_getElem?_getD, List.getElem?_drop, show Int.toNat 1 + k = k + 1 by omega]
  generalize s.drop (Int.toNat 1) = t at *
  refine loopK_I [1, 2, 7, 44, 45, 46] (fun k : Nat => k ≤ t.length ∧ acS W n l s (k + 1)) (fun k : Nat => ⟨[(1, LA bs s), (2, .ptr 0 0 3), (7, .ptr 1 0 2), (44, LA bs t), (45, I t.length), (46, I k)], [⟨24, 3, [I W, I H, BA b l]⟩, ⟨84, 2, [.list true false n ld, .list true false n la]⟩]⟩) (fun k => t.length - k) 0 ⟨by omega, fun i hi => by
    obtain rfl : i = 0 := by omega
    exact ⟨hin 0 (by omega), fun h => absurd h (by omega)⟩⟩ kz ?_
  rintro k ⟨hk, hok⟩
  by_cases hlt : k < t.length
  · obtain ⟨d1, d2⟩ := hin k (by omega)
    obtain ⟨e1, e2⟩ := hin (k + 1) (by omega)
    obtain ⟨c, hc⟩ : ∃ c : Nat, s.getD k 0 = c := ⟨(s.getD k 0).toNat, by omega⟩
    obtain ⟨y, hy⟩ : ∃ y : Nat, s.getD (k + 1) 0 = y := ⟨(s.getD (k + 1) 0).toNat, by omega⟩
    have hty := htg k
    rw [hy] at hty
    have hac := hat c (by omega)
    have hbl := belT_len W n l c
    have hnl := nI_len (belT W n l c)
    obtain ⟨p, hB⟩ := bs_some (nI (belT W n l c)).isEmpty (bel_inc W n l c) (by omega) (y : Int) (ov W l c y) (mem_bel (by omega)).symm
    generalize nI (belT W n l c) = bx at *
    cases hov : ov W l c y with
    | true =>
      rw [hov] at hB
      refine zx3 @hc @hty @hac ?_
      refine zc hB ?_
      refine zs ?_
      exact ⟨k + 1, ⟨hlt, acS_succ hok (hin (k + 1) (by omega)) fun _ => by rw [show k + 1 - 1 = k by omega, hc, hy]; exact hov⟩, rfl, by omega⟩
    | false =>
      rw [hov] at hB
      have hrf := hno fun h => by
        have := (h.1 (k + 1) (by omega)).2 (by omega)
        rw [show k + 1 - 1 = k by omega, hc, hy] at this
        have hov2 : ov W l c y = true := this
        rw [hov] at hov2; cases hov2
      subst hrf
      refine zx3 @hc @hty @hac ?_
      refine zc hB ?_
      refine zs ?_
      exact zq2
  · obtain rfl : k = t.length := by omega
    rw [htl, show s.length - 1 + 1 = s.length by omega] at hok
    have hul : (uniq s).length ≤ s.length := by have := uniq_len s; rw [ms_len] at this; exact this
    have hsl := ms_len s
    have hua := uniq_all hin
    refine zs ?_
    refine callK_F 6 (values_c bs s) (by simp (disch := first | assumption | omega | rfl | simp only [RH]) only [↓RP, RZ, ↓reduceIte, Nat.reduceEqDiff, reduceCtorEq, Nat.reduceBEq, Nat.reduceAdd, Nat.reduceLeDiff, RA] <;> rfl) (.inr (by simp [noRef, ints_noRef])) ?_
    refine zs ?_
    refine callK_T rfl (sorted_s _ rfl (by omega) (valuesF_y true bs s (by omega)) (by omega)) ?_
    refine zs ?_
    refine callK_T rfl (compact_spec (ρ := Tryz.lays2_20_ren) Tryz.lays2_20 (by kernel_rfl) (id := 2) rfl (by decide) (hsl.trans rfl) (by omega)) ?_
    have hu : Lib.compact (srt s) = uniq s := rfl
    rw [hu]
    generalize hzz : List.replicate (s.length - (uniq s).length) (0 : Int) = z
    have hzl : (uniq s ++ z).length = s.length := by rw [List.length_append, ← hzz, List.length_replicate]; omega
    generalize uniq s = u at *
    refine zx2 @hzl @hNc ?_
    by_cases c5 : u.length = n
    · have hrt : r = true := hr.2 ⟨hok, by omega, c3, hua.1 c5⟩
      subst hrt
      refine zx1 @c5 ?_
      exact zq2
    · have hrf := hno fun h => c5 (hua.2 h.2.2.2)
      subst hrf
      refine zs ?_
      exact zq2
theorem side12_c {op : Nat} (h : op < 16) (c : Bool) : Contract Tryz.prog 38 [I op, I (if c then 0 else 1 : Int)] (I (if xor c (xor (op.testBit 2) (op.testBit 3)) then 0 else 1 : Int)) := by
  obtain ⟨a4, a1, a2, a8⟩ := op_and h
  have z0 : ((0 : Int) != 0) = false := rfl
  have z4 : ((4 : Int) != 0) = true := rfl
  have z8 : ((8 : Int) != 0) = true := rfl
  generalize op.testBit 2 = ex at *
  generalize op.testBit 3 = sd at *
  cases ex <;> cases sd <;> cases c <;> simp only [if_true, if_false, Bool.false_eq_true] at a4 a8 ⊢
  all_goals
    refine zi Tryz.func38 ?_
    refine zx5 @a4 @a8 @z0 @z4 @z8 ?_
    refine zr1 ?_
    try rfl
section
variable {W H W' H' : Nat} (hW0 : 0 < W) (hH0 : 0 < H) (hW : W ≤ 16) (hH : H ≤ 16) (hW0' : 0 < W') (hH0' : 0 < H') (hW' : W' ≤ 16) (hH' : H' ≤ 16) (b b' : Bool) {l l' : List Bool} (hn : l.length = W * H) (hn' : l'.length = W' * H')
include hW0 hH0 hW hH hW0' hH0' hW' hH' hn hn'
set_option maxHeartbeats 4000000 in
theorem same12_c {op : Nat} (ho : op < 16) (hs : Sim (opP op (pln W H l)) (pln W' H' l')) : Contract Tryz.prog 12 [GA W H b l, GA W' H' b' l', I op] (B true) := by
  obtain ⟨s1, s2⟩ := same_plane hW0 hH0 hW0' hH0' hn hn' (op.testBit 0) (op.testBit 1) (op.testBit 2) (op.testBit 3) hs
  obtain ⟨n, hN⟩ : ∃ n, W' + H' = n := ⟨_, rfl⟩
  have hb1 := hg_best (W := W) (l := l) (show 0 < W + H by omega)
  have hb2 := hg_best (W := W') (n := n) (l := l') (by omega)
  have f1 := hangsP_c rfl hW0 hH0 (by omega) b hn
  have f2 := hangsP_c hN hW0' hH0' (by omega) b' hn'
  have p1 := apartP_c hN hW0' hH0' (by omega) b' hn'
  have al : (apt W' n l').length ≤ n := by
    have := (best_ok (W := W') (n := n) l' (n - 1) (by omega)).2
    unfold apt; split
    · simp
    · exact this
  by_cases hg : Hg W (W + H) l
  · have hg' : Hg W' n l' := by rw [← hN]; exact s1.1 hg
    have hb := hb2.2 hg'
    rw [decide_eq_true (hb1.2 hg)] at f1
    rw [decide_eq_true hb] at f2
    have w1 := walkP_ok hN hW0' hH0' (by omega) b' hn' hb
    have hwl := wk_len (W := W') (n := n) l' n (Nat.le_refl _)
    have hnn : n * n ≤ 64 * 64 := Nat.mul_le_mul (by omega) (by omega)
    have a2 := acceptP_c hN hW0' hH0' (by omega) b' false hn' (wk W' n l' n) (by omega) true ⟨fun _ => acc_wk l' hb (by omega), fun _ => rfl⟩
    generalize wk W' n l' n = ws at *
    have hlong : ∀ c : Bool, ∃ L : Nat, Contract Tryz.prog 21 [GA W H b l, I (if c then 0 else 1 : Int)] (.tuple [I L, I 0]) ∧ Contract Tryz.prog 21 [GA W' H' b' l', I (if xor c (xor (op.testBit 2) (op.testBit 3)) then 0 else 1 : Int)] (.tuple [I L, I 0]) := fun c => by
      have q1 := longestP_c W H b l _ 0 (by have := alK_len hW0 hH0 (by omega) (by omega) l c (W + H); omega) (listA_c hW0 hH0 (by omega) (by omega) b hn c)
      have q2 := longestP_c W' H' b' l' _ 0 (by have := alK_len hW0' hH0' (by omega) (by omega) l' (xor c (xor (op.testBit 2) (op.testBit 3))) (W' + H'); omega) (listA_c hW0' hH0' (by omega) (by omega) b' hn' (xor c (xor (op.testBit 2) (op.testBit 3))))
      rw [← s2 hg c] at q2
      exact ⟨_, q1, q2⟩
    obtain ⟨L, hL⟩ := Classical.skolem.1 hlong
    have hsd := side12_c ho
    refine zi Tryz.func12 ?_
    refine zs ?_
    refine zc (f1) ?_
    refine zs ?_
    refine zc (f2) ?_
    simp (disch := first | assumption | omega | rfl | simp only [RH]) only [↓RP, RZ, ↓reduceIte, Nat.reduceEqDiff, reduceCtorEq, Nat.reduceBEq, Nat.reduceAdd, Nat.reduceLeDiff, beq_self_eq_true]
    refine zc w1 ?_
    refine zs ?_
    refine zc a2 ?_
    refine zs ?_
    refine loopK_I [2, 3, 4, 19] (fun k : Nat => k ≤ 2) (fun k => ⟨[(2, I op), (3, .ptr 0 0 3), (4, .ptr 1 0 3), (19, I k)], [⟨24, 3, [I W, I H, BA b l]⟩, ⟨24, 3, [I W', I H', BA b' l']⟩]⟩) (fun k => 2 - k) 0 (by omega) kz ?_
    intro k hk
    by_cases hlt : k < 2
    · obtain ⟨c, hc⟩ : ∃ c : Bool, (k : Int) = (if c then 0 else 1 : Int) := by
        rcases (show k = 0 ∨ k = 1 by omega) with rfl | rfl
        · exact ⟨true, rfl⟩
        · exact ⟨false, rfl⟩
      obtain ⟨q1, q2⟩ := hL c
      have q3 := hsd c
      rw [← hc] at q1 q3
      generalize L c = L0 at *
      generalize (if xor c (xor (op.testBit 2) (op.testBit 3)) then 0 else 1 : Int) = s' at *
      refine zs ?_
      refine zc (q1) ?_
      refine zs ?_
      refine zc (q3) ?_
      refine zs ?_
      refine zc (q2) ?_
      simp (disch := first | assumption | omega | rfl | simp only [RH]) only [↓RP, RZ, ↓reduceIte, Nat.reduceEqDiff, reduceCtorEq, Nat.reduceBEq, Nat.reduceAdd, Nat.reduceLeDiff, bne_self_eq_false]
      exact ⟨k + 1, by omega, rfl, by omega⟩
    · obtain rfl : k = 2 := by omega
      refine zs ?_
      exact zq1
  · have hg' : ¬ Hg W' n l' := by rw [← hN]; exact fun h => hg (s1.2 h)
    have hb : ¬ (best W' n l' (n - 1)).length = n := fun h => hg' (hb2.1 h)
    rw [decide_eq_false fun h => hg (hb1.1 h)] at f1
    rw [decide_eq_false hb] at f2
    obtain ⟨k1, k2, k3, k4⟩ := apt_off (W := W') (l := l') (by omega) hb
    have q1 := offP_c hN hW0' hH0' (by omega) b' false hn' (apt W' n l') (by omega) true 0 (fun h => absurd k1 h) (fun _ => ⟨rfl, fun _ => ⟨k2, k3, k4⟩, fun _ => rfl⟩)
    rw [isEmpty_pos k2] at p1
    generalize apt W' n l' = ap at *
    refine zi Tryz.func12 ?_
    refine zs ?_
    refine zc (f1) ?_
    refine zs ?_
    refine zc (f2) ?_
    simp (disch := first | assumption | omega | rfl | simp only [RH]) only [↓RP, RZ, ↓reduceIte, Nat.reduceEqDiff, reduceCtorEq, Nat.reduceBEq, Nat.reduceAdd, Nat.reduceLeDiff, beq_self_eq_true]
    refine zc p1 ?_
    refine zs ?_
    refine zc q1 ?_
    refine zs ?_
    exact zq1
end
def pwL : List Bool := [true, false, false, true]
def pwN : List Bool := [false, true, true, false]
def pwP (x y : Int) : Bool := decide ((x + y) % 2 = 0)
theorem pw_pln : pln 2 2 pwL = pwP := by
  funext x y
  have a1 := Int.emod_nonneg x (show (2 : Int) ≠ 0 by omega)
  have a2 := Int.emod_lt_of_pos x (show (0 : Int) < 2 by omega)
  have b1 := Int.emod_nonneg y (show (2 : Int) ≠ 0 by omega)
  have b2 := Int.emod_lt_of_pos y (show (0 : Int) < 2 by omega)
  unfold pln pwP
  show pwL.getD (2 * (y % (2 : Int)).toNat + (x % (2 : Int)).toNat) false = _
  rcases (show x % 2 = 0 ∨ x % 2 = 1 by omega) with hx | hx <;> rcases (show y % 2 = 0 ∨ y % 2 = 1 by omega) with hy | hy <;> rw [hx, hy]
  · exact (decide_eq_true (by omega)).symm
  · exact (decide_eq_false (by omega)).symm
  · exact (decide_eq_false (by omega)).symm
  · exact (decide_eq_true (by omega)).symm
theorem pw_act (a b c d : Bool) (x y : Int) : actP a b c d pwP x y = (pwP x y != d) := by
  unfold actP pwP
  congr 1
  cases a <;> cases b <;> cases c <;> simp only [if_true, if_false, Bool.false_eq_true] <;> exact decide_eq_decide.2 (by omega)
theorem pw_mod {x y x' y' : Int} (h : (x + y) % 2 = (x' + y') % 2) : pwP x y = pwP x' y' := by unfold pwP; rw [h]
theorem pw_min (a b c d : Bool) : MinPer (actP a b c d pwP) 2 2 := by
  have ne : pwP 0 0 ≠ pwP 1 0 := by decide
  have ne2 : pwP 0 0 ≠ pwP 0 1 := by decide
  refine ⟨by omega, by omega, fun x y => ?_, fun x y => ?_, fun v h0 hv => ?_, fun v h0 hv => ?_⟩
  · rw [pw_act, pw_act]; congr 1; exact pw_mod (by omega)
  · rw [pw_act, pw_act]; congr 1; exact pw_mod (by omega)
  · rcases (show v = 1 ∨ 2 ≤ v by omega) with rfl | h
    · have := hv 0 0
      rw [pw_act, pw_act] at this
      exact absurd this.symm (by cases d <;> decide)
    · exact h
  · rcases (show v = 1 ∨ 2 ≤ v by omega) with rfl | h
    · have := hv 0 0
      rw [pw_act, pw_act] at this
      exact absurd this.symm (by cases d <;> decide)
    · exact h
theorem pw_form {u v : Nat} {f : List Bool} (h : IsForm pwP u v f) : u = 2 ∧ v = 2 ∧ (f = pwL ∨ f = pwN) := by
  obtain ⟨a, b, c, d, hm, s, t, rfl⟩ := h
  obtain ⟨rfl, rfl⟩ := hm.eq (pw_min a b c d)
  refine ⟨rfl, rfl, ?_⟩
  have e : win (actP a b c d pwP) s t 2 2 = win (fun x y => pwP x y != d) s t 2 2 := win_congr fun i k _ _ => pw_act ..
  rw [e]
  have key : ∀ z : Bool, pwP s t = z → win (fun x y => pwP x y != d) s t 2 2 = [z != d, (!z) != d, (!z) != d, z != d] := fun z hz => by
    have h1 : pwP (s + 1) t = !z := by rw [← hz]; unfold pwP; rw [← decide_not]; exact decide_eq_decide.2 (by omega)
    have h2 : pwP s (t + 1) = !z := by rw [← hz]; unfold pwP; rw [← decide_not]; exact decide_eq_decide.2 (by omega)
    have h3 : pwP (s + 1) (t + 1) = z := by rw [← hz]; exact pw_mod (by omega)
    show [pwP (s + (0 : Nat)) (t + (0 : Nat)) != d, pwP (s + (1 : Nat)) (t + (0 : Nat)) != d, pwP (s + (0 : Nat)) (t + (1 : Nat)) != d, pwP (s + (1 : Nat)) (t + (1 : Nat)) != d] = _
    simp only [Int.natCast_zero, Int.natCast_one, Int.add_zero, Int.cast_ofNat_Int, hz, h1, h2, h3]
  rw [key _ rfl]
  cases pwP s t <;> cases d <;> decide
theorem pw_winN : win pwP 1 0 2 2 = pwN := by decide
theorem pw_least {u v : Nat} {f : List Bool} (h : IsForm pwP u v f) : bfr u v f 2 2 pwN = false := by
  obtain ⟨rfl, rfl, rfl | rfl⟩ := pw_form h <;> decide
theorem pw_isN : IsForm pwP 2 2 pwN := ⟨false, false, false, false, pw_min .., 1, 0, by rw [act_id]; exact pw_winN.symm⟩
theorem pw_lat : Lat pwP 2 1 1 := by
  refine ⟨by omega, by omega, by omega, fun x y => pw_mod (by omega), fun x y => pw_mod (by omega), fun v h0 hv => ?_, fun c h0 h1 => by omega⟩
  rcases (show v = 1 ∨ 2 ≤ v by omega) with rfl | h
  · exact absurd (hv 0 0) (by decide)
  · exact h
theorem pw_no0 (v : Nat) (h : v < 1) : ¬ Rep pwP v (1 : Nat) := fun hr => by
  obtain rfl : v = 0 := by omega
  exact absurd (hr 0 0) (by decide)
theorem pw_no1 (v : Nat) (h0 : 0 < v) (h : v < 2) : ¬ Rep pwP v 0 := fun hr => by
  obtain rfl : v = 1 := by omega
  exact absurd (hr 0 0) (by decide)
theorem pwLeast_c : Contract Tryz.prog 9 [GA 2 2 false pwL] (.tuple [GR 2 2 false pwN, I 0, I 0]) := by
  obtain ⟨Z, h1, h2, ⟨s, t, h3⟩, h4, h5, h6, h7⟩ := least_c (W := 2) (H := 2) (by omega) (by omega) (by omega) (by omega) false (l := pwL) rfl
  rw [pw_pln] at h2 h3 h4 h5
  have ho := h5 2 2 1 0 (by have := pw_min false false false false; rwa [act_id] at this) fun u v f hf => by rw [pw_winN]; exact pw_least hf
  have hz : IsForm pwP Z.u Z.v Z.f := ⟨_, _, _, _, h2, s, t, h3⟩
  obtain ⟨e1, e2, e3⟩ := bfr_total h6.2.2 (show pwN.length = 2 * 2 from rfl) (pw_least hz) (h4 _ _ _ pw_isN)
  rw [ho, e1, e2, e3] at h7
  exact h7
theorem pwOf_c : Contract Tryz.prog 20 [GA 2 2 false pwL] (.tuple [.agg [I 2, I 1, I 1], I 0]) :=
  of_c (W := 2) (H := 2) (by omega) (by omega) (by omega) (by omega) false (l := pwL) rfl (A := 2) (B := 1) (C := 1) (by rw [pw_pln]; exact pw_lat) (by omega) (by omega) (by rw [pw_pln]; exact pw_no0) (by rw [pw_pln]; exact pw_no1)
theorem pwLong_c : Contract Tryz.prog 21 [GA 2 2 false pwL, I 0] (.tuple [I 1, I 0]) :=
  longestP_c 2 2 false pwL 0 0 (xs := alK 2 2 pwL true 4) (by have := alK_len (W := 2) (H := 2) (by omega) (by omega) (by omega) (by omega) pwL true 4; omega) (listA_c (W := 2) (H := 2) (by omega) (by omega) (by omega) (by omega) false (l := pwL) rfl true)
theorem pwHang_c : Contract Tryz.prog 14 [GA 2 2 false pwL] (.tuple [B true, I 0]) := by
  have := hangsP_c (W := 2) (H := 2) (n := 4) rfl (by omega) (by omega) (by omega) false (l := pwL) rfl
  rw [decide_eq_true (by decide)] at this
  exact this
theorem alive12T_c : Contract Tryz.prog 4 [] (B true) := by
  have h4 := pwLeast_c
  have hg : pwN.getD 0 false = false := rfl
  have hl : pwN.length = 4 := rfl
  generalize pwN = M at *
  refine zi Tryz.func4 ?_
  refine zs ?_
  refine zc pwHang_c ?_
  refine zs ?_
  refine zc pwOf_c ?_
  refine zs ?_
  refine zc pwLong_c ?_
  refine zs ?_
  refine zc h4 ?_
  simp (disch := first | assumption | omega | rfl | simp only [RH]) only [↓RP, RZ, ↓reduceIte, Nat.reduceEqDiff, reduceCtorEq, Nat.reduceBEq, Nat.reduceAdd, Nat.reduceLeDiff, hg, beq_self_eq_true, Int.toNat_zero]
  exact zq1
inductive Wy (ov : Nat → List Nat) : Nat → Nat → Prop
  | refl (a : Nat) : Wy ov a a
  | step {a b c : Nat} (h : b ∈ ov a) (hr : Wy ov b c) : Wy ov a c
theorem Wy.trans {ov : Nat → List Nat} {a b c : Nat} (h1 : Wy ov a b) (h2 : Wy ov b c) : Wy ov a c := by
  induction h1 with
  | refl a => exact h2
  | step h _ ih => exact .step h (ih h2)
theorem Wy.one {ov : Nat → List Nat} {a b : Nat} (h : b ∈ ov a) : Wy ov a b := .step h (.refl b)
theorem Wy.closed {ov : Nat → List Nat} {p : Nat → Prop} (hp : ∀ x y, p x → y ∈ ov x → p y) {a b : Nat} (h : Wy ov a b) (ha : p a) : p b := by
  induction h with
  | refl a => exact ha
  | step h _ ih => exact ih (hp _ _ ha h)
def updN {α : Type} (f : Nat → α) (a : Nat) (v : α) : Nat → α := fun x => if x = a then v else f x
theorem updN_same {α : Type} (f : Nat → α) (a : Nat) (v : α) : updN f a v a = v := if_pos rfl
theorem updN_other {α : Type} (f : Nat → α) {a x : Nat} (v : α) (h : x ≠ a) : updN f a v x = f x := if_neg h
structure TS where
  ix : Nat → Nat
  lo : Nat → Nat
  pt : Nat → Int
  st : List Nat
  jk : List Nat
  mt : Nat
  ps : List (List Nat)
abbrev srtN (l : List Nat) : List Nat := l.mergeSort fun x y => decide (x ≤ y)
def tEnter (s : TS) (a : Nat) : TS := { s with ix := updN s.ix a (s.mt + 1), lo := updN s.lo a (s.mt + 1), st := s.st ++ [a], jk := s.jk.drop 1, mt := s.mt + 1 }
def tSeg (a : Nat) (s : TS) : List Nat := s.st.drop (s.st.idxOf a)
def tPop (a : Nat) (s : TS) : TS := { s with st := s.st.take (s.st.idxOf a), jk := tSeg a s ++ s.jk, pt := fun x => if x ∈ tSeg a s then (s.ps.length : Int) else s.pt x, ps := s.ps ++ [srtN (tSeg a s)] }
def tFin (a : Nat) (s : TS) : TS := if s.lo a = s.ix a then tPop a s else s
def tEdge (v : TS → Nat → TS) (a : Nat) (s : TS) (b : Nat) : TS :=
  if s.ix b = 0 then { v s b with lo := updN (v s b).lo a (min ((v s b).lo a) ((v s b).lo b)) }
  else if s.pt b < 0 then { s with lo := updN s.lo a (min (s.lo a) (s.ix b)) } else s
def tVis (ov : Nat → List Nat) : Nat → TS → Nat → TS
  | 0, s, _ => s
  | k + 1, s, a => tFin a ((ov a).foldl (tEdge (tVis ov k) a) (tEnter s a))
def unvT (n : Nat) (s : TS) : Nat := (List.range n).countP fun x => decide (s.ix x = 0)
theorem unv_mono {n : Nat} {s s' : TS} (h : ∀ x, s.ix x ≠ 0 → s'.ix x ≠ 0) : unvT n s' ≤ unvT n s := by
  refine List.countP_mono_left fun x _ hx => ?_
  simp only [decide_eq_true_eq] at hx ⊢
  exact Classical.byContradiction fun h0 => h x h0 hx
theorem countP_lt {p q : Nat → Bool} {a : Nat} : ∀ {l : List Nat}, a ∈ l → (∀ x, p x = true → q x = true) → p a = false → q a = true → l.countP p < l.countP q
  | x :: l, h, hpq, h1, h2 => by
    have hm : l.countP p ≤ l.countP q := List.countP_mono_left fun x _ hx => hpq x hx
    rw [List.countP_cons, List.countP_cons]
    rcases List.mem_cons.1 h with rfl | h'
    · rw [h1, h2]; simp; omega
    · have := countP_lt h' hpq h1 h2
      have h3 : (if p x = true then 1 else 0) ≤ (if q x = true then 1 else 0) := by
        split
        · rename_i hx; rw [if_pos (hpq x hx)]; omega
        · omega
      omega
theorem countP_one {m q : Nat} (hq : q < m) {f g : Nat → Bool} (h1 : ∀ x, x ≠ q → f x = g x) (h2 : f q = false) (h3 : g q = true) : (List.range m).countP g = (List.range m).countP f + 1 := by
  induction m with
  | zero => omega
  | succ m ih =>
    rw [List.range_succ, List.countP_append, List.countP_append]
    by_cases hqm : q = m
    · subst hqm
      have : (List.range q).countP g = (List.range q).countP f := List.countP_congr fun x hx => by
        rw [h1 x (by have := List.mem_range.1 hx; omega)]
      rw [this]; simp [h2, h3]
    · rw [ih (by omega)]
      have : f m = g m := h1 m (by omega)
      simp only [List.countP_cons, List.countP_nil, this]; omega
structure TInv (ov : Nat → List Nat) (n : Nat) (s : TS) (G : List Nat) : Prop where
  srt : s.st.Pairwise fun x y => s.ix x < s.ix y
  mem : ∀ x, x ∈ s.st ↔ s.ix x ≠ 0 ∧ s.pt x < 0
  ixle : ∀ x, s.ix x ≤ s.mt
  vin : ∀ x, s.ix x ≠ 0 → x < n
  ptw : ∀ x, 0 ≤ s.pt x → s.ix x ≠ 0
  dn : ∀ x y, 0 ≤ s.pt x → y ∈ ov x → 0 ≤ s.pt y ∧ s.pt y ≤ s.pt x
  gr : ∀ g, g ∈ G → g ∈ s.st
  bl : ∀ x y, s.ix x ≠ 0 → ¬ x ∈ G → y ∈ ov x → s.ix y ≠ 0
  up : ∀ x, x ∈ s.st → ∃ g, g ∈ G ∧ s.ix g ≤ s.ix x ∧ Wy ov x g
  dw : ∀ g x, g ∈ G → x ∈ s.st → s.ix g ≤ s.ix x → Wy ov g x
  p1 : ∀ x (k : Nat), s.pt x = (k : Int) ↔ ∃ l, s.ps[k]? = some l ∧ x ∈ l
  p2 : ∀ l, l ∈ s.ps → l ≠ [] ∧ l.Pairwise (· < ·)
  p3 : ∀ x y, 0 ≤ s.pt x → (s.pt y = s.pt x ↔ Wy ov x y ∧ Wy ov y x)
  mtc : s.mt + unvT n s = n
  sj : s.st.length + s.jk.length ≤ s.mt
  pl : s.ps.length + s.st.length ≤ s.mt
structure TExt (s s' : TS) : Prop where
  e1 : ∀ x, s.ix x ≠ 0 → s'.ix x = s.ix x ∧ s'.lo x = s.lo x
  e2 : ∀ x, 0 ≤ s.pt x → s'.pt x = s.pt x
  e3 : ∃ new, s'.st = s.st ++ new ∧ ∀ x, x ∈ new → s.ix x = 0
  e4 : s.mt ≤ s'.mt
  e5 : ∀ x, s.ix x = 0 → s'.ix x ≠ 0 → s.mt < s'.ix x
theorem TExt.refl (s : TS) : TExt s s := ⟨fun _ _ => ⟨rfl, rfl⟩, fun _ _ => rfl, ⟨[], by simp, fun _ h => by cases h⟩, Nat.le_refl _, fun _ h1 h2 => absurd h1 h2⟩
theorem unv_enter1 {n a : Nat} {s : TS} (ha : a < n) (h0 : s.ix a = 0) : unvT n s = unvT n (tEnter s a) + 1 := by
  refine countP_one ha (fun x hx => ?_) ?_ ?_
  · rw [show (tEnter s a).ix x = s.ix x from updN_other _ _ hx]
  · simp [tEnter, updN]
  · simpa using h0
theorem unv_enter {n a : Nat} {s : TS} (ha : a < n) (h0 : s.ix a = 0) : unvT n (tEnter s a) < unvT n s := by
  refine countP_lt (a := a) (List.mem_range.2 ha) (fun x hx => ?_) ?_ ?_
  · have h1 : (tEnter s a).ix x = 0 := by simpa using hx
    by_cases hxa : x = a
    · subst hxa; rw [show (tEnter s x).ix x = s.mt + 1 from updN_same _ _ _] at h1; omega
    · rw [show (tEnter s a).ix x = s.ix x from updN_other _ _ hxa] at h1
      simpa using h1
  · simp [tEnter, updN]
  · simpa using h0
section
variable {ov : Nat → List Nat} {n : Nat}
theorem TInv.pt_of_mem {s : TS} {G : List Nat} (h : TInv ov n s G) {x : Nat} (hx : x ∈ s.st) : s.pt x < 0 := ((h.mem x).1 hx).2
theorem enter_inv {s : TS} {G : List Nat} (h : TInv ov n s G) {a : Nat} (ha : a < n) (h0 : s.ix a = 0) (hG : ∀ g, g ∈ G → Wy ov g a) : TInv ov n (tEnter s a) (a :: G) := by
  have hna : ¬ a ∈ s.st := fun hm => ((h.mem a).1 hm).1 h0
  have hne : ∀ x, x ∈ s.st → x ≠ a := fun x hx he => hna (he ▸ hx)
  have hix : ∀ x, x ≠ a → (tEnter s a).ix x = s.ix x := fun x hx => updN_other _ _ hx
  have hia : (tEnter s a).ix a = s.mt + 1 := updN_same _ _ _
  have hpa : s.pt a < 0 := Classical.byContradiction fun hn => h.ptw a (by omega) h0
  have hst : ∀ x, x ∈ (tEnter s a).st ↔ x ∈ s.st ∨ x = a := fun x => by simp [tEnter]
  refine ⟨?_, fun x => ?_, fun x => ?_, fun x hx => ?_, fun x hx => ?_, h.dn, fun g hg => ?_, fun x y hx hxG hy => ?_, fun x hx => ?_, fun g x hg hx hle => ?_, h.p1, h.p2, h.p3, ?_, ?_, ?_⟩
  · refine List.pairwise_append.2 ⟨?_, by simp, fun x hx y hy => ?_⟩
    · refine List.Pairwise.imp_of_mem (fun {x y} hx hy hlt => ?_) h.srt
      rw [hix x (hne x hx), hix y (hne y hy)]; exact hlt
    · simp only [List.mem_singleton] at hy
      subst hy
      rw [hix x (hne x hx), hia]
      have := h.ixle x; omega
  · rw [hst]
    constructor
    · rintro (hx | rfl)
      · rw [hix x (hne x hx)]; exact (h.mem x).1 hx
      · exact ⟨by rw [hia]; omega, hpa⟩
    · rintro ⟨h1, h2⟩
      by_cases hxa : x = a
      · exact .inr hxa
      · rw [hix x hxa] at h1; exact .inl ((h.mem x).2 ⟨h1, h2⟩)
  · show (tEnter s a).ix x ≤ s.mt + 1
    by_cases hxa : x = a
    · subst hxa; rw [hia]; exact Nat.le_refl _
    · rw [hix x hxa]; have := h.ixle x; omega
  · by_cases hxa : x = a
    · subst hxa; exact ha
    · rw [hix x hxa] at hx; exact h.vin x hx
  · by_cases hxa : x = a
    · subst hxa; rw [hia]; omega
    · rw [hix x hxa]; exact h.ptw x hx
  · rw [hst]
    rcases List.mem_cons.1 hg with rfl | hg
    · exact .inr rfl
    · exact .inl (h.gr g hg)
  · have hxa : x ≠ a := fun he => hxG (List.mem_cons.2 (.inl he))
    rw [hix x hxa] at hx
    have h1 := h.bl x y hx (fun hm => hxG (List.mem_cons.2 (.inr hm))) hy
    by_cases hya : y = a
    · subst hya; rw [hia]; omega
    · rw [hix y hya]; exact h1
  · rcases (hst x).1 hx with hx | rfl
    · obtain ⟨g, g1, g2, g3⟩ := h.up x hx
      refine ⟨g, List.mem_cons.2 (.inr g1), ?_, g3⟩
      rw [hix x (hne x hx), hix g (hne g (h.gr g g1))]; exact g2
    · exact ⟨x, List.mem_cons.2 (.inl rfl), Nat.le_refl _, .refl x⟩
  · rcases (hst x).1 hx with hx' | rfl
    · rcases List.mem_cons.1 hg with hga | hg
      · exfalso
        rw [hga, hia, hix x (hne x hx')] at hle
        have := h.ixle x; omega
      · rw [hix x (hne x hx'), hix g (hne g (h.gr g hg))] at hle
        exact h.dw g x hg hx' hle
    · rcases List.mem_cons.1 hg with rfl | hg
      · exact .refl _
      · exact hG g hg
  · have h1 := unv_enter1 ha h0
    have h2 := h.mtc
    show s.mt + 1 + unvT n (tEnter s a) = n
    omega
  · have h1 := h.sj
    show (s.st ++ [a]).length + (s.jk.drop 1).length ≤ s.mt + 1
    simp only [List.length_append, List.length_singleton, List.length_drop]; omega
  · have h1 := h.pl
    show s.ps.length + (s.st ++ [a]).length ≤ s.mt + 1
    simp only [List.length_append, List.length_singleton]; omega
structure TMid (ov : Nat → List Nat) (n : Nat) (s : TS) (G : List Nat) (a : Nat) (D : List Nat) (t : TS) : Prop where
  inv : TInv ov n t (a :: G)
  ext : TExt s t
  ia : t.ix a = s.mt + 1
  st : ∃ new, t.st = s.st ++ a :: new
  low : ∃ y, (y ∈ s.st ∨ y = a) ∧ t.lo a = t.ix y ∧ Wy ov a y
  dd : ∀ y, y ∈ D → t.ix y ≠ 0
  cr : ∀ x y, x ∈ t.st → ¬ x ∈ s.st → y ∈ ov x → y ∈ s.st → (x = a → y ∈ D) → t.lo a ≤ s.ix y
structure TPost (ov : Nat → List Nat) (n : Nat) (s : TS) (G : List Nat) (a : Nat) (t : TS) : Prop where
  inv : TInv ov n t G
  ext : TExt s t
  ia : t.ix a = s.mt + 1
  low : (0 ≤ t.pt a ∧ t.lo a = t.ix a) ∨ (∃ y, y ∈ s.st ∧ t.lo a = s.ix y ∧ Wy ov a y)
  cr : ∀ x y, x ∈ t.st → ¬ x ∈ s.st → y ∈ ov x → y ∈ s.st → t.lo a ≤ s.ix y
theorem mid_start {s : TS} {G : List Nat} (h : TInv ov n s G) {a : Nat} (ha : a < n) (h0 : s.ix a = 0) (hG : ∀ g, g ∈ G → Wy ov g a) : TMid ov n s G a [] (tEnter s a) := by
  have hna : ¬ a ∈ s.st := fun hm => ((h.mem a).1 hm).1 h0
  have hia : (tEnter s a).ix a = s.mt + 1 := updN_same _ _ _
  have hla : (tEnter s a).lo a = s.mt + 1 := updN_same _ _ _
  refine ⟨enter_inv h ha h0 hG, ⟨fun x hx => ?_, fun _ _ => rfl, ⟨[a], rfl, fun x hx => ?_⟩, ?_, fun x h1 h2 => ?_⟩, hia, ⟨[], rfl⟩, ⟨a, .inr rfl, by rw [hla, hia], .refl a⟩, (fun y hy => by cases hy), fun x y hx hxs hy hys hD => ?_⟩
  · have hxa : x ≠ a := fun he => hx (he ▸ h0)
    exact ⟨updN_other _ _ hxa, updN_other _ _ hxa⟩
  · simp only [List.mem_singleton] at hx; subst hx; exact h0
  · show s.mt ≤ s.mt + 1; omega
  · by_cases hxa : x = a
    · subst hxa; rw [hia]; omega
    · exact absurd ((updN_other _ _ hxa : (tEnter s a).ix x = s.ix x).trans h1) h2
  · have : x = a := by
      have h1 : x ∈ s.st ++ [a] := hx
      rw [List.mem_append] at h1
      rcases h1 with h1 | h1
      · exact absurd h1 hxs
      · simpa using h1
    exact absurd (hD this) (by simp)
end
theorem TExt.trans {s t u : TS} (h1 : TExt s t) (h2 : TExt t u) : TExt s u := by
  refine ⟨fun x hx => ?_, fun x hx => ?_, ?_, Nat.le_trans h1.e4 h2.e4, fun x h0 hu => ?_⟩
  · obtain ⟨a1, a2⟩ := h1.e1 x hx
    obtain ⟨b1, b2⟩ := h2.e1 x (by rw [a1]; exact hx)
    exact ⟨b1.trans a1, b2.trans a2⟩
  · have a1 := h1.e2 x hx
    rw [h2.e2 x (by rw [a1]; exact hx), a1]
  · obtain ⟨n1, a1, a2⟩ := h1.e3
    obtain ⟨n2, b1, b2⟩ := h2.e3
    refine ⟨n1 ++ n2, by rw [b1, a1, List.append_assoc], fun x hx => ?_⟩
    rcases List.mem_append.1 hx with hx | hx
    · exact a2 x hx
    · refine Classical.byContradiction fun h0 => ?_
      have := (h1.e1 x h0).1
      rw [b2 x hx] at this
      exact h0 this.symm
  · by_cases ht : t.ix x = 0
    · have := h2.e5 x ht hu; have := h1.e4; omega
    · have := h1.e5 x h0 ht
      have := (h2.e1 x ht).1
      omega
section
variable {ov : Nat → List Nat} {n : Nat}
theorem TInv.with_lo {s : TS} {G : List Nat} (h : TInv ov n s G) (f : Nat → Nat) : TInv ov n { s with lo := f } G :=
  ⟨h.srt, h.mem, h.ixle, h.vin, h.ptw, h.dn, h.gr, h.bl, h.up, h.dw, h.p1, h.p2, h.p3, h.mtc, h.sj, h.pl⟩
theorem TExt.with_lo {s t : TS} (h : TExt s t) {a : Nat} (h0 : s.ix a = 0) (v : Nat) : TExt s { t with lo := updN t.lo a v } := by
  refine ⟨fun x hx => ⟨(h.e1 x hx).1, ?_⟩, h.e2, h.e3, h.e4, h.e5⟩
  show updN t.lo a v x = s.lo x
  have hxa : x ≠ a := fun he => hx (by rw [he]; exact h0)
  rw [updN_other _ _ hxa]; exact (h.e1 x hx).2
theorem mid_old {s t : TS} {G : List Nat} {a : Nat} {D : List Nat} (hs : TInv ov n s G) (hm : TMid ov n s G a D t) {x : Nat} (hx : x ∈ s.st) : t.ix x = s.ix x ∧ t.ix x < t.ix a ∧ x ∈ t.st := by
  have h1 := ((hs.mem x).1 hx).1
  have h2 := (hm.ext.e1 x h1).1
  have h3 := hs.ixle x
  obtain ⟨new, h4, _⟩ := hm.ext.e3
  exact ⟨h2, by rw [h2, hm.ia]; omega, by rw [h4, List.mem_append]; exact .inl hx⟩
theorem mid_new {s t : TS} {G : List Nat} {a : Nat} {D : List Nat} (hm : TMid ov n s G a D t) {x : Nat} (hx : x ∈ t.st) (hn : ¬ x ∈ s.st) : t.ix a ≤ t.ix x := by
  obtain ⟨new, h4, h5⟩ := hm.ext.e3
  rw [h4, List.mem_append] at hx
  rcases hx with hx | hx
  · exact absurd hx hn
  · have h6 := h5 x hx
    have h7 := ((hm.inv.mem x).1 (by rw [h4, List.mem_append]; exact .inr hx)).1
    have h8 := hm.ext.e5 x h6 h7
    rw [hm.ia]; omega
theorem mid_low {s t : TS} {G : List Nat} {a : Nat} {D : List Nat} (hs : TInv ov n s G) (hm : TMid ov n s G a D t) : t.lo a ≤ t.ix a := by
  obtain ⟨y, hy, h1, _⟩ := hm.low
  rw [h1]
  rcases hy with hy | rfl
  · exact Nat.le_of_lt (mid_old hs hm hy).2.1
  · exact Nat.le_refl _
theorem mid_below {s t : TS} {G : List Nat} {a : Nat} {D : List Nat} (hm : TMid ov n s G a D t) {x : Nat} (hx : x ∈ t.st) (hlt : t.ix x < t.ix a) : x ∈ s.st :=
  Classical.byContradiction fun hn => by have := mid_new hm hx hn; omega
theorem mid_edge {s t : TS} {G : List Nat} {a : Nat} {D : List Nat} {v : TS → Nat → TS} (hs : TInv ov n s G) (h0 : s.ix a = 0) (hm : TMid ov n s G a D t) {b : Nat} (hb : b ∈ ov a) (hv : t.ix b = 0 → TPost ov n t (a :: G) b (v t b)) : TMid ov n s G a (D ++ [b]) (tEdge v a t b) := by
  have hia0 : t.ix a ≠ 0 := by rw [hm.ia]; omega
  have hat : a ∈ t.st := by obtain ⟨new, h⟩ := hm.st; rw [h]; simp
  have has : ¬ a ∈ s.st := fun h => ((hs.mem a).1 h).1 h0
  have hll := mid_low hs hm
  unfold tEdge
  by_cases hb0 : t.ix b = 0
  · rw [if_pos hb0]
    have P := hv hb0
    generalize v t b = t1 at P
    have hla : t1.lo a = t.lo a := (P.ext.e1 a hia0).2
    have hia1 : t1.ix a = t.ix a := (P.ext.e1 a hia0).1
    refine ⟨P.inv.with_lo _, (hm.ext.trans P.ext).with_lo h0 _, ?_, ?_, ?_, fun y hy => ?_, fun x y hx hxs hy hys hD => ?_⟩
    · show t1.ix a = s.mt + 1
      rw [hia1, hm.ia]
    · obtain ⟨n1, k1⟩ := hm.st
      obtain ⟨n2, k2, _⟩ := P.ext.e3
      exact ⟨n1 ++ n2, by show t1.st = _; rw [k2, k1]; simp⟩
    · show ∃ y, (y ∈ s.st ∨ y = a) ∧ updN t1.lo a (min (t1.lo a) (t1.lo b)) a = t1.ix y ∧ Wy ov a y
      rw [updN_same, hla]
      by_cases hmin : t.lo a ≤ t1.lo b
      · rw [Nat.min_eq_left hmin]
        obtain ⟨y, hy, k1, k2⟩ := hm.low
        refine ⟨y, hy, ?_, k2⟩
        rw [k1]
        have : t.ix y ≠ 0 := by
          rcases hy with hy | rfl
          · rw [(mid_old hs hm hy).1]; exact ((hs.mem y).1 hy).1
          · exact hia0
        exact (P.ext.e1 y this).1.symm
      · rw [Nat.min_eq_right (by omega)]
        rcases P.low with ⟨_, k2⟩ | ⟨y, hy, k1, k2⟩
        · exfalso
          have h1 := hm.inv.ixle a
          have h2 := P.ia
          omega
        · have hys : y ∈ s.st := mid_below hm hy (by omega)
          exact ⟨y, .inl hys, by rw [k1]; exact (P.ext.e1 y ((hm.inv.mem y).1 hy).1).1.symm, .step hb k2⟩
    · show t1.ix y ≠ 0
      rcases List.mem_append.1 hy with hy | hy
      · have := hm.dd y hy
        rw [(P.ext.e1 y this).1]; exact this
      · simp only [List.mem_singleton] at hy
        subst hy
        rw [P.ia]; omega
    · show updN t1.lo a (min (t1.lo a) (t1.lo b)) a ≤ s.ix y
      rw [updN_same, hla]
      have hyt := mid_old hs hm hys
      by_cases hxt : x ∈ t.st
      · have : t.lo a ≤ s.ix y := hm.cr x y hxt hxs hy hys fun hxa => by
          have := hD hxa
          rcases List.mem_append.1 this with h1 | h1
          · exact h1
          · simp only [List.mem_singleton] at h1
            subst h1
            exfalso
            rw [hyt.1] at hb0
            exact ((hs.mem y).1 hys).1 hb0
        omega
      · have := P.cr x y hx hxt hy hyt.2.2
        rw [hyt.1] at this
        omega
  · rw [if_neg hb0]
    by_cases hp : t.pt b < 0
    · rw [if_pos hp]
      have hbt : b ∈ t.st := (hm.inv.mem b).2 ⟨hb0, hp⟩
      refine ⟨hm.inv.with_lo _, hm.ext.with_lo h0 _, hm.ia, hm.st, ?_, fun y hy => ?_, fun x y hx hxs hy hys hD => ?_⟩
      · show ∃ y, (y ∈ s.st ∨ y = a) ∧ updN t.lo a (min (t.lo a) (t.ix b)) a = t.ix y ∧ Wy ov a y
        rw [updN_same]
        by_cases hmin : t.lo a ≤ t.ix b
        · rw [Nat.min_eq_left hmin]; exact hm.low
        · rw [Nat.min_eq_right (by omega)]
          exact ⟨b, .inl (mid_below hm hbt (by omega)), rfl, .one hb⟩
      · rcases List.mem_append.1 hy with hy | hy
        · exact hm.dd y hy
        · simp only [List.mem_singleton] at hy
          subst hy; exact hb0
      · show updN t.lo a (min (t.lo a) (t.ix b)) a ≤ s.ix y
        rw [updN_same]
        have hyt := mid_old hs hm hys
        by_cases hyb : x = a ∧ y = b
        · obtain ⟨rfl, rfl⟩ := hyb
          rw [hyt.1]; omega
        · have : t.lo a ≤ s.ix y := hm.cr x y hx hxs hy hys fun hxa => by
            rcases List.mem_append.1 (hD hxa) with h1 | h1
            · exact h1
            · simp only [List.mem_singleton] at h1
              exact absurd ⟨hxa, h1⟩ hyb
          omega
    · rw [if_neg hp]
      refine ⟨hm.inv, hm.ext, hm.ia, hm.st, hm.low, fun y hy => ?_, fun x y hx hxs hy hys hD => hm.cr x y hx hxs hy hys fun hxa => ?_⟩
      · rcases List.mem_append.1 hy with hy | hy
        · exact hm.dd y hy
        · simp only [List.mem_singleton] at hy
          subst hy; exact hb0
      · rcases List.mem_append.1 (hD hxa) with h1 | h1
        · exact h1
        · simp only [List.mem_singleton] at h1
          subst h1
          exact absurd (hm.inv.pt_of_mem (mid_old hs hm hys).2.2) hp
end
theorem idxOf_at {s : List Nat} {a : Nat} (h : ¬ a ∈ s) (r : List Nat) : (s ++ a :: r).idxOf a = s.length := by
  rw [List.idxOf_append, if_neg h, List.idxOf_cons_self, Nat.zero_add]
theorem srtN_mem {l : List Nat} {x : Nat} : x ∈ srtN l ↔ x ∈ l := (List.mergeSort_perm l _).mem_iff
theorem srtN_sorted (l : List Nat) : (srtN l).Pairwise (· ≤ ·) := by
  have := List.pairwise_mergeSort (le := fun x y : Nat => decide (x ≤ y)) (fun a b c h1 h2 => by simp at *; omega) (fun a b => by simp; omega) l
  exact this.imp fun h => by simpa using h
theorem srtN_strict {l : List Nat} (hn : l.Nodup) : (srtN l).Pairwise (· < ·) := by
  have h1 := srtN_sorted l
  have h2 : (srtN l).Nodup := (List.mergeSort_perm l _).nodup_iff.2 hn
  refine (h1.and h2).imp fun ⟨a, b⟩ => by omega
section
variable {ov : Nat → List Nat} {n : Nat}
theorem mid_fin {s t : TS} {G : List Nat} {a : Nat} (hs : TInv ov n s G) (h0 : s.ix a = 0) (hm : TMid ov n s G a (ov a) t) : TPost ov n s G a (tFin a t) := by
  have has : ¬ a ∈ s.st := fun h => ((hs.mem a).1 h).1 h0
  obtain ⟨new, hnew⟩ := hm.st
  have hia0 : t.ix a ≠ 0 := by rw [hm.ia]; omega
  have hnd : t.st.Nodup := hm.inv.srt.imp fun h => by rintro rfl; omega
  have hidx : t.st.idxOf a = s.st.length := by rw [hnew, idxOf_at has]
  have hseg : tSeg a t = a :: new := by unfold tSeg; rw [hidx, hnew]; simp
  have hin : ∀ x, x ∈ t.st ↔ x ∈ s.st ∨ x ∈ a :: new := fun x => by rw [hnew, List.mem_append]
  have hdis : ∀ x, x ∈ s.st → ¬ x ∈ a :: new := fun x hx hx2 => by
    rw [hnew] at hnd
    exact (List.nodup_append.1 hnd).2.2 x hx x hx2 rfl
  have hsegst : ∀ x, x ∈ a :: new → x ∈ t.st := fun x hx => (hin x).2 (.inr hx)
  have hGs : ∀ g, g ∈ G → g ∈ s.st := hs.gr
  have hvis : ∀ x y, x ∈ a :: new → y ∈ ov x → t.ix y ≠ 0 := fun x y hx hy => by
    by_cases hxa : x = a
    · subst hxa; exact hm.dd y hy
    · refine hm.inv.bl x y ((hm.inv.mem x).1 (hsegst x hx)).1 (fun hg => ?_) hy
      rcases List.mem_cons.1 hg with h1 | h1
      · exact hxa h1
      · exact hdis x (hGs x h1) hx
  have hlow := mid_low hs hm
  unfold tFin
  by_cases hla : t.lo a = t.ix a
  · rw [if_pos hla]
    have hK : ∀ x y, (x ∈ a :: new ∨ 0 ≤ t.pt x) → y ∈ ov x → (y ∈ a :: new ∨ 0 ≤ t.pt y) := fun x y hx hy => by
      rcases hx with hx | hx
      · have h1 := hvis x y hx hy
        by_cases hp : t.pt y < 0
        · have hyt : y ∈ t.st := (hm.inv.mem y).2 ⟨h1, hp⟩
          rcases (hin y).1 hyt with h2 | h2
          · exfalso
            have h3 := hm.cr x y (hsegst x hx) (fun h => hdis x h hx) hy h2 (fun hxa => hxa ▸ hy)
            have h4 := mid_old hs hm h2
            omega
          · exact .inl h2
        · exact .inr (by omega)
      · exact .inr (hm.inv.dn x y hx hy).1
    have hKr : ∀ x y, x ∈ a :: new → Wy ov x y → (y ∈ a :: new ∨ 0 ≤ t.pt y) := fun x y hx hr => hr.closed (p := fun x => x ∈ a :: new ∨ 0 ≤ t.pt x) hK (.inl hx)
    have hdr : ∀ x y, 0 ≤ t.pt x → Wy ov x y → 0 ≤ t.pt y := fun x y hx hr => hr.closed (p := fun x => 0 ≤ t.pt x) (fun x y h1 h2 => (hm.inv.dn x y h1 h2).1) hx
    have hax : ∀ x, x ∈ a :: new → Wy ov a x := fun x hx => hm.inv.dw a x (by simp) (hsegst x hx) (mid_new hm (hsegst x hx) (fun h => hdis x h hx))
    have hxa : ∀ x, x ∈ a :: new → Wy ov x a := fun x hx => by
      obtain ⟨g, g1, g2, g3⟩ := hm.inv.up x (hsegst x hx)
      rcases List.mem_cons.1 g1 with rfl | g1
      · exact g3
      · exfalso
        have hgs := hGs g g1
        rcases hKr x g hx g3 with h1 | h1
        · exact hdis g hgs h1
        · have := hm.inv.pt_of_mem (mid_old hs hm hgs).2.2; omega
    have hpneg : ∀ x, x ∈ a :: new → t.pt x < 0 := fun x hx => hm.inv.pt_of_mem (hsegst x hx)
    have hps : ∀ x (k : Nat), t.pt x = (k : Int) → k < t.ps.length := fun x k hk => by
      obtain ⟨l, h1, _⟩ := (hm.inv.p1 x k).1 hk
      exact (List.getElem?_eq_some_iff.1 h1).1
    have hpt : ∀ x, (tPop a t).pt x = if x ∈ a :: new then (t.ps.length : Int) else t.pt x := fun x => by show (if x ∈ tSeg a t then _ else _) = _; rw [hseg]
    have hst : (tPop a t).st = s.st := by show t.st.take _ = _; rw [hidx, hnew]; simp
    have hpp : (tPop a t).ps = t.ps ++ [srtN (a :: new)] := by show t.ps ++ [srtN (tSeg a t)] = _; rw [hseg]
    have hpos : ∀ x, 0 ≤ (tPop a t).pt x ↔ x ∈ a :: new ∨ 0 ≤ t.pt x := fun x => by
      rw [hpt]
      split
      · rename_i h; exact ⟨fun _ => .inl h, fun _ => by omega⟩
      · rename_i h; exact ⟨fun h1 => .inr h1, fun h1 => by rcases h1 with h1 | h1; exact absurd h1 h; exact h1⟩
    refine ⟨⟨?_, fun x => ?_, hm.inv.ixle, hm.inv.vin, fun x hx => ?_, fun x y hx hy => ?_, fun g hg => ?_, fun x y hx hxG hy => ?_, fun x hx => ?_, fun g x hg hx hle => ?_, fun x k => ?_, fun l hl => ?_, fun x y hx => ?_, hm.inv.mtc, ?_, ?_⟩, ⟨hm.ext.e1, fun x hx => ?_, ⟨[], by rw [hst]; simp, fun x hx => by cases hx⟩, hm.ext.e4, hm.ext.e5⟩, hm.ia, .inl ⟨?_, hla⟩, fun x y hx hxs => ?_⟩
    · rw [hst]
      refine List.Pairwise.imp_of_mem (fun {x y} hx hy hlt => ?_) hs.srt
      show t.ix x < t.ix y
      rw [(mid_old hs hm hx).1, (mid_old hs hm hy).1]; exact hlt
    · rw [hst]
      show x ∈ s.st ↔ t.ix x ≠ 0 ∧ (tPop a t).pt x < 0
      constructor
      · intro hx
        have h1 := (hm.inv.mem x).1 (mid_old hs hm hx).2.2
        refine ⟨h1.1, ?_⟩
        rw [hpt, if_neg (hdis x hx)]; exact h1.2
      · rintro ⟨h1, h2⟩
        have h3 : ¬ (x ∈ a :: new ∨ 0 ≤ t.pt x) := fun h => by have := (hpos x).2 h; omega
        have h4 : x ∈ t.st := (hm.inv.mem x).2 ⟨h1, Classical.byContradiction fun h => h3 (.inr (by omega))⟩
        rcases (hin x).1 h4 with h5 | h5
        · exact h5
        · exact absurd (.inl h5) h3
    · rcases (hpos x).1 hx with h1 | h1
      · exact ((hm.inv.mem x).1 (hsegst x h1)).1
      · exact hm.inv.ptw x h1
    · have h1 := hK x y ((hpos x).1 hx) hy
      refine ⟨(hpos y).2 h1, ?_⟩
      rw [hpt x, hpt y]
      by_cases hys : y ∈ a :: new
      · rw [if_pos hys]
        by_cases hxs : x ∈ a :: new
        · rw [if_pos hxs]; exact Int.le_refl _
        · exfalso
          rcases (hpos x).1 hx with h2 | h2
          · exact hxs h2
          · have := (hm.inv.dn x y h2 hy).1
            have := hpneg y hys; omega
      · rw [if_neg hys]
        have hy0 : 0 ≤ t.pt y := by rcases h1 with h1 | h1; exact absurd h1 hys; exact h1
        by_cases hxs : x ∈ a :: new
        · rw [if_pos hxs]
          have := hps y (t.pt y).toNat (by omega)
          omega
        · rw [if_neg hxs]
          rcases (hpos x).1 hx with h2 | h2
          · exact absurd h2 hxs
          · exact (hm.inv.dn x y h2 hy).2
    · rw [hst]; exact hGs g hg
    · by_cases hxa : x = a
      · subst hxa; exact hm.dd y hy
      · exact hm.inv.bl x y hx (fun h => by rcases List.mem_cons.1 h with h1 | h1; exact hxa h1; exact hxG h1) hy
    · rw [hst] at hx
      obtain ⟨g, g1, g2, g3⟩ := hs.up x hx
      refine ⟨g, g1, ?_, g3⟩
      show t.ix g ≤ t.ix x
      rw [(mid_old hs hm hx).1, (mid_old hs hm (hGs g g1)).1]; exact g2
    · rw [hst] at hx
      have hle' : t.ix g ≤ t.ix x := hle
      rw [(mid_old hs hm hx).1, (mid_old hs hm (hGs g hg)).1] at hle'
      exact hs.dw g x hg hx hle'
    · rw [hpt, hpp]
      split
      · rename_i h
        constructor
        · intro hk
          have : k = t.ps.length := by omega
          subst this
          exact ⟨_, by rw [List.getElem?_append_right (Nat.le_refl _)]; simp, srtN_mem.2 h⟩
        · rintro ⟨l, h1, h2⟩
          by_cases hk : k < t.ps.length
          · rw [List.getElem?_append_left hk] at h1
            have := (hm.inv.p1 x k).2 ⟨l, h1, h2⟩
            have := hpneg x h; omega
          · have := (List.getElem?_eq_some_iff.1 h1).1
            simp at this; omega
      · rename_i h
        rw [hm.inv.p1]
        constructor
        · rintro ⟨l, h1, h2⟩
          exact ⟨l, by rw [List.getElem?_append_left (List.getElem?_eq_some_iff.1 h1).1]; exact h1, h2⟩
        · rintro ⟨l, h1, h2⟩
          by_cases hk : k < t.ps.length
          · rw [List.getElem?_append_left hk] at h1; exact ⟨l, h1, h2⟩
          · rw [List.getElem?_append_right (by omega)] at h1
            have h3 := (List.getElem?_eq_some_iff.1 h1).1
            have h4 : k - t.ps.length = 0 := by simp at h3; omega
            rw [h4] at h1
            simp at h1
            subst h1
            exact absurd (srtN_mem.1 h2) h
    · rw [hpp, List.mem_append] at hl
      rcases hl with hl | hl
      · exact hm.inv.p2 l hl
      · simp only [List.mem_singleton] at hl
        subst hl
        refine ⟨fun h => ?_, srtN_strict ?_⟩
        · have : a ∈ srtN (a :: new) := srtN_mem.2 (by simp)
          rw [h] at this; cases this
        · rw [hnew] at hnd; exact (List.nodup_append.1 hnd).2.1
    · rcases (hpos x).1 hx with hxs | hxd
      · rw [hpt x, if_pos hxs, hpt y]
        constructor
        · intro h1
          have hys : y ∈ a :: new := by
            refine Classical.byContradiction fun h => ?_
            rw [if_neg h] at h1
            have := hps y _ h1; omega
          exact ⟨(hxa x hxs).trans (hax y hys), (hxa y hys).trans (hax x hxs)⟩
        · rintro ⟨h1, h2⟩
          rcases hKr x y hxs h1 with h3 | h3
          · rw [if_pos h3]
          · have := hdr y x h3 h2
            have := hpneg x hxs; omega
      · have hxn : ¬ x ∈ a :: new := fun h => by have := hpneg x h; omega
        rw [hpt x, if_neg hxn, hpt y]
        obtain ⟨k, hk⟩ : ∃ k : Nat, t.pt x = k := ⟨(t.pt x).toNat, by omega⟩
        have hk2 := hps x k hk
        constructor
        · intro h1
          by_cases hys : y ∈ a :: new
          · rw [if_pos hys] at h1; omega
          · rw [if_neg hys] at h1
            exact (hm.inv.p3 x y hxd).1 h1
        · intro h1
          have h2 := (hm.inv.p3 x y hxd).2 h1
          have hys : ¬ y ∈ a :: new := fun h => by have := hpneg y h; omega
          rw [if_neg hys]; exact h2
    · have h1 := hm.inv.sj
      show ((tPop a t).st).length + (tSeg a t ++ t.jk).length ≤ t.mt
      rw [hst, hseg, List.length_append]
      have h2 : t.st.length = s.st.length + (a :: new).length := by rw [hnew, List.length_append]
      omega
    · have h1 := hm.inv.pl
      show ((tPop a t).ps).length + ((tPop a t).st).length ≤ t.mt
      rw [hst, hpp, List.length_append, List.length_singleton]
      have h2 : t.st.length = s.st.length + (a :: new).length := by rw [hnew, List.length_append]
      have h3 : (a :: new).length = new.length + 1 := List.length_cons
      omega
    · have h1 := hm.ext.e2 x hx
      rw [hpt, if_neg (fun h => by have := hpneg x h; omega)]; exact h1
    · exact (hpos a).2 (.inl (by simp))
    · rw [hst] at hx; exact absurd hx hxs
  · rw [if_neg hla]
    obtain ⟨y, hy, l1, l2⟩ := hm.low
    have hys : y ∈ s.st := by
      rcases hy with hy | rfl
      · exact hy
      · exact absurd l1 hla
    have hyt := mid_old hs hm hys
    refine ⟨⟨hm.inv.srt, hm.inv.mem, hm.inv.ixle, hm.inv.vin, hm.inv.ptw, hm.inv.dn, fun g hg => hm.inv.gr g (by simp [hg]), fun x z hx hxG hz => ?_, fun x hx => ?_, fun g x hg => hm.inv.dw g x (by simp [hg]), hm.inv.p1, hm.inv.p2, hm.inv.p3, hm.inv.mtc, hm.inv.sj, hm.inv.pl⟩, hm.ext, hm.ia, .inr ⟨y, hys, by rw [l1, hyt.1], l2⟩, fun x z hx hxs hz hzs => hm.cr x z hx hxs hz hzs fun hxa => hxa ▸ hz⟩
    · by_cases hxa : x = a
      · subst hxa; exact hm.dd z hz
      · exact hm.inv.bl x z hx (fun h => by rcases List.mem_cons.1 h with h1 | h1; exact hxa h1; exact hxG h1) hz
    · obtain ⟨g, g1, g2, g3⟩ := hm.inv.up x hx
      rcases List.mem_cons.1 g1 with rfl | g1
      · obtain ⟨g', k1, k2, k3⟩ := hs.up y hys
        refine ⟨g', k1, ?_, (g3.trans l2).trans k3⟩
        rw [(mid_old hs hm (hGs g' k1)).1]
        have := hyt.2.1
        have := hyt.1
        omega
      · exact ⟨g, g1, g2, g3⟩
def tAt (ov : Nat → List Nat) (k a : Nat) (s : TS) (j : Nat) : TS := ((ov a).take j).foldl (tEdge (tVis ov k) a) (tEnter s a)
theorem tAt_succ {ov : Nat → List Nat} {k a : Nat} {s : TS} {j b : Nat} (h : (ov a)[j]? = some b) : tAt ov k a s (j + 1) = tEdge (tVis ov k) a (tAt ov k a s j) b := by
  unfold tAt
  rw [List.take_add_one, h, Option.toList_some, List.foldl_append]; rfl
theorem tAt_all (ov : Nat → List Nat) (k a : Nat) (s : TS) : tAt ov k a s (ov a).length = (ov a).foldl (tEdge (tVis ov k) a) (tEnter s a) := by unfold tAt; rw [List.take_length]
theorem mid_at {k : Nat} (hV : ∀ x y, x < n → y ∈ ov x → y < n) (ih : ∀ (s : TS) (G : List Nat) (a : Nat), TInv ov n s G → a < n → s.ix a = 0 → (∀ g, g ∈ G → Wy ov g a) → unvT n s ≤ k → TPost ov n s G a (tVis ov k s a))
    {s : TS} {G : List Nat} {a : Nat} (hs : TInv ov n s G) (ha : a < n) (h0 : s.ix a = 0) (hG : ∀ g, g ∈ G → Wy ov g a) (hk : unvT n s ≤ k + 1) : ∀ j, j ≤ (ov a).length → TMid ov n s G a ((ov a).take j) (tAt ov k a s j) ∧ unvT n (tAt ov k a s j) ≤ k
  | 0, _ => by
    have := unv_enter ha h0
    exact ⟨mid_start hs ha h0 hG, by show unvT n (tEnter s a) ≤ k; omega⟩
  | j + 1, hj => by
    obtain ⟨h2, h3⟩ := mid_at hV ih hs ha h0 hG hk j (by omega)
    have hb' : (ov a)[j]? = some (ov a)[j] := List.getElem?_eq_getElem (by omega)
    have hb : (ov a)[j] ∈ ov a := List.getElem_mem _
    have hv : (tAt ov k a s j).ix (ov a)[j] = 0 → TPost ov n (tAt ov k a s j) (a :: G) (ov a)[j] (tVis ov k (tAt ov k a s j) (ov a)[j]) := fun hb0 => ih _ (a :: G) _ h2.inv (hV a _ ha hb) hb0 (fun g hg => by
      rcases List.mem_cons.1 hg with rfl | hg
      · exact .one hb
      · exact (hG g hg).trans (.one hb)) h3
    rw [tAt_succ hb', List.take_add_one, hb', Option.toList_some]
    refine ⟨mid_edge hs h0 h2 hb hv, ?_⟩
    unfold tEdge
    split
    · rename_i hb0
      exact Nat.le_trans (unv_mono (s := tAt ov k a s j) fun x hx => by
        show (tVis ov k (tAt ov k a s j) (ov a)[j]).ix x ≠ 0
        rw [((hv hb0).ext.e1 x hx).1]; exact hx) h3
    · split
      · exact h3
      · exact h3
theorem tVis_post (hV : ∀ x y, x < n → y ∈ ov x → y < n) : ∀ (k : Nat) (s : TS) (G : List Nat) (a : Nat), TInv ov n s G → a < n → s.ix a = 0 → (∀ g, g ∈ G → Wy ov g a) → unvT n s ≤ k → TPost ov n s G a (tVis ov k s a)
  | 0, s, G, a, hs, ha, h0, hG, hk => by have := unv_enter ha h0; omega
  | k + 1, s, G, a, hs, ha, h0, hG, hk => by
    have := (mid_at hV (fun s G a => tVis_post hV k s G a) hs ha h0 hG hk (ov a).length (Nat.le_refl _)).1
    rw [List.take_length, tAt_all] at this
    exact mid_fin hs h0 this
end
theorem incN_ext (a b : List Nat) (ha : a.Pairwise (· < ·)) (hb : b.Pairwise (· < ·)) (h : ∀ x, x ∈ a ↔ x ∈ b) : a = b := by
  have hm : a.map (fun n : Nat => (n : Int)) = b.map (fun n : Nat => (n : Int)) := by
    refine sinc_ext _ _ (List.pairwise_map.2 (ha.imp (fun h => by omega))) (List.pairwise_map.2 (hb.imp (fun h => by omega))) fun x => ?_
    rw [List.mem_map, List.mem_map]
    exact ⟨fun ⟨y, h1, h2⟩ => ⟨y, (h y).1 h1, h2⟩, fun ⟨y, h1, h2⟩ => ⟨y, (h y).2 h1, h2⟩⟩
  have := congrArg (List.map Int.toNat) hm
  simpa [List.map_map, Function.comp_def] using this
def tZero : TS := ⟨fun _ => 0, fun _ => 0, fun _ => -1, [], [], 0, []⟩
def tAll (ov : Nat → List Nat) (n : Nat) : Nat → TS
  | 0 => tZero
  | i + 1 => if (tAll ov n i).ix i = 0 then tVis ov n (tAll ov n i) i else tAll ov n i
section
variable {ov : Nat → List Nat} {n : Nat}
theorem tZero_inv : TInv ov n tZero [] := by
  refine ⟨List.Pairwise.nil, fun x => ⟨(fun h => by cases h), fun h => absurd rfl h.1⟩, fun x => Nat.le_refl _, fun x h => absurd rfl h, fun x h => ?_, fun x y h => ?_, (fun g h => by cases h), fun x y h => absurd rfl h, (fun x h => by cases h), (fun g x h => by cases h), fun x k => ?_, (fun l h => by cases h), fun x y h => ?_, ?_, Nat.le_refl _, Nat.le_refl _⟩
  · simp [tZero] at h
  · simp [tZero] at h
  · constructor
    · intro h
      have : (-1 : Int) = (k : Int) := h
      omega
    · rintro ⟨l, h, _⟩
      simp [tZero] at h
  · simp [tZero] at h
  · show 0 + (List.range n).countP (fun x => decide ((0 : Nat) = 0)) = n
    simp
theorem tAll_inv (hV : ∀ x y, x < n → y ∈ ov x → y < n) : ∀ i, i ≤ n → TInv ov n (tAll ov n i) [] ∧ ∀ x, x < i → (tAll ov n i).ix x ≠ 0
  | 0, _ => ⟨tZero_inv, fun x h => by omega⟩
  | i + 1, hi => by
    obtain ⟨h1, h2⟩ := tAll_inv hV i (by omega)
    unfold tAll
    split
    · rename_i h0
      have hP := tVis_post hV n (tAll ov n i) [] i h1 (by omega) h0 (fun g hg => by cases hg) (by unfold unvT; exact Nat.le_trans List.countP_le_length (by simp))
      refine ⟨hP.inv, fun x hx => ?_⟩
      by_cases hxi : x = i
      · subst hxi; rw [hP.ia]; omega
      · rw [(hP.ext.e1 x (h2 x (by omega))).1]; exact h2 x (by omega)
    · rename_i h0
      refine ⟨h1, fun x hx => ?_⟩
      by_cases hxi : x = i
      · subst hxi; exact h0
      · exact h2 x (by omega)
end
structure Scc (ov : Nat → List Nat) (n : Nat) (ps : List (List Nat)) (pt : Nat → Int) : Prop where
  all : ∀ x, x < n → 0 ≤ pt x
  p1 : ∀ x (k : Nat), pt x = (k : Int) ↔ ∃ l, ps[k]? = some l ∧ x ∈ l
  p2 : ∀ l, l ∈ ps → l ≠ [] ∧ l.Pairwise (· < ·)
  p3 : ∀ x y, 0 ≤ pt x → (pt y = pt x ↔ Wy ov x y ∧ Wy ov y x)
  dn : ∀ x y, 0 ≤ pt x → y ∈ ov x → 0 ≤ pt y ∧ pt y ≤ pt x
  lt : ∀ x, 0 ≤ pt x → x < n
theorem tAll_scc {ov : Nat → List Nat} {n : Nat} (hV : ∀ x y, x < n → y ∈ ov x → y < n) : Scc ov n (tAll ov n n).ps (tAll ov n n).pt := by
  obtain ⟨h1, h2⟩ := tAll_inv hV n (Nat.le_refl _)
  refine ⟨fun x hx => ?_, h1.p1, h1.p2, h1.p3, h1.dn, fun x hx => h1.vin x (h1.ptw x hx)⟩
  refine Classical.byContradiction fun hn => ?_
  obtain ⟨g, hg, _⟩ := h1.up x ((h1.mem x).2 ⟨h2 x hx, by omega⟩)
  cases hg
section
variable {n : Nat} (hd : Nat → Nat → Bool)
def cnd (n : Nat) (L : Nat → Bool) (a : Nat) : Bool := !L a && (List.range n).all fun b => !hd a b || L b || hd b a
def mtl (n : Nat) (a : Nat) : List Nat := (List.range n).filter fun b => hd a b && hd b a
def lsP (n : Nat) : Nat → (Nat → Bool) → List (List Nat)
  | 0, _ => []
  | k + 1, L => match (List.range n).find? (cnd hd n L) with
    | none => []
    | some a => mtl hd n a :: lsP n k fun b => L b || (hd a b && hd b a)
end
def hdL (l : List Nat) : Nat := l.getD 0 0
def btr (ps : List (List Nat)) (o : Option Nat) (i : Nat) : Bool := match o with
  | none => true
  | some p => decide (hdL (ps.getD i []) < hdL (ps.getD p []))
def bstP (ps : List (List Nat)) (cd : Nat → Bool) : Nat → Option Nat
  | 0 => none
  | i + 1 => if (cd i && btr ps (bstP ps cd i) i) = true then some i else bstP ps cd i
theorem bstP_none {ps : List (List Nat)} {cd : Nat → Bool} : ∀ {i : Nat}, bstP ps cd i = none → ∀ p, p < i → cd p = false
  | 0, _, p, h => by omega
  | i + 1, h, p, hp => by
    unfold bstP at h
    by_cases hc : (cd i && btr ps (bstP ps cd i) i) = true
    · rw [if_pos hc] at h; cases h
    · rw [if_neg hc] at h
      have ih := bstP_none h
      rw [h] at hc
      by_cases hpi : p = i
      · subst hpi; simpa [btr] using hc
      · exact ih p (by omega)
theorem bstP_some {ps : List (List Nat)} {cd : Nat → Bool} : ∀ {i p : Nat}, bstP ps cd i = some p → p < i ∧ cd p = true ∧ ∀ q, q < i → cd q = true → hdL (ps.getD p []) ≤ hdL (ps.getD q [])
  | 0, p, h => by cases h
  | i + 1, p, h => by
    unfold bstP at h
    by_cases hc : (cd i && btr ps (bstP ps cd i) i) = true
    · rw [if_pos hc] at h
      simp only [Option.some.injEq] at h
      subst h
      rw [Bool.and_eq_true] at hc
      refine ⟨by omega, hc.1, fun q hq hcq => ?_⟩
      by_cases hqi : q = i
      · subst hqi; exact Nat.le_refl _
      · cases hb : bstP ps cd i with
        | none =>
          have := bstP_none hb q (by omega)
          rw [hcq] at this; cases this
        | some r =>
          have h2 := hc.2
          rw [hb] at h2
          have h2' : hdL (ps.getD i []) < hdL (ps.getD r []) := by simpa [btr] using h2
          have := (bstP_some hb).2.2 q (by omega) hcq
          omega
    · rw [if_neg hc] at h
      obtain ⟨h1, h2, h3⟩ := bstP_some h
      refine ⟨by omega, h2, fun q hq hcq => ?_⟩
      by_cases hqi : q = i
      · subst hqi
        rw [hcq, h] at hc
        have : ¬ hdL (ps.getD q []) < hdL (ps.getD p []) := by simpa [btr] using hc
        omega
      · exact h3 q (by omega) hcq
def lies (ov : Nat → List Nat) (pt : Nat → Int) (p q : Nat) : Prop := p ≠ q ∧ ∃ x y, pt x = (p : Int) ∧ pt y = (q : Int) ∧ y ∈ ov x
section
variable {ov : Nat → List Nat} {n : Nat} {ps : List (List Nat)} {pt : Nat → Int} (S : Scc ov n ps pt) {hd : Nat → Nat → Bool} (hhd : ∀ a b, a < n → b < n → (hd a b = true ↔ Wy ov a b))
include S hhd
theorem Scc.part_is {p : Nat} {a : Nat} (ha : a < n) (hp : pt a = (p : Int)) : ps.getD p [] = mtl hd n a := by
  obtain ⟨l, h1, h2⟩ := (S.p1 a p).1 hp
  have hl := S.p2 l (List.mem_of_getElem? h1)
  rw [List.getD_eq_getElem?_getD, h1, Option.getD_some]
  refine incN_ext _ _ hl.2 (List.Pairwise.filter _ List.pairwise_lt_range) fun x => ?_
  rw [mtl, List.mem_filter, List.mem_range, Bool.and_eq_true]
  constructor
  · intro hx
    have hpx : pt x = (p : Int) := (S.p1 x p).2 ⟨l, h1, hx⟩
    have hxn : x < n := S.lt x (by omega)
    have := (S.p3 a x (by omega)).1 (by rw [hpx, hp])
    exact ⟨hxn, (hhd a x ha hxn).2 this.1, (hhd x a hxn ha).2 this.2⟩
  · rintro ⟨hxn, k1, k2⟩
    have := (S.p3 a x (by omega)).2 ⟨(hhd a x ha hxn).1 k1, (hhd x a hxn ha).1 k2⟩
    obtain ⟨l', g1, g2⟩ := (S.p1 x p).1 (this.trans hp)
    rw [h1] at g1; cases g1; exact g2
theorem Scc.cnd_iff {D L : Nat → Bool} (hL : ∀ b (q : Nat), pt b = (q : Int) → L b = D q) (hcl : ∀ p q, D p = true → lies ov pt p q → D q = true) {a p : Nat} (ha : a < n) (hp : pt a = (p : Int)) :
    cnd hd n L a = true ↔ D p = false ∧ ∀ q, lies ov pt p q → D q = true := by
  have hpart : ∀ b, b < n → ∃ q : Nat, pt b = (q : Int) := fun b hb => ⟨(pt b).toNat, by have := S.all b hb; omega⟩
  unfold cnd
  rw [Bool.and_eq_true, List.all_eq_true, hL a p hp]
  simp only [Bool.not_eq_true']
  refine and_congr_right fun hDp => ⟨fun h q hq => ?_, fun h b hb => ?_⟩
  · obtain ⟨hpq, x, y, hx, hy, hxy⟩ := hq
    have hxn : x < n := S.lt x (by omega)
    have hyn : y < n := S.lt y (by omega)
    have hax := (S.p3 a x (by omega)).1 (by rw [hx, hp])
    have h1 := h y (List.mem_range.2 hyn)
    rw [(hhd a y ha hyn).2 (hax.1.trans (.one hxy)), hL y q hy] at h1
    cases hq : D q with
    | true => rfl
    | false =>
      rw [hq] at h1
      have h2 : hd y a = true := by simpa using h1
      have := (S.p3 a y (by omega)).2 ⟨hax.1.trans (.one hxy), (hhd y a hyn ha).1 h2⟩
      rw [hy, hp] at this
      omega
  · have hbn := List.mem_range.1 hb
    cases hab : hd a b with
    | false => rfl
    | true =>
      have hw := (hhd a b ha hbn).1 hab
      have hc : 0 ≤ pt b ∧ (pt b = (p : Int) ∨ ∀ q : Nat, pt b = (q : Int) → D q = true) := by
        refine hw.closed (p := fun x => 0 ≤ pt x ∧ (pt x = (p : Int) ∨ ∀ q : Nat, pt x = (q : Int) → D q = true)) (fun x y hx hy => ?_) ⟨by omega, .inl hp⟩
        obtain ⟨hx0, hx⟩ := hx
        have hy0 := (S.dn x y hx0 hy).1
        refine ⟨hy0, ?_⟩
        obtain ⟨r, hr⟩ : ∃ r : Nat, pt x = (r : Int) := ⟨(pt x).toNat, by omega⟩
        by_cases hyp : pt y = (p : Int)
        · exact .inl hyp
        · refine .inr fun q hq => ?_
          rcases hx with hx | hx
          · exact h q ⟨fun e => hyp (by rw [hq, e]), x, y, hx, hq, hy⟩
          · by_cases hrq : r = q
            · subst hrq; exact hx r hr
            · exact hcl r q (hx r hr) ⟨hrq, x, y, hr, hq, hy⟩
      rcases hc.2 with h1 | h1
      · have := (S.p3 a b (by omega)).1 (by rw [h1, hp])
        rw [(hhd b a hbn ha).2 this.2]; simp
      · obtain ⟨q, hq⟩ := hpart b hbn
        rw [hL b q hq, h1 q hq]; simp
theorem Scc.next_is {D L : Nat → Bool} (hL : ∀ b (q : Nat), pt b = (q : Int) → L b = D q) (hcl : ∀ p q, D p = true → lies ov pt p q → D q = true) {cd : Nat → Bool} (hcd : ∀ p, p < ps.length → (cd p = true ↔ D p = false ∧ ∀ q, lies ov pt p q → D q = true)) {p : Nat} (hb : bstP ps cd ps.length = some p) :
    ∃ a, a < n ∧ pt a = (p : Int) ∧ (List.range n).find? (cnd hd n L) = some a := by
  obtain ⟨hp, h1, h2⟩ := bstP_some hb
  have hget : ∀ q, q < ps.length → ∃ x r, ps[q]? = some (x :: r) ∧ hdL (ps.getD q []) = x ∧ pt x = (q : Int) ∧ ∀ y, pt y = (q : Int) → x ≤ y := fun q hq => by
    have e1 : ps[q]? = some ps[q] := List.getElem?_eq_getElem hq
    have e2 := S.p2 ps[q] (List.getElem_mem hq)
    obtain ⟨x, r, hx⟩ : ∃ x r, ps[q] = x :: r := by cases h : ps[q] with | nil => exact absurd h e2.1 | cons x r => exact ⟨x, r, rfl⟩
    rw [hx] at e1 e2
    refine ⟨x, r, e1, by rw [List.getD_eq_getElem?_getD, e1]; rfl, (S.p1 x q).2 ⟨_, e1, by simp⟩, fun y hy => ?_⟩
    obtain ⟨l, k1, k2⟩ := (S.p1 y q).1 hy
    rw [e1] at k1; cases k1
    rcases List.mem_cons.1 k2 with rfl | k2
    · exact Nat.le_refl _
    · exact Nat.le_of_lt ((List.pairwise_cons.1 e2.2).1 y k2)
  obtain ⟨x, r, k1, k2, k3, k4⟩ := hget p hp
  have hxn : x < n := S.lt x (by omega)
  refine ⟨x, hxn, k3, ?_⟩
  have hcx : cnd hd n L x = true := (S.cnd_iff hhd hL hcl hxn k3).2 ((hcd p hp).1 h1)
  rw [List.find?_eq_some_iff_append]
  refine ⟨hcx, List.range x, (List.range' (x + 1) (n - (x + 1))), ?_, fun y hy => ?_⟩
  · rw [List.range_eq_range', List.range_eq_range', show n = x + (n - (x + 1) + 1) by omega, ← List.range'_append_1, List.range'_succ]
    simp
    omega
  · rw [List.mem_range] at hy
    cases hcy : cnd hd n L y with
    | false => rfl
    | true =>
      exfalso
      have hyn : y < n := by omega
      obtain ⟨q, hq⟩ : ∃ q : Nat, pt y = (q : Int) := ⟨(pt y).toNat, by have := S.all y hyn; omega⟩
      have hql : q < ps.length := by obtain ⟨l, g1, _⟩ := (S.p1 y q).1 hq; exact (List.getElem?_eq_some_iff.1 g1).1
      have := (hcd q hql).2 ((S.cnd_iff hhd hL hcl hyn hq).1 hcy)
      have h3 := h2 q hql this
      obtain ⟨x', r', j1, j2, j3, j4⟩ := hget q hql
      have := j4 y hq
      omega
end
structure GSt where
  w : Nat → Nat
  f : Nat → List Nat
def gStep (s : GSt) (p q : Nat) : GSt := if p ≠ q ∧ ¬ p ∈ s.f q then ⟨updN s.w p (s.w p + 1), updN s.f q (s.f q ++ [p])⟩ else s
structure GInv (m : Nat) (R : Nat → Nat → Prop) (s : GSt) : Prop where
  g1 : ∀ p q, p ∈ s.f q ↔ p ≠ q ∧ R p q
  g2 : ∀ q, (s.f q).Nodup
  g3 : ∀ p, s.w p = (List.range m).countP fun q => decide (p ∈ s.f q)
theorem gInv_zero (m : Nat) : GInv m (fun _ _ => False) ⟨fun _ => 0, fun _ => []⟩ :=
  ⟨fun p q => ⟨(fun h => by cases h), fun h => h.2.elim⟩, fun q => List.nodup_nil, fun p => by simp⟩
theorem gStep_inv {m : Nat} {R : Nat → Nat → Prop} {s : GSt} (h : GInv m R s) {p q : Nat} (hq : q < m) : GInv m (fun x y => R x y ∨ (x = p ∧ y = q)) (gStep s p q) := by
  unfold gStep
  by_cases hc : p ≠ q ∧ ¬ p ∈ s.f q
  · rw [if_pos hc]
    have hf : ∀ x y, x ∈ updN s.f q (s.f q ++ [p]) y ↔ x ∈ s.f y ∨ (x = p ∧ y = q) := fun x y => by
      by_cases hy : y = q
      · subst hy; rw [updN_same]; simp
      · rw [updN_other _ _ hy]; simp [hy]
    refine ⟨fun x y => ?_, fun y => ?_, fun x => ?_⟩
    · rw [hf, h.g1]
      constructor
      · rintro (⟨h1, h2⟩ | ⟨rfl, rfl⟩)
        · exact ⟨h1, .inl h2⟩
        · exact ⟨hc.1, .inr ⟨rfl, rfl⟩⟩
      · rintro ⟨h1, h2 | h2⟩
        · exact .inl ⟨h1, h2⟩
        · exact .inr h2
    · show (updN s.f q (s.f q ++ [p]) y).Nodup
      by_cases hy : y = q
      · subst hy
        rw [updN_same]
        refine List.nodup_append.2 ⟨h.g2 y, by simp, fun a ha b hb => ?_⟩
        simp only [List.mem_singleton] at hb
        subst hb
        rintro rfl
        exact hc.2 ha
      · rw [updN_other _ _ hy]; exact h.g2 y
    · show updN s.w p (s.w p + 1) x = (List.range m).countP fun y => decide (x ∈ updN s.f q (s.f q ++ [p]) y)
      by_cases hx : x = p
      · subst hx
        rw [updN_same, h.g3]
        refine (countP_one hq (fun y hy => ?_) ?_ ?_).symm
        · rw [decide_eq_decide, hf]; simp [hy]
        · simpa using hc.2
        · simp [hf]
      · rw [updN_other _ _ hx, h.g3]
        refine List.countP_congr fun y _ => ?_
        simp only [decide_eq_true_eq]
        rw [hf]; simp [hx]
  · rw [if_neg hc]
    refine ⟨fun x y => ?_, h.g2, h.g3⟩
    rw [h.g1]
    constructor
    · rintro ⟨h1, h2⟩; exact ⟨h1, .inl h2⟩
    · rintro ⟨h1, h2 | ⟨rfl, rfl⟩⟩
      · exact ⟨h1, h2⟩
      · have : x ∈ s.f y := Classical.byContradiction fun hn => hc ⟨h1, hn⟩
        exact (h.g1 x y).1 this
theorem GInv.congr {m : Nat} {R R' : Nat → Nat → Prop} {s : GSt} (h : GInv m R s) (hr : ∀ p q, R p q ↔ R' p q) : GInv m R' s := ⟨fun p q => by rw [h.g1, hr], h.g2, h.g3⟩
def wDec (w : Nat → Nat) (l : List Nat) : Nat → Nat := l.foldl (fun w r => updN w r (w r - 1)) w
theorem wDec_get : ∀ {l : List Nat} {w : Nat → Nat} (h : l.Nodup) (r : Nat), wDec w l r = if r ∈ l then w r - 1 else w r
  | [], w, _, r => by simp [wDec]
  | x :: l, w, h, r => by
    rw [List.nodup_cons] at h
    show wDec (updN w x (w x - 1)) l r = _
    rw [wDec_get h.2]
    by_cases hrx : r = x
    · subst hrx
      rw [if_neg h.1, updN_same, if_pos (by simp)]
    · rw [updN_other _ _ hrx]
      simp [hrx]
structure OInv (ov : Nat → List Nat) (n : Nat) (ps : List (List Nat)) (pt : Nat → Int) (F : Nat → List Nat) (k : Nat) (w : Nat → Nat) (D : Nat → Bool) : Prop where
  o1 : ∀ p, w p = (List.range ps.length).countP fun q => !D q && decide (p ∈ F q)
  o2 : ∀ p q, D p = true → lies ov pt p q → D q = true
  o3 : (List.range ps.length).countP D = k
theorem Scc.lies_lt {ov : Nat → List Nat} {n : Nat} {ps : List (List Nat)} {pt : Nat → Int} (S : Scc ov n ps pt) {p q : Nat} (h : lies ov pt p q) : q < p ∧ p < ps.length := by
  obtain ⟨hpq, x, y, hx, hy, hxy⟩ := h
  have := (S.dn x y (by omega) hxy).2
  obtain ⟨l, h1, _⟩ := (S.p1 x p).1 hx
  exact ⟨by omega, (List.getElem?_eq_some_iff.1 h1).1⟩
def cdW (w : Nat → Nat) (D : Nat → Bool) (p : Nat) : Bool := !D p && decide (w p = 0)
section
variable {ov : Nat → List Nat} {n : Nat} {ps : List (List Nat)} {pt : Nat → Int} (S : Scc ov n ps pt) {F : Nat → List Nat} (hF : ∀ p q, p ∈ F q ↔ lies ov pt p q) (hFn : ∀ q, (F q).Nodup)
include S hF
theorem OInv.cd_iff {k : Nat} {w : Nat → Nat} {D : Nat → Bool} (O : OInv ov n ps pt F k w D) {p : Nat} : cdW w D p = true ↔ D p = false ∧ ∀ q, lies ov pt p q → D q = true := by
  unfold cdW
  rw [Bool.and_eq_true, decide_eq_true_eq, O.o1, List.countP_eq_zero]
  simp only [Bool.not_eq_true', List.mem_range]
  refine and_congr_right fun _ => ⟨fun h q hq => ?_, fun h q hq => ?_⟩
  · have h1 := S.lies_lt hq
    have := h q (by omega)
    simp only [Bool.and_eq_true, Bool.not_eq_true', decide_eq_true_eq, not_and] at this
    cases hD : D q with
    | true => rfl
    | false => exact absurd ((hF p q).2 hq) (this hD)
  · simp only [Bool.and_eq_true, Bool.not_eq_true', decide_eq_true_eq, not_and]
    intro hD hpq
    have := h q ((hF p q).1 hpq)
    rw [hD] at this; cases this
theorem OInv.some {k : Nat} {w : Nat → Nat} {D : Nat → Bool} (O : OInv ov n ps pt F k w D) (hk : k < ps.length) : ∃ p, bstP ps (cdW w D) ps.length = some p := by
  cases hb : bstP ps (cdW w D) ps.length with
  | some p => exact ⟨p, rfl⟩
  | none =>
    exfalso
    have hno := bstP_none hb
    have key : ∀ p, p < ps.length → D p = true := by
      intro p
      induction p using Nat.strongRecOn with
      | ind p ih =>
        intro hp
        refine Classical.byContradiction fun hD => ?_
        have hD' : D p = false := by simpa using hD
        have : cdW w D p = true := (O.cd_iff S hF).2 ⟨hD', fun q hq => by
          have := S.lies_lt hq
          exact ih q this.1 (by omega)⟩
        rw [hno p hp] at this; cases this
    have : (List.range ps.length).countP D = ps.length := by
      rw [List.countP_eq_length.2 (fun x hx => key x (List.mem_range.1 hx))]; simp
    have := O.o3; omega
include hFn
theorem OInv.next {k : Nat} {w : Nat → Nat} {D : Nat → Bool} (O : OInv ov n ps pt F k w D) {p : Nat} (hb : bstP ps (cdW w D) ps.length = .some p) : OInv ov n ps pt F (k + 1) (wDec w (F p)) (updN D p true) := by
  obtain ⟨hp, h1, _⟩ := bstP_some hb
  obtain ⟨hD, hl⟩ := (O.cd_iff S hF).1 h1
  refine ⟨fun r => ?_, fun x q hx hq => ?_, ?_⟩
  · rw [wDec_get (hFn p), O.o1]
    by_cases hr : r ∈ F p
    · rw [if_pos hr]
      have := countP_one (m := ps.length) hp (f := fun q => !updN D p true q && decide (r ∈ F q)) (g := fun q => !D q && decide (r ∈ F q)) (fun x hx => by simp only [updN_other _ _ hx]) (by simp [updN_same]) (by simp [hD, hr])
      omega
    · rw [if_neg hr]
      refine List.countP_congr fun q _ => ?_
      by_cases hqp : q = p
      · subst hqp; simp [hr]
      · rw [updN_other _ _ hqp]
  · by_cases hqp : q = p
    · subst hqp; exact updN_same _ _ _
    · rw [updN_other _ _ hqp]
      by_cases hxp : x = p
      · subst hxp; exact hl q hq
      · rw [updN_other _ _ hxp] at hx; exact O.o2 x q hx hq
  · rw [countP_one (m := ps.length) hp (f := D) (g := updN D p true) (fun x hx => (updN_other _ _ hx).symm) hD (updN_same _ _ _), O.o3]
end
theorem lsP_step {ov : Nat → List Nat} {n : Nat} {ps : List (List Nat)} {pt : Nat → Int} (S : Scc ov n ps pt) {hd : Nat → Nat → Bool} (hhd : ∀ a b, a < n → b < n → (hd a b = true ↔ Wy ov a b)) {F : Nat → List Nat} (hF : ∀ p q, p ∈ F q ↔ lies ov pt p q) {k : Nat} {w : Nat → Nat} {D L : Nat → Bool} (O : OInv ov n ps pt F k w D) (hL : ∀ b (q : Nat), pt b = (q : Int) → L b = D q) {p : Nat} (hb : bstP ps (cdW w D) ps.length = some p) (f : Nat) :
    ∃ L' : Nat → Bool, (∀ b (q : Nat), pt b = (q : Int) → L' b = updN D p true q) ∧ lsP hd n (f + 1) L = ps.getD p [] :: lsP hd n f L' := by
  obtain ⟨a, ha, hpa, hfind⟩ := S.next_is hhd hL O.o2 (fun p _ => O.cd_iff S hF) hb
  refine ⟨fun b => L b || (hd a b && hd b a), fun b q hq => ?_, ?_⟩
  · have hbn : b < n := S.lt b (by omega)
    have hm : (hd a b && hd b a) = true ↔ q = p := by
      rw [Bool.and_eq_true, hhd a b ha hbn, hhd b a hbn ha, ← S.p3 a b (by omega), hq, hpa]
      omega
    by_cases hqp : q = p
    · rw [hqp, updN_same]; show (L b || (hd a b && hd b a)) = true; rw [hm.2 hqp]; simp
    · rw [updN_other _ _ hqp]
      show (L b || (hd a b && hd b a)) = D q
      rw [hL b q hq]
      have : (hd a b && hd b a) = false := by
        cases h : (hd a b && hd b a) with
        | false => rfl
        | true => exact absurd (hm.1 h) hqp
      rw [this]; simp
  · rw [S.part_is hhd ha hpa]
    show (match (List.range n).find? (cnd hd n L) with | none => [] | some a => _) = _
    rw [hfind]
theorem lsP_end {hd : Nat → Nat → Bool} {n : Nat} {L : Nat → Bool} (h : ∀ b, b < n → L b = true) (f : Nat) : lsP hd n f L = [] := by
  cases f with
  | zero => rfl
  | succ f =>
    show (match (List.range n).find? (cnd hd n L) with | none => [] | some a => _) = _
    rw [List.find?_eq_none.2 fun x hx => by simp [cnd, h x (List.mem_range.1 hx)]]
theorem Scc.len_le {ov : Nat → List Nat} {n : Nat} {ps : List (List Nat)} {pt : Nat → Int} (S : Scc ov n ps pt) : ps.length ≤ n := by
  have hx : ∀ p, p < ps.length → ∃ x, pt x = (p : Int) ∧ x < n := fun p hp => by
    have e2 := S.p2 ps[p] (List.getElem_mem hp)
    obtain ⟨x, r, hx⟩ : ∃ x r, ps[p] = x :: r := by cases h : ps[p] with | nil => exact absurd h e2.1 | cons x r => exact ⟨x, r, rfl⟩
    have h1 : pt x = (p : Int) := (S.p1 x p).2 ⟨_, List.getElem?_eq_getElem hp, by rw [hx]; simp⟩
    exact ⟨x, h1, S.lt x (by omega)⟩
  have hsub : ∀ m, m ≤ ps.length → m ≤ ((List.range n).filter fun x => decide (pt x < (m : Int))).length := by
    intro m
    induction m with
    | zero => intro _; omega
    | succ m ih =>
      intro hm
      have h1 := ih (by omega)
      obtain ⟨x, h2, h3⟩ := hx m (by omega)
      rw [← List.countP_eq_length_filter] at h1 ⊢
      have h4 : (List.range n).countP (fun x => decide (pt x < (m : Int))) < (List.range n).countP (fun x => decide (pt x < ((m + 1 : Nat) : Int))) :=
        countP_lt (a := x) (List.mem_range.2 h3) (fun y hy => by simp only [decide_eq_true_eq] at hy ⊢; omega) (by simp [h2]) (by simp [h2]; omega)
      omega
  have := hsub ps.length (Nat.le_refl _)
  have h2 := List.length_filter_le (fun x => decide (pt x < (ps.length : Int))) (List.range n)
  simp at h2
  omega
def fI (n : Nat) (f : Nat → Int) : List Int := (List.range n).map f
theorem fI_len (n : Nat) (f : Nat → Int) : (fI n f).length = n := by simp [fI]
theorem fI_get {n : Nat} {f : Nat → Int} {a : Nat} (h : a < n) : (fI n f).getD a 0 = f a := by simp [fI, List.getD_eq_getElem?_getD, h]
theorem fI_set {n : Nat} {f : Nat → Int} {a : Nat} (v : Int) : (fI n f).set a v = fI n (updN f a v) := by
  refine List.ext_getElem (by simp [fI]) fun i h1 h2 => ?_
  rw [List.getElem_set]
  simp only [fI, List.getElem_map, List.getElem_range]
  by_cases h : a = i
  · rw [if_pos h, h, updN_same]
  · rw [if_neg h, updN_other _ _ (fun e => h e.symm)]
theorem upd_cast (f : Nat → Nat) (a v : Nat) : updN (fun x => ((f x : Nat) : Int)) a (v : Int) = fun x => ((updN f a v x : Nat) : Int) := by
  funext x
  unfold updN
  split <;> rfl
def stV (k : Nat) (st jk : List Nat) : AVal := if st.length + jk.length = 0 then .res k else .ref k 0 st.length (st.length + jk.length)
def stO (st jk : List Nat) : AObj := go 3 (ints (nI (st ++ jk)))
theorem stO_pos {st jk : List Nat} (h : st.length + jk.length ≠ 0) : stO st jk = ⟨3, 1, ints (nI (st ++ jk))⟩ := by
  unfold stO
  have : 0 < (ints (nI (st ++ jk))).length := by rw [ints_length, nI_len, List.length_append]; omega
  exact go_pos this
theorem parts_stV (k : Nat) (st jk : List Nat) : AVal.parts (stV k st jk) = some [stV k st jk] := by unfold stV; split <;> rfl
theorem one_stV (k : Nat) (st jk : List Nat) : AVal.one (stV k st jk) = true := by unfold stV; split <;> rfl
theorem nI_app2 (a b : List Nat) : nI (a ++ b) = nI a ++ nI b := by simp [nI]
section
variable {P : Program} {t nb : Nat} {z : Value} {h : List AObj}
theorem append_st [S : SlT P t 3 8 z] {k a : Nat} {st jk : List Nat} (ho : h[k]? = some (stO st jk)) (hl : st.length + jk.length ≤ 1000000) : aAppend P t h (stV k st jk) (.lit 1 [I a]) = some (stV k (st ++ [a]) (jk.drop 1), h.set k (stO (st ++ [a]) (jk.drop 1))) := by
  by_cases h0 : st.length + jk.length = 0
  · obtain rfl : st = [] := List.eq_nil_of_length_eq_zero (by omega)
    obtain rfl : jk = [] := List.eq_nil_of_length_eq_zero (by omega)
    obtain ⟨⟨T, hT, hTe⟩, E, hE, g1, g2, g3, g4⟩ := S
    have hz : E.zero.length = 1 := by rw [g4]; rfl
    have e1 : h[k]? = some ⟨0, 0, []⟩ := ho
    simp only [stV, List.length_nil, Nat.add_zero, if_pos, aAppend, hT, hTe, hE, sview_lit, g1, Nat.mul_one]
    rw [if_pos ⟨rfl, rfl, by omega, hz⟩, if_neg (by omega), e1]
    simp only [g3]
    rw [if_pos ⟨trivial, by omega, by omega⟩]
    first | done | rfl
  · rw [stO_pos h0] at ho
    have hlen : (nI (st ++ jk)).length = st.length + jk.length := by rw [nI_len, List.length_append]
    unfold stV
    rw [if_neg h0]
    cases jk with
    | nil =>
      simp only [List.length_nil, Nat.add_zero, List.append_nil, List.drop_nil, List.length_append, List.length_singleton] at *
      rw [append_refI (S := S) ho (by rw [nI_len]) (by omega), if_neg (by omega), stO_pos (by simp), List.append_nil, nI_app2]
      first | done | rfl
    | cons x r =>
      obtain ⟨⟨T, hT, hTe⟩, E, hE, g1, g2, g3, g4⟩ := S
      have hz : E.zero.length = 1 := by rw [g4]; rfl
      simp only [aAppend, hT, hTe, hE, sview_lit, g1, Nat.mul_one]
      have hil : (ints (nI (st ++ x :: r))).length = st.length + (x :: r).length := by rw [ints_length, hlen]
      rw [if_pos ⟨rfl, rfl, by omega, hz⟩]
      simp only [ho, hil]
      have hxr : (x :: r).length = r.length + 1 := List.length_cons
      rw [if_neg (fun h => by obtain ⟨_, h2, _⟩ := h; omega)]
      rw [if_pos ⟨trivial, by omega, trivial, trivial, by omega⟩]
      have hd1 : (x :: r).drop 1 = r := rfl
      have hl1 : (st ++ [a]).length = st.length + 1 := by simp
      rw [hd1, hl1, if_neg (show ¬ st.length + 1 + r.length = 0 by omega), stO_pos (by rw [hl1]; omega)]
      congr 2
      · congr 1; omega
      · congr 1
        have e2 : splice (ints (nI (st ++ x :: r))) st.length (List.take 1 [I a]) = ints (nI (st ++ [a] ++ r)) := by
          show (ints (nI (st ++ x :: r))).set st.length (I a) = _
          rw [ints_set]
          congr 1
          rw [nI_app2, nI_app2, nI_app2]
          show (nI st ++ ((x : Int) :: nI r)).set st.length (a : Int) = _
          rw [List.set_append_right _ _ (by rw [nI_len]; exact Nat.le_refl _), nI_len, Nat.sub_self]
          simp [nI]
        rw [e2]
theorem slice_st_hi [S : SlT P t 3 8 z] {k c : Nat} {st jk : List Nat} (ho : h[k]? = some (stO st jk)) (hs : 0 < st.length) (hc : c ≤ st.length) : aSlice P t h (stV k st jk) none (some (I c)) none = some (stV k (st.take c) (st.drop c ++ jk)) := by
  have h0 : st.length + jk.length ≠ 0 := by omega
  rw [stO_pos h0] at ho
  have hil : (ints (nI (st ++ jk))).length = st.length + jk.length := by rw [ints_length, nI_len, List.length_append]
  have hcA : cA h[k]? (st.length + jk.length) = some (ints (nI (st ++ jk))) := by rw [ho]; simp [cA, hil]
  obtain ⟨⟨T, hT, hTe⟩, E, hE, g1, g2, g3, g4⟩ := S
  have e1 : (st.take c).length = c := by rw [List.length_take]; omega
  have e2 : (st.drop c ++ jk).length = st.length - c + jk.length := by simp
  have e3 : c + (st.length - c + jk.length) = st.length + jk.length := by omega
  unfold stV
  rw [if_neg h0, e1, e2, e3, if_neg h0]
  simp only [aSlice, hT, hTe, hE, sview, optInt, cellsAt_eq, hcA, Option.map_some]
  rw [if_pos ⟨Int.le_refl _, by omega, by omega, by rw [g1]; decide⟩]
  by_cases hc0 : c = 0
  · subst hc0
    rw [if_pos (show (0 : Int) = ((0 : Nat) : Int) from rfl), if_pos ⟨trivial, hs⟩]
  · rw [if_neg (by omega)]
    simp
theorem slice_st_lo [S : SlT P t 3 8 z] {k c : Nat} {st jk : List Nat} (ho : h[k]? = some (stO st jk)) (hc : c < st.length) : aSlice P t h (stV k st jk) (some (I c)) none none = some (.ref k c (st.length - c) (st.length + jk.length)) := by
  have h0 : st.length + jk.length ≠ 0 := by omega
  rw [stO_pos h0] at ho
  have hil : (ints (nI (st ++ jk))).length = st.length + jk.length := by rw [ints_length, nI_len, List.length_append]
  have hcA : cA h[k]? (st.length + jk.length) = some (ints (nI (st ++ jk))) := by rw [ho]; simp [cA, hil]
  unfold stV
  rw [if_neg h0, sl_ref_lo (S := S) (by omega) (by omega), hcA]
  simp
end
theorem argOf_stV {h : List AObj} {k m : Nat} {st jk : List Nat} (ho : h[k]? = some (stO st jk)) : argOf h (m + 2) (stV k st jk) = LA (decide (st.length + jk.length = 0)) (nI st) := by
  unfold stV
  by_cases h0 : st.length + jk.length = 0
  · obtain rfl : st = [] := List.eq_nil_of_length_eq_zero (by omega)
    obtain rfl : jk = [] := List.eq_nil_of_length_eq_zero (by omega)
    rfl
  · rw [stO_pos h0] at ho
    have hil : (ints (nI (st ++ jk))).length = st.length + jk.length := by rw [ints_length, nI_len, List.length_append]
    rw [if_neg h0]
    simp only [argOf, ho, hil, if_pos, List.drop_zero, Nat.mul_one]
    rw [decide_eq_false h0, LA, nI_len]
    congr 1
    have : (ints (nI (st ++ jk))).take st.length = ints (nI st) := by
      rw [nI_app2, ← ints_append, List.take_append_of_le_length (by rw [ints_length, nI_len]; exact Nat.le_refl _), List.take_of_length_le (by rw [ints_length, nI_len]; exact Nat.le_refl _)]
    rw [this, ints_arg]
theorem argOf_seg {h : List AObj} {k m c : Nat} {st jk : List Nat} (ho : h[k]? = some (stO st jk)) (hc : c < st.length) : argOf h (m + 2) (.ref k c (st.length - c) (st.length + jk.length)) = LA false (nI (st.drop c)) := by
  have h0 : st.length + jk.length ≠ 0 := by omega
  rw [stO_pos h0] at ho
  have hil : (ints (nI (st ++ jk))).length = st.length + jk.length := by rw [ints_length, nI_len, List.length_append]
  simp only [argOf, ho, hil, if_pos, Nat.mul_one]
  rw [LA, nI_len, List.length_drop]
  congr 1
  have : ((ints (nI (st ++ jk))).drop c).take (st.length - c) = ints (nI (st.drop c)) := by
    simp only [ints, nI, ← List.map_drop, ← List.map_take]
    congr 2
    rw [List.drop_append_of_le_length (by omega), List.take_append_of_le_length (by simp), List.take_of_length_le (by simp)]
  rw [this, ints_arg]
def rowsC (ps : List (List Nat)) : List AVal := ps.map fun l => LR false (nI l)
def ovV (n : Nat) (rows : List (List Int)) : AVal := .list true false n (LL rows)
def FS (rows : List (List Int)) (n : Nat) (s : TS) : List AObj :=
  [⟨3, 1, ints (fI n fun x => (s.ix x : Int))⟩, ⟨3, 1, ints (fI n fun x => (s.lo x : Int))⟩, ⟨3, 1, ints (fI n s.pt)⟩,
    ⟨114, 7, [ovV n rows, .ref 0 0 n n, .ref 1 0 n n, .ref 2 0 n n, stV 4 s.st s.jk, I s.mt, gw true 5 (rowsC s.ps)]⟩, stO s.st s.jk, go 47 (rowsC s.ps)]
theorem isPl_idx {l : List Nat} {a : Nat} (h : a ∈ l) : IsPl (nI l) a (nI l).length (l.idxOf a : Nat) := by
  have hi := List.idxOf_lt_length_of_mem h
  refine .inl ⟨l.idxOf a, by rw [nI_len]; exact hi, ?_, fun j hj => ?_, rfl⟩
  · simp [nI, List.getD_eq_getElem?_getD, List.getElem?_eq_getElem hi]
  · have hjl : j < l.length := by omega
    have := List.not_of_lt_findIdx (p := (· == a)) (xs := l) (i := j) (by simpa [List.idxOf] using hj)
    simp [nI, List.getD_eq_getElem?_getD, List.getElem?_eq_getElem hjl]
    intro h
    rw [beq_eq_false_iff_ne] at this
    exact this (by omega)
theorem srt_nI (l : List Nat) : srt (nI l) = nI (srtN l) := by
  unfold srt srtN nI
  rw [List.map_mergeSort]
  intro a _ b _
  simp
theorem values_s (h : List AObj) (k c m e : Nat) : SpecTo Tryz.prog 58 [.ref k c m e] h (.func (.func 77) [] [.ptr h.length 0 1]) (h ++ [⟨47, 1, [.ref k c m e]⟩]) := by
  refine SpecTo.intro (effS [] false) follows Tryz.func58 rfl rfl (by kernel_rfl) (Nat.le_of_ble_eq_true rfl) ?_
  refine zs ?_
  exact ⟨_, by rw [resVal_1 rfl]; simp (disch := first | assumption | omega | rfl | simp only [RH]) only [↓RP, RZ, ↓reduceIte, Nat.reduceEqDiff, reduceCtorEq, Nat.reduceBEq, Nat.reduceAdd, Nat.reduceLeDiff, raX_tmp, raX_cell, rvX_0, rvX_1, rvX_2, rvX_3, rvX_4, rvX_5]; first | done | rfl, Wk.of_eq rfl⟩
theorem sortedV_c (b : Bool) {l : List Int} (h0 : 0 < l.length) (hl : l.length ≤ 1000000) : Contract Tryz.prog 57 [.func (.func 77) [] [.spot false [LA b l]]] (LR false (srt l)) := by
  have h := Contract.ofSpec 6 (sorted_s [] (xs := l) (n := l.length) rfl h0 (valuesF_y false b l (by omega)) (by omega))
  have hs : (srt l).length = l.length := List.length_mergeSort _
  have e : resOf ([] ++ [(⟨3, 1, ints (srt l)⟩ : AObj)]) 6 (.ref ([] : List AObj).length 0 l.length l.length) = LR false (srt l) := by
    have hil : (ints (srt l)).length = l.length := by rw [ints_length, hs]
    show resOf [(⟨3, 1, ints (srt l)⟩ : AObj)] 6 (.ref 0 0 l.length l.length) = _
    simp only [resOf, List.getElem?_cons_zero, hil, if_pos, List.drop_zero, Nat.mul_one]
    rw [List.take_of_length_le (by rw [hil]; exact Nat.le_refl _), ints_res, LR, hs]
  rw [e] at h
  exact h
theorem FS_shut (rows : List (List Int)) (n : Nat) (s : TS) : ∀ o ∈ FS rows n s, ∀ x ∈ o.cells, ren (keepF 6 []) 8 x = x := by
  have hk : ∀ i, i < 6 → keepF 6 [] i = some i := fun i hi => by simp [keepF, hi]
  intro o ho x hx
  simp only [FS, List.mem_cons, List.not_mem_nil, or_false] at ho
  have hints : ∀ l : List Int, x ∈ ints l → ren (keepF 6 []) 8 x = x := fun l h => by
    simp only [ints, List.mem_map] at h
    obtain ⟨u, _, rfl⟩ := h; rfl
  have hrows : ∀ rs : List AVal, (∀ y ∈ rs, ∃ b k l, y = .list true b k (ints l)) → x ∈ rs → ren (keepF 6 []) 8 x = x := fun rs h hx => by
    obtain ⟨b, k, l, rfl⟩ := h x hx
    simp only [ren, map_ren_ints]
  rcases ho with rfl | rfl | rfl | rfl | rfl | rfl
  · exact hints _ hx
  · exact hints _ hx
  · exact hints _ hx
  · simp only [List.mem_cons, List.not_mem_nil, or_false] at hx
    rcases hx with rfl | rfl | rfl | rfl | rfl | rfl | rfl
    · unfold ovV
      simp only [ren]
      congr 1
      unfold LL
      rw [List.map_map]
      refine List.map_congr_left fun r _ => ?_
      simp only [Function.comp, LR, ren, map_ren_ints]
    · simp [ren, hk]
    · simp [ren, hk]
    · simp [ren, hk]
    · unfold stV; split <;> simp [ren, hk]
    · rfl
    · unfold gw
      split <;> simp [ren, hk]
  · unfold stO at hx
    rw [go_cells] at hx
    exact hints _ hx
  · rw [go_cells] at hx
    refine hrows _ (fun y hy => ?_) hx
    simp only [rowsC, List.mem_map] at hy
    obtain ⟨l, _, rfl⟩ := hy
    exact ⟨_, _, _, rfl⟩
section
variable {ov : Nat → List Nat} {n : Nat} {rows : List (List Int)} (hn : n ≤ 1000) (hr : rows.length = n) (hrow : ∀ a, a < n → rows.getD a [] = nI (ov a)) (hol : ∀ a, a < n → (ov a).length ≤ n) (hV : ∀ x y, x < n → y ∈ ov x → y < n)
include hn hr hrow hol hV
theorem visit_s : ∀ (k : Nat) (s : TS) (G : List Nat) (a : Nat), TInv ov n s G → a < n → s.ix a = 0 → (∀ g, g ∈ G → Wy ov g a) → unvT n s ≤ k → SpecTo Tryz.prog 79 [.ptr 3 0 7, I a] (FS rows n s) (.tuple []) (FS rows n (tVis ov k s a))
  | 0, s, G, a, hs, ha, h0, hG, hk => by have := unv_enter ha h0; omega
  | k + 1, s, G, a, hs, ha, h0, hG, hk => by
    have hmid := mid_at hV (fun s G a => tVis_post hV k s G a) hs ha h0 hG hk
    have l1 := fI_len n fun x => (s.ix x : Int)
    have l2 := fI_len n fun x => (s.lo x : Int)
    have l3 := fI_len n s.pt
    have hmt : s.mt ≤ n := by have := hs.mtc; omega
    have hsj := hs.sj
    refine SpecTo.intro (effS [] false) follows Tryz.func79 rfl rfl (by kernel_rfl) (Nat.le_of_ble_eq_true rfl) ?_
    have hap : ∀ o0 o1 o2 o3 o5 : AObj, aAppend Tryz.prog 47 [o0, o1, o2, o3, stO s.st s.jk, o5] (stV 4 s.st s.jk) (.lit 1 [.val (.int .i64 a)]) = some (stV 4 (s.st ++ [a]) (s.jk.drop 1), [o0, o1, o2, o3, stO (s.st ++ [a]) (s.jk.drop 1), o5]) := fun o0 o1 o2 o3 o5 => append_st (h := [o0, o1, o2, o3, stO s.st s.jk, o5]) rfl (by omega)
    have hrl := LL_at (rs := rows) (a := a) (by omega)
    rw [hrow a ha] at hrl
    have hoa := hol a ha
    have hil : (nI (ov a)).length = (ov a).length := nI_len _
    unfold FS
    simp (disch := first | assumption | omega | rfl | simp only [RH]) only [↓RP, RZ, ↓reduceIte, Nat.reduceEqDiff, reduceCtorEq, Nat.reduceBEq, Nat.reduceAdd, Nat.reduceLeDiff, hap, parts_stV, one_stV, ovV, hrl]
    refine loopK_I [0, 1, 53, 54, 55] (fun j : Nat => j ≤ (ov a).length) (fun j => ⟨[(0, .ptr 3 0 7), (1, I a), (53, LR (nI (ov a)).isEmpty (nI (ov a))), (54, I (ov a).length), (55, I j)], FS rows n (tAt ov k a s j)⟩) (fun j => (ov a).length - j) 0 (by omega) ?_ ?_
    · simp only [↓RP, RG, FX, RQ, ↓reduceIte, Nat.reduceEqDiff, reduceCtorEq, Nat.reduceBEq, Nat.reduceAdd, Nat.reduceLeDiff]
      have e1 : (fI n fun x => (s.ix x : Int)).set a ((s.mt : Int) + 1) = fI n fun x => ((tEnter s a).ix x : Int) := by
        rw [fI_set, show (s.mt : Int) + 1 = ((s.mt + 1 : Nat) : Int) by omega, upd_cast]; rfl
      have e2 : (fI n fun x => (s.lo x : Int)).set a ((s.mt : Int) + 1) = fI n fun x => ((tEnter s a).lo x : Int) := by
        rw [fI_set, show (s.mt : Int) + 1 = ((s.mt + 1 : Nat) : Int) by omega, upd_cast]; rfl
      rw [e1, e2, hil]
      rfl
    intro j hj
    obtain ⟨hm, hu⟩ := hmid j hj
    obtain ⟨t, ht⟩ : ∃ t, tAt ov k a s j = t := ⟨_, rfl⟩
    rw [ht] at hm hu
    simp only [ht]
    have m1 := fI_len n fun x => (t.ix x : Int)
    have m2 := fI_len n fun x => (t.lo x : Int)
    have m3 := fI_len n t.pt
    have hat : a ∈ t.st := by obtain ⟨new, h⟩ := hm.st; rw [h]; simp
    by_cases hlt : j < (ov a).length
    · obtain ⟨b, hb⟩ : ∃ b, (ov a)[j]? = some b := ⟨_, List.getElem?_eq_getElem hlt⟩
      have hbm : b ∈ ov a := List.mem_of_getElem? hb
      have hbn := hV a b ha hbm
      have hgb : (nI (ov a)).getD j 0 = (b : Int) := by simp [nI, List.getD_eq_getElem?_getD, hb]
      have hsucc := tAt_succ (k := k) (s := s) hb
      rw [ht] at hsucc
      have gix : (fI n fun x => (t.ix x : Int)).getD b 0 = (t.ix b : Int) := fI_get hbn
      have glo : (fI n fun x => (t.lo x : Int)).getD a 0 = (t.lo a : Int) := fI_get ha
      have gpt : (fI n t.pt).getD b 0 = t.pt b := fI_get hbn
      by_cases hb0 : t.ix b = 0
      · have hrec := visit_s k t (a :: G) b hm.inv hbn hb0 (fun g hg => by
          rcases List.mem_cons.1 hg with rfl | hg
          · exact .one hbm
          · exact (hG g hg).trans (.one hbm)) hu
        have hstep : tEdge (tVis ov k) a t b = { tVis ov k t b with lo := updN (tVis ov k t b).lo a (min ((tVis ov k t b).lo a) ((tVis ov k t b).lo b)) } := if_pos hb0
        have hli : (fI n fun x => (t.ix x : Int)).getD b 0 = 0 := by rw [gix, hb0]; rfl
        rw [hstep] at hsucc
        generalize tVis ov k t b = t1 at *
        have k1 := fI_len n fun x => (t1.ix x : Int)
        have k2 := fI_len n fun x => (t1.lo x : Int)
        have k3 := fI_len n t1.pt
        have gla : (fI n fun x => (t1.lo x : Int)).getD a 0 = (t1.lo a : Int) := fI_get ha
        have glb : (fI n fun x => (t1.lo x : Int)).getD b 0 = (t1.lo b : Int) := fI_get hbn
        have e1 : (fI n fun x => (t1.lo x : Int)).set a (min (t1.lo a : Int) (t1.lo b : Int)) = fI n fun x => ((updN t1.lo a (min (t1.lo a) (t1.lo b)) x : Nat) : Int) := by
          rw [fI_set, show min (t1.lo a : Int) (t1.lo b : Int) = ((min (t1.lo a) (t1.lo b) : Nat) : Int) by omega, upd_cast]
        unfold FS
        refine zx2 @hgb @hli ?_
        refine callK_T rfl hrec ?_
        unfold FS
        refine zx3 @gla @glb @e1 ?_
        exact ⟨j + 1, hlt, by rw [hsucc]; rfl, by omega⟩
      · have hnz : ¬ ((t.ix b : Int) = 0) := by omega
        by_cases hp : t.pt b < 0
        · have hstep : tEdge (tVis ov k) a t b = { t with lo := updN t.lo a (min (t.lo a) (t.ix b)) } := by unfold tEdge; rw [if_neg hb0, if_pos hp]
          rw [hstep] at hsucc
          have e1 : (fI n fun x => (t.lo x : Int)).set a (min (t.lo a : Int) (t.ix b : Int)) = fI n fun x => ((updN t.lo a (min (t.lo a) (t.ix b)) x : Nat) : Int) := by
            rw [fI_set, show min (t.lo a : Int) (t.ix b : Int) = ((min (t.lo a) (t.ix b) : Nat) : Int) by omega, upd_cast]
          unfold FS
          refine zx5 @hgb @gix @gpt @glo @e1 ?_
          exact ⟨j + 1, hlt, by rw [hsucc]; rfl, by omega⟩
        · have hstep : tEdge (tVis ov k) a t b = t := by unfold tEdge; rw [if_neg hb0, if_neg hp]
          rw [hstep] at hsucc
          unfold FS
          refine zx3 @hgb @gix @gpt ?_
          exact ⟨j + 1, hlt, by rw [hsucc]; rfl, by omega⟩
    · obtain rfl : (ov a).length = j := by omega
      have hres : tVis ov (k + 1) s a = tFin a t := by rw [← ht, tAt_all]; rfl
      have glo : (fI n fun x => (t.lo x : Int)).getD a 0 = (t.lo a : Int) := fI_get ha
      have gix : (fI n fun x => (t.ix x : Int)).getD a 0 = (t.ix a : Int) := fI_get ha
      rw [hres]
      unfold tFin
      by_cases hla : t.lo a = t.ix a
      · rw [if_pos hla]
        have hla2 : (t.lo a : Int) = (t.ix a : Int) := by omega
        unfold FS
        have hidx := List.idxOf_lt_length_of_mem hat
        have hsj2 := hm.inv.sj
        have hmt2 : t.mt ≤ n := by have := hm.inv.mtc; omega
        have hpl2 := hm.inv.pl
        have hI := index_c (decide (t.st.length + t.jk.length = 0)) (nI t.st) a (by rw [nI_len]; omega) _ (isPl_idx hat)
        refine zx3 @glo @gix @hla2 ?_
        refine callK_F 6 hI (by simp only [List.map_cons, List.map_nil]; rw [argOf_stV (by rfl)]; rfl) (.inl rfl) ?_
        have hslo : ∀ o0 o1 o2 o3 o5 : AObj, aSlice Tryz.prog 47 [o0, o1, o2, o3, stO t.st t.jk, o5] (stV 4 t.st t.jk) (some (I (t.st.idxOf a : Nat))) none none = some (.ref 4 (t.st.idxOf a) (t.st.length - t.st.idxOf a) (t.st.length + t.jk.length)) := fun o0 o1 o2 o3 o5 => slice_st_lo (h := [o0, o1, o2, o3, stO t.st t.jk, o5]) rfl hidx
        refine zx1 @hslo ?_
        refine callK_T rfl (values_s _ _ _ _ _) ?_
        refine zs ?_
        have hseg : 0 < (t.st.drop (t.st.idxOf a)).length := by rw [List.length_drop]; omega
        have hsl : (nI (t.st.drop (t.st.idxOf a))).length = (t.st.drop (t.st.idxOf a)).length := nI_len _
        have hdl : (t.st.drop (t.st.idxOf a)).length ≤ n := by rw [List.length_drop]; omega
        have hS := sortedV_c false (l := nI (t.st.drop (t.st.idxOf a))) (by omega) (by omega)
        rw [srt_nI] at hS
        refine callK_F 6 hS (by
          simp only [List.map_cons, List.map_nil, argOf]
          have := argOf_seg (h := [(⟨3, 1, ints (fI n fun x => (t.ix x : Int))⟩ : AObj), ⟨3, 1, ints (fI n fun x => (t.lo x : Int))⟩, ⟨3, 1, ints (fI n t.pt)⟩, ⟨114, 7, [ovV n rows, .ref 0 0 n n, .ref 1 0 n n, .ref 2 0 n n, stV 4 t.st t.jk, I t.mt, gw true 5 (rowsC t.ps)]⟩, stO t.st t.jk, go 47 (rowsC t.ps), ⟨47, 1, [.ref 4 (t.st.idxOf a) (t.st.length - t.st.idxOf a) (t.st.length + t.jk.length)]⟩]) (k := 4) (m := 2) (c := t.st.idxOf a) (st := t.st) (jk := t.jk) rfl hidx
          simp
          exact this) (.inl (by simp [allFresh, ints_fresh])) ?_
        have hshi : ∀ o0 o1 o2 o3 o5 o6 : AObj, aSlice Tryz.prog 47 [o0, o1, o2, o3, stO t.st t.jk, o5, o6] (stV 4 t.st t.jk) none (some (I (t.st.idxOf a : Nat))) none = some (stV 4 (t.st.take (t.st.idxOf a)) (t.st.drop (t.st.idxOf a) ++ t.jk)) := fun o0 o1 o2 o3 o5 o6 => slice_st_hi (h := [o0, o1, o2, o3, stO t.st t.jk, o5, o6]) rfl (by omega) (by omega)
        have hso : stO t.st t.jk = stO (t.st.take (t.st.idxOf a)) (t.st.drop (t.st.idxOf a) ++ t.jk) := by
          unfold stO; rw [← List.append_assoc, List.take_append_drop]
        obtain ⟨ms, hms⟩ : ∃ ms, srtN (t.st.drop (t.st.idxOf a)) = ms := ⟨_, rfl⟩
        rw [hms]
        have hml : ms.length = (t.st.drop (t.st.idxOf a)).length := by rw [← hms]; exact List.length_mergeSort _
        have hmm : ∀ x, x ∈ ms ↔ x ∈ t.st.drop (t.st.idxOf a) := fun x => by rw [← hms]; exact srtN_mem
        have hmn : ∀ x, x ∈ ms → x < n := fun x hx => hm.inv.vin x ((hm.inv.mem x).1 (List.mem_of_mem_drop ((hmm x).1 hx))).1
        have hmi : (nI ms).length = ms.length := nI_len _
        have hrl2 : (rowsC t.ps).length = t.ps.length := by simp [rowsC]
        refine zx3 @hshi @parts_stV @one_stV ?_
        refine loopK_I [0, 7, 159, 160, 161] (fun i : Nat => i ≤ ms.length) (fun i => ⟨[(0, .ptr 3 0 7), (7, LR false (nI ms)), (159, LR false (nI ms)), (160, I ms.length), (161, I i)], [⟨3, 1, ints (fI n fun x => (t.ix x : Int))⟩, ⟨3, 1, ints (fI n fun x => (t.lo x : Int))⟩, ⟨3, 1, ints (fI n fun x => if x ∈ ms.take i then (t.ps.length : Int) else t.pt x)⟩, ⟨114, 7, [ovV n rows, .ref 0 0 n n, .ref 1 0 n n, .ref 2 0 n n, stV 4 (t.st.take (t.st.idxOf a)) (t.st.drop (t.st.idxOf a) ++ t.jk), I t.mt, gw true 5 (rowsC t.ps)]⟩, stO t.st t.jk, go 47 (rowsC t.ps), ⟨47, 1, [.ref 4 (t.st.idxOf a) (t.st.length - t.st.idxOf a) (t.st.length + t.jk.length)]⟩]⟩) (fun i => ms.length - i) 0 (by omega) ?_ ?_
        · simp only [↓RP, RG, FX, RQ, ↓reduceIte, Nat.reduceEqDiff, reduceCtorEq, Nat.reduceBEq, Nat.reduceAdd, Nat.reduceLeDiff, hmi]
          simp [keepEnv, look]
        intro i hi
        have m4 := fI_len n fun x => if x ∈ ms.take i then (t.ps.length : Int) else t.pt x
        by_cases hlt2 : i < ms.length
        · obtain ⟨x, hx⟩ : ∃ x, ms[i]? = some x := ⟨_, List.getElem?_eq_getElem hlt2⟩
          have hxm := List.mem_of_getElem? hx
          have hxn := hmn x hxm
          have hgx : (nI ms).getD i 0 = (x : Int) := by simp [nI, List.getD_eq_getElem?_getD, hx]
          have hgs : ∀ o : Option AObj, gS (some (go 47 (rowsC t.ps))) (rowsC t.ps) = some (t.ps.length, rowsC t.ps) := fun _ => by rw [gS_go, hrl2]
          have e1 : (fI n fun y => if y ∈ ms.take i then (t.ps.length : Int) else t.pt y).set x (t.ps.length : Int) = fI n fun y => if y ∈ ms.take (i + 1) then (t.ps.length : Int) else t.pt y := by
            rw [fI_set]
            congr 1
            funext y
            rw [List.take_add_one, hx, Option.toList_some]
            by_cases hyx : y = x
            · subst hyx; rw [updN_same, if_pos (by simp)]
            · rw [updN_other _ _ hyx]
              simp only [List.mem_append, List.mem_singleton, hyx, or_false]
          refine zx4 @hgx @sview_gw (hgs none) @e1 ?_
          exact ⟨i + 1, hlt2, rfl, by omega⟩
        · obtain rfl : ms.length = i := by omega
          have hap2 : ∀ o0 o1 o2 o3 o4 o6 : AObj, aAppend Tryz.prog 71 [o0, o1, o2, o3, o4, go 47 (rowsC t.ps), o6] (gw true 5 (rowsC t.ps)) (.lit 1 [.list true false ms.length (ints (nI ms))]) = some (gw true 5 (rowsC t.ps ++ [.list true false ms.length (ints (nI ms))]), [o0, o1, o2, o3, o4, go 47 (rowsC t.ps ++ [.list true false ms.length (ints (nI ms))]), o6]) := fun o0 o1 o2 o3 o4 o6 => append_list (h := [o0, o1, o2, o3, o4, go 47 (rowsC t.ps), o6]) rfl (by omega)
          refine zx2 @hap2 @hmi ?_
          have e3 : (fI n fun x => if x ∈ ms.take ms.length then (t.ps.length : Int) else t.pt x) = fI n (tPop a t).pt := by
            congr 1
            funext x
            rw [List.take_length]
            show _ = if x ∈ tSeg a t then (t.ps.length : Int) else t.pt x
            unfold tSeg
            simp only [hmm]
          have e4 : rowsC t.ps ++ [.list true false ms.length (ints (nI ms))] = rowsC (tPop a t).ps := by
            show _ = rowsC (t.ps ++ [srtN (tSeg a t)])
            unfold tSeg
            rw [hms]
            simp [rowsC, nI_len]
          rw [e3, e4, hso]
          exact ⟨_, by rw [resVal_0 rfl]; simp (disch := first | assumption | omega | rfl | simp only [RH]) only [↓RP, RZ, ↓reduceIte, Nat.reduceEqDiff, reduceCtorEq, Nat.reduceBEq, Nat.reduceAdd, Nat.reduceLeDiff, raX_tmp, raX_cell, rvX_0, rvX_1, rvX_2, rvX_3, rvX_4, rvX_5]; first | done | rfl, (Wk.drop (hb := FS rows n s) (h1 := FS rows n (tPop a t)) (gs := [⟨47, 1, [.ref 4 (t.st.idxOf a) (t.st.length - t.st.idxOf a) (t.st.length + t.jk.length)]⟩]) 8 [] rfl (by simp) (by simp) (fun i o ho => .inr fun x hx => FS_shut rows n _ o (List.mem_of_getElem? ho) x hx)).trans (Wk.of_eq (by first | rfl | simp))⟩
      · rw [if_neg hla]
        have hla2 : ¬ (t.lo a : Int) = (t.ix a : Int) := by omega
        unfold FS
        refine zx2 @glo @gix ?_
        exact ⟨_, by rw [resVal_0 rfl]; simp (disch := first | assumption | omega | rfl | simp only [RH]) only [↓RP, RZ, ↓reduceIte, Nat.reduceEqDiff, reduceCtorEq, Nat.reduceBEq, Nat.reduceAdd, Nat.reduceLeDiff, raX_tmp, raX_cell, rvX_0, rvX_1, rvX_2, rvX_3, rvX_4, rvX_5]; first | done | rfl, Wk.of_eq rfl⟩
end
theorem rem_at {x n : Nat} (hn : 0 < n) (hn2 : n ≤ 1000000000) : aInt .rem .i64 (x : Int) (n : Int) = some (I (x % n : Nat)) := by
  have hx : (x : Int).tmod n = ((x % n : Nat) : Int) := by rw [Int.tmod_eq_emod_of_nonneg (by omega)]; exact (Int.natCast_emod x n).symm
  simp only [aInt]; rw [if_neg (by omega), hx]
theorem quo_at {x n : Nat} (hn : 0 < n) (hx2 : x ≤ 1000000000) : aInt .quo .i64 (x : Int) (n : Int) = some (I (x / n : Nat)) := by
  have h := quo_int (a := (x : Int)) (b := (n : Int)) (by omega) (by omega) (by omega)
  rw [Int.toNat_natCast, Int.toNat_natCast] at h
  exact h
theorem sel_add {n c : Nat} {p p' : Nat → Bool} (hc : c < n) (h : ∀ b, b < n → (p' b = true ↔ p b = true ∨ b = c)) (hlt : ∀ b, b < n → p b = true → b < c) : sel n p' = sel n p ++ [(c : Int)] := by
  refine sinc_ext _ _ (sel_inc n p') (List.pairwise_append.2 ⟨sel_inc n p, by simp, fun x hx y hy => ?_⟩) fun x => ?_
  · obtain ⟨i, h1, h2, rfl⟩ := sel_mem.1 hx
    simp only [List.mem_singleton] at hy
    subst hy
    have := hlt i h1 h2; omega
  · rw [sel_mem, List.mem_append, sel_mem, List.mem_singleton]
    constructor
    · rintro ⟨i, h1, h2, rfl⟩
      rcases (h i h1).1 h2 with h3 | rfl
      · exact .inl ⟨i, h1, h3, rfl⟩
      · exact .inr rfl
    · rintro (⟨i, h1, h2, rfl⟩ | rfl)
      · exact ⟨i, h1, (h i h1).2 (.inl h2), rfl⟩
      · exact ⟨c, hc, (h c hc).2 (.inr rfl), rfl⟩
def cellX (W a b : Nat) : Nat := if a < W then W * (b - W) + a else W * (a - W) + b
def qR (W : Nat) (l : List Bool) (i a b : Nat) : Bool := ov W l b a && decide (cellX W a b < i)
def aRs (W n : Nat) (l : List Bool) (i : Nat) : List (List Int) := (List.range n).map fun a => sel n (qR W l i a)
theorem aRs_len (W n : Nat) (l : List Bool) (i : Nat) : (aRs W n l i).length = n := by simp [aRs]
theorem aRs_get {W n : Nat} {l : List Bool} {i a : Nat} (h : a < n) : (aRs W n l i).getD a [] = sel n (qR W l i a) := by
  simp [aRs, List.getD_eq_getElem?_getD, h]
theorem aRs_zero (W n : Nat) (l : List Bool) : aRs W n l 0 = List.replicate n [] := by
  unfold aRs
  rw [List.eq_replicate_iff]
  refine ⟨by simp, fun r hr => ?_⟩
  obtain ⟨a, _, rfl⟩ := List.mem_map.1 hr
  exact sel_none fun b _ => by simp [qR]
theorem aRs_all {W H n : Nat} (hN : W + H = n) {l : List Bool} : aRs W n l (W * H) = abv W n l := by
  unfold aRs abv
  refine List.map_congr_left fun a ha => ?_
  have ha' := List.mem_range.1 ha
  have hf : ∀ b, b < n → qR W l (W * H) a b = ov W l b a := fun b hb => by
    unfold qR
    cases ho : ov W l b a with
    | false => rfl
    | true =>
      have : cellX W a b < W * H := by
        unfold cellX
        unfold ov at ho
        by_cases h1 : a < W
        · rw [if_pos h1]
          by_cases h2 : b < W
          · rw [if_pos h2, if_pos h1] at ho; cases ho
          · exact idx_lt h1 (by omega)
        · rw [if_neg h1]
          by_cases h2 : b < W
          · exact idx_lt h2 (by omega)
          · rw [if_neg h2, if_neg h1] at ho; cases ho
      simp [this]
  unfold sel
  congr 1
  exact List.filter_congr fun b hb => hf b (List.mem_range.1 hb)
theorem cell_eq {W x y b : Nat} (hb : b < W) (hx : x < W) {c : Nat} (h : W * c + b = W * y + x) : c = y ∧ b = x := by
  have h1 : (W * c + b) / W = c := by rw [Nat.mul_add_div (by omega), Nat.div_eq_of_lt hb, Nat.add_zero]
  have h2 : (W * y + x) / W = y := by rw [Nat.mul_add_div (by omega), Nat.div_eq_of_lt hx, Nat.add_zero]
  have h3 : (W * c + b) % W = b := by rw [Nat.mul_add_mod]; exact Nat.mod_eq_of_lt hb
  have h4 : (W * y + x) % W = x := by rw [Nat.mul_add_mod]; exact Nat.mod_eq_of_lt hx
  rw [h] at h1 h3
  exact ⟨by omega, by omega⟩
theorem aRs_step {W H n : Nat} (hN : W + H = n) {l : List Bool} {x y : Nat} (hx : x < W) (hy : y < H) (u : Bool) (hu : l.getD (W * y + x) false = u) :
    aRs W n l (W * y + x + 1) = (aRs W n l (W * y + x)).set (if u then W + y else x) ((aRs W n l (W * y + x)).getD (if u then W + y else x) [] ++ [((if u then x else W + y : Nat) : Int)]) := by
  have hcell : ∀ a b, a < n → b < n → ov W l b a = true → (cellX W a b < W * y + x + 1 ↔ cellX W a b < W * y + x ∨ (a = (if u then W + y else x) ∧ b = (if u then x else W + y))) := by
    intro a b ha hb ho
    unfold cellX
    unfold ov at ho
    by_cases h1 : a < W
    · rw [if_pos h1]
      by_cases h2 : b < W
      · rw [if_pos h2, if_pos h1] at ho; cases ho
      · rw [if_neg h2, if_pos h1] at ho
        constructor
        · intro h
          by_cases he : W * (b - W) + a = W * y + x
          · obtain ⟨e1, e2⟩ := cell_eq h1 hx he
            rw [e1, e2, hu] at ho
            have hu' : u = false := by cases u <;> simp_all
            subst hu'
            exact .inr ⟨e2, by simp; omega⟩
          · exact .inl (by omega)
        · rintro (h | ⟨h3, h4⟩)
          · omega
          · cases u with
            | true => simp at h3; omega
            | false =>
              simp at h3 h4
              subst h3; subst h4
              rw [Nat.add_sub_cancel_left]; omega
    · rw [if_neg h1]
      by_cases h2 : b < W
      · rw [if_pos h2, if_neg h1] at ho
        constructor
        · intro h
          by_cases he : W * (a - W) + b = W * y + x
          · obtain ⟨e1, e2⟩ := cell_eq h2 hx he
            rw [e1, e2, hu] at ho
            subst ho
            exact .inr ⟨by simp; omega, by simpa using e2⟩
          · exact .inl (by omega)
        · rintro (h | ⟨h3, h4⟩)
          · omega
          · cases u with
            | false => simp at h4; omega
            | true =>
              simp at h3 h4
              subst h3; subst h4
              rw [Nat.add_sub_cancel_left]; omega
      · rw [if_neg h2, if_neg h1] at ho; cases ho
  have ha0 : (if u then W + y else x) < n := by cases u <;> simp <;> omega
  have hc0 : (if u then x else W + y) < n := by cases u <;> simp <;> omega
  rw [aRs_get ha0]
  refine List.ext_getElem (by simp [aRs]) fun a h1 h2 => ?_
  have han : a < n := by simpa [aRs] using h1
  rw [List.getElem_set]
  have e1 : (aRs W n l (W * y + x + 1))[a] = sel n (qR W l (W * y + x + 1) a) := by simp [aRs]
  have e2 : (aRs W n l (W * y + x))[a]'(by simpa [aRs] using han) = sel n (qR W l (W * y + x) a) := by simp [aRs]
  rw [e1]
  by_cases haa : (if u then W + y else x) = a
  · rw [if_pos haa, haa]
    refine sel_add hc0 (fun b hb => ?_) fun b hb hq => ?_
    · unfold qR
      rw [Bool.and_eq_true, Bool.and_eq_true, decide_eq_true_eq, decide_eq_true_eq]
      constructor
      · rintro ⟨k1, k2⟩
        rcases (hcell a b han hb k1).1 k2 with k3 | k3
        · exact .inl ⟨k1, k3⟩
        · exact .inr k3.2
      · rintro (⟨k1, k2⟩ | k1)
        · exact ⟨k1, by omega⟩
        · have k2 : ov W l b a = true := by
            subst k1; subst haa
            unfold ov
            cases u with
            | true => simp [hx, show ¬ W + y < W by omega]; simpa using hu
            | false => simp [hx, show ¬ W + y < W by omega]; simpa using hu
          exact ⟨k2, (hcell a b han hb k2).2 (.inr ⟨haa.symm, k1⟩)⟩
    · unfold qR at hq
      rw [Bool.and_eq_true, decide_eq_true_eq] at hq
      obtain ⟨k1, k2⟩ := hq
      unfold ov at k1
      unfold cellX at k2
      subst haa
      cases u with
      | true =>
        simp only [if_true, show ¬ W + y < W by omega, if_false] at k1 k2 ⊢
        rw [Nat.add_sub_cancel_left] at k2; omega
      | false =>
        simp only [Bool.false_eq_true, if_false, hx, if_true] at k1 k2 ⊢
        by_cases hbW : b < W
        · omega
        · have : W * (b - W) < W * y := by omega
          have := Nat.lt_of_mul_lt_mul_left this
          omega
  · rw [if_neg haa, e2]
    unfold sel
    congr 1
    refine List.filter_congr fun b hb => ?_
    have hbn := List.mem_range.1 hb
    unfold qR
    cases ho : ov W l b a with
    | false => rfl
    | true =>
      simp only [Bool.true_and, decide_eq_decide]
      rw [hcell a b han hbn ho]
      constructor
      · rintro (h | h)
        · exact h
        · exact absurd h.1.symm haa
      · exact .inl
section
variable {o0 o1 : AObj} {rs : List (List Int)}
theorem h2_at {a : Nat} (ha : a < rs.length) : (o0 :: o1 :: gos rs)[2 + a]? = some (go 3 (ints (rs.getD a []))) := by
  rw [show 2 + a = a + 2 by omega]
  simp only [List.getElem?_cons_succ]
  exact gos_at ha
theorem h2_set {a : Nat} (r : List Int) : (o0 :: o1 :: gos rs).set (2 + a) (go 3 (ints r)) = o0 :: o1 :: gos (rs.set a r) := by
  rw [show 2 + a = a + 2 by omega]
  simp only [List.set_cons_succ]
  rw [gos_set]
end
theorem aboveP_c {W H n : Nat} (hN : W + H = n) (hW0 : 0 < W) (hH0 : 0 < H) (hW : W ≤ 64) (hH : H ≤ 64) (b : Bool) {l : List Bool} (hn : l.length = W * H) : Contract Tryz.prog 78 [GA W H b l] (.list true false n (LL (abv W n l))) := by
  have hWH : W * H ≤ 64 * 64 := Nat.mul_le_mul hW hH
  have hNi : ((W : Int) + (H : Int)).toNat = n := by omega
  have hcell : ofCell (.slice none 0 0) = .cap0 true := rfl
  refine zi Tryz.func78 ?_
  refine zx3 @make_one @hNi @hcell ?_
  refine loopK_WW [1, 3, 15, 16, 17] (fun i : Nat => i ≤ W * H) (fun i : Nat => ⟨[(1, .ptr 0 0 3), (3, .ref 1 0 n n), (15, BA b l), (16, I (W * H : Nat)), (17, I i)], ⟨24, 3, [I W, I H, BA b l]⟩ :: ⟨47, 1, gws 2 (aRs W n l i)⟩ :: gos (aRs W n l i)⟩) (fun i => W * H - i) 0 (by omega) ?_ ?_
  · simp only [↓RP, RG, FX, RQ, ↓reduceIte, Nat.reduceEqDiff, reduceCtorEq, Nat.reduceBEq, Nat.reduceAdd, Nat.reduceLeDiff]
    rw [aRs_zero, ← hn]
    exact Wk.weak (fun t => .refl _) (.cons _ _ _ _ (WL.refl _) (.cons _ _ _ _ (WL_gws 2 n) (.nil _ (gos_nil n))))
  intro i hi
  by_cases hlt : i < W * H
  · have hm : i % W < W := Nat.mod_lt _ hW0
    have hd : i / W < H := Nat.div_lt_of_lt_mul hlt
    have hid : W * (i / W) + i % W = i := Nat.div_add_mod i W
    obtain ⟨u, hu⟩ : ∃ u, l.getD i false = u := ⟨_, rfl⟩
    have hst := aRs_step hN (l := l) hm hd u (by rw [hid]; exact hu)
    rw [hid] at hst
    have r1 := rem_at (x := i) hW0 (by omega)
    have q1 := quo_at (x := i) hW0 (by omega)
    generalize i / W = y at *
    generalize i % W = x at *
    have la := aRs_len W n l i
    have hlen : ∀ a, a < n → ((aRs W n l i).getD a []).length ≤ 1000 := fun a ha => by rw [aRs_get ha]; have := sel_len n (qR W l i a); omega
    generalize aRs W n l i = rs at *
    generalize hrs' : aRs W n l (i + 1) = rs' at *
    have gl : (gws 2 rs).length = n := by rw [gws_len]; exact la
    have hcst : (W : Int) + (y : Int) = ((W + y : Nat) : Int) := by omega
    cases u with
    | true =>
      rw [if_pos rfl, if_pos rfl] at hst
      have hb := hlen (W + y) (by omega)
      have a1 := gws_at (k := 2) (show W + y < rs.length by omega)
      have o1 : (⟨24, 3, [I W, I H, BA b l]⟩ :: ⟨47, 1, gws 2 rs⟩ :: gos rs)[2 + (W + y)]? = some (go 3 (ints (rs.getD (W + y) []))) := h2_at (by omega)
      have t1 : ∀ g g', (g :: g' :: gos rs).set (2 + (W + y)) (go 3 (ints (rs.getD (W + y) [] ++ [(x : Int)]))) = g :: g' :: gos rs' := fun g g' => by rw [h2_set, ← hst]
      have p1 : (gws 2 rs).set (W + y) (gw true (2 + (W + y)) (ints (rs.getD (W + y) [] ++ [(x : Int)]))) = gws 2 rs' := by rw [gws_set, ← hst]
      simp (disch := first | assumption | omega | rfl | simp only [RH]) only [↓RP, RZ, ↓reduceIte, Nat.reduceEqDiff, reduceCtorEq, Nat.reduceBEq, Nat.reduceAdd, Nat.reduceLeDiff, hu, r1, q1, hcst, cA_any, a1, sX_gw, append_int, o1, t1, p1]
      exact ⟨i + 1, hlt, Wk.of_eq (by rw [hrs']; rfl), by omega⟩
    | false =>
      rw [if_neg (by simp), if_neg (by simp)] at hst
      have hb := hlen (x) (by omega)
      have a1 := gws_at (k := 2) (show x < rs.length by omega)
      have o1 : (⟨24, 3, [I W, I H, BA b l]⟩ :: ⟨47, 1, gws 2 rs⟩ :: gos rs)[2 + x]? = some (go 3 (ints (rs.getD (x) []))) := h2_at (by omega)
      have t1 : ∀ g g', (g :: g' :: gos rs).set (2 + x) (go 3 (ints (rs.getD (x) [] ++ [((W + y : Nat) : Int)]))) = g :: g' :: gos rs' := fun g g' => by rw [h2_set, ← hst]
      have p1 : (gws 2 rs).set (x) (gw true (2 + x) (ints (rs.getD (x) [] ++ [((W + y : Nat) : Int)]))) = gws 2 rs' := by rw [gws_set, ← hst]
      simp (disch := first | assumption | omega | rfl | simp only [RH]) only [↓RP, RZ, ↓reduceIte, Nat.reduceEqDiff, reduceCtorEq, Nat.reduceBEq, Nat.reduceAdd, Nat.reduceLeDiff, hu, r1, q1, hcst, cA_any, a1, sX_gw, append_int, o1, t1, p1]
      exact ⟨i + 1, hlt, Wk.of_eq (by rw [hrs']; rfl), by omega⟩
  · obtain rfl : W * H = i := by omega
    have hl := aRs_len W n l (W * H)
    have hg : (gws 2 (aRs W n l (W * H))).length = n := by rw [gws_len, hl]
    refine zs ?_
    have f1 := gws_res (h := ⟨24, 3, [I W, I H, BA b l]⟩ :: ⟨47, 1, gws 2 (aRs W n l (W * H))⟩ :: gos (aRs W n l (W * H))) (k := 2) (rs := aRs W n l (W * H)) 3 (fun i hi => h2_at hi)
    refine zr1 ?_
    rw [rX_any hg, f1, aRs_all hN]
def gRow (ov : Nat → List Nat) (P : Nat → Nat) (a : Nat) (s : GSt) (j : Nat) : GSt := ((ov a).take j).foldl (fun s b => gStep s (P a) (P b)) s
def gAll (ov : Nat → List Nat) (P : Nat → Nat) : Nat → GSt
  | 0 => ⟨fun _ => 0, fun _ => []⟩
  | a + 1 => gRow ov P a (gAll ov P a) (ov a).length
def gRel (ov : Nat → List Nat) (P : Nat → Nat) (a j : Nat) (p q : Nat) : Prop := ∃ x b, ((x < a ∧ b ∈ ov x) ∨ (x = a ∧ b ∈ (ov a).take j)) ∧ p = P x ∧ q = P b
theorem gRow_zero (ov : Nat → List Nat) (P : Nat → Nat) (a : Nat) (s : GSt) : gRow ov P a s 0 = s := by simp [gRow]
theorem gRow_succ {ov : Nat → List Nat} {P : Nat → Nat} {a : Nat} {s : GSt} {j b : Nat} (h : (ov a)[j]? = some b) : gRow ov P a s (j + 1) = gStep (gRow ov P a s j) (P a) (P b) := by
  unfold gRow
  rw [List.take_add_one, h, Option.toList_some, List.foldl_append]; rfl
theorem gStep_len (s : GSt) (p q x : Nat) : ((gStep s p q).f x).length ≤ (s.f x).length + 1 ∧ (gStep s p q).w x ≤ s.w x + 1 := by
  unfold gStep
  split
  · constructor
    · show (updN s.f q (s.f q ++ [p]) x).length ≤ _
      by_cases h : x = q
      · subst h; rw [updN_same]; simp
      · rw [updN_other _ _ h]; omega
    · show updN s.w p (s.w p + 1) x ≤ _
      by_cases h : x = p
      · subst h; rw [updN_same]; exact Nat.le_refl _
      · rw [updN_other _ _ h]; omega
  · exact ⟨by omega, by omega⟩
theorem gAt_inv {ov : Nat → List Nat} {P : Nat → Nat} {n m : Nat} (hP : ∀ x, x < n → P x < m) (hV : ∀ x y, x < n → y ∈ ov x → y < n) (hol : ∀ a, a < n → (ov a).length ≤ n) : ∀ a, a ≤ n → (GInv m (gRel ov P a 0) (gAll ov P a) ∧ ∀ x, ((gAll ov P a).f x).length ≤ a * n ∧ (gAll ov P a).w x ≤ a * n) ∧
    (a < n → ∀ j, j ≤ (ov a).length → GInv m (gRel ov P a j) (gRow ov P a (gAll ov P a) j) ∧ ∀ x, ((gRow ov P a (gAll ov P a) j).f x).length ≤ a * n + j ∧ (gRow ov P a (gAll ov P a) j).w x ≤ a * n + j) := by
  have row : ∀ a, a < n → (GInv m (gRel ov P a 0) (gAll ov P a) ∧ ∀ x, ((gAll ov P a).f x).length ≤ a * n ∧ (gAll ov P a).w x ≤ a * n) → ∀ j, j ≤ (ov a).length → GInv m (gRel ov P a j) (gRow ov P a (gAll ov P a) j) ∧ ∀ x, ((gRow ov P a (gAll ov P a) j).f x).length ≤ a * n + j ∧ (gRow ov P a (gAll ov P a) j).w x ≤ a * n + j := by
    intro a ha h j
    induction j with
    | zero => intro _; rw [gRow_zero]; exact ⟨h.1, fun x => by have := h.2 x; omega⟩
    | succ j ih =>
      intro hj
      obtain ⟨i1, i2⟩ := ih (by omega)
      have hb' : (ov a)[j]? = some (ov a)[j] := List.getElem?_eq_getElem (by omega)
      have hbn : (ov a)[j] < n := hV a _ ha (List.getElem_mem _)
      rw [gRow_succ hb']
      refine ⟨(gStep_inv i1 (hP _ hbn)).congr fun p q => ?_, fun x => by have := gStep_len (gRow ov P a (gAll ov P a) j) (P a) (P (ov a)[j]) x; have := i2 x; omega⟩
      unfold gRel
      rw [List.take_add_one, hb', Option.toList_some]
      constructor
      · rintro (⟨x, b, h1, h2, h3⟩ | ⟨h1, h2⟩)
        · refine ⟨x, b, ?_, h2, h3⟩
          rcases h1 with h1 | ⟨h1, h4⟩
          · exact .inl h1
          · exact .inr ⟨h1, List.mem_append.2 (.inl h4)⟩
        · exact ⟨a, _, .inr ⟨rfl, List.mem_append.2 (.inr (by simp))⟩, h1, h2⟩
      · rintro ⟨x, b, h1, h2, h3⟩
        rcases h1 with h1 | ⟨rfl, h4⟩
        · exact .inl ⟨x, b, .inl h1, h2, h3⟩
        · rcases List.mem_append.1 h4 with h4 | h4
          · exact .inl ⟨x, b, .inr ⟨rfl, h4⟩, h2, h3⟩
          · simp only [List.mem_singleton] at h4
            subst h4
            exact .inr ⟨h2, h3⟩
  have all : ∀ a, a ≤ n → (GInv m (gRel ov P a 0) (gAll ov P a) ∧ ∀ x, ((gAll ov P a).f x).length ≤ a * n ∧ (gAll ov P a).w x ≤ a * n) := by
    intro a
    induction a with
    | zero =>
      intro _
      refine ⟨(gInv_zero m).congr fun p q => ⟨(fun h => h.elim), ?_⟩, fun x => ⟨Nat.zero_le _, Nat.zero_le _⟩⟩
      rintro ⟨x, b, h1, _⟩
      rcases h1 with ⟨h1, _⟩ | ⟨_, h1⟩
      · omega
      · simp at h1
    | succ a ih =>
      intro ha
      obtain ⟨i1, i2⟩ := row a (by omega) (ih (by omega)) (ov a).length (Nat.le_refl _)
      have ho := hol a (by omega)
      refine ⟨i1.congr fun p q => ?_, fun x => ?_⟩
      · unfold gRel
        rw [List.take_length]
        constructor
        · rintro ⟨x, b, h1, h2, h3⟩
          refine ⟨x, b, .inl ?_, h2, h3⟩
          rcases h1 with h1 | ⟨rfl, h4⟩
          · exact ⟨by omega, h1.2⟩
          · exact ⟨by omega, h4⟩
        · rintro ⟨x, b, h1, h2, h3⟩
          refine ⟨x, b, ?_, h2, h3⟩
          rcases h1 with ⟨h1, h4⟩ | ⟨_, h4⟩
          · by_cases hx : x = a
            · subst hx; exact .inr ⟨rfl, h4⟩
            · exact .inl ⟨by omega, h4⟩
          · simp at h4
      · have := i2 x
        rw [Nat.succ_mul]
        show ((gRow ov P a (gAll ov P a) (ov a).length).f x).length ≤ _ ∧ (gRow ov P a (gAll ov P a) (ov a).length).w x ≤ _
        omega
  exact fun a ha => ⟨all a ha, fun hlt j hj => row a hlt (all a (by omega)) j hj⟩
theorem gAll_lies {ov : Nat → List Nat} {n : Nat} {ps : List (List Nat)} {pt : Nat → Int} (S : Scc ov n ps pt) {m : Nat} (hm : m = ps.length) (hV : ∀ x y, x < n → y ∈ ov x → y < n) (hol : ∀ a, a < n → (ov a).length ≤ n) :
    (∀ p q, p ∈ (gAll ov (fun x => (pt x).toNat) n).f q ↔ lies ov pt p q) ∧ (∀ q, ((gAll ov (fun x => (pt x).toNat) n).f q).Nodup) ∧ OInv ov n ps pt (gAll ov (fun x => (pt x).toNat) n).f 0 (gAll ov (fun x => (pt x).toNat) n).w fun _ => false := by
  have hP : ∀ x, x < n → (pt x).toNat < m := fun x hx => by
    have h0 := S.all x hx
    obtain ⟨l, h1, _⟩ := (S.p1 x (pt x).toNat).1 (by omega)
    rw [hm]; exact (List.getElem?_eq_some_iff.1 h1).1
  obtain ⟨⟨g, _⟩, _⟩ := gAt_inv hP hV hol n (Nat.le_refl _)
  have hF : ∀ p q, p ∈ (gAll ov (fun x => (pt x).toNat) n).f q ↔ lies ov pt p q := fun p q => by
    rw [g.g1]
    unfold gRel lies
    refine and_congr_right fun _ => ⟨?_, ?_⟩
    · rintro ⟨x, b, h1, h2, h3⟩
      rcases h1 with ⟨hx, hb⟩ | ⟨_, hb⟩
      · have := S.all x hx
        have := S.all b (hV x b hx hb)
        simp only at h2 h3
        exact ⟨x, b, by omega, by omega, hb⟩
      · simp at hb
    · rintro ⟨x, y, h1, h2, h3⟩
      have hx : x < n := S.lt x (by omega)
      exact ⟨x, y, .inl ⟨hx, h3⟩, by simp only []; omega, by simp only []; omega⟩
  refine ⟨hF, g.g2, fun p => ?_, (fun p q h => by cases h), by simp⟩
  rw [g.g3, hm]
  exact List.countP_congr fun q _ => by simp
structure OS where
  w : Nat → Nat
  D : Nat → Bool
  out : List (List Nat)
def oStep (ps : List (List Nat)) (F : Nat → List Nat) (s : OS) : OS := match bstP ps (cdW s.w s.D) ps.length with
  | some p => ⟨wDec s.w (F p), updN s.D p true, s.out ++ [ps.getD p []]⟩
  | none => s
def oAt (ps : List (List Nat)) (F : Nat → List Nat) (w : Nat → Nat) : Nat → OS
  | 0 => ⟨w, fun _ => false, []⟩
  | k + 1 => oStep ps F (oAt ps F w k)
theorem oAt_inv {ov : Nat → List Nat} {n : Nat} {ps : List (List Nat)} {pt : Nat → Int} (S : Scc ov n ps pt) {hd : Nat → Nat → Bool} (hhd : ∀ a b, a < n → b < n → (hd a b = true ↔ Wy ov a b)) {F : Nat → List Nat} (hF : ∀ p q, p ∈ F q ↔ lies ov pt p q) (hFn : ∀ q, (F q).Nodup) {w : Nat → Nat} (O : OInv ov n ps pt F 0 w fun _ => false) :
    ∀ k, k ≤ ps.length → OInv ov n ps pt F k (oAt ps F w k).w (oAt ps F w k).D ∧ (oAt ps F w k).out.length = k ∧ ∃ L : Nat → Bool, (∀ b (q : Nat), pt b = (q : Int) → L b = (oAt ps F w k).D q) ∧ lsP hd n n (fun _ => false) = (oAt ps F w k).out ++ lsP hd n (n - k) L
  | 0, _ => ⟨O, rfl, fun _ => false, fun _ _ _ => rfl, rfl⟩
  | k + 1, hk => by
    obtain ⟨i1, i0, L, i2, i3⟩ := oAt_inv S hhd hF hFn O k (by omega)
    obtain ⟨p, hp⟩ := i1.some S hF (by omega)
    have hl := S.len_le
    obtain ⟨L', j1, j2⟩ := lsP_step S hhd hF i1 i2 hp (n - (k + 1))
    rw [show n - (k + 1) + 1 = n - k by omega] at j2
    have hs : oAt ps F w (k + 1) = ⟨wDec (oAt ps F w k).w (F p), updN (oAt ps F w k).D p true, (oAt ps F w k).out ++ [ps.getD p []]⟩ := by
      show oStep ps F (oAt ps F w k) = _
      unfold oStep
      rw [hp]
    rw [hs]
    refine ⟨i1.next S hF hFn hp, by simp [i0], L', j1, ?_⟩
    rw [i3, j2]; simp
theorem oAt_all {ov : Nat → List Nat} {n : Nat} {ps : List (List Nat)} {pt : Nat → Int} (S : Scc ov n ps pt) {hd : Nat → Nat → Bool} (hhd : ∀ a b, a < n → b < n → (hd a b = true ↔ Wy ov a b)) {F : Nat → List Nat} (hF : ∀ p q, p ∈ F q ↔ lies ov pt p q) (hFn : ∀ q, (F q).Nodup) {w : Nat → Nat} (O : OInv ov n ps pt F 0 w fun _ => false) :
    (oAt ps F w ps.length).out = lsP hd n n fun _ => false := by
  obtain ⟨i1, _, L, i2, i3⟩ := oAt_inv S hhd hF hFn O ps.length (Nat.le_refl _)
  have hall : ∀ p, p < ps.length → (oAt ps F w ps.length).D p = true := by
    have h := i1.o3
    have h2 : (List.range ps.length).countP (oAt ps F w ps.length).D = (List.range ps.length).length := by rw [h]; simp
    exact fun p hp => (List.countP_eq_length.1 h2) p (List.mem_range.2 hp)
  rw [i3, lsP_end (fun b hb => ?_), List.append_nil]
  have h0 := S.all b hb
  obtain ⟨l, h1, _⟩ := (S.p1 b (pt b).toNat).1 (by omega)
  rw [i2 b (pt b).toNat (by omega)]
  exact hall _ (List.getElem?_eq_some_iff.1 h1).1
def hdB (W n : Nat) (l : List Bool) (a b : Nat) : Bool := decide (0 ≤ (srch (adjT W n l) (far0 n a) [a]).getD b 0)
theorem adjT_in {W n : Nat} {l : List Bool} : ∀ x y, x < n → y ∈ adjT W n l x → y < n := fun _ _ _ h => adjT_lt h
theorem adjT_le (W n : Nat) (l : List Bool) (a : Nat) : (adjT W n l a).length ≤ n := by
  unfold adjT; exact Nat.le_trans (List.length_filter_le _ _) (by simp)
theorem hdB_iff {W n : Nat} {l : List Bool} {a b : Nat} (ha : a < n) (hb : b < n) : hdB W n l a b = true ↔ Wy (adjT W n l) a b := by
  unfold hdB
  rw [decide_eq_true_eq]
  constructor
  · intro h
    refine rch_in ha hb (M := fun x => Wy (adjT W n l) a x) (fun c hc hw x hx ho => ?_) (.refl a) h
    exact Wy.trans hw (.one (mem_adjT.2 ⟨hx, ho⟩))
  · intro h
    have hcl := rch_cl (W := W) l ha
    exact (h.closed (p := fun x => x < n ∧ Rch W n l a x) (fun x y hx hy => by
      obtain ⟨h1, h2⟩ := mem_adjT.1 hy
      exact ⟨h1, hcl x hx.1 hx.2 y h1 h2⟩) ⟨ha, rch_self l ha⟩).2
def PL (W n : Nat) (l : List Bool) : List (List Nat) := lsP (hdB W n l) n n fun _ => false
def PV (ps : List (List Nat)) : AVal := .list true ps.isEmpty ps.length (rowsC ps)
def nxV (o : Option Nat) : Int := match o with
  | none => -1
  | some p => (p : Int)
theorem fI_const (n : Nat) (v : Int) : fI n (fun _ => v) = List.replicate n v := by
  rw [List.eq_replicate_iff]
  exact ⟨fI_len _ _, fun x hx => by obtain ⟨_, _, rfl⟩ := List.mem_map.1 hx; rfl⟩
theorem LL_fr (k : Nat) (rs : List (List Int)) : ∀ x, x ∈ LL rs → allFresh (k + 2) x = true := by
  intro x hx
  obtain ⟨r, _, rfl⟩ := List.mem_map.1 hx
  simp [allFresh, ints_fresh]
def fL (m : Nat) (g : Nat → List Nat) : List (List Int) := (List.range m).map fun q => nI (g q)
theorem fL_len (m : Nat) (g : Nat → List Nat) : (fL m g).length = m := by simp [fL]
theorem fL_get {m : Nat} {g : Nat → List Nat} {q : Nat} (h : q < m) : (fL m g).getD q [] = nI (g q) := by simp [fL, List.getD_eq_getElem?_getD, h]
theorem fL_set {m : Nat} {g : Nat → List Nat} {q : Nat} (v : List Nat) : (fL m g).set q (nI v) = fL m (updN g q v) := by
  refine List.ext_getElem (by simp [fL]) fun i h1 h2 => ?_
  rw [List.getElem_set]
  simp only [fL, List.getElem_map, List.getElem_range]
  by_cases h : q = i
  · rw [if_pos h, h, updN_same]
  · rw [if_neg h, updN_other _ _ (fun e => h e.symm)]
theorem fL_nil (m : Nat) : fL m (fun _ => []) = List.replicate m [] := by
  rw [List.eq_replicate_iff]
  exact ⟨fL_len _ _, fun x hx => by obtain ⟨_, _, rfl⟩ := List.mem_map.1 hx; rfl⟩
section
variable {o0 o1 o2 o3 o4 o5 o6 o7 : AObj} {rs : List (List Int)} {tl : List AObj}
theorem h8_at {a : Nat} (ha : a < rs.length) : (o0 :: o1 :: o2 :: o3 :: o4 :: o5 :: o6 :: o7 :: (gos rs ++ tl))[8 + a]? = some (go 3 (ints (rs.getD a []))) := by
  rw [show 8 + a = a + 8 by omega]
  simp only [List.getElem?_cons_succ]
  rw [List.getElem?_append_left (by rw [gos_len]; exact ha)]
  exact gos_at ha
theorem h8_set {a : Nat} (ha : a < rs.length) (r : List Int) : (o0 :: o1 :: o2 :: o3 :: o4 :: o5 :: o6 :: o7 :: (gos rs ++ tl)).set (8 + a) (go 3 (ints r)) = o0 :: o1 :: o2 :: o3 :: o4 :: o5 :: o6 :: o7 :: (gos (rs.set a r) ++ tl) := by
  rw [show 8 + a = a + 8 by omega]
  simp only [List.set_cons_succ]
  rw [List.set_append_left _ _ (by rw [gos_len]; exact ha), gos_set]
theorem h8_tl {m k : Nat} (hm : rs.length = m) : (o0 :: o1 :: o2 :: o3 :: o4 :: o5 :: o6 :: o7 :: (gos rs ++ tl))[8 + m + k]? = tl[k]? := by
  rw [show 8 + m + k = m + k + 8 by omega]
  simp only [List.getElem?_cons_succ]
  rw [List.getElem?_append_right (by rw [gos_len]; omega), gos_len, hm, Nat.add_sub_cancel_left]
theorem h8_stl {m k : Nat} (hm : rs.length = m) (o : AObj) : (o0 :: o1 :: o2 :: o3 :: o4 :: o5 :: o6 :: o7 :: (gos rs ++ tl)).set (8 + m + k) o = o0 :: o1 :: o2 :: o3 :: o4 :: o5 :: o6 :: o7 :: (gos rs ++ tl.set k o) := by
  rw [show 8 + m + k = m + k + 8 by omega]
  simp only [List.set_cons_succ]
  rw [List.set_append_right _ _ (by rw [gos_len]; omega), gos_len, hm, Nat.add_sub_cancel_left]
end
theorem argOf_gwI {h : List AObj} {k e m : Nat} {l : List Int} (ho : h[k]? = some (go e (ints l))) : argOf h (m + 2) (gw true k (ints l)) = LA l.isEmpty l := by
  rw [argOf_gw, ho, gaA_go, ints_length, ints_arg]
  have : (ints l).isEmpty = l.isEmpty := by cases l <;> rfl
  rw [this]; rfl
theorem mem_nI {l : List Nat} {x : Nat} : (x : Int) ∈ nI l ↔ x ∈ l := by
  unfold nI
  rw [List.mem_map]
  constructor
  · rintro ⟨y, h1, h2⟩
    have : y = x := by omega
    exact this ▸ h1
  · intro h; exact ⟨x, h, rfl⟩
def fB (m : Nat) (D : Nat → Bool) : List Bool := (List.range m).map D
theorem fB_len (m : Nat) (D : Nat → Bool) : (fB m D).length = m := by simp [fB]
theorem fB_get {m : Nat} {D : Nat → Bool} {p : Nat} (h : p < m) : (fB m D).getD p false = D p := by simp [fB, List.getD_eq_getElem?_getD, h]
theorem fB_set {m : Nat} {D : Nat → Bool} {p : Nat} (v : Bool) : (fB m D).set p v = fB m (updN D p v) := by
  refine List.ext_getElem (by simp [fB]) fun i h1 h2 => ?_
  rw [List.getElem_set]
  simp only [fB, List.getElem_map, List.getElem_range]
  by_cases h : p = i
  · rw [if_pos h, h, updN_same]
  · rw [if_neg h, updN_other _ _ (fun e => h e.symm)]
theorem fB_none (m : Nat) : fB m (fun _ => false) = List.replicate m false := by
  rw [List.eq_replicate_iff]
  exact ⟨fB_len _ _, fun x hx => by obtain ⟨_, _, rfl⟩ := List.mem_map.1 hx; rfl⟩
theorem rowsC_at {ps : List (List Nat)} {i : Nat} (h : i < ps.length) : ((rowsC ps).drop i)[0]? = some (LR false (nI (ps.getD i []))) := by
  rw [List.getElem?_drop, Nat.add_zero, rowsC, List.getElem?_map, List.getElem?_eq_getElem h, List.getD_eq_getElem?_getD, List.getElem?_eq_getElem h]; rfl
section
variable {o0 o1 o2 o3 o4 o5 o6 o7 : AObj} {rs : List (List Int)} {tl : List AObj} {m : Nat}
theorem h8_t0 (hm : rs.length = m) : (o0 :: o1 :: o2 :: o3 :: o4 :: o5 :: o6 :: o7 :: (gos rs ++ tl))[m + 8]? = tl[0]? := by
  rw [show m + 8 = 8 + m + 0 by omega]; exact h8_tl hm
theorem h8_t1 (hm : rs.length = m) : (o0 :: o1 :: o2 :: o3 :: o4 :: o5 :: o6 :: o7 :: (gos rs ++ tl))[m + 9]? = tl[1]? := by
  rw [show m + 9 = 8 + m + 1 by omega]; exact h8_tl hm
theorem h8_s0 (hm : rs.length = m) (o : AObj) : (o0 :: o1 :: o2 :: o3 :: o4 :: o5 :: o6 :: o7 :: (gos rs ++ tl)).set (m + 8) o = o0 :: o1 :: o2 :: o3 :: o4 :: o5 :: o6 :: o7 :: (gos rs ++ tl.set 0 o) := by
  rw [show m + 8 = 8 + m + 0 by omega]; exact h8_stl hm o
theorem h8_s1 (hm : rs.length = m) (o : AObj) : (o0 :: o1 :: o2 :: o3 :: o4 :: o5 :: o6 :: o7 :: (gos rs ++ tl)).set (m + 9) o = o0 :: o1 :: o2 :: o3 :: o4 :: o5 :: o6 :: o7 :: (gos rs ++ tl.set 1 o) := by
  rw [show m + 9 = 8 + m + 1 by omega]; exact h8_stl hm o
end
theorem hdL_nI {q : List Nat} (h : 0 < q.length) : (nI q).getD 0 0 = (hdL q : Int) := by
  cases q with
  | nil => simp at h
  | cons a t => rfl
theorem rowsC_res (h : List AObj) (n : Nat) (ps : List (List Nat)) : (rowsC ps).map (resOf h (n + 2)) = rowsC ps := by
  unfold rowsC
  rw [List.map_map]
  refine List.map_congr_left fun l _ => ?_
  simp [resOf, resOf_list, ints_res]
theorem abv_len (W n : Nat) (l : List Bool) : (abv W n l).length = n := by simp [abv]
set_option maxHeartbeats 1000000 in
theorem partsP_c {W H n : Nat} (hN : W + H = n) (hW0 : 0 < W) (hH0 : 0 < H) (hn64 : n ≤ 64) (b : Bool) {l : List Bool} (hn : l.length = W * H) : Contract Tryz.prog 63 [GA W H b l] (PV (PL W n l)) := by
  have hab := aboveP_c hN hW0 hH0 (by omega) (by omega) b hn
  have hNi : ((W : Int) + (H : Int)).toNat = n := by omega
  have hNc : (W : Int) + (H : Int) = (n : Int) := by omega
  have hrl := abv_len W n l
  have hrow : ∀ a, a < n → (abv W n l).getD a [] = nI (adjT W n l a) := fun a ha => abv_adj ha
  have hS := tAll_scc (ov := adjT W n l) (n := n) adjT_in
  have hinv := tAll_inv (ov := adjT W n l) (n := n) adjT_in
  refine Contract.intro (effS [73] false [1] [0] [] (fun _ => true) [] [73]) 6 follows Tryz.func63 rfl rfl (by kernel_rfl) (Nat.le_of_ble_eq_true rfl) ?_
  refine zx1 @hNc ?_
  refine callK_F 6 hab (by simp (disch := first | assumption | omega | rfl | simp only [RH]) only [↓RP, RZ, ↓reduceIte, Nat.reduceEqDiff, reduceCtorEq, Nat.reduceBEq, Nat.reduceAdd, Nat.reduceLeDiff, RA] <;> rfl) (.inl (by simp [allFresh]; exact LL_fr 3 _)) ?_
  refine zx3 @make_int @hNi @hNc ?_
  refine callK_M (o := ⟨3, 1, ints (List.replicate n (-1))⟩) (fun k => .ref k 0 n n) (.ref 0 n n) rfl rfl (fun h2 => repeat_s h2 (by omega) (by omega)) ?_ (by simp) (fun x hx => by
    simp only [ints, List.mem_map] at hx
    obtain ⟨u, _, rfl⟩ := hx
    exact ⟨_, rfl⟩)
  refine zs ?_
  refine loopK_WW [3, 4, 35, 36] (fun a : Nat => a ≤ n) (fun a => ⟨[(3, I n), (4, .ptr 3 0 7), (35, I n), (36, I a)], FS (abv W n l) n (tAll (adjT W n l) n a)⟩) (fun a => n - a) 0 (by omega) ?_ ?_
  · simp only [↓RP, RG, FX, RQ, ↓reduceIte, Nat.reduceEqDiff, reduceCtorEq, Nat.reduceBEq, Nat.reduceAdd, Nat.reduceLeDiff]
    have e : FS (abv W n l) n (tAll (adjT W n l) n 0) = [⟨3, 1, ints (List.replicate n 0)⟩, ⟨3, 1, ints (List.replicate n 0)⟩, ⟨3, 1, ints (List.replicate n (-1))⟩, ⟨114, 7, [.list true false n (LL (abv W n l)), .ref 0 0 n n, .ref 1 0 n n, .ref 2 0 n n, .res 4, I 0, .res 5]⟩, ⟨0, 0, []⟩, ⟨0, 0, []⟩] := by
      rw [← fI_const, ← fI_const]; rfl
    rw [e]
    exact Wk.weak (fun t => .refl _) (.cons _ _ _ _ (WL.refl _) (.cons _ _ _ _ (WL.refl _) (.cons _ _ _ _ (WL.refl _) (.cons _ _ _ _ (.cons (.refl _) (.cons (.refl _) (.cons (.refl _) (.cons (.refl _) (.cons (.nil _) (.cons (.refl _) (.cons (.nil _) .nil))))))) (.nil _ (by simp))))))
  intro a ha
  obtain ⟨s, hs⟩ : ∃ s, tAll (adjT W n l) n a = s := ⟨_, rfl⟩
  have hsi := (hinv a ha).1
  rw [hs] at hsi
  simp only [hs]
  have m1 := fI_len n fun x => (s.ix x : Int)
  by_cases hlt : a < n
  · have gix : (fI n fun x => (s.ix x : Int)).getD a 0 = (s.ix a : Int) := fI_get hlt
    by_cases h0 : s.ix a = 0
    · have hnx : tAll (adjT W n l) n (a + 1) = tVis (adjT W n l) n s a := by
        show (if (tAll (adjT W n l) n a).ix a = 0 then _ else _) = _
        rw [hs, if_pos h0]
      have hg0 : (fI n fun x => (s.ix x : Int)).getD a 0 = 0 := by rw [gix, h0]; rfl
      unfold FS
      refine zx1 @hg0 ?_
      refine callK_T rfl (visit_s (by omega) hrl hrow (fun a _ => adjT_le W n l a) adjT_in n s [] a hsi hlt h0 (fun g hg => by cases hg) (by have := hsi.mtc; omega)) ?_
      refine zs ?_
      exact ⟨a + 1, hlt, Wk.of_eq (by rw [hnx]; rfl), by omega⟩
    · have hnx : tAll (adjT W n l) n (a + 1) = s := by
        show (if (tAll (adjT W n l) n a).ix a = 0 then _ else _) = _
        rw [hs, if_neg h0]
      have hg0 : ¬ (fI n fun x => (s.ix x : Int)).getD a 0 = 0 := by rw [gix]; omega
      unfold FS
      refine zs ?_
      exact ⟨a + 1, hlt, Wk.of_eq (by rw [hnx]; rfl), by omega⟩
  obtain rfl : n = a := by omega
  rw [hs] at hS
  have hpl : s.ps.length ≤ n := hS.len_le
  unfold FS
  obtain ⟨m, hm⟩ : ∃ m, s.ps.length = m := ⟨_, rfl⟩
  rw [hm] at hpl
  have hgs : gS (some (go 47 (rowsC s.ps))) (rowsC s.ps) = some (m, rowsC s.ps) := by rw [gS_go]; simp [rowsC, hm]
  have hmi : ((m : Nat) : Int).toNat = m := Int.toNat_natCast m
  have hcell : ofCell (.slice none 0 0) = .cap0 true := rfl
  obtain ⟨P, hP⟩ : ∃ P : Nat → Nat, P = fun x => (s.pt x).toNat := ⟨_, rfl⟩
  obtain ⟨hF, hFn, hO⟩ := gAll_lies hS (m := m) hm.symm adjT_in (fun a _ => adjT_le W n l a)
  rw [← hP] at hF hFn hO
  have hPm : ∀ x, x < n → P x < m := fun x hx => by
    have h0 := hS.all x hx
    obtain ⟨l', h1, _⟩ := (hS.p1 x (s.pt x).toNat).1 (by omega)
    have := (List.getElem?_eq_some_iff.1 h1).1
    rw [hP]; simp only []; omega
  have hPt : ∀ x, x < n → s.pt x = (P x : Int) := fun x hx => by
    have h0 := hS.all x hx
    rw [hP]; simp only []; omega
  have hgi := gAt_inv (P := P) (n := n) (m := m) hPm adjT_in (fun a _ => adjT_le W n l a)
  simp (disch := first | assumption | omega | rfl | simp only [RH]) only [↓RP, RZ, ↓reduceIte, Nat.reduceEqDiff, reduceCtorEq, Nat.reduceBEq, Nat.reduceAdd, Nat.reduceLeDiff, sview_gw, hgs, make_int, make_one, hmi, hcell, ovV]
  generalize (⟨3, 1, ints (fI n fun x => (s.ix x : Int))⟩ : AObj) = o0
  generalize (⟨3, 1, ints (fI n fun x => (s.lo x : Int))⟩ : AObj) = o1
  generalize stO s.st s.jk = o4
  generalize stV 4 s.st s.jk = x4
  refine loopK_WW [3, 4, 6, 7, 57, 58, 59] (fun a : Nat => a ≤ n) (fun a => ⟨[(3, I n), (4, .ptr 3 0 7), (6, .ref 6 0 m m), (7, .ref 7 0 m m), (57, .list true false n (LL (abv W n l))), (58, I n), (59, I a)], o0 :: o1 :: ⟨3, 1, ints (fI n s.pt)⟩ :: ⟨114, 7, [.list true false n (LL (abv W n l)), .ref 0 0 n n, .ref 1 0 n n, .ref 2 0 n n, x4, I s.mt, gw true 5 (rowsC s.ps)]⟩ :: o4 :: go 47 (rowsC s.ps) :: ⟨3, 1, ints (fI m fun p => ((gAll (adjT W n l) P a).w p : Int))⟩ :: ⟨47, 1, gws 8 (fL m (gAll (adjT W n l) P a).f)⟩ :: (gos (fL m (gAll (adjT W n l) P a).f) ++ [])⟩) (fun a => n - a) 0 (by omega) ?_ ?_
  · simp only [↓RP, RG, FX, RQ, ↓reduceIte, Nat.reduceEqDiff, reduceCtorEq, Nat.reduceBEq, Nat.reduceAdd, Nat.reduceLeDiff]
    have e1 : (fI m fun p => ((gAll (adjT W n l) P 0).w p : Int)) = List.replicate m 0 := fI_const m 0
    have e2 : fL m (gAll (adjT W n l) P 0).f = List.replicate m [] := fL_nil m
    rw [e1, e2]
    exact Wk.weak (fun t => .refl _) (.app [o0, o1, _, _, o4, _, _] (.cons _ _ _ _ (WL_gws 8 m) (.nil _ (gos_nil m))))
  intro a ha
  by_cases hlt : a < n
  · have hra := LL_at (rs := abv W n l) (a := a) (by omega)
    rw [hrow a hlt] at hra
    have hal := adjT_le W n l a
    have hai : (nI (adjT W n l a)).length = (adjT W n l a).length := nI_len _
    refine zx1 @hra ?_
    refine loopK_I [3, 4, 6, 7, 8, 57, 58, 59, 64, 65, 66] (fun j : Nat => j ≤ (adjT W n l a).length) (fun j => ⟨[(3, I n), (4, .ptr 3 0 7), (6, .ref 6 0 m m), (7, .ref 7 0 m m), (8, I a), (57, .list true false n (LL (abv W n l))), (58, I n), (59, I a), (64, LR (nI (adjT W n l a)).isEmpty (nI (adjT W n l a))), (65, I (adjT W n l a).length), (66, I j)], o0 :: o1 :: ⟨3, 1, ints (fI n s.pt)⟩ :: ⟨114, 7, [.list true false n (LL (abv W n l)), .ref 0 0 n n, .ref 1 0 n n, .ref 2 0 n n, x4, I s.mt, gw true 5 (rowsC s.ps)]⟩ :: o4 :: go 47 (rowsC s.ps) :: ⟨3, 1, ints (fI m fun p => ((gRow (adjT W n l) P a (gAll (adjT W n l) P a) j).w p : Int))⟩ :: ⟨47, 1, gws 8 (fL m (gRow (adjT W n l) P a (gAll (adjT W n l) P a) j).f)⟩ :: (gos (fL m (gRow (adjT W n l) P a (gAll (adjT W n l) P a) j).f) ++ [])⟩) (fun j => (adjT W n l a).length - j) 0 (by omega) (by simp only [↓RP, RG, FX, RQ, ↓reduceIte, Nat.reduceEqDiff, reduceCtorEq, Nat.reduceBEq, Nat.reduceAdd, Nat.reduceLeDiff, hai]; rw [gRow_zero]; rfl) ?_
    intro j hj
    by_cases hlt2 : j < (adjT W n l a).length
    · obtain ⟨c, hc⟩ : ∃ c, (adjT W n l a)[j]? = some c := ⟨_, List.getElem?_eq_getElem hlt2⟩
      have hcn : c < n := adjT_lt (List.mem_of_getElem? hc)
      have hgc : (nI (adjT W n l a)).getD j 0 = (c : Int) := by simp [nI, List.getD_eq_getElem?_getD, hc]
      obtain ⟨_, hbd⟩ := (hgi a ha).2 hlt j hj
      have hnx := gRow_succ (P := P) (s := gAll (adjT W n l) P a) hc
      generalize gRow (adjT W n l) P a (gAll (adjT W n l) P a) j = t at *
      have hsq : a * n + j ≤ 64 * 64 + 64 := by
        have : a * n ≤ 64 * 64 := Nat.mul_le_mul (by omega) (by omega)
        omega
      have m3 := fI_len n s.pt
      have m4 := fI_len m fun p => (t.w p : Int)
      have gpa : (fI n s.pt).getD a 0 = (P a : Int) := by rw [fI_get hlt, hPt a hlt]
      have gpc : (fI n s.pt).getD c 0 = (P c : Int) := by rw [fI_get hcn, hPt c hcn]
      have hpa := hPm a hlt
      have hpc := hPm c hcn
      have gwp : (fI m fun p => (t.w p : Int)).getD (P a) 0 = (t.w (P a) : Int) := fI_get hpa
      have hwb := (hbd (P a)).2
      have hfb := (hbd (P c)).1
      have hfl := fL_len m t.f
      have gl : (gws 8 (fL m t.f)).length = m := by rw [gws_len, hfl]
      have a1 := gws_at (k := 8) (rs := fL m t.f) (a := P c) (by omega)
      rw [fL_get hpc] at a1
      by_cases hpq : P a = P c
      · have hst : gStep t (P a) (P c) = t := by unfold gStep; rw [if_neg (fun h => h.1 hpq)]
        rw [hst] at hnx
        have hpq2 : (P a : Int) = (P c : Int) := by omega
        refine zx3 @hgc @gpa @gpc ?_
        exact ⟨j + 1, hlt2, by rw [hnx]; rfl, by omega⟩
      · have hpq2 : ¬ (P a : Int) = (P c : Int) := by omega
        have oh := h8_at (o0 := o0) (o1 := o1) (o2 := ⟨3, 1, ints (fI n s.pt)⟩) (o3 := ⟨114, 7, [.list true false n (LL (abv W n l)), .ref 0 0 n n, .ref 1 0 n n, .ref 2 0 n n, x4, I s.mt, gw true 5 (rowsC s.ps)]⟩) (o4 := o4) (o5 := go 47 (rowsC s.ps)) (o6 := ⟨3, 1, ints (fI m fun p => (t.w p : Int))⟩) (o7 := ⟨47, 1, gws 8 (fL m t.f)⟩) (rs := fL m t.f) (tl := []) (a := P c) (by omega)
        rw [fL_get hpc, List.append_nil] at oh
        have hct := contains_c (nI (t.f (P c))).isEmpty (nI (t.f (P c))) (P a) (by rw [nI_len]; omega)
        by_cases hin : P a ∈ t.f (P c)
        · have hst : gStep t (P a) (P c) = t := by unfold gStep; rw [if_neg (fun h => h.2 hin)]
          rw [hst] at hnx
          rw [decide_eq_true (mem_nI.2 hin)] at hct
          refine zx5 @hgc @gpa @gpc @cA_any @a1 ?_
          refine callK_F 6 hct (by simp only [List.map_cons, List.map_nil]; rw [argOf_gwI oh]; rfl) (.inl rfl) ?_
          refine zs ?_
          exact ⟨j + 1, hlt2, by rw [hnx]; rfl, by omega⟩
        · have hst : gStep t (P a) (P c) = ⟨updN t.w (P a) (t.w (P a) + 1), updN t.f (P c) (t.f (P c) ++ [P a])⟩ := by unfold gStep; rw [if_pos ⟨hpq, hin⟩]
          rw [hst] at hnx
          rw [decide_eq_false (fun h => hin (mem_nI.1 h))] at hct
          have hil : (nI (t.f (P c))).length ≤ 1000000000 := by rw [nI_len]; omega
          have t1 : ∀ p0 p1 p2 p3 p4 p5 p6 p7 : AObj, (p0 :: p1 :: p2 :: p3 :: p4 :: p5 :: p6 :: p7 :: gos (fL m t.f)).set (8 + P c) (go 3 (ints (nI (t.f (P c)) ++ [(P a : Int)]))) = p0 :: p1 :: p2 :: p3 :: p4 :: p5 :: p6 :: p7 :: gos (fL m (updN t.f (P c) (t.f (P c) ++ [P a]))) := fun p0 p1 p2 p3 p4 p5 p6 p7 => by
            have := h8_set (o0 := p0) (o1 := p1) (o2 := p2) (o3 := p3) (o4 := p4) (o5 := p5) (o6 := p6) (o7 := p7) (rs := fL m t.f) (tl := []) (a := P c) (by omega) (nI (t.f (P c)) ++ [(P a : Int)])
            rw [List.append_nil, List.append_nil] at this
            rw [this, ← fL_set, nI_app2]; rfl
          have p1 : (gws 8 (fL m t.f)).set (P c) (gw true (8 + P c) (ints (nI (t.f (P c)) ++ [(P a : Int)]))) = gws 8 (fL m (updN t.f (P c) (t.f (P c) ++ [P a]))) := by
            rw [gws_set, ← fL_set, nI_app2]; rfl
          have e1 : (fI m fun p => (t.w p : Int)).set (P a) ((t.w (P a) : Int) + 1) = fI m fun p => ((updN t.w (P a) (t.w (P a) + 1) p : Nat) : Int) := by
            rw [fI_set, show (t.w (P a) : Int) + 1 = ((t.w (P a) + 1 : Nat) : Int) by omega, upd_cast]
          refine zx5 @hgc @gpa @gpc @cA_any @a1 ?_
          refine callK_F 6 hct (by simp only [List.map_cons, List.map_nil]; rw [argOf_gwI oh]; rfl) (.inl rfl) ?_
          simp (disch := first | assumption | omega | rfl | simp only [RH]) only [↓RP, RZ, ↓reduceIte, Nat.reduceEqDiff, reduceCtorEq, Nat.reduceBEq, Nat.reduceAdd, Nat.reduceLeDiff, cA_any, a1, sX_gw, append_int, t1, p1, gwp, e1]
          exact ⟨j + 1, hlt2, by rw [hnx]; rfl, by omega⟩
    · obtain rfl : (adjT W n l a).length = j := by omega
      refine zs ?_
      exact ⟨a + 1, hlt, Wk.of_eq rfl, by omega⟩
  obtain rfl : n = a := by omega
  have hrc : (rowsC s.ps).length = m := by simp [rowsC, hm]
  obtain ⟨F, hFe⟩ : ∃ F, (gAll (adjT W n l) P n).f = F := ⟨_, rfl⟩
  obtain ⟨w0, hwe⟩ : ∃ w0, (gAll (adjT W n l) P n).w = w0 := ⟨_, rfl⟩
  rw [hFe, hwe] at hO
  rw [hFe] at hF hFn
  simp only [hFe, hwe]
  have hgl : (gos (fL m F)).length = m := by rw [gos_len, fL_len]
  refine zx4 @make_bool @hrc @hgl @hmi ?_
  have hhd : ∀ a b, a < n → b < n → (hdB W n l a b = true ↔ Wy (adjT W n l) a b) := fun a b ha hb => hdB_iff ha hb
  have hoi := oAt_inv hS hhd hF hFn hO
  have hfin := oAt_all hS hhd hF hFn hO
  rw [hm] at hoi hfin
  have gl : (gws 8 (fL m F)).length = m := by rw [gws_len, fL_len]
  have fl := fL_len m F
  have t8 : ∀ (p0 p1 p2 p3 p4 p5 p6 p7 : AObj) (tl : List AObj), (p0 :: p1 :: p2 :: p3 :: p4 :: p5 :: p6 :: p7 :: (gos (fL m F) ++ tl))[m + 8]? = tl[0]? := fun _ _ _ _ _ _ _ _ _ => h8_t0 fl
  have t9 : ∀ (p0 p1 p2 p3 p4 p5 p6 p7 : AObj) (tl : List AObj), (p0 :: p1 :: p2 :: p3 :: p4 :: p5 :: p6 :: p7 :: (gos (fL m F) ++ tl))[m + 9]? = tl[1]? := fun _ _ _ _ _ _ _ _ _ => h8_t1 fl
  have s8 : ∀ (p0 p1 p2 p3 p4 p5 p6 p7 o : AObj) (tl : List AObj), (p0 :: p1 :: p2 :: p3 :: p4 :: p5 :: p6 :: p7 :: (gos (fL m F) ++ tl)).set (m + 8) o = p0 :: p1 :: p2 :: p3 :: p4 :: p5 :: p6 :: p7 :: (gos (fL m F) ++ tl.set 0 o) := fun _ _ _ _ _ _ _ _ _ _ => h8_s0 fl _
  have s9 : ∀ (p0 p1 p2 p3 p4 p5 p6 p7 o : AObj) (tl : List AObj), (p0 :: p1 :: p2 :: p3 :: p4 :: p5 :: p6 :: p7 :: (gos (fL m F) ++ tl)).set (m + 9) o = p0 :: p1 :: p2 :: p3 :: p4 :: p5 :: p6 :: p7 :: (gos (fL m F) ++ tl.set 1 o) := fun _ _ _ _ _ _ _ _ _ _ => h8_s1 fl _
  have hpos : ∀ i, i < m → 0 < (s.ps.getD i []).length := fun i hi => by
    rw [List.getD_eq_getElem?_getD, List.getElem?_eq_getElem (by omega), Option.getD_some]
    exact List.length_pos_iff.2 (hS.p2 _ (List.getElem_mem _)).1
  refine loopK_WW [4, 6, 7, 14, 15, 116, 117] (fun k : Nat => k ≤ m) (fun k => ⟨[(4, .ptr 3 0 7), (6, .ref 6 0 m m), (7, .ref 7 0 m m), (14, gw true (m + 9) (rowsC (oAt s.ps F w0 k).out)), (15, .ref (m + 8) 0 m m), (116, I m), (117, I k)], o0 :: o1 :: ⟨3, 1, ints (fI n s.pt)⟩ :: ⟨114, 7, [.list true false n (LL (abv W n l)), .ref 0 0 n n, .ref 1 0 n n, .ref 2 0 n n, x4, I s.mt, gw true 5 (rowsC s.ps)]⟩ :: o4 :: go 47 (rowsC s.ps) :: ⟨3, 1, ints (fI m fun p => (((oAt s.ps F w0 k).w) p : Int))⟩ :: ⟨47, 1, gws 8 (fL m F)⟩ :: (gos (fL m F) ++ [⟨4, 1, bools (fB m ((oAt s.ps F w0 k).D))⟩, go 47 (rowsC ((oAt s.ps F w0 k).out))])⟩) (fun k => m - k) 0 (by omega) ?_ ?_
  · simp only [↓RP, RG, FX, RQ, ↓reduceIte, Nat.reduceEqDiff, reduceCtorEq, Nat.reduceBEq, Nat.reduceAdd, Nat.reduceLeDiff]
    rw [← fB_none]
    refine Wk.weak (WE.cons _ (.refl _) (WE.cons _ (.refl _) (WE.cons _ (.refl _) (WE.cons _ (.nil _) (WE.cons _ (.refl _) (WE.cons _ (.refl _) (WE.cons _ (.refl _) WE.nil))))))) ?_
    have h9 := WO.app (o0 :: o1 :: ⟨3, 1, ints (fI n s.pt)⟩ :: ⟨114, 7, [.list true false n (LL (abv W n l)), .ref 0 0 n n, .ref 1 0 n n, .ref 2 0 n n, x4, I s.mt, gw true 5 (rowsC s.ps)]⟩ :: o4 :: go 47 (rowsC s.ps) :: ⟨3, 1, ints (fI m fun p => ((w0) p : Int))⟩ :: ⟨47, 1, gws 8 (fL m F)⟩ :: (gos (fL m F) ++ [⟨4, 1, bools (fB m (fun _ => false))⟩])) (r := []) (r' := [go 47 (rowsC [])]) (.nil _ (by simp [go, rowsC]))
    simp only [List.cons_append, List.append_assoc, List.nil_append, List.append_nil] at h9
    exact h9
  intro k hk
  obtain ⟨hok, hol, _⟩ := hoi k hk
  obtain ⟨O, hO'⟩ : ∃ O, oAt s.ps F w0 k = O := ⟨_, rfl⟩
  rw [hO'] at hok hol
  simp only [hO']
  have m5 := fI_len m fun p => (O.w p : Int)
  have m6 := fB_len m O.D
  by_cases hlt : k < m
  · obtain ⟨p, hp⟩ := hok.some hS hF (by omega)
    rw [hm] at hp
    obtain ⟨hpm, _, _⟩ := bstP_some hp
    have hnx : oAt s.ps F w0 (k + 1) = ⟨wDec O.w (F p), updN O.D p true, O.out ++ [s.ps.getD p []]⟩ := by
      show oStep s.ps F (oAt s.ps F w0 k) = _
      rw [hO']
      unfold oStep
      rw [hm, hp]
    refine zx2 @sview_gw @hgs ?_
    refine loopK_I [4, 6, 7, 14, 15, 16, 116, 117, 121, 122] (fun i : Nat => i ≤ m) (fun i => ⟨[(4, .ptr 3 0 7), (6, .ref 6 0 m m), (7, .ref 7 0 m m), (14, gw true (m + 9) (rowsC O.out)), (15, .ref (m + 8) 0 m m), (16, I (nxV (bstP s.ps (cdW O.w O.D) i))), (116, I m), (117, I k), (121, I m), (122, I i)], o0 :: o1 :: ⟨3, 1, ints (fI n s.pt)⟩ :: ⟨114, 7, [.list true false n (LL (abv W n l)), .ref 0 0 n n, .ref 1 0 n n, .ref 2 0 n n, x4, I s.mt, gw true 5 (rowsC s.ps)]⟩ :: o4 :: go 47 (rowsC s.ps) :: ⟨3, 1, ints (fI m fun p => ((O.w) p : Int))⟩ :: ⟨47, 1, gws 8 (fL m F)⟩ :: (gos (fL m F) ++ [⟨4, 1, bools (fB m (O.D))⟩, go 47 (rowsC (O.out))])⟩) (fun i => m - i) 0 (by omega) (by simp only [↓RP, RG, FX, RQ, ↓reduceIte, Nat.reduceEqDiff, reduceCtorEq, Nat.reduceBEq, Nat.reduceAdd, Nat.reduceLeDiff, hrc]; rfl) ?_
    intro i hi
    by_cases hlt2 : i < m
    · have gdi : (fB m O.D).getD i false = O.D i := fB_get hlt2
      have gwi : (fI m fun p => (O.w p : Int)).getD i 0 = (O.w i : Int) := fI_get hlt2
      have hbs : bstP s.ps (cdW O.w O.D) (i + 1) = if (cdW O.w O.D i && btr s.ps (bstP s.ps (cdW O.w O.D) i) i) = true then some i else bstP s.ps (cdW O.w O.D) i := rfl
      have hcdd : cdW O.w O.D i = (!O.D i && decide (O.w i = 0)) := rfl
      obtain ⟨B, hB⟩ : ∃ B, bstP s.ps (cdW O.w O.D) i = B := ⟨_, rfl⟩
      rw [hB] at hbs
      simp only [hB]
      by_cases hd : O.D i = true
      · have hnx2 : bstP s.ps (cdW O.w O.D) (i + 1) = B := by rw [hbs, hcdd, hd]; rfl
        have gd : (fB m O.D).getD i false = true := by rw [gdi, hd]
        refine zx2 @t8 @gd ?_
        exact ⟨i + 1, hlt2, by rw [hnx2]; rfl, by omega⟩
      · have hd' : O.D i = false := by simpa using hd
        have gd : (fB m O.D).getD i false = false := by rw [gdi, hd']
        by_cases hw : O.w i = 0
        · have hw2 : (fI m fun p => (O.w p : Int)).getD i 0 = 0 := by rw [gwi, hw]; rfl
          have hcd : cdW O.w O.D i = true := by rw [hcdd, hd', hw]; rfl
          have hri := rowsC_at (ps := s.ps) (i := i) (by omega)
          cases B with
          | none =>
            have hnx2 : bstP s.ps (cdW O.w O.D) (i + 1) = some i := by rw [hbs, hcd]; rfl
            simp only [nxV]
            refine zx3 @t8 @gd @hw2 ?_
            exact ⟨i + 1, hlt2, by rw [hnx2]; rfl, by omega⟩
          | some p' =>
            obtain ⟨hpi, _, _⟩ := bstP_some hB
            have hrp := rowsC_at (ps := s.ps) (i := p') (by omega)
            have hni := hpos i (by omega)
            have hnp := hpos p' (by omega)
            have hgi2 := hdL_nI hni
            have hgp2 := hdL_nI hnp
            have hz0 : Int.toNat 0 = 0 := rfl
            have hli : (nI (s.ps.getD i [])).length = (s.ps.getD i []).length := nI_len _
            have hlp : (nI (s.ps.getD p' [])).length = (s.ps.getD p' []).length := nI_len _
            by_cases hc : hdL (s.ps.getD i []) < hdL (s.ps.getD p' [])
            · have hnx2 : bstP s.ps (cdW O.w O.D) (i + 1) = some i := by
                rw [hbs, hcd, if_pos]
                simp only [btr, Bool.true_and, decide_eq_true_eq]; exact hc
              simp only [nxV]
              generalize s.ps.getD i [] = qi at *
              generalize s.ps.getD p' [] = qp at *
              simp (disch := first | assumption | omega | rfl | simp only [RH]) only [↓RP, RZ, ↓reduceIte, Nat.reduceEqDiff, reduceCtorEq, Nat.reduceBEq, Nat.reduceAdd, Nat.reduceLeDiff, t8, gd, hw2, hri, hrp, hgi2, hgp2, hz0, sview_gw, hgs]
              exact ⟨i + 1, hlt2, by rw [hnx2]; rfl, by omega⟩
            · have hnx2 : bstP s.ps (cdW O.w O.D) (i + 1) = some p' := by
                rw [hbs, hcd, if_neg]
                simp only [btr, Bool.true_and, decide_eq_true_eq]; exact hc
              simp only [nxV]
              generalize s.ps.getD i [] = qi at *
              generalize s.ps.getD p' [] = qp at *
              simp (disch := first | assumption | omega | rfl | simp only [RH]) only [↓RP, RZ, ↓reduceIte, Nat.reduceEqDiff, reduceCtorEq, Nat.reduceBEq, Nat.reduceAdd, Nat.reduceLeDiff, t8, gd, hw2, hri, hrp, hgi2, hgp2, hz0, sview_gw, hgs]
              exact ⟨i + 1, hlt2, by rw [hnx2]; rfl, by omega⟩
        · have hw2 : ¬ (fI m fun p => (O.w p : Int)).getD i 0 = 0 := by rw [gwi]; omega
          have hnx2 : bstP s.ps (cdW O.w O.D) (i + 1) = B := by rw [hbs, hcdd, hd', decide_eq_false hw]; rfl
          refine zx3 @t8 @gd @hw2 ?_
          exact ⟨i + 1, hlt2, by rw [hnx2]; rfl, by omega⟩
    · obtain rfl : m = i := by omega
      rw [hp]
      simp only [nxV]
      have gp : (fB m O.D).set p true = fB m (updN O.D p true) := fB_set true
      have a1 := gws_at (k := 8) (rs := fL m F) (a := p) (by omega)
      rw [fL_get hpm] at a1
      have oh : ∀ (p0 p1 p2 p3 p4 p5 p6 p7 : AObj) (tl : List AObj), (p0 :: p1 :: p2 :: p3 :: p4 :: p5 :: p6 :: p7 :: (gos (fL m F) ++ tl))[8 + p]? = some (go 3 (ints (nI (F p)))) := fun p0 p1 p2 p3 p4 p5 p6 p7 tl => by
        have := h8_at (o0 := p0) (o1 := p1) (o2 := p2) (o3 := p3) (o4 := p4) (o5 := p5) (o6 := p6) (o7 := p7) (rs := fL m F) (tl := tl) (a := p) (by omega)
        rw [fL_get hpm] at this
        exact this
      have hfl : (F p).length ≤ 64 * 64 := by
        have h1 := ((hgi n (Nat.le_refl _)).1.2 p).1
        rw [hFe] at h1
        exact Nat.le_trans h1 (Nat.mul_le_mul hn64 hn64)
      have hfl2 := nI_len (F p)
      have hpm2 : p ≤ 64 := by omega
      refine zx6 @t8 @s8 @gp @cA_any @a1 @oh ?_
      obtain ⟨D1, hD1⟩ : ∃ D1, updN O.D p true = D1 := ⟨_, rfl⟩
      simp only [hD1] at hnx ⊢
      have hOw : ∀ r, O.w r ≤ m := fun r => by
        rw [hok.o1, hm]
        exact Nat.le_trans List.countP_le_length (by simp)
      have hwr : ∀ i r, (F p)[i]? = some r → r < m ∧ 1 ≤ wDec O.w ((F p).take i) r ∧ wDec O.w ((F p).take i) r ≤ m := fun i r hr => by
        have hmem := List.mem_of_getElem? hr
        have hl := (hF r p).1 hmem
        have h2 := (hS.lies_lt hl).2
        have hnd := hFn p
        obtain ⟨hil, he⟩ := List.getElem?_eq_some_iff.1 hr
        have hnt : ¬ r ∈ (F p).take i := fun h => by
          obtain ⟨j, hj, hje⟩ := List.mem_iff_getElem.1 h
          rw [List.getElem_take] at hje
          rw [List.length_take] at hj
          exact List.pairwise_iff_getElem.1 hnd j i _ _ (by omega) (hje.trans he.symm)
        rw [wDec_get ((List.take_sublist _ _).nodup hnd), if_neg hnt]
        refine ⟨by omega, ?_, hOw r⟩
        rw [hok.o1]
        refine List.countP_pos_iff.2 ⟨p, List.mem_range.2 (by omega), ?_⟩
        have hcp := (bstP_some hp).2.1
        unfold cdW at hcp
        rw [Bool.and_eq_true] at hcp ⊢
        exact ⟨hcp.1, decide_eq_true hmem⟩
      refine loopK_I [4, 6, 7, 14, 15, 16, 116, 117, 166, 167, 168] (fun i : Nat => i ≤ (F p).length) (fun i => ⟨[(4, .ptr 3 0 7), (6, .ref 6 0 m m), (7, .ref 7 0 m m), (14, gw true (m + 9) (rowsC O.out)), (15, .ref (m + 8) 0 m m), (16, I p), (116, I m), (117, I k), (166, gw true (8 + p) (ints (nI (F p)))), (167, I (F p).length), (168, I i)], o0 :: o1 :: ⟨3, 1, ints (fI n s.pt)⟩ :: ⟨114, 7, [.list true false n (LL (abv W n l)), .ref 0 0 n n, .ref 1 0 n n, .ref 2 0 n n, x4, I s.mt, gw true 5 (rowsC s.ps)]⟩ :: o4 :: go 47 (rowsC s.ps) :: ⟨3, 1, ints (fI m fun x => ((wDec O.w ((F p).take i)) x : Int))⟩ :: ⟨47, 1, gws 8 (fL m F)⟩ :: (gos (fL m F) ++ [⟨4, 1, bools (fB m D1)⟩, go 47 (rowsC (O.out))])⟩) (fun i => (F p).length - i) 0 (by omega) (by simp only [↓RP, RG, FX, RQ, ↓reduceIte, Nat.reduceEqDiff, reduceCtorEq, Nat.reduceBEq, Nat.reduceAdd, Nat.reduceLeDiff, hfl2]; rfl) ?_
      intro i hi
      by_cases hlt3 : i < (F p).length
      · obtain ⟨r, hr⟩ : ∃ r, (F p)[i]? = some r := ⟨_, List.getElem?_eq_getElem hlt3⟩
        obtain ⟨hrm, hw1, hw2⟩ := hwr i r hr
        have hws : wDec O.w ((F p).take (i + 1)) = updN (wDec O.w ((F p).take i)) r (wDec O.w ((F p).take i) r - 1) := by
          unfold wDec
          rw [List.take_add_one, hr, Option.toList_some, List.foldl_append]; rfl
        generalize wDec O.w ((F p).take i) = w at *
        have hgr : (nI (F p)).getD i 0 = (r : Int) := by simp [nI, List.getD_eq_getElem?_getD, hr]
        have gw0 : (fI m fun x => (w x : Int)).getD r 0 = (w r : Int) := fI_get hrm
        have m7 := fI_len m fun x => (w x : Int)
        have e1 : (fI m fun x => (w x : Int)).set r ((w r : Int) - 1) = fI m fun x => ((updN w r (w r - 1) x : Nat) : Int) := by
          rw [fI_set, show (w r : Int) - 1 = ((w r - 1 : Nat) : Int) by omega, upd_cast]
        have hix : (i : Int) < ((ints (nI (F p))).length : Int) := by rw [ints_length, hfl2]; omega
        have hcA : cA (some (go 3 (ints (nI (F p))))) (nI (F p)).length = some (ints (nI (F p))) := cA_go (ints_length _)
        simp (disch := first | assumption | omega | rfl | simp only [RH]) only [↓RP, RZ, ↓reduceIte, Nat.reduceEqDiff, reduceCtorEq, Nat.reduceBEq, Nat.reduceAdd, Nat.reduceLeDiff, idx_gw, cA_any, hcA, oh, hgr, gw0, e1]
        exact ⟨i + 1, hlt3, by rw [hws]; rfl, by omega⟩
      · obtain rfl : (F p).length = i := by omega
        rw [List.take_length]
        have hrp := rowsC_at (ps := s.ps) (i := p) (by omega)
        have hro : rowsC O.out ++ [AVal.list true false (nI (s.ps.getD p [])).length (ints (nI (s.ps.getD p [])))] = rowsC (O.out ++ [s.ps.getD p []]) := by simp [rowsC]
        have hap : ∀ p0 p1 p2 p3 p4 p5 p6 p7 tt : AObj, aAppend Tryz.prog 71 (p0 :: p1 :: p2 :: p3 :: p4 :: p5 :: p6 :: p7 :: (gos (fL m F) ++ [tt, go 47 (rowsC O.out)])) (gw true (m + 9) (rowsC O.out)) (.lit 1 [.list true false (nI (s.ps.getD p [])).length (ints (nI (s.ps.getD p [])))]) = some (gw true (m + 9) (rowsC (O.out ++ [s.ps.getD p []])), p0 :: p1 :: p2 :: p3 :: p4 :: p5 :: p6 :: p7 :: (gos (fL m F) ++ [tt, go 47 (rowsC (O.out ++ [s.ps.getD p []]))])) := fun p0 p1 p2 p3 p4 p5 p6 p7 tt => by
          rw [append_list (e := 47) (xs := rowsC O.out) (by rw [t9]; rfl) (by simp [rowsC, hol]; omega), s9, hro]; rfl
        refine zx6 @hrp @t9 @s9 @hap @sview_gw @hgs ?_
        exact ⟨k + 1, hlt, Wk.of_eq (by rw [hnx]; rfl), by omega⟩
  · obtain rfl : m = k := by omega
    rw [hO'] at hfin
    refine zs ?_
    refine zr1 ?_
    have hgx : (gos (fL m F) ++ [⟨4, 1, bools (fB m O.D)⟩, go 47 (rowsC O.out)])[m + 1]? = some (go 47 (rowsC O.out)) := by
      rw [List.getElem?_append_right (by rw [hgl]; omega), hgl, Nat.add_sub_cancel_left]; rfl
    rw [hgx, gaR_go, rowsC_res, hfin]
    simp only [PV, PL, rowsC, List.length_map, Bool.true_and, List.isEmpty_map]
section
variable {p0 p1 : AObj} {g : Nat → List Bool} {i : Nat} {tl : List AObj}
end
def lSt (hd : Nat → Nat → Bool) (n : Nat) : Nat → List (List Nat) × (Nat → Bool)
  | 0 => ([], fun _ => false)
  | k + 1 => match (List.range n).find? (cnd hd n (lSt hd n k).2) with
    | none => lSt hd n k
    | some a => ((lSt hd n k).1 ++ [mtl hd n a], fun b => (lSt hd n k).2 b || (hd a b && hd b a))
def lCt (hd : Nat → Nat → Bool) (n k : Nat) : Nat := (List.range n).countP (lSt hd n k).2
theorem countP_or {α : Type} {p q : α → Bool} : ∀ (l : List α), (∀ x ∈ l, q x = true → p x = false) → l.countP (fun x => p x || q x) = l.countP p + (l.filter q).length
  | [], _ => rfl
  | x :: l, h => by
    have ih := countP_or l fun y hy => h y (List.mem_cons_of_mem _ hy)
    have hx := h x List.mem_cons_self
    cases hp : p x with
    | true =>
      cases hq : q x with
      | true => rw [hx hq] at hp; cases hp
      | false =>
        rw [List.countP_cons_of_pos (by simp [hp]), List.countP_cons_of_pos hp, List.filter_cons_of_neg (by simp [hq]), ih]; omega
    | false =>
      cases hq : q x with
      | true =>
        rw [List.countP_cons_of_pos (by simp [hq]), List.countP_cons_of_neg (by simp [hp]), List.filter_cons_of_pos hq, List.length_cons, ih]; omega
      | false =>
        rw [List.countP_cons_of_neg (by simp [hp, hq]), List.countP_cons_of_neg (by simp [hp]), List.filter_cons_of_neg (by simp [hq]), ih]
section
variable {ov : Nat → List Nat} {n : Nat} {ps : List (List Nat)} {pt : Nat → Int} {hd : Nat → Nat → Bool} {F : Nat → List Nat} {w : Nat → Nat}
theorem lSt_step (S : Scc ov n ps pt) (hhd : ∀ a b, a < n → b < n → (hd a b = true ↔ Wy ov a b)) (hF : ∀ p q, p ∈ F q ↔ lies ov pt p q) (hFn : ∀ q, (F q).Nodup) (O : OInv ov n ps pt F 0 w fun _ => false) {k : Nat} (hk : k < ps.length)
    (i1 : (lSt hd n k).1 = (oAt ps F w k).out) (i2 : ∀ b (q : Nat), pt b = (q : Int) → (lSt hd n k).2 b = (oAt ps F w k).D q) :
    (∃ a, a < n ∧ (List.range n).find? (cnd hd n (lSt hd n k).2) = some a ∧ (∀ b, b < n → hd a b = true → hd b a = true → (lSt hd n k).2 b = false) ∧ hd a a = true) ∧
    (lSt hd n (k + 1)).1 = (oAt ps F w (k + 1)).out ∧ ∀ b (q : Nat), pt b = (q : Int) → (lSt hd n (k + 1)).2 b = (oAt ps F w (k + 1)).D q := by
  obtain ⟨o1, _, _⟩ := oAt_inv S hhd hF hFn O k (by omega)
  obtain ⟨p, hp⟩ := o1.some S hF hk
  obtain ⟨a, ha, hpa, hfind⟩ := S.next_is hhd i2 o1.o2 (fun p _ => o1.cd_iff S hF) hp
  have hs : oAt ps F w (k + 1) = ⟨wDec (oAt ps F w k).w (F p), updN (oAt ps F w k).D p true, (oAt ps F w k).out ++ [ps.getD p []]⟩ := by
    show oStep ps F (oAt ps F w k) = _
    unfold oStep; rw [hp]
  have hl : lSt hd n (k + 1) = ((lSt hd n k).1 ++ [mtl hd n a], fun b => (lSt hd n k).2 b || (hd a b && hd b a)) := by
    rw [lSt, hfind]
  have hm : ∀ b, b < n → ∀ q : Nat, pt b = (q : Int) → ((hd a b && hd b a) = true ↔ q = p) := fun b hbn q hq => by
    rw [Bool.and_eq_true, hhd a b ha hbn, hhd b a hbn ha, ← S.p3 a b (by omega), hq, hpa]
    omega
  refine ⟨⟨a, ha, hfind, fun b hb h1 h2 => ?_, (hhd a a ha ha).2 (.refl a)⟩, ?_, fun b q hq => ?_⟩
  · have h0 := S.all b hb
    have hq : pt b = ((pt b).toNat : Int) := by omega
    have := (hm b hb _ hq).1 (by rw [h1, h2]; rfl)
    rw [i2 b _ hq, this]
    have := (bstP_some hp).2.1
    unfold cdW at this
    rw [Bool.and_eq_true] at this
    simpa using this.1
  · rw [hl, hs]
    show _ ++ _ = _ ++ _
    rw [i1, S.part_is hhd ha hpa]
  · have hbn : b < n := S.lt b (by omega)
    rw [hl, hs]
    show ((lSt hd n k).2 b || (hd a b && hd b a)) = updN _ p true q
    have hmm := hm b hbn q hq
    by_cases hqp : q = p
    · rw [hqp, updN_same, hmm.2 hqp]; simp
    · rw [updN_other _ _ hqp, i2 b q hq]
      have : (hd a b && hd b a) = false := by
        cases h : (hd a b && hd b a) with
        | false => rfl
        | true => exact absurd (hmm.1 h) hqp
      rw [this]; simp
theorem lSt_inv (S : Scc ov n ps pt) (hhd : ∀ a b, a < n → b < n → (hd a b = true ↔ Wy ov a b)) (hF : ∀ p q, p ∈ F q ↔ lies ov pt p q) (hFn : ∀ q, (F q).Nodup) (O : OInv ov n ps pt F 0 w fun _ => false) :
    ∀ k, k ≤ ps.length → (lSt hd n k).1 = (oAt ps F w k).out ∧ ∀ b (q : Nat), pt b = (q : Int) → (lSt hd n k).2 b = (oAt ps F w k).D q
  | 0, _ => ⟨rfl, fun _ _ _ => rfl⟩
  | k + 1, hk => by
    obtain ⟨i1, i2⟩ := lSt_inv S hhd hF hFn O k (by omega)
    exact (lSt_step S hhd hF hFn O (by omega) i1 i2).2
theorem lSt_run (S : Scc ov n ps pt) (hhd : ∀ a b, a < n → b < n → (hd a b = true ↔ Wy ov a b)) (hF : ∀ p q, p ∈ F q ↔ lies ov pt p q) (hFn : ∀ q, (F q).Nodup) (O : OInv ov n ps pt F 0 w fun _ => false) :
    (∀ k, k < ps.length → lCt hd n k < n ∧ ∃ a, a < n ∧ (List.range n).find? (cnd hd n (lSt hd n k).2) = some a ∧ hd a a = true ∧ lCt hd n (k + 1) = lCt hd n k + (mtl hd n a).length ∧ (∀ b, b < n → hd a b = true → hd b a = true → (lSt hd n k).2 b = false)) ∧
    lCt hd n ps.length = n ∧ (lSt hd n ps.length).1 = lsP hd n n fun _ => false := by
  refine ⟨fun k hk => ?_, ?_, ?_⟩
  · obtain ⟨i1, i2⟩ := lSt_inv S hhd hF hFn O k (by omega)
    obtain ⟨⟨a, ha, hf, hz, haa⟩, _⟩ := lSt_step S hhd hF hFn O hk i1 i2
    have hl : lSt hd n (k + 1) = ((lSt hd n k).1 ++ [mtl hd n a], fun b => (lSt hd n k).2 b || (hd a b && hd b a)) := by
      rw [lSt, hf]
    have hct : lCt hd n (k + 1) = lCt hd n k + (mtl hd n a).length := by
      unfold lCt
      rw [hl]
      refine countP_or _ fun x hx hq => ?_
      rw [Bool.and_eq_true] at hq
      exact hz x (List.mem_range.1 hx) hq.1 hq.2
    have hle : lCt hd n (k + 1) ≤ n := by
      unfold lCt
      exact Nat.le_trans List.countP_le_length (by simp)
    have hpos : 0 < (mtl hd n a).length := List.length_pos_iff.2 fun h => by
      have : a ∈ mtl hd n a := by rw [mtl, List.mem_filter, haa]; exact ⟨List.mem_range.2 ha, rfl⟩
      rw [h] at this; cases this
    exact ⟨by omega, a, ha, hf, haa, hct, hz⟩
  · obtain ⟨_, i2⟩ := lSt_inv S hhd hF hFn O ps.length (Nat.le_refl _)
    obtain ⟨o1, _, _⟩ := oAt_inv S hhd hF hFn O ps.length (Nat.le_refl _)
    have hall : ∀ p, p < ps.length → (oAt ps F w ps.length).D p = true := by
      have h2 : (List.range ps.length).countP (oAt ps F w ps.length).D = (List.range ps.length).length := by rw [o1.o3]; simp
      exact fun p hp => (List.countP_eq_length.1 h2) p (List.mem_range.2 hp)
    unfold lCt
    have : (List.range n).countP (lSt hd n ps.length).2 = (List.range n).length := List.countP_eq_length.2 fun b hb => by
      have hbn := List.mem_range.1 hb
      have h0 := S.all b hbn
      obtain ⟨l, h1, _⟩ := (S.p1 b (pt b).toNat).1 (by omega)
      have hlt := (List.getElem?_eq_some_iff.1 h1).1
      rw [i2 b (pt b).toNat (by omega)]
      exact hall _ hlt
    rw [this]; simp
  · rw [(lSt_inv S hhd hF hFn O ps.length (Nat.le_refl _)).1]
    exact oAt_all S hhd hF hFn O
end
theorem lists_run (W n : Nat) (l : List Bool) : ∃ m, m ≤ n ∧ (∀ k, k < m → lCt (hdB W n l) n k < n ∧ ∃ a, a < n ∧ (List.range n).find? (cnd (hdB W n l) n (lSt (hdB W n l) n k).2) = some a ∧ hdB W n l a a = true ∧ lCt (hdB W n l) n (k + 1) = lCt (hdB W n l) n k + (mtl (hdB W n l) n a).length ∧ (∀ b, b < n → hdB W n l a b = true → hdB W n l b a = true → (lSt (hdB W n l) n k).2 b = false)) ∧
    lCt (hdB W n l) n m = n ∧ (lSt (hdB W n l) n m).1 = PL W n l := by
  have hS := tAll_scc (ov := adjT W n l) (n := n) adjT_in
  obtain ⟨hF, hFn, hO⟩ := gAll_lies hS (m := (tAll (adjT W n l) n n).ps.length) rfl adjT_in (fun a _ => adjT_le W n l a)
  have h := lSt_run hS (fun a b ha hb => hdB_iff ha hb) hF hFn hO
  exact ⟨_, hS.len_le, h.1, h.2.1, h.2.2⟩
section
variable {p0 p1 p2 : AObj} {rs : List (List Int)} {i : Nat} {tl : List AObj}
end
theorem lSt_len {hd : Nat → Nat → Bool} {n m : Nat} (h : ∀ k, k < m → ∃ a, (List.range n).find? (cnd hd n (lSt hd n k).2) = some a) : ∀ k, k ≤ m → (lSt hd n k).1.length = k
  | 0, _ => rfl
  | k + 1, hk => by
    obtain ⟨a, ha⟩ := h k (by omega)
    rw [lSt, ha]
    show ((lSt hd n k).1 ++ [mtl hd n a]).length = _
    rw [List.length_append, lSt_len h k (by omega)]; rfl
theorem lSt_flat {hd : Nat → Nat → Bool} {n m : Nat} (h : ∀ k, k < m → ∃ a, a < n ∧ (List.range n).find? (cnd hd n (lSt hd n k).2) = some a ∧ (∀ b, b < n → hd a b = true → hd b a = true → (lSt hd n k).2 b = false)) : ∀ k, k ≤ m → (lSt hd n k).1.flatten.Nodup ∧ ∀ x, x ∈ (lSt hd n k).1.flatten ↔ x < n ∧ (lSt hd n k).2 x = true
  | 0, _ => ⟨List.nodup_nil, fun x => ⟨(fun h => by cases h), fun h => by cases h.2⟩⟩
  | k + 1, hk => by
    obtain ⟨i1, i2⟩ := lSt_flat h k (by omega)
    obtain ⟨a, ha, hf, hz⟩ := h k (by omega)
    have hs : lSt hd n (k + 1) = ((lSt hd n k).1 ++ [mtl hd n a], fun b => (lSt hd n k).2 b || (hd a b && hd b a)) := by
      rw [lSt, hf]
    rw [hs]
    have hm : ∀ x, x ∈ mtl hd n a ↔ x < n ∧ hd a x = true ∧ hd x a = true := fun x => by
      rw [mtl, List.mem_filter, List.mem_range, Bool.and_eq_true]
    have he : ((lSt hd n k).1 ++ [mtl hd n a]).flatten = (lSt hd n k).1.flatten ++ mtl hd n a := by simp
    show ((lSt hd n k).1 ++ [mtl hd n a]).flatten.Nodup ∧ ∀ x, x ∈ ((lSt hd n k).1 ++ [mtl hd n a]).flatten ↔ x < n ∧ ((lSt hd n k).2 x || (hd a x && hd x a)) = true
    rw [he]
    refine ⟨List.nodup_append.2 ⟨i1, List.Pairwise.filter _ List.nodup_range, fun x hx y hy e => ?_⟩, fun x => ?_⟩
    · subst e
      have h1 := (i2 x).1 hx
      have h2 := (hm x).1 hy
      rw [hz x h2.1 h2.2.1 h2.2.2] at h1
      cases h1.2
    · rw [List.mem_append, i2, hm, Bool.or_eq_true, Bool.and_eq_true]
      constructor
      · rintro (⟨h1, h2⟩ | ⟨h1, h2⟩)
        · exact ⟨h1, .inl h2⟩
        · exact ⟨h1, .inr h2⟩
      · rintro ⟨h1, h2 | h2⟩
        · exact .inl ⟨h1, h2⟩
        · exact .inr ⟨h1, h2⟩
theorem PL_flat (W n : Nat) (l : List Bool) : (PL W n l).flatten.Nodup ∧ ∀ x, x ∈ (PL W n l).flatten ↔ x < n := by
  obtain ⟨m, hmn, hst, hcm, hfin⟩ := lists_run W n l
  obtain ⟨h1, h2⟩ := lSt_flat (m := m) (fun k hk => (hst k hk).2.imp fun a h => ⟨h.1, h.2.1, h.2.2.2.2⟩) m (Nat.le_refl _)
  rw [hfin] at h1 h2
  refine ⟨h1, fun x => ⟨fun h => ((h2 x).1 h).1, fun h => (h2 x).2 ⟨h, ?_⟩⟩⟩
  unfold lCt at hcm
  have : (List.range n).countP (lSt (hdB W n l) n m).2 = (List.range n).length := by rw [hcm]; simp
  exact List.countP_eq_length.1 this x (List.mem_range.2 h)
theorem PL_row {W n : Nat} {l : List Bool} {r : List Nat} (hr : r ∈ PL W n l) : r.length ≤ n ∧ ∀ x ∈ r, x < n := by
  obtain ⟨h1, h2⟩ := PL_flat W n l
  have hs : ∀ x ∈ r, x < n := fun x hx => (h2 x).1 (List.mem_flatten.2 ⟨r, hr, hx⟩)
  exact ⟨nodup_lt n r ((List.sublist_flatten_of_mem hr).nodup h1) hs, hs⟩
structure Met (ov : Nat → List Nat) (n a : Nat) (q : List Nat) : Prop where
  nd : q.Nodup
  wy : ∀ x ∈ q, x < n ∧ Wy ov a x
  me : a ∈ q
theorem Met.len {ov : Nat → List Nat} {n a : Nat} {q : List Nat} (h : Met ov n a q) : q.length ≤ n :=
  nodup_lt n q h.nd fun x hx => (h.wy x hx).1
theorem Met.push {ov : Nat → List Nat} {n a : Nat} {q : List Nat} (h : Met ov n a q) {c y : Nat} (hc : c ∈ q) (hy : y ∈ ov c) (hyn : y < n) (hq : ¬ y ∈ q) : Met ov n a (q ++ [y]) :=
  ⟨List.nodup_append.2 ⟨h.nd, by simp, fun x hx z hz e => hq (by rw [List.mem_singleton] at hz; rw [← hz, ← e]; exact hx)⟩,
   fun x hx => by
    rcases List.mem_append.1 hx with h1 | h1
    · exact h.wy x h1
    · rw [List.mem_singleton.1 h1]; exact ⟨hyn, (h.wy c hc).2.trans (.one hy)⟩,
   List.mem_append_left _ h.me⟩
theorem rowsC_fr (k : Nat) (ps : List (List Nat)) : ∀ x, x ∈ rowsC ps → allFresh (k + 2) x = true := by
  intro x hx
  obtain ⟨r, _, rfl⟩ := List.mem_map.1 hx
  simp [allFresh, ints_fresh]
theorem PV_fr (k : Nat) (ps : List (List Nat)) : allFresh (k + 3) (PV ps) = true := by
  show ((true || (rowsC ps).isEmpty) && (rowsC ps).all (allFresh (k + 2))) = true
  rw [Bool.true_or, Bool.true_and, List.all_eq_true]
  exact rowsC_fr k ps
theorem PV_res (h : List AObj) (k : Nat) (ps : List (List Nat)) : resOf h (k + 3) (PV ps) = PV ps := by
  show resOf h (k + 2 + 1) (.list true _ _ (rowsC ps)) = _
  rw [resOf_list, rowsC_res]; rfl
theorem parts_len {W n : Nat} {l : List Bool} : (PL W n l).length ≤ n := by
  obtain ⟨m, hmn, hst, hcm, hfin⟩ := lists_run W n l
  rw [← hfin, lSt_len (m := m) (fun k hk => (hst k hk).2.imp fun a h => h.2.1) m (Nat.le_refl _)]
  exact hmn
theorem partsPP_c {W H n : Nat} (hN : W + H = n) (hW0 : 0 < W) (hH0 : 0 < H) (hn64 : n ≤ 64) (b : Bool) {l : List Bool} (hn : l.length = W * H) : Contract Tryz.prog 41 [GA W H b l] (.tuple [PV (PL W n l), I 0]) := by
  have hz : gchk W H l.length = 0 := gchk_ok ⟨by omega, by omega, by omega, by omega, by rw [hn, Int.natCast_mul]⟩
  refine zi Tryz.func41 ?_
  refine zs ?_
  refine zc (gcheckP_c W H b l) ?_
  refine zx1 @hz ?_
  refine callK_F 6 (partsP_c hN hW0 hH0 hn64 b hn) (by simp (disch := first | assumption | omega | rfl | simp only [RH]) only [↓RP, RZ, ↓reduceIte, Nat.reduceEqDiff, reduceCtorEq, Nat.reduceBEq, Nat.reduceAdd, Nat.reduceLeDiff, RA] <;> rfl) (.inl (PV_fr 3 _)) ?_
  refine zs ?_
  refine zr2 ?_
  first | done | (simp only [PV_res])
def layE (W : Nat) (r : List Nat) : List Nat := r.filter fun x => decide (x < W)
def layP (W : Nat) (r : List Nat) : List Nat := (r.filter fun x => !decide (x < W)).map fun x => x - W
theorem layE_snoc (W : Nat) (r : List Nat) (x : Nat) : layE W (r ++ [x]) = layE W r ++ if x < W then [x] else [] := by
  unfold layE; rw [List.filter_append]; by_cases h : x < W <;> simp [h]
theorem layP_snoc (W : Nat) (r : List Nat) (x : Nat) : layP W (r ++ [x]) = layP W r ++ if x < W then [] else [x - W] := by
  unfold layP; rw [List.filter_append, List.map_append]; by_cases h : x < W <;> simp [h]
theorem layE_len (W : Nat) (r : List Nat) : (layE W r).length ≤ r.length := List.length_filter_le _ _
theorem layP_len (W : Nat) (r : List Nat) : (layP W r).length ≤ r.length := by
  unfold layP; rw [List.length_map]; exact List.length_filter_le _ _
def lyC (W : Nat) (r : List Nat) : List AVal := [LR (layE W r).isEmpty (nI (layE W r)), LR (layP W r).isEmpty (nI (layP W r))]
theorem nI_isEmpty (r : List Nat) : (nI r).isEmpty = r.isEmpty := by cases r <;> rfl
theorem layerP_c {W H n : Nat} (hN : W + H = n) (hn64 : n ≤ 64) (b : Bool) {l : List Bool} (br : Bool) {r : List Nat} (hr : ∀ x ∈ r, x < n) (hrl : r.length ≤ 1000) : Contract Tryz.prog 42 [GA W H b l, LA br (nI r)] (.agg (lyC W r)) := by
  have hlen := nI_len r
  refine zi Tryz.func42 ?_
  refine zs ?_
  refine loopK_WW [2, 5, 4, 8, 9, 10] (fun i : Nat => i ≤ r.length) (fun i => ⟨[(2, .ptr 0 0 3), (5, .ptr 2 0 2), (4, .ptr 1 0 2), (8, LA br (nI r)), (9, I r.length), (10, I i)], [⟨24, 3, [I W, I H, BA b l]⟩, ⟨49, 2, [.cap0 true, .cap0 true]⟩, ⟨49, 2, [gw true 3 (ints (nI (layE W (r.take i)))), gw true 4 (ints (nI (layP W (r.take i))))]⟩, go 3 (ints (nI (layE W (r.take i)))), go 3 (ints (nI (layP W (r.take i))))]⟩) (fun i => r.length - i) 0 (by omega) ?_ ?_
  · simp only [↓RP, RG, FX, RQ, ↓reduceIte, Nat.reduceEqDiff, reduceCtorEq, Nat.reduceBEq, Nat.reduceAdd, Nat.reduceLeDiff, hlen]
    exact Wk.weak (fun t => .refl _) (.cons _ _ _ _ (WL.refl _) (.cons _ _ _ _ (WL.refl _) (.cons _ _ _ _ (.cons (.nil _) (.cons (.nil _) .nil)) (.nil _ (by simp [go, ints, nI, layE, layP])))))
  intro i hi
  have hE := layE_len W (r.take i)
  have hP := layP_len W (r.take i)
  rw [List.length_take] at hE hP
  have hEn := nI_len (layE W (r.take i))
  have hPn := nI_len (layP W (r.take i))
  have hEl : (nI (layE W (r.take i))).length ≤ 1000000000 := by omega
  have hPl : (nI (layP W (r.take i))).length ≤ 1000000000 := by omega
  by_cases hlt : i < r.length
  · obtain ⟨x, hx⟩ : ∃ x, r[i]? = some x := ⟨_, List.getElem?_eq_getElem hlt⟩
    have hxn := hr x (List.mem_of_getElem? hx)
    have hgx : (nI r).getD i 0 = (x : Int) := by simp [nI, List.getD_eq_getElem?_getD, hx]
    have htk : r.take (i + 1) = r.take i ++ [x] := by rw [List.take_add_one, hx]; rfl
    have s1 := layE_snoc W (r.take i) x
    have s2 := layP_snoc W (r.take i) x
    rw [← htk] at s1 s2
    by_cases hxW : x < W
    · rw [if_pos hxW] at s1 s2
      rw [List.append_nil] at s2
      have e1 : nI (layE W (r.take i)) ++ [(x : Int)] = nI (layE W (r.take (i + 1))) := by rw [s1, nI_app]
      refine zx3 @hgx @append_int @e1 ?_
      exact ⟨i + 1, hlt, Wk.of_eq (by rw [s2]; rfl), by omega⟩
    · rw [if_neg hxW] at s1 s2
      rw [List.append_nil] at s1
      have hsub : (x : Int) - (W : Int) = ((x - W : Nat) : Int) := by omega
      have e1 : nI (layP W (r.take i)) ++ [((x - W : Nat) : Int)] = nI (layP W (r.take (i + 1))) := by rw [s2, nI_app]
      refine zx4 @hgx @hsub @append_int @e1 ?_
      exact ⟨i + 1, hlt, Wk.of_eq (by rw [s1]; rfl), by omega⟩
  · obtain rfl : r.length = i := by omega
    rw [List.take_length] at *
    refine zs ?_
    refine zr1 ?_
    simp only [lyC, Bool.true_and, ints_isEmpty, nI_isEmpty]
theorem lSt_mtl {hd : Nat → Nat → Bool} {n m : Nat} (h : ∀ k, k < m → ∃ a, a < n ∧ (List.range n).find? (cnd hd n (lSt hd n k).2) = some a) : ∀ k, k ≤ m → ∀ r ∈ (lSt hd n k).1, ∃ a, a < n ∧ r = mtl hd n a
  | 0, _, r, hr => by cases hr
  | k + 1, hk, r, hr => by
    obtain ⟨a, ha0, ha⟩ := h k (by omega)
    rw [lSt, ha] at hr
    rcases List.mem_append.1 (show r ∈ (lSt hd n k).1 ++ [mtl hd n a] from hr) with h1 | h1
    · exact lSt_mtl h k (by omega) r h1
    · exact ⟨a, ha0, List.mem_singleton.1 h1⟩
structure Part (W n : Nat) (l : List Bool) (r : List Nat) : Prop where
  inc : r.Pairwise (· < ·)
  lt : ∀ x ∈ r, x < n
  ne : r ≠ []
  mu : ∀ x y, x ∈ r → (y ∈ r ↔ Wy (adjT W n l) x y ∧ Wy (adjT W n l) y x)
theorem adj_lt {W n : Nat} {l : List Bool} {x y : Nat} (h : Wy (adjT W n l) x y) (hx : x < n) : y < n := h.closed (p := fun z => z < n) (fun _ _ _ hm => adjT_lt hm) hx
theorem mtl_part {W n : Nat} {l : List Bool} {a : Nat} (ha : a < n) : Part W n l (mtl (hdB W n l) n a) := by
  have hm : ∀ x, x ∈ mtl (hdB W n l) n a ↔ Wy (adjT W n l) a x ∧ Wy (adjT W n l) x a := fun x => by
    rw [mtl, List.mem_filter, List.mem_range, Bool.and_eq_true]
    constructor
    · rintro ⟨h1, h2, h3⟩
      exact ⟨(hdB_iff ha h1).1 h2, (hdB_iff h1 ha).1 h3⟩
    · rintro ⟨h1, h2⟩
      have hx := adj_lt h1 ha
      exact ⟨hx, (hdB_iff ha hx).2 h1, (hdB_iff hx ha).2 h2⟩
  refine ⟨List.Pairwise.filter _ List.pairwise_lt_range, fun x hx => adj_lt ((hm x).1 hx).1 ha, fun he => ?_, fun x y hx => ?_⟩
  · have : a ∈ mtl (hdB W n l) n a := (hm a).2 ⟨.refl a, .refl a⟩
    rw [he] at this; cases this
  · obtain ⟨h1, h2⟩ := (hm x).1 hx
    rw [hm]
    exact ⟨fun ⟨h3, h4⟩ => ⟨h2.trans h3, h4.trans h1⟩, fun ⟨h3, h4⟩ => ⟨h1.trans h3, h4.trans h2⟩⟩
theorem PL_part {W n : Nat} {l : List Bool} {r : List Nat} (hr : r ∈ PL W n l) : Part W n l r := by
  obtain ⟨m, hmn, hst, hcm, hfin⟩ := lists_run W n l
  rw [← hfin] at hr
  obtain ⟨a, ha, rfl⟩ := lSt_mtl (m := m) (fun k hk => (hst k hk).2.imp fun a h => ⟨h.1, h.2.1⟩) m (Nat.le_refl _) r hr
  exact mtl_part ha
theorem part_in {W n : Nat} {l : List Bool} {r : List Nat} (h : Part W n l r) : r ∈ PL W n l := by
  obtain ⟨x, t, rfl⟩ : ∃ x t, r = x :: t := by
    cases r with
    | nil => exact absurd rfl h.ne
    | cons x t => exact ⟨x, t, rfl⟩
  have hx := h.lt x (by simp)
  obtain ⟨r', h1, h2⟩ := List.mem_flatten.1 (((PL_flat W n l).2 x).2 hx)
  have hp := PL_part h1
  have : x :: t = r' := incN_ext _ _ h.inc hp.inc fun y => by rw [h.mu x y (by simp), hp.mu x y h2]
  rw [this]; exact h1
theorem Part.step {W n : Nat} {l : List Bool} {r : List Nat} (h : Part W n l r) {a b c : Nat} (ha : a ∈ r) (hb : b ∈ r) (hc : c ∈ adjT W n l a) (hw : Wy (adjT W n l) c b) : c ∈ r :=
  (h.mu a c ha).2 ⟨.one hc, hw.trans ((h.mu a b ha).1 hb).2⟩
theorem Part.along {W n : Nat} {l : List Bool} {r : List Nat} (h : Part W n l r) {p : Nat → Prop} (hp : ∀ x y, x ∈ r → y ∈ r → p x → y ∈ adjT W n l x → p y) {a b : Nat} (ha : a ∈ r) (hb : b ∈ r) (h0 : p a) : p b := by
  have hw := ((h.mu a b ha).1 hb).1
  induction hw with
  | refl a => exact h0
  | step hc hr ih =>
    have hcr := h.step ha hb hc hr
    exact ih hcr hb (hp _ _ ha hcr h0 hc)
theorem lay_split {r : List Nat} (h : r.Pairwise (· < ·)) (W : Nat) : r = layE W r ++ (layP W r).map (· + W) := by
  have hm : (layP W r).map (· + W) = r.filter fun x => !decide (x < W) := by
    unfold layP
    rw [List.map_map]
    conv => rhs; rw [← List.map_id (r.filter fun x => !decide (x < W))]
    refine List.map_congr_left fun x hx => ?_
    have := (List.mem_filter.1 hx).2
    simp at this
    show x - W + W = x
    omega
  rw [hm]
  refine incN_ext _ _ h (List.pairwise_append.2 ⟨List.Pairwise.filter _ h, List.Pairwise.filter _ h, fun x hx y hy => ?_⟩) fun x => ?_
  · have h1 := (List.mem_filter.1 hx).2
    have h2 := (List.mem_filter.1 hy).2
    simp at h1 h2
    omega
  · unfold layE
    rw [List.mem_append, List.mem_filter, List.mem_filter]
    by_cases hx : x < W <;> simp [hx]
theorem Part.both {W n : Nat} {l : List Bool} {r : List Nat} (h : Part W n l r) (h1 : 1 < r.length) : 0 < (layE W r).length ∧ 0 < (layP W r).length := by
  obtain ⟨x, y, t, rfl⟩ : ∃ x y t, r = x :: y :: t := by
    match r, h1 with
    | x :: y :: t, _ => exact ⟨x, y, t, rfl⟩
  have hxy : x ≠ y := by
    have := h.inc; rw [List.pairwise_cons] at this
    have := this.1 y (by simp); omega
  have hw := ((h.mu x y (by simp)).1 (by simp)).1
  obtain ⟨c, hc, hcr⟩ : ∃ c, c ∈ adjT W n l x ∧ c ∈ x :: y :: t := by
    cases hw with
    | refl => exact absurd rfl hxy
    | step hc hr => exact ⟨_, hc, h.step (by simp) (by simp) hc hr⟩
  have hov := (mem_adjT.1 hc).2
  have hE : ∀ z, z ∈ x :: y :: t → z < W → 0 < (layE W (x :: y :: t)).length := fun z hz hzW => List.length_pos_of_mem (List.mem_filter.2 ⟨hz, decide_eq_true hzW⟩)
  have hP : ∀ z, z ∈ x :: y :: t → ¬ z < W → 0 < (layP W (x :: y :: t)).length := fun z hz hzW => by
    unfold layP
    rw [List.length_map]
    exact List.length_pos_of_mem (List.mem_filter.2 ⟨hz, by simp [hzW]⟩)
  unfold ov at hov
  by_cases hcW : c < W
  · by_cases hxW : x < W
    · rw [if_pos hcW, if_pos hxW] at hov; cases hov
    · exact ⟨hE c hcr hcW, hP x (by simp) hxW⟩
  · by_cases hxW : x < W
    · exact ⟨hE x (by simp) hxW, hP c hcr hcW⟩
    · rw [if_neg hcW, if_neg hxW] at hov; cases hov
def subT (W : Nat) (r : List Nat) (c : Nat) : Nat := if c < (layE W r).length then (layE W r).getD c 0 else (layP W r).getD (c - (layE W r).length) 0 + W
def subL (W : Nat) (l : List Bool) (r : List Nat) : List Bool := tabN (layE W r).length (fun x y => l.getD (W * (layP W r).getD y 0 + (layE W r).getD x 0) false) ((layE W r).length * (layP W r).length)
theorem subT_get {r : List Nat} (h : r.Pairwise (· < ·)) (W : Nat) {c : Nat} (hc : c < r.length) : subT W r c = r.getD c 0 := by
  have hs := lay_split h W
  have hl : r.length = (layE W r).length + (layP W r).length := by
    conv => lhs; rw [hs]
    simp
  unfold subT
  conv => rhs; rw [hs]
  by_cases hcE : c < (layE W r).length
  · rw [if_pos hcE, List.getD_eq_getElem?_getD, List.getD_eq_getElem?_getD, List.getElem?_append_left hcE]
  · rw [if_neg hcE, List.getD_eq_getElem?_getD, List.getD_eq_getElem?_getD, List.getElem?_append_right (by omega), List.getElem?_map]
    have : c - (layE W r).length < (layP W r).length := by omega
    rw [List.getElem?_eq_getElem this]; rfl
theorem layE_lt {W : Nat} {r : List Nat} {c : Nat} (hc : c < (layE W r).length) : (layE W r).getD c 0 < W := by
  rw [List.getD_eq_getElem?_getD, List.getElem?_eq_getElem hc]
  have := (List.mem_filter.1 (List.getElem_mem hc)).2
  simpa using this
theorem sub_ov {W : Nat} (l : List Bool) {r : List Nat} {c d : Nat} (hc : c < (layE W r).length + (layP W r).length) (hd : d < (layE W r).length + (layP W r).length) : ov (layE W r).length (subL W l r) c d = ov W l (subT W r c) (subT W r d) := by
  have hE := fun c => layE_lt (W := W) (r := r) (c := c)
  unfold subL subT
  generalize layE W r = E at *
  generalize layP W r = P at *
  have hget : ∀ x y, x < E.length → y < P.length → (tabN E.length (fun x y => l.getD (W * P.getD y 0 + E.getD x 0) false) (E.length * P.length)).getD (E.length * y + x) false = l.getD (W * P.getD y 0 + E.getD x 0) false := fun x y hx hy => by
    refine tabN_get _ _ hx ?_
    have := Nat.mul_le_mul_left E.length (show y + 1 ≤ P.length by omega)
    rw [Nat.mul_succ] at this
    omega
  have hn : ∀ z : Nat, ¬ z + W < W := fun z => by omega
  unfold ov
  by_cases h1 : c < E.length
  · have e1 := hE c h1
    rw [if_pos h1, if_pos h1, if_pos e1]
    by_cases h2 : d < E.length
    · rw [if_pos h2, if_pos h2, if_pos (hE d h2)]
    · rw [if_neg h2, if_neg h2, if_neg (hn _), hget c (d - E.length) h1 (by omega), Nat.add_sub_cancel]
  · rw [if_neg h1, if_neg h1, if_neg (hn _)]
    by_cases h2 : d < E.length
    · have e2 := hE d h2
      rw [if_pos h2, if_pos h2, if_pos e2, hget d (c - E.length) h2 (by omega), Nat.add_sub_cancel]
    · rw [if_neg h2, if_neg h2, if_neg (hn _)]
theorem lay_len {r : List Nat} (h : r.Pairwise (· < ·)) (W : Nat) : (layE W r).length + (layP W r).length = r.length := by
  have hs := lay_split h W
  conv => rhs; rw [hs]
  simp
theorem Part.hg {W n : Nat} {l : List Bool} {r : List Nat} (h : Part W n l r) : Hg (layE W r).length r.length (subL W l r) := by
  intro M hM ⟨c0, hc0, hM0⟩ x hx
  have hll := lay_len h.inc W
  have hT : ∀ c, c < r.length → subT W r c = r.getD c 0 := fun c hc => subT_get h.inc W hc
  have hmem : ∀ c, c < r.length → r.getD c 0 ∈ r := fun c hc => by rw [List.getD_eq_getElem?_getD, List.getElem?_eq_getElem hc]; exact List.getElem_mem hc
  have key : (fun z => ∃ c, c < r.length ∧ r.getD c 0 = z ∧ M c) (r.getD x 0) := by
    refine h.along (p := fun z => ∃ c, c < r.length ∧ r.getD c 0 = z ∧ M c) (fun a b ha hb => ?_) (hmem c0 hc0) (hmem x hx) ⟨c0, hc0, rfl, hM0⟩
    rintro ⟨c, hc, rfl, hMc⟩ hba
    obtain ⟨d, hd, rfl⟩ := List.mem_iff_getElem.1 hb
    have hdd : r.getD d 0 = r[d] := by rw [List.getD_eq_getElem?_getD, List.getElem?_eq_getElem hd]; rfl
    refine ⟨d, hd, hdd, hM c hc hMc d hd ?_⟩
    rw [sub_ov l (by omega) (by omega), hT d hd, hT c hc, hdd]
    exact (mem_adjT.1 hba).2
  obtain ⟨c, hc, he, hMc⟩ := key
  have : c = x := by
    rw [List.getD_eq_getElem?_getD, List.getD_eq_getElem?_getD, List.getElem?_eq_getElem hc, List.getElem?_eq_getElem hx] at he
    have hi := List.pairwise_iff_getElem.1 h.inc
    rcases Nat.lt_trichotomy c x with h1 | h1 | h1
    · have := hi c x hc hx h1; simp at he; omega
    · exact h1
    · have := hi x c hx hc h1; simp at he; omega
  rw [← this]; exact hMc
theorem lSt_pre {hd : Nat → Nat → Bool} {n : Nat} (i : Nat) : ∀ d, ∃ t, (lSt hd n (i + d)).1 = (lSt hd n i).1 ++ t
  | 0 => ⟨[], by simp⟩
  | d + 1 => by
    obtain ⟨t, ht⟩ := lSt_pre (hd := hd) (n := n) i d
    show ∃ t, (lSt hd n ((i + d) + 1)).1 = _
    rw [lSt]
    split
    · exact ⟨t, ht⟩
    · rename_i a _
      exact ⟨t ++ [mtl hd n a], by show (lSt hd n (i + d)).1 ++ _ = _; rw [ht, List.append_assoc]⟩
theorem PL_below {W n : Nat} {l : List Bool} {i : Nat} (hi : i < (PL W n l).length) {a b : Nat} (ha : a ∈ (PL W n l).getD i []) (hb : b < n) (hw : Wy (adjT W n l) a b) : ∃ j, j ≤ i ∧ b ∈ (PL W n l).getD j [] := by
  obtain ⟨m, hmn, hst, hcm, hfin⟩ := lists_run W n l
  have hlen := lSt_len (m := m) (fun k hk => (hst k hk).2.imp fun a h => h.2.1)
  have hflat := lSt_flat (m := m) (fun k hk => (hst k hk).2.imp fun a h => ⟨h.1, h.2.1, h.2.2.2.2⟩)
  have hml : (PL W n l).length = m := by rw [← hfin, hlen m (Nat.le_refl _)]
  rw [hml] at hi
  obtain ⟨_, a0, ha0, hf, haa, _⟩ := hst i hi
  have hs : (lSt (hdB W n l) n (i + 1)).1 = (lSt (hdB W n l) n i).1 ++ [mtl (hdB W n l) n a0] := by rw [lSt, hf]
  obtain ⟨t, ht⟩ := lSt_pre (hd := hdB W n l) (n := n) (i + 1) (m - (i + 1))
  rw [show i + 1 + (m - (i + 1)) = m by omega, hs, hfin] at ht
  have hli := hlen i (by omega)
  have hgi : (PL W n l).getD i [] = mtl (hdB W n l) n a0 := by
    rw [ht, List.append_assoc, List.getD_eq_getElem?_getD, List.getElem?_append_right (by omega), hli, Nat.sub_self]; rfl
  rw [hgi] at ha
  have hp := mtl_part (W := W) (l := l) ha0
  have ha0m : a0 ∈ mtl (hdB W n l) n a0 := by rw [mtl, List.mem_filter, haa]; exact ⟨List.mem_range.2 ha0, rfl⟩
  have hw0 : Wy (adjT W n l) a0 b := ((hp.mu a0 a ha0m).1 ha).1.trans hw
  obtain ⟨hf1, _, _⟩ := List.find?_range_eq_some.1 hf
  unfold cnd at hf1
  rw [Bool.and_eq_true] at hf1
  have hq := List.all_eq_true.1 hf1.2 b (List.mem_range.2 hb)
  rw [(hdB_iff ha0 hb).2 hw0] at hq
  cases hL : (lSt (hdB W n l) n i).2 b with
  | true =>
    have hbf := ((hflat i (by omega)).2 b).2 ⟨hb, hL⟩
    obtain ⟨r, hr, hbr⟩ := List.mem_flatten.1 hbf
    obtain ⟨j, hj, rfl⟩ := List.mem_iff_getElem.1 hr
    refine ⟨j, by omega, ?_⟩
    rw [ht, List.append_assoc, List.getD_eq_getElem?_getD, List.getElem?_append_left hj, List.getElem?_eq_getElem hj]
    exact hbr
  | false =>
    rw [hL] at hq
    have hba : hdB W n l b a0 = true := by simpa using hq
    refine ⟨i, Nat.le_refl _, ?_⟩
    rw [hgi, mtl, List.mem_filter, (hdB_iff ha0 hb).2 hw0, hba]
    exact ⟨List.mem_range.2 hb, rfl⟩
theorem PL_one {W n : Nat} {l : List Bool} {i j x : Nat} (hi : i < (PL W n l).length) (hj : j < (PL W n l).length) (h1 : x ∈ (PL W n l).getD i []) (h2 : x ∈ (PL W n l).getD j []) : i = j := by
  have hd := (List.pairwise_flatten.1 (PL_flat W n l).1).2
  rw [List.getD_eq_getElem?_getD, List.getElem?_eq_getElem hi] at h1
  rw [List.getD_eq_getElem?_getD, List.getElem?_eq_getElem hj] at h2
  have hp := List.pairwise_iff_getElem.1 hd
  rcases Nat.lt_trichotomy i j with h | h | h
  · exact absurd rfl (hp i j hi hj h x h1 x h2)
  · exact h
  · exact absurd rfl (hp j i hj hi h x h2 x h1)
theorem PL_at {W n : Nat} {l : List Bool} {i : Nat} (hi : i < (PL W n l).length) : Part W n l ((PL W n l).getD i []) :=
  PL_part (by rw [List.getD_eq_getElem?_getD, List.getElem?_eq_getElem hi]; exact List.getElem_mem hi)
theorem wy_map {W n W' n' : Nat} {l l' : List Bool} (ψ : Nat → Nat) (h1 : ∀ a, a < n → ψ a < n') (hov : ∀ a, a < n → ∀ c, c < n → ov W l a c = true → ov W' l' (ψ a) (ψ c) = true) {a b : Nat} (h : Wy (adjT W n l) a b) (ha : a < n) : Wy (adjT W' n' l') (ψ a) (ψ b) := by
  induction h with
  | refl a => exact .refl _
  | step hc hr ih =>
    obtain ⟨h2, h3⟩ := mem_adjT.1 hc
    exact .step (mem_adjT.2 ⟨h1 _ h2, hov _ h2 _ ha h3⟩) (ih h2)
instance (w h n : Int) : Decidable (gOk w h n) := by unfold gOk; infer_instance
def great10 (w h n : Int) : Prop := 200 < n ∨ gOk w h n ∧ 24 < w + h
instance (w h n : Int) : Decidable (great10 w h n) := by unfold great10; infer_instance
def ascTo (n : Int) (l : List Int) (k : Nat) : Prop := ∀ i, i < k → 0 ≤ l.getD i 0 ∧ l.getD i 0 < n ∧ (0 < i → l.getD (i - 1) 0 < l.getD i 0)
def endsOf (w : Int) (s : List Int) : Nat → List Int
  | 0 => []
  | k + 1 => if s.getD k 0 < w then endsOf w s k ++ [s.getD k 0] else endsOf w s k
def picksOf (w : Int) (s : List Int) : Nat → List Int
  | 0 => []
  | k + 1 => if s.getD k 0 < w then picksOf w s k else picksOf w s k ++ [s.getD k 0 - w]
theorem endsOf_len (w : Int) (s : List Int) (k : Nat) : (endsOf w s k).length + (picksOf w s k).length = k := by
  induction k with
  | zero => rfl
  | succ k ih => simp only [endsOf, picksOf]; split <;> simp <;> omega
theorem endsOf_in {w n : Int} {s : List Int} {k : Nat} (h : ascTo n s k) : ∀ j, j < (endsOf w s k).length → 0 ≤ (endsOf w s k).getD j 0 ∧ (endsOf w s k).getD j 0 < w := by
  induction k with
  | zero => intro j hj; simp [endsOf] at hj
  | succ k ih =>
    have ih := ih (fun i hi => h i (by omega))
    intro j hj
    simp only [endsOf] at hj ⊢
    split at hj
    · rename_i hlt
      rw [if_pos hlt]
      by_cases hj2 : j < (endsOf w s k).length
      · simpa [List.getD_eq_getElem?_getD, List.getElem?_append_left hj2] using ih j hj2
      · obtain rfl : j = (endsOf w s k).length := by simp at hj; omega
        have := h k (by omega)
        simp [List.getD_eq_getElem?_getD] at this hlt ⊢
        omega
    · rename_i hlt
      rw [if_neg hlt]
      exact ih j hj
theorem picksOf_in {w n : Int} {s : List Int} {k : Nat} (h : ascTo n s k) : ∀ j, j < (picksOf w s k).length → 0 ≤ (picksOf w s k).getD j 0 ∧ (picksOf w s k).getD j 0 < n - w := by
  induction k with
  | zero => intro j hj; simp [picksOf] at hj
  | succ k ih =>
    have ih := ih (fun i hi => h i (by omega))
    intro j hj
    simp only [picksOf] at hj ⊢
    split at hj
    · rename_i hlt
      rw [if_pos hlt]
      exact ih j hj
    · rename_i hlt
      rw [if_neg hlt]
      by_cases hj2 : j < (picksOf w s k).length
      · simpa [List.getD_eq_getElem?_getD, List.getElem?_append_left hj2] using ih j hj2
      · obtain rfl : j = (picksOf w s k).length := by simp at hj; omega
        have := h k (by omega)
        simp [List.getD_eq_getElem?_getD] at this hlt ⊢
        omega
abbrev LayR (e p : List Int) : AVal := .agg [LR e.isEmpty e, LR p.isEmpty p]
theorem layer_c (w h : Int) (b : Bool) (l : List Bool) (b2 : Bool) (s : List Int) (h1 : 1 ≤ w) (h2 : w ≤ 64) (hs : ascTo 128 s s.length) (hl : s.length ≤ 1000000) : Contract Tryz.prog 42 [GA w h b l, LA b2 s] (LayR (endsOf w s s.length) (picksOf w s s.length)) := by
  refine zi Tryz.func42 ?_
  refine zs ?_
  refine loopK_W [2, 4, 5, 8, 9, 10] (fun k : Nat => k ≤ s.length) (fun k : Nat => ⟨[(2, .ptr 0 0 3), (4, .ptr 1 0 2), (5, .ptr 2 0 2), (8, LA b2 s), (9, I s.length), (10, I k)], [⟨24, 3, [I w, I h, BA b l]⟩, ⟨49, 2, [.cap0 true, .cap0 true]⟩, ⟨49, 2, [gw true 3 (ints (endsOf w s k)), gw true 4 (ints (picksOf w s k))]⟩, go 3 (ints (endsOf w s k)), go 3 (ints (picksOf w s k))]⟩) (fun k => s.length - k) 0 (by omega) ?_ ?_
  · simp only [↓RP, RG, FX, RQ, ↓reduceIte, Nat.reduceEqDiff, reduceCtorEq, Nat.reduceBEq, Nat.reduceAdd, Nat.reduceLeDiff]
    exact Wk.weak (fun t => .refl _) (.cons _ _ _ _ (WL.refl _) (.cons _ _ _ _ (WL.refl _) (.cons _ _ _ _ (.cons (.nil _) (.cons (.nil _) .nil)) (.nil _ (by simp [go, endsOf, picksOf, ints])))))
  intro k hk
  have hlen := endsOf_len w s k
  by_cases hlt : k < s.length
  · have hin := hs k hlt
    by_cases hw : s.getD k 0 < w
    · refine zx1 @append_int ?_
      exact ⟨k + 1, by omega, by rw [endsOf, picksOf, if_pos hw, if_pos hw]; rfl, by omega⟩
    · refine zx1 @append_int ?_
      exact ⟨k + 1, by omega, by rw [endsOf, picksOf, if_neg hw, if_neg hw]; rfl, by omega⟩
  · obtain rfl : k = s.length := by omega
    refine zs ?_
    refine zr1 ?_
    simp only [Bool.true_and, ints_isEmpty]
def uO (w : Int) (l : List Bool) (e p : List Int) (x y : Nat) : Bool := cell w l (e.getD x 0) (p.getD y 0)
abbrev GNo : AVal := .agg [I 0, I 0, .list true true 0 []]
def lastOf (s : List Int) (k : Nat) : Int := if k = 0 then -1 else s.getD (k - 1) 0
theorem onlyP_ok (w h : Int) (b : Bool) (l : List Bool) (b2 : Bool) (s : List Int) (hg : gOk w h l.length) (hl : s.length ≤ 40) (hs : ascTo (w + h) s s.length) (E P : List Int) (hE : E = endsOf w s s.length) (hP : P = picksOf w s s.length) : Contract Tryz.prog 18 [GA w h b l, LA b2 s]
    (.tuple (if E.length = 0 ∨ P.length = 0 then [GNo, I 22] else [GR E.length P.length false (tabN E.length (uO w l E P) (E.length * P.length)), I 0])) := by
  have hz := gchk_ok hg
  obtain ⟨h1, h2, h3, h4, h5⟩ := id hg
  have hEP := endsOf_len w s s.length
  have hEi := endsOf_in (w := w) hs
  have hPi := picksOf_in (w := w) hs
  have hsum := endsOf_len w s s.length
  have hly := layer_c w h b l b2 s h1 h2 (fun i hi => by have := hs i hi; omega) (by omega)
  rw [← hE] at hEi hly hsum
  rw [← hP] at hPi hly hsum
  refine zi Tryz.func18 ?_
  refine zs ?_
  refine zc (gcheckP_c w h b l) ?_
  refine zx1 @hz ?_
  refine loopK_I [1, 2, 4, 5, 7, 22, 23, 24] (fun k : Nat => k ≤ s.length) (fun k : Nat => ⟨[(1, LA b2 s), (2, .ptr 0 0 3), (4, .ptr 1 0 3), (5, I 0), (7, I (lastOf s k)), (22, LA b2 s), (23, I s.length), (24, I k)], [⟨24, 3, [I w, I h, BA b l]⟩, ⟨24, 3, [I 0, I 0, .cap0 true]⟩]⟩) (fun k => s.length - k) 0 (by omega) kz ?_
  intro k hk
  by_cases hlt : k < s.length
  · have hin := hs k hlt
    have ha : ¬ s.getD k 0 ≤ lastOf s k := by
      unfold lastOf
      split
      · omega
      · have := hin.2.2 (by omega); omega
    refine zs ?_
    exact ⟨k + 1, by omega, by simp [lastOf], by omega⟩
  obtain rfl : k = s.length := by omega
  refine zs ?_
  refine zc (hly) ?_
  by_cases he : E.length = 0
  · rw [if_pos (.inl he)]
    refine zs ?_
    exact zq2
  by_cases hp : P.length = 0
  · rw [if_pos (.inr hp)]
    refine zs ?_
    exact zq2
  rw [if_neg (by omega)]
  refine zs ?_
  have hpos := tabN_pos (show 0 < E.length by omega) (show 0 < P.length by omega) (uO w l E P)
  refine loopK_W [2, 4, 10, 11, 63, 64, 65] (fun y : Nat => y ≤ P.length) (fun y : Nat => ⟨[(2, .ptr 0 0 3), (4, .ptr 1 0 3), (10, .ptr 2 0 2), (11, .ptr 3 0 3), (63, LR P.isEmpty P), (64, I P.length), (65, I y)], [⟨24, 3, [I w, I h, BA b l]⟩, ⟨24, 3, [I 0, I 0, .cap0 true]⟩, ⟨49, 2, [LR E.isEmpty E, LR P.isEmpty P]⟩, ⟨24, 3, [I E.length, I P.length, gw true 4 (bools (tabN E.length (uO w l E P) (E.length * y)))]⟩, go 4 (bools (tabN E.length (uO w l E P) (E.length * y)))]⟩) (fun y => P.length - y) 0 (by omega) ?_ ?_
  · simp only [↓RP, RG, FX, RQ, ↓reduceIte, Nat.reduceEqDiff, reduceCtorEq, Nat.reduceBEq, Nat.reduceAdd, Nat.reduceLeDiff]
    exact Wk.weak (fun t => .refl _) (.cons _ _ _ _ (WL.refl _) (.cons _ _ _ _ (WL.refl _) (.cons _ _ _ _ (WL.refl _) (.cons _ _ _ _ (.cons (.refl _) (.cons (.refl _) (.cons (.nil _) .nil))) (.nil _ (by simp [go, bools, tabN]))))))
  intro y hy
  by_cases hy2 : y < P.length
  · refine zs ?_
    refine loopK_I [2, 4, 10, 11, 13, 63, 64, 65, 70, 71, 72] (fun x : Nat => x ≤ E.length) (fun x : Nat => ⟨[(2, .ptr 0 0 3), (4, .ptr 1 0 3), (10, .ptr 2 0 2), (11, .ptr 3 0 3), (13, I (P.getD y 0)), (63, LR P.isEmpty P), (64, I P.length), (65, I y), (70, LR E.isEmpty E), (71, I E.length), (72, I x)], [⟨24, 3, [I w, I h, BA b l]⟩, ⟨24, 3, [I 0, I 0, .cap0 true]⟩, ⟨49, 2, [LR E.isEmpty E, LR P.isEmpty P]⟩, ⟨24, 3, [I E.length, I P.length, gw true 4 (bools (tabN E.length (uO w l E P) (E.length * y + x)))]⟩, go 4 (bools (tabN E.length (uO w l E P) (E.length * y + x)))]⟩) (fun x => E.length - x) 0 (by omega) kz ?_
    intro x hx
    by_cases hx2 : x < E.length
    · have he1 := hEi x hx2
      have hp1 := hPi y hy2
      have hcb := cell_bd (a := P.getD y 0) (b := E.getD x 0) (s := h) (t := w) hp1.1 (by omega) he1.1 he1.2
      have hcm := Int.mul_comm h w
      have hpr := prod64 (w := w) (h := h) (by omega) (by omega) (by omega) (by omega)
      have hb : (tabN E.length (uO w l E P) (E.length * y + x)).length ≤ 1000000000 := by
        rw [tabN_len]
        have : E.length * y ≤ 40 * 40 := Nat.mul_le_mul (by omega) (by omega)
        omega
      refine zx1 @append_bool ?_
      exact ⟨x + 1, by omega, by rw [show E.length * y + (x + 1) = E.length * y + x + 1 from rfl, tabN_succ E.length (uO w l E P) hx2]; rfl, by omega⟩
    · obtain rfl : x = E.length := by omega
      refine zs ?_
      exact ⟨y + 1, by omega, rfl, by omega⟩
  · obtain rfl : y = P.length := by omega
    refine zs ?_
    refine zr2 ?_
    first | done | (rw [bools_isEmpty]; cases hT : tabN E.length (uO w l E P) (E.length * P.length) with | nil => rw [hT] at hpos; simp [bools] at hpos | cons a r => rfl)
theorem ends_lay (W : Nat) (r : List Nat) : ∀ k, k ≤ r.length → endsOf (W : Int) (nI r) k = nI (layE W (r.take k)) ∧ picksOf (W : Int) (nI r) k = nI (layP W (r.take k))
  | 0, _ => ⟨rfl, rfl⟩
  | k + 1, hk => by
    obtain ⟨i1, i2⟩ := ends_lay W r k (by omega)
    obtain ⟨x, hx⟩ : ∃ x, r[k]? = some x := ⟨_, List.getElem?_eq_getElem (by omega)⟩
    have hg : (nI r).getD k 0 = (x : Int) := by simp [nI, List.getD_eq_getElem?_getD, hx]
    have htk : r.take (k + 1) = r.take k ++ [x] := by rw [List.take_add_one, hx]; rfl
    simp only [endsOf, picksOf, hg, htk, layE_snoc, layP_snoc, i1, i2]
    by_cases hxW : x < W
    · have : (x : Int) < (W : Int) := by omega
      simp only [if_pos this, if_pos hxW, List.append_nil, nI_app]
      exact ⟨trivial, trivial⟩
    · have : ¬ (x : Int) < (W : Int) := by omega
      have hs : (x : Int) - (W : Int) = ((x - W : Nat) : Int) := by omega
      simp only [if_neg this, if_neg hxW, List.append_nil, nI_app, hs]
      exact ⟨trivial, trivial⟩
end Go.Proofs.YtllijejobeogdaaGreat
