/- Drafts pruned: they are valid, have the same cloth, and are their own. -/
import Derived.Test.YtoliobpligbbjaaQ3
set_option linter.unusedSimpArgs false
set_option linter.unusedVariables false
set_option maxRecDepth 100000
namespace Go.Proofs.Ytoliobpligbbjaa
open Go Go.Proofs Go.AW

theorem cell_tab {W H : Nat} (u : Nat → Nat → Bool) {x y : Nat} (hx : x < W) (hy : y < H) : cell W (tabN W u (W * H)) x y = u x y := by
  unfold cell
  rw [idx_nat]
  exact tabN_get W u hx (idx_lt hx hy)
theorem tab_own {W H : Nat} {l : List Bool} (hn : l.length = W * H) : tabN W (fun x y => l.getD (W * y + x) false) (W * H) = l := by
  apply List.ext_getElem
  · rw [tabN_len, hn]
  intro i h1 h2
  rw [tabN_len] at h1
  have hT : 0 < W := by rcases Nat.eq_zero_or_pos W with h | h; · subst h; simp at h1
                        · exact h
  have hi : W * (i / W) + i % W = i := Nat.div_add_mod i W
  simp only [tabN, List.getElem_map, List.getElem_range, hi]
  rw [List.getD_eq_getElem?_getD, List.getElem?_eq_getElem h2]; rfl

theorem getD_mem {l : List Int} {i : Nat} (h : i < l.length) : l.getD i 0 ∈ l := by
  rw [List.getD_eq_getElem?_getD, List.getElem?_eq_getElem h]; exact List.getElem_mem h
theorem pos_in {l : List Int} {i : Nat} (h : i < l.length) : (posL (uniq l) l l.length).getD i 0 = (ixI (uniq l) (l.getD i 0) : Int) ∧ ixI (uniq l) (l.getD i 0) < (uniq l).length ∧ (uniq l).getD (ixI (uniq l) (l.getD i 0)) 0 = l.getD i 0 :=
  ⟨posL_get h, ixI_in (((uniq_spec l).2 _).2 (getD_mem h))⟩
theorem pos_win {l : List Int} (h : 0 < l.length) : wIn (posL (uniq l) l l.length) (uniq l).length := by
  refine ⟨by rw [posL_len]; exact h, fun j hj => ?_⟩
  rw [posL_len] at hj
  obtain ⟨h1, h2, _⟩ := pos_in hj
  rw [h1]; omega

/-- The first numbers. -/
def iota (n : Nat) : List Int := (List.range n).map fun i : Nat => (i : Int)
theorem iota_len (n : Nat) : (iota n).length = n := by simp [iota]
theorem iota_get {n i : Nat} (h : i < n) : (iota n).getD i 0 = i := by simp [iota, List.getD_eq_getElem?_getD, List.getElem?_range h]
theorem iota_inc (n : Nat) : (iota n).Pairwise (· < ·) := by
  rw [List.pairwise_iff_getElem]
  intro i j hi hj hij
  simp [iota]; omega
theorem mem_iota {n : Nat} {x : Int} : x ∈ iota n ↔ 0 ≤ x ∧ x < n := by
  simp only [iota, List.mem_map, List.mem_range]
  constructor
  · rintro ⟨i, hi, rfl⟩; omega
  · intro h; exact ⟨x.toNat, by omega, by omega⟩
theorem mem_getD {l : List Int} {x : Int} : x ∈ l ↔ ∃ i, i < l.length ∧ l.getD i 0 = x := by
  rw [List.mem_iff_getElem]
  constructor
  · rintro ⟨i, hi, h⟩; exact ⟨i, hi, by rw [List.getD_eq_getElem?_getD, List.getElem?_eq_getElem hi]; exact h⟩
  · rintro ⟨i, hi, h⟩; exact ⟨i, hi, by rw [List.getD_eq_getElem?_getD, List.getElem?_eq_getElem hi] at h; exact h⟩
theorem inc_inj {u : List Int} (hu : u.Pairwise (· < ·)) {i j : Nat} (hi : i < u.length) (hj : j < u.length) (h : u.getD i 0 = u.getD j 0) : i = j := by
  simp only [List.getD_eq_getElem?_getD, List.getElem?_eq_getElem hi, List.getElem?_eq_getElem hj, Option.getD_some] at h
  rcases Nat.lt_trichotomy i j with h1 | h1 | h1
  · have := List.pairwise_iff_getElem.1 hu i j hi hj h1; omega
  · exact h1
  · have := List.pairwise_iff_getElem.1 hu j i hj hi h1; omega
theorem ixI_iota {n k : Nat} (h : k < n) : ixI (iota n) k = k := by
  obtain ⟨h1, h2⟩ := ixI_in (u := iota n) (x := k) (mem_iota.2 (by omega))
  rw [iota_len] at h1
  rw [iota_get h1] at h2
  omega
/-- The places' different numbers are the first ones. -/
theorem uniq_pos' (l : List Int) : uniq (posL (uniq l) l l.length) = iota (uniq l).length := by
  obtain ⟨hu, hm⟩ := uniq_spec l
  refine uniq_eq (iota_inc _) fun x => ?_
  rw [mem_iota, mem_getD]
  constructor
  · rintro ⟨h1, h2⟩
    obtain ⟨k, rfl⟩ : ∃ k : Nat, x = k := ⟨x.toNat, by omega⟩
    have hk : k < (uniq l).length := by omega
    obtain ⟨i, hi, e⟩ := mem_getD.1 ((hm _).1 (getD_mem hk))
    refine ⟨i, by rw [posL_len]; exact hi, ?_⟩
    obtain ⟨q1, q2, q3⟩ := pos_in hi
    rw [q1, inc_inj hu q2 hk (by rw [q3, e])]
  · rintro ⟨i, hi, e⟩
    rw [posL_len] at hi
    obtain ⟨q1, q2, q3⟩ := pos_in hi
    rw [← e, q1]; omega
theorem pos_pos (l : List Int) : posL (uniq (posL (uniq l) l l.length)) (posL (uniq l) l l.length) (posL (uniq l) l l.length).length = posL (uniq l) l l.length := by
  rw [uniq_pos', posL_len]
  apply List.ext_getElem
  · rw [posL_len, posL_len]
  intro i h1 h2
  have hi : i < l.length := by rw [posL_len] at h1; exact h1
  obtain ⟨q1, q2, q3⟩ := pos_in hi
  have e1 : (posL (iota (uniq l).length) (posL (uniq l) l l.length) l.length).getD i 0 = (posL (uniq l) l l.length).getD i 0 := by
    rw [posL_get hi, q1, ixI_iota q2]
  simpa only [List.getD_eq_getElem?_getD, List.getElem?_eq_getElem h1, List.getElem?_eq_getElem h2, Option.getD_some] using e1

theorem inc_le {u : List Int} (hu : u.Pairwise (· < ·)) {n : Nat} (h : ∀ k, k < u.length → 0 ≤ u.getD k 0 ∧ u.getD k 0 < n) : u.length ≤ n := by
  have hk : ∀ k : Nat, k < u.length → (k : Int) ≤ u.getD k 0 := by
    intro k
    induction k with
    | zero => intro hk; exact (h 0 hk).1
    | succ k ih =>
      intro hk
      have h1 := ih (by omega)
      have h2 := List.pairwise_iff_getElem.1 hu k (k + 1) (by omega) hk (by omega)
      simp only [List.getD_eq_getElem?_getD, List.getElem?_eq_getElem hk, List.getElem?_eq_getElem (show k < u.length by omega), Option.getD_some] at h1 ⊢
      omega
  rcases Nat.eq_zero_or_pos u.length with h0 | h0
  · omega
  · have h1 := hk (u.length - 1) (by omega)
    have h2 := (h (u.length - 1) (by omega)).2
    omega

section
variable {S T : Nat} {th td : List Int} {l : List Bool}

/-- The pruned tie-up. -/
def prT (T : Nat) (th td : List Int) (l : List Bool) : List Bool := tabN (uniq td).length (uP T l (uniq th) (uniq td)) ((uniq td).length * (uniq th).length)
abbrev prL (l : List Int) : List Int := posL (uniq l) l l.length
theorem prT_len : (prT T th td l).length = (uniq td).length * (uniq th).length := tabN_len _ _ _

theorem prune_dok (hd : dOk S T th td T S l.length) : dOk (uniq th).length (uniq td).length (prL th) (prL td) (uniq td).length (uniq th).length (prT T th td l).length := by
  obtain ⟨h1, h2, h3, h4, h5, h6, _, _, _⟩ := hd
  have u1 := uniq_le th
  have u2 := uniq_le td
  have v1 := uniq_pos h5.1
  have v2 := uniq_pos h6.1
  have c1 := inc_le (uniq_spec th).1 (n := S) (fun k hk => uniq_in h5.2 hk)
  have c2 := inc_le (uniq_spec td).1 (n := T) (fun k hk => uniq_in h6.2 hk)
  exact ⟨by omega, by omega, by rw [posL_len]; exact h3, by rw [posL_len]; exact h4, pos_win h5.1, pos_win h6.1, ⟨by omega, by omega, by omega, by omega, by rw [prT_len, Int.natCast_mul]⟩, rfl, rfl⟩

theorem prune_weave (hd : dOk S T th td T S l.length) : tabN (prL th).length (uW (uniq td).length (prL th) (prL td) (prT T th td l)) ((prL th).length * (prL td).length) = tabN th.length (uW T th td l) (th.length * td.length) := by
  rw [posL_len, posL_len]
  refine tabN_congr fun x y hx hy => ?_
  obtain ⟨q1, q2, q3⟩ := pos_in hx
  obtain ⟨r1, r2, r3⟩ := pos_in hy
  unfold uW prT
  rw [q1, r1, cell_tab _ r2 q2]
  unfold uP
  rw [q3, r3]

theorem prune_prune (hd : dOk S T th td T S l.length) : prT (uniq td).length (prL th) (prL td) (prT T th td l) = prT T th td l := by
  have e1 := uniq_pos' th
  have e2 := uniq_pos' td
  have hl : (prT T th td l).length = (uniq td).length * (uniq th).length := prT_len
  generalize prT T th td l = m at *
  unfold prT
  rw [e1, e2, iota_len, iota_len]
  refine Eq.trans (tabN_congr fun x y hx hy => ?_) (tab_own hl)
  unfold uP cell
  rw [iota_get hx, iota_get hy, idx_nat]
end
end Go.Proofs.Ytoliobpligbbjaa
