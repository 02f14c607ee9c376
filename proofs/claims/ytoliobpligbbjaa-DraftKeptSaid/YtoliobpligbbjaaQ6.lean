/- Drafts renumbered there and back. -/
import Derived.Test.YtoliobpligbbjaaQ4
import Derived.Test.YtoliobpligbbjaaR4
set_option linter.unusedSimpArgs false
set_option linter.unusedVariables false
set_option maxRecDepth 100000
namespace Go.Proofs.Ytoliobpligbbjaa
open Go Go.Proofs Go.AW

theorem once_inj {l : List Int} {n : Nat} (ho : once l n n) {i j : Nat} (hi : i < n) (hj : j < n) (h : l.getD i 0 = l.getD j 0) : i = j := by
  rcases Nat.lt_trichotomy i j with h1 | h1 | h1
  · exact absurd h ((ho j hj).2.2 i h1)
  · exact h1
  · exact absurd h.symm ((ho i hi).2.2 j h1)
theorem inv_of {l : List Int} {n : Nat} (hl : l.length = n) (ho : once l n n) {v : Nat} (hv : v < n) : ∃ i, i < n ∧ l.getD i 0 = (v : Int) ∧ (invL l n n).getD v 0 = (i : Int) := by
  rcases invL_at ho v hv with h | ⟨h1, _⟩
  · exact h
  · obtain ⟨i, hi, e⟩ := (each_once.2 ⟨hl, ho⟩).2 v hv
    exact absurd e (h1 i (by omega))
theorem inv_at {l : List Int} {n : Nat} (hl : l.length = n) (ho : once l n n) {i : Nat} (hi : i < n) : ∃ v : Nat, v < n ∧ l.getD i 0 = (v : Int) ∧ (invL l n n).getD v 0 = (i : Int) := by
  obtain ⟨h1, h2, _⟩ := ho i hi
  obtain ⟨v, hv⟩ : ∃ v : Nat, l.getD i 0 = v := ⟨(l.getD i 0).toNat, by omega⟩
  obtain ⟨j, hj, e1, e2⟩ := inv_of hl ho (v := v) (by omega)
  have := once_inj ho hi hj (by rw [hv, e1])
  subst this
  exact ⟨v, by omega, hv, e2⟩
theorem inv_once {l : List Int} {n : Nat} (hl : l.length = n) (ho : once l n n) : once (invL l n n) n n := by
  intro v hv
  obtain ⟨i, hi, e1, e2⟩ := inv_of hl ho hv
  refine ⟨by omega, by omega, fun w hw h => ?_⟩
  obtain ⟨j, hj, e3, e4⟩ := inv_of hl ho (show w < n by omega)
  have : i = j := by omega
  subst this
  omega
theorem inv_inv {l : List Int} {n : Nat} (hl : l.length = n) (ho : once l n n) : invL (invL l n n) n n = l := by
  have hq := invL_len l n n
  have hi := inv_once hl ho
  apply List.ext_getElem
  · rw [invL_len, hl]
  intro v h1 h2
  have hv : v < n := by rw [invL_len] at h1; exact h1
  obtain ⟨i, q1, q2, q3⟩ := inv_of hq hi hv
  obtain ⟨w, w1, w2, w3⟩ := inv_at hl ho hv
  have : i = w := once_inj hi q1 w1 (by rw [q2, w3])
  subst this
  have e : (invL (invL l n n) n n).getD v 0 = l.getD v 0 := by rw [q3, w2]
  simpa only [List.getD_eq_getElem?_getD, List.getElem?_eq_getElem h1, List.getElem?_eq_getElem h2, Option.getD_some] using e

theorem mapd_get {l m : List Int} {k i : Nat} (h : i < k) : (mapd l m k).getD i 0 = m.getD (l.getD i 0).toNat 0 := by
  simp [mapd, List.getD_eq_getElem?_getD, List.getElem?_range h]
theorem mapd_win {l m : List Int} {n : Nat} (hl : wIn l n) (hm : m.length = n) (ho : once m n n) : wIn (mapd l m l.length) n := by
  refine ⟨by rw [mapd_len]; exact hl.1, fun j hj => ?_⟩
  rw [mapd_len] at hj
  have h1 := hl.2 j hj
  rw [mapd_get hj]
  have := ho (l.getD j 0).toNat (by omega)
  exact ⟨this.1, this.2.1⟩
theorem mapd_back {l m : List Int} {n : Nat} (hl : wIn l n) (hm : m.length = n) (ho : once m n n) : mapd (mapd l m l.length) (invL m n n) (mapd l m l.length).length = l := by
  apply List.ext_getElem
  · rw [mapd_len, mapd_len]
  intro i h1 h2
  have hi : i < (mapd l m l.length).length := by rw [mapd_len] at h1; exact h1
  have h3 := hl.2 i h2
  obtain ⟨k, hk⟩ : ∃ k : Nat, l.getD i 0 = k := ⟨(l.getD i 0).toNat, by omega⟩
  obtain ⟨v, v1, v2, v3⟩ := inv_at hm ho (show k < n by omega)
  have e : (mapd (mapd l m l.length) (invL m n n) (mapd l m l.length).length).getD i 0 = l.getD i 0 := by
    rw [mapd_get hi, mapd_get h2, hk, Int.toNat_natCast, v2, Int.toNat_natCast, v3]
  simpa only [List.getD_eq_getElem?_getD, List.getElem?_eq_getElem h1, List.getElem?_eq_getElem h2, Option.getD_some] using e

section
variable {S T : Nat} {th td s t : List Int} {l : List Bool}
/-- The tie-up, numbered anew. -/
def rnT (S T : Nat) (s t : List Int) (l : List Bool) : List Bool := tabN T (uN T l (invL s S S) (invL t T T)) (T * S)
theorem rnT_len : (rnT S T s t l).length = T * S := tabN_len _ _ _

theorem ren_dok (hd : dOk S T th td T S l.length) (hs : s.length = S) (ht : t.length = T) (os : once s S S) (ot : once t T T) : dOk S T (mapd th s th.length) (mapd td t td.length) T S (rnT S T s t l).length := by
  obtain ⟨h1, h2, h3, h4, h5, h6, ⟨g1, g2, g3, g4, g5⟩, _, _⟩ := hd
  exact ⟨h1, h2, by rw [mapd_len]; exact h3, by rw [mapd_len]; exact h4, mapd_win h5 hs os, mapd_win h6 ht ot, ⟨g1, g2, g3, g4, by rw [rnT_len, Int.natCast_mul]⟩, rfl, rfl⟩

theorem ren_weave (hd : dOk S T th td T S l.length) (hs : s.length = S) (ht : t.length = T) (os : once s S S) (ot : once t T T) :
    tabN (mapd th s th.length).length (uW T (mapd th s th.length) (mapd td t td.length) (rnT S T s t l)) ((mapd th s th.length).length * (mapd td t td.length).length) = tabN th.length (uW T th td l) (th.length * td.length) := by
  rw [mapd_len, mapd_len]
  refine tabN_congr fun x y hx hy => ?_
  have w1 := hd.2.2.2.2.1.2 x hx
  have w2 := hd.2.2.2.2.2.1.2 y hy
  obtain ⟨a, ha⟩ : ∃ a : Nat, th.getD x 0 = a := ⟨(th.getD x 0).toNat, by omega⟩
  obtain ⟨b, hb⟩ : ∃ b : Nat, td.getD y 0 = b := ⟨(td.getD y 0).toNat, by omega⟩
  obtain ⟨v, v1, v2, v3⟩ := inv_at hs os (show a < S by omega)
  obtain ⟨u, u1, u2, u3⟩ := inv_at ht ot (show b < T by omega)
  unfold uW rnT
  rw [mapd_get hx, mapd_get hy, ha, hb, Int.toNat_natCast, Int.toNat_natCast, v2, u2, cell_tab _ u1 v1]
  unfold uN
  rw [v3, u3]

theorem ren_back (hn : l.length = T * S) (hs : s.length = S) (ht : t.length = T) (os : once s S S) (ot : once t T T) : rnT S T (invL s S S) (invL t T T) (rnT S T s t l) = l := by
  refine Eq.trans ?_ (tab_own hn)
  show tabN T (uN T (rnT S T s t l) (invL (invL s S S) S S) (invL (invL t T T) T T)) (T * S) = _
  rw [inv_inv hs os, inv_inv ht ot]
  refine tabN_congr fun x y hx hy => ?_
  obtain ⟨v, v1, v2, v3⟩ := inv_at hs os hy
  obtain ⟨u, u1, u2, u3⟩ := inv_at ht ot hx
  have e : uN T (rnT S T s t l) s t x y = cell T (rnT S T s t l) (t.getD x 0) (s.getD y 0) := rfl
  rw [e, v2, u2]
  unfold rnT
  rw [cell_tab _ u1 v1]
  unfold uN cell
  rw [v3, u3, idx_nat]
end

/-- The inverse, laid into zeros. -/
def zL (l : List Int) (n : Nat) : Nat → List Int
  | 0 => List.replicate n 0
  | k + 1 => (zL l n k).set (l.getD k 0).toNat (k : Int)
theorem zL_len (l : List Int) (n k : Nat) : (zL l n k).length = n := by
  induction k with
  | zero => simp [zL]
  | succ k ih => simp [zL, ih]
theorem zL_inv {l : List Int} {n : Nat} (hl : l.length = n) (ho : once l n n) : zL l n n = invL l n n := by
  have h : ∀ k, k ≤ n → ∀ v : Nat, v < n → (∃ i, i < k ∧ l.getD i 0 = (v : Int)) → (zL l n k).getD v 0 = (invL l n k).getD v 0 := by
    intro k
    induction k with
    | zero => intro _ v _ ⟨i, hi, _⟩; omega
    | succ k ih =>
      intro hk v hv ⟨i, hi, e⟩
      have hz := zL_len l n k
      have hq := invL_len l n k
      simp only [zL, invL, List.getD_eq_getElem?_getD, List.getElem?_set]
      by_cases hvk : (l[k]?.getD 0).toNat = v
      · rw [if_pos hvk, if_pos hvk, if_pos (by omega), if_pos (by omega)]
      · rw [if_neg hvk, if_neg hvk]
        have hik : i ≠ k := fun e' => hvk (by rw [← List.getD_eq_getElem?_getD, ← e', e, Int.toNat_natCast])
        have := ih (by omega) v hv ⟨i, by omega, e⟩
        simpa only [List.getD_eq_getElem?_getD] using this
  apply List.ext_getElem
  · rw [zL_len, invL_len]
  intro v h1 h2
  have hv : v < n := by rw [zL_len] at h1; exact h1
  obtain ⟨i, hi, e, _⟩ := inv_of hl ho hv
  have := h n (Nat.le_refl _) v hv ⟨i, hi, e⟩
  simpa only [List.getD_eq_getElem?_getD, List.getElem?_eq_getElem h1, List.getElem?_eq_getElem h2, Option.getD_some] using this
end Go.Proofs.Ytoliobpligbbjaa
