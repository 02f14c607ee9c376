/- Chapter 21: how the program fills a reed, plainly. -/
import Derived.Test.YtofmbeakbenncaaP5
namespace Go.Proofs.Ytofmbeakbenncaa

def frem (l : List Int) (n : Int) : Nat → Int
  | 0 => n
  | k + 1 => frem l n k - min (l.getD (k % l.length) 0) (frem l n k)
def fsq (l : List Int) (n : Int) : Nat → List Int
  | 0 => []
  | k + 1 => fsq l n k ++ [min (l.getD (k % l.length) 0) (frem l n k)]

theorem fsq_length (l : List Int) (n : Int) (k : Nat) : (fsq l n k).length = k := by
  induction k with
  | zero => rfl
  | succ k ih => simp [fsq, ih]

theorem fr_le {l : List Int} (h : okS l) {n : Int} (k : Nat) (hk : prt l 0 k ≤ n) : frem l n k = n - prt l 0 k ∧ fsq l n k = rep l k := by
  induction k with
  | zero => simp [frem, prt, fsq, rep]
  | succ k ih =>
    have := prt_mono h 0 (show k ≤ k + 1 by omega)
    obtain ⟨h1, h2⟩ := ih (by omega)
    have e : min (l.getD (k % l.length) 0) (frem l n k) = l.getD (k % l.length) 0 := by
      rw [h1]; simp only [prt, Nat.zero_add] at hk; omega
    simp only [frem, fsq, e, rep, prt, Nat.zero_add]
    rw [h1, h2]
    exact ⟨by omega, rfl⟩

theorem fr_last {l : List Int} (h : okS l) {n : Int} {K : Nat} (hK : LastD l n K) : frem l n (K + 1) = 0 ∧ fsq l n (K + 1) = rep l K ++ [n - prt l 0 K] := by
  obtain ⟨k1, k2, k3⟩ := hK
  obtain ⟨h1, h2⟩ := fr_le h (n := n) K (by omega)
  have e : min (l.getD (K % l.length) 0) (frem l n K) = n - prt l 0 K := by
    rw [h1]; simp only [prt, Nat.zero_add] at k3; omega
  simp only [frem, fsq, e]
  rw [h1, h2]
  exact ⟨by omega, rfl⟩

end Go.Proofs.Ytofmbeakbenncaa
