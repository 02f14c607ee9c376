/- Chapter 21: parts of n neighbours, plainly. -/
import Derived.Test.YtofmbeakbenncaaP3
namespace Go.Proofs.Ytofmbeakbenncaa

theorem get_b {l : List Int} (h : okS l) (k : Nat) : 0 ≤ l.getD k 0 ∧ l.getD k 0 ≤ 4000 := by
  rcases Nat.lt_or_ge k l.length with hk | hk
  · have := h.2.2.1 k hk; have := get_le_sum h.2.2.1 k hk; have := h.2.2.2; omega
  · simp [List.getD, List.getElem?_eq_none hk]

/-- The ends of n dents from i on, around. -/
def prt (l : List Int) (i : Nat) : Nat → Int
  | 0 => 0
  | n + 1 => prt l i n + l.getD ((i + n) % l.length) 0

theorem prt_b {l : List Int} (h : okS l) (i n : Nat) : 0 ≤ prt l i n ∧ prt l i n ≤ 4000 * n := by
  induction n with
  | zero => simp [prt]
  | succ n ih => have := get_b h ((i + n) % l.length); simp only [prt]; omega

theorem prt_slide (l : List Int) (i n : Nat) : prt l (i + 1) n = prt l i n + (l.getD ((i + n) % l.length) 0 - l.getD (i % l.length) 0) := by
  induction n with
  | zero => simp [prt]
  | succ n ih =>
    simp only [prt, ih, show i + 1 + n = i + (n + 1) by omega]
    omega

theorem prt_take (l : List Int) (n : Nat) (hn : n ≤ l.length) : prt l 0 n = (l.take n).sum := by
  induction n with
  | zero => simp [prt]
  | succ n ih => rw [prt, ih (by omega), take_sum l n (by omega), Nat.zero_add, Nat.mod_eq_of_lt (by omega)]

theorem prt_len (l : List Int) (n : Nat) : prt l l.length n = prt l 0 n := by
  induction n with
  | zero => rfl
  | succ n ih => simp only [prt, ih, Nat.zero_add, Nat.add_mod_left]

def plo (l : List Int) (n : Nat) : Nat → Int
  | 0 => prt l 0 n
  | k + 1 => min (plo l n k) (prt l (k + 1) n)
def phi (l : List Int) (n : Nat) : Nat → Int
  | 0 => prt l 0 n
  | k + 1 => max (phi l n k) (prt l (k + 1) n)

theorem plo_le (l : List Int) (n k : Nat) : plo l n k ≤ prt l 0 n := by
  induction k with
  | zero => exact Int.le_refl _
  | succ k ih => simp only [plo]; omega
theorem phi_ge (l : List Int) (n k : Nat) : prt l 0 n ≤ phi l n k := by
  induction k with
  | zero => exact Int.le_refl _
  | succ k ih => simp only [phi]; omega
theorem plo_len (l : List Int) (n : Nat) (h : 1 ≤ l.length) : plo l n l.length = plo l n (l.length - 1) := by
  have e : l.length = l.length - 1 + 1 := by omega
  have h1 := plo_le l n (l.length - 1)
  have h2 := prt_len l n
  rw [e] at h2
  rw [e, plo, h2, Nat.add_sub_cancel]
  omega
theorem phi_len (l : List Int) (n : Nat) (h : 1 ≤ l.length) : phi l n l.length = phi l n (l.length - 1) := by
  have e : l.length = l.length - 1 + 1 := by omega
  have h1 := phi_ge l n (l.length - 1)
  have h2 := prt_len l n
  rw [e] at h2
  rw [e, phi, h2, Nat.add_sub_cancel]
  omega

open Classical in
noncomputable def paE (l : List Int) (n : Int) : Int := if ¬ okS l then 8 else if n < 1 ∨ l.length < n then 2 else 0
noncomputable def paL (l : List Int) (n : Int) : Int := if paE l n = 0 then plo l n.toNat (l.length - 1) else 0
noncomputable def paH (l : List Int) (n : Int) : Int := if paE l n = 0 then phi l n.toNat (l.length - 1) else 0

theorem pa_bad {l : List Int} {n : Int} (h : ¬ okS l) : paE l n = 8 ∧ paL l n = 0 ∧ paH l n = 0 := by
  have : paE l n = 8 := by simp [paE, h]
  simp [paL, paH, this]
theorem pa_size {l : List Int} {n : Int} (h : okS l) (h2 : n < 1 ∨ l.length < n) : paE l n = 2 ∧ paL l n = 0 ∧ paH l n = 0 := by
  have : paE l n = 2 := by simp [paE, h, h2]
  simp [paL, paH, this]
theorem pa_ok {l : List Int} {n : Nat} (h : okS l) (h1 : 1 ≤ n) (h2 : n ≤ l.length) : paE l n = 0 ∧ paL l n = plo l n (l.length - 1) ∧ paH l n = phi l n (l.length - 1) := by
  have : paE l n = 0 := by
    rw [paE, if_neg (not_not_intro h), if_neg (by omega)]
  simp [paL, paH, this]

end Go.Proofs.Ytofmbeakbenncaa
