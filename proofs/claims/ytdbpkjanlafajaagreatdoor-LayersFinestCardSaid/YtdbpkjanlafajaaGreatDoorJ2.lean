/- Part 2 of the proof's own texts: the contracts of functions, and what they rest on. -/
import Derived.Test.YtdbpkjanlafajaaGreatDoorJ1
import Derived.Test.YtdbpkjanlafajaaGreatDoorBw5
import Derived.Test.YtdbpkjanlafajaaGreatDoorBw4
/- The least set, of both. -/
set_option linter.unusedSimpArgs false
set_option linter.unusedVariables false
set_option maxRecDepth 100000
namespace Go.Proofs.YtdbpkjanlafajaaGreatDoor
open Go Go.Proofs Go.AW

theorem inner_keep {n c a : Nat} (hc : c < n) : ∀ (adj : List Nat) (far : List Int) (q : List Nat), (∀ b ∈ adj, b < n) → Sound n far q → 0 ≤ far.getD a 0 → 0 ≤ (inner c adj (far, q)).1.getD a 0
  | [], far, q, _, _, h => h
  | b :: r, far, q, ha, hs, h => by
    have ha' : ∀ x ∈ r, x < n := fun x hx => ha x (List.mem_cons_of_mem _ hx)
    simp only [inner]
    split
    · rename_i hneg
      obtain ⟨h1, h2⟩ := hs.push (ha b List.mem_cons_self) hc hneg
      refine inner_keep hc r _ _ ha' h1 ?_
      have hb : b < far.length := by rw [hs.len]; exact ha b List.mem_cons_self
      rw [getD_set' hb]
      have hab : a ≠ b := fun e => by subst e; omega
      rw [if_neg hab]; exact h
    · exact inner_keep hc r far q ha' hs h
theorem bfs_keep {n a : Nat} {adj : Nat → List Nat} (ha : ∀ c, c < n → ∀ b ∈ adj c, b < n) : ∀ (k : Nat) (far : List Int) (q : List Nat), Sound n far q → 0 ≤ far.getD a 0 → 0 ≤ (bfs adj k far q).getD a 0
  | 0, far, q, _, h => h
  | k + 1, far, [], _, h => h
  | k + 1, far, c :: q, hs, h =>
    have hc := hs.mem c List.mem_cons_self
    bfs_keep ha k _ _ (inner_ok hc (adj c) far q (ha c hc) hs.tail).1 (inner_keep hc (adj c) far q (ha c hc) hs.tail h)
theorem srch_self {W n : Nat} (l : List Bool) {a : Nat} (ha : a < n) : 0 ≤ (srch (adjT W n l) (far0 n a) [a]).getD a 0 := by
  refine bfs_keep (fun c hc x hx => adjT_lt hx) _ _ _ (far0_sound ha).1 ?_
  unfold far0
  rw [getD_set' (by simpa using ha), if_pos rfl]; omega
theorem upN_pos {far : List Int} {a : Nat} (h : 0 ≤ far.getD a 0) : ∀ k, a < k → 0 < (upN far k).length := by
  intro k
  induction k with
  | zero => intro h; omega
  | succ k ih =>
    intro hk
    simp only [upN]
    by_cases e : a = k
    · subst e; rw [if_pos h]; simp
    · have := ih (by omega)
      split
      · simp
      · exact this
theorem upon_pos {W n : Nat} (l : List Bool) {a : Nat} (ha : a < n) : 0 < (upon W n l a).length := upN_pos (srch_self l ha) n ha
theorem upon_le (W n : Nat) (l : List Bool) (a : Nat) : (upon W n l a).length ≤ n := upN_le _ _
theorem isEmpty_pos {l : List Int} (h : 0 < l.length) : l.isEmpty = false := by cases l with | nil => simp at h | cons x r => rfl

/-- The one is the less. -/
def less (x y : List Int) : Prop := x.length < y.length ∨ x.length = y.length ∧ x.getD 0 0 < y.getD 0 0
instance (x y : List Int) : Decidable (less x y) := by unfold less; infer_instance
/-- The least of the first k + 1. -/
def best (W n : Nat) (l : List Bool) : Nat → List Int
  | 0 => upon W n l 0
  | k + 1 => if less (upon W n l (k + 1)) (best W n l k) then upon W n l (k + 1) else best W n l k
theorem best_ok {W n : Nat} (l : List Bool) : ∀ k, k < n → 0 < (best W n l k).length ∧ (best W n l k).length ≤ n := by
  intro k
  induction k with
  | zero => intro h; exact ⟨upon_pos l h, upon_le _ _ _ _⟩
  | succ k ih =>
    intro h
    simp only [best]
    split
    · exact ⟨upon_pos l h, upon_le _ _ _ _⟩
    · exact ih (by omega)

end Go.Proofs.YtdbpkjanlafajaaGreatDoor

/- The least set, by the program; Apart and Hangs of both. -/
set_option linter.unusedSimpArgs false
set_option linter.unusedVariables false
set_option maxRecDepth 100000
namespace Go.Proofs.YtdbpkjanlafajaaGreatDoor
open Go Go.Proofs Go.AW

def bst (W n : Nat) (l : List Bool) : Nat → AVal
  | 0 => .cap0 true
  | k + 1 => LR false (best W n l k)
theorem argOf_LL (h : List AObj) (m : Nat) (rs : List (List Int)) : (LL rs).map (argOf h (m + 2)) = LLa rs := by
  simp only [LL, LLa, List.map_map]
  refine List.map_congr_left fun r _ => ?_
  show argOf h (m + 2) (LR r.isEmpty r) = LA r.isEmpty r
  simp only [LR, LA, RA]
theorem firstP_c {W n : Nat} (hn0 : 0 < n) (hn : n ≤ 64) (l : List Bool) (lz : List AVal) :
    Contract Tryz.prog 51 [.agg [.list false false n lz, .list false false n (LLa (abv W n l))]] (LR false (best W n l (n - 1))) := by
  have hre : ∀ (a : Nat), a < n → Contract Tryz.prog 73 [.list false false n (LLa (abv W n l)), I a] (LR false (srch (adjT W n l) (far0 n a) [a])) := fun a ha => reached_c hn l ha
  have hag : ∀ (h : List AObj) (m : Nat), (LLa (abv W n l)).map (argOf h (m + 2)) = LLa (abv W n l) := by
    intro h m
    simp only [LLa, List.map_map]
    refine List.map_congr_left fun r _ => ?_
    show argOf h (m + 2) (LA r.isEmpty r) = LA r.isEmpty r
    simp only [LA, RA]
  generalize LLa (abv W n l) = lb at *
  refine Contract.intro (effS [] false) 6 follows Tryz.func51 rfl rfl (by kernel_rfl) (Nat.le_of_ble_eq_true rfl) ?_
  simp (disch := first | assumption | omega | rfl | simp only [RH]) only [↓RP, RG, FX, RQ, ↓reduceIte, Nat.reduceEqDiff, reduceCtorEq, Nat.reduceBEq, Nat.reduceAdd, Nat.reduceLeDiff, args0_1]
  refine loopK_I [1, 3, 8, 9] (fun k : Nat => k ≤ n) (fun k : Nat => ⟨[(1, .ptr 0 0 2), (3, bst W n l k), (8, I n), (9, I k)], [⟨63, 2, [.list false false n lz, .list false false n lb]⟩]⟩) (fun k => n - k) 0 (by omega) (by simp only [↓RP, RG, FX, RQ, ↓reduceIte, Nat.reduceEqDiff, reduceCtorEq, Nat.reduceBEq, Nat.reduceAdd, Nat.reduceLeDiff]; rfl) ?_
  intro k hk
  by_cases hlt : k < n
  · have hfl := srch_len (W := W) l hlt
    have hR := hre k hlt
    have hup : upon W n l k = upN (srch (adjT W n l) (far0 n k) [k]) n := rfl
    have u1 := upon_pos (W := W) l hlt
    have u2 := upon_le W n l k
    have hwh := where_c false (srch (adjT W n l) (far0 n k) [k]) (by omega)
    rw [hfl, ← hup, isEmpty_pos u1] at hwh
    generalize srch (adjT W n l) (far0 n k) [k] = far at *
    cases k with
    | zero =>
      have hb : best W n l 0 = upon W n l 0 := rfl
      generalize upon W n l 0 = x at *
      simp (disch := first | assumption | omega | rfl | simp only [RH]) only [↓RP, RG, FX, RQ, ↓reduceIte, Nat.reduceEqDiff, reduceCtorEq, Nat.reduceBEq, Nat.reduceAdd, Nat.reduceLeDiff]
      refine callK_F 6 hR (by simp (disch := first | assumption | omega | rfl | simp only [RH]) only [↓RP, RG, FX, RQ, ↓reduceIte, Nat.reduceEqDiff, reduceCtorEq, Nat.reduceBEq, Nat.reduceAdd, Nat.reduceLeDiff, RA, hag] <;> rfl) (.inl (by simp [allFresh, ints_fresh])) ?_
      simp (disch := first | assumption | omega | rfl | simp only [RH]) only [↓RP, RG, FX, RQ, ↓reduceIte, Nat.reduceEqDiff, reduceCtorEq, Nat.reduceBEq, Nat.reduceAdd, Nat.reduceLeDiff]
      refine callK_F 6 hwh (by simp (disch := first | assumption | omega | rfl | simp only [RH]) only [↓RP, RG, FX, RQ, ↓reduceIte, Nat.reduceEqDiff, reduceCtorEq, Nat.reduceBEq, Nat.reduceAdd, Nat.reduceLeDiff, RA] <;> rfl) (.inl (by simp [allFresh, ints_fresh])) ?_
      simp (disch := first | assumption | omega | rfl | simp only [RH]) only [↓RP, RG, FX, RQ, ↓reduceIte, Nat.reduceEqDiff, reduceCtorEq, Nat.reduceBEq, Nat.reduceAdd, Nat.reduceLeDiff, bst]
      exact ⟨1, by omega, by rw [← hb]; rfl, by omega⟩
    | succ k =>
      obtain ⟨b1, b2⟩ := best_ok (W := W) (n := n) l k (by omega)
      have hbs : best W n l (k + 1) = if less (upon W n l (k + 1)) (best W n l k) then upon W n l (k + 1) else best W n l k := rfl
      have hb1 : bst W n l (k + 1) = LR false (best W n l k) := rfl
      have hb2 : bst W n l (k + 1 + 1) = LR false (best W n l (k + 1)) := rfl
      generalize upon W n l (k + 1) = x at *
      generalize best W n l k = y at *
      rw [hb1]
      simp (disch := first | assumption | omega | rfl | simp only [RH]) only [↓RP, RG, FX, RQ, ↓reduceIte, Nat.reduceEqDiff, reduceCtorEq, Nat.reduceBEq, Nat.reduceAdd, Nat.reduceLeDiff]
      refine callK_F 6 hR (by simp (disch := first | assumption | omega | rfl | simp only [RH]) only [↓RP, RG, FX, RQ, ↓reduceIte, Nat.reduceEqDiff, reduceCtorEq, Nat.reduceBEq, Nat.reduceAdd, Nat.reduceLeDiff, RA, hag] <;> rfl) (.inl (by simp [allFresh, ints_fresh])) ?_
      simp (disch := first | assumption | omega | rfl | simp only [RH]) only [↓RP, RG, FX, RQ, ↓reduceIte, Nat.reduceEqDiff, reduceCtorEq, Nat.reduceBEq, Nat.reduceAdd, Nat.reduceLeDiff]
      refine callK_F 6 hwh (by simp (disch := first | assumption | omega | rfl | simp only [RH]) only [↓RP, RG, FX, RQ, ↓reduceIte, Nat.reduceEqDiff, reduceCtorEq, Nat.reduceBEq, Nat.reduceAdd, Nat.reduceLeDiff, RA] <;> rfl) (.inl (by simp [allFresh, ints_fresh])) ?_
      by_cases c1 : x.length < y.length
      · have hl : less x y := .inl c1
        rw [if_pos hl] at hbs
        simp (disch := first | assumption | omega | rfl | simp only [RH]) only [↓RP, RG, FX, RQ, ↓reduceIte, Nat.reduceEqDiff, reduceCtorEq, Nat.reduceBEq, Nat.reduceAdd, Nat.reduceLeDiff]
        exact ⟨k + 1 + 1, hlt, by rw [hb2, hbs]; rfl, by omega⟩
      · by_cases c2 : x.length = y.length
        · by_cases c3 : x.getD 0 0 < y.getD 0 0
          · have hl : less x y := .inr ⟨c2, c3⟩
            rw [if_pos hl] at hbs
            simp (disch := first | assumption | omega | rfl | simp only [RH]) only [↓RP, RG, FX, RQ, ↓reduceIte, Nat.reduceEqDiff, reduceCtorEq, Nat.reduceBEq, Nat.reduceAdd, Nat.reduceLeDiff, Int.toNat_zero]
            exact ⟨k + 1 + 1, hlt, by rw [hb2, hbs]; rfl, by omega⟩
          · have hl : ¬ less x y := fun h => h.elim c1 fun h => c3 h.2
            rw [if_neg hl] at hbs
            simp (disch := first | assumption | omega | rfl | simp only [RH]) only [↓RP, RG, FX, RQ, ↓reduceIte, Nat.reduceEqDiff, reduceCtorEq, Nat.reduceBEq, Nat.reduceAdd, Nat.reduceLeDiff, Int.toNat_zero]
            exact ⟨k + 1 + 1, hlt, by rw [hb2, hbs]; rfl, by omega⟩
        · have hl : ¬ less x y := fun h => h.elim c1 fun h => c2 h.1
          rw [if_neg hl] at hbs
          simp (disch := first | assumption | omega | rfl | simp only [RH]) only [↓RP, RG, FX, RQ, ↓reduceIte, Nat.reduceEqDiff, reduceCtorEq, Nat.reduceBEq, Nat.reduceAdd, Nat.reduceLeDiff]
          exact ⟨k + 1 + 1, hlt, by rw [hb2, hbs]; rfl, by omega⟩
  · obtain rfl : k = n := by omega
    obtain ⟨m, rfl⟩ : ∃ m, k = m + 1 := ⟨k - 1, by omega⟩
    have hb1 : bst W (m + 1) l (m + 1) = LR false (best W (m + 1) l m) := rfl
    rw [hb1, show m + 1 - 1 = m from rfl]
    simp (disch := first | assumption | omega | rfl | simp only [RH]) only [↓RP, RG, FX, RQ, ↓reduceIte, Nat.reduceEqDiff, reduceCtorEq, Nat.reduceBEq, Nat.reduceAdd, Nat.reduceLeDiff]
    rw [resVal_1 rfl]; simp (disch := first | assumption | omega | rfl | simp only [RH]) only [↓RP, RG, FX, RQ, ↓reduceIte, Nat.reduceEqDiff, reduceCtorEq, Nat.reduceBEq, Nat.reduceAdd, Nat.reduceLeDiff, RS]
end Go.Proofs.YtdbpkjanlafajaaGreatDoor

/- Apart and Hangs, of both. -/
set_option linter.unusedSimpArgs false
set_option linter.unusedVariables false
set_option maxRecDepth 100000
namespace Go.Proofs.YtdbpkjanlafajaaGreatDoor
open Go Go.Proofs Go.AW

/-- The part that comes apart; none: it hangs together. -/
def apt (W n : Nat) (l : List Bool) : List Int := if (best W n l (n - 1)).length = n then [] else best W n l (n - 1)
theorem apartP_c {W H n : Nat} (hN : W + H = n) (hW0 : 0 < W) (hH0 : 0 < H) (hn40 : n ≤ 64) (b : Bool) {l : List Bool} (hn : l.length = W * H) :
    Contract Tryz.prog 29 [GA W H b l] (.tuple [LR (apt W n l).isEmpty (apt W n l), I 0]) := by
  have hz : gchk W H l.length = 0 := gchk_ok ⟨by omega, by omega, by omega, by omega, by rw [hn, Int.natCast_mul]⟩
  have hNc : (W : Int) + (H : Int) = (n : Int) := by omega
  have hO := order_c hN hW0 hH0 (by omega) (by omega) b hn
  have hF := fun lz => firstP_c (W := W) (n := n) (by omega) hn40 l lz
  obtain ⟨b1, b2⟩ := best_ok (W := W) (n := n) l (n - 1) (by omega)
  have hag : ∀ (h : List AObj) (m : Nat), (LL (abv W n l)).map (argOf h (m + 2)) = LLa (abv W n l) := fun h m => argOf_LL h m _
  have hag2 : ∀ (h : List AObj) (m : Nat), (LL (bel W n l)).map (argOf h (m + 2)) = LLa (bel W n l) := fun h m => argOf_LL h m _
  have hap : apt W n l = if (best W n l (n - 1)).length = n then [] else best W n l (n - 1) := rfl
  generalize LLa (abv W n l) = lb at *
  generalize LLa (bel W n l) = lc at *
  generalize LL (abv W n l) = la at *
  generalize LL (bel W n l) = ld at *
  generalize best W n l (n - 1) = x at *
  generalize apt W n l = y at *
  refine Contract.intro (effS [] false) 6 follows Tryz.func29 rfl rfl (by kernel_rfl) (Nat.le_of_ble_eq_true rfl) ?_
  simp (disch := first | assumption | omega | rfl | simp only [RH]) only [↓RP, RG, FX, RQ, ↓reduceIte, Nat.reduceEqDiff, reduceCtorEq, Nat.reduceBEq, Nat.reduceAdd, Nat.reduceLeDiff, args0_1]
  refine callK_F 6 (gcheckP_c W H b l) (by simp (disch := first | assumption | omega | rfl | simp only [RH]) only [↓RP, RG, FX, RQ, ↓reduceIte, Nat.reduceEqDiff, reduceCtorEq, Nat.reduceBEq, Nat.reduceAdd, Nat.reduceLeDiff, RA] <;> rfl) (.inl (by simp [allFresh, ints_fresh, bools_fresh])) ?_
  simp (disch := first | assumption | omega | rfl | simp only [RH]) only [↓RP, RG, FX, RQ, ↓reduceIte, Nat.reduceEqDiff, reduceCtorEq, Nat.reduceBEq, Nat.reduceAdd, Nat.reduceLeDiff, hz]
  refine callK_F 6 hO (by simp (disch := first | assumption | omega | rfl | simp only [RH]) only [↓RP, RG, FX, RQ, ↓reduceIte, Nat.reduceEqDiff, reduceCtorEq, Nat.reduceBEq, Nat.reduceAdd, Nat.reduceLeDiff, RA] <;> rfl) (.inr (by simp [noRef, bools_noRef])) ?_
  simp (disch := first | assumption | omega | rfl | simp only [RH]) only [↓RP, RG, FX, RQ, ↓reduceIte, Nat.reduceEqDiff, reduceCtorEq, Nat.reduceBEq, Nat.reduceAdd, Nat.reduceLeDiff]
  refine callK_F 6 (hF lc) (by simp (disch := first | assumption | omega | rfl | simp only [RH]) only [↓RP, RG, FX, RQ, ↓reduceIte, Nat.reduceEqDiff, reduceCtorEq, Nat.reduceBEq, Nat.reduceAdd, Nat.reduceLeDiff, RA, hag, hag2] <;> rfl) (.inl (by simp [allFresh, ints_fresh])) ?_
  by_cases c : x.length = n
  · rw [if_pos c] at hap
    subst hap
    simp (disch := first | assumption | omega | rfl | simp only [RH]) only [↓RP, RG, FX, RQ, ↓reduceIte, Nat.reduceEqDiff, reduceCtorEq, Nat.reduceBEq, Nat.reduceAdd, Nat.reduceLeDiff, hNc]
    rw [resVal_2 rfl]; simp (disch := first | assumption | omega | rfl | simp only [RH]) only [↓RP, RG, FX, RQ, ↓reduceIte, Nat.reduceEqDiff, reduceCtorEq, Nat.reduceBEq, Nat.reduceAdd, Nat.reduceLeDiff, RS]
    first | done | rfl
  · rw [if_neg c] at hap
    subst hap
    simp (disch := first | assumption | omega | rfl | simp only [RH]) only [↓RP, RG, FX, RQ, ↓reduceIte, Nat.reduceEqDiff, reduceCtorEq, Nat.reduceBEq, Nat.reduceAdd, Nat.reduceLeDiff, hNc]
    rw [resVal_2 rfl]; simp (disch := first | assumption | omega | rfl | simp only [RH]) only [↓RP, RG, FX, RQ, ↓reduceIte, Nat.reduceEqDiff, reduceCtorEq, Nat.reduceBEq, Nat.reduceAdd, Nat.reduceLeDiff, RS]
    first | done | (rw [isEmpty_pos b1]; rfl) | rw [isEmpty_pos b1]
theorem hangsP_c {W H n : Nat} (hN : W + H = n) (hW0 : 0 < W) (hH0 : 0 < H) (hn40 : n ≤ 64) (b : Bool) {l : List Bool} (hn : l.length = W * H) :
    Contract Tryz.prog 8 [GA W H b l] (.tuple [B (decide ((best W n l (n - 1)).length = n)), I 0]) := by
  have hF := apartP_c hN hW0 hH0 hn40 b hn
  obtain ⟨b1, b2⟩ := best_ok (W := W) (n := n) l (n - 1) (by omega)
  have hap : apt W n l = if (best W n l (n - 1)).length = n then [] else best W n l (n - 1) := rfl
  generalize best W n l (n - 1) = x at *
  generalize apt W n l = y at *
  refine Contract.intro (effS [] false) 6 follows Tryz.func8 rfl rfl (by kernel_rfl) (Nat.le_of_ble_eq_true rfl) ?_
  simp (disch := first | assumption | omega | rfl | simp only [RH]) only [↓RP, RG, FX, RQ, ↓reduceIte, Nat.reduceEqDiff, reduceCtorEq, Nat.reduceBEq, Nat.reduceAdd, Nat.reduceLeDiff, args0_1]
  refine callK_F 6 hF (by simp (disch := first | assumption | omega | rfl | simp only [RH]) only [↓RP, RG, FX, RQ, ↓reduceIte, Nat.reduceEqDiff, reduceCtorEq, Nat.reduceBEq, Nat.reduceAdd, Nat.reduceLeDiff, RA] <;> rfl) (.inl (by simp [allFresh, ints_fresh])) ?_
  by_cases c : x.length = n
  · rw [if_pos c] at hap
    have hy : y.length = 0 := by rw [hap]; rfl
    simp (disch := first | assumption | omega | rfl | simp only [RH]) only [↓RP, RG, FX, RQ, ↓reduceIte, Nat.reduceEqDiff, reduceCtorEq, Nat.reduceBEq, Nat.reduceAdd, Nat.reduceLeDiff]
    rw [resVal_2 rfl]; simp (disch := first | assumption | omega | rfl | simp only [RH]) only [↓RP, RG, FX, RQ, ↓reduceIte, Nat.reduceEqDiff, reduceCtorEq, Nat.reduceBEq, Nat.reduceAdd, Nat.reduceLeDiff, RS]
    first | done | simp [c]
  · rw [if_neg c] at hap
    have hy : 0 < y.length := by rw [hap]; exact b1
    simp (disch := first | assumption | omega | rfl | simp only [RH]) only [↓RP, RG, FX, RQ, ↓reduceIte, Nat.reduceEqDiff, reduceCtorEq, Nat.reduceBEq, Nat.reduceAdd, Nat.reduceLeDiff]
    rw [resVal_2 rfl]; simp (disch := first | assumption | omega | rfl | simp only [RH]) only [↓RP, RG, FX, RQ, ↓reduceIte, Nat.reduceEqDiff, reduceCtorEq, Nat.reduceBEq, Nat.reduceAdd, Nat.reduceLeDiff, RS]
    first | done | simp [c]
end Go.Proofs.YtdbpkjanlafajaaGreatDoor

/- A set of threads: is it one, and which are in it. -/
set_option linter.unusedSimpArgs false
set_option linter.unusedVariables false
set_option maxRecDepth 100000
namespace Go.Proofs.YtdbpkjanlafajaaGreatDoor
open Go Go.Proofs Go.AW

theorem mem_getD {l : List Int} {x : Int} : x ∈ l ↔ ∃ i, i < l.length ∧ l.getD i 0 = x := by
  rw [List.mem_iff_getElem]
  constructor
  · rintro ⟨i, hi, h⟩; exact ⟨i, hi, by rw [List.getD_eq_getElem?_getD, List.getElem?_eq_getElem hi]; exact h⟩
  · rintro ⟨i, hi, h⟩; exact ⟨i, hi, by rw [List.getD_eq_getElem?_getD, List.getElem?_eq_getElem hi] at h; exact h⟩
/-- The first k are threads, and each is more than the one ahead of it. -/
def okS (n : Nat) (s : List Int) (k : Nat) : Prop := ∀ i, i < k → (0 ≤ s.getD i 0 ∧ s.getD i 0 < n) ∧ (0 < i → s.getD (i - 1) 0 < s.getD i 0)
theorem okS_succ {n : Nat} {s : List Int} {k : Nat} (h : okS n s k) (h1 : 0 ≤ s.getD k 0 ∧ s.getD k 0 < n) (h2 : 0 < k → s.getD (k - 1) 0 < s.getD k 0) : okS n s (k + 1) := by
  intro i hi
  by_cases e : i = k
  · subst e; exact ⟨h1, h2⟩
  · exact h i (by omega)
/-- Which are among the first k. -/
def mks (n : Nat) (s : List Int) : Nat → List Bool
  | 0 => List.replicate n false
  | k + 1 => (mks n s k).set (s.getD k 0).toNat true
theorem mks_len (n : Nat) (s : List Int) (k : Nat) : (mks n s k).length = n := by
  induction k with
  | zero => simp [mks]
  | succ k ih => simp [mks, ih]
theorem mks_get {n : Nat} {s : List Int} {k : Nat} (h : okS n s k) {a : Nat} (ha : a < n) : (mks n s k).getD a false = true ↔ ∃ i, i < k ∧ s.getD i 0 = a := by
  induction k with
  | zero => simp [mks, List.getD_eq_getElem?_getD, List.getElem?_replicate, ha]
  | succ k ih =>
    have hk := (h k (by omega)).1
    have hi := ih fun i hi => h i (by omega)
    have hl := mks_len n s k
    have e : (mks n s (k + 1)).getD a false = if a = (s.getD k 0).toNat then true else (mks n s k).getD a false := by
      simp only [mks, List.getD_eq_getElem?_getD, List.getElem?_set]
      by_cases h : (s[k]?.getD 0).toNat = a
      · rw [if_pos h, if_pos h.symm, if_pos (by omega)]; rfl
      · rw [if_neg h, if_neg (Ne.symm h)]
    rw [e]
    by_cases hc : a = (s.getD k 0).toNat
    · rw [if_pos hc]
      exact ⟨fun _ => ⟨k, by omega, by omega⟩, fun _ => rfl⟩
    · rw [if_neg hc, hi]
      constructor
      · rintro ⟨i, h1, h2⟩; exact ⟨i, by omega, h2⟩
      · rintro ⟨i, h1, h2⟩
        by_cases e : i = k
        · subst e; omega
        · exact ⟨i, by omega, h2⟩

theorem set10s_c {W H n : Nat} (hN : W + H = n) (hW : W ≤ 64) (hH : H ≤ 64) (b bs : Bool) (l : List Bool) (s : List Int) (hs : s.length ≤ 100000) (r : Bool) (hr : r = true ↔ okS n s s.length) :
    Contract Tryz.prog 12 [GA W H b l, LA bs s] (B r) := by
  have hNc : (W : Int) + (H : Int) = (n : Int) := by omega
  refine Contract.intro (effS [] false) 6 follows Tryz.func12 rfl rfl (by kernel_rfl) (Nat.le_of_ble_eq_true rfl) ?_
  simp (disch := first | assumption | omega | rfl | simp only [RH]) only [↓RP, RG, FX, RQ, ↓reduceIte, Nat.reduceEqDiff, reduceCtorEq, Nat.reduceBEq, Nat.reduceAdd, Nat.reduceLeDiff, args0_2]
  refine loopK_I [1, 2, 5] (fun k : Nat => k ≤ s.length ∧ okS n s k) (fun k : Nat => ⟨[(1, LA bs s), (2, .ptr 0 0 3), (5, I k)], [⟨24, 3, [I W, I H, BA b l]⟩]⟩) (fun k => s.length - k) 0 ⟨by omega, fun i hi => by omega⟩ (by simp only [↓RP, RG, FX, RQ, ↓reduceIte, Nat.reduceEqDiff, reduceCtorEq, Nat.reduceBEq, Nat.reduceAdd, Nat.reduceLeDiff]; rfl) ?_
  rintro k ⟨hk, hok⟩
  by_cases hlt : k < s.length
  · have hI := is_c W H b l (s.getD k 0) hW hH
    rw [hNc] at hI
    have he : ((k : Int) - 1).toNat = k - 1 := by omega
    by_cases c1 : 0 ≤ s.getD k 0 ∧ s.getD k 0 < n
    · rw [decide_eq_true c1] at hI
      by_cases c2 : 0 < k
      · by_cases c3 : s.getD (k - 1) 0 < s.getD k 0
        · simp (disch := first | assumption | omega | rfl | simp only [RH]) only [↓RP, RG, FX, RQ, ↓reduceIte, Nat.reduceEqDiff, reduceCtorEq, Nat.reduceBEq, Nat.reduceAdd, Nat.reduceLeDiff]
          refine callK_F 6 (hI) (by simp (disch := first | assumption | omega | rfl | simp only [RH]) only [↓RP, RG, FX, RQ, ↓reduceIte, Nat.reduceEqDiff, reduceCtorEq, Nat.reduceBEq, Nat.reduceAdd, Nat.reduceLeDiff, RA] <;> rfl) (.inl (by simp [allFresh, ints_fresh, bools_fresh])) ?_
          simp (disch := first | assumption | omega | rfl | simp only [RH]) only [↓RP, RG, FX, RQ, ↓reduceIte, Nat.reduceEqDiff, reduceCtorEq, Nat.reduceBEq, Nat.reduceAdd, Nat.reduceLeDiff, he]
          exact ⟨k + 1, ⟨hlt, okS_succ hok c1 fun _ => c3⟩, rfl, by omega⟩
        · have hno : r = false := by
            cases r with
            | false => rfl
            | true => exact absurd ((hr.1 rfl k hlt).2 c2) c3
          subst hno
          simp (disch := first | assumption | omega | rfl | simp only [RH]) only [↓RP, RG, FX, RQ, ↓reduceIte, Nat.reduceEqDiff, reduceCtorEq, Nat.reduceBEq, Nat.reduceAdd, Nat.reduceLeDiff]
          refine callK_F 6 (hI) (by simp (disch := first | assumption | omega | rfl | simp only [RH]) only [↓RP, RG, FX, RQ, ↓reduceIte, Nat.reduceEqDiff, reduceCtorEq, Nat.reduceBEq, Nat.reduceAdd, Nat.reduceLeDiff, RA] <;> rfl) (.inl (by simp [allFresh, ints_fresh, bools_fresh])) ?_
          simp (disch := first | assumption | omega | rfl | simp only [RH]) only [↓RP, RG, FX, RQ, ↓reduceIte, Nat.reduceEqDiff, reduceCtorEq, Nat.reduceBEq, Nat.reduceAdd, Nat.reduceLeDiff, he]
          rw [resVal_1 rfl]; simp (disch := first | assumption | omega | rfl | simp only [RH]) only [↓RP, RG, FX, RQ, ↓reduceIte, Nat.reduceEqDiff, reduceCtorEq, Nat.reduceBEq, Nat.reduceAdd, Nat.reduceLeDiff, RS]
      · simp (disch := first | assumption | omega | rfl | simp only [RH]) only [↓RP, RG, FX, RQ, ↓reduceIte, Nat.reduceEqDiff, reduceCtorEq, Nat.reduceBEq, Nat.reduceAdd, Nat.reduceLeDiff]
        refine callK_F 6 (hI) (by simp (disch := first | assumption | omega | rfl | simp only [RH]) only [↓RP, RG, FX, RQ, ↓reduceIte, Nat.reduceEqDiff, reduceCtorEq, Nat.reduceBEq, Nat.reduceAdd, Nat.reduceLeDiff, RA] <;> rfl) (.inl (by simp [allFresh, ints_fresh, bools_fresh])) ?_
        simp (disch := first | assumption | omega | rfl | simp only [RH]) only [↓RP, RG, FX, RQ, ↓reduceIte, Nat.reduceEqDiff, reduceCtorEq, Nat.reduceBEq, Nat.reduceAdd, Nat.reduceLeDiff]
        exact ⟨k + 1, ⟨hlt, okS_succ hok c1 fun h => absurd h c2⟩, rfl, by omega⟩
    · rw [decide_eq_false c1] at hI
      have hno : r = false := by
        cases r with
        | false => rfl
        | true => exact absurd ((hr.1 rfl k hlt).1) c1
      subst hno
      simp (disch := first | assumption | omega | rfl | simp only [RH]) only [↓RP, RG, FX, RQ, ↓reduceIte, Nat.reduceEqDiff, reduceCtorEq, Nat.reduceBEq, Nat.reduceAdd, Nat.reduceLeDiff]
      refine callK_F 6 (hI) (by simp (disch := first | assumption | omega | rfl | simp only [RH]) only [↓RP, RG, FX, RQ, ↓reduceIte, Nat.reduceEqDiff, reduceCtorEq, Nat.reduceBEq, Nat.reduceAdd, Nat.reduceLeDiff, RA] <;> rfl) (.inl (by simp [allFresh, ints_fresh, bools_fresh])) ?_
      simp (disch := first | assumption | omega | rfl | simp only [RH]) only [↓RP, RG, FX, RQ, ↓reduceIte, Nat.reduceEqDiff, reduceCtorEq, Nat.reduceBEq, Nat.reduceAdd, Nat.reduceLeDiff]
      rw [resVal_1 rfl]; simp (disch := first | assumption | omega | rfl | simp only [RH]) only [↓RP, RG, FX, RQ, ↓reduceIte, Nat.reduceEqDiff, reduceCtorEq, Nat.reduceBEq, Nat.reduceAdd, Nat.reduceLeDiff, RS]
  · obtain rfl : k = s.length := by omega
    have hyes : r = true := hr.2 hok
    subst hyes
    simp (disch := first | assumption | omega | rfl | simp only [RH]) only [↓RP, RG, FX, RQ, ↓reduceIte, Nat.reduceEqDiff, reduceCtorEq, Nat.reduceBEq, Nat.reduceAdd, Nat.reduceLeDiff]
    rw [resVal_1 rfl]; simp (disch := first | assumption | omega | rfl | simp only [RH]) only [↓RP, RG, FX, RQ, ↓reduceIte, Nat.reduceEqDiff, reduceCtorEq, Nat.reduceBEq, Nat.reduceAdd, Nat.reduceLeDiff, RS]
theorem marks_c {W H n : Nat} (hN : W + H = n) (hW : W ≤ 64) (hH : H ≤ 64) (b bs : Bool) (l : List Bool) (s : List Int) (hs : s.length ≤ 100000) (hok : okS n s s.length) :
    Contract Tryz.prog 11 [GA W H b l, LA bs s] (.list true false n (bools (mks n s s.length))) := by
  have hNc : (W : Int) + (H : Int) = (n : Int) := by omega
  have hNi : ((W : Int) + (H : Int)).toNat = n := by omega
  refine Contract.intro (effS [] false) 6 follows Tryz.func11 rfl rfl (by kernel_rfl) (Nat.le_of_ble_eq_true rfl) ?_
  simp (disch := first | assumption | omega | rfl | simp only [RH]) only [↓RP, RG, FX, RQ, ↓reduceIte, Nat.reduceEqDiff, reduceCtorEq, Nat.reduceBEq, Nat.reduceAdd, Nat.reduceLeDiff, args0_2]
  refine callK_F 6 (threads_c W H b l hW hH) (by simp (disch := first | assumption | omega | rfl | simp only [RH]) only [↓RP, RG, FX, RQ, ↓reduceIte, Nat.reduceEqDiff, reduceCtorEq, Nat.reduceBEq, Nat.reduceAdd, Nat.reduceLeDiff, RA] <;> rfl) (.inl (by simp [allFresh, ints_fresh, bools_fresh])) ?_
  simp (disch := first | assumption | omega | rfl | simp only [RH]) only [↓RP, RG, FX, RQ, ↓reduceIte, Nat.reduceEqDiff, reduceCtorEq, Nat.reduceBEq, Nat.reduceAdd, Nat.reduceLeDiff, make_bool, hNi, hNc]
  refine loopK_I [1, 5, 6] (fun k : Nat => k ≤ s.length) (fun k : Nat => ⟨[(1, LA bs s), (5, .ref 1 0 n n), (6, I k)], [⟨24, 3, [I W, I H, BA b l]⟩, ⟨4, 1, bools (mks n s k)⟩]⟩) (fun k => s.length - k) 0 (by omega) (by simp only [↓RP, RG, FX, RQ, ↓reduceIte, Nat.reduceEqDiff, reduceCtorEq, Nat.reduceBEq, Nat.reduceAdd, Nat.reduceLeDiff]; rfl) ?_
  intro k hk
  have hml := mks_len n s k
  by_cases hlt : k < s.length
  · obtain ⟨h1, h2⟩ := (hok k hlt).1
    simp (disch := first | assumption | omega | rfl | simp only [RH]) only [↓RP, RG, FX, RQ, ↓reduceIte, Nat.reduceEqDiff, reduceCtorEq, Nat.reduceBEq, Nat.reduceAdd, Nat.reduceLeDiff]
    exact ⟨k + 1, by omega, rfl, by omega⟩
  · obtain rfl : k = s.length := by omega
    simp (disch := first | assumption | omega | rfl | simp only [RH]) only [↓RP, RG, FX, RQ, ↓reduceIte, Nat.reduceEqDiff, reduceCtorEq, Nat.reduceBEq, Nat.reduceAdd, Nat.reduceLeDiff]
    rw [resVal_1 rfl]; simp (disch := first | assumption | omega | rfl | simp only [RH]) only [↓RP, RG, FX, RQ, ↓reduceIte, Nat.reduceEqDiff, reduceCtorEq, Nat.reduceBEq, Nat.reduceAdd, Nat.reduceLeDiff, RS]
    first | done | rw [hml]
theorem notIn_c (n : Nat) (M : List Bool) (hM : M.length = n) {a : Nat} (ha : a < n) (hn : n ≤ 1000) :
    Contract Tryz.prog 33 [I a, .spot false [.list false false n (bools M)]] (B (!M.getD a false)) := by
  refine Contract.intro (effS [] false) 6 follows Tryz.func33 rfl rfl (by kernel_rfl) (Nat.le_of_ble_eq_true rfl) ?_
  simp (disch := first | assumption | omega | rfl | simp only [RH]) only [↓RP, RG, FX, RQ, ↓reduceIte, Nat.reduceEqDiff, reduceCtorEq, Nat.reduceBEq, Nat.reduceAdd, Nat.reduceLeDiff, args0_2]
  rw [resVal_1 rfl]; simp (disch := first | assumption | omega | rfl | simp only [RH]) only [↓RP, RG, FX, RQ, ↓reduceIte, Nat.reduceEqDiff, reduceCtorEq, Nat.reduceBEq, Nat.reduceAdd, Nat.reduceLeDiff, RS]
/-- There is one of them that is not in it. -/
theorem some_c (b : Bool) (n : Nat) (M : List Bool) (hM : M.length = n) (xs : List Nat) (hx : ∀ x ∈ xs, x < n) (hn : n ≤ 1000) (hxs : xs.length ≤ 1000) (r : Bool) (hr : r = true ↔ ∃ x ∈ xs, M.getD x false = false) :
    Contract Tryz.prog 32 [LA b (nI xs), .func (.func 33) [] [.spot false [.list false false n (bools M)]]] (B r) := by
  have hxl := nI_len xs
  have hgd : ∀ (j : Nat) (hj : j < xs.length), xs.getD j 0 = xs[j]'hj := fun j hj => by rw [List.getD_eq_getElem?_getD, List.getElem?_eq_getElem hj]; rfl
  have key : Contract Tryz.prog 52 [LA b (nI xs), .func (.func 33) [] [.spot false [.list false false n (bools M)]]] (I (if r = true then (xs.findIdx fun x => !M.getD x false : Nat) else -1)) := by
    refine Contract.intro (effS [] false) 6 follows Tryz.func52 rfl rfl (by kernel_rfl) (Nat.le_of_ble_eq_true rfl) ?_
    simp (disch := first | assumption | omega | rfl | simp only [RH]) only [↓RP, RG, FX, RQ, ↓reduceIte, Nat.reduceEqDiff, reduceCtorEq, Nat.reduceBEq, Nat.reduceAdd, Nat.reduceLeDiff, args0_2]
    refine loopK_I [0, 1, 7, 8] (fun k : Nat => k ≤ xs.length ∧ ∀ j, j < k → M.getD (xs.getD j 0) false = true) (fun k : Nat => ⟨[(0, LA b (nI xs)), (1, .func (.func 33) [] [.spot false [.list false false n (bools M)]]), (7, I (nI xs).length), (8, I k)], []⟩) (fun k => xs.length - k) 0 ⟨by omega, fun j hj => by omega⟩ (by simp only [↓RP, RG, FX, RQ, ↓reduceIte, Nat.reduceEqDiff, reduceCtorEq, Nat.reduceBEq, Nat.reduceAdd, Nat.reduceLeDiff]; rfl) ?_
    rintro k ⟨hk, hall⟩
    by_cases hlt : k < xs.length
    · have hg := nI_get xs k
      have hmem : xs.getD k 0 ∈ xs := by rw [List.getD_eq_getElem?_getD, List.getElem?_eq_getElem hlt]; exact List.getElem_mem _
      have hNI := notIn_c n M hM (hx _ hmem) hn
      obtain ⟨y, hy⟩ : ∃ y, xs.getD k 0 = y := ⟨_, rfl⟩
      rw [hy] at hg hmem hNI
      simp (disch := first | assumption | omega | rfl | simp only [RH]) only [↓RP, RG, FX, RQ, ↓reduceIte, Nat.reduceEqDiff, reduceCtorEq, Nat.reduceBEq, Nat.reduceAdd, Nat.reduceLeDiff, hg]
      refine callK_V 6 hNI (by simp (disch := omega) only [↓RP, RG, FX, RQ, ↓reduceIte, Nat.reduceEqDiff, reduceCtorEq, Nat.reduceBEq, Nat.reduceAdd, Nat.reduceLeDiff, RA] <;> rfl) (.inl rfl) ?_
      cases hc : M.getD y false with
      | false =>
        have hrt : r = true := hr.2 ⟨y, hmem, hc⟩
        have hf : (xs.findIdx fun x => !M.getD x false) = k := by
          have hp : (fun x => !M.getD x false) (xs[k]'hlt) = true := by
            have : xs[k]'hlt = y := by rw [← hy, List.getD_eq_getElem?_getD, List.getElem?_eq_getElem hlt]; rfl
            simp only [this, hc]; rfl
          refine (List.findIdx_eq hlt).2 ⟨hp, fun j hj => ?_⟩
          have := hall j hj
          rw [hgd j (by omega)] at this
          simp only [this]; rfl
        rw [if_pos hrt, hf]
        simp (disch := first | assumption | omega | rfl | simp only [RH]) only [↓RP, RG, FX, RQ, ↓reduceIte, Nat.reduceEqDiff, reduceCtorEq, Nat.reduceBEq, Nat.reduceAdd, Nat.reduceLeDiff]
        rw [resVal_1 rfl]; simp (disch := first | assumption | omega | rfl | simp only [RH]) only [↓RP, RG, FX, RQ, ↓reduceIte, Nat.reduceEqDiff, reduceCtorEq, Nat.reduceBEq, Nat.reduceAdd, Nat.reduceLeDiff, RS]
      | true =>
        simp (disch := first | assumption | omega | rfl | simp only [RH]) only [↓RP, RG, FX, RQ, ↓reduceIte, Nat.reduceEqDiff, reduceCtorEq, Nat.reduceBEq, Nat.reduceAdd, Nat.reduceLeDiff]
        refine ⟨k + 1, ⟨hlt, fun j hj => ?_⟩, rfl, by omega⟩
        by_cases e : j = k
        · subst e; rw [hy]; exact hc
        · exact hall j (by omega)
    · obtain rfl : k = xs.length := by omega
      have hrf : r = false := by
        cases r with
        | false => rfl
        | true =>
          obtain ⟨x, h1, h2⟩ := hr.1 rfl
          obtain ⟨i, hi, e⟩ := List.mem_iff_getElem.1 h1
          have := hall i hi
          rw [hgd i hi, e, h2] at this
          cases this
      subst hrf
      simp (disch := first | assumption | omega | rfl | simp only [RH]) only [↓RP, RG, FX, RQ, ↓reduceIte, Nat.reduceEqDiff, reduceCtorEq, Nat.reduceBEq, Nat.reduceAdd, Nat.reduceLeDiff]
      rw [resVal_1 rfl]; simp (disch := first | assumption | omega | rfl | simp only [RH]) only [↓RP, RG, FX, RQ, ↓reduceIte, Nat.reduceEqDiff, reduceCtorEq, Nat.reduceBEq, Nat.reduceAdd, Nat.reduceLeDiff, RS]
      first | done | rfl
  refine Contract.intro (effS [] false) 6 follows Tryz.func32 rfl rfl (by kernel_rfl) (Nat.le_of_ble_eq_true rfl) ?_
  simp (disch := first | assumption | omega | rfl | simp only [RH]) only [↓RP, RG, FX, RQ, ↓reduceIte, Nat.reduceEqDiff, reduceCtorEq, Nat.reduceBEq, Nat.reduceAdd, Nat.reduceLeDiff, args0_2]
  refine callK_F 6 key (by simp (disch := omega) only [↓RP, RG, FX, RQ, ↓reduceIte, Nat.reduceEqDiff, reduceCtorEq, Nat.reduceBEq, Nat.reduceAdd, Nat.reduceLeDiff, RA] <;> rfl) (.inl rfl) ?_
  cases r with
  | false =>
    rw [if_neg (by simp)]
    simp (disch := first | assumption | omega | rfl | simp only [RH]) only [↓RP, RG, FX, RQ, ↓reduceIte, Nat.reduceEqDiff, reduceCtorEq, Nat.reduceBEq, Nat.reduceAdd, Nat.reduceLeDiff]
    rw [resVal_1 rfl]; simp (disch := first | assumption | omega | rfl | simp only [RH]) only [↓RP, RG, FX, RQ, ↓reduceIte, Nat.reduceEqDiff, reduceCtorEq, Nat.reduceBEq, Nat.reduceAdd, Nat.reduceLeDiff, RS]
  | true =>
    rw [if_pos rfl]
    simp (disch := first | assumption | omega | rfl | simp only [RH]) only [↓RP, RG, FX, RQ, ↓reduceIte, Nat.reduceEqDiff, reduceCtorEq, Nat.reduceBEq, Nat.reduceAdd, Nat.reduceLeDiff]
    rw [resVal_1 rfl]; simp (disch := first | assumption | omega | rfl | simp only [RH]) only [↓RP, RG, FX, RQ, ↓reduceIte, Nat.reduceEqDiff, reduceCtorEq, Nat.reduceBEq, Nat.reduceAdd, Nat.reduceLeDiff, RS]
end Go.Proofs.YtdbpkjanlafajaaGreatDoor

/- Off, of both. -/
set_option linter.unusedSimpArgs false
set_option linter.unusedVariables false
set_option maxRecDepth 100000
namespace Go.Proofs.YtdbpkjanlafajaaGreatDoor
open Go Go.Proofs Go.AW

/-- No thread outside lies over one of them. -/
def offD (W n : Nat) (l : List Bool) (M : List Bool) : Prop := ∀ a, a < n → ∀ c, c < n → ¬ (M.getD a false = false ∧ M.getD c false = true ∧ ov W l a c = true)
end Go.Proofs.YtdbpkjanlafajaaGreatDoor

/- Off, by the program. -/
set_option linter.unusedSimpArgs false
set_option linter.unusedVariables false
set_option maxRecDepth 100000
namespace Go.Proofs.YtdbpkjanlafajaaGreatDoor
open Go Go.Proofs Go.AW

theorem adjT_len (W n : Nat) (l : List Bool) (c : Nat) : (adjT W n l c).length ≤ n := by
  unfold adjT; exact Nat.le_trans (List.length_filter_le _ _) (by simp)
theorem offP_c {W H n : Nat} (hN : W + H = n) (hW0 : 0 < W) (hH0 : 0 < H) (hn40 : n ≤ 64) (b bs : Bool) {l : List Bool} (hn : l.length = W * H) (s : List Int) (hs : s.length ≤ 1000) (r : Bool) (e : Int)
    (hno : ¬ okS n s s.length → r = false ∧ e = 2) (hyes : okS n s s.length → e = 0 ∧ (r = true ↔ 0 < s.length ∧ s.length ≠ n ∧ offD W n l (mks n s s.length))) :
    Contract Tryz.prog 9 [GA W H b l, LA bs s] (.tuple [B r, I e]) := by
  have hz : gchk W H l.length = 0 := gchk_ok ⟨by omega, by omega, by omega, by omega, by rw [hn, Int.natCast_mul]⟩
  have hNc : (W : Int) + (H : Int) = (n : Int) := by omega
  have hNi : ((W : Int) + (H : Int)).toNat = n := by omega
  have hcell : ofCell (.slice none 0 0) = .cap0 true := rfl
  refine Contract.intro (effS [] false) 6 follows Tryz.func9 rfl rfl (by kernel_rfl) (Nat.le_of_ble_eq_true rfl) ?_
  simp (disch := first | assumption | omega | rfl | simp only [RH]) only [↓RP, RG, FX, RQ, ↓reduceIte, Nat.reduceEqDiff, reduceCtorEq, Nat.reduceBEq, Nat.reduceAdd, Nat.reduceLeDiff, args0_2]
  refine callK_F 6 (gcheckP_c W H b l) (by simp (disch := first | assumption | omega | rfl | simp only [RH]) only [↓RP, RG, FX, RQ, ↓reduceIte, Nat.reduceEqDiff, reduceCtorEq, Nat.reduceBEq, Nat.reduceAdd, Nat.reduceLeDiff, RA] <;> rfl) (.inl (by simp [allFresh, ints_fresh, bools_fresh])) ?_
  simp (disch := first | assumption | omega | rfl | simp only [RH]) only [↓RP, RG, FX, RQ, ↓reduceIte, Nat.reduceEqDiff, reduceCtorEq, Nat.reduceBEq, Nat.reduceAdd, Nat.reduceLeDiff, hz, make_bool, hNi, hNc, hcell]
  refine loopK_I [1, 2, 7, 24, 25, 26] (fun k : Nat => k ≤ s.length ∧ okS n s k) (fun k : Nat => ⟨[(1, LA bs s), (2, .ptr 0 0 3), (7, .ptr 2 0 1), (24, LA bs s), (25, I s.length), (26, I k)], [⟨24, 3, [I W, I H, BA b l]⟩, ⟨4, 1, bools (mks n s k)⟩, ⟨22, 1, [.ref 1 0 n n]⟩]⟩) (fun k => s.length - k) 0 ⟨by omega, fun i hi => by omega⟩ (by simp only [↓RP, RG, FX, RQ, ↓reduceIte, Nat.reduceEqDiff, reduceCtorEq, Nat.reduceBEq, Nat.reduceAdd, Nat.reduceLeDiff]; rfl) ?_
  rintro k ⟨hk, hok⟩
  by_cases hlt : k < s.length
  · have hI := isThread_c W H b l (s.getD k 0) (by omega) (by omega)
    rw [hNc] at hI
    have he : ((k : Int) - 1).toNat = k - 1 := by omega
    have hml := mks_len n s k
    by_cases c1 : 0 ≤ s.getD k 0 ∧ s.getD k 0 < n
    · rw [decide_eq_true c1] at hI
      obtain ⟨c11, c12⟩ := c1
      by_cases c2 : 0 < k
      · by_cases c3 : s.getD (k - 1) 0 < s.getD k 0
        · simp (disch := first | assumption | omega | rfl | simp only [RH]) only [↓RP, RG, FX, RQ, ↓reduceIte, Nat.reduceEqDiff, reduceCtorEq, Nat.reduceBEq, Nat.reduceAdd, Nat.reduceLeDiff]
          refine callK_F 6 (hI) (by simp (disch := first | assumption | omega | rfl | simp only [RH]) only [↓RP, RG, FX, RQ, ↓reduceIte, Nat.reduceEqDiff, reduceCtorEq, Nat.reduceBEq, Nat.reduceAdd, Nat.reduceLeDiff, RA] <;> rfl) (.inl (by simp [allFresh, ints_fresh, bools_fresh])) ?_
          simp (disch := first | assumption | omega | rfl | simp only [RH]) only [↓RP, RG, FX, RQ, ↓reduceIte, Nat.reduceEqDiff, reduceCtorEq, Nat.reduceBEq, Nat.reduceAdd, Nat.reduceLeDiff, he]
          exact ⟨k + 1, ⟨hlt, okS_succ hok ⟨c11, c12⟩ fun _ => c3⟩, rfl, by omega⟩
        · obtain ⟨hr1, hr2⟩ := hno fun h => c3 ((h k hlt).2 c2)
          subst hr1 hr2
          simp (disch := first | assumption | omega | rfl | simp only [RH]) only [↓RP, RG, FX, RQ, ↓reduceIte, Nat.reduceEqDiff, reduceCtorEq, Nat.reduceBEq, Nat.reduceAdd, Nat.reduceLeDiff]
          refine callK_F 6 (hI) (by simp (disch := first | assumption | omega | rfl | simp only [RH]) only [↓RP, RG, FX, RQ, ↓reduceIte, Nat.reduceEqDiff, reduceCtorEq, Nat.reduceBEq, Nat.reduceAdd, Nat.reduceLeDiff, RA] <;> rfl) (.inl (by simp [allFresh, ints_fresh, bools_fresh])) ?_
          simp (disch := first | assumption | omega | rfl | simp only [RH]) only [↓RP, RG, FX, RQ, ↓reduceIte, Nat.reduceEqDiff, reduceCtorEq, Nat.reduceBEq, Nat.reduceAdd, Nat.reduceLeDiff, he]
          rw [resVal_2 rfl]; simp (disch := first | assumption | omega | rfl | simp only [RH]) only [↓RP, RG, FX, RQ, ↓reduceIte, Nat.reduceEqDiff, reduceCtorEq, Nat.reduceBEq, Nat.reduceAdd, Nat.reduceLeDiff, RS]
      · simp (disch := first | assumption | omega | rfl | simp only [RH]) only [↓RP, RG, FX, RQ, ↓reduceIte, Nat.reduceEqDiff, reduceCtorEq, Nat.reduceBEq, Nat.reduceAdd, Nat.reduceLeDiff]
        refine callK_F 6 (hI) (by simp (disch := first | assumption | omega | rfl | simp only [RH]) only [↓RP, RG, FX, RQ, ↓reduceIte, Nat.reduceEqDiff, reduceCtorEq, Nat.reduceBEq, Nat.reduceAdd, Nat.reduceLeDiff, RA] <;> rfl) (.inl (by simp [allFresh, ints_fresh, bools_fresh])) ?_
        simp (disch := first | assumption | omega | rfl | simp only [RH]) only [↓RP, RG, FX, RQ, ↓reduceIte, Nat.reduceEqDiff, reduceCtorEq, Nat.reduceBEq, Nat.reduceAdd, Nat.reduceLeDiff]
        exact ⟨k + 1, ⟨hlt, okS_succ hok ⟨c11, c12⟩ fun h => absurd h c2⟩, rfl, by omega⟩
    · rw [decide_eq_false c1] at hI
      obtain ⟨hr1, hr2⟩ := hno fun h => c1 (h k hlt).1
      subst hr1 hr2
      simp (disch := first | assumption | omega | rfl | simp only [RH]) only [↓RP, RG, FX, RQ, ↓reduceIte, Nat.reduceEqDiff, reduceCtorEq, Nat.reduceBEq, Nat.reduceAdd, Nat.reduceLeDiff]
      refine callK_F 6 (hI) (by simp (disch := first | assumption | omega | rfl | simp only [RH]) only [↓RP, RG, FX, RQ, ↓reduceIte, Nat.reduceEqDiff, reduceCtorEq, Nat.reduceBEq, Nat.reduceAdd, Nat.reduceLeDiff, RA] <;> rfl) (.inl (by simp [allFresh, ints_fresh, bools_fresh])) ?_
      simp (disch := first | assumption | omega | rfl | simp only [RH]) only [↓RP, RG, FX, RQ, ↓reduceIte, Nat.reduceEqDiff, reduceCtorEq, Nat.reduceBEq, Nat.reduceAdd, Nat.reduceLeDiff]
      rw [resVal_2 rfl]; simp (disch := first | assumption | omega | rfl | simp only [RH]) only [↓RP, RG, FX, RQ, ↓reduceIte, Nat.reduceEqDiff, reduceCtorEq, Nat.reduceBEq, Nat.reduceAdd, Nat.reduceLeDiff, RS]
  obtain rfl : k = s.length := by omega
  obtain ⟨rfl, hr⟩ := hyes hok
  have hml := mks_len n s s.length
  by_cases c0 : s.length = 0
  · have hrf : r = false := by
      cases r with
      | false => rfl
      | true => exact absurd (hr.1 rfl).1 (by omega)
    subst hrf
    simp (disch := first | assumption | omega | rfl | simp only [RH]) only [↓RP, RG, FX, RQ, ↓reduceIte, Nat.reduceEqDiff, reduceCtorEq, Nat.reduceBEq, Nat.reduceAdd, Nat.reduceLeDiff]
    rw [resVal_2 rfl]; simp (disch := first | assumption | omega | rfl | simp only [RH]) only [↓RP, RG, FX, RQ, ↓reduceIte, Nat.reduceEqDiff, reduceCtorEq, Nat.reduceBEq, Nat.reduceAdd, Nat.reduceLeDiff, RS]
  by_cases cn : s.length = n
  · have hrf : r = false := by
      cases r with
      | false => rfl
      | true => exact absurd cn (hr.1 rfl).2.1
    subst hrf
    simp (disch := first | assumption | omega | rfl | simp only [RH]) only [↓RP, RG, FX, RQ, ↓reduceIte, Nat.reduceEqDiff, reduceCtorEq, Nat.reduceBEq, Nat.reduceAdd, Nat.reduceLeDiff]
    rw [resVal_2 rfl]; simp (disch := first | assumption | omega | rfl | simp only [RH]) only [↓RP, RG, FX, RQ, ↓reduceIte, Nat.reduceEqDiff, reduceCtorEq, Nat.reduceBEq, Nat.reduceAdd, Nat.reduceLeDiff, RS]
  have hO := order_c hN hW0 hH0 (by omega) (by omega) b hn
  have hab : (abv W n l).length = n := by simp [abv]
  have hat : ∀ c, c < n → ((LL (abv W n l)).drop c)[0]? = some (LR (nI (adjT W n l c)).isEmpty (nI (adjT W n l c))) := by
    intro c hc
    rw [LL_at (rs := abv W n l) (by omega), abv_adj hc]
  have hmg : ∀ a, a < n → ((mks n s s.length).getD a false = true ↔ ∃ i, i < s.length ∧ s.getD i 0 = a) := fun a ha => mks_get hok ha
  generalize LL (abv W n l) = la at *
  generalize LL (bel W n l) = ld at *
  generalize mks n s s.length = M at *
  simp (disch := first | assumption | omega | rfl | simp only [RH]) only [↓RP, RG, FX, RQ, ↓reduceIte, Nat.reduceEqDiff, reduceCtorEq, Nat.reduceBEq, Nat.reduceAdd, Nat.reduceLeDiff]
  refine callK_F 6 hO (by simp (disch := first | assumption | omega | rfl | simp only [RH]) only [↓RP, RG, FX, RQ, ↓reduceIte, Nat.reduceEqDiff, reduceCtorEq, Nat.reduceBEq, Nat.reduceAdd, Nat.reduceLeDiff, RA] <;> rfl) (.inr (by simp [noRef, bools_noRef])) ?_
  simp (disch := first | assumption | omega | rfl | simp only [RH]) only [↓RP, RG, FX, RQ, ↓reduceIte, Nat.reduceEqDiff, reduceCtorEq, Nat.reduceBEq, Nat.reduceAdd, Nat.reduceLeDiff, hcell]
  refine loopK_I [7, 10, 64, 65, 66] (fun k : Nat => k ≤ s.length ∧ ∀ i, i < k → ∀ x, x ∈ adjT W n l (s.getD i 0).toNat → M.getD x false = true) (fun k : Nat => ⟨[(7, .ptr 2 0 1), (10, .ptr 3 0 2), (64, LA bs s), (65, I s.length), (66, I k)], [⟨24, 3, [I W, I H, BA b l]⟩, ⟨4, 1, bools M⟩, ⟨22, 1, [.ref 1 0 n n]⟩, ⟨63, 2, [.list true false n ld, .list true false n la]⟩]⟩) (fun k => s.length - k) 0 ⟨by omega, fun i hi => by omega⟩ (by simp only [↓RP, RG, FX, RQ, ↓reduceIte, Nat.reduceEqDiff, reduceCtorEq, Nat.reduceBEq, Nat.reduceAdd, Nat.reduceLeDiff]; rfl) ?_
  rintro k ⟨hk, hall⟩
  by_cases hlt : k < s.length
  · obtain ⟨d1, d2⟩ := (hok k hlt).1
    obtain ⟨c, hc⟩ : ∃ c : Nat, s.getD k 0 = c := ⟨(s.getD k 0).toNat, by omega⟩
    have hcn : c < n := by omega
    have hac := hat c hcn
    have hct : (s.getD k 0).toNat = c := by omega
    have hxl := nI_len (adjT W n l c)
    have hxn := adjT_len W n l c
    by_cases hbad : ∃ x ∈ adjT W n l c, M.getD x false = false
    · have hS := some_c (nI (adjT W n l c)).isEmpty n M hml (adjT W n l c) (fun x hx => adjT_lt hx) (by omega) (by omega) true ⟨fun _ => hbad, fun _ => rfl⟩
      have hrf : r = false := by
        cases r with
        | false => rfl
        | true =>
          obtain ⟨x, h1, h2⟩ := hbad
          have hov : ov W l x c = true := by
            simp only [adjT, List.mem_filter] at h1; exact h1.2
          exact absurd ⟨h2, (hmg c hcn).2 ⟨k, hlt, hc⟩, hov⟩ ((hr.1 rfl).2.2 x (adjT_lt h1) c hcn)
      subst hrf
      generalize nI (adjT W n l c) = xs at *
      simp (disch := first | assumption | omega | rfl | simp only [RH]) only [↓RP, RG, FX, RQ, ↓reduceIte, Nat.reduceEqDiff, reduceCtorEq, Nat.reduceBEq, Nat.reduceAdd, Nat.reduceLeDiff, hc, hct, hac]
      refine callK_F 6 hS (by simp (disch := omega) only [↓RP, RG, FX, RQ, ↓reduceIte, Nat.reduceEqDiff, reduceCtorEq, Nat.reduceBEq, Nat.reduceAdd, Nat.reduceLeDiff, RA, hml] <;> rfl) (.inl rfl) ?_
      simp (disch := first | assumption | omega | rfl | simp only [RH]) only [↓RP, RG, FX, RQ, ↓reduceIte, Nat.reduceEqDiff, reduceCtorEq, Nat.reduceBEq, Nat.reduceAdd, Nat.reduceLeDiff]
      rw [resVal_2 rfl]; simp (disch := first | assumption | omega | rfl | simp only [RH]) only [↓RP, RG, FX, RQ, ↓reduceIte, Nat.reduceEqDiff, reduceCtorEq, Nat.reduceBEq, Nat.reduceAdd, Nat.reduceLeDiff, RS]
    · have hS := some_c (nI (adjT W n l c)).isEmpty n M hml (adjT W n l c) (fun x hx => adjT_lt hx) (by omega) (by omega) false ⟨fun h => (by cases h), fun h => absurd h hbad⟩
      have hnx : ∀ i, i < k + 1 → ∀ x, x ∈ adjT W n l (s.getD i 0).toNat → M.getD x false = true := by
        intro i hi x hx
        by_cases e : i = k
        · subst e
          rw [hct] at hx
          cases hm : M.getD x false with
          | true => rfl
          | false => exact absurd ⟨x, hx, hm⟩ hbad
        · exact hall i (by omega) x hx
      generalize nI (adjT W n l c) = xs at *
      simp (disch := first | assumption | omega | rfl | simp only [RH]) only [↓RP, RG, FX, RQ, ↓reduceIte, Nat.reduceEqDiff, reduceCtorEq, Nat.reduceBEq, Nat.reduceAdd, Nat.reduceLeDiff, hc, hct, hac]
      refine callK_F 6 hS (by simp (disch := omega) only [↓RP, RG, FX, RQ, ↓reduceIte, Nat.reduceEqDiff, reduceCtorEq, Nat.reduceBEq, Nat.reduceAdd, Nat.reduceLeDiff, RA, hml] <;> rfl) (.inl rfl) ?_
      simp (disch := first | assumption | omega | rfl | simp only [RH]) only [↓RP, RG, FX, RQ, ↓reduceIte, Nat.reduceEqDiff, reduceCtorEq, Nat.reduceBEq, Nat.reduceAdd, Nat.reduceLeDiff]
      exact ⟨k + 1, ⟨hlt, hnx⟩, rfl, by omega⟩
  · obtain rfl : k = s.length := by omega
    have hrt : r = true := hr.2 ⟨by omega, cn, fun a ha c hc ⟨h1, h2, h3⟩ => by
      obtain ⟨i, hi, e⟩ := (hmg c hc).1 h2
      have := hall i hi a (by
        rw [e]
        simp only [adjT, List.mem_filter, List.mem_range]
        exact ⟨ha, h3⟩)
      rw [h1] at this; cases this⟩
    subst hrt
    simp (disch := first | assumption | omega | rfl | simp only [RH]) only [↓RP, RG, FX, RQ, ↓reduceIte, Nat.reduceEqDiff, reduceCtorEq, Nat.reduceBEq, Nat.reduceAdd, Nat.reduceLeDiff]
    rw [resVal_2 rfl]; simp (disch := first | assumption | omega | rfl | simp only [RH]) only [↓RP, RG, FX, RQ, ↓reduceIte, Nat.reduceEqDiff, reduceCtorEq, Nat.reduceBEq, Nat.reduceAdd, Nat.reduceLeDiff, RS]
end Go.Proofs.YtdbpkjanlafajaaGreatDoor

/- The law HangAsks. -/
set_option linter.unusedSimpArgs false
set_option linter.unusedVariables false
set_option maxRecDepth 100000
namespace Go.Proofs.YtdbpkjanlafajaaGreatDoor
open Go Go.Proofs Go.AW

theorem great10_a (w h : Int) (b : Bool) (l : List Bool) (hl : 200 < (l.length : Int)) : Contract Tryz.prog 21 [GA w h b l] (B true) := by
  refine Contract.intro (effS [] false) 6 follows Tryz.func21 rfl rfl (by kernel_rfl) (Nat.le_of_ble_eq_true rfl) ?_
  simp (disch := first | assumption | omega | rfl | simp only [RH]) only [↓RP, RG, FX, RQ, ↓reduceIte, Nat.reduceEqDiff, reduceCtorEq, Nat.reduceBEq, Nat.reduceAdd, Nat.reduceLeDiff, args0_1]
  rw [resVal_1 rfl]; simp (disch := first | assumption | omega | rfl | simp only [RH]) only [↓RP, RG, FX, RQ, ↓reduceIte, Nat.reduceEqDiff, reduceCtorEq, Nat.reduceBEq, Nat.reduceAdd, Nat.reduceLeDiff, RS]
theorem great10_b (w h : Int) (b : Bool) (l : List Bool) (hl : ¬ 200 < (l.length : Int)) (hz : gchk w h l.length ≠ 0) : Contract Tryz.prog 21 [GA w h b l] (B false) := by
  refine Contract.intro (effS [] false) 6 follows Tryz.func21 rfl rfl (by kernel_rfl) (Nat.le_of_ble_eq_true rfl) ?_
  simp (disch := first | assumption | omega | rfl | simp only [RH]) only [↓RP, RG, FX, RQ, ↓reduceIte, Nat.reduceEqDiff, reduceCtorEq, Nat.reduceBEq, Nat.reduceAdd, Nat.reduceLeDiff, args0_1]
  refine callK_F 6 (gcheckR_c w h b l) (by simp (disch := first | assumption | omega | rfl | simp only [RH]) only [↓RP, RG, FX, RQ, ↓reduceIte, Nat.reduceEqDiff, reduceCtorEq, Nat.reduceBEq, Nat.reduceAdd, Nat.reduceLeDiff, RA] <;> rfl) (.inl (by simp [allFresh, ints_fresh, bools_fresh])) ?_
  simp (disch := first | assumption | omega | rfl | simp only [RH]) only [↓RP, RG, FX, RQ, ↓reduceIte, Nat.reduceEqDiff, reduceCtorEq, Nat.reduceBEq, Nat.reduceAdd, Nat.reduceLeDiff]
  rw [resVal_1 rfl]; simp (disch := first | assumption | omega | rfl | simp only [RH]) only [↓RP, RG, FX, RQ, ↓reduceIte, Nat.reduceEqDiff, reduceCtorEq, Nat.reduceBEq, Nat.reduceAdd, Nat.reduceLeDiff, RS]
theorem great10_c (W H : Nat) (b : Bool) (l : List Bool) (hl : ¬ 200 < (l.length : Int)) (hz : gchk W H l.length = 0) (hW : W ≤ 64) (hH : H ≤ 64) : Contract Tryz.prog 21 [GA W H b l] (B (decide (24 < (W : Int) + H))) := by
  refine Contract.intro (effS [] false) 6 follows Tryz.func21 rfl rfl (by kernel_rfl) (Nat.le_of_ble_eq_true rfl) ?_
  simp (disch := first | assumption | omega | rfl | simp only [RH]) only [↓RP, RG, FX, RQ, ↓reduceIte, Nat.reduceEqDiff, reduceCtorEq, Nat.reduceBEq, Nat.reduceAdd, Nat.reduceLeDiff, args0_1]
  refine callK_F 6 (gcheckR_c W H b l) (by simp (disch := first | assumption | omega | rfl | simp only [RH]) only [↓RP, RG, FX, RQ, ↓reduceIte, Nat.reduceEqDiff, reduceCtorEq, Nat.reduceBEq, Nat.reduceAdd, Nat.reduceLeDiff, RA] <;> rfl) (.inl (by simp [allFresh, ints_fresh, bools_fresh])) ?_
  simp (disch := first | assumption | omega | rfl | simp only [RH]) only [↓RP, RG, FX, RQ, ↓reduceIte, Nat.reduceEqDiff, reduceCtorEq, Nat.reduceBEq, Nat.reduceAdd, Nat.reduceLeDiff, hz]
  refine callK_F 6 (threads_c W H b l hW hH) (by simp (disch := first | assumption | omega | rfl | simp only [RH]) only [↓RP, RG, FX, RQ, ↓reduceIte, Nat.reduceEqDiff, reduceCtorEq, Nat.reduceBEq, Nat.reduceAdd, Nat.reduceLeDiff, RA] <;> rfl) (.inl (by simp [allFresh, ints_fresh, bools_fresh])) ?_
  by_cases c : 24 < (W : Int) + H
  · simp (disch := first | assumption | omega | rfl | simp only [RH]) only [↓RP, RG, FX, RQ, ↓reduceIte, Nat.reduceEqDiff, reduceCtorEq, Nat.reduceBEq, Nat.reduceAdd, Nat.reduceLeDiff]
    rw [resVal_1 rfl]; simp (disch := first | assumption | omega | rfl | simp only [RH]) only [↓RP, RG, FX, RQ, ↓reduceIte, Nat.reduceEqDiff, reduceCtorEq, Nat.reduceBEq, Nat.reduceAdd, Nat.reduceLeDiff, RS]
    first | done | simp [c]
  · simp (disch := first | assumption | omega | rfl | simp only [RH]) only [↓RP, RG, FX, RQ, ↓reduceIte, Nat.reduceEqDiff, reduceCtorEq, Nat.reduceBEq, Nat.reduceAdd, Nat.reduceLeDiff]
    rw [resVal_1 rfl]; simp (disch := first | assumption | omega | rfl | simp only [RH]) only [↓RP, RG, FX, RQ, ↓reduceIte, Nat.reduceEqDiff, reduceCtorEq, Nat.reduceBEq, Nat.reduceAdd, Nat.reduceLeDiff, RS]
    first | done | simp [c]

end Go.Proofs.YtdbpkjanlafajaaGreatDoor

/- What the search says: each thread that is reached has a next one that is nearer. -/
set_option linter.unusedSimpArgs false
set_option linter.unusedVariables false
set_option maxRecDepth 100000
namespace Go.Proofs.YtdbpkjanlafajaaGreatDoor
open Go Go.Proofs Go.AW

/-- What holds all along, of the ways. -/
structure Near (n a : Nat) (adj : Nat → List Nat) (far : List Int) (q : List Nat) : Prop where
  q0 : ∀ c ∈ q, 0 ≤ far.getD c 0
  one : ∀ x, x < n → far.getD x 0 = 0 → x = a
  zero : far.getD a 0 = 0
  next : ∀ x, x < n → 0 < far.getD x 0 → ∃ c, c < n ∧ far.getD c 0 = far.getD x 0 - 1 ∧ x ∈ adj c
theorem Near.push {n a : Nat} {adj : Nat → List Nat} {far : List Int} {q : List Nat} (h : Near n a adj far q) (hs : far.length = n) {b c : Nat} (hb : b < n) (hc : c < n) (hc0 : 0 ≤ far.getD c 0) (hn : far.getD b 0 < 0) (hadj : b ∈ adj c) : Near n a adj (far.set b (far.getD c 0 + 1)) (q ++ [b]) := by
  have hbl : b < far.length := by omega
  refine ⟨fun x hx => ?_, fun x hx h0 => ?_, ?_, fun x hx h0 => ?_⟩
  · rw [getD_set' hbl]
    split
    · omega
    · rcases List.mem_append.1 hx with g | g
      · exact h.q0 x g
      · rename_i hne
        exact absurd (by simpa using g) hne
  · rw [getD_set' hbl] at h0
    split at h0
    · omega
    · exact h.one x hx h0
  · rw [getD_set' hbl]
    have := h.zero
    rw [if_neg (fun e => by subst e; omega)]
    exact this
  · rw [getD_set' hbl] at h0 ⊢
    by_cases e : x = b
    · subst e
      rw [if_pos rfl] at h0 ⊢
      refine ⟨c, hc, ?_, hadj⟩
      rw [getD_set' hbl, if_neg (fun e => by subst e; omega)]
      omega
    · rw [if_neg e] at h0 ⊢
      obtain ⟨d, h1, h2, h3⟩ := h.next x hx h0
      refine ⟨d, h1, ?_, h3⟩
      rw [getD_set' hbl, if_neg (fun e => by subst e; omega)]
      exact h2
theorem inner_near {n a : Nat} {adj : Nat → List Nat} {c : Nat} (hc : c < n) : ∀ (ds : List Nat) (far : List Int) (q : List Nat), (∀ b ∈ ds, b < n ∧ b ∈ adj c) → Sound n far q → 0 ≤ far.getD c 0 → Near n a adj far q → Near n a adj (inner c ds (far, q)).1 (inner c ds (far, q)).2
  | [], far, q, _, _, _, h => h
  | b :: r, far, q, hd, hs, hc0, h => by
    have hd' : ∀ x ∈ r, x < n ∧ x ∈ adj c := fun x hx => hd x (List.mem_cons_of_mem _ hx)
    obtain ⟨hb, hbc⟩ := hd b List.mem_cons_self
    simp only [inner]
    split
    · rename_i hneg
      obtain ⟨h1, h2⟩ := hs.push hb hc hneg
      refine inner_near hc r _ _ hd' h1 ?_ (h.push hs.len hb hc hc0 hneg hbc)
      rw [getD_set' (by rw [hs.len]; exact hb), if_neg (fun e => by subst e; omega)]
      exact hc0
    · exact inner_near hc r far q hd' hs hc0 h
theorem bfs_near {n a : Nat} {adj : Nat → List Nat} (ha : ∀ c, c < n → ∀ b ∈ adj c, b < n) : ∀ (k : Nat) (far : List Int) (q : List Nat), Sound n far q → Near n a adj far q → ∃ q', Near n a adj (bfs adj k far q) q'
  | 0, far, q, _, h => ⟨q, h⟩
  | k + 1, far, [], _, h => ⟨[], h⟩
  | k + 1, far, c :: q, hs, h =>
    have hc := hs.mem c List.mem_cons_self
    bfs_near ha k _ _ (inner_ok hc (adj c) far q (ha c hc) hs.tail).1
      (inner_near hc (adj c) far q (fun b hb => ⟨ha c hc b hb, hb⟩) hs.tail (h.q0 c List.mem_cons_self) ⟨fun x hx => h.q0 x (List.mem_cons_of_mem _ hx), h.one, h.zero, h.next⟩)
theorem srch_near {W n : Nat} (l : List Bool) {a : Nat} (ha : a < n) : ∃ q, Near n a (adjT W n l) (srch (adjT W n l) (far0 n a) [a]) q := by
  refine bfs_near (fun c hc x hx => adjT_lt hx) _ _ _ (far0_sound ha).1 ?_
  have hl : a < (List.replicate n (-1 : Int)).length := by simpa using ha
  have hrep : ∀ x, x < n → (List.replicate n (-1 : Int)).getD x 0 = -1 := fun x hx => by simp [List.getD_eq_getElem?_getD, List.getElem?_replicate, hx]
  unfold far0
  refine ⟨fun x hx => ?_, fun x hx h0 => ?_, ?_, fun x hx h0 => ?_⟩
  · rw [getD_set' hl, if_pos (by simpa using hx)]; omega
  · rw [getD_set' hl] at h0
    by_cases e : x = a
    · exact e
    · rw [if_neg e, hrep x hx] at h0; omega
  · rw [getD_set' hl, if_pos rfl]
  · rw [getD_set' hl] at h0
    by_cases e : x = a
    · rw [if_pos e] at h0; omega
    · rw [if_neg e, hrep x hx] at h0; omega
end Go.Proofs.YtdbpkjanlafajaaGreatDoor

/- The way, by the reference. -/
set_option linter.unusedSimpArgs false
set_option linter.unusedVariables false
set_option maxRecDepth 100000
namespace Go.Proofs.YtdbpkjanlafajaaGreatDoor
open Go Go.Proofs Go.AW

/-- What the distances to a are. -/
structure Dist (W n : Nat) (l : List Bool) (a : Nat) (far : List Int) : Prop where
  len : far.length = n
  low : ∀ i, i < n → -1 ≤ far.getD i 0
  high : ∀ i, i < n → far.getD i 0 ≤ n
  one : ∀ x, x < n → far.getD x 0 = 0 → x = a
  zero : far.getD a 0 = 0
  next : ∀ x, x < n → 0 < far.getD x 0 → ∃ c, c < n ∧ far.getD c 0 = far.getD x 0 - 1 ∧ ov W l x c = true
end Go.Proofs.YtdbpkjanlafajaaGreatDoor

/- A cloth that hangs together: every way is there. The walk, plain. -/
set_option linter.unusedSimpArgs false
set_option linter.unusedVariables false
set_option maxRecDepth 100000
namespace Go.Proofs.YtdbpkjanlafajaaGreatDoor
open Go Go.Proofs Go.AW

theorem upN_all {far : List Int} : ∀ {n : Nat}, (upN far n).length = n → ∀ i, i < n → 0 ≤ far.getD i 0 := by
  intro n
  induction n with
  | zero => intro _ i hi; omega
  | succ n ih =>
    intro h i hi
    have hle := upN_le far n
    simp only [upN] at h
    split at h
    · rename_i h0
      simp only [List.length_append, List.length_singleton] at h
      by_cases e : i = n
      · subst e; exact h0
      · exact ih (by omega) i (by omega)
    · omega
theorem best_least (W n : Nat) (l : List Bool) : ∀ k j, j ≤ k → (best W n l k).length ≤ (upon W n l j).length := by
  intro k
  induction k with
  | zero => intro j hj; obtain rfl : j = 0 := by omega
            exact Nat.le_refl _
  | succ k ih =>
    intro j hj
    simp only [best]
    by_cases e : j = k + 1
    · subst e
      split
      · exact Nat.le_refl _
      · rename_i h
        unfold less at h
        have := Classical.byContradiction fun hh => h (.inl (Nat.lt_of_not_le hh))
        exact this
    · have := ih j (by omega)
      split
      · rename_i h
        unfold less at h
        rcases h with h | h <;> omega
      · exact this
/-- Where the cloth hangs together, each thread is reached from each. -/
theorem all_near {W n : Nat} (l : List Bool) (hb : (best W n l (n - 1)).length = n) {a x : Nat} (ha : a < n) (hx : x < n) : 0 ≤ (srch (adjT W n l) (far0 n a) [a]).getD x 0 := by
  have h1 := best_least W n l (n - 1) a (by omega)
  have h2 := upon_le W n l a
  exact upN_all (show (upN (srch (adjT W n l) (far0 n a) [a]) n).length = n by show (upon W n l a).length = n; omega) x hx
theorem nI_inc {xs : List Nat} (h : xs.Pairwise (· < ·)) : (nI xs).Pairwise (· < ·) := by
  unfold nI
  rw [List.pairwise_map]
  exact h.imp fun h => by omega
end Go.Proofs.YtdbpkjanlafajaaGreatDoor

/- What hanging together is: no closed set but all. Plain. -/
set_option linter.unusedSimpArgs false
set_option linter.unusedVariables false
set_option maxRecDepth 100000
namespace Go.Proofs.YtdbpkjanlafajaaGreatDoor
open Go Go.Proofs Go.AW

/-- With a thread, all that lie over it. -/
def Cl (W n : Nat) (l : List Bool) (M : Nat → Prop) : Prop := ∀ c, c < n → M c → ∀ a, a < n → ov W l a c = true → M a
theorem mem_adjT {W n : Nat} {l : List Bool} {c a : Nat} : a ∈ adjT W n l c ↔ a < n ∧ ov W l a c = true := by
  simp only [adjT, List.mem_filter, List.mem_range]
/-- What is reached from a is in each closed set that a is in. -/
theorem reach_in {W n : Nat} {l : List Bool} {a : Nat} (ha : a < n) {M : Nat → Prop} (hM : Cl W n l M) (h0 : M a) : ∀ (d x : Nat), x < n → (srch (adjT W n l) (far0 n a) [a]).getD x 0 = d → M x := by
  obtain ⟨q, hN⟩ := srch_near (W := W) l ha
  intro d
  induction d with
  | zero => intro x hx h; rw [hN.one x hx h]; exact h0
  | succ d ih =>
    intro x hx h
    obtain ⟨c, c1, c2, c3⟩ := hN.next x hx (by omega)
    exact hM c c1 (ih c c1 (by omega)) x hx (mem_adjT.1 c3).2
theorem inner_done {n c : Nat} (hc : c < n) : ∀ (ds : List Nat) (far : List Int) (q : List Nat), (∀ b ∈ ds, b < n) → Sound n far q → 0 ≤ far.getD c 0 →
    (∀ x, 0 ≤ far.getD x 0 → 0 ≤ (inner c ds (far, q)).1.getD x 0) ∧ (∀ b ∈ ds, 0 ≤ (inner c ds (far, q)).1.getD b 0) ∧ (∀ x, x < n → 0 ≤ (inner c ds (far, q)).1.getD x 0 → 0 ≤ far.getD x 0 ∨ x ∈ (inner c ds (far, q)).2) ∧ ∀ x ∈ q, x ∈ (inner c ds (far, q)).2
  | [], far, q, _, _, _ => ⟨fun x h => h, fun b hb => absurd hb (by simp), fun x hx h => Or.inl h, fun x h => h⟩
  | b :: r, far, q, hd, hs, hc0 => by
    have hd' : ∀ x ∈ r, x < n := fun x hx => hd x (List.mem_cons_of_mem _ hx)
    have hb := hd b List.mem_cons_self
    have hbl : b < far.length := by rw [hs.len]; exact hb
    simp only [inner]
    split
    · rename_i hneg
      obtain ⟨h1, h2⟩ := hs.push hb hc hneg
      have hc1 : 0 ≤ (far.set b (far.getD c 0 + 1)).getD c 0 := by
        rw [getD_set' hbl]; split <;> omega
      obtain ⟨i1, i2, i3, i4⟩ := inner_done hc r _ _ hd' h1 hc1
      refine ⟨fun x hx => i1 x ?_, fun x hx => ?_, fun x hx h => ?_, fun x hx => i4 x (List.mem_append_left _ hx)⟩
      · rw [getD_set' hbl]; split <;> omega
      · rcases List.mem_cons.1 hx with e | e
        · subst e
          refine i1 x ?_
          rw [getD_set' hbl, if_pos rfl]; omega
        · exact i2 x e
      · rcases i3 x hx h with g | g
        · rw [getD_set' hbl] at g
          by_cases e : x = b
          · exact .inr (i4 x (by simp [e]))
          · rw [if_neg e] at g; exact .inl g
        · exact .inr g
    · rename_i hneg
      obtain ⟨i1, i2, i3, i4⟩ := inner_done hc r far q hd' hs hc0
      refine ⟨i1, fun x hx => ?_, i3, i4⟩
      rcases List.mem_cons.1 hx with e | e
      · subst e; exact i1 x (by omega)
      · exact i2 x e
/-- Each one that is reached is in the queue, or all next to it are reached. -/
def Done (n : Nat) (adj : Nat → List Nat) (far : List Int) (q : List Nat) : Prop := (∀ c ∈ q, 0 ≤ far.getD c 0) ∧ ∀ c, c < n → 0 ≤ far.getD c 0 → c ∈ q ∨ ∀ b ∈ adj c, 0 ≤ far.getD b 0
theorem bfs_done {n : Nat} {adj : Nat → List Nat} (ha : ∀ c, c < n → ∀ b ∈ adj c, b < n) : ∀ (k : Nat) (far : List Int) (q : List Nat), Sound n far q → Done n adj far q → 2 * neg far + q.length ≤ k → Done n adj (bfs adj k far q) []
  | 0, far, q, _, h, hk => by
    have : q = [] := List.eq_nil_of_length_eq_zero (by omega)
    subst this; exact h
  | k + 1, far, [], _, h, _ => h
  | k + 1, far, c :: q, hs, h, hk => by
    have hc := hs.mem c List.mem_cons_self
    have hc0 := h.1 c List.mem_cons_self
    obtain ⟨h1, h2⟩ := inner_ok hc (adj c) far q (ha c hc) hs.tail
    obtain ⟨i1, i2, i3, i4⟩ := inner_done hc (adj c) far q (ha c hc) hs.tail hc0
    simp only [List.length_cons] at hk
    refine bfs_done ha k _ _ h1 ⟨fun x hx => ?_, fun x hx hx0 => ?_⟩ (by omega)
    · refine Classical.byContradiction fun hneg => ?_
      have hN : ∀ (ds : List Nat) (far : List Int) (q : List Nat), (∀ b ∈ ds, b < n) → Sound n far q → 0 ≤ far.getD c 0 → (∀ y ∈ q, 0 ≤ far.getD y 0) → ∀ y ∈ (inner c ds (far, q)).2, 0 ≤ (inner c ds (far, q)).1.getD y 0 := by
        intro ds
        induction ds with
        | nil => intro far q _ _ _ hq; exact hq
        | cons b r ih =>
          intro far q hd hs hc0 hq
          have hb := hd b List.mem_cons_self
          have hbl : b < far.length := by rw [hs.len]; exact hb
          simp only [inner]
          split
          · rename_i hneg
            refine ih _ _ (fun x hx => hd x (List.mem_cons_of_mem _ hx)) (hs.push hb hc hneg).1 ?_ (fun y hy => ?_)
            · rw [getD_set' hbl]; split <;> omega
            · rw [getD_set' hbl]
              split
              · omega
              · rename_i hne
                rcases List.mem_append.1 hy with g | g
                · exact hq y g
                · exact absurd (by simpa using g) hne
          · exact ih _ _ (fun x hx => hd x (List.mem_cons_of_mem _ hx)) hs hc0 hq
      exact hneg (hN (adj c) far q (ha c hc) hs.tail hc0 (fun y hy => h.1 y (List.mem_cons_of_mem _ hy)) x hx)
    · rcases i3 x hx hx0 with g | g
      · rcases h.2 x hx g with e | e
        · rcases List.mem_cons.1 e with e | e
          · subst e; exact .inr i2
          · exact .inl (i4 x e)
        · exact .inr fun b hb => i1 b (e b hb)
      · exact .inl g
/-- What is reached from a. -/
def Rch (W n : Nat) (l : List Bool) (a x : Nat) : Prop := 0 ≤ (srch (adjT W n l) (far0 n a) [a]).getD x 0
instance (W n : Nat) (l : List Bool) (a x : Nat) : Decidable (Rch W n l a x) := by unfold Rch; infer_instance
theorem rch_cl {W n : Nat} (l : List Bool) {a : Nat} (ha : a < n) : Cl W n l (Rch W n l a) := by
  have h : Done n (adjT W n l) (srch (adjT W n l) (far0 n a) [a]) [] := by
    refine bfs_done (fun c hc x hx => adjT_lt hx) _ _ _ (far0_sound ha).1 ⟨fun c hc => ?_, fun c hc hc0 => ?_⟩ (Nat.le_refl _)
    · obtain rfl : c = a := by simpa using hc
      unfold far0
      rw [getD_set' (by simpa using ha), if_pos rfl]; omega
    · by_cases e : c = a
      · exact .inl (by simp [e])
      · unfold far0 at hc0
        rw [getD_set' (by simpa using ha), if_neg e] at hc0
        simp [List.getD_eq_getElem?_getD, List.getElem?_replicate, hc] at hc0
  intro c hc hR x hx hov
  rcases h.2 c hc hR with g | g
  · cases g
  · exact g x (mem_adjT.2 ⟨hx, hov⟩)
theorem rch_self {W n : Nat} (l : List Bool) {a : Nat} (ha : a < n) : Rch W n l a a := srch_self l ha
theorem rch_in {W n : Nat} {l : List Bool} {a x : Nat} (ha : a < n) (hx : x < n) {M : Nat → Prop} (hM : Cl W n l M) (h0 : M a) (h : Rch W n l a x) : M x :=
  reach_in ha hM h0 ((srch (adjT W n l) (far0 n a) [a]).getD x 0).toNat x hx (by unfold Rch at h; omega)
/-- The numbers below k that are wanted: upN, upon. -/
theorem upN_eq (far : List Int) (k : Nat) : upN far k = nI ((List.range k).filter fun i => decide (0 ≤ far.getD i 0)) := by
  induction k with
  | zero => rfl
  | succ k ih =>
    simp only [upN]
    rw [List.range_succ, List.filter_append, ih]
    split
    · rename_i h
      rw [List.filter_cons_of_pos (by simpa using h), List.filter_nil, nI_app]
    · rename_i h
      rw [List.filter_cons_of_neg (by simpa using h), List.filter_nil, List.append_nil]
theorem upon_eq (W n : Nat) (l : List Bool) (a : Nat) : upon W n l a = nI ((List.range n).filter fun i => decide (Rch W n l a i)) := upN_eq _ _
theorem best_upon (W n : Nat) (l : List Bool) : ∀ k, ∃ j, j ≤ k ∧ best W n l k = upon W n l j := by
  intro k
  induction k with
  | zero => exact ⟨0, Nat.le_refl _, rfl⟩
  | succ k ih =>
    simp only [best]
    split
    · exact ⟨k + 1, Nat.le_refl _, rfl⟩
    · obtain ⟨j, h1, h2⟩ := ih; exact ⟨j, by omega, h2⟩
/-- The cloth hangs together. -/
def Hg (W n : Nat) (l : List Bool) : Prop := ∀ M : Nat → Prop, Cl W n l M → (∃ c, c < n ∧ M c) → ∀ x, x < n → M x
theorem hg_best {W n : Nat} {l : List Bool} (hn : 0 < n) : (best W n l (n - 1)).length = n ↔ Hg W n l := by
  constructor
  · rintro hb M hM ⟨c, hc, h0⟩ x hx
    exact rch_in hc hx hM h0 (all_near l hb hc hx)
  · intro h
    obtain ⟨j, h1, h2⟩ := best_upon W n l (n - 1)
    have hall : ∀ x, x < n → Rch W n l j x := h _ (rch_cl l (by omega)) ⟨j, by omega, rch_self l (by omega)⟩
    rw [h2, upon_eq, List.filter_eq_self.2 (fun x hx => decide_eq_true (hall x (List.mem_range.1 hx))), nI_len, List.length_range]
end Go.Proofs.YtdbpkjanlafajaaGreatDoor

/- Chapter 11: the parts of a cloth, by the program. -/
set_option linter.unusedSimpArgs false
set_option linter.unusedVariables false
set_option maxRecDepth 100000
namespace Go.Proofs.YtdbpkjanlafajaaGreatDoor
open Go Go.Proofs Go.AW

/-- Thread a is held by thread b. -/
def hdB (W n : Nat) (l : List Bool) (a b : Nat) : Bool := decide (0 ≤ (srch (adjT W n l) (far0 n a) [a]).getD b 0)
theorem adjT_in {W n : Nat} {l : List Bool} : ∀ x y, x < n → y ∈ adjT W n l x → y < n := fun _ _ _ h => adjT_lt h
theorem adjT_le (W n : Nat) (l : List Bool) (a : Nat) : (adjT W n l a).length ≤ n := by
  unfold adjT; exact Nat.le_trans (List.length_filter_le _ _) (by simp)
theorem hdB_iff {W n : Nat} {l : List Bool} {a b : Nat} (ha : a < n) (hb : b < n) : hdB W n l a b = true ↔ Wy (adjT W n l) a b := by
  unfold hdB
  rw [decide_eq_true_eq]
  constructor
  · intro h
    refine rch_in ha hb (M := fun x => Wy (adjT W n l) a x) (fun c hc hw x hx ho => ?_) (.refl a) h
    exact Wy.trans hw (.one (mem_adjT.2 ⟨hx, ho⟩))
  · intro h
    have hcl := rch_cl (W := W) l ha
    exact (h.closed (p := fun x => x < n ∧ Rch W n l a x) (fun x y hx hy => by
      obtain ⟨h1, h2⟩ := mem_adjT.1 hy
      exact ⟨h1, hcl x hx.1 hx.2 y h1 h2⟩) ⟨ha, rch_self l ha⟩).2
/-- The parts of a cloth in their order. -/
def PL (W n : Nat) (l : List Bool) : List (List Nat) := lsP (hdB W n l) n n fun _ => false
def PV (ps : List (List Nat)) : AVal := .list true ps.isEmpty ps.length (rowsC ps)
def nxV (o : Option Nat) : Int := match o with
  | none => -1
  | some p => (p : Int)
theorem fI_const (n : Nat) (v : Int) : fI n (fun _ => v) = List.replicate n v := by
  rw [List.eq_replicate_iff]
  exact ⟨fI_len _ _, fun x hx => by obtain ⟨_, _, rfl⟩ := List.mem_map.1 hx; rfl⟩
theorem LL_fr (k : Nat) (rs : List (List Int)) : ∀ x, x ∈ LL rs → allFresh (k + 2) x = true := by
  intro x hx
  obtain ⟨r, _, rfl⟩ := List.mem_map.1 hx
  simp [allFresh, ints_fresh]
/-- Rows, by parts. -/
def fL (m : Nat) (g : Nat → List Nat) : List (List Int) := (List.range m).map fun q => nI (g q)
theorem fL_len (m : Nat) (g : Nat → List Nat) : (fL m g).length = m := by simp [fL]
theorem fL_get {m : Nat} {g : Nat → List Nat} {q : Nat} (h : q < m) : (fL m g).getD q [] = nI (g q) := by simp [fL, List.getD_eq_getElem?_getD, h]
theorem fL_set {m : Nat} {g : Nat → List Nat} {q : Nat} (v : List Nat) : (fL m g).set q (nI v) = fL m (updN g q v) := by
  refine List.ext_getElem (by simp [fL]) fun i h1 h2 => ?_
  rw [List.getElem_set]
  simp only [fL, List.getElem_map, List.getElem_range]
  by_cases h : q = i
  · rw [if_pos h, h, updN_same]
  · rw [if_neg h, updN_other _ _ (fun e => h e.symm)]
theorem fL_nil (m : Nat) : fL m (fun _ => []) = List.replicate m [] := by
  rw [List.eq_replicate_iff]
  exact ⟨fL_len _ _, fun x hx => by obtain ⟨_, _, rfl⟩ := List.mem_map.1 hx; rfl⟩
section
variable {o0 o1 o2 o3 o4 o5 o6 o7 : AObj} {rs : List (List Int)} {tl : List AObj}
theorem h8_at {a : Nat} (ha : a < rs.length) : (o0 :: o1 :: o2 :: o3 :: o4 :: o5 :: o6 :: o7 :: (gos rs ++ tl))[8 + a]? = some (go 3 (ints (rs.getD a []))) := by
  rw [show 8 + a = a + 8 by omega]
  simp only [List.getElem?_cons_succ]
  rw [List.getElem?_append_left (by rw [gos_len]; exact ha)]
  exact gos_at ha
theorem h8_set {a : Nat} (ha : a < rs.length) (r : List Int) : (o0 :: o1 :: o2 :: o3 :: o4 :: o5 :: o6 :: o7 :: (gos rs ++ tl)).set (8 + a) (go 3 (ints r)) = o0 :: o1 :: o2 :: o3 :: o4 :: o5 :: o6 :: o7 :: (gos (rs.set a r) ++ tl) := by
  rw [show 8 + a = a + 8 by omega]
  simp only [List.set_cons_succ]
  rw [List.set_append_left _ _ (by rw [gos_len]; exact ha), gos_set]
theorem h8_tl {m k : Nat} (hm : rs.length = m) : (o0 :: o1 :: o2 :: o3 :: o4 :: o5 :: o6 :: o7 :: (gos rs ++ tl))[8 + m + k]? = tl[k]? := by
  rw [show 8 + m + k = m + k + 8 by omega]
  simp only [List.getElem?_cons_succ]
  rw [List.getElem?_append_right (by rw [gos_len]; omega), gos_len, hm, Nat.add_sub_cancel_left]
theorem h8_stl {m k : Nat} (hm : rs.length = m) (o : AObj) : (o0 :: o1 :: o2 :: o3 :: o4 :: o5 :: o6 :: o7 :: (gos rs ++ tl)).set (8 + m + k) o = o0 :: o1 :: o2 :: o3 :: o4 :: o5 :: o6 :: o7 :: (gos rs ++ tl.set k o) := by
  rw [show 8 + m + k = m + k + 8 by omega]
  simp only [List.set_cons_succ]
  rw [List.set_append_right _ _ (by rw [gos_len]; omega), gos_len, hm, Nat.add_sub_cancel_left]
end
theorem argOf_gwI {h : List AObj} {k e m : Nat} {l : List Int} (ho : h[k]? = some (go e (ints l))) : argOf h (m + 2) (gw true k (ints l)) = LA l.isEmpty l := by
  rw [argOf_gw, ho, gaA_go, ints_length, ints_arg]
  have : (ints l).isEmpty = l.isEmpty := by cases l <;> rfl
  rw [this]; rfl
theorem mem_nI {l : List Nat} {x : Nat} : (x : Int) ∈ nI l ↔ x ∈ l := by
  unfold nI
  rw [List.mem_map]
  constructor
  · rintro ⟨y, h1, h2⟩
    have : y = x := by omega
    exact this ▸ h1
  · intro h; exact ⟨x, h, rfl⟩
/-- Marks, by parts. -/
def fB (m : Nat) (D : Nat → Bool) : List Bool := (List.range m).map D
theorem fB_len (m : Nat) (D : Nat → Bool) : (fB m D).length = m := by simp [fB]
theorem fB_get {m : Nat} {D : Nat → Bool} {p : Nat} (h : p < m) : (fB m D).getD p false = D p := by simp [fB, List.getD_eq_getElem?_getD, h]
theorem fB_set {m : Nat} {D : Nat → Bool} {p : Nat} (v : Bool) : (fB m D).set p v = fB m (updN D p v) := by
  refine List.ext_getElem (by simp [fB]) fun i h1 h2 => ?_
  rw [List.getElem_set]
  simp only [fB, List.getElem_map, List.getElem_range]
  by_cases h : p = i
  · rw [if_pos h, h, updN_same]
  · rw [if_neg h, updN_other _ _ (fun e => h e.symm)]
theorem fB_none (m : Nat) : fB m (fun _ => false) = List.replicate m false := by
  rw [List.eq_replicate_iff]
  exact ⟨fB_len _ _, fun x hx => by obtain ⟨_, _, rfl⟩ := List.mem_map.1 hx; rfl⟩
theorem rowsC_at {ps : List (List Nat)} {i : Nat} (h : i < ps.length) : ((rowsC ps).drop i)[0]? = some (LR false (nI (ps.getD i []))) := by
  rw [List.getElem?_drop, Nat.add_zero, rowsC, List.getElem?_map, List.getElem?_eq_getElem h, List.getD_eq_getElem?_getD, List.getElem?_eq_getElem h]; rfl
section
variable {o0 o1 o2 o3 o4 o5 o6 o7 : AObj} {rs : List (List Int)} {tl : List AObj} {m : Nat}
theorem h8_t0 (hm : rs.length = m) : (o0 :: o1 :: o2 :: o3 :: o4 :: o5 :: o6 :: o7 :: (gos rs ++ tl))[m + 8]? = tl[0]? := by
  rw [show m + 8 = 8 + m + 0 by omega]; exact h8_tl hm
theorem h8_t1 (hm : rs.length = m) : (o0 :: o1 :: o2 :: o3 :: o4 :: o5 :: o6 :: o7 :: (gos rs ++ tl))[m + 9]? = tl[1]? := by
  rw [show m + 9 = 8 + m + 1 by omega]; exact h8_tl hm
theorem h8_s0 (hm : rs.length = m) (o : AObj) : (o0 :: o1 :: o2 :: o3 :: o4 :: o5 :: o6 :: o7 :: (gos rs ++ tl)).set (m + 8) o = o0 :: o1 :: o2 :: o3 :: o4 :: o5 :: o6 :: o7 :: (gos rs ++ tl.set 0 o) := by
  rw [show m + 8 = 8 + m + 0 by omega]; exact h8_stl hm o
theorem h8_s1 (hm : rs.length = m) (o : AObj) : (o0 :: o1 :: o2 :: o3 :: o4 :: o5 :: o6 :: o7 :: (gos rs ++ tl)).set (m + 9) o = o0 :: o1 :: o2 :: o3 :: o4 :: o5 :: o6 :: o7 :: (gos rs ++ tl.set 1 o) := by
  rw [show m + 9 = 8 + m + 1 by omega]; exact h8_stl hm o
end
theorem hdL_nI {q : List Nat} (h : 0 < q.length) : (nI q).getD 0 0 = (hdL q : Int) := by
  cases q with
  | nil => simp at h
  | cons a t => rfl
theorem rowsC_res (h : List AObj) (n : Nat) (ps : List (List Nat)) : (rowsC ps).map (resOf h (n + 2)) = rowsC ps := by
  unfold rowsC
  rw [List.map_map]
  refine List.map_congr_left fun l _ => ?_
  simp [resOf, resOf_list, ints_res]
theorem abv_len (W n : Nat) (l : List Bool) : (abv W n l).length = n := by simp [abv]
set_option maxHeartbeats 1000000 in
theorem partsP_c {W H n : Nat} (hN : W + H = n) (hW0 : 0 < W) (hH0 : 0 < H) (hn64 : n ≤ 64) (b : Bool) {l : List Bool} (hn : l.length = W * H) : Contract Tryz.prog 28 [GA W H b l] (PV (PL W n l)) := by
  have hab := aboveP_c hN hW0 hH0 (by omega) (by omega) b hn
  have hNi : ((W : Int) + (H : Int)).toNat = n := by omega
  have hNc : (W : Int) + (H : Int) = (n : Int) := by omega
  have hrl := abv_len W n l
  have hrow : ∀ a, a < n → (abv W n l).getD a [] = nI (adjT W n l a) := fun a ha => abv_adj ha
  have hS := tAll_scc (ov := adjT W n l) (n := n) adjT_in
  have hinv := tAll_inv (ov := adjT W n l) (n := n) adjT_in
  refine Contract.intro (effS [48] false [1] [0] [] (fun _ => true) [] [48]) 6 follows Tryz.func28 rfl rfl (by kernel_rfl) (Nat.le_of_ble_eq_true rfl) ?_
  simp (disch := first | assumption | omega | rfl | simp only [RH]) only [↓RP, RG, FX, RQ, ↓reduceIte, Nat.reduceEqDiff, reduceCtorEq, Nat.reduceBEq, Nat.reduceAdd, Nat.reduceLeDiff, args0_1, hNc]
  refine callK_F 6 hab (by simp (disch := first | assumption | omega | rfl | simp only [RH]) only [↓RP, RG, FX, RQ, ↓reduceIte, Nat.reduceEqDiff, reduceCtorEq, Nat.reduceBEq, Nat.reduceAdd, Nat.reduceLeDiff, RA] <;> rfl) (.inl (by simp [allFresh]; exact LL_fr 3 _)) ?_
  simp (disch := first | assumption | omega | rfl | simp only [RH]) only [↓RP, RG, FX, RQ, ↓reduceIte, Nat.reduceEqDiff, reduceCtorEq, Nat.reduceBEq, Nat.reduceAdd, Nat.reduceLeDiff, make_int, hNi, hNc]
  refine callK_M (o := ⟨3, 1, ints (List.replicate n (-1))⟩) (fun k => .ref k 0 n n) (.ref 0 n n) rfl rfl (fun h2 => repeat_s h2 (by omega) (by omega)) ?_ (by simp) (fun x hx => by
    simp only [ints, List.mem_map] at hx
    obtain ⟨u, _, rfl⟩ := hx
    exact ⟨_, rfl⟩)
  simp (disch := first | assumption | omega | rfl | simp only [RH]) only [↓RP, RG, FX, RQ, ↓reduceIte, Nat.reduceEqDiff, reduceCtorEq, Nat.reduceBEq, Nat.reduceAdd, Nat.reduceLeDiff]
  refine loopK_WW [3, 4, 35, 36] (fun a : Nat => a ≤ n) (fun a => ⟨[(3, I n), (4, .ptr 3 0 7), (35, I n), (36, I a)], FS (abv W n l) n (tAll (adjT W n l) n a)⟩) (fun a => n - a) 0 (by omega) ?_ ?_
  · simp only [↓RP, RG, FX, RQ, ↓reduceIte, Nat.reduceEqDiff, reduceCtorEq, Nat.reduceBEq, Nat.reduceAdd, Nat.reduceLeDiff]
    have e : FS (abv W n l) n (tAll (adjT W n l) n 0) = [⟨3, 1, ints (List.replicate n 0)⟩, ⟨3, 1, ints (List.replicate n 0)⟩, ⟨3, 1, ints (List.replicate n (-1))⟩, ⟨79, 7, [.list true false n (LL (abv W n l)), .ref 0 0 n n, .ref 1 0 n n, .ref 2 0 n n, .res 4, I 0, .res 5]⟩, ⟨0, 0, []⟩, ⟨0, 0, []⟩] := by
      rw [← fI_const, ← fI_const]; rfl
    rw [e]
    exact Wk.weak (fun t => .refl _) (.cons _ _ _ _ (WL.refl _) (.cons _ _ _ _ (WL.refl _) (.cons _ _ _ _ (WL.refl _) (.cons _ _ _ _ (.cons (.refl _) (.cons (.refl _) (.cons (.refl _) (.cons (.refl _) (.cons (.nil _) (.cons (.refl _) (.cons (.nil _) .nil))))))) (.nil _ (by simp))))))
  intro a ha
  obtain ⟨s, hs⟩ : ∃ s, tAll (adjT W n l) n a = s := ⟨_, rfl⟩
  have hsi := (hinv a ha).1
  rw [hs] at hsi
  simp only [hs]
  have m1 := fI_len n fun x => (s.ix x : Int)
  by_cases hlt : a < n
  · have gix : (fI n fun x => (s.ix x : Int)).getD a 0 = (s.ix a : Int) := fI_get hlt
    by_cases h0 : s.ix a = 0
    · have hnx : tAll (adjT W n l) n (a + 1) = tVis (adjT W n l) n s a := by
        show (if (tAll (adjT W n l) n a).ix a = 0 then _ else _) = _
        rw [hs, if_pos h0]
      have hg0 : (fI n fun x => (s.ix x : Int)).getD a 0 = 0 := by rw [gix, h0]; rfl
      unfold FS
      simp (disch := first | assumption | omega | rfl | simp only [RH]) only [↓RP, RG, FX, RQ, ↓reduceIte, Nat.reduceEqDiff, reduceCtorEq, Nat.reduceBEq, Nat.reduceAdd, Nat.reduceLeDiff, hg0, Int.toNat_natCast]
      refine callK_T rfl (visit_s (by omega) hrl hrow (fun a _ => adjT_le W n l a) adjT_in n s [] a hsi hlt h0 (fun g hg => by cases hg) (by have := hsi.mtc; omega)) ?_
      simp (disch := first | assumption | omega | rfl | simp only [RH]) only [↓RP, RG, FX, RQ, ↓reduceIte, Nat.reduceEqDiff, reduceCtorEq, Nat.reduceBEq, Nat.reduceAdd, Nat.reduceLeDiff]
      exact ⟨a + 1, hlt, Wk.of_eq (by rw [hnx]; rfl), by omega⟩
    · have hnx : tAll (adjT W n l) n (a + 1) = s := by
        show (if (tAll (adjT W n l) n a).ix a = 0 then _ else _) = _
        rw [hs, if_neg h0]
      have hg0 : ¬ (fI n fun x => (s.ix x : Int)).getD a 0 = 0 := by rw [gix]; omega
      unfold FS
      simp (disch := first | assumption | omega | rfl | simp only [RH]) only [↓RP, RG, FX, RQ, ↓reduceIte, Nat.reduceEqDiff, reduceCtorEq, Nat.reduceBEq, Nat.reduceAdd, Nat.reduceLeDiff, Int.toNat_natCast]
      exact ⟨a + 1, hlt, Wk.of_eq (by rw [hnx]; rfl), by omega⟩
  obtain rfl : n = a := by omega
  rw [hs] at hS
  have hpl : s.ps.length ≤ n := hS.len_le
  unfold FS
  obtain ⟨m, hm⟩ : ∃ m, s.ps.length = m := ⟨_, rfl⟩
  rw [hm] at hpl
  have hgs : gS (some (go 25 (rowsC s.ps))) (rowsC s.ps) = some (m, rowsC s.ps) := by rw [gS_go]; simp [rowsC, hm]
  have hmi : ((m : Nat) : Int).toNat = m := Int.toNat_natCast m
  have hcell : ofCell (.slice none 0 0) = .cap0 true := rfl
  -- which parts lie over which
  obtain ⟨P, hP⟩ : ∃ P : Nat → Nat, P = fun x => (s.pt x).toNat := ⟨_, rfl⟩
  obtain ⟨hF, hFn, hO⟩ := gAll_lies hS (m := m) hm.symm adjT_in (fun a _ => adjT_le W n l a)
  rw [← hP] at hF hFn hO
  have hPm : ∀ x, x < n → P x < m := fun x hx => by
    have h0 := hS.all x hx
    obtain ⟨l', h1, _⟩ := (hS.p1 x (s.pt x).toNat).1 (by omega)
    have := (List.getElem?_eq_some_iff.1 h1).1
    rw [hP]; simp only []; omega
  have hPt : ∀ x, x < n → s.pt x = (P x : Int) := fun x hx => by
    have h0 := hS.all x hx
    rw [hP]; simp only []; omega
  have hgi := gAt_inv (P := P) (n := n) (m := m) hPm adjT_in (fun a _ => adjT_le W n l a)
  simp (disch := first | assumption | omega | rfl | simp only [RH]) only [↓RP, RG, FX, RQ, ↓reduceIte, Nat.reduceEqDiff, reduceCtorEq, Nat.reduceBEq, Nat.reduceAdd, Nat.reduceLeDiff, sview_gw, hgs, make_int, make_one, hmi, hcell, ovV]
  generalize (⟨3, 1, ints (fI n fun x => (s.ix x : Int))⟩ : AObj) = o0
  generalize (⟨3, 1, ints (fI n fun x => (s.lo x : Int))⟩ : AObj) = o1
  generalize stO s.st s.jk = o4
  generalize stV 4 s.st s.jk = x4
  refine loopK_WW [3, 4, 6, 7, 57, 58, 59] (fun a : Nat => a ≤ n) (fun a => ⟨[(3, I n), (4, .ptr 3 0 7), (6, .ref 6 0 m m), (7, .ref 7 0 m m), (57, .list true false n (LL (abv W n l))), (58, I n), (59, I a)], o0 :: o1 :: ⟨3, 1, ints (fI n s.pt)⟩ :: ⟨79, 7, [.list true false n (LL (abv W n l)), .ref 0 0 n n, .ref 1 0 n n, .ref 2 0 n n, x4, I s.mt, gw true 5 (rowsC s.ps)]⟩ :: o4 :: go 25 (rowsC s.ps) :: ⟨3, 1, ints (fI m fun p => ((gAll (adjT W n l) P a).w p : Int))⟩ :: ⟨25, 1, gws 8 (fL m (gAll (adjT W n l) P a).f)⟩ :: (gos (fL m (gAll (adjT W n l) P a).f) ++ [])⟩) (fun a => n - a) 0 (by omega) ?_ ?_
  · simp only [↓RP, RG, FX, RQ, ↓reduceIte, Nat.reduceEqDiff, reduceCtorEq, Nat.reduceBEq, Nat.reduceAdd, Nat.reduceLeDiff]
    have e1 : (fI m fun p => ((gAll (adjT W n l) P 0).w p : Int)) = List.replicate m 0 := fI_const m 0
    have e2 : fL m (gAll (adjT W n l) P 0).f = List.replicate m [] := fL_nil m
    rw [e1, e2]
    exact Wk.weak (fun t => .refl _) (.app [o0, o1, _, _, o4, _, _] (.cons _ _ _ _ (WL_gws 8 m) (.nil _ (gos_nil m))))
  intro a ha
  by_cases hlt : a < n
  · have hra := LL_at (rs := abv W n l) (a := a) (by omega)
    rw [hrow a hlt] at hra
    have hal := adjT_le W n l a
    have hai : (nI (adjT W n l a)).length = (adjT W n l a).length := nI_len _
    simp (disch := first | assumption | omega | rfl | simp only [RH]) only [↓RP, RG, FX, RQ, ↓reduceIte, Nat.reduceEqDiff, reduceCtorEq, Nat.reduceBEq, Nat.reduceAdd, Nat.reduceLeDiff, hra, Int.toNat_natCast]
    refine loopK_I [3, 4, 6, 7, 8, 57, 58, 59, 64, 65, 66] (fun j : Nat => j ≤ (adjT W n l a).length) (fun j => ⟨[(3, I n), (4, .ptr 3 0 7), (6, .ref 6 0 m m), (7, .ref 7 0 m m), (8, I a), (57, .list true false n (LL (abv W n l))), (58, I n), (59, I a), (64, LR (nI (adjT W n l a)).isEmpty (nI (adjT W n l a))), (65, I (adjT W n l a).length), (66, I j)], o0 :: o1 :: ⟨3, 1, ints (fI n s.pt)⟩ :: ⟨79, 7, [.list true false n (LL (abv W n l)), .ref 0 0 n n, .ref 1 0 n n, .ref 2 0 n n, x4, I s.mt, gw true 5 (rowsC s.ps)]⟩ :: o4 :: go 25 (rowsC s.ps) :: ⟨3, 1, ints (fI m fun p => ((gRow (adjT W n l) P a (gAll (adjT W n l) P a) j).w p : Int))⟩ :: ⟨25, 1, gws 8 (fL m (gRow (adjT W n l) P a (gAll (adjT W n l) P a) j).f)⟩ :: (gos (fL m (gRow (adjT W n l) P a (gAll (adjT W n l) P a) j).f) ++ [])⟩) (fun j => (adjT W n l a).length - j) 0 (by omega) (by simp only [↓RP, RG, FX, RQ, ↓reduceIte, Nat.reduceEqDiff, reduceCtorEq, Nat.reduceBEq, Nat.reduceAdd, Nat.reduceLeDiff, hai]; rw [gRow_zero]; rfl) ?_
    intro j hj
    by_cases hlt2 : j < (adjT W n l a).length
    · obtain ⟨c, hc⟩ : ∃ c, (adjT W n l a)[j]? = some c := ⟨_, List.getElem?_eq_getElem hlt2⟩
      have hcn : c < n := adjT_lt (List.mem_of_getElem? hc)
      have hgc : (nI (adjT W n l a)).getD j 0 = (c : Int) := by simp [nI, List.getD_eq_getElem?_getD, hc]
      obtain ⟨_, hbd⟩ := (hgi a ha).2 hlt j hj
      have hnx := gRow_succ (P := P) (s := gAll (adjT W n l) P a) hc
      generalize gRow (adjT W n l) P a (gAll (adjT W n l) P a) j = t at *
      have hsq : a * n + j ≤ 64 * 64 + 64 := by
        have : a * n ≤ 64 * 64 := Nat.mul_le_mul (by omega) (by omega)
        omega
      have m3 := fI_len n s.pt
      have m4 := fI_len m fun p => (t.w p : Int)
      have gpa : (fI n s.pt).getD a 0 = (P a : Int) := by rw [fI_get hlt, hPt a hlt]
      have gpc : (fI n s.pt).getD c 0 = (P c : Int) := by rw [fI_get hcn, hPt c hcn]
      have hpa := hPm a hlt
      have hpc := hPm c hcn
      have gwp : (fI m fun p => (t.w p : Int)).getD (P a) 0 = (t.w (P a) : Int) := fI_get hpa
      have hwb := (hbd (P a)).2
      have hfb := (hbd (P c)).1
      have hfl := fL_len m t.f
      have gl : (gws 8 (fL m t.f)).length = m := by rw [gws_len, hfl]
      have a1 := gws_at (k := 8) (rs := fL m t.f) (a := P c) (by omega)
      rw [fL_get hpc] at a1
      by_cases hpq : P a = P c
      · have hst : gStep t (P a) (P c) = t := by unfold gStep; rw [if_neg (fun h => h.1 hpq)]
        rw [hst] at hnx
        have hpq2 : (P a : Int) = (P c : Int) := by omega
        simp (disch := first | assumption | omega | rfl | simp only [RH]) only [↓RP, RG, FX, RQ, ↓reduceIte, Nat.reduceEqDiff, reduceCtorEq, Nat.reduceBEq, Nat.reduceAdd, Nat.reduceLeDiff, hgc, gpa, gpc, Int.toNat_natCast]
        exact ⟨j + 1, hlt2, by rw [hnx]; rfl, by omega⟩
      · have hpq2 : ¬ (P a : Int) = (P c : Int) := by omega
        have oh := h8_at (o0 := o0) (o1 := o1) (o2 := ⟨3, 1, ints (fI n s.pt)⟩) (o3 := ⟨79, 7, [.list true false n (LL (abv W n l)), .ref 0 0 n n, .ref 1 0 n n, .ref 2 0 n n, x4, I s.mt, gw true 5 (rowsC s.ps)]⟩) (o4 := o4) (o5 := go 25 (rowsC s.ps)) (o6 := ⟨3, 1, ints (fI m fun p => (t.w p : Int))⟩) (o7 := ⟨25, 1, gws 8 (fL m t.f)⟩) (rs := fL m t.f) (tl := []) (a := P c) (by omega)
        rw [fL_get hpc, List.append_nil] at oh
        have hct := contains_c (nI (t.f (P c))).isEmpty (nI (t.f (P c))) (P a) (by rw [nI_len]; omega)
        by_cases hin : P a ∈ t.f (P c)
        · have hst : gStep t (P a) (P c) = t := by unfold gStep; rw [if_neg (fun h => h.2 hin)]
          rw [hst] at hnx
          rw [decide_eq_true (mem_nI.2 hin)] at hct
          simp (disch := first | assumption | omega | rfl | simp only [RH]) only [↓RP, RG, FX, RQ, ↓reduceIte, Nat.reduceEqDiff, reduceCtorEq, Nat.reduceBEq, Nat.reduceAdd, Nat.reduceLeDiff, hgc, gpa, gpc, cA_any, a1, Int.toNat_natCast]
          refine callK_F 6 hct (by simp only [List.map_cons, List.map_nil]; rw [argOf_gwI oh]; rfl) (.inl rfl) ?_
          simp (disch := first | assumption | omega | rfl | simp only [RH]) only [↓RP, RG, FX, RQ, ↓reduceIte, Nat.reduceEqDiff, reduceCtorEq, Nat.reduceBEq, Nat.reduceAdd, Nat.reduceLeDiff]
          exact ⟨j + 1, hlt2, by rw [hnx]; rfl, by omega⟩
        · have hst : gStep t (P a) (P c) = ⟨updN t.w (P a) (t.w (P a) + 1), updN t.f (P c) (t.f (P c) ++ [P a])⟩ := by unfold gStep; rw [if_pos ⟨hpq, hin⟩]
          rw [hst] at hnx
          rw [decide_eq_false (fun h => hin (mem_nI.1 h))] at hct
          have hil : (nI (t.f (P c))).length ≤ 1000000000 := by rw [nI_len]; omega
          have t1 : ∀ p0 p1 p2 p3 p4 p5 p6 p7 : AObj, (p0 :: p1 :: p2 :: p3 :: p4 :: p5 :: p6 :: p7 :: gos (fL m t.f)).set (8 + P c) (go 3 (ints (nI (t.f (P c)) ++ [(P a : Int)]))) = p0 :: p1 :: p2 :: p3 :: p4 :: p5 :: p6 :: p7 :: gos (fL m (updN t.f (P c) (t.f (P c) ++ [P a]))) := fun p0 p1 p2 p3 p4 p5 p6 p7 => by
            have := h8_set (o0 := p0) (o1 := p1) (o2 := p2) (o3 := p3) (o4 := p4) (o5 := p5) (o6 := p6) (o7 := p7) (rs := fL m t.f) (tl := []) (a := P c) (by omega) (nI (t.f (P c)) ++ [(P a : Int)])
            rw [List.append_nil, List.append_nil] at this
            rw [this, ← fL_set, nI_app2]; rfl
          have p1 : (gws 8 (fL m t.f)).set (P c) (gw true (8 + P c) (ints (nI (t.f (P c)) ++ [(P a : Int)]))) = gws 8 (fL m (updN t.f (P c) (t.f (P c) ++ [P a]))) := by
            rw [gws_set, ← fL_set, nI_app2]; rfl
          have e1 : (fI m fun p => (t.w p : Int)).set (P a) ((t.w (P a) : Int) + 1) = fI m fun p => ((updN t.w (P a) (t.w (P a) + 1) p : Nat) : Int) := by
            rw [fI_set, show (t.w (P a) : Int) + 1 = ((t.w (P a) + 1 : Nat) : Int) by omega, upd_cast]
          simp (disch := first | assumption | omega | rfl | simp only [RH]) only [↓RP, RG, FX, RQ, ↓reduceIte, Nat.reduceEqDiff, reduceCtorEq, Nat.reduceBEq, Nat.reduceAdd, Nat.reduceLeDiff, hgc, gpa, gpc, cA_any, a1, Int.toNat_natCast]
          refine callK_F 6 hct (by simp only [List.map_cons, List.map_nil]; rw [argOf_gwI oh]; rfl) (.inl rfl) ?_
          simp (disch := first | assumption | omega | rfl | simp only [RH]) only [↓RP, RG, FX, RQ, ↓reduceIte, Nat.reduceEqDiff, reduceCtorEq, Nat.reduceBEq, Nat.reduceAdd, Nat.reduceLeDiff, cA_any, a1, sX_gw, append_int, t1, p1, gwp, e1, Int.toNat_natCast]
          exact ⟨j + 1, hlt2, by rw [hnx]; rfl, by omega⟩
    · obtain rfl : (adjT W n l a).length = j := by omega
      simp (disch := first | assumption | omega | rfl | simp only [RH]) only [↓RP, RG, FX, RQ, ↓reduceIte, Nat.reduceEqDiff, reduceCtorEq, Nat.reduceBEq, Nat.reduceAdd, Nat.reduceLeDiff]
      exact ⟨a + 1, hlt, Wk.of_eq rfl, by omega⟩
  obtain rfl : n = a := by omega
  have hrc : (rowsC s.ps).length = m := by simp [rowsC, hm]
  obtain ⟨F, hFe⟩ : ∃ F, (gAll (adjT W n l) P n).f = F := ⟨_, rfl⟩
  obtain ⟨w0, hwe⟩ : ∃ w0, (gAll (adjT W n l) P n).w = w0 := ⟨_, rfl⟩
  rw [hFe, hwe] at hO
  rw [hFe] at hF hFn
  simp only [hFe, hwe]
  have hgl : (gos (fL m F)).length = m := by rw [gos_len, fL_len]
  simp (disch := first | assumption | omega | rfl | simp only [RH]) only [↓RP, RG, FX, RQ, ↓reduceIte, Nat.reduceEqDiff, reduceCtorEq, Nat.reduceBEq, Nat.reduceAdd, Nat.reduceLeDiff, make_bool, hrc, hgl, hmi]
  have hhd : ∀ a b, a < n → b < n → (hdB W n l a b = true ↔ Wy (adjT W n l) a b) := fun a b ha hb => hdB_iff ha hb
  have hoi := oAt_inv hS hhd hF hFn hO
  have hfin := oAt_all hS hhd hF hFn hO
  rw [hm] at hoi hfin
  have gl : (gws 8 (fL m F)).length = m := by rw [gws_len, fL_len]
  have fl := fL_len m F
  have t8 : ∀ (p0 p1 p2 p3 p4 p5 p6 p7 : AObj) (tl : List AObj), (p0 :: p1 :: p2 :: p3 :: p4 :: p5 :: p6 :: p7 :: (gos (fL m F) ++ tl))[m + 8]? = tl[0]? := fun _ _ _ _ _ _ _ _ _ => h8_t0 fl
  have t9 : ∀ (p0 p1 p2 p3 p4 p5 p6 p7 : AObj) (tl : List AObj), (p0 :: p1 :: p2 :: p3 :: p4 :: p5 :: p6 :: p7 :: (gos (fL m F) ++ tl))[m + 9]? = tl[1]? := fun _ _ _ _ _ _ _ _ _ => h8_t1 fl
  have s8 : ∀ (p0 p1 p2 p3 p4 p5 p6 p7 o : AObj) (tl : List AObj), (p0 :: p1 :: p2 :: p3 :: p4 :: p5 :: p6 :: p7 :: (gos (fL m F) ++ tl)).set (m + 8) o = p0 :: p1 :: p2 :: p3 :: p4 :: p5 :: p6 :: p7 :: (gos (fL m F) ++ tl.set 0 o) := fun _ _ _ _ _ _ _ _ _ _ => h8_s0 fl _
  have s9 : ∀ (p0 p1 p2 p3 p4 p5 p6 p7 o : AObj) (tl : List AObj), (p0 :: p1 :: p2 :: p3 :: p4 :: p5 :: p6 :: p7 :: (gos (fL m F) ++ tl)).set (m + 9) o = p0 :: p1 :: p2 :: p3 :: p4 :: p5 :: p6 :: p7 :: (gos (fL m F) ++ tl.set 1 o) := fun _ _ _ _ _ _ _ _ _ _ => h8_s1 fl _
  have hpos : ∀ i, i < m → 0 < (s.ps.getD i []).length := fun i hi => by
    rw [List.getD_eq_getElem?_getD, List.getElem?_eq_getElem (by omega), Option.getD_some]
    exact List.length_pos_iff.2 (hS.p2 _ (List.getElem_mem _)).1
  refine loopK_WW [4, 6, 7, 14, 15, 116, 117] (fun k : Nat => k ≤ m) (fun k => ⟨[(4, .ptr 3 0 7), (6, .ref 6 0 m m), (7, .ref 7 0 m m), (14, gw true (m + 9) (rowsC (oAt s.ps F w0 k).out)), (15, .ref (m + 8) 0 m m), (116, I m), (117, I k)], o0 :: o1 :: ⟨3, 1, ints (fI n s.pt)⟩ :: ⟨79, 7, [.list true false n (LL (abv W n l)), .ref 0 0 n n, .ref 1 0 n n, .ref 2 0 n n, x4, I s.mt, gw true 5 (rowsC s.ps)]⟩ :: o4 :: go 25 (rowsC s.ps) :: ⟨3, 1, ints (fI m fun p => (((oAt s.ps F w0 k).w) p : Int))⟩ :: ⟨25, 1, gws 8 (fL m F)⟩ :: (gos (fL m F) ++ [⟨4, 1, bools (fB m ((oAt s.ps F w0 k).D))⟩, go 25 (rowsC ((oAt s.ps F w0 k).out))])⟩) (fun k => m - k) 0 (by omega) ?_ ?_
  · simp only [↓RP, RG, FX, RQ, ↓reduceIte, Nat.reduceEqDiff, reduceCtorEq, Nat.reduceBEq, Nat.reduceAdd, Nat.reduceLeDiff]
    rw [← fB_none]
    refine Wk.weak (WE.cons _ (.refl _) (WE.cons _ (.refl _) (WE.cons _ (.refl _) (WE.cons _ (.nil _) (WE.cons _ (.refl _) (WE.cons _ (.refl _) (WE.cons _ (.refl _) WE.nil))))))) ?_
    have h9 := WO.app (o0 :: o1 :: ⟨3, 1, ints (fI n s.pt)⟩ :: ⟨79, 7, [.list true false n (LL (abv W n l)), .ref 0 0 n n, .ref 1 0 n n, .ref 2 0 n n, x4, I s.mt, gw true 5 (rowsC s.ps)]⟩ :: o4 :: go 25 (rowsC s.ps) :: ⟨3, 1, ints (fI m fun p => ((w0) p : Int))⟩ :: ⟨25, 1, gws 8 (fL m F)⟩ :: (gos (fL m F) ++ [⟨4, 1, bools (fB m (fun _ => false))⟩])) (r := []) (r' := [go 25 (rowsC [])]) (.nil _ (by simp [go, rowsC]))
    simp only [List.cons_append, List.append_assoc, List.nil_append, List.append_nil] at h9
    exact h9
  intro k hk
  obtain ⟨hok, hol, _⟩ := hoi k hk
  obtain ⟨O, hO'⟩ : ∃ O, oAt s.ps F w0 k = O := ⟨_, rfl⟩
  rw [hO'] at hok hol
  simp only [hO']
  have m5 := fI_len m fun p => (O.w p : Int)
  have m6 := fB_len m O.D
  by_cases hlt : k < m
  · obtain ⟨p, hp⟩ := hok.some hS hF (by omega)
    rw [hm] at hp
    obtain ⟨hpm, _, _⟩ := bstP_some hp
    have hnx : oAt s.ps F w0 (k + 1) = ⟨wDec O.w (F p), updN O.D p true, O.out ++ [s.ps.getD p []]⟩ := by
      show oStep s.ps F (oAt s.ps F w0 k) = _
      rw [hO']
      unfold oStep
      rw [hm, hp]
    simp (disch := first | assumption | omega | rfl | simp only [RH]) only [↓RP, RG, FX, RQ, ↓reduceIte, Nat.reduceEqDiff, reduceCtorEq, Nat.reduceBEq, Nat.reduceAdd, Nat.reduceLeDiff, sview_gw, hgs]
    refine loopK_I [4, 6, 7, 14, 15, 16, 116, 117, 121, 122] (fun i : Nat => i ≤ m) (fun i => ⟨[(4, .ptr 3 0 7), (6, .ref 6 0 m m), (7, .ref 7 0 m m), (14, gw true (m + 9) (rowsC O.out)), (15, .ref (m + 8) 0 m m), (16, I (nxV (bstP s.ps (cdW O.w O.D) i))), (116, I m), (117, I k), (121, I m), (122, I i)], o0 :: o1 :: ⟨3, 1, ints (fI n s.pt)⟩ :: ⟨79, 7, [.list true false n (LL (abv W n l)), .ref 0 0 n n, .ref 1 0 n n, .ref 2 0 n n, x4, I s.mt, gw true 5 (rowsC s.ps)]⟩ :: o4 :: go 25 (rowsC s.ps) :: ⟨3, 1, ints (fI m fun p => ((O.w) p : Int))⟩ :: ⟨25, 1, gws 8 (fL m F)⟩ :: (gos (fL m F) ++ [⟨4, 1, bools (fB m (O.D))⟩, go 25 (rowsC (O.out))])⟩) (fun i => m - i) 0 (by omega) (by simp only [↓RP, RG, FX, RQ, ↓reduceIte, Nat.reduceEqDiff, reduceCtorEq, Nat.reduceBEq, Nat.reduceAdd, Nat.reduceLeDiff, hrc]; rfl) ?_
    intro i hi
    by_cases hlt2 : i < m
    · have gdi : (fB m O.D).getD i false = O.D i := fB_get hlt2
      have gwi : (fI m fun p => (O.w p : Int)).getD i 0 = (O.w i : Int) := fI_get hlt2
      have hbs : bstP s.ps (cdW O.w O.D) (i + 1) = if (cdW O.w O.D i && btr s.ps (bstP s.ps (cdW O.w O.D) i) i) = true then some i else bstP s.ps (cdW O.w O.D) i := rfl
      have hcdd : cdW O.w O.D i = (!O.D i && decide (O.w i = 0)) := rfl
      obtain ⟨B, hB⟩ : ∃ B, bstP s.ps (cdW O.w O.D) i = B := ⟨_, rfl⟩
      rw [hB] at hbs
      simp only [hB]
      by_cases hd : O.D i = true
      · have hnx2 : bstP s.ps (cdW O.w O.D) (i + 1) = B := by rw [hbs, hcdd, hd]; rfl
        have gd : (fB m O.D).getD i false = true := by rw [gdi, hd]
        simp (disch := first | assumption | omega | rfl | simp only [RH]) only [↓RP, RG, FX, RQ, ↓reduceIte, Nat.reduceEqDiff, reduceCtorEq, Nat.reduceBEq, Nat.reduceAdd, Nat.reduceLeDiff, t8, gd, Int.toNat_natCast]
        exact ⟨i + 1, hlt2, by rw [hnx2]; rfl, by omega⟩
      · have hd' : O.D i = false := by simpa using hd
        have gd : (fB m O.D).getD i false = false := by rw [gdi, hd']
        by_cases hw : O.w i = 0
        · have hw2 : (fI m fun p => (O.w p : Int)).getD i 0 = 0 := by rw [gwi, hw]; rfl
          have hcd : cdW O.w O.D i = true := by rw [hcdd, hd', hw]; rfl
          have hri := rowsC_at (ps := s.ps) (i := i) (by omega)
          cases B with
          | none =>
            have hnx2 : bstP s.ps (cdW O.w O.D) (i + 1) = some i := by rw [hbs, hcd]; rfl
            simp only [nxV]
            simp (disch := first | assumption | omega | rfl | simp only [RH]) only [↓RP, RG, FX, RQ, ↓reduceIte, Nat.reduceEqDiff, reduceCtorEq, Nat.reduceBEq, Nat.reduceAdd, Nat.reduceLeDiff, t8, gd, hw2, Int.toNat_natCast]
            exact ⟨i + 1, hlt2, by rw [hnx2]; rfl, by omega⟩
          | some p' =>
            obtain ⟨hpi, _, _⟩ := bstP_some hB
            have hrp := rowsC_at (ps := s.ps) (i := p') (by omega)
            have hni := hpos i (by omega)
            have hnp := hpos p' (by omega)
            have hgi2 := hdL_nI hni
            have hgp2 := hdL_nI hnp
            have hz0 : Int.toNat 0 = 0 := rfl
            have hli : (nI (s.ps.getD i [])).length = (s.ps.getD i []).length := nI_len _
            have hlp : (nI (s.ps.getD p' [])).length = (s.ps.getD p' []).length := nI_len _
            by_cases hc : hdL (s.ps.getD i []) < hdL (s.ps.getD p' [])
            · have hnx2 : bstP s.ps (cdW O.w O.D) (i + 1) = some i := by
                rw [hbs, hcd, if_pos]
                simp only [btr, Bool.true_and, decide_eq_true_eq]; exact hc
              simp only [nxV]
              generalize s.ps.getD i [] = qi at *
              generalize s.ps.getD p' [] = qp at *
              simp (disch := first | assumption | omega | rfl | simp only [RH]) only [↓RP, RG, FX, RQ, ↓reduceIte, Nat.reduceEqDiff, reduceCtorEq, Nat.reduceBEq, Nat.reduceAdd, Nat.reduceLeDiff, t8, gd, hw2, hri, hrp, hgi2, hgp2, hz0, sview_gw, hgs, Int.toNat_natCast]
              exact ⟨i + 1, hlt2, by rw [hnx2]; rfl, by omega⟩
            · have hnx2 : bstP s.ps (cdW O.w O.D) (i + 1) = some p' := by
                rw [hbs, hcd, if_neg]
                simp only [btr, Bool.true_and, decide_eq_true_eq]; exact hc
              simp only [nxV]
              generalize s.ps.getD i [] = qi at *
              generalize s.ps.getD p' [] = qp at *
              simp (disch := first | assumption | omega | rfl | simp only [RH]) only [↓RP, RG, FX, RQ, ↓reduceIte, Nat.reduceEqDiff, reduceCtorEq, Nat.reduceBEq, Nat.reduceAdd, Nat.reduceLeDiff, t8, gd, hw2, hri, hrp, hgi2, hgp2, hz0, sview_gw, hgs, Int.toNat_natCast]
              exact ⟨i + 1, hlt2, by rw [hnx2]; rfl, by omega⟩
        · have hw2 : ¬ (fI m fun p => (O.w p : Int)).getD i 0 = 0 := by rw [gwi]; omega
          have hnx2 : bstP s.ps (cdW O.w O.D) (i + 1) = B := by rw [hbs, hcdd, hd', decide_eq_false hw]; rfl
          simp (disch := first | assumption | omega | rfl | simp only [RH]) only [↓RP, RG, FX, RQ, ↓reduceIte, Nat.reduceEqDiff, reduceCtorEq, Nat.reduceBEq, Nat.reduceAdd, Nat.reduceLeDiff, t8, gd, hw2, Int.toNat_natCast]
          exact ⟨i + 1, hlt2, by rw [hnx2]; rfl, by omega⟩
    · obtain rfl : m = i := by omega
      rw [hp]
      simp only [nxV]
      have gp : (fB m O.D).set p true = fB m (updN O.D p true) := fB_set true
      have a1 := gws_at (k := 8) (rs := fL m F) (a := p) (by omega)
      rw [fL_get hpm] at a1
      have oh : ∀ (p0 p1 p2 p3 p4 p5 p6 p7 : AObj) (tl : List AObj), (p0 :: p1 :: p2 :: p3 :: p4 :: p5 :: p6 :: p7 :: (gos (fL m F) ++ tl))[8 + p]? = some (go 3 (ints (nI (F p)))) := fun p0 p1 p2 p3 p4 p5 p6 p7 tl => by
        have := h8_at (o0 := p0) (o1 := p1) (o2 := p2) (o3 := p3) (o4 := p4) (o5 := p5) (o6 := p6) (o7 := p7) (rs := fL m F) (tl := tl) (a := p) (by omega)
        rw [fL_get hpm] at this
        exact this
      have hfl : (F p).length ≤ 64 * 64 := by
        have h1 := ((hgi n (Nat.le_refl _)).1.2 p).1
        rw [hFe] at h1
        exact Nat.le_trans h1 (Nat.mul_le_mul hn64 hn64)
      have hfl2 := nI_len (F p)
      have hpm2 : p ≤ 64 := by omega
      simp (disch := first | assumption | omega | rfl | simp only [RH]) only [↓RP, RG, FX, RQ, ↓reduceIte, Nat.reduceEqDiff, reduceCtorEq, Nat.reduceBEq, Nat.reduceAdd, Nat.reduceLeDiff, t8, s8, gp, cA_any, a1, oh, Int.toNat_natCast]
      obtain ⟨D1, hD1⟩ : ∃ D1, updN O.D p true = D1 := ⟨_, rfl⟩
      simp only [hD1] at hnx ⊢
      have hOw : ∀ r, O.w r ≤ m := fun r => by
        rw [hok.o1, hm]
        exact Nat.le_trans List.countP_le_length (by simp)
      have hwr : ∀ i r, (F p)[i]? = some r → r < m ∧ 1 ≤ wDec O.w ((F p).take i) r ∧ wDec O.w ((F p).take i) r ≤ m := fun i r hr => by
        have hmem := List.mem_of_getElem? hr
        have hl := (hF r p).1 hmem
        have h2 := (hS.lies_lt hl).2
        have hnd := hFn p
        obtain ⟨hil, he⟩ := List.getElem?_eq_some_iff.1 hr
        have hnt : ¬ r ∈ (F p).take i := fun h => by
          obtain ⟨j, hj, hje⟩ := List.mem_iff_getElem.1 h
          rw [List.getElem_take] at hje
          rw [List.length_take] at hj
          exact List.pairwise_iff_getElem.1 hnd j i _ _ (by omega) (hje.trans he.symm)
        rw [wDec_get ((List.take_sublist _ _).nodup hnd), if_neg hnt]
        refine ⟨by omega, ?_, hOw r⟩
        rw [hok.o1]
        refine List.countP_pos_iff.2 ⟨p, List.mem_range.2 (by omega), ?_⟩
        have hcp := (bstP_some hp).2.1
        unfold cdW at hcp
        rw [Bool.and_eq_true] at hcp ⊢
        exact ⟨hcp.1, decide_eq_true hmem⟩
      refine loopK_I [4, 6, 7, 14, 15, 16, 116, 117, 166, 167, 168] (fun i : Nat => i ≤ (F p).length) (fun i => ⟨[(4, .ptr 3 0 7), (6, .ref 6 0 m m), (7, .ref 7 0 m m), (14, gw true (m + 9) (rowsC O.out)), (15, .ref (m + 8) 0 m m), (16, I p), (116, I m), (117, I k), (166, gw true (8 + p) (ints (nI (F p)))), (167, I (F p).length), (168, I i)], o0 :: o1 :: ⟨3, 1, ints (fI n s.pt)⟩ :: ⟨79, 7, [.list true false n (LL (abv W n l)), .ref 0 0 n n, .ref 1 0 n n, .ref 2 0 n n, x4, I s.mt, gw true 5 (rowsC s.ps)]⟩ :: o4 :: go 25 (rowsC s.ps) :: ⟨3, 1, ints (fI m fun x => ((wDec O.w ((F p).take i)) x : Int))⟩ :: ⟨25, 1, gws 8 (fL m F)⟩ :: (gos (fL m F) ++ [⟨4, 1, bools (fB m D1)⟩, go 25 (rowsC (O.out))])⟩) (fun i => (F p).length - i) 0 (by omega) (by simp only [↓RP, RG, FX, RQ, ↓reduceIte, Nat.reduceEqDiff, reduceCtorEq, Nat.reduceBEq, Nat.reduceAdd, Nat.reduceLeDiff, hfl2]; rfl) ?_
      intro i hi
      by_cases hlt3 : i < (F p).length
      · obtain ⟨r, hr⟩ : ∃ r, (F p)[i]? = some r := ⟨_, List.getElem?_eq_getElem hlt3⟩
        obtain ⟨hrm, hw1, hw2⟩ := hwr i r hr
        have hws : wDec O.w ((F p).take (i + 1)) = updN (wDec O.w ((F p).take i)) r (wDec O.w ((F p).take i) r - 1) := by
          unfold wDec
          rw [List.take_add_one, hr, Option.toList_some, List.foldl_append]; rfl
        generalize wDec O.w ((F p).take i) = w at *
        have hgr : (nI (F p)).getD i 0 = (r : Int) := by simp [nI, List.getD_eq_getElem?_getD, hr]
        have gw0 : (fI m fun x => (w x : Int)).getD r 0 = (w r : Int) := fI_get hrm
        have m7 := fI_len m fun x => (w x : Int)
        have e1 : (fI m fun x => (w x : Int)).set r ((w r : Int) - 1) = fI m fun x => ((updN w r (w r - 1) x : Nat) : Int) := by
          rw [fI_set, show (w r : Int) - 1 = ((w r - 1 : Nat) : Int) by omega, upd_cast]
        have hix : (i : Int) < ((ints (nI (F p))).length : Int) := by rw [ints_length, hfl2]; omega
        have hcA : cA (some (go 3 (ints (nI (F p))))) (nI (F p)).length = some (ints (nI (F p))) := cA_go (ints_length _)
        simp (disch := first | assumption | omega | rfl | simp only [RH]) only [↓RP, RG, FX, RQ, ↓reduceIte, Nat.reduceEqDiff, reduceCtorEq, Nat.reduceBEq, Nat.reduceAdd, Nat.reduceLeDiff, idx_gw, cA_any, hcA, oh, hgr, gw0, e1, Int.toNat_natCast]
        exact ⟨i + 1, hlt3, by rw [hws]; rfl, by omega⟩
      · obtain rfl : (F p).length = i := by omega
        rw [List.take_length]
        have hrp := rowsC_at (ps := s.ps) (i := p) (by omega)
        have hro : rowsC O.out ++ [AVal.list true false (nI (s.ps.getD p [])).length (ints (nI (s.ps.getD p [])))] = rowsC (O.out ++ [s.ps.getD p []]) := by simp [rowsC]
        have hap : ∀ p0 p1 p2 p3 p4 p5 p6 p7 tt : AObj, aAppend Tryz.prog 28 (p0 :: p1 :: p2 :: p3 :: p4 :: p5 :: p6 :: p7 :: (gos (fL m F) ++ [tt, go 25 (rowsC O.out)])) (gw true (m + 9) (rowsC O.out)) (.lit 1 [.list true false (nI (s.ps.getD p [])).length (ints (nI (s.ps.getD p [])))]) = some (gw true (m + 9) (rowsC (O.out ++ [s.ps.getD p []])), p0 :: p1 :: p2 :: p3 :: p4 :: p5 :: p6 :: p7 :: (gos (fL m F) ++ [tt, go 25 (rowsC (O.out ++ [s.ps.getD p []]))])) := fun p0 p1 p2 p3 p4 p5 p6 p7 tt => by
          rw [append_list (e := 25) (xs := rowsC O.out) (by rw [t9]; rfl) (by simp [rowsC, hol]; omega), s9, hro]; rfl
        simp (disch := first | assumption | omega | rfl | simp only [RH]) only [↓RP, RG, FX, RQ, ↓reduceIte, Nat.reduceEqDiff, reduceCtorEq, Nat.reduceBEq, Nat.reduceAdd, Nat.reduceLeDiff, hrp, t9, s9, hap, sview_gw, hgs, Int.toNat_natCast]
        exact ⟨k + 1, hlt, Wk.of_eq (by rw [hnx]; rfl), by omega⟩
  · obtain rfl : m = k := by omega
    rw [hO'] at hfin
    simp (disch := first | assumption | omega | rfl | simp only [RH]) only [↓RP, RG, FX, RQ, ↓reduceIte, Nat.reduceEqDiff, reduceCtorEq, Nat.reduceBEq, Nat.reduceAdd, Nat.reduceLeDiff]
    rw [resVal_1 rfl]; simp (disch := first | assumption | omega | rfl | simp only [RH]) only [↓RP, RG, FX, RQ, ↓reduceIte, Nat.reduceEqDiff, reduceCtorEq, Nat.reduceBEq, Nat.reduceAdd, Nat.reduceLeDiff, RS]
    have hgx : (gos (fL m F) ++ [⟨4, 1, bools (fB m O.D)⟩, go 25 (rowsC O.out)])[m + 1]? = some (go 25 (rowsC O.out)) := by
      rw [List.getElem?_append_right (by rw [hgl]; omega), hgl, Nat.add_sub_cancel_left]; rfl
    rw [hgx, gaR_go, rowsC_res, hfin]
    simp only [PV, PL, rowsC, List.length_map, Bool.true_and, List.isEmpty_map]
end Go.Proofs.YtdbpkjanlafajaaGreatDoor

/- Chapter 11: the reference's table of what holds what. -/
set_option linter.unusedSimpArgs false
set_option linter.unusedVariables false
set_option maxRecDepth 100000
namespace Go.Proofs.YtdbpkjanlafajaaGreatDoor
open Go Go.Proofs Go.AW

section
variable {p0 p1 : AObj} {g : Nat → List Bool} {i : Nat} {tl : List AObj}
end
end Go.Proofs.YtdbpkjanlafajaaGreatDoor

/- Chapter 11: the reference's list of the parts. -/
set_option linter.unusedSimpArgs false
set_option linter.unusedVariables false
set_option maxRecDepth 100000
namespace Go.Proofs.YtdbpkjanlafajaaGreatDoor
open Go Go.Proofs Go.AW

end Go.Proofs.YtdbpkjanlafajaaGreatDoor

/- Chapter 11: the reference's list, part by part. Plain. -/
set_option linter.unusedSimpArgs false
set_option linter.unusedVariables false
set_option maxRecDepth 100000
namespace Go.Proofs.YtdbpkjanlafajaaGreatDoor
open Go Go.Proofs Go.AW

def lSt (hd : Nat → Nat → Bool) (n : Nat) : Nat → List (List Nat) × (Nat → Bool)
  | 0 => ([], fun _ => false)
  | k + 1 => match (List.range n).find? (cnd hd n (lSt hd n k).2) with
    | none => lSt hd n k
    | some a => ((lSt hd n k).1 ++ [mtl hd n a], fun b => (lSt hd n k).2 b || (hd a b && hd b a))
def lCt (hd : Nat → Nat → Bool) (n k : Nat) : Nat := (List.range n).countP (lSt hd n k).2
theorem countP_or {α : Type} {p q : α → Bool} : ∀ (l : List α), (∀ x ∈ l, q x = true → p x = false) → l.countP (fun x => p x || q x) = l.countP p + (l.filter q).length
  | [], _ => rfl
  | x :: l, h => by
    have ih := countP_or l fun y hy => h y (List.mem_cons_of_mem _ hy)
    have hx := h x List.mem_cons_self
    cases hp : p x with
    | true =>
      cases hq : q x with
      | true => rw [hx hq] at hp; cases hp
      | false =>
        rw [List.countP_cons_of_pos (by simp [hp]), List.countP_cons_of_pos hp, List.filter_cons_of_neg (by simp [hq]), ih]; omega
    | false =>
      cases hq : q x with
      | true =>
        rw [List.countP_cons_of_pos (by simp [hq]), List.countP_cons_of_neg (by simp [hp]), List.filter_cons_of_pos hq, List.length_cons, ih]; omega
      | false =>
        rw [List.countP_cons_of_neg (by simp [hp, hq]), List.countP_cons_of_neg (by simp [hp]), List.filter_cons_of_neg (by simp [hq]), ih]
section
variable {ov : Nat → List Nat} {n : Nat} {ps : List (List Nat)} {pt : Nat → Int} {hd : Nat → Nat → Bool} {F : Nat → List Nat} {w : Nat → Nat}
theorem lSt_step (S : Scc ov n ps pt) (hhd : ∀ a b, a < n → b < n → (hd a b = true ↔ Wy ov a b)) (hF : ∀ p q, p ∈ F q ↔ lies ov pt p q) (hFn : ∀ q, (F q).Nodup) (O : OInv ov n ps pt F 0 w fun _ => false) {k : Nat} (hk : k < ps.length)
    (i1 : (lSt hd n k).1 = (oAt ps F w k).out) (i2 : ∀ b (q : Nat), pt b = (q : Int) → (lSt hd n k).2 b = (oAt ps F w k).D q) :
    (∃ a, a < n ∧ (List.range n).find? (cnd hd n (lSt hd n k).2) = some a ∧ (∀ b, b < n → hd a b = true → hd b a = true → (lSt hd n k).2 b = false) ∧ hd a a = true) ∧
    (lSt hd n (k + 1)).1 = (oAt ps F w (k + 1)).out ∧ ∀ b (q : Nat), pt b = (q : Int) → (lSt hd n (k + 1)).2 b = (oAt ps F w (k + 1)).D q := by
  obtain ⟨o1, _, _⟩ := oAt_inv S hhd hF hFn O k (by omega)
  obtain ⟨p, hp⟩ := o1.some S hF hk
  obtain ⟨a, ha, hpa, hfind⟩ := S.next_is hhd i2 o1.o2 (fun p _ => o1.cd_iff S hF) hp
  have hs : oAt ps F w (k + 1) = ⟨wDec (oAt ps F w k).w (F p), updN (oAt ps F w k).D p true, (oAt ps F w k).out ++ [ps.getD p []]⟩ := by
    show oStep ps F (oAt ps F w k) = _
    unfold oStep; rw [hp]
  have hl : lSt hd n (k + 1) = ((lSt hd n k).1 ++ [mtl hd n a], fun b => (lSt hd n k).2 b || (hd a b && hd b a)) := by
    rw [lSt, hfind]
  have hm : ∀ b, b < n → ∀ q : Nat, pt b = (q : Int) → ((hd a b && hd b a) = true ↔ q = p) := fun b hbn q hq => by
    rw [Bool.and_eq_true, hhd a b ha hbn, hhd b a hbn ha, ← S.p3 a b (by omega), hq, hpa]
    omega
  refine ⟨⟨a, ha, hfind, fun b hb h1 h2 => ?_, (hhd a a ha ha).2 (.refl a)⟩, ?_, fun b q hq => ?_⟩
  · have h0 := S.all b hb
    have hq : pt b = ((pt b).toNat : Int) := by omega
    have := (hm b hb _ hq).1 (by rw [h1, h2]; rfl)
    rw [i2 b _ hq, this]
    have := (bstP_some hp).2.1
    unfold cdW at this
    rw [Bool.and_eq_true] at this
    simpa using this.1
  · rw [hl, hs]
    show _ ++ _ = _ ++ _
    rw [i1, S.part_is hhd ha hpa]
  · have hbn : b < n := S.lt b (by omega)
    rw [hl, hs]
    show ((lSt hd n k).2 b || (hd a b && hd b a)) = updN _ p true q
    have hmm := hm b hbn q hq
    by_cases hqp : q = p
    · rw [hqp, updN_same, hmm.2 hqp]; simp
    · rw [updN_other _ _ hqp, i2 b q hq]
      have : (hd a b && hd b a) = false := by
        cases h : (hd a b && hd b a) with
        | false => rfl
        | true => exact absurd (hmm.1 h) hqp
      rw [this]; simp
theorem lSt_inv (S : Scc ov n ps pt) (hhd : ∀ a b, a < n → b < n → (hd a b = true ↔ Wy ov a b)) (hF : ∀ p q, p ∈ F q ↔ lies ov pt p q) (hFn : ∀ q, (F q).Nodup) (O : OInv ov n ps pt F 0 w fun _ => false) :
    ∀ k, k ≤ ps.length → (lSt hd n k).1 = (oAt ps F w k).out ∧ ∀ b (q : Nat), pt b = (q : Int) → (lSt hd n k).2 b = (oAt ps F w k).D q
  | 0, _ => ⟨rfl, fun _ _ _ => rfl⟩
  | k + 1, hk => by
    obtain ⟨i1, i2⟩ := lSt_inv S hhd hF hFn O k (by omega)
    exact (lSt_step S hhd hF hFn O (by omega) i1 i2).2
theorem lSt_run (S : Scc ov n ps pt) (hhd : ∀ a b, a < n → b < n → (hd a b = true ↔ Wy ov a b)) (hF : ∀ p q, p ∈ F q ↔ lies ov pt p q) (hFn : ∀ q, (F q).Nodup) (O : OInv ov n ps pt F 0 w fun _ => false) :
    (∀ k, k < ps.length → lCt hd n k < n ∧ ∃ a, a < n ∧ (List.range n).find? (cnd hd n (lSt hd n k).2) = some a ∧ hd a a = true ∧ lCt hd n (k + 1) = lCt hd n k + (mtl hd n a).length ∧ (∀ b, b < n → hd a b = true → hd b a = true → (lSt hd n k).2 b = false)) ∧
    lCt hd n ps.length = n ∧ (lSt hd n ps.length).1 = lsP hd n n fun _ => false := by
  refine ⟨fun k hk => ?_, ?_, ?_⟩
  · obtain ⟨i1, i2⟩ := lSt_inv S hhd hF hFn O k (by omega)
    obtain ⟨⟨a, ha, hf, hz, haa⟩, _⟩ := lSt_step S hhd hF hFn O hk i1 i2
    have hl : lSt hd n (k + 1) = ((lSt hd n k).1 ++ [mtl hd n a], fun b => (lSt hd n k).2 b || (hd a b && hd b a)) := by
      rw [lSt, hf]
    have hct : lCt hd n (k + 1) = lCt hd n k + (mtl hd n a).length := by
      unfold lCt
      rw [hl]
      refine countP_or _ fun x hx hq => ?_
      rw [Bool.and_eq_true] at hq
      exact hz x (List.mem_range.1 hx) hq.1 hq.2
    have hle : lCt hd n (k + 1) ≤ n := by
      unfold lCt
      exact Nat.le_trans List.countP_le_length (by simp)
    have hpos : 0 < (mtl hd n a).length := List.length_pos_iff.2 fun h => by
      have : a ∈ mtl hd n a := by rw [mtl, List.mem_filter, haa]; exact ⟨List.mem_range.2 ha, rfl⟩
      rw [h] at this; cases this
    exact ⟨by omega, a, ha, hf, haa, hct, hz⟩
  · obtain ⟨_, i2⟩ := lSt_inv S hhd hF hFn O ps.length (Nat.le_refl _)
    obtain ⟨o1, _, _⟩ := oAt_inv S hhd hF hFn O ps.length (Nat.le_refl _)
    have hall : ∀ p, p < ps.length → (oAt ps F w ps.length).D p = true := by
      have h2 : (List.range ps.length).countP (oAt ps F w ps.length).D = (List.range ps.length).length := by rw [o1.o3]; simp
      exact fun p hp => (List.countP_eq_length.1 h2) p (List.mem_range.2 hp)
    unfold lCt
    have : (List.range n).countP (lSt hd n ps.length).2 = (List.range n).length := List.countP_eq_length.2 fun b hb => by
      have hbn := List.mem_range.1 hb
      have h0 := S.all b hbn
      obtain ⟨l, h1, _⟩ := (S.p1 b (pt b).toNat).1 (by omega)
      have hlt := (List.getElem?_eq_some_iff.1 h1).1
      rw [i2 b (pt b).toNat (by omega)]
      exact hall _ hlt
    rw [this]; simp
  · rw [(lSt_inv S hhd hF hFn O ps.length (Nat.le_refl _)).1]
    exact oAt_all S hhd hF hFn O
end
end Go.Proofs.YtdbpkjanlafajaaGreatDoor

/- Chapter 11: the reference's list of the parts. -/
set_option linter.unusedSimpArgs false
set_option linter.unusedVariables false
set_option maxRecDepth 100000
namespace Go.Proofs.YtdbpkjanlafajaaGreatDoor
open Go Go.Proofs Go.AW

theorem lists_run (W n : Nat) (l : List Bool) : ∃ m, m ≤ n ∧ (∀ k, k < m → lCt (hdB W n l) n k < n ∧ ∃ a, a < n ∧ (List.range n).find? (cnd (hdB W n l) n (lSt (hdB W n l) n k).2) = some a ∧ hdB W n l a a = true ∧ lCt (hdB W n l) n (k + 1) = lCt (hdB W n l) n k + (mtl (hdB W n l) n a).length ∧ (∀ b, b < n → hdB W n l a b = true → hdB W n l b a = true → (lSt (hdB W n l) n k).2 b = false)) ∧
    lCt (hdB W n l) n m = n ∧ (lSt (hdB W n l) n m).1 = PL W n l := by
  have hS := tAll_scc (ov := adjT W n l) (n := n) adjT_in
  obtain ⟨hF, hFn, hO⟩ := gAll_lies hS (m := (tAll (adjT W n l) n n).ps.length) rfl adjT_in (fun a _ => adjT_le W n l a)
  have h := lSt_run hS (fun a b ha hb => hdB_iff ha hb) hF hFn hO
  exact ⟨_, hS.len_le, h.1, h.2.1, h.2.2⟩
section
variable {p0 p1 p2 : AObj} {rs : List (List Int)} {i : Nat} {tl : List AObj}
end
def rwI (ps : List (List Nat)) : List (List Int) := ps.map nI
theorem lSt_len {hd : Nat → Nat → Bool} {n m : Nat} (h : ∀ k, k < m → ∃ a, (List.range n).find? (cnd hd n (lSt hd n k).2) = some a) : ∀ k, k ≤ m → (lSt hd n k).1.length = k
  | 0, _ => rfl
  | k + 1, hk => by
    obtain ⟨a, ha⟩ := h k (by omega)
    rw [lSt, ha]
    show ((lSt hd n k).1 ++ [mtl hd n a]).length = _
    rw [List.length_append, lSt_len h k (by omega)]; rfl
theorem lSt_ne {hd : Nat → Nat → Bool} {n m : Nat} (h : ∀ k, k < m → ∃ a, a < n ∧ (List.range n).find? (cnd hd n (lSt hd n k).2) = some a ∧ hd a a = true) : ∀ k, k ≤ m → ∀ r ∈ (lSt hd n k).1, r ≠ []
  | 0, _, r, hr => by cases hr
  | k + 1, hk, r, hr => by
    obtain ⟨a, ha0, ha, haa⟩ := h k (by omega)
    rw [lSt, ha] at hr
    rcases List.mem_append.1 (show r ∈ (lSt hd n k).1 ++ [mtl hd n a] from hr) with h1 | h1
    · exact lSt_ne h k (by omega) r h1
    · rw [List.mem_singleton.1 h1]
      intro he
      have : a ∈ mtl hd n a := by rw [mtl, List.mem_filter, haa]; exact ⟨List.mem_range.2 ha0, rfl⟩
      rw [he] at this; cases this
end Go.Proofs.YtdbpkjanlafajaaGreatDoor

/- Chapter 11: the parts hold each thread once. -/
set_option linter.unusedSimpArgs false
set_option linter.unusedVariables false
set_option maxRecDepth 100000
namespace Go.Proofs.YtdbpkjanlafajaaGreatDoor
open Go Go.Proofs Go.AW

theorem lSt_flat {hd : Nat → Nat → Bool} {n m : Nat} (h : ∀ k, k < m → ∃ a, a < n ∧ (List.range n).find? (cnd hd n (lSt hd n k).2) = some a ∧ (∀ b, b < n → hd a b = true → hd b a = true → (lSt hd n k).2 b = false)) : ∀ k, k ≤ m → (lSt hd n k).1.flatten.Nodup ∧ ∀ x, x ∈ (lSt hd n k).1.flatten ↔ x < n ∧ (lSt hd n k).2 x = true
  | 0, _ => ⟨List.nodup_nil, fun x => ⟨(fun h => by cases h), fun h => by cases h.2⟩⟩
  | k + 1, hk => by
    obtain ⟨i1, i2⟩ := lSt_flat h k (by omega)
    obtain ⟨a, ha, hf, hz⟩ := h k (by omega)
    have hs : lSt hd n (k + 1) = ((lSt hd n k).1 ++ [mtl hd n a], fun b => (lSt hd n k).2 b || (hd a b && hd b a)) := by
      rw [lSt, hf]
    rw [hs]
    have hm : ∀ x, x ∈ mtl hd n a ↔ x < n ∧ hd a x = true ∧ hd x a = true := fun x => by
      rw [mtl, List.mem_filter, List.mem_range, Bool.and_eq_true]
    have he : ((lSt hd n k).1 ++ [mtl hd n a]).flatten = (lSt hd n k).1.flatten ++ mtl hd n a := by simp
    show ((lSt hd n k).1 ++ [mtl hd n a]).flatten.Nodup ∧ ∀ x, x ∈ ((lSt hd n k).1 ++ [mtl hd n a]).flatten ↔ x < n ∧ ((lSt hd n k).2 x || (hd a x && hd x a)) = true
    rw [he]
    refine ⟨List.nodup_append.2 ⟨i1, List.Pairwise.filter _ List.nodup_range, fun x hx y hy e => ?_⟩, fun x => ?_⟩
    · subst e
      have h1 := (i2 x).1 hx
      have h2 := (hm x).1 hy
      rw [hz x h2.1 h2.2.1 h2.2.2] at h1
      cases h1.2
    · rw [List.mem_append, i2, hm, Bool.or_eq_true, Bool.and_eq_true]
      constructor
      · rintro (⟨h1, h2⟩ | ⟨h1, h2⟩)
        · exact ⟨h1, .inl h2⟩
        · exact ⟨h1, .inr h2⟩
      · rintro ⟨h1, h2 | h2⟩
        · exact .inl ⟨h1, h2⟩
        · exact .inr ⟨h1, h2⟩
theorem PL_flat (W n : Nat) (l : List Bool) : (PL W n l).flatten.Nodup ∧ ∀ x, x ∈ (PL W n l).flatten ↔ x < n := by
  obtain ⟨m, hmn, hst, hcm, hfin⟩ := lists_run W n l
  obtain ⟨h1, h2⟩ := lSt_flat (m := m) (fun k hk => (hst k hk).2.imp fun a h => ⟨h.1, h.2.1, h.2.2.2.2⟩) m (Nat.le_refl _)
  rw [hfin] at h1 h2
  refine ⟨h1, fun x => ⟨fun h => ((h2 x).1 h).1, fun h => (h2 x).2 ⟨h, ?_⟩⟩⟩
  unfold lCt at hcm
  have : (List.range n).countP (lSt (hdB W n l) n m).2 = (List.range n).length := by rw [hcm]; simp
  exact List.countP_eq_length.1 this x (List.mem_range.2 h)
theorem PL_ne (W n : Nat) (l : List Bool) : ∀ r ∈ PL W n l, r ≠ [] := by
  obtain ⟨m, hmn, hst, hcm, hfin⟩ := lists_run W n l
  rw [← hfin]
  exact lSt_ne (m := m) (fun k hk => (hst k hk).2.imp fun a h => ⟨h.1, h.2.1, h.2.2.1⟩) m (Nat.le_refl _)
theorem PL_row {W n : Nat} {l : List Bool} {r : List Nat} (hr : r ∈ PL W n l) : r.length ≤ n ∧ ∀ x ∈ r, x < n := by
  obtain ⟨h1, h2⟩ := PL_flat W n l
  have hs : ∀ x ∈ r, x < n := fun x hx => (h2 x).1 (List.mem_flatten.2 ⟨r, hr, hx⟩)
  exact ⟨nodup_lt n r ((List.sublist_flatten_of_mem hr).nodup h1) hs, hs⟩
/-- Threads of the first parts, and the rest. -/
def spI (W n : Nat) (l : List Bool) (k : Nat) : List Nat := (List.range n).filter fun x => decide (x ∈ ((PL W n l).take k).flatten)
def spO (W n : Nat) (l : List Bool) (k : Nat) : List Nat := (List.range n).filter fun x => !decide (x ∈ ((PL W n l).take k).flatten)
theorem sp_mem {W n : Nat} {l : List Bool} (k : Nat) : (((PL W n l).take k).flatten.Nodup ∧ ((PL W n l).drop k).flatten.Nodup) ∧ (∀ x, x ∈ ((PL W n l).take k).flatten → x < n) ∧ ∀ x, x ∈ ((PL W n l).drop k).flatten ↔ x < n ∧ ¬ x ∈ ((PL W n l).take k).flatten := by
  obtain ⟨h1, h2⟩ := PL_flat W n l
  have he : (PL W n l).flatten = ((PL W n l).take k).flatten ++ ((PL W n l).drop k).flatten := by rw [← List.flatten_append, List.take_append_drop]
  rw [he] at h1 h2
  obtain ⟨n1, n2, n3⟩ := List.nodup_append.1 h1
  refine ⟨⟨n1, n2⟩, fun x hx => (h2 x).1 (List.mem_append_left _ hx), fun x => ⟨fun hx => ⟨(h2 x).1 (List.mem_append_right _ hx), fun hy => n3 x hy x hx rfl⟩, fun ⟨hx, hy⟩ => ?_⟩⟩
  rcases List.mem_append.1 ((h2 x).2 hx) with h | h
  · exact absurd h hy
  · exact h
theorem nI_flat (ps : List (List Nat)) : (rwI ps).flatten = nI ps.flatten := by
  unfold rwI nI
  rw [List.map_flatten]
theorem srt_set {J K : List Nat} (hJ : J.Nodup) (hK : K.Pairwise (· < ·)) (h : ∀ x, x ∈ J ↔ x ∈ K) : srt (nI J) = nI K := by
  rw [srt_nI]
  exact congrArg nI (incN_ext _ _ (srtN_strict hJ) hK fun x => by rw [srtN_mem]; exact h x)
theorem srt_spI {W n : Nat} {l : List Bool} (k : Nat) : srt (rwI ((PL W n l).take k)).flatten = nI (spI W n l k) := by
  obtain ⟨⟨n1, n2⟩, h1, h2⟩ := sp_mem (W := W) (n := n) (l := l) k
  rw [nI_flat]
  refine srt_set n1 (List.Pairwise.filter _ List.pairwise_lt_range) fun x => ?_
  rw [spI, List.mem_filter, List.mem_range, decide_eq_true_eq]
  exact ⟨fun h => ⟨h1 x h, h⟩, fun h => h.2⟩
theorem srt_spO {W n : Nat} {l : List Bool} (k : Nat) : srt (rwI ((PL W n l).drop k)).flatten = nI (spO W n l k) := by
  obtain ⟨⟨n1, n2⟩, h1, h2⟩ := sp_mem (W := W) (n := n) (l := l) k
  rw [nI_flat]
  refine srt_set n2 (List.Pairwise.filter _ List.pairwise_lt_range) fun x => ?_
  rw [spO, List.mem_filter, List.mem_range, Bool.not_eq_true', decide_eq_false_iff_not]
  exact h2 x
theorem spI_len {W n : Nat} {l : List Bool} (k : Nat) : (spI W n l k).length = (rwI ((PL W n l).take k)).flatten.length := by
  have := congrArg List.length (srt_spI (W := W) (n := n) (l := l) k)
  rw [List.length_mergeSort, nI_len] at this; exact this.symm
theorem spO_len {W n : Nat} {l : List Bool} (k : Nat) : (spO W n l k).length = (rwI ((PL W n l).drop k)).flatten.length := by
  have := congrArg List.length (srt_spO (W := W) (n := n) (l := l) k)
  rw [List.length_mergeSort, nI_len] at this; exact this.symm
end Go.Proofs.YtdbpkjanlafajaaGreatDoor

/- Chapter 11: what holds a thread, by both. -/
set_option linter.unusedSimpArgs false
set_option linter.unusedVariables false
set_option maxRecDepth 100000
namespace Go.Proofs.YtdbpkjanlafajaaGreatDoor
open Go Go.Proofs Go.AW

/-- What the search has met. -/
structure Met (ov : Nat → List Nat) (n a : Nat) (q : List Nat) : Prop where
  nd : q.Nodup
  wy : ∀ x ∈ q, x < n ∧ Wy ov a x
  me : a ∈ q
theorem Met.len {ov : Nat → List Nat} {n a : Nat} {q : List Nat} (h : Met ov n a q) : q.length ≤ n :=
  nodup_lt n q h.nd fun x hx => (h.wy x hx).1
theorem Met.push {ov : Nat → List Nat} {n a : Nat} {q : List Nat} (h : Met ov n a q) {c y : Nat} (hc : c ∈ q) (hy : y ∈ ov c) (hyn : y < n) (hq : ¬ y ∈ q) : Met ov n a (q ++ [y]) :=
  ⟨List.nodup_append.2 ⟨h.nd, by simp, fun x hx z hz e => hq (by rw [List.mem_singleton] at hz; rw [← hz, ← e]; exact hx)⟩,
   fun x hx => by
    rcases List.mem_append.1 hx with h1 | h1
    · exact h.wy x h1
    · rw [List.mem_singleton.1 h1]; exact ⟨hyn, (h.wy c hc).2.trans (.one hy)⟩,
   List.mem_append_left _ h.me⟩
end Go.Proofs.YtdbpkjanlafajaaGreatDoor

/- Chapter 11: the parts, by both. -/
set_option linter.unusedSimpArgs false
set_option linter.unusedVariables false
set_option maxRecDepth 100000
namespace Go.Proofs.YtdbpkjanlafajaaGreatDoor
open Go Go.Proofs Go.AW

theorem rowsC_fr (k : Nat) (ps : List (List Nat)) : ∀ x, x ∈ rowsC ps → allFresh (k + 2) x = true := by
  intro x hx
  obtain ⟨r, _, rfl⟩ := List.mem_map.1 hx
  simp [allFresh, ints_fresh]
theorem PV_fr (k : Nat) (ps : List (List Nat)) : allFresh (k + 3) (PV ps) = true := by
  show ((true || (rowsC ps).isEmpty) && (rowsC ps).all (allFresh (k + 2))) = true
  rw [Bool.true_or, Bool.true_and, List.all_eq_true]
  exact rowsC_fr k ps
theorem PV_res (h : List AObj) (k : Nat) (ps : List (List Nat)) : resOf h (k + 3) (PV ps) = PV ps := by
  show resOf h (k + 2 + 1) (.list true _ _ (rowsC ps)) = _
  rw [resOf_list, rowsC_res]; rfl
theorem parts_len {W n : Nat} {l : List Bool} : (PL W n l).length ≤ n := by
  obtain ⟨m, hmn, hst, hcm, hfin⟩ := lists_run W n l
  rw [← hfin, lSt_len (m := m) (fun k hk => (hst k hk).2.imp fun a h => h.2.1) m (Nat.le_refl _)]
  exact hmn
theorem partsPP_c {W H n : Nat} (hN : W + H = n) (hW0 : 0 < W) (hH0 : 0 < H) (hn64 : n ≤ 64) (b : Bool) {l : List Bool} (hn : l.length = W * H) : Contract Tryz.prog 7 [GA W H b l] (.tuple [PV (PL W n l), I 0]) := by
  have hz : gchk W H l.length = 0 := gchk_ok ⟨by omega, by omega, by omega, by omega, by rw [hn, Int.natCast_mul]⟩
  refine Contract.intro (effS [] false) 6 follows Tryz.func7 rfl rfl (by kernel_rfl) (Nat.le_of_ble_eq_true rfl) ?_
  simp (disch := first | assumption | omega | rfl | simp only [RH]) only [↓RP, RG, FX, RQ, ↓reduceIte, Nat.reduceEqDiff, reduceCtorEq, Nat.reduceBEq, Nat.reduceAdd, Nat.reduceLeDiff, args0_1]
  refine callK_F 6 (gcheckP_c W H b l) (by simp (disch := first | assumption | omega | rfl | simp only [RH]) only [↓RP, RG, FX, RQ, ↓reduceIte, Nat.reduceEqDiff, reduceCtorEq, Nat.reduceBEq, Nat.reduceAdd, Nat.reduceLeDiff, RA] <;> rfl) (.inl (by simp [allFresh, ints_fresh, bools_fresh])) ?_
  simp (disch := first | assumption | omega | rfl | simp only [RH]) only [↓RP, RG, FX, RQ, ↓reduceIte, Nat.reduceEqDiff, reduceCtorEq, Nat.reduceBEq, Nat.reduceAdd, Nat.reduceLeDiff, hz]
  refine callK_F 6 (partsP_c hN hW0 hH0 hn64 b hn) (by simp (disch := first | assumption | omega | rfl | simp only [RH]) only [↓RP, RG, FX, RQ, ↓reduceIte, Nat.reduceEqDiff, reduceCtorEq, Nat.reduceBEq, Nat.reduceAdd, Nat.reduceLeDiff, RA] <;> rfl) (.inl (PV_fr 3 _)) ?_
  simp (disch := first | assumption | omega | rfl | simp only [RH]) only [↓RP, RG, FX, RQ, ↓reduceIte, Nat.reduceEqDiff, reduceCtorEq, Nat.reduceBEq, Nat.reduceAdd, Nat.reduceLeDiff]
  rw [resVal_2 rfl]; simp (disch := first | assumption | omega | rfl | simp only [RH]) only [↓RP, RG, FX, RQ, ↓reduceIte, Nat.reduceEqDiff, reduceCtorEq, Nat.reduceBEq, Nat.reduceAdd, Nat.reduceLeDiff, RS]
  first | done | (simp only [PV_res])
end Go.Proofs.YtdbpkjanlafajaaGreatDoor

/- Chapter 11: a layer of a part, by both. -/
set_option linter.unusedSimpArgs false
set_option linter.unusedVariables false
set_option maxRecDepth 100000
namespace Go.Proofs.YtdbpkjanlafajaaGreatDoor
open Go Go.Proofs Go.AW

def layE (W : Nat) (r : List Nat) : List Nat := r.filter fun x => decide (x < W)
def layP (W : Nat) (r : List Nat) : List Nat := (r.filter fun x => !decide (x < W)).map fun x => x - W
end Go.Proofs.YtdbpkjanlafajaaGreatDoor

/- Chapter 11: the cloth of one part hangs together. Plain. -/
set_option linter.unusedSimpArgs false
set_option linter.unusedVariables false
set_option maxRecDepth 100000
namespace Go.Proofs.YtdbpkjanlafajaaGreatDoor
open Go Go.Proofs Go.AW

theorem lSt_mtl {hd : Nat → Nat → Bool} {n m : Nat} (h : ∀ k, k < m → ∃ a, a < n ∧ (List.range n).find? (cnd hd n (lSt hd n k).2) = some a) : ∀ k, k ≤ m → ∀ r ∈ (lSt hd n k).1, ∃ a, a < n ∧ r = mtl hd n a
  | 0, _, r, hr => by cases hr
  | k + 1, hk, r, hr => by
    obtain ⟨a, ha0, ha⟩ := h k (by omega)
    rw [lSt, ha] at hr
    rcases List.mem_append.1 (show r ∈ (lSt hd n k).1 ++ [mtl hd n a] from hr) with h1 | h1
    · exact lSt_mtl h k (by omega) r h1
    · exact ⟨a, ha0, List.mem_singleton.1 h1⟩
/-- A part: the threads that hold each other. -/
structure Part (W n : Nat) (l : List Bool) (r : List Nat) : Prop where
  inc : r.Pairwise (· < ·)
  lt : ∀ x ∈ r, x < n
  ne : r ≠ []
  mu : ∀ x y, x ∈ r → (y ∈ r ↔ Wy (adjT W n l) x y ∧ Wy (adjT W n l) y x)
theorem adj_lt {W n : Nat} {l : List Bool} {x y : Nat} (h : Wy (adjT W n l) x y) (hx : x < n) : y < n := h.closed (p := fun z => z < n) (fun _ _ _ hm => adjT_lt hm) hx
theorem mtl_part {W n : Nat} {l : List Bool} {a : Nat} (ha : a < n) : Part W n l (mtl (hdB W n l) n a) := by
  have hm : ∀ x, x ∈ mtl (hdB W n l) n a ↔ Wy (adjT W n l) a x ∧ Wy (adjT W n l) x a := fun x => by
    rw [mtl, List.mem_filter, List.mem_range, Bool.and_eq_true]
    constructor
    · rintro ⟨h1, h2, h3⟩
      exact ⟨(hdB_iff ha h1).1 h2, (hdB_iff h1 ha).1 h3⟩
    · rintro ⟨h1, h2⟩
      have hx := adj_lt h1 ha
      exact ⟨hx, (hdB_iff ha hx).2 h1, (hdB_iff hx ha).2 h2⟩
  refine ⟨List.Pairwise.filter _ List.pairwise_lt_range, fun x hx => adj_lt ((hm x).1 hx).1 ha, fun he => ?_, fun x y hx => ?_⟩
  · have : a ∈ mtl (hdB W n l) n a := (hm a).2 ⟨.refl a, .refl a⟩
    rw [he] at this; cases this
  · obtain ⟨h1, h2⟩ := (hm x).1 hx
    rw [hm]
    exact ⟨fun ⟨h3, h4⟩ => ⟨h2.trans h3, h4.trans h1⟩, fun ⟨h3, h4⟩ => ⟨h1.trans h3, h4.trans h2⟩⟩
theorem PL_part {W n : Nat} {l : List Bool} {r : List Nat} (hr : r ∈ PL W n l) : Part W n l r := by
  obtain ⟨m, hmn, hst, hcm, hfin⟩ := lists_run W n l
  rw [← hfin] at hr
  obtain ⟨a, ha, rfl⟩ := lSt_mtl (m := m) (fun k hk => (hst k hk).2.imp fun a h => ⟨h.1, h.2.1⟩) m (Nat.le_refl _) r hr
  exact mtl_part ha
theorem Part.step {W n : Nat} {l : List Bool} {r : List Nat} (h : Part W n l r) {a b c : Nat} (ha : a ∈ r) (hb : b ∈ r) (hc : c ∈ adjT W n l a) (hw : Wy (adjT W n l) c b) : c ∈ r :=
  (h.mu a c ha).2 ⟨.one hc, hw.trans ((h.mu a b ha).1 hb).2⟩
/-- What holds along ways within a part. -/
theorem Part.along {W n : Nat} {l : List Bool} {r : List Nat} (h : Part W n l r) {p : Nat → Prop} (hp : ∀ x y, x ∈ r → y ∈ r → p x → y ∈ adjT W n l x → p y) {a b : Nat} (ha : a ∈ r) (hb : b ∈ r) (h0 : p a) : p b := by
  have hw := ((h.mu a b ha).1 hb).1
  induction hw with
  | refl a => exact h0
  | step hc hr ih =>
    have hcr := h.step ha hb hc hr
    exact ih hcr hb (hp _ _ ha hcr h0 hc)
theorem lay_split {r : List Nat} (h : r.Pairwise (· < ·)) (W : Nat) : r = layE W r ++ (layP W r).map (· + W) := by
  have hm : (layP W r).map (· + W) = r.filter fun x => !decide (x < W) := by
    unfold layP
    rw [List.map_map]
    conv => rhs; rw [← List.map_id (r.filter fun x => !decide (x < W))]
    refine List.map_congr_left fun x hx => ?_
    have := (List.mem_filter.1 hx).2
    simp at this
    show x - W + W = x
    omega
  rw [hm]
  refine incN_ext _ _ h (List.pairwise_append.2 ⟨List.Pairwise.filter _ h, List.Pairwise.filter _ h, fun x hx y hy => ?_⟩) fun x => ?_
  · have h1 := (List.mem_filter.1 hx).2
    have h2 := (List.mem_filter.1 hy).2
    simp at h1 h2
    omega
  · unfold layE
    rw [List.mem_append, List.mem_filter, List.mem_filter]
    by_cases hx : x < W <;> simp [hx]
/-- Both kinds of threads are in a part of two. -/
theorem Part.both {W n : Nat} {l : List Bool} {r : List Nat} (h : Part W n l r) (h1 : 1 < r.length) : 0 < (layE W r).length ∧ 0 < (layP W r).length := by
  obtain ⟨x, y, t, rfl⟩ : ∃ x y t, r = x :: y :: t := by
    match r, h1 with
    | x :: y :: t, _ => exact ⟨x, y, t, rfl⟩
  have hxy : x ≠ y := by
    have := h.inc; rw [List.pairwise_cons] at this
    have := this.1 y (by simp); omega
  have hw := ((h.mu x y (by simp)).1 (by simp)).1
  obtain ⟨c, hc, hcr⟩ : ∃ c, c ∈ adjT W n l x ∧ c ∈ x :: y :: t := by
    cases hw with
    | refl => exact absurd rfl hxy
    | step hc hr => exact ⟨_, hc, h.step (by simp) (by simp) hc hr⟩
  have hov := (mem_adjT.1 hc).2
  have hE : ∀ z, z ∈ x :: y :: t → z < W → 0 < (layE W (x :: y :: t)).length := fun z hz hzW => List.length_pos_of_mem (List.mem_filter.2 ⟨hz, decide_eq_true hzW⟩)
  have hP : ∀ z, z ∈ x :: y :: t → ¬ z < W → 0 < (layP W (x :: y :: t)).length := fun z hz hzW => by
    unfold layP
    rw [List.length_map]
    exact List.length_pos_of_mem (List.mem_filter.2 ⟨hz, by simp [hzW]⟩)
  unfold ov at hov
  by_cases hcW : c < W
  · by_cases hxW : x < W
    · rw [if_pos hcW, if_pos hxW] at hov; cases hov
    · exact ⟨hE c hcr hcW, hP x (by simp) hxW⟩
  · by_cases hxW : x < W
    · exact ⟨hE x (by simp) hxW, hP c hcr hcW⟩
    · rw [if_neg hcW, if_neg hxW] at hov; cases hov
/-- The place of a thread of the smaller cloth in the whole one. -/
def subT (W : Nat) (r : List Nat) (c : Nat) : Nat := if c < (layE W r).length then (layE W r).getD c 0 else (layP W r).getD (c - (layE W r).length) 0 + W
def subL (W : Nat) (l : List Bool) (r : List Nat) : List Bool := tabN (layE W r).length (fun x y => l.getD (W * (layP W r).getD y 0 + (layE W r).getD x 0) false) ((layE W r).length * (layP W r).length)
theorem subT_get {r : List Nat} (h : r.Pairwise (· < ·)) (W : Nat) {c : Nat} (hc : c < r.length) : subT W r c = r.getD c 0 := by
  have hs := lay_split h W
  have hl : r.length = (layE W r).length + (layP W r).length := by
    conv => lhs; rw [hs]
    simp
  unfold subT
  conv => rhs; rw [hs]
  by_cases hcE : c < (layE W r).length
  · rw [if_pos hcE, List.getD_eq_getElem?_getD, List.getD_eq_getElem?_getD, List.getElem?_append_left hcE]
  · rw [if_neg hcE, List.getD_eq_getElem?_getD, List.getD_eq_getElem?_getD, List.getElem?_append_right (by omega), List.getElem?_map]
    have : c - (layE W r).length < (layP W r).length := by omega
    rw [List.getElem?_eq_getElem this]; rfl
theorem layE_lt {W : Nat} {r : List Nat} {c : Nat} (hc : c < (layE W r).length) : (layE W r).getD c 0 < W := by
  rw [List.getD_eq_getElem?_getD, List.getElem?_eq_getElem hc]
  have := (List.mem_filter.1 (List.getElem_mem hc)).2
  simpa using this
theorem sub_ov {W : Nat} (l : List Bool) {r : List Nat} {c d : Nat} (hc : c < (layE W r).length + (layP W r).length) (hd : d < (layE W r).length + (layP W r).length) : ov (layE W r).length (subL W l r) c d = ov W l (subT W r c) (subT W r d) := by
  have hE := fun c => layE_lt (W := W) (r := r) (c := c)
  unfold subL subT
  generalize layE W r = E at *
  generalize layP W r = P at *
  have hget : ∀ x y, x < E.length → y < P.length → (tabN E.length (fun x y => l.getD (W * P.getD y 0 + E.getD x 0) false) (E.length * P.length)).getD (E.length * y + x) false = l.getD (W * P.getD y 0 + E.getD x 0) false := fun x y hx hy => by
    refine tabN_get _ _ hx ?_
    have := Nat.mul_le_mul_left E.length (show y + 1 ≤ P.length by omega)
    rw [Nat.mul_succ] at this
    omega
  have hn : ∀ z : Nat, ¬ z + W < W := fun z => by omega
  unfold ov
  by_cases h1 : c < E.length
  · have e1 := hE c h1
    rw [if_pos h1, if_pos h1, if_pos e1]
    by_cases h2 : d < E.length
    · rw [if_pos h2, if_pos h2, if_pos (hE d h2)]
    · rw [if_neg h2, if_neg h2, if_neg (hn _), hget c (d - E.length) h1 (by omega), Nat.add_sub_cancel]
  · rw [if_neg h1, if_neg h1, if_neg (hn _)]
    by_cases h2 : d < E.length
    · have e2 := hE d h2
      rw [if_pos h2, if_pos h2, if_pos e2, hget d (c - E.length) h2 (by omega), Nat.add_sub_cancel]
    · rw [if_neg h2, if_neg h2, if_neg (hn _)]
theorem lay_len {r : List Nat} (h : r.Pairwise (· < ·)) (W : Nat) : (layE W r).length + (layP W r).length = r.length := by
  have hs := lay_split h W
  conv => rhs; rw [hs]
  simp
/-- The cloth of one part hangs together. -/
theorem Part.hg {W n : Nat} {l : List Bool} {r : List Nat} (h : Part W n l r) : Hg (layE W r).length r.length (subL W l r) := by
  intro M hM ⟨c0, hc0, hM0⟩ x hx
  have hll := lay_len h.inc W
  have hT : ∀ c, c < r.length → subT W r c = r.getD c 0 := fun c hc => subT_get h.inc W hc
  have hmem : ∀ c, c < r.length → r.getD c 0 ∈ r := fun c hc => by rw [List.getD_eq_getElem?_getD, List.getElem?_eq_getElem hc]; exact List.getElem_mem hc
  have key : (fun z => ∃ c, c < r.length ∧ r.getD c 0 = z ∧ M c) (r.getD x 0) := by
    refine h.along (p := fun z => ∃ c, c < r.length ∧ r.getD c 0 = z ∧ M c) (fun a b ha hb => ?_) (hmem c0 hc0) (hmem x hx) ⟨c0, hc0, rfl, hM0⟩
    rintro ⟨c, hc, rfl, hMc⟩ hba
    obtain ⟨d, hd, rfl⟩ := List.mem_iff_getElem.1 hb
    have hdd : r.getD d 0 = r[d] := by rw [List.getD_eq_getElem?_getD, List.getElem?_eq_getElem hd]; rfl
    refine ⟨d, hd, hdd, hM c hc hMc d hd ?_⟩
    rw [sub_ov l (by omega) (by omega), hT d hd, hT c hc, hdd]
    exact (mem_adjT.1 hba).2
  obtain ⟨c, hc, he, hMc⟩ := key
  have : c = x := by
    rw [List.getD_eq_getElem?_getD, List.getD_eq_getElem?_getD, List.getElem?_eq_getElem hc, List.getElem?_eq_getElem hx] at he
    have hi := List.pairwise_iff_getElem.1 h.inc
    rcases Nat.lt_trichotomy c x with h1 | h1 | h1
    · have := hi c x hc hx h1; simp at he; omega
    · exact h1
    · have := hi x c hx hc h1; simp at he; omega
  rw [← this]; exact hMc
end Go.Proofs.YtdbpkjanlafajaaGreatDoor

/- Chapter 11: the parts are listed from below. Plain. -/
set_option linter.unusedSimpArgs false
set_option linter.unusedVariables false
set_option maxRecDepth 100000
namespace Go.Proofs.YtdbpkjanlafajaaGreatDoor
open Go Go.Proofs Go.AW

theorem lSt_pre {hd : Nat → Nat → Bool} {n : Nat} (i : Nat) : ∀ d, ∃ t, (lSt hd n (i + d)).1 = (lSt hd n i).1 ++ t
  | 0 => ⟨[], by simp⟩
  | d + 1 => by
    obtain ⟨t, ht⟩ := lSt_pre (hd := hd) (n := n) i d
    show ∃ t, (lSt hd n ((i + d) + 1)).1 = _
    rw [lSt]
    split
    · exact ⟨t, ht⟩
    · rename_i a _
      exact ⟨t ++ [mtl hd n a], by show (lSt hd n (i + d)).1 ++ _ = _; rw [ht, List.append_assoc]⟩
/-- What holds a thread of a part is in that part, or in one listed ahead of it. -/
theorem PL_below {W n : Nat} {l : List Bool} {i : Nat} (hi : i < (PL W n l).length) {a b : Nat} (ha : a ∈ (PL W n l).getD i []) (hb : b < n) (hw : Wy (adjT W n l) a b) : ∃ j, j ≤ i ∧ b ∈ (PL W n l).getD j [] := by
  obtain ⟨m, hmn, hst, hcm, hfin⟩ := lists_run W n l
  have hlen := lSt_len (m := m) (fun k hk => (hst k hk).2.imp fun a h => h.2.1)
  have hflat := lSt_flat (m := m) (fun k hk => (hst k hk).2.imp fun a h => ⟨h.1, h.2.1, h.2.2.2.2⟩)
  have hml : (PL W n l).length = m := by rw [← hfin, hlen m (Nat.le_refl _)]
  rw [hml] at hi
  obtain ⟨_, a0, ha0, hf, haa, _⟩ := hst i hi
  have hs : (lSt (hdB W n l) n (i + 1)).1 = (lSt (hdB W n l) n i).1 ++ [mtl (hdB W n l) n a0] := by rw [lSt, hf]
  obtain ⟨t, ht⟩ := lSt_pre (hd := hdB W n l) (n := n) (i + 1) (m - (i + 1))
  rw [show i + 1 + (m - (i + 1)) = m by omega, hs, hfin] at ht
  have hli := hlen i (by omega)
  have hgi : (PL W n l).getD i [] = mtl (hdB W n l) n a0 := by
    rw [ht, List.append_assoc, List.getD_eq_getElem?_getD, List.getElem?_append_right (by omega), hli, Nat.sub_self]; rfl
  rw [hgi] at ha
  have hp := mtl_part (W := W) (l := l) ha0
  have ha0m : a0 ∈ mtl (hdB W n l) n a0 := by rw [mtl, List.mem_filter, haa]; exact ⟨List.mem_range.2 ha0, rfl⟩
  have hw0 : Wy (adjT W n l) a0 b := ((hp.mu a0 a ha0m).1 ha).1.trans hw
  obtain ⟨hf1, _, _⟩ := List.find?_range_eq_some.1 hf
  unfold cnd at hf1
  rw [Bool.and_eq_true] at hf1
  have hq := List.all_eq_true.1 hf1.2 b (List.mem_range.2 hb)
  rw [(hdB_iff ha0 hb).2 hw0] at hq
  cases hL : (lSt (hdB W n l) n i).2 b with
  | true =>
    have hbf := ((hflat i (by omega)).2 b).2 ⟨hb, hL⟩
    obtain ⟨r, hr, hbr⟩ := List.mem_flatten.1 hbf
    obtain ⟨j, hj, rfl⟩ := List.mem_iff_getElem.1 hr
    refine ⟨j, by omega, ?_⟩
    rw [ht, List.append_assoc, List.getD_eq_getElem?_getD, List.getElem?_append_left hj, List.getElem?_eq_getElem hj]
    exact hbr
  | false =>
    rw [hL] at hq
    have hba : hdB W n l b a0 = true := by simpa using hq
    refine ⟨i, Nat.le_refl _, ?_⟩
    rw [hgi, mtl, List.mem_filter, (hdB_iff ha0 hb).2 hw0, hba]
    exact ⟨List.mem_range.2 hb, rfl⟩
theorem PL_one {W n : Nat} {l : List Bool} {i j x : Nat} (hi : i < (PL W n l).length) (hj : j < (PL W n l).length) (h1 : x ∈ (PL W n l).getD i []) (h2 : x ∈ (PL W n l).getD j []) : i = j := by
  have hd := (List.pairwise_flatten.1 (PL_flat W n l).1).2
  rw [List.getD_eq_getElem?_getD, List.getElem?_eq_getElem hi] at h1
  rw [List.getD_eq_getElem?_getD, List.getElem?_eq_getElem hj] at h2
  have hp := List.pairwise_iff_getElem.1 hd
  rcases Nat.lt_trichotomy i j with h | h | h
  · exact absurd rfl (hp i j hi hj h x h1 x h2)
  · exact h
  · exact absurd rfl (hp j i hj hi h x h2 x h1)
/-- The place of a thread among the first parts, or none. -/
def pOf (ps : List (List Nat)) (x : Nat) : Nat → Int
  | 0 => -1
  | i + 1 => if x ∈ ps.getD i [] then (i : Int) else pOf ps x i
theorem pOf_at {ps : List (List Nat)} {x k : Nat} (hx : x ∈ ps.getD k []) (hu : ∀ j, j < ps.length → x ∈ ps.getD j [] → j = k) : ∀ i, i ≤ ps.length → pOf ps x i = if k < i then (k : Int) else -1
  | 0, _ => by simp [pOf]
  | i + 1, hi => by
    rw [pOf, pOf_at hx hu i (by omega)]
    by_cases hm : x ∈ ps.getD i []
    · have := hu i (by omega) hm
      rw [if_pos hm, if_pos (by omega), this]
    · have : k ≠ i := fun e => hm (e ▸ hx)
      rw [if_neg hm]
      by_cases hk : k < i
      · rw [if_pos hk, if_pos (by omega)]
      · rw [if_neg hk, if_neg (by omega)]
/-- Where the threads are, and what that tells. -/
theorem PL_place {W n : Nat} {l : List Bool} {x : Nat} (hx : x < n) : ∃ k, k < (PL W n l).length ∧ x ∈ (PL W n l).getD k [] ∧ pOf (PL W n l) x (PL W n l).length = k := by
  obtain ⟨r, hr, hxr⟩ := List.mem_flatten.1 (((PL_flat W n l).2 x).2 hx)
  obtain ⟨k, hk, rfl⟩ := List.mem_iff_getElem.1 hr
  have hxk : x ∈ (PL W n l).getD k [] := by rw [List.getD_eq_getElem?_getD, List.getElem?_eq_getElem hk]; exact hxr
  refine ⟨k, hk, hxk, ?_⟩
  rw [pOf_at hxk (fun j hj h => PL_one hj hk h hxk) _ (Nat.le_refl _), if_pos hk]
end Go.Proofs.YtdbpkjanlafajaaGreatDoor

/- The next thread of the way, by the program. -/
set_option linter.unusedSimpArgs false
set_option linter.unusedVariables false
set_option maxRecDepth 100000
namespace Go.Proofs.YtdbpkjanlafajaaGreatDoor
open Go Go.Proofs Go.AW

end Go.Proofs.YtdbpkjanlafajaaGreatDoor

/- Accept, by the reference. -/
set_option linter.unusedSimpArgs false
set_option linter.unusedVariables false
set_option maxRecDepth 100000
namespace Go.Proofs.YtdbpkjanlafajaaGreatDoor
open Go Go.Proofs Go.AW

end Go.Proofs.YtdbpkjanlafajaaGreatDoor

/- Whole walks, and sets that come off. Plain. -/
set_option linter.unusedSimpArgs false
set_option linter.unusedVariables false
set_option maxRecDepth 100000
namespace Go.Proofs.YtdbpkjanlafajaaGreatDoor
open Go Go.Proofs Go.AW

theorem inc_okS {n : Nat} {s : List Int} (h : s.Pairwise (· < ·)) (hm : ∀ x ∈ s, 0 ≤ x ∧ x < n) : okS n s s.length := by
  have hgd : ∀ (j : Nat) (hj : j < s.length), s.getD j 0 = s[j]'hj := fun j hj => by rw [List.getD_eq_getElem?_getD, List.getElem?_eq_getElem hj]; rfl
  intro i hi
  refine ⟨hm _ (mem_getD.2 ⟨i, hi, rfl⟩), fun h0 => ?_⟩
  rw [hgd i hi, hgd (i - 1) (by omega)]
  exact List.pairwise_iff_getElem.1 h (i - 1) i (by omega) hi (by omega)
theorem okS_inc {n : Nat} {s : List Int} (h : okS n s s.length) : s.Pairwise (· < ·) := by
  have hgd : ∀ (j : Nat) (hj : j < s.length), s.getD j 0 = s[j]'hj := fun j hj => by rw [List.getD_eq_getElem?_getD, List.getElem?_eq_getElem hj]; rfl
  rw [List.pairwise_iff_getElem]
  have : ∀ (d i : Nat), i + d + 1 < s.length → s.getD i 0 < s.getD (i + d + 1) 0 := by
    intro d
    induction d with
    | zero => intro i hi; have := (h (i + 1) hi).2 (by omega); rwa [show i + 1 - 1 = i by omega] at this
    | succ d ih =>
      intro i hi
      have h1 := ih i (by omega)
      have h2 := (h (i + (d + 1) + 1) hi).2 (by omega)
      rw [show i + (d + 1) + 1 - 1 = i + d + 1 by omega] at h2
      omega
  intro i j hi hj hij
  have := this (j - i - 1) i (by omega)
  rw [show i + (j - i - 1) + 1 = j by omega, hgd i hi, hgd j hj] at this
  exact this
theorem mks_mem {n : Nat} {s : List Int} (h : okS n s s.length) {a : Nat} (ha : a < n) : (mks n s s.length).getD a false = true ↔ (a : Int) ∈ s := (mks_get h ha).trans mem_getD.symm
theorem okS_eq {n : Nat} {s : List Int} (h : okS n s s.length) : s = nI ((List.range n).filter fun a => (mks n s s.length).getD a false) := by
  refine sinc_ext _ _ (okS_inc h) (nI_inc (List.Pairwise.filter _ List.pairwise_lt_range)) fun x => ?_
  unfold nI
  simp only [List.mem_map, List.mem_filter, List.mem_range]
  constructor
  · intro hx
    obtain ⟨i, hi, e⟩ := mem_getD.1 hx
    have := (h i hi).1
    have hxn : ((x.toNat : Nat) : Int) = x := by omega
    refine ⟨x.toNat, ⟨by omega, (mks_mem h (by omega)).2 (by rw [hxn]; exact hx)⟩, hxn⟩
  · rintro ⟨y, ⟨h1, h2⟩, rfl⟩
    exact (mks_mem h h1).1 h2
end Go.Proofs.YtdbpkjanlafajaaGreatDoor

/- Sets told by their threads; the back. Plain. -/
set_option linter.unusedSimpArgs false
set_option linter.unusedVariables false
set_option maxRecDepth 100000
namespace Go.Proofs.YtdbpkjanlafajaaGreatDoor
open Go Go.Proofs Go.AW

/-- The threads that p wants. -/
def fil (n : Nat) (p : Nat → Bool) : List Int := nI ((List.range n).filter p)
theorem fil_len (n : Nat) (p : Nat → Bool) : (fil n p).length = ((List.range n).filter p).length := nI_len _
theorem fil_le (n : Nat) (p : Nat → Bool) : (fil n p).length ≤ n := by rw [fil_len]; exact Nat.le_trans (List.length_filter_le _ _) (by simp)
theorem mem_fil {n : Nat} {p : Nat → Bool} {a : Nat} : (a : Int) ∈ fil n p ↔ a < n ∧ p a = true := by
  unfold fil nI
  simp only [List.mem_map, List.mem_filter, List.mem_range]
  constructor
  · rintro ⟨y, h, e⟩
    obtain rfl : y = a := by omega
    exact h
  · intro h; exact ⟨a, h, rfl⟩
theorem fil_okS (n : Nat) (p : Nat → Bool) : okS n (fil n p) (fil n p).length := by
  refine inc_okS (nI_inc (List.Pairwise.filter _ List.pairwise_lt_range)) fun x hx => ?_
  have hx : x ∈ fil n p := hx
  unfold fil nI at hx
  simp only [List.mem_map, List.mem_filter, List.mem_range] at hx
  obtain ⟨y, h, rfl⟩ := hx
  omega
theorem fil_mks {n : Nat} {p : Nat → Bool} {a : Nat} (ha : a < n) : (mks n (fil n p) (fil n p).length).getD a false = p a := by
  have h := mks_mem (fil_okS n p) ha
  rw [mem_fil] at h
  cases hp : p a with
  | true => exact h.2 ⟨ha, hp⟩
  | false =>
    cases hm : (mks n (fil n p) (fil n p).length).getD a false with
    | false => rfl
    | true => have := (h.1 hm).2; rw [hp] at this; cases this
theorem okS_fil {n : Nat} {s : List Int} (h : okS n s s.length) : s = fil n fun a => (mks n s s.length).getD a false := okS_eq h
theorem fil_pos {n : Nat} {p : Nat → Bool} : 0 < (fil n p).length ↔ ∃ a, a < n ∧ p a = true := by
  rw [fil_len, List.length_pos_iff_exists_mem]
  simp only [List.mem_filter, List.mem_range]
theorem fil_all {n : Nat} {p : Nat → Bool} : (fil n p).length = n ↔ ∀ a, a < n → p a = true := by
  rw [fil_len]
  constructor
  · intro h a ha
    have h2 := List.length_filter_eq_length_iff.1 (h.trans (List.length_range (n := n)).symm)
    exact h2 a (List.mem_range.2 ha)
  · intro h
    rw [List.filter_eq_self.2 fun a ha => h a (List.mem_range.1 ha), List.length_range]
/-- It comes off: by its threads. -/
def Offs (W n : Nat) (l : List Bool) (p : Nat → Bool) : Prop := (∃ a, a < n ∧ p a = true) ∧ (∃ a, a < n ∧ p a = false) ∧ ∀ a, a < n → ∀ c, c < n → ¬ (p a = false ∧ p c = true ∧ ov W l a c = true)
theorem offs_iff {W n : Nat} {l : List Bool} {p : Nat → Bool} : 0 < (fil n p).length ∧ (fil n p).length ≠ n ∧ offD W n l (mks n (fil n p) (fil n p).length) ↔ Offs W n l p := by
  rw [fil_pos, Ne, fil_all]
  unfold Offs offD
  refine and_congr_right fun _ => and_congr ⟨fun h => ?_, fun h h2 => ?_⟩ ⟨fun h a ha c hc => ?_, fun h a ha c hc => ?_⟩
  · refine Classical.byContradiction fun hn => h fun a ha => ?_
    cases hp : p a with
    | true => rfl
    | false => exact absurd ⟨a, ha, hp⟩ hn
  · obtain ⟨a, ha, hp⟩ := h
    rw [h2 a ha] at hp; cases hp
  · have := h a ha c hc; rwa [fil_mks ha, fil_mks hc] at this
  · rw [fil_mks ha, fil_mks hc]; exact h a ha c hc
/-- Off of the threads that p wants. -/
theorem offP_fil {W H n : Nat} (hN : W + H = n) (hW0 : 0 < W) (hH0 : 0 < H) (hn40 : n ≤ 64) (b bs : Bool) {l : List Bool} (hn : l.length = W * H) (p : Nat → Bool) (r : Bool) (hr : r = true ↔ Offs W n l p) :
    Contract Tryz.prog 9 [GA W H b l, LA bs (fil n p)] (.tuple [B r, I 0]) :=
  offP_c hN hW0 hH0 hn40 b bs hn (fil n p) (by have := fil_le n p; omega) r 0 (fun h => absurd (fil_okS n p) h) (fun _ => ⟨rfl, hr.trans offs_iff.symm⟩)
end Go.Proofs.YtdbpkjanlafajaaGreatDoor

/- Chapter 11: the parts are the finest separation. Plain. -/
set_option linter.unusedSimpArgs false
set_option linter.unusedVariables false
set_option maxRecDepth 100000
namespace Go.Proofs.YtdbpkjanlafajaaGreatDoor
open Go Go.Proofs Go.AW

theorem PL_at {W n : Nat} {l : List Bool} {i : Nat} (hi : i < (PL W n l).length) : Part W n l ((PL W n l).getD i []) :=
  PL_part (by rw [List.getD_eq_getElem?_getD, List.getElem?_eq_getElem hi]; exact List.getElem_mem hi)
/-- A cloth hangs together just where it has one part. -/
theorem hg_parts {W n : Nat} {l : List Bool} (hn : 0 < n) : Hg W n l ↔ (PL W n l).length = 1 := by
  constructor
  · intro h
    have hw : ∀ a, a < n → ∀ x, x < n → Wy (adjT W n l) a x := fun a ha => h (fun x => Wy (adjT W n l) a x) (fun c hc hm x hx ho => hm.trans (.one (mem_adjT.2 ⟨hx, ho⟩))) ⟨a, ha, .refl a⟩
    obtain ⟨k, hk, h0, _⟩ := PL_place (W := W) (l := l) hn
    have hall : ∀ j, j < (PL W n l).length → j = k := fun j hj => by
      have hp := PL_at hj
      obtain ⟨x, hx⟩ := List.exists_mem_of_ne_nil _ hp.ne
      have hxn := hp.lt x hx
      exact PL_one hj hk hx (((PL_at hk).mu 0 x h0).2 ⟨hw 0 hn x hxn, hw x hxn 0 hn⟩)
    have h1 := hall 0 (by omega)
    by_cases h2 : 1 < (PL W n l).length
    · have := hall 1 h2; omega
    · omega
  · intro h1 M hM ⟨c, hc, mc⟩ x hx
    obtain ⟨i, hi, hci, _⟩ := PL_place (W := W) (l := l) hc
    obtain ⟨j, hj, hxj, _⟩ := PL_place (W := W) (l := l) hx
    obtain rfl : i = j := by omega
    have hw := (((PL_at hi).mu c x hci).1 hxj).1
    exact (hw.closed (p := fun z => z < n ∧ M z) (fun a b ⟨ha, hma⟩ hb => ⟨(mem_adjT.1 hb).1, hM a ha hma b (mem_adjT.1 hb).1 (mem_adjT.1 hb).2⟩) ⟨hc, mc⟩).2
/-- What comes off is made of whole parts. -/
theorem offs_part {W n : Nat} {l : List Bool} {p : Nat → Bool} (h : Offs W n l p) {r : List Nat} (hr : Part W n l r) {x y : Nat} (hx : x ∈ r) (hy : y ∈ r) : p x = p y := by
  obtain ⟨_, _, hc⟩ := h
  have cl : ∀ a b, a < n → Wy (adjT W n l) a b → p a = true → p b = true := fun a b ha hw hpa =>
    (hw.closed (p := fun z => z < n ∧ p z = true) (fun u v ⟨hu, hpu⟩ hv => by
      obtain ⟨v1, v2⟩ := mem_adjT.1 hv
      refine ⟨v1, ?_⟩
      cases hpv : p v with
      | true => rfl
      | false => exact absurd ⟨hpv, hpu, v2⟩ (hc v v1 u hu)) ⟨ha, hpa⟩).2
  obtain ⟨w1, w2⟩ := (hr.mu x y hx).1 hy
  cases h1 : p x with
  | true => exact (cl x y (hr.lt x hx) w1 h1).symm
  | false =>
    cases h2 : p y with
    | false => rfl
    | true => rw [cl y x (hr.lt y hy) w2 h2] at h1; cases h1
theorem mem_takes {W n : Nat} {l : List Bool} {k x : Nat} : x ∈ ((PL W n l).take k).flatten ↔ ∃ i, i < k ∧ i < (PL W n l).length ∧ x ∈ (PL W n l).getD i [] := by
  rw [List.mem_flatten]
  constructor
  · rintro ⟨r, hr, hx⟩
    obtain ⟨i, hi, rfl⟩ := List.mem_iff_getElem.1 hr
    rw [List.length_take] at hi
    refine ⟨i, by omega, by omega, ?_⟩
    rw [List.getElem_take] at hx
    rw [List.getD_eq_getElem?_getD, List.getElem?_eq_getElem (by omega)]
    exact hx
  · rintro ⟨i, h1, h2, hx⟩
    refine ⟨(PL W n l).getD i [], ?_, hx⟩
    rw [List.getD_eq_getElem?_getD, List.getElem?_eq_getElem h2, List.mem_iff_getElem]
    exact ⟨i, by rw [List.length_take]; omega, by rw [List.getElem_take]; rfl⟩
/-- The first parts come off. -/
theorem offs_first {W n : Nat} {l : List Bool} {k : Nat} (h0 : 0 < k) (hk : k < (PL W n l).length) : Offs W n l fun x => decide (x ∈ ((PL W n l).take k).flatten) := by
  obtain ⟨x, hx⟩ := List.exists_mem_of_ne_nil _ (PL_at (W := W) (n := n) (l := l) (i := 0) (by omega)).ne
  obtain ⟨y, hy⟩ := List.exists_mem_of_ne_nil _ (PL_at hk).ne
  refine ⟨⟨x, (PL_at (by omega)).lt x hx, decide_eq_true (mem_takes.2 ⟨0, h0, by omega, hx⟩)⟩, ⟨y, (PL_at hk).lt y hy, decide_eq_false fun h => ?_⟩, fun a ha c hc => ?_⟩
  · obtain ⟨i, h1, h2, h3⟩ := mem_takes.1 h
    have := PL_one h2 hk h3 hy
    omega
  · rintro ⟨h1, h2, h3⟩
    rw [decide_eq_true_iff] at h2
    obtain ⟨i, i1, i2, i3⟩ := mem_takes.1 h2
    obtain ⟨j, j1, j2⟩ := PL_below i2 i3 ha (.one (mem_adjT.2 ⟨ha, h3⟩))
    exact of_decide_eq_false h1 (mem_takes.2 ⟨j, by omega, by omega, j2⟩)
theorem offs_none {W n : Nat} {l : List Bool} : ¬ Offs W n l fun x => decide (x ∈ ((PL W n l).take 0).flatten) := by
  rintro ⟨⟨a, _, h⟩, _⟩
  simp at h
theorem sp_len {W n : Nat} {l : List Bool} (k : Nat) : (spI W n l k).length + (spO W n l k).length = n := by
  unfold spI spO
  have : ∀ (p : Nat → Bool) (xs : List Nat), (xs.filter p).length + (xs.filter fun x => !p x).length = xs.length := fun p xs => by
    induction xs with
    | nil => rfl
    | cons x xs ih =>
      cases h : p x <;> simp [List.filter_cons, h] <;> omega
  rw [this (fun x => decide (x ∈ ((PL W n l).take k).flatten)), List.length_range]
theorem spI_fil {W n : Nat} {l : List Bool} (k : Nat) : nI (spI W n l k) = fil n fun x => decide (x ∈ ((PL W n l).take k).flatten) := rfl
/-- How often the threads are counted. -/
def cS (n : Nat) (S : List Nat) : List Int := fI n fun x => if x ∈ S then 1 else 0
theorem cS_len (n : Nat) (S : List Nat) : (cS n S).length = n := fI_len _ _
theorem cS_set {n : Nat} {S : List Nat} {x : Nat} (hx : x < n) (hS : ¬ x ∈ S) : (cS n S).getD x 0 = 0 ∧ (cS n S).set x 1 = cS n (S ++ [x]) := by
  refine ⟨by unfold cS; rw [fI_get hx, if_neg hS], ?_⟩
  unfold cS
  rw [fI_set]
  refine List.map_congr_left fun y hy => ?_
  show updN _ _ _ _ = _
  unfold updN
  by_cases h : y = x
  · rw [if_pos h, if_pos (by rw [h]; simp)]
  · rw [if_neg h]
    show (if y ∈ S then (1 : Int) else 0) = if y ∈ S ++ [x] then 1 else 0
    by_cases h2 : y ∈ S
    · rw [if_pos h2, if_pos (List.mem_append_left _ h2)]
    · rw [if_neg h2, if_neg]
      intro h3
      rcases List.mem_append.1 h3 with h3 | h3
      · exact h2 h3
      · exact h (List.mem_singleton.1 h3)
theorem cS_nil (n : Nat) : cS n [] = List.replicate n 0 := by unfold cS; simp [fI, List.map_const']
theorem cS_all {W n : Nat} {l : List Bool} {x : Nat} (hx : x < n) : (cS n (PL W n l).flatten).getD x 0 = 1 := by
  unfold cS; rw [fI_get hx, if_pos (((PL_flat W n l).2 x).2 hx)]
/-- A thread that comes is not yet counted. -/
theorem cS_new {W n : Nat} {l : List Bool} {i j x : Nat} (hi : i < (PL W n l).length) (hj : ((PL W n l).getD i [])[j]? = some x) : ¬ x ∈ ((PL W n l).take i).flatten ++ ((PL W n l).getD i []).take j := by
  intro h
  have hx : x ∈ (PL W n l).getD i [] := List.mem_of_getElem? hj
  rcases List.mem_append.1 h with h | h
  · obtain ⟨k, h1, h2, h3⟩ := mem_takes.1 h
    have := PL_one h2 hi h3 hx
    omega
  · have hinc := (PL_at hi).inc
    generalize (PL W n l).getD i [] = r at *
    obtain ⟨k, hk, hkx⟩ := List.mem_iff_getElem.1 h
    rw [List.length_take] at hk
    rw [List.getElem_take] at hkx
    obtain ⟨hjl, hjx⟩ := List.getElem?_eq_some_iff.1 hj
    have := List.pairwise_iff_getElem.1 hinc k j (by omega) hjl (by omega)
    omega
theorem take_next {ps : List (List Nat)} {i : Nat} (hi : i < ps.length) : (ps.take (i + 1)).flatten = (ps.take i).flatten ++ ps.getD i [] := by
  rw [List.take_add_one, List.getElem?_eq_getElem hi, List.getD_eq_getElem?_getD, List.getElem?_eq_getElem hi, List.flatten_append]
  simp
end Go.Proofs.YtdbpkjanlafajaaGreatDoor

/- Chapter 11: the layers, by both. -/
set_option linter.unusedSimpArgs false
set_option linter.unusedVariables false
set_option maxRecDepth 100000
namespace Go.Proofs.YtdbpkjanlafajaaGreatDoor
open Go Go.Proofs Go.AW

end Go.Proofs.YtdbpkjanlafajaaGreatDoor

/- Chapter 11: layers compared. -/
set_option linter.unusedSimpArgs false
set_option linter.unusedVariables false
set_option maxRecDepth 100000
namespace Go.Proofs.YtdbpkjanlafajaaGreatDoor
open Go Go.Proofs Go.AW

end Go.Proofs.YtdbpkjanlafajaaGreatDoor

/- Chapter 11: parts split, by the reference. -/
set_option linter.unusedSimpArgs false
set_option linter.unusedVariables false
set_option maxRecDepth 100000
namespace Go.Proofs.YtdbpkjanlafajaaGreatDoor
open Go Go.Proofs Go.AW

end Go.Proofs.YtdbpkjanlafajaaGreatDoor

/- Room for more: slices.Grow of nothing. -/
set_option linter.unusedSimpArgs false
set_option linter.unusedVariables false
set_option maxRecDepth 100000
namespace Go.Proofs.YtdbpkjanlafajaaGreatDoor
open Go Go.Proofs Go.AW

theorem kindInt0 : (tyI Tryz.prog 3).bind TyI.kind = some .i64 := by kernel_rfl
theorem kindInt : ∃ T kk, tyI Tryz.prog 3 = some T ∧ T.kind = some kk := by
  cases h : tyI Tryz.prog 3 with
  | none => have := kindInt0; rw [h] at this; cases this
  | some T => have := kindInt0; rw [h] at this; exact ⟨T, .i64, rfl, this⟩
theorem slice_cap0 {P : Program} {t e nb : Nat} {z : Value} [S : SlT P t e nb z] {h : List AObj} {b : Bool} {k : IntKind} {c : Int} (h0 : c = 0) : aSlice P t h (.cap0 b) none (some (.val (.int k c))) none = some (.cap0 b) := by
  obtain ⟨⟨T, hT, hTe⟩, E, hE, g1, g2, g3, g4⟩ := S
  subst h0
  simp only [aSlice, hT, hTe, hE, sview, optInt, g1]
  rw [if_pos ⟨by omega, by omega, by omega, by omega⟩]
theorem grow_s (h0 : List AObj) {N : Nat} (h1 : 0 < N) (h2 : N ≤ 1000000) : SpecTo Tryz.prog 53 [.cap0 true, I N] h0 (.ref h0.length 0 0 N) (h0 ++ [⟨3, 1, ints (List.replicate N 0)⟩]) := by
  have hNt : (N : Int).toNat = N := Int.toNat_natCast N
  refine SpecTo.intro (effS [] false) follows Tryz.func53 rfl rfl (by kernel_rfl) (Nat.le_of_ble_eq_true rfl) ?_
  have hzz : aApZ Tryz.prog 25 3 h0 (.cap0 true) (I N) = some (.ref h0.length 0 N N, h0 ++ [⟨3, 1, ints (List.replicate N 0)⟩]) := by
    rw [apz_int kindInt rfl (by omega) (by omega), hNt]
  have hca : cellsAt (h0 ++ [⟨3, 1, ints (List.replicate N 0)⟩]) h0.length N = some (ints (List.replicate N 0)) := by
    simp [cellsAt, ints]
  have hzt : Int.toNat 0 = 0 := rfl
  have hsl : aSlice Tryz.prog 25 (h0 ++ [⟨3, 1, ints (List.replicate N 0)⟩]) (.ref h0.length 0 N N) none (some (.val (.int .i64 0))) none = some (.ref h0.length 0 0 N) := slice_ref0 hca h1
  have hne : ((25 : Nat) = 3) = False := eq_false (by decide)
  have hN0 : (N : Int) - (0 - 0) = N := by omega
  simp (disch := first | assumption | omega | rfl | simp only [RH]) only [↓RP, RG, FX, RQ, ↓reduceIte, Nat.reduceEqDiff, reduceCtorEq, Nat.reduceBEq, Nat.reduceAdd, Nat.reduceLeDiff, args0_2, opK_cap1, capN, isNil, slice_cap0, opK_appendZ (ht := hne), apFZ_false, hN0, hzz, hsl, hzt, Int.ofNat_zero, Int.natCast_zero]
  refine ⟨_, by rw [resVal_1 rfl]; simp (disch := first | assumption | omega | rfl | simp only [RH]) only [↓RP, RG, FX, RQ, ↓reduceIte, Nat.reduceEqDiff, reduceCtorEq, Nat.reduceBEq, Nat.reduceAdd, Nat.reduceLeDiff, raX_tmp, raX_cell, rvX_0, rvX_1, rvX_2, rvX_3, rvX_4, rvX_5]; rfl, (Wk.drop 8 [0] (by simp) (by decide) (by simp) (same_refl)).trans (Wk.of_eq (by simp (disch := omega) only [RK, List.idxOf?_cons, List.idxOf?_nil, Nat.reduceBEq, Option.map_some, Option.map_none, List.map_cons, List.map_nil, List.getD_cons_zero, List.getD_cons_succ, Bool.false_eq_true, ↓reduceIte, Nat.add_zero, List.append_nil]))⟩
theorem grow_n : Contract Tryz.prog 53 [.list false true 0 [], I 0] (.list false true 0 []) := by
  refine Contract.intro (effS [] false) 6 follows Tryz.func53 rfl rfl (by kernel_rfl) (Nat.le_of_ble_eq_true rfl) ?_
  simp (disch := first | assumption | omega | rfl | simp only [RH]) only [↓RP, RG, FX, RQ, ↓reduceIte, Nat.reduceEqDiff, reduceCtorEq, Nat.reduceBEq, Nat.reduceAdd, Nat.reduceLeDiff, args0_2, opK_cap1, capN, isNil]
  rw [resVal_1 rfl]; simp (disch := first | assumption | omega | rfl | simp only [RH]) only [↓RP, RG, FX, RQ, ↓reduceIte, Nat.reduceEqDiff, reduceCtorEq, Nat.reduceBEq, Nat.reduceAdd, Nat.reduceLeDiff, RS]
/-- Rows that come in. -/
def rIA (p : Bool) (rs : List (List Int)) : List AVal := rs.map fun r => .list p false r.length (ints r)
theorem rIA_at {p : Bool} {rs : List (List Int)} {i : Nat} (h : i < rs.length) : ((rIA p rs).drop i)[0]? = some (.list p false (rs.getD i []).length (ints (rs.getD i []))) := by
  rw [List.getElem?_drop, Nat.add_zero, rIA, List.getElem?_map, List.getElem?_eq_getElem h, List.getD_eq_getElem?_getD, List.getElem?_eq_getElem h]; rfl
theorem flat_succ {rs : List (List Int)} {k : Nat} (h : k < rs.length) : (rs.take (k + 1)).flatten = (rs.take k).flatten ++ rs.getD k [] := by
  rw [List.take_add_one, List.getElem?_eq_getElem h, List.getD_eq_getElem?_getD, List.getElem?_eq_getElem h, List.flatten_append]
  simp
theorem flat_le (rs : List (List Int)) (k : Nat) : ((rs.take k).flatten).length ≤ rs.flatten.length := by
  have h : rs.flatten = (rs.take k).flatten ++ (rs.drop k).flatten := by rw [← List.flatten_append, List.take_append_drop]
  rw [h, List.length_append]; omega
theorem concat_n (b : Bool) : Contract Tryz.prog 35 [.list false b 0 []] (.list false true 0 []) := by
  refine Contract.intro (effS [] false) 6 follows Tryz.func35 rfl rfl (by kernel_rfl) (Nat.le_of_ble_eq_true rfl) ?_
  simp (disch := first | assumption | omega | rfl | simp only [RH]) only [↓RP, RG, FX, RQ, ↓reduceIte, Nat.reduceEqDiff, reduceCtorEq, Nat.reduceBEq, Nat.reduceAdd, Nat.reduceLeDiff, args0_1]
  refine loopK_I [0, 3, 9, 10, 11] (fun k : Nat => k = 0) (fun k => ⟨[(0, .list false b 0 []), (3, I 0), (9, .list false b 0 []), (10, I 0), (11, I 0)], []⟩) (fun k => 0) 0 rfl (by simp only [↓RP, RG, FX, RQ, ↓reduceIte, Nat.reduceEqDiff, reduceCtorEq, Nat.reduceBEq, Nat.reduceAdd, Nat.reduceLeDiff]; rfl) ?_
  rintro k rfl
  simp (disch := first | assumption | omega | rfl | simp only [RH]) only [↓RP, RG, FX, RQ, ↓reduceIte, Nat.reduceEqDiff, reduceCtorEq, Nat.reduceBEq, Nat.reduceAdd, Nat.reduceLeDiff]
  refine callK_F 6 grow_n rfl (.inl rfl) ?_
  simp (disch := first | assumption | omega | rfl | simp only [RH]) only [↓RP, RG, FX, RQ, ↓reduceIte, Nat.reduceEqDiff, reduceCtorEq, Nat.reduceBEq, Nat.reduceAdd, Nat.reduceLeDiff]
  refine loopK_I [6, 25, 26, 27] (fun k : Nat => k = 0) (fun k => ⟨[(6, .list false true 0 []), (25, .list false b 0 []), (26, I 0), (27, I 0)], []⟩) (fun k => 0) 0 rfl (by simp only [↓RP, RG, FX, RQ, ↓reduceIte, Nat.reduceEqDiff, reduceCtorEq, Nat.reduceBEq, Nat.reduceAdd, Nat.reduceLeDiff]; rfl) ?_
  rintro k rfl
  simp (disch := first | assumption | omega | rfl | simp only [RH]) only [↓RP, RG, FX, RQ, ↓reduceIte, Nat.reduceEqDiff, reduceCtorEq, Nat.reduceBEq, Nat.reduceAdd, Nat.reduceLeDiff]
  rw [resVal_1 rfl]; simp (disch := first | assumption | omega | rfl | simp only [RH]) only [↓RP, RG, FX, RQ, ↓reduceIte, Nat.reduceEqDiff, reduceCtorEq, Nat.reduceBEq, Nat.reduceAdd, Nat.reduceLeDiff, RS]
theorem concat_s (h0 : List AObj) (p b : Bool) {rs : List (List Int)} {N : Nat} (hN : rs.flatten.length = N) (hN0 : 0 < N) (hN1 : N ≤ 1000000) (hr : ∀ r ∈ rs, r ≠ []) (hrl : rs.length ≤ 1000000) : SpecTo Tryz.prog 35 [.list p b rs.length (rIA p rs)] h0 (.ref h0.length 0 N N) (h0 ++ [⟨3, 1, ints rs.flatten⟩]) := by
  have hz : Int.toNat 0 = 0 := rfl
  refine SpecTo.intro (effS [53] false) follows Tryz.func35 rfl rfl (by kernel_rfl) (Nat.le_of_ble_eq_true rfl) ?_
  simp (disch := first | assumption | omega | rfl | simp only [RH]) only [↓RP, RG, FX, RQ, ↓reduceIte, Nat.reduceEqDiff, reduceCtorEq, Nat.reduceBEq, Nat.reduceAdd, Nat.reduceLeDiff, args0_1]
  refine loopK_I [0, 3, 9, 10, 11] (fun k : Nat => k ≤ rs.length) (fun k => ⟨[(0, .list p b rs.length (rIA p rs)), (3, I ((rs.take k).flatten).length), (9, .list p b rs.length (rIA p rs)), (10, I rs.length), (11, I k)], h0⟩) (fun k => rs.length - k) 0 (by omega) (by simp only [↓RP, RG, FX, RQ, ↓reduceIte, Nat.reduceEqDiff, reduceCtorEq, Nat.reduceBEq, Nat.reduceAdd, Nat.reduceLeDiff]; rfl) ?_
  intro k hk
  have hfl := flat_le rs k
  by_cases hlt : k < rs.length
  · have hrk := rIA_at (p := p) hlt
    have hfs := flat_succ hlt
    have hf2 := flat_le rs (k + 1)
    have hlen : (((rs.take (k + 1)).flatten).length : Int) = ((rs.take k).flatten).length + (rs.getD k []).length := by rw [hfs, List.length_append]; omega
    rw [hfs, List.length_append] at hf2
    simp (disch := first | assumption | omega | rfl | simp only [RH]) only [↓RP, RG, FX, RQ, ↓reduceIte, Nat.reduceEqDiff, reduceCtorEq, Nat.reduceBEq, Nat.reduceAdd, Nat.reduceLeDiff, hrk, Int.toNat_natCast]
    refine ⟨k + 1, hlt, ?_, by omega⟩
    rw [hlen]
    rfl
  obtain rfl : rs.length = k := by omega
  rw [List.take_length, hN]
  simp (disch := first | assumption | omega | rfl | simp only [RH]) only [↓RP, RG, FX, RQ, ↓reduceIte, Nat.reduceEqDiff, reduceCtorEq, Nat.reduceBEq, Nat.reduceAdd, Nat.reduceLeDiff]
  refine callK_T rfl (grow_s _ hN0 hN1) ?_
  simp (disch := first | assumption | omega | rfl | simp only [RH]) only [↓RP, RG, FX, RQ, ↓reduceIte, Nat.reduceEqDiff, reduceCtorEq, Nat.reduceBEq, Nat.reduceAdd, Nat.reduceLeDiff]
  have hgl : ∀ (o : AObj), (h0 ++ [o])[h0.length]? = some o := fun o => by simp
  have hst : ∀ (o o' : AObj), (h0 ++ [o]).set h0.length o' = h0 ++ [o'] := fun o o' => by simp
  refine loopK_I [6, 25, 26, 27] (fun k : Nat => k ≤ rs.length) (fun k => ⟨[(6, .ref h0.length 0 ((rs.take k).flatten).length N), (25, .list p b rs.length (rIA p rs)), (26, I rs.length), (27, I k)], h0 ++ [⟨3, 1, ints ((rs.take k).flatten ++ List.replicate (N - ((rs.take k).flatten).length) 0)⟩]⟩) (fun k => rs.length - k) 0 (by omega) (by simp only [↓RP, RG, FX, RQ, ↓reduceIte, Nat.reduceEqDiff, reduceCtorEq, Nat.reduceBEq, Nat.reduceAdd, Nat.reduceLeDiff]; rfl) ?_
  intro k hk
  have hfl := flat_le rs k
  by_cases hlt : k < rs.length
  · have hrk := rIA_at (p := p) hlt
    have hfs := flat_succ hlt
    have hf2 := flat_le rs (k + 1)
    have hmem : rs.getD k [] ∈ rs := by rw [List.getD_eq_getElem?_getD, List.getElem?_eq_getElem hlt]; exact List.getElem_mem hlt
    have hr0 : (rs.getD k []).length ≠ 0 := fun h => hr _ hmem (List.eq_nil_of_length_eq_zero h)
    have hlen : ((rs.take (k + 1)).flatten).length = ((rs.take k).flatten).length + (rs.getD k []).length := by rw [hfs, List.length_append]
    rw [hlen] at hf2
    have hap : aAppend Tryz.prog 25 (h0 ++ [⟨3, 1, ints ((rs.take k).flatten ++ List.replicate (N - ((rs.take k).flatten).length) 0)⟩]) (.ref h0.length 0 ((rs.take k).flatten).length N) (.list p false (rs.getD k []).length (ints (rs.getD k []))) = some (.ref h0.length 0 ((rs.take (k + 1)).flatten).length N, h0 ++ [⟨3, 1, ints ((rs.take (k + 1)).flatten ++ List.replicate (N - ((rs.take (k + 1)).flatten).length) 0)⟩]) := by
      rw [append_room (e := 3) (m := (rs.getD k []).length) (r := rs.getD k []) (hgl _) rfl rfl rfl hr0 (by omega), hst, hlen, hfs]
    simp (disch := first | assumption | omega | rfl | simp only [RH]) only [↓RP, RG, FX, RQ, ↓reduceIte, Nat.reduceEqDiff, reduceCtorEq, Nat.reduceBEq, Nat.reduceAdd, Nat.reduceLeDiff, hrk, hap, Int.toNat_natCast]
    exact ⟨k + 1, hlt, rfl, by omega⟩
  · obtain rfl : rs.length = k := by omega
    have e9 : (rs.take rs.length).flatten ++ List.replicate (N - ((rs.take rs.length).flatten).length) 0 = rs.flatten := by
      rw [List.take_length, hN, Nat.sub_self]; simp
    rw [e9, List.take_length, hN]
    simp (disch := first | assumption | omega | rfl | simp only [RH]) only [↓RP, RG, FX, RQ, ↓reduceIte, Nat.reduceEqDiff, reduceCtorEq, Nat.reduceBEq, Nat.reduceAdd, Nat.reduceLeDiff]
    refine ⟨_, by rw [resVal_1 rfl]; simp (disch := first | assumption | omega | rfl | simp only [RH]) only [↓RP, RG, FX, RQ, ↓reduceIte, Nat.reduceEqDiff, reduceCtorEq, Nat.reduceBEq, Nat.reduceAdd, Nat.reduceLeDiff, raX_tmp, raX_cell, rvX_0, rvX_1, rvX_2, rvX_3, rvX_4, rvX_5]; rfl, (Wk.drop 8 [0] (by simp) (by decide) (by simp) (same_refl)).trans (Wk.of_eq (by simp (disch := omega) only [RK, List.idxOf?_cons, List.idxOf?_nil, Nat.reduceBEq, Option.map_some, Option.map_none, List.map_cons, List.map_nil, List.getD_cons_zero, List.getD_cons_succ, Bool.false_eq_true, ↓reduceIte, Nat.add_zero, List.append_nil]))⟩
end Go.Proofs.YtdbpkjanlafajaaGreatDoor

/- Chapter 11: parts split, by the program. -/
set_option linter.unusedSimpArgs false
set_option linter.unusedVariables false
set_option maxRecDepth 100000
namespace Go.Proofs.YtdbpkjanlafajaaGreatDoor
open Go Go.Proofs Go.AW

theorem concat_e (h0 : List AObj) (p b : Bool) : SpecTo Tryz.prog 35 [.list p b 0 []] h0 (.list false true 0 []) h0 := SpecTo.ofContract (n := 6) (concat_n b) (.inl rfl)
/-- A row, or nothing. -/
def spV (x : List Nat) : AVal := match x with
  | [] => .list false true 0 []
  | _ :: _ => LR false (nI x)
theorem rowsC_rI (ps : List (List Nat)) : rowsC ps = rIA true (rwI ps) := by simp [rowsC, rIA, rwI]
theorem rowsC_take (ps : List (List Nat)) (k : Nat) : (rowsC ps).take k = rowsC (ps.take k) := by simp [rowsC, List.map_take]
theorem rowsC_drop (ps : List (List Nat)) (k : Nat) : (rowsC ps).drop k = rowsC (ps.drop k) := by simp [rowsC, List.map_drop]
/-- A call that makes none of the objects that it may make. -/
theorem callK_N {P : Program} {b nb : Bool} {yo : Option (Value × (List AVal → List AObj → List AObj → Prop))} {f : FuncId} {avs : List AVal} {v : AVal} {h : List AObj} {K : AVal → List AObj → Prop} (hfb : b = true) (hn : nb = true) (hc : ∀ h2, SpecTo P f avs h2 v h2) (hK : K v (h ++ [⟨0, 0, []⟩])) :
    @callK P (.func (.func f) [] []) avs h ⟨b, nb, yo⟩ ⟨K⟩ := .inr (.inr (.inr ⟨hn, hfb, v, _, Or.inr ⟨rfl, fun h2 => ⟨f, [], [], rfl, by simpa using hc h2⟩⟩, hK⟩))
theorem splitP_c {W H n : Nat} (hN : W + H = n) (hW0 : 0 < W) (hH0 : 0 < H) (hn64 : n ≤ 64) (b : Bool) {l : List Bool} (hn : l.length = W * H) {k : Nat} (hk : k ≤ (PL W n l).length) : Contract Tryz.prog 13 [GA W H b l, I k] (.tuple [spV (spI W n l k), spV (spO W n l k), I 0]) := by
  have hpp := partsPP_c hN hW0 hH0 hn64 b hn
  have hps := parts_len (W := W) (n := n) (l := l)
  have hne := PL_ne W n l
  have s1 := srt_spI (W := W) (n := n) (l := l) k
  have s2 := srt_spO (W := W) (n := n) (l := l) k
  have l1 := spI_len (W := W) (n := n) (l := l) k
  have l2 := spO_len (W := W) (n := n) (l := l) k
  have q1 : (spI W n l k).length ≤ n := Nat.le_trans (List.length_filter_le _ _) (by simp)
  have q2 : (spO W n l k).length ≤ n := Nat.le_trans (List.length_filter_le _ _) (by simp)
  have hps0 : 0 < (PL W n l).length := by
    refine List.length_pos_iff.2 fun he => ?_
    have := ((PL_flat W n l).2 0).2 (by omega)
    rw [he] at this; cases this
  generalize spI W n l k = X at *
  generalize spO W n l k = Y at *
  generalize PL W n l = ps at *
  refine Contract.intro (effS [35, 36] false [] [] [24, 28] (fun _ => true) [] [35]) 6 follows Tryz.func13 rfl rfl (by kernel_rfl) (Nat.le_of_ble_eq_true rfl) ?_
  simp (disch := first | assumption | omega | rfl | simp only [RH]) only [↓RP, RG, FX, RQ, ↓reduceIte, Nat.reduceEqDiff, reduceCtorEq, Nat.reduceBEq, Nat.reduceAdd, Nat.reduceLeDiff, args0_2]
  refine callK_F 6 hpp (by simp (disch := first | assumption | omega | rfl | simp only [RH]) only [↓RP, RG, FX, RQ, ↓reduceIte, Nat.reduceEqDiff, reduceCtorEq, Nat.reduceBEq, Nat.reduceAdd, Nat.reduceLeDiff, RA] <;> rfl) (.inl (by simp [allFresh]; exact PV_fr 2 _)) ?_
  simp only [PV]
  have hsub : ((ps.length : Int) - k).toNat = ps.length - k := by omega
  have hdl : (ps.drop k).length = ps.length - k := List.length_drop
  have htl : (ps.take k).length = k := by rw [List.length_take]; omega
  have htd : (rowsC (ps.drop k)).take (ps.length - k) = rowsC (ps.drop k) := List.take_of_length_le (by simp [rowsC])
  simp (disch := first | assumption | omega | rfl | simp only [RH]) only [↓RP, RG, FX, RQ, ↓reduceIte, Nat.reduceEqDiff, reduceCtorEq, Nat.reduceBEq, Nat.reduceAdd, Nat.reduceLeDiff, slice_hiL, slice_loL, Int.toNat_natCast, rowsC_take, rowsC_drop, hsub, htd]
  have hcI : ∀ l : List Int, ∀ x ∈ ints l, ∃ v, x = AVal.val v := fun l x hx => by
    simp only [ints, List.mem_map] at hx
    obtain ⟨u, _, rfl⟩ := hx
    exact ⟨_, rfl⟩
  have hrI : ∀ qs : List (List Nat), (∀ r ∈ qs, r ≠ []) → ∀ r ∈ rwI qs, r ≠ [] := fun qs hq r hr => by
    obtain ⟨r', h1, rfl⟩ := List.mem_map.1 hr
    have := hq r' h1
    cases r' with
    | nil => exact absurd rfl this
    | cons => simp [nI]
  have hne1 := hrI (ps.take k) fun r hr => hne r (List.mem_of_mem_take hr)
  have hne2 := hrI (ps.drop k) fun r hr => hne r (List.mem_of_mem_drop hr)
  have hrl1 : (rwI (ps.take k)).length = k := by rw [rwI, List.length_map, htl]
  have hrl2 : (rwI (ps.drop k)).length = ps.length - k := by rw [rwI, List.length_map, hdl]
  have hpos : ∀ qs : List (List Nat), (∀ r ∈ rwI qs, r ≠ []) → 0 < qs.length → 0 < (rwI qs).flatten.length := fun qs hq h0 => by
    cases qs with
    | nil => simp at h0
    | cons r t =>
      have := hq (nI r) (by simp [rwI])
      have h2 := List.length_pos_iff.2 this
      simp only [rwI, List.map_cons, List.flatten_cons, List.length_append]; omega
  have c1 : 0 < k → ∀ h, SpecTo Tryz.prog 35 [.list true ps.isEmpty k (rowsC (ps.take k))] h (.ref h.length 0 X.length X.length) (h ++ [⟨3, 1, ints (rwI (ps.take k)).flatten⟩]) := fun h0 h => by
    have := concat_s h true ps.isEmpty (rs := rwI (ps.take k)) (N := X.length) l1.symm (by rw [l1]; exact hpos _ hne1 (by omega)) (by omega) hne1 (by omega)
    rw [hrl1, ← rowsC_rI] at this; exact this
  have c2 : k < ps.length → ∀ h, SpecTo Tryz.prog 35 [.list true ps.isEmpty (ps.length - k) (rowsC (ps.drop k))] h (.ref h.length 0 Y.length Y.length) (h ++ [⟨3, 1, ints (rwI (ps.drop k)).flatten⟩]) := fun h0 h => by
    have := concat_s h true ps.isEmpty (rs := rwI (ps.drop k)) (N := Y.length) l2.symm (by rw [l2]; exact hpos _ hne2 (by omega)) (by omega) hne2 (by omega)
    rw [hrl2, ← rowsC_rI] at this; exact this
  have p1 : 0 < k → X ≠ [] := fun h0 he => by
    have := hpos _ hne1 (by omega : 0 < (ps.take k).length)
    rw [← l1, he] at this; simp at this
  have p2 : k < ps.length → Y ≠ [] := fun h0 he => by
    have := hpos _ hne2 (by omega : 0 < (ps.drop k).length)
    rw [← l2, he] at this; simp at this
  have z1 : k = 0 → X = [] := fun h0 => by
    subst h0
    have : X.length = 0 := by rw [l1]; rfl
    exact List.eq_nil_of_length_eq_zero this
  have z2 : k = ps.length → Y = [] := fun h0 => by
    have : Y.length = 0 := by rw [l2, h0, List.drop_length]; rfl
    exact List.eq_nil_of_length_eq_zero this
  by_cases hk0 : k = 0
  · subst hk0
    obtain rfl := z1 rfl
    obtain ⟨y0, Y', rfl⟩ : ∃ y0 Y', Y = y0 :: Y' := by cases Y with | nil => exact absurd rfl (p2 (by omega)) | cons a t => exact ⟨a, t, rfl⟩
    have hyl : (y0 :: Y').length = Y'.length + 1 := rfl
    have hyn : Y'.length + 1 = (nI (y0 :: Y')).length := (nI_len (y0 :: Y')).symm
    have htd0 : rowsC (ps.take (ps.length - 0)) = rowsC (ps.drop 0) := by simp
    have s2' : srt (rwI ps).flatten = nI (y0 :: Y') := s2
    refine callK_N rfl rfl (fun h2 => concat_e h2 true ps.isEmpty) ?_
    simp (disch := first | assumption | omega | rfl | simp only [RH]) only [↓RP, RG, FX, RQ, ↓reduceIte, Nat.reduceEqDiff, reduceCtorEq, Nat.reduceBEq, Nat.reduceAdd, Nat.reduceLeDiff, slice_hiL, slice_loL, Int.toNat_natCast, rowsC_take, rowsC_drop, hsub, htd]
    refine callK_M (o := ⟨3, 1, ints (rwI (ps.drop 0)).flatten⟩) (fun j => .ref j 0 (y0 :: Y').length (y0 :: Y').length) (.ref 0 _ _) rfl rfl (fun h2 => by rw [htd0]; exact c2 (by omega) h2) ?_ (by simp) (hcI _)
    simp (disch := first | assumption | omega | rfl | simp only [RH]) only [↓RP, RG, FX, RQ, ↓reduceIte, Nat.reduceEqDiff, reduceCtorEq, Nat.reduceBEq, Nat.reduceAdd, Nat.reduceLeDiff]
    refine callK_F 6 sort_nil rfl (.inl rfl) ?_
    simp (disch := first | assumption | omega | rfl | simp only [RH]) only [↓RP, RG, FX, RQ, ↓reduceIte, Nat.reduceEqDiff, reduceCtorEq, Nat.reduceBEq, Nat.reduceAdd, Nat.reduceLeDiff]
    refine callK_T rfl (sort_spec (ρ := Tryz.lays189_ren) Tryz.lays189 (by kernel_rfl) (id := 2) rfl (by decide) l2.symm (by omega)) ?_
    simp (disch := first | assumption | omega | rfl | simp only [RH]) only [↓RP, RG, FX, RQ, ↓reduceIte, Nat.reduceEqDiff, reduceCtorEq, Nat.reduceBEq, Nat.reduceAdd, Nat.reduceLeDiff, s2, s2', List.drop_zero]
    rw [resVal_3 rfl]; simp (disch := first | assumption | omega | rfl | simp only [RH]) only [↓RP, RG, FX, RQ, ↓reduceIte, Nat.reduceEqDiff, reduceCtorEq, Nat.reduceBEq, Nat.reduceAdd, Nat.reduceLeDiff, RS]
    first | done | rfl
  by_cases hkl : k = ps.length
  · subst hkl
    obtain rfl := z2 rfl
    obtain ⟨x0, X', rfl⟩ : ∃ x0 X', X = x0 :: X' := by cases X with | nil => exact absurd rfl (p1 (by omega)) | cons a t => exact ⟨a, t, rfl⟩
    have hxl : (x0 :: X').length = X'.length + 1 := rfl
    have hxn : X'.length + 1 = (nI (x0 :: X')).length := (nI_len (x0 :: X')).symm
    have hdn : rowsC (ps.drop ps.length) = [] := by rw [List.drop_length]; rfl
    refine callK_M (o := ⟨3, 1, ints (rwI (ps.take ps.length)).flatten⟩) (fun j => .ref j 0 (x0 :: X').length (x0 :: X').length) (.ref 0 _ _) rfl rfl (c1 (by omega)) ?_ (by simp) (hcI _)
    simp (disch := first | assumption | omega | rfl | simp only [RH]) only [↓RP, RG, FX, RQ, ↓reduceIte, Nat.reduceEqDiff, reduceCtorEq, Nat.reduceBEq, Nat.reduceAdd, Nat.reduceLeDiff, slice_hiL, slice_loL, Int.toNat_natCast, rowsC_take, rowsC_drop, hsub, htd, Nat.sub_self]
    refine callK_N rfl rfl (fun h2 => concat_e h2 true ps.isEmpty) ?_
    simp (disch := first | assumption | omega | rfl | simp only [RH]) only [↓RP, RG, FX, RQ, ↓reduceIte, Nat.reduceEqDiff, reduceCtorEq, Nat.reduceBEq, Nat.reduceAdd, Nat.reduceLeDiff]
    refine callK_T rfl (sort_spec (ρ := Tryz.lays189_ren) Tryz.lays189 (by kernel_rfl) (id := 1) rfl (by decide) l1.symm (by omega)) ?_
    simp (disch := first | assumption | omega | rfl | simp only [RH]) only [↓RP, RG, FX, RQ, ↓reduceIte, Nat.reduceEqDiff, reduceCtorEq, Nat.reduceBEq, Nat.reduceAdd, Nat.reduceLeDiff, s1]
    refine callK_F 6 sort_nil rfl (.inl rfl) ?_
    simp (disch := first | assumption | omega | rfl | simp only [RH]) only [↓RP, RG, FX, RQ, ↓reduceIte, Nat.reduceEqDiff, reduceCtorEq, Nat.reduceBEq, Nat.reduceAdd, Nat.reduceLeDiff]
    rw [resVal_3 rfl]; simp (disch := first | assumption | omega | rfl | simp only [RH]) only [↓RP, RG, FX, RQ, ↓reduceIte, Nat.reduceEqDiff, reduceCtorEq, Nat.reduceBEq, Nat.reduceAdd, Nat.reduceLeDiff, RS]
    first | done | rfl
  obtain ⟨x0, X', rfl⟩ : ∃ x0 X', X = x0 :: X' := by cases X with | nil => exact absurd rfl (p1 (by omega)) | cons a t => exact ⟨a, t, rfl⟩
  have hxl : (x0 :: X').length = X'.length + 1 := rfl
  have hxn : X'.length + 1 = (nI (x0 :: X')).length := (nI_len (x0 :: X')).symm
  obtain ⟨y0, Y', rfl⟩ : ∃ y0 Y', Y = y0 :: Y' := by cases Y with | nil => exact absurd rfl (p2 (by omega)) | cons a t => exact ⟨a, t, rfl⟩
  have hyl : (y0 :: Y').length = Y'.length + 1 := rfl
  have hyn : Y'.length + 1 = (nI (y0 :: Y')).length := (nI_len (y0 :: Y')).symm
  refine callK_M (o := ⟨3, 1, ints (rwI (ps.take k)).flatten⟩) (fun j => .ref j 0 (x0 :: X').length (x0 :: X').length) (.ref 0 _ _) rfl rfl (c1 (by omega)) ?_ (by simp) (hcI _)
  simp (disch := first | assumption | omega | rfl | simp only [RH]) only [↓RP, RG, FX, RQ, ↓reduceIte, Nat.reduceEqDiff, reduceCtorEq, Nat.reduceBEq, Nat.reduceAdd, Nat.reduceLeDiff, slice_hiL, slice_loL, Int.toNat_natCast, rowsC_take, rowsC_drop, hsub, htd]
  refine callK_M (o := ⟨3, 1, ints (rwI (ps.drop k)).flatten⟩) (fun j => .ref j 0 (y0 :: Y').length (y0 :: Y').length) (.ref 0 _ _) rfl rfl (c2 (by omega)) ?_ (by simp) (hcI _)
  simp (disch := first | assumption | omega | rfl | simp only [RH]) only [↓RP, RG, FX, RQ, ↓reduceIte, Nat.reduceEqDiff, reduceCtorEq, Nat.reduceBEq, Nat.reduceAdd, Nat.reduceLeDiff]
  refine callK_T rfl (sort_spec (ρ := Tryz.lays189_ren) Tryz.lays189 (by kernel_rfl) (id := 1) rfl (by decide) l1.symm (by omega)) ?_
  simp (disch := first | assumption | omega | rfl | simp only [RH]) only [↓RP, RG, FX, RQ, ↓reduceIte, Nat.reduceEqDiff, reduceCtorEq, Nat.reduceBEq, Nat.reduceAdd, Nat.reduceLeDiff, s1]
  refine callK_T rfl (sort_spec (ρ := Tryz.lays189_ren) Tryz.lays189 (by kernel_rfl) (id := 2) rfl (by decide) l2.symm (by omega)) ?_
  simp (disch := first | assumption | omega | rfl | simp only [RH]) only [↓RP, RG, FX, RQ, ↓reduceIte, Nat.reduceEqDiff, reduceCtorEq, Nat.reduceBEq, Nat.reduceAdd, Nat.reduceLeDiff, s2]
  rw [resVal_3 rfl]; simp (disch := first | assumption | omega | rfl | simp only [RH]) only [↓RP, RG, FX, RQ, ↓reduceIte, Nat.reduceEqDiff, reduceCtorEq, Nat.reduceBEq, Nat.reduceAdd, Nat.reduceLeDiff, RS]
  first | done | rfl
theorem spV_fr (k : Nat) (x : List Nat) : allFresh (k + 2) (spV x) = true := by
  cases x with
  | nil => rfl
  | cons a t => simp [spV, allFresh, ints_fresh]
end Go.Proofs.YtdbpkjanlafajaaGreatDoor

/- Threads of a cloth: limits, sets of threads. -/
set_option linter.unusedSimpArgs false
set_option linter.unusedVariables false
set_option maxRecDepth 100000
namespace Go.Proofs.YtdbpkjanlafajaaGreatDoor
open Go Go.Proofs Go.AW

instance (w h n : Int) : Decidable (gOk w h n) := by unfold gOk; infer_instance

/-- A cloth that chapter 10's statements pass over. -/
def great10 (w h n : Int) : Prop := 200 < n ∨ gOk w h n ∧ 24 < w + h
instance (w h n : Int) : Decidable (great10 w h n) := by unfold great10; infer_instance

/-- The first k of a list of threads ascend. -/
def ascTo (n : Int) (l : List Int) (k : Nat) : Prop := ∀ i, i < k → 0 ≤ l.getD i 0 ∧ l.getD i 0 < n ∧ (0 < i → l.getD (i - 1) 0 < l.getD i 0)
end Go.Proofs.YtdbpkjanlafajaaGreatDoor

/- The cloth of only some threads. -/
set_option linter.unusedSimpArgs false
set_option linter.unusedVariables false
set_option maxRecDepth 100000
namespace Go.Proofs.YtdbpkjanlafajaaGreatDoor
open Go Go.Proofs Go.AW

end Go.Proofs.YtdbpkjanlafajaaGreatDoor

/- The cloth of only some threads: the program's answer. -/
set_option linter.unusedSimpArgs false
set_option linter.unusedVariables false
set_option maxRecDepth 100000
namespace Go.Proofs.YtdbpkjanlafajaaGreatDoor
open Go Go.Proofs Go.AW

end Go.Proofs.YtdbpkjanlafajaaGreatDoor

/- Chapter 11: the cloth of one part. -/
set_option linter.unusedSimpArgs false
set_option linter.unusedVariables false
set_option maxRecDepth 100000
namespace Go.Proofs.YtdbpkjanlafajaaGreatDoor
open Go Go.Proofs Go.AW

theorem inc_asc {n : Nat} {r : List Nat} (h : r.Pairwise (· < ·)) (hn : ∀ x ∈ r, x < n) {m : Int} (hm : m = n) : ascTo m (nI r) (nI r).length := by
  intro i hi
  rw [nI_len] at hi
  have hg : ∀ j, j < r.length → (nI r).getD j 0 = ((r.getD j 0 : Nat) : Int) ∧ r.getD j 0 ∈ r := fun j hj => by
    constructor
    · simp [nI, List.getD_eq_getElem?_getD, List.getElem?_eq_getElem hj]
    · rw [List.getD_eq_getElem?_getD, List.getElem?_eq_getElem hj]; exact List.getElem_mem hj
  obtain ⟨h1, h2⟩ := hg i hi
  have h3 := hn _ h2
  refine ⟨by omega, by omega, fun h0 => ?_⟩
  obtain ⟨h4, _⟩ := hg (i - 1) (by omega)
  have h5 := List.pairwise_iff_getElem.1 h (i - 1) i (by omega) hi (by omega)
  rw [h1, h4, List.getD_eq_getElem?_getD, List.getD_eq_getElem?_getD, List.getElem?_eq_getElem hi, List.getElem?_eq_getElem (show i - 1 < r.length by omega)]
  simp only [Option.getD_some]
  omega
end Go.Proofs.YtdbpkjanlafajaaGreatDoor

/- Chapter 11: the cloths that its statements speak of. -/
set_option linter.unusedSimpArgs false
set_option linter.unusedVariables false
set_option maxRecDepth 100000
namespace Go.Proofs.YtdbpkjanlafajaaGreatDoor
open Go Go.Proofs Go.AW

/-- A cloth that chapter 11's statements speak of. -/
def vlE (w h : Int) (l : List Bool) : Prop := ¬ 200 < (l.length : Int) ∧ gchk w h l.length = 0 ∧ w + h ≤ 24
theorem vlE_nat {w h : Int} {l : List Bool} (hv : vlE w h l) : ∃ W H n : Nat, w = W ∧ h = H ∧ W + H = n ∧ 0 < W ∧ 0 < H ∧ n ≤ 24 ∧ l.length = W * H := by
  obtain ⟨h1, hz, h2⟩ := hv
  obtain ⟨g1, g2, g3, g4, g5⟩ := gchk_iff.1 hz
  refine ⟨w.toNat, h.toNat, w.toNat + h.toNat, by omega, by omega, rfl, by omega, by omega, by omega, ?_⟩
  have e1 : ((w.toNat * h.toNat : Nat) : Int) = (w.toNat : Int) * h.toNat := Int.natCast_mul _ _
  rw [show ((w.toNat : Nat) : Int) = w by omega, show ((h.toNat : Nat) : Int) = h by omega] at e1
  omega
theorem valid11_c (w h : Int) (b : Bool) (l : List Bool) (r : Bool) (hr : r = true ↔ vlE w h l) : Contract Tryz.prog 5 [GA w h b l] (B r) := by
  have hno : ¬ vlE w h l → r = false := fun hn => by
    cases r with
    | false => rfl
    | true => exact absurd (hr.1 rfl) hn
  by_cases c1 : 200 < (l.length : Int)
  · obtain rfl := hno fun hv => hv.1 c1
    refine Contract.intro (effS [] false) 6 follows Tryz.func5 rfl rfl (by kernel_rfl) (Nat.le_of_ble_eq_true rfl) ?_
    simp (disch := first | assumption | omega | rfl | simp only [RH]) only [↓RP, RG, FX, RQ, ↓reduceIte, Nat.reduceEqDiff, reduceCtorEq, Nat.reduceBEq, Nat.reduceAdd, Nat.reduceLeDiff, args0_1]
    refine callK_F 6 (great10_a w h b l c1) (by simp (disch := first | assumption | omega | rfl | simp only [RH]) only [↓RP, RG, FX, RQ, ↓reduceIte, Nat.reduceEqDiff, reduceCtorEq, Nat.reduceBEq, Nat.reduceAdd, Nat.reduceLeDiff, RA] <;> rfl) (.inl (by simp [allFresh, ints_fresh, bools_fresh])) ?_
    simp (disch := first | assumption | omega | rfl | simp only [RH]) only [↓RP, RG, FX, RQ, ↓reduceIte, Nat.reduceEqDiff, reduceCtorEq, Nat.reduceBEq, Nat.reduceAdd, Nat.reduceLeDiff]
    rw [resVal_1 rfl]; simp (disch := first | assumption | omega | rfl | simp only [RH]) only [↓RP, RG, FX, RQ, ↓reduceIte, Nat.reduceEqDiff, reduceCtorEq, Nat.reduceBEq, Nat.reduceAdd, Nat.reduceLeDiff, RS]
  by_cases hz : gchk w h l.length = 0
  · obtain ⟨g1, g2, g3, g4, g5⟩ := gchk_iff.1 hz
    obtain ⟨W, rfl⟩ : ∃ W : Nat, w = W := ⟨w.toNat, by omega⟩
    obtain ⟨H, rfl⟩ : ∃ H : Nat, h = H := ⟨h.toNat, by omega⟩
    have hG := great10_c W H b l c1 hz (by omega) (by omega)
    by_cases c3 : 24 < (W : Int) + H
    · rw [decide_eq_true c3] at hG
      obtain rfl := hno fun hv => by have := hv.2.2; omega
      refine Contract.intro (effS [] false) 6 follows Tryz.func5 rfl rfl (by kernel_rfl) (Nat.le_of_ble_eq_true rfl) ?_
      simp (disch := first | assumption | omega | rfl | simp only [RH]) only [↓RP, RG, FX, RQ, ↓reduceIte, Nat.reduceEqDiff, reduceCtorEq, Nat.reduceBEq, Nat.reduceAdd, Nat.reduceLeDiff, args0_1]
      refine callK_F 6 (hG) (by simp (disch := first | assumption | omega | rfl | simp only [RH]) only [↓RP, RG, FX, RQ, ↓reduceIte, Nat.reduceEqDiff, reduceCtorEq, Nat.reduceBEq, Nat.reduceAdd, Nat.reduceLeDiff, RA] <;> rfl) (.inl (by simp [allFresh, ints_fresh, bools_fresh])) ?_
      simp (disch := first | assumption | omega | rfl | simp only [RH]) only [↓RP, RG, FX, RQ, ↓reduceIte, Nat.reduceEqDiff, reduceCtorEq, Nat.reduceBEq, Nat.reduceAdd, Nat.reduceLeDiff]
      rw [resVal_1 rfl]; simp (disch := first | assumption | omega | rfl | simp only [RH]) only [↓RP, RG, FX, RQ, ↓reduceIte, Nat.reduceEqDiff, reduceCtorEq, Nat.reduceBEq, Nat.reduceAdd, Nat.reduceLeDiff, RS]
    · rw [decide_eq_false c3] at hG
      obtain rfl := hr.2 ⟨c1, hz, by omega⟩
      refine Contract.intro (effS [] false) 6 follows Tryz.func5 rfl rfl (by kernel_rfl) (Nat.le_of_ble_eq_true rfl) ?_
      simp (disch := first | assumption | omega | rfl | simp only [RH]) only [↓RP, RG, FX, RQ, ↓reduceIte, Nat.reduceEqDiff, reduceCtorEq, Nat.reduceBEq, Nat.reduceAdd, Nat.reduceLeDiff, args0_1]
      refine callK_F 6 (hG) (by simp (disch := first | assumption | omega | rfl | simp only [RH]) only [↓RP, RG, FX, RQ, ↓reduceIte, Nat.reduceEqDiff, reduceCtorEq, Nat.reduceBEq, Nat.reduceAdd, Nat.reduceLeDiff, RA] <;> rfl) (.inl (by simp [allFresh, ints_fresh, bools_fresh])) ?_
      simp (disch := first | assumption | omega | rfl | simp only [RH]) only [↓RP, RG, FX, RQ, ↓reduceIte, Nat.reduceEqDiff, reduceCtorEq, Nat.reduceBEq, Nat.reduceAdd, Nat.reduceLeDiff]
      refine callK_F 6 (gcheckR_c W H b l) (by simp (disch := first | assumption | omega | rfl | simp only [RH]) only [↓RP, RG, FX, RQ, ↓reduceIte, Nat.reduceEqDiff, reduceCtorEq, Nat.reduceBEq, Nat.reduceAdd, Nat.reduceLeDiff, RA] <;> rfl) (.inl (by simp [allFresh, ints_fresh, bools_fresh])) ?_
      simp (disch := first | assumption | omega | rfl | simp only [RH]) only [↓RP, RG, FX, RQ, ↓reduceIte, Nat.reduceEqDiff, reduceCtorEq, Nat.reduceBEq, Nat.reduceAdd, Nat.reduceLeDiff, hz]
      rw [resVal_1 rfl]; simp (disch := first | assumption | omega | rfl | simp only [RH]) only [↓RP, RG, FX, RQ, ↓reduceIte, Nat.reduceEqDiff, reduceCtorEq, Nat.reduceBEq, Nat.reduceAdd, Nat.reduceLeDiff, RS]
  · obtain rfl := hno fun hv => hz hv.2.1
    refine Contract.intro (effS [] false) 6 follows Tryz.func5 rfl rfl (by kernel_rfl) (Nat.le_of_ble_eq_true rfl) ?_
    simp (disch := first | assumption | omega | rfl | simp only [RH]) only [↓RP, RG, FX, RQ, ↓reduceIte, Nat.reduceEqDiff, reduceCtorEq, Nat.reduceBEq, Nat.reduceAdd, Nat.reduceLeDiff, args0_1]
    refine callK_F 6 (great10_b w h b l c1 hz) (by simp (disch := first | assumption | omega | rfl | simp only [RH]) only [↓RP, RG, FX, RQ, ↓reduceIte, Nat.reduceEqDiff, reduceCtorEq, Nat.reduceBEq, Nat.reduceAdd, Nat.reduceLeDiff, RA] <;> rfl) (.inl (by simp [allFresh, ints_fresh, bools_fresh])) ?_
    simp (disch := first | assumption | omega | rfl | simp only [RH]) only [↓RP, RG, FX, RQ, ↓reduceIte, Nat.reduceEqDiff, reduceCtorEq, Nat.reduceBEq, Nat.reduceAdd, Nat.reduceLeDiff]
    refine callK_F 6 (gcheckR_c w h b l) (by simp (disch := first | assumption | omega | rfl | simp only [RH]) only [↓RP, RG, FX, RQ, ↓reduceIte, Nat.reduceEqDiff, reduceCtorEq, Nat.reduceBEq, Nat.reduceAdd, Nat.reduceLeDiff, RA] <;> rfl) (.inl (by simp [allFresh, ints_fresh, bools_fresh])) ?_
    simp (disch := first | assumption | omega | rfl | simp only [RH]) only [↓RP, RG, FX, RQ, ↓reduceIte, Nat.reduceEqDiff, reduceCtorEq, Nat.reduceBEq, Nat.reduceAdd, Nat.reduceLeDiff]
    rw [resVal_1 rfl]; simp (disch := first | assumption | omega | rfl | simp only [RH]) only [↓RP, RG, FX, RQ, ↓reduceIte, Nat.reduceEqDiff, reduceCtorEq, Nat.reduceBEq, Nat.reduceAdd, Nat.reduceLeDiff, RS]
    first | done | exact okF (by simpa using hz)
end Go.Proofs.YtdbpkjanlafajaaGreatDoor

/- Chapter 11: it is alive. -/
set_option maxRecDepth 100000
namespace Go.Proofs.YtdbpkjanlafajaaGreatDoor
open Go Go.Proofs Go.AW
noncomputable def g44 : AVal := .agg [I 4, I 4, .list false false 16 (bools [true, false, false, false, false, true, false, false, true, true, false, true, true, true, true, false])]
noncomputable def r44 : AVal := .tuple [.list true false 2 [.list true false 4 (ints [0, 1, 4, 5]), .list true false 4 (ints [2, 3, 6, 7])], I 0]
theorem p44 : Contract Tryz.prog 7 [g44] r44 := Contract.run xGood 5000 (by kernel_rfl)
noncomputable def t44 : AVal := .agg [I 4, I 4, .list true false 16 (bools [true, false, false, false, false, true, false, false, true, true, false, true, true, true, true, false])]
theorem two_c : Contract Tryz.prog 23 [] t44 := Contract.run xGood 5000 (by kernel_rfl)
noncomputable def orcL : List (Nat × List AVal × AVal) := [(23, [], t44), (7, [g44], r44)]
theorem orcL_ok : ∀ p ∈ orcL, Contract Tryz.prog p.1 p.2.1 p.2.2 := by
  intro p hp
  simp only [orcL, List.mem_cons, List.not_mem_nil, or_false] at hp
  rcases hp with rfl | rfl
  · exact two_c
  · exact p44
theorem xGoodL : XT.Good Tryz.prog { xT with orc := lookO orcL } := XT.withO xGood orcL_ok
theorem layersAlive_c : Contract Tryz.prog 6 [] (B true) := Contract.run xGoodL 5000 (by kernel_rfl)
end Go.Proofs.YtdbpkjanlafajaaGreatDoor

/- The law LayersFinest. (Written by wip/dev/gen20.py.) -/
set_option linter.unusedSimpArgs false
set_option linter.unusedVariables false
set_option maxRecDepth 100000
namespace Go.Proofs.YtdbpkjanlafajaaGreatDoor
open Go Go.Proofs Go.AW

theorem part_okS {W n : Nat} {l : List Bool} {r : List Nat} (h : Part W n l r) : okS n (nI r) (nI r).length := fun i hi => by
  obtain ⟨h1, h2, h3⟩ := inc_asc h.inc h.lt (m := n) rfl i hi
  exact ⟨⟨h1, h2⟩, h3⟩
set_option maxHeartbeats 4000000 in
theorem layersFinest_c (w h : Int) (b : Bool) (l : List Bool) (b2 : Bool) (s : List Int) : Contract Tryz.prog 3 [GA w h b l, LA b2 s] (B true) := by
  classical
  have hV := valid11_c w h b l (decide (vlE w h l)) decide_eq_true_iff
  by_cases hv : vlE w h l
  rotate_left
  · rw [decide_eq_false hv] at hV
    refine Contract.intro (effS [] false) 6 follows Tryz.func3 rfl rfl (by kernel_rfl) (Nat.le_of_ble_eq_true rfl) ?_
    simp (disch := first | assumption | omega | rfl | simp only [RH]) only [↓RP, RG, FX, RQ, ↓reduceIte, Nat.reduceEqDiff, reduceCtorEq, Nat.reduceBEq, Nat.reduceAdd, Nat.reduceLeDiff, args0_2]
    refine callK_F 6 (hV) (by simp (disch := first | assumption | omega | rfl | simp only [RH]) only [↓RP, RG, FX, RQ, ↓reduceIte, Nat.reduceEqDiff, reduceCtorEq, Nat.reduceBEq, Nat.reduceAdd, Nat.reduceLeDiff, RA] <;> rfl) (.inl (by simp [allFresh, ints_fresh, bools_fresh])) ?_
    simp (disch := first | assumption | omega | rfl | simp only [RH]) only [↓RP, RG, FX, RQ, ↓reduceIte, Nat.reduceEqDiff, reduceCtorEq, Nat.reduceBEq, Nat.reduceAdd, Nat.reduceLeDiff]
    refine callK_F 6 (layersAlive_c) (by simp (disch := first | assumption | omega | rfl | simp only [RH]) only [↓RP, RG, FX, RQ, ↓reduceIte, Nat.reduceEqDiff, reduceCtorEq, Nat.reduceBEq, Nat.reduceAdd, Nat.reduceLeDiff, RA] <;> rfl) (.inl (by simp [allFresh, ints_fresh, bools_fresh])) ?_
    simp (disch := first | assumption | omega | rfl | simp only [RH]) only [↓RP, RG, FX, RQ, ↓reduceIte, Nat.reduceEqDiff, reduceCtorEq, Nat.reduceBEq, Nat.reduceAdd, Nat.reduceLeDiff]
    rw [resVal_1 rfl]; simp (disch := first | assumption | omega | rfl | simp only [RH]) only [↓RP, RG, FX, RQ, ↓reduceIte, Nat.reduceEqDiff, reduceCtorEq, Nat.reduceBEq, Nat.reduceAdd, Nat.reduceLeDiff, RS]
  rw [decide_eq_true hv] at hV
  by_cases hsl : 40 < (s.length : Int)
  · refine Contract.intro (effS [] false) 6 follows Tryz.func3 rfl rfl (by kernel_rfl) (Nat.le_of_ble_eq_true rfl) ?_
    simp (disch := first | assumption | omega | rfl | simp only [RH]) only [↓RP, RG, FX, RQ, ↓reduceIte, Nat.reduceEqDiff, reduceCtorEq, Nat.reduceBEq, Nat.reduceAdd, Nat.reduceLeDiff, args0_2]
    refine callK_F 6 (hV) (by simp (disch := first | assumption | omega | rfl | simp only [RH]) only [↓RP, RG, FX, RQ, ↓reduceIte, Nat.reduceEqDiff, reduceCtorEq, Nat.reduceBEq, Nat.reduceAdd, Nat.reduceLeDiff, RA] <;> rfl) (.inl (by simp [allFresh, ints_fresh, bools_fresh])) ?_
    simp (disch := first | assumption | omega | rfl | simp only [RH]) only [↓RP, RG, FX, RQ, ↓reduceIte, Nat.reduceEqDiff, reduceCtorEq, Nat.reduceBEq, Nat.reduceAdd, Nat.reduceLeDiff]
    refine callK_F 6 (layersAlive_c) (by simp (disch := first | assumption | omega | rfl | simp only [RH]) only [↓RP, RG, FX, RQ, ↓reduceIte, Nat.reduceEqDiff, reduceCtorEq, Nat.reduceBEq, Nat.reduceAdd, Nat.reduceLeDiff, RA] <;> rfl) (.inl (by simp [allFresh, ints_fresh, bools_fresh])) ?_
    simp (disch := first | assumption | omega | rfl | simp only [RH]) only [↓RP, RG, FX, RQ, ↓reduceIte, Nat.reduceEqDiff, reduceCtorEq, Nat.reduceBEq, Nat.reduceAdd, Nat.reduceLeDiff]
    rw [resVal_1 rfl]; simp (disch := first | assumption | omega | rfl | simp only [RH]) only [↓RP, RG, FX, RQ, ↓reduceIte, Nat.reduceEqDiff, reduceCtorEq, Nat.reduceBEq, Nat.reduceAdd, Nat.reduceLeDiff, RS]
  obtain ⟨W, H, n, rfl, rfl, hN, hW0, hH0, hn24, hn⟩ := vlE_nat hv
  have hW : W ≤ 64 := by omega
  have hH : H ≤ 64 := by omega
  have hNc : (W : Int) + (H : Int) = (n : Int) := by omega
  have hzl : (List.replicate n false).length = n := by simp
  have hNi : ((W : Int) + (H : Int)).toNat = n := by omega
  have hP := partsPP_c hN hW0 hH0 (by omega) b hn
  have hHg := hangsP_c hN hW0 hH0 (by omega) b hn
  have hps := parts_len (W := W) (n := n) (l := l)
  have e1 : decide ((best W n l (n - 1)).length = n) = (((PL W n l).length : Int) == 1) := by
    rw [Bool.eq_iff_iff, decide_eq_true_iff, hg_best (by omega), hg_parts (by omega), beq_iff_eq]; omega
  rw [e1] at hHg
  have hspl : ∀ m, m < (PL W n l).length → Contract Tryz.prog 13 [GA W H b l, I m] (.tuple [spV (spI W n l m), spV (spO W n l m), I 0]) := fun m hm => splitP_c hN hW0 hH0 (by omega) b hn (by omega)
  have hoff : ∀ m, m < (PL W n l).length → Contract Tryz.prog 9 [GA W H b l, LA (spI W n l m).isEmpty (nI (spI W n l m))] (.tuple [B (decide (0 < m)), I 0]) := fun m hm => by
    rw [spI_fil]
    refine offP_fil hN hW0 hH0 (by omega) b _ hn _ _ ?_
    rw [decide_eq_true_iff]
    constructor
    · exact fun h => offs_first h hm
    · intro h
      rcases Nat.eq_zero_or_pos m with e | e
      · rw [e] at h; exact absurd h offs_none
      · exact e
  have hlen := sp_len (W := W) (n := n) (l := l)
  have hXz : ∀ {m : Nat}, m = 0 → spI W n l m = [] := fun {m} e => by rw [e]; unfold spI; simp
  have hXn : ∀ m, spI W n l m = [] → m = 0 := by
    intro m e
    rcases Nat.eq_zero_or_pos m with e0 | e0
    · exact e0
    · obtain ⟨k, hk, h0, _⟩ := PL_place (W := W) (l := l) (show 0 < n by omega)
      obtain ⟨x, hx⟩ := List.exists_mem_of_ne_nil _ (PL_at (W := W) (n := n) (l := l) (i := 0) (by omega)).ne
      have hm : x ∈ spI W n l m := List.mem_filter.2 ⟨List.mem_range.2 ((PL_at (by omega)).lt x hx), decide_eq_true (mem_takes.2 ⟨0, e0, by omega, hx⟩)⟩
      rw [e] at hm; cases hm
  have hYp : ∀ m, m < (PL W n l).length → 0 < (spO W n l m).length := fun m hm => by
    obtain ⟨x, hx⟩ := List.exists_mem_of_ne_nil _ (PL_at hm).ne
    refine List.length_pos_of_mem (a := x) (List.mem_filter.2 ⟨List.mem_range.2 ((PL_at hm).lt x hx), ?_⟩)
    rw [decide_eq_false]
    · rfl
    · intro h
      obtain ⟨i, h1, h2, h3⟩ := mem_takes.1 h
      have := PL_one h2 hm h3 hx
      omega
  have hall : ∀ a, a < n → (cS n (PL W n l).flatten).getD a 0 = 1 := fun a ha => cS_all ha
  have hnew : ∀ m k x, m < (PL W n l).length → ((PL W n l).getD m [])[k]? = some x → ¬ x ∈ ((PL W n l).take m).flatten ++ ((PL W n l).getD m []).take k := fun m k x hm hx => cS_new hm hx
  have hpt : ∀ r ∈ PL W n l, Part W n l r := fun r hr => PL_part hr
  have hrow : ∀ r ∈ PL W n l, r.length ≤ n := fun r hr => (PL_row hr).1
  have hset0 : ∀ r ∈ PL W n l, Contract Tryz.prog 12 [GA W H b l, LA false (nI r)] (B true) := fun r hr => set10s_c hN hW hH b false l (nI r) (by rw [nI_len]; have := (PL_row hr).1; omega) true ⟨fun _ => part_okS (PL_part hr), fun _ => rfl⟩
  generalize PL W n l = ps at *
  by_cases hok : okS n s s.length
  · have hM := marks_c hN hW hH b b2 l s (by omega) hok
    have hMl := mks_len n s s.length
    have hof1 := offP_fil hN hW0 hH0 (by omega) b b2 hn (fun a => (mks n s s.length).getD a false) (decide (Offs W n l fun a => (mks n s s.length).getD a false)) decide_eq_true_iff
    rw [← okS_fil hok] at hof1
    generalize mks n s s.length = M at *
    by_cases hOff : Offs W n l fun a => M.getD a false
    · rw [decide_eq_true hOff] at hof1
      refine Contract.intro (effS [] false) 6 follows Tryz.func3 rfl rfl (by kernel_rfl) (Nat.le_of_ble_eq_true rfl) ?_
      simp (disch := first | assumption | omega | rfl | simp only [RH]) only [↓RP, RG, FX, RQ, ↓reduceIte, Nat.reduceEqDiff, reduceCtorEq, Nat.reduceBEq, Nat.reduceAdd, Nat.reduceLeDiff, args0_2]
      refine callK_F 6 (hV) (by simp (disch := first | assumption | omega | rfl | simp only [RH]) only [↓RP, RG, FX, RQ, ↓reduceIte, Nat.reduceEqDiff, reduceCtorEq, Nat.reduceBEq, Nat.reduceAdd, Nat.reduceLeDiff, RA] <;> rfl) (.inl (by simp [allFresh, ints_fresh, bools_fresh])) ?_
      simp (disch := first | assumption | omega | rfl | simp only [RH]) only [↓RP, RG, FX, RQ, ↓reduceIte, Nat.reduceEqDiff, reduceCtorEq, Nat.reduceBEq, Nat.reduceAdd, Nat.reduceLeDiff]
      refine callK_F 6 hP (by simp (disch := first | assumption | omega | rfl | simp only [RH]) only [↓RP, RG, FX, RQ, ↓reduceIte, Nat.reduceEqDiff, reduceCtorEq, Nat.reduceBEq, Nat.reduceAdd, Nat.reduceLeDiff, RA] <;> rfl) (.inl (by simp [allFresh]; exact PV_fr 2 _)) ?_
      simp only [PV]
      simp (disch := first | assumption | omega | rfl | simp only [RH]) only [↓RP, RG, FX, RQ, ↓reduceIte, Nat.reduceEqDiff, reduceCtorEq, Nat.reduceBEq, Nat.reduceAdd, Nat.reduceLeDiff]
      refine callK_F 6 (hHg) (by simp (disch := first | assumption | omega | rfl | simp only [RH]) only [↓RP, RG, FX, RQ, ↓reduceIte, Nat.reduceEqDiff, reduceCtorEq, Nat.reduceBEq, Nat.reduceAdd, Nat.reduceLeDiff, RA] <;> rfl) (.inl (by simp [allFresh, ints_fresh, bools_fresh])) ?_
      simp (disch := first | assumption | omega | rfl | simp only [RH]) only [↓RP, RG, FX, RQ, ↓reduceIte, Nat.reduceEqDiff, reduceCtorEq, Nat.reduceBEq, Nat.reduceAdd, Nat.reduceLeDiff, bne_self_eq_false, beq_self_eq_true, Bool.not_true]
      refine callK_F 6 (hof1) (by simp (disch := first | assumption | omega | rfl | simp only [RH]) only [↓RP, RG, FX, RQ, ↓reduceIte, Nat.reduceEqDiff, reduceCtorEq, Nat.reduceBEq, Nat.reduceAdd, Nat.reduceLeDiff, RA] <;> rfl) (.inl (by simp [allFresh, ints_fresh, bools_fresh])) ?_
      simp (disch := first | assumption | omega | rfl | simp only [RH]) only [↓RP, RG, FX, RQ, ↓reduceIte, Nat.reduceEqDiff, reduceCtorEq, Nat.reduceBEq, Nat.reduceAdd, Nat.reduceLeDiff]
      refine callK_F 6 (threads_c W H b l hW hH) (by simp (disch := first | assumption | omega | rfl | simp only [RH]) only [↓RP, RG, FX, RQ, ↓reduceIte, Nat.reduceEqDiff, reduceCtorEq, Nat.reduceBEq, Nat.reduceAdd, Nat.reduceLeDiff, RA] <;> rfl) (.inl (by simp [allFresh, ints_fresh, bools_fresh])) ?_
      simp (disch := first | assumption | omega | rfl | simp only [RH]) only [↓RP, RG, FX, RQ, ↓reduceIte, Nat.reduceEqDiff, reduceCtorEq, Nat.reduceBEq, Nat.reduceAdd, Nat.reduceLeDiff, make_bool, hNi, hNc, Int.toNat_natCast]
      refine callK_F 6 hM (by simp (disch := first | assumption | omega | rfl | simp only [RH]) only [↓RP, RG, FX, RQ, ↓reduceIte, Nat.reduceEqDiff, reduceCtorEq, Nat.reduceBEq, Nat.reduceAdd, Nat.reduceLeDiff, RA] <;> rfl) (.inl (by simp [allFresh, bools_fresh])) ?_
      simp (disch := first | assumption | omega | rfl | simp only [RH]) only [↓RP, RG, FX, RQ, ↓reduceIte, Nat.reduceEqDiff, reduceCtorEq, Nat.reduceBEq, Nat.reduceAdd, Nat.reduceLeDiff, make_int, Int.toNat_natCast]
      refine loopK_I [2, 5, 9, 11, 12, 13] (fun m : Nat => m ≤ ps.length) (fun m => ⟨[(2, .ptr 0 0 3), (5, .list true ps.isEmpty ps.length (rowsC ps)), (9, B true), (11, .list true false n (bools M)), (12, .ref 2 0 n n), (13, I m)], [⟨24, 3, [I W, I H, BA b l]⟩, ⟨4, 1, bools (List.replicate n false)⟩, ⟨3, 1, ints (cS n (ps.take m).flatten)⟩]⟩) (fun m => ps.length - m) 0 (by omega) (by simp only [↓RP, RG, FX, RQ, ↓reduceIte, Nat.reduceEqDiff, reduceCtorEq, Nat.reduceBEq, Nat.reduceAdd, Nat.reduceLeDiff]; simp only [List.take_zero, List.flatten_nil, cS_nil]; rfl) ?_
      intro m hm
      by_cases hlt : m < ps.length
      · have hrk := rowsC_at hlt
        have hmem : ps.getD m [] ∈ ps := by rw [List.getD_eq_getElem?_getD, List.getElem?_eq_getElem hlt]; exact List.getElem_mem hlt
        have hpr := hpt _ hmem
        have hrl : (ps.getD m []).length ≤ n := hrow _ hmem
        have htn := take_next hlt
        have hnw := fun k x => hnew m k x hlt
        have hset := hset0 _ hmem
        have hsp := hspl m hlt
        have hof := hoff m hlt
        have hXY := hlen m
        have hX0 := hXn m
        have hX1 := hXz (m := m)
        have hYn := hYp m hlt
        generalize spI W n l m = X at *
        generalize spO W n l m = Y at *
        generalize (ps.take m).flatten = S at *
        generalize ps.getD m [] = r at *
        have hrn := nI_len r
        have hr1 : 0 < r.length := List.length_pos_iff.2 hpr.ne
        obtain ⟨r0, hr0⟩ : ∃ r0, r[0]? = some r0 := ⟨_, List.getElem?_eq_getElem hr1⟩
        simp (disch := first | assumption | omega | rfl | simp only [RH]) only [↓RP, RG, FX, RQ, ↓reduceIte, Nat.reduceEqDiff, reduceCtorEq, Nat.reduceBEq, Nat.reduceAdd, Nat.reduceLeDiff, hrk, Int.toNat_natCast]
        refine callK_F 6 hset (by simp (disch := first | assumption | omega | rfl | simp only [RH]) only [↓RP, RG, FX, RQ, ↓reduceIte, Nat.reduceEqDiff, reduceCtorEq, Nat.reduceBEq, Nat.reduceAdd, Nat.reduceLeDiff, RA] <;> rfl) (.inl rfl) ?_
        simp (disch := first | assumption | omega | rfl | simp only [RH]) only [↓RP, RG, FX, RQ, ↓reduceIte, Nat.reduceEqDiff, reduceCtorEq, Nat.reduceBEq, Nat.reduceAdd, Nat.reduceLeDiff, hrk, Int.toNat_natCast]
        refine loopK_I [2, 5, 9, 11, 12, 13, 14] (fun k : Nat => k ≤ r.length) (fun k => ⟨[(2, .ptr 0 0 3), (5, .list true ps.isEmpty ps.length (rowsC ps)), (9, B true), (11, .list true false n (bools M)), (12, .ref 2 0 n n), (13, I m), (14, I k)], [⟨24, 3, [I W, I H, BA b l]⟩, ⟨4, 1, bools (List.replicate n false)⟩, ⟨3, 1, ints (cS n (S ++ r.take k))⟩]⟩) (fun k => r.length - k) 0 (by omega) (by simp only [↓RP, RG, FX, RQ, ↓reduceIte, Nat.reduceEqDiff, reduceCtorEq, Nat.reduceBEq, Nat.reduceAdd, Nat.reduceLeDiff]; simp) ?_
        · intro k hk
          by_cases hlk : k < r.length
          · obtain ⟨x, hx⟩ : ∃ x, r[k]? = some x := ⟨_, List.getElem?_eq_getElem hlk⟩
            have hgx : (nI r).getD k 0 = (x : Int) := by simp [nI, List.getD_eq_getElem?_getD, hx]
            have hxn : x < n := hpr.lt _ (List.mem_of_getElem? hx)
            have htk : S ++ r.take (k + 1) = (S ++ r.take k) ++ [x] := by rw [List.take_add_one, hx, List.append_assoc]; rfl
            obtain ⟨hget, hst⟩ := cS_set hxn (hnw k x hx)
            rw [← htk] at hst
            have hcl := cS_len n (S ++ r.take k)
            have hgx0 : (nI r).getD (Int.toNat 0) 0 = (r0 : Int) := by simp [nI, List.getD_eq_getElem?_getD, hr0]
            have hr0n : r0 < n := hpr.lt _ (List.mem_of_getElem? hr0)
            have hpe : M.getD x false = M.getD r0 false := offs_part hOff hpr (List.mem_of_getElem? hx) (List.mem_of_getElem? hr0)
            generalize cS n (S ++ r.take k) = A at *
            simp (disch := first | assumption | omega | rfl | simp only [RH]) only [↓RP, RG, FX, RQ, ↓reduceIte, Nat.reduceEqDiff, reduceCtorEq, Nat.reduceBEq, Nat.reduceAdd, Nat.reduceLeDiff, hrk, hgx, hgx0, hpe, hget, Int.zero_add, bne_self_eq_false, beq_self_eq_true, Bool.not_true, Int.toNat_natCast]
            exact ⟨k + 1, hlk, by rw [hst]; rfl, by omega⟩
          · obtain rfl : r.length = k := by omega
            rw [List.take_length, ← htn]
            have hcl := cS_len n (ps.take (m + 1)).flatten
            simp (disch := first | assumption | omega | rfl | simp only [RH]) only [↓RP, RG, FX, RQ, ↓reduceIte, Nat.reduceEqDiff, reduceCtorEq, Nat.reduceBEq, Nat.reduceAdd, Nat.reduceLeDiff, hrk, Int.toNat_natCast]
            refine callK_F 6 hsp (by simp (disch := first | assumption | omega | rfl | simp only [RH]) only [↓RP, RG, FX, RQ, ↓reduceIte, Nat.reduceEqDiff, reduceCtorEq, Nat.reduceBEq, Nat.reduceAdd, Nat.reduceLeDiff, RA] <;> rfl) (.inl (by simp [allFresh]; exact ⟨spV_fr 3 _, spV_fr 3 _⟩)) ?_
            cases Y with
            | nil => simp at hYn
            | cons y0 yt =>
              have hyl := nI_len (y0 :: yt)
              cases X with
              | nil =>
                have e0 : m = 0 := hX0 rfl
                rw [decide_eq_false (by omega)] at hof
                subst e0
                simp (disch := first | assumption | omega | rfl | simp only [RH]) only [↓RP, RG, FX, RQ, ↓reduceIte, Nat.reduceEqDiff, reduceCtorEq, Nat.reduceBEq, Nat.reduceAdd, Nat.reduceLeDiff, spV]
                refine callK_F 6 hof (by simp (disch := first | assumption | omega | rfl | simp only [RH]) only [↓RP, RG, FX, RQ, ↓reduceIte, Nat.reduceEqDiff, reduceCtorEq, Nat.reduceBEq, Nat.reduceAdd, Nat.reduceLeDiff, RA] <;> rfl) (.inl rfl) ?_
                simp only [List.length_nil, List.length_cons] at hXY hyl
                simp (disch := first | assumption | omega | rfl | simp only [RH]) only [↓RP, RG, FX, RQ, ↓reduceIte, Nat.reduceEqDiff, reduceCtorEq, Nat.reduceBEq, Nat.reduceAdd, Nat.reduceLeDiff, spV, show (false == false) = true from rfl, Bool.not_true]
                exact ⟨0 + 1, hlt, rfl, by omega⟩
              | cons x0 xt =>
                have hxl := nI_len (x0 :: xt)
                have hm0 : 0 < m := by
                  rcases Nat.eq_zero_or_pos m with e | e
                  · have := hX1 e; simp at this
                  · exact e
                rw [decide_eq_true hm0] at hof
                simp (disch := first | assumption | omega | rfl | simp only [RH]) only [↓RP, RG, FX, RQ, ↓reduceIte, Nat.reduceEqDiff, reduceCtorEq, Nat.reduceBEq, Nat.reduceAdd, Nat.reduceLeDiff, spV]
                refine callK_F 6 hof (by simp (disch := first | assumption | omega | rfl | simp only [RH]) only [↓RP, RG, FX, RQ, ↓reduceIte, Nat.reduceEqDiff, reduceCtorEq, Nat.reduceBEq, Nat.reduceAdd, Nat.reduceLeDiff, RA] <;> rfl) (.inl rfl) ?_
                simp only [List.length_cons] at hXY hyl hxl
                simp (disch := first | assumption | omega | rfl | simp only [RH]) only [↓RP, RG, FX, RQ, ↓reduceIte, Nat.reduceEqDiff, reduceCtorEq, Nat.reduceBEq, Nat.reduceAdd, Nat.reduceLeDiff, spV, show (true == true) = true from rfl, Bool.not_true]
                exact ⟨m + 1, hlt, rfl, by omega⟩
      · obtain rfl : ps.length = m := by omega
        rw [List.take_length]
        have hcl := cS_len n ps.flatten
        simp (disch := first | assumption | omega | rfl | simp only [RH]) only [↓RP, RG, FX, RQ, ↓reduceIte, Nat.reduceEqDiff, reduceCtorEq, Nat.reduceBEq, Nat.reduceAdd, Nat.reduceLeDiff, Int.toNat_natCast]
        refine loopK_I [2, 12, 20] (fun a : Nat => a ≤ n) (fun a => ⟨[(2, .ptr 0 0 3), (12, .ref 2 0 n n), (20, I a)], [⟨24, 3, [I W, I H, BA b l]⟩, ⟨4, 1, bools (List.replicate n false)⟩, ⟨3, 1, ints (cS n ps.flatten)⟩]⟩) (fun a => n - a) 0 (by omega) (by simp only [↓RP, RG, FX, RQ, ↓reduceIte, Nat.reduceEqDiff, reduceCtorEq, Nat.reduceBEq, Nat.reduceAdd, Nat.reduceLeDiff]; rfl) ?_
        intro a ha
        by_cases hla : a < n
        · have hone := hall a hla
          generalize cS n ps.flatten = A at *
          simp (disch := first | assumption | omega | rfl | simp only [RH]) only [↓RP, RG, FX, RQ, ↓reduceIte, Nat.reduceEqDiff, reduceCtorEq, Nat.reduceBEq, Nat.reduceAdd, Nat.reduceLeDiff, hone, Int.toNat_natCast]
          exact ⟨a + 1, hla, rfl, by omega⟩
        · obtain rfl : n = a := by omega
          simp (disch := first | assumption | omega | rfl | simp only [RH]) only [↓RP, RG, FX, RQ, ↓reduceIte, Nat.reduceEqDiff, reduceCtorEq, Nat.reduceBEq, Nat.reduceAdd, Nat.reduceLeDiff]
          refine callK_F 6 (layersAlive_c) (by simp (disch := first | assumption | omega | rfl | simp only [RH]) only [↓RP, RG, FX, RQ, ↓reduceIte, Nat.reduceEqDiff, reduceCtorEq, Nat.reduceBEq, Nat.reduceAdd, Nat.reduceLeDiff, RA] <;> rfl) (.inl (by simp [allFresh, ints_fresh, bools_fresh])) ?_
          simp (disch := first | assumption | omega | rfl | simp only [RH]) only [↓RP, RG, FX, RQ, ↓reduceIte, Nat.reduceEqDiff, reduceCtorEq, Nat.reduceBEq, Nat.reduceAdd, Nat.reduceLeDiff]
          rw [resVal_1 rfl]; simp (disch := first | assumption | omega | rfl | simp only [RH]) only [↓RP, RG, FX, RQ, ↓reduceIte, Nat.reduceEqDiff, reduceCtorEq, Nat.reduceBEq, Nat.reduceAdd, Nat.reduceLeDiff, RS]
    · rw [decide_eq_false hOff] at hof1
      refine Contract.intro (effS [] false) 6 follows Tryz.func3 rfl rfl (by kernel_rfl) (Nat.le_of_ble_eq_true rfl) ?_
      simp (disch := first | assumption | omega | rfl | simp only [RH]) only [↓RP, RG, FX, RQ, ↓reduceIte, Nat.reduceEqDiff, reduceCtorEq, Nat.reduceBEq, Nat.reduceAdd, Nat.reduceLeDiff, args0_2]
      refine callK_F 6 (hV) (by simp (disch := first | assumption | omega | rfl | simp only [RH]) only [↓RP, RG, FX, RQ, ↓reduceIte, Nat.reduceEqDiff, reduceCtorEq, Nat.reduceBEq, Nat.reduceAdd, Nat.reduceLeDiff, RA] <;> rfl) (.inl (by simp [allFresh, ints_fresh, bools_fresh])) ?_
      simp (disch := first | assumption | omega | rfl | simp only [RH]) only [↓RP, RG, FX, RQ, ↓reduceIte, Nat.reduceEqDiff, reduceCtorEq, Nat.reduceBEq, Nat.reduceAdd, Nat.reduceLeDiff]
      refine callK_F 6 hP (by simp (disch := first | assumption | omega | rfl | simp only [RH]) only [↓RP, RG, FX, RQ, ↓reduceIte, Nat.reduceEqDiff, reduceCtorEq, Nat.reduceBEq, Nat.reduceAdd, Nat.reduceLeDiff, RA] <;> rfl) (.inl (by simp [allFresh]; exact PV_fr 2 _)) ?_
      simp only [PV]
      simp (disch := first | assumption | omega | rfl | simp only [RH]) only [↓RP, RG, FX, RQ, ↓reduceIte, Nat.reduceEqDiff, reduceCtorEq, Nat.reduceBEq, Nat.reduceAdd, Nat.reduceLeDiff]
      refine callK_F 6 (hHg) (by simp (disch := first | assumption | omega | rfl | simp only [RH]) only [↓RP, RG, FX, RQ, ↓reduceIte, Nat.reduceEqDiff, reduceCtorEq, Nat.reduceBEq, Nat.reduceAdd, Nat.reduceLeDiff, RA] <;> rfl) (.inl (by simp [allFresh, ints_fresh, bools_fresh])) ?_
      simp (disch := first | assumption | omega | rfl | simp only [RH]) only [↓RP, RG, FX, RQ, ↓reduceIte, Nat.reduceEqDiff, reduceCtorEq, Nat.reduceBEq, Nat.reduceAdd, Nat.reduceLeDiff, bne_self_eq_false, beq_self_eq_true, Bool.not_true]
      refine callK_F 6 (hof1) (by simp (disch := first | assumption | omega | rfl | simp only [RH]) only [↓RP, RG, FX, RQ, ↓reduceIte, Nat.reduceEqDiff, reduceCtorEq, Nat.reduceBEq, Nat.reduceAdd, Nat.reduceLeDiff, RA] <;> rfl) (.inl (by simp [allFresh, ints_fresh, bools_fresh])) ?_
      simp (disch := first | assumption | omega | rfl | simp only [RH]) only [↓RP, RG, FX, RQ, ↓reduceIte, Nat.reduceEqDiff, reduceCtorEq, Nat.reduceBEq, Nat.reduceAdd, Nat.reduceLeDiff]
      refine callK_F 6 (threads_c W H b l hW hH) (by simp (disch := first | assumption | omega | rfl | simp only [RH]) only [↓RP, RG, FX, RQ, ↓reduceIte, Nat.reduceEqDiff, reduceCtorEq, Nat.reduceBEq, Nat.reduceAdd, Nat.reduceLeDiff, RA] <;> rfl) (.inl (by simp [allFresh, ints_fresh, bools_fresh])) ?_
      simp (disch := first | assumption | omega | rfl | simp only [RH]) only [↓RP, RG, FX, RQ, ↓reduceIte, Nat.reduceEqDiff, reduceCtorEq, Nat.reduceBEq, Nat.reduceAdd, Nat.reduceLeDiff, make_bool, hNi, hNc, Int.toNat_natCast]
      refine callK_F 6 hM (by simp (disch := first | assumption | omega | rfl | simp only [RH]) only [↓RP, RG, FX, RQ, ↓reduceIte, Nat.reduceEqDiff, reduceCtorEq, Nat.reduceBEq, Nat.reduceAdd, Nat.reduceLeDiff, RA] <;> rfl) (.inl (by simp [allFresh, bools_fresh])) ?_
      simp (disch := first | assumption | omega | rfl | simp only [RH]) only [↓RP, RG, FX, RQ, ↓reduceIte, Nat.reduceEqDiff, reduceCtorEq, Nat.reduceBEq, Nat.reduceAdd, Nat.reduceLeDiff, make_int, Int.toNat_natCast]
      refine loopK_I [2, 5, 9, 11, 12, 13] (fun m : Nat => m ≤ ps.length) (fun m => ⟨[(2, .ptr 0 0 3), (5, .list true ps.isEmpty ps.length (rowsC ps)), (9, B false), (11, .list true false n (bools M)), (12, .ref 2 0 n n), (13, I m)], [⟨24, 3, [I W, I H, BA b l]⟩, ⟨4, 1, bools (List.replicate n false)⟩, ⟨3, 1, ints (cS n (ps.take m).flatten)⟩]⟩) (fun m => ps.length - m) 0 (by omega) (by simp only [↓RP, RG, FX, RQ, ↓reduceIte, Nat.reduceEqDiff, reduceCtorEq, Nat.reduceBEq, Nat.reduceAdd, Nat.reduceLeDiff]; simp only [List.take_zero, List.flatten_nil, cS_nil]; rfl) ?_
      intro m hm
      by_cases hlt : m < ps.length
      · have hrk := rowsC_at hlt
        have hmem : ps.getD m [] ∈ ps := by rw [List.getD_eq_getElem?_getD, List.getElem?_eq_getElem hlt]; exact List.getElem_mem hlt
        have hpr := hpt _ hmem
        have hrl : (ps.getD m []).length ≤ n := hrow _ hmem
        have htn := take_next hlt
        have hnw := fun k x => hnew m k x hlt
        have hset := hset0 _ hmem
        have hsp := hspl m hlt
        have hof := hoff m hlt
        have hXY := hlen m
        have hX0 := hXn m
        have hX1 := hXz (m := m)
        have hYn := hYp m hlt
        generalize spI W n l m = X at *
        generalize spO W n l m = Y at *
        generalize (ps.take m).flatten = S at *
        generalize ps.getD m [] = r at *
        have hrn := nI_len r
        have hr1 : 0 < r.length := List.length_pos_iff.2 hpr.ne
        obtain ⟨r0, hr0⟩ : ∃ r0, r[0]? = some r0 := ⟨_, List.getElem?_eq_getElem hr1⟩
        simp (disch := first | assumption | omega | rfl | simp only [RH]) only [↓RP, RG, FX, RQ, ↓reduceIte, Nat.reduceEqDiff, reduceCtorEq, Nat.reduceBEq, Nat.reduceAdd, Nat.reduceLeDiff, hrk, Int.toNat_natCast]
        refine callK_F 6 hset (by simp (disch := first | assumption | omega | rfl | simp only [RH]) only [↓RP, RG, FX, RQ, ↓reduceIte, Nat.reduceEqDiff, reduceCtorEq, Nat.reduceBEq, Nat.reduceAdd, Nat.reduceLeDiff, RA] <;> rfl) (.inl rfl) ?_
        simp (disch := first | assumption | omega | rfl | simp only [RH]) only [↓RP, RG, FX, RQ, ↓reduceIte, Nat.reduceEqDiff, reduceCtorEq, Nat.reduceBEq, Nat.reduceAdd, Nat.reduceLeDiff, hrk, Int.toNat_natCast]
        refine loopK_I [2, 5, 9, 11, 12, 13, 14] (fun k : Nat => k ≤ r.length) (fun k => ⟨[(2, .ptr 0 0 3), (5, .list true ps.isEmpty ps.length (rowsC ps)), (9, B false), (11, .list true false n (bools M)), (12, .ref 2 0 n n), (13, I m), (14, I k)], [⟨24, 3, [I W, I H, BA b l]⟩, ⟨4, 1, bools (List.replicate n false)⟩, ⟨3, 1, ints (cS n (S ++ r.take k))⟩]⟩) (fun k => r.length - k) 0 (by omega) (by simp only [↓RP, RG, FX, RQ, ↓reduceIte, Nat.reduceEqDiff, reduceCtorEq, Nat.reduceBEq, Nat.reduceAdd, Nat.reduceLeDiff]; simp) ?_
        · intro k hk
          by_cases hlk : k < r.length
          · obtain ⟨x, hx⟩ : ∃ x, r[k]? = some x := ⟨_, List.getElem?_eq_getElem hlk⟩
            have hgx : (nI r).getD k 0 = (x : Int) := by simp [nI, List.getD_eq_getElem?_getD, hx]
            have hxn : x < n := hpr.lt _ (List.mem_of_getElem? hx)
            have htk : S ++ r.take (k + 1) = (S ++ r.take k) ++ [x] := by rw [List.take_add_one, hx, List.append_assoc]; rfl
            obtain ⟨hget, hst⟩ := cS_set hxn (hnw k x hx)
            rw [← htk] at hst
            have hcl := cS_len n (S ++ r.take k)
            generalize cS n (S ++ r.take k) = A at *
            simp (disch := first | assumption | omega | rfl | simp only [RH]) only [↓RP, RG, FX, RQ, ↓reduceIte, Nat.reduceEqDiff, reduceCtorEq, Nat.reduceBEq, Nat.reduceAdd, Nat.reduceLeDiff, hrk, hgx, hget, Int.zero_add, Int.toNat_natCast]
            exact ⟨k + 1, hlk, by rw [hst]; rfl, by omega⟩
          · obtain rfl : r.length = k := by omega
            rw [List.take_length, ← htn]
            have hcl := cS_len n (ps.take (m + 1)).flatten
            simp (disch := first | assumption | omega | rfl | simp only [RH]) only [↓RP, RG, FX, RQ, ↓reduceIte, Nat.reduceEqDiff, reduceCtorEq, Nat.reduceBEq, Nat.reduceAdd, Nat.reduceLeDiff, hrk, Int.toNat_natCast]
            refine callK_F 6 hsp (by simp (disch := first | assumption | omega | rfl | simp only [RH]) only [↓RP, RG, FX, RQ, ↓reduceIte, Nat.reduceEqDiff, reduceCtorEq, Nat.reduceBEq, Nat.reduceAdd, Nat.reduceLeDiff, RA] <;> rfl) (.inl (by simp [allFresh]; exact ⟨spV_fr 3 _, spV_fr 3 _⟩)) ?_
            cases Y with
            | nil => simp at hYn
            | cons y0 yt =>
              have hyl := nI_len (y0 :: yt)
              cases X with
              | nil =>
                have e0 : m = 0 := hX0 rfl
                rw [decide_eq_false (by omega)] at hof
                subst e0
                simp (disch := first | assumption | omega | rfl | simp only [RH]) only [↓RP, RG, FX, RQ, ↓reduceIte, Nat.reduceEqDiff, reduceCtorEq, Nat.reduceBEq, Nat.reduceAdd, Nat.reduceLeDiff, spV]
                refine callK_F 6 hof (by simp (disch := first | assumption | omega | rfl | simp only [RH]) only [↓RP, RG, FX, RQ, ↓reduceIte, Nat.reduceEqDiff, reduceCtorEq, Nat.reduceBEq, Nat.reduceAdd, Nat.reduceLeDiff, RA] <;> rfl) (.inl rfl) ?_
                simp only [List.length_nil, List.length_cons] at hXY hyl
                simp (disch := first | assumption | omega | rfl | simp only [RH]) only [↓RP, RG, FX, RQ, ↓reduceIte, Nat.reduceEqDiff, reduceCtorEq, Nat.reduceBEq, Nat.reduceAdd, Nat.reduceLeDiff, spV, show (false == false) = true from rfl, Bool.not_true]
                exact ⟨0 + 1, hlt, rfl, by omega⟩
              | cons x0 xt =>
                have hxl := nI_len (x0 :: xt)
                have hm0 : 0 < m := by
                  rcases Nat.eq_zero_or_pos m with e | e
                  · have := hX1 e; simp at this
                  · exact e
                rw [decide_eq_true hm0] at hof
                simp (disch := first | assumption | omega | rfl | simp only [RH]) only [↓RP, RG, FX, RQ, ↓reduceIte, Nat.reduceEqDiff, reduceCtorEq, Nat.reduceBEq, Nat.reduceAdd, Nat.reduceLeDiff, spV]
                refine callK_F 6 hof (by simp (disch := first | assumption | omega | rfl | simp only [RH]) only [↓RP, RG, FX, RQ, ↓reduceIte, Nat.reduceEqDiff, reduceCtorEq, Nat.reduceBEq, Nat.reduceAdd, Nat.reduceLeDiff, RA] <;> rfl) (.inl rfl) ?_
                simp only [List.length_cons] at hXY hyl hxl
                simp (disch := first | assumption | omega | rfl | simp only [RH]) only [↓RP, RG, FX, RQ, ↓reduceIte, Nat.reduceEqDiff, reduceCtorEq, Nat.reduceBEq, Nat.reduceAdd, Nat.reduceLeDiff, spV, show (true == true) = true from rfl, Bool.not_true]
                exact ⟨m + 1, hlt, rfl, by omega⟩
      · obtain rfl : ps.length = m := by omega
        rw [List.take_length]
        have hcl := cS_len n ps.flatten
        simp (disch := first | assumption | omega | rfl | simp only [RH]) only [↓RP, RG, FX, RQ, ↓reduceIte, Nat.reduceEqDiff, reduceCtorEq, Nat.reduceBEq, Nat.reduceAdd, Nat.reduceLeDiff, Int.toNat_natCast]
        refine loopK_I [2, 12, 20] (fun a : Nat => a ≤ n) (fun a => ⟨[(2, .ptr 0 0 3), (12, .ref 2 0 n n), (20, I a)], [⟨24, 3, [I W, I H, BA b l]⟩, ⟨4, 1, bools (List.replicate n false)⟩, ⟨3, 1, ints (cS n ps.flatten)⟩]⟩) (fun a => n - a) 0 (by omega) (by simp only [↓RP, RG, FX, RQ, ↓reduceIte, Nat.reduceEqDiff, reduceCtorEq, Nat.reduceBEq, Nat.reduceAdd, Nat.reduceLeDiff]; rfl) ?_
        intro a ha
        by_cases hla : a < n
        · have hone := hall a hla
          generalize cS n ps.flatten = A at *
          simp (disch := first | assumption | omega | rfl | simp only [RH]) only [↓RP, RG, FX, RQ, ↓reduceIte, Nat.reduceEqDiff, reduceCtorEq, Nat.reduceBEq, Nat.reduceAdd, Nat.reduceLeDiff, hone, Int.toNat_natCast]
          exact ⟨a + 1, hla, rfl, by omega⟩
        · obtain rfl : n = a := by omega
          simp (disch := first | assumption | omega | rfl | simp only [RH]) only [↓RP, RG, FX, RQ, ↓reduceIte, Nat.reduceEqDiff, reduceCtorEq, Nat.reduceBEq, Nat.reduceAdd, Nat.reduceLeDiff]
          refine callK_F 6 (layersAlive_c) (by simp (disch := first | assumption | omega | rfl | simp only [RH]) only [↓RP, RG, FX, RQ, ↓reduceIte, Nat.reduceEqDiff, reduceCtorEq, Nat.reduceBEq, Nat.reduceAdd, Nat.reduceLeDiff, RA] <;> rfl) (.inl (by simp [allFresh, ints_fresh, bools_fresh])) ?_
          simp (disch := first | assumption | omega | rfl | simp only [RH]) only [↓RP, RG, FX, RQ, ↓reduceIte, Nat.reduceEqDiff, reduceCtorEq, Nat.reduceBEq, Nat.reduceAdd, Nat.reduceLeDiff]
          rw [resVal_1 rfl]; simp (disch := first | assumption | omega | rfl | simp only [RH]) only [↓RP, RG, FX, RQ, ↓reduceIte, Nat.reduceEqDiff, reduceCtorEq, Nat.reduceBEq, Nat.reduceAdd, Nat.reduceLeDiff, RS]
  · have hof1 := offP_c hN hW0 hH0 (by omega) b b2 hn s (by omega) false 2 (fun _ => ⟨rfl, rfl⟩) (fun h => absurd h hok)
    refine Contract.intro (effS [] false) 6 follows Tryz.func3 rfl rfl (by kernel_rfl) (Nat.le_of_ble_eq_true rfl) ?_
    simp (disch := first | assumption | omega | rfl | simp only [RH]) only [↓RP, RG, FX, RQ, ↓reduceIte, Nat.reduceEqDiff, reduceCtorEq, Nat.reduceBEq, Nat.reduceAdd, Nat.reduceLeDiff, args0_2]
    refine callK_F 6 (hV) (by simp (disch := first | assumption | omega | rfl | simp only [RH]) only [↓RP, RG, FX, RQ, ↓reduceIte, Nat.reduceEqDiff, reduceCtorEq, Nat.reduceBEq, Nat.reduceAdd, Nat.reduceLeDiff, RA] <;> rfl) (.inl (by simp [allFresh, ints_fresh, bools_fresh])) ?_
    simp (disch := first | assumption | omega | rfl | simp only [RH]) only [↓RP, RG, FX, RQ, ↓reduceIte, Nat.reduceEqDiff, reduceCtorEq, Nat.reduceBEq, Nat.reduceAdd, Nat.reduceLeDiff]
    refine callK_F 6 hP (by simp (disch := first | assumption | omega | rfl | simp only [RH]) only [↓RP, RG, FX, RQ, ↓reduceIte, Nat.reduceEqDiff, reduceCtorEq, Nat.reduceBEq, Nat.reduceAdd, Nat.reduceLeDiff, RA] <;> rfl) (.inl (by simp [allFresh]; exact PV_fr 2 _)) ?_
    simp only [PV]
    simp (disch := first | assumption | omega | rfl | simp only [RH]) only [↓RP, RG, FX, RQ, ↓reduceIte, Nat.reduceEqDiff, reduceCtorEq, Nat.reduceBEq, Nat.reduceAdd, Nat.reduceLeDiff]
    refine callK_F 6 (hHg) (by simp (disch := first | assumption | omega | rfl | simp only [RH]) only [↓RP, RG, FX, RQ, ↓reduceIte, Nat.reduceEqDiff, reduceCtorEq, Nat.reduceBEq, Nat.reduceAdd, Nat.reduceLeDiff, RA] <;> rfl) (.inl (by simp [allFresh, ints_fresh, bools_fresh])) ?_
    simp (disch := first | assumption | omega | rfl | simp only [RH]) only [↓RP, RG, FX, RQ, ↓reduceIte, Nat.reduceEqDiff, reduceCtorEq, Nat.reduceBEq, Nat.reduceAdd, Nat.reduceLeDiff, bne_self_eq_false, beq_self_eq_true, Bool.not_true]
    refine callK_F 6 (hof1) (by simp (disch := first | assumption | omega | rfl | simp only [RH]) only [↓RP, RG, FX, RQ, ↓reduceIte, Nat.reduceEqDiff, reduceCtorEq, Nat.reduceBEq, Nat.reduceAdd, Nat.reduceLeDiff, RA] <;> rfl) (.inl (by simp [allFresh, ints_fresh, bools_fresh])) ?_
    simp (disch := first | assumption | omega | rfl | simp only [RH]) only [↓RP, RG, FX, RQ, ↓reduceIte, Nat.reduceEqDiff, reduceCtorEq, Nat.reduceBEq, Nat.reduceAdd, Nat.reduceLeDiff]
    refine callK_F 6 (threads_c W H b l hW hH) (by simp (disch := first | assumption | omega | rfl | simp only [RH]) only [↓RP, RG, FX, RQ, ↓reduceIte, Nat.reduceEqDiff, reduceCtorEq, Nat.reduceBEq, Nat.reduceAdd, Nat.reduceLeDiff, RA] <;> rfl) (.inl (by simp [allFresh, ints_fresh, bools_fresh])) ?_
    simp (disch := first | assumption | omega | rfl | simp only [RH]) only [↓RP, RG, FX, RQ, ↓reduceIte, Nat.reduceEqDiff, reduceCtorEq, Nat.reduceBEq, Nat.reduceAdd, Nat.reduceLeDiff, make_bool, hNi, hNc, Int.toNat_natCast]
    simp (disch := first | assumption | omega | rfl | simp only [RH]) only [↓RP, RG, FX, RQ, ↓reduceIte, Nat.reduceEqDiff, reduceCtorEq, Nat.reduceBEq, Nat.reduceAdd, Nat.reduceLeDiff, make_int, Int.toNat_natCast]
    refine loopK_I [2, 5, 9, 11, 12, 13] (fun m : Nat => m ≤ ps.length) (fun m => ⟨[(2, .ptr 0 0 3), (5, .list true ps.isEmpty ps.length (rowsC ps)), (9, B false), (11, .ref 1 0 n n), (12, .ref 2 0 n n), (13, I m)], [⟨24, 3, [I W, I H, BA b l]⟩, ⟨4, 1, bools (List.replicate n false)⟩, ⟨3, 1, ints (cS n (ps.take m).flatten)⟩]⟩) (fun m => ps.length - m) 0 (by omega) (by simp only [↓RP, RG, FX, RQ, ↓reduceIte, Nat.reduceEqDiff, reduceCtorEq, Nat.reduceBEq, Nat.reduceAdd, Nat.reduceLeDiff]; simp only [List.take_zero, List.flatten_nil, cS_nil]; rfl) ?_
    intro m hm
    by_cases hlt : m < ps.length
    · have hrk := rowsC_at hlt
      have hmem : ps.getD m [] ∈ ps := by rw [List.getD_eq_getElem?_getD, List.getElem?_eq_getElem hlt]; exact List.getElem_mem hlt
      have hpr := hpt _ hmem
      have hrl : (ps.getD m []).length ≤ n := hrow _ hmem
      have htn := take_next hlt
      have hnw := fun k x => hnew m k x hlt
      have hset := hset0 _ hmem
      have hsp := hspl m hlt
      have hof := hoff m hlt
      have hXY := hlen m
      have hX0 := hXn m
      have hX1 := hXz (m := m)
      have hYn := hYp m hlt
      generalize spI W n l m = X at *
      generalize spO W n l m = Y at *
      generalize (ps.take m).flatten = S at *
      generalize ps.getD m [] = r at *
      have hrn := nI_len r
      have hr1 : 0 < r.length := List.length_pos_iff.2 hpr.ne
      obtain ⟨r0, hr0⟩ : ∃ r0, r[0]? = some r0 := ⟨_, List.getElem?_eq_getElem hr1⟩
      simp (disch := first | assumption | omega | rfl | simp only [RH]) only [↓RP, RG, FX, RQ, ↓reduceIte, Nat.reduceEqDiff, reduceCtorEq, Nat.reduceBEq, Nat.reduceAdd, Nat.reduceLeDiff, hrk, Int.toNat_natCast]
      refine callK_F 6 hset (by simp (disch := first | assumption | omega | rfl | simp only [RH]) only [↓RP, RG, FX, RQ, ↓reduceIte, Nat.reduceEqDiff, reduceCtorEq, Nat.reduceBEq, Nat.reduceAdd, Nat.reduceLeDiff, RA] <;> rfl) (.inl rfl) ?_
      simp (disch := first | assumption | omega | rfl | simp only [RH]) only [↓RP, RG, FX, RQ, ↓reduceIte, Nat.reduceEqDiff, reduceCtorEq, Nat.reduceBEq, Nat.reduceAdd, Nat.reduceLeDiff, hrk, Int.toNat_natCast]
      refine loopK_I [2, 5, 9, 11, 12, 13, 14] (fun k : Nat => k ≤ r.length) (fun k => ⟨[(2, .ptr 0 0 3), (5, .list true ps.isEmpty ps.length (rowsC ps)), (9, B false), (11, .ref 1 0 n n), (12, .ref 2 0 n n), (13, I m), (14, I k)], [⟨24, 3, [I W, I H, BA b l]⟩, ⟨4, 1, bools (List.replicate n false)⟩, ⟨3, 1, ints (cS n (S ++ r.take k))⟩]⟩) (fun k => r.length - k) 0 (by omega) (by simp only [↓RP, RG, FX, RQ, ↓reduceIte, Nat.reduceEqDiff, reduceCtorEq, Nat.reduceBEq, Nat.reduceAdd, Nat.reduceLeDiff]; simp) ?_
      · intro k hk
        by_cases hlk : k < r.length
        · obtain ⟨x, hx⟩ : ∃ x, r[k]? = some x := ⟨_, List.getElem?_eq_getElem hlk⟩
          have hgx : (nI r).getD k 0 = (x : Int) := by simp [nI, List.getD_eq_getElem?_getD, hx]
          have hxn : x < n := hpr.lt _ (List.mem_of_getElem? hx)
          have htk : S ++ r.take (k + 1) = (S ++ r.take k) ++ [x] := by rw [List.take_add_one, hx, List.append_assoc]; rfl
          obtain ⟨hget, hst⟩ := cS_set hxn (hnw k x hx)
          rw [← htk] at hst
          have hcl := cS_len n (S ++ r.take k)
          generalize cS n (S ++ r.take k) = A at *
          simp (disch := first | assumption | omega | rfl | simp only [RH]) only [↓RP, RG, FX, RQ, ↓reduceIte, Nat.reduceEqDiff, reduceCtorEq, Nat.reduceBEq, Nat.reduceAdd, Nat.reduceLeDiff, hrk, hgx, hget, Int.zero_add, Int.toNat_natCast]
          exact ⟨k + 1, hlk, by rw [hst]; rfl, by omega⟩
        · obtain rfl : r.length = k := by omega
          rw [List.take_length, ← htn]
          have hcl := cS_len n (ps.take (m + 1)).flatten
          simp (disch := first | assumption | omega | rfl | simp only [RH]) only [↓RP, RG, FX, RQ, ↓reduceIte, Nat.reduceEqDiff, reduceCtorEq, Nat.reduceBEq, Nat.reduceAdd, Nat.reduceLeDiff, hrk, Int.toNat_natCast]
          refine callK_F 6 hsp (by simp (disch := first | assumption | omega | rfl | simp only [RH]) only [↓RP, RG, FX, RQ, ↓reduceIte, Nat.reduceEqDiff, reduceCtorEq, Nat.reduceBEq, Nat.reduceAdd, Nat.reduceLeDiff, RA] <;> rfl) (.inl (by simp [allFresh]; exact ⟨spV_fr 3 _, spV_fr 3 _⟩)) ?_
          cases Y with
          | nil => simp at hYn
          | cons y0 yt =>
            have hyl := nI_len (y0 :: yt)
            cases X with
            | nil =>
              have e0 : m = 0 := hX0 rfl
              rw [decide_eq_false (by omega)] at hof
              subst e0
              simp (disch := first | assumption | omega | rfl | simp only [RH]) only [↓RP, RG, FX, RQ, ↓reduceIte, Nat.reduceEqDiff, reduceCtorEq, Nat.reduceBEq, Nat.reduceAdd, Nat.reduceLeDiff, spV]
              refine callK_F 6 hof (by simp (disch := first | assumption | omega | rfl | simp only [RH]) only [↓RP, RG, FX, RQ, ↓reduceIte, Nat.reduceEqDiff, reduceCtorEq, Nat.reduceBEq, Nat.reduceAdd, Nat.reduceLeDiff, RA] <;> rfl) (.inl rfl) ?_
              simp only [List.length_nil, List.length_cons] at hXY hyl
              simp (disch := first | assumption | omega | rfl | simp only [RH]) only [↓RP, RG, FX, RQ, ↓reduceIte, Nat.reduceEqDiff, reduceCtorEq, Nat.reduceBEq, Nat.reduceAdd, Nat.reduceLeDiff, spV, show (false == false) = true from rfl, Bool.not_true]
              exact ⟨0 + 1, hlt, rfl, by omega⟩
            | cons x0 xt =>
              have hxl := nI_len (x0 :: xt)
              have hm0 : 0 < m := by
                rcases Nat.eq_zero_or_pos m with e | e
                · have := hX1 e; simp at this
                · exact e
              rw [decide_eq_true hm0] at hof
              simp (disch := first | assumption | omega | rfl | simp only [RH]) only [↓RP, RG, FX, RQ, ↓reduceIte, Nat.reduceEqDiff, reduceCtorEq, Nat.reduceBEq, Nat.reduceAdd, Nat.reduceLeDiff, spV]
              refine callK_F 6 hof (by simp (disch := first | assumption | omega | rfl | simp only [RH]) only [↓RP, RG, FX, RQ, ↓reduceIte, Nat.reduceEqDiff, reduceCtorEq, Nat.reduceBEq, Nat.reduceAdd, Nat.reduceLeDiff, RA] <;> rfl) (.inl rfl) ?_
              simp only [List.length_cons] at hXY hyl hxl
              simp (disch := first | assumption | omega | rfl | simp only [RH]) only [↓RP, RG, FX, RQ, ↓reduceIte, Nat.reduceEqDiff, reduceCtorEq, Nat.reduceBEq, Nat.reduceAdd, Nat.reduceLeDiff, spV, show (true == true) = true from rfl, Bool.not_true]
              exact ⟨m + 1, hlt, rfl, by omega⟩
    · obtain rfl : ps.length = m := by omega
      rw [List.take_length]
      have hcl := cS_len n ps.flatten
      simp (disch := first | assumption | omega | rfl | simp only [RH]) only [↓RP, RG, FX, RQ, ↓reduceIte, Nat.reduceEqDiff, reduceCtorEq, Nat.reduceBEq, Nat.reduceAdd, Nat.reduceLeDiff, Int.toNat_natCast]
      refine loopK_I [2, 12, 20] (fun a : Nat => a ≤ n) (fun a => ⟨[(2, .ptr 0 0 3), (12, .ref 2 0 n n), (20, I a)], [⟨24, 3, [I W, I H, BA b l]⟩, ⟨4, 1, bools (List.replicate n false)⟩, ⟨3, 1, ints (cS n ps.flatten)⟩]⟩) (fun a => n - a) 0 (by omega) (by simp only [↓RP, RG, FX, RQ, ↓reduceIte, Nat.reduceEqDiff, reduceCtorEq, Nat.reduceBEq, Nat.reduceAdd, Nat.reduceLeDiff]; rfl) ?_
      intro a ha
      by_cases hla : a < n
      · have hone := hall a hla
        generalize cS n ps.flatten = A at *
        simp (disch := first | assumption | omega | rfl | simp only [RH]) only [↓RP, RG, FX, RQ, ↓reduceIte, Nat.reduceEqDiff, reduceCtorEq, Nat.reduceBEq, Nat.reduceAdd, Nat.reduceLeDiff, hone, Int.toNat_natCast]
        exact ⟨a + 1, hla, rfl, by omega⟩
      · obtain rfl : n = a := by omega
        simp (disch := first | assumption | omega | rfl | simp only [RH]) only [↓RP, RG, FX, RQ, ↓reduceIte, Nat.reduceEqDiff, reduceCtorEq, Nat.reduceBEq, Nat.reduceAdd, Nat.reduceLeDiff]
        refine callK_F 6 (layersAlive_c) (by simp (disch := first | assumption | omega | rfl | simp only [RH]) only [↓RP, RG, FX, RQ, ↓reduceIte, Nat.reduceEqDiff, reduceCtorEq, Nat.reduceBEq, Nat.reduceAdd, Nat.reduceLeDiff, RA] <;> rfl) (.inl (by simp [allFresh, ints_fresh, bools_fresh])) ?_
        simp (disch := first | assumption | omega | rfl | simp only [RH]) only [↓RP, RG, FX, RQ, ↓reduceIte, Nat.reduceEqDiff, reduceCtorEq, Nat.reduceBEq, Nat.reduceAdd, Nat.reduceLeDiff]
        rw [resVal_1 rfl]; simp (disch := first | assumption | omega | rfl | simp only [RH]) only [↓RP, RG, FX, RQ, ↓reduceIte, Nat.reduceEqDiff, reduceCtorEq, Nat.reduceBEq, Nat.reduceAdd, Nat.reduceLeDiff, RS]
end Go.Proofs.YtdbpkjanlafajaaGreatDoor
