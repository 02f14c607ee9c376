/- Part 2 of the proof's own texts: the contracts of functions, and what they rest on. -/
import Derived.Test.YtdbpkjanlafajaaGreatDoorJ1
/- The least set, of both. -/
set_option linter.unusedSimpArgs false
set_option linter.unusedVariables false
set_option maxRecDepth 100000
namespace Go.Proofs.YtdbpkjanlafajaaGreatDoor
open Go Go.Proofs Go.AW

theorem inner_keep {n c a : Nat} (hc : c < n) : ∀ (adj : List Nat) (far : List Int) (q : List Nat), (∀ b ∈ adj, b < n) → Sound n far q → 0 ≤ far.getD a 0 → 0 ≤ (inner c adj (far, q)).1.getD a 0
  | [], far, q, _, _, h => h
  | b :: r, far, q, ha, hs, h => by
    have ha' : ∀ x ∈ r, x < n := fun x hx => ha x (List.mem_cons_of_mem _ hx)
    simp only [inner]
    split
    · rename_i hneg
      obtain ⟨h1, h2⟩ := hs.push (ha b List.mem_cons_self) hc hneg
      refine inner_keep hc r _ _ ha' h1 ?_
      have hb : b < far.length := by rw [hs.len]; exact ha b List.mem_cons_self
      rw [getD_set' hb]
      have hab : a ≠ b := fun e => by subst e; omega
      rw [if_neg hab]; exact h
    · exact inner_keep hc r far q ha' hs h
theorem bfs_keep {n a : Nat} {adj : Nat → List Nat} (ha : ∀ c, c < n → ∀ b ∈ adj c, b < n) : ∀ (k : Nat) (far : List Int) (q : List Nat), Sound n far q → 0 ≤ far.getD a 0 → 0 ≤ (bfs adj k far q).getD a 0
  | 0, far, q, _, h => h
  | k + 1, far, [], _, h => h
  | k + 1, far, c :: q, hs, h =>
    have hc := hs.mem c List.mem_cons_self
    bfs_keep ha k _ _ (inner_ok hc (adj c) far q (ha c hc) hs.tail).1 (inner_keep hc (adj c) far q (ha c hc) hs.tail h)
theorem srch_self {W n : Nat} (l : List Bool) {a : Nat} (ha : a < n) : 0 ≤ (srch (adjT W n l) (far0 n a) [a]).getD a 0 := by
  refine bfs_keep (fun c hc x hx => adjT_lt hx) _ _ _ (far0_sound ha).1 ?_
  unfold far0
  rw [getD_set' (by simpa using ha), if_pos rfl]; omega
theorem upN_pos {far : List Int} {a : Nat} (h : 0 ≤ far.getD a 0) : ∀ k, a < k → 0 < (upN far k).length := by
  intro k
  induction k with
  | zero => intro h; omega
  | succ k ih =>
    intro hk
    simp only [upN]
    by_cases e : a = k
    · subst e; rw [if_pos h]; simp
    · have := ih (by omega)
      split
      · simp
      · exact this
theorem upon_pos {W n : Nat} (l : List Bool) {a : Nat} (ha : a < n) : 0 < (upon W n l a).length := upN_pos (srch_self l ha) n ha
theorem upon_le (W n : Nat) (l : List Bool) (a : Nat) : (upon W n l a).length ≤ n := upN_le _ _
theorem isEmpty_pos {l : List Int} (h : 0 < l.length) : l.isEmpty = false := by cases l with | nil => simp at h | cons x r => rfl

/-- The one is the less. -/
def less (x y : List Int) : Prop := x.length < y.length ∨ x.length = y.length ∧ x.getD 0 0 < y.getD 0 0
instance (x y : List Int) : Decidable (less x y) := by unfold less; infer_instance
/-- The least of the first k + 1. -/
def best (W n : Nat) (l : List Bool) : Nat → List Int
  | 0 => upon W n l 0
  | k + 1 => if less (upon W n l (k + 1)) (best W n l k) then upon W n l (k + 1) else best W n l k
theorem best_ok {W n : Nat} (l : List Bool) : ∀ k, k < n → 0 < (best W n l k).length ∧ (best W n l k).length ≤ n := by
  intro k
  induction k with
  | zero => intro h; exact ⟨upon_pos l h, upon_le _ _ _ _⟩
  | succ k ih =>
    intro h
    simp only [best]
    split
    · exact ⟨upon_pos l h, upon_le _ _ _ _⟩
    · exact ih (by omega)

end Go.Proofs.YtdbpkjanlafajaaGreatDoor

/- The least set, by the program; Apart and Hangs of both. -/
set_option linter.unusedSimpArgs false
set_option linter.unusedVariables false
set_option maxRecDepth 100000
namespace Go.Proofs.YtdbpkjanlafajaaGreatDoor
open Go Go.Proofs Go.AW

def bst (W n : Nat) (l : List Bool) : Nat → AVal
  | 0 => .cap0 true
  | k + 1 => LR false (best W n l k)
theorem argOf_LL (h : List AObj) (m : Nat) (rs : List (List Int)) : (LL rs).map (argOf h (m + 2)) = LLa rs := by
  simp only [LL, LLa, List.map_map]
  refine List.map_congr_left fun r _ => ?_
  show argOf h (m + 2) (LR r.isEmpty r) = LA r.isEmpty r
  simp only [LR, LA, RA]
theorem firstP_c {W n : Nat} (hn0 : 0 < n) (hn : n ≤ 64) (l : List Bool) (lz : List AVal) :
    Contract Tryz.prog 51 [.agg [.list false false n lz, .list false false n (LLa (abv W n l))]] (LR false (best W n l (n - 1))) := by
  have hre : ∀ (a : Nat), a < n → Contract Tryz.prog 73 [.list false false n (LLa (abv W n l)), I a] (LR false (srch (adjT W n l) (far0 n a) [a])) := fun a ha => reached_c hn l ha
  have hag : ∀ (h : List AObj) (m : Nat), (LLa (abv W n l)).map (argOf h (m + 2)) = LLa (abv W n l) := by
    intro h m
    simp only [LLa, List.map_map]
    refine List.map_congr_left fun r _ => ?_
    show argOf h (m + 2) (LA r.isEmpty r) = LA r.isEmpty r
    simp only [LA, RA]
  generalize LLa (abv W n l) = lb at *
  refine Contract.intro (effS [] false) 6 follows Tryz.func51 rfl rfl (by kernel_rfl) (Nat.le_of_ble_eq_true rfl) ?_
  simp (disch := first | assumption | omega | rfl | simp only [RH]) only [↓RP, RG, FX, RQ, ↓reduceIte, Nat.reduceEqDiff, reduceCtorEq, Nat.reduceBEq, Nat.reduceAdd, Nat.reduceLeDiff, args0_1]
  refine loopK_I [1, 3, 8, 9] (fun k : Nat => k ≤ n) (fun k : Nat => ⟨[(1, .ptr 0 0 2), (3, bst W n l k), (8, I n), (9, I k)], [⟨63, 2, [.list false false n lz, .list false false n lb]⟩]⟩) (fun k => n - k) 0 (by omega) (by simp only [↓RP, RG, FX, RQ, ↓reduceIte, Nat.reduceEqDiff, reduceCtorEq, Nat.reduceBEq, Nat.reduceAdd, Nat.reduceLeDiff]; rfl) ?_
  intro k hk
  by_cases hlt : k < n
  · have hfl := srch_len (W := W) l hlt
    have hR := hre k hlt
    have hup : upon W n l k = upN (srch (adjT W n l) (far0 n k) [k]) n := rfl
    have u1 := upon_pos (W := W) l hlt
    have u2 := upon_le W n l k
    have hwh := where_c false (srch (adjT W n l) (far0 n k) [k]) (by omega)
    rw [hfl, ← hup, isEmpty_pos u1] at hwh
    generalize srch (adjT W n l) (far0 n k) [k] = far at *
    cases k with
    | zero =>
      have hb : best W n l 0 = upon W n l 0 := rfl
      generalize upon W n l 0 = x at *
      simp (disch := first | assumption | omega | rfl | simp only [RH]) only [↓RP, RG, FX, RQ, ↓reduceIte, Nat.reduceEqDiff, reduceCtorEq, Nat.reduceBEq, Nat.reduceAdd, Nat.reduceLeDiff]
      refine callK_F 6 hR (by simp (disch := first | assumption | omega | rfl | simp only [RH]) only [↓RP, RG, FX, RQ, ↓reduceIte, Nat.reduceEqDiff, reduceCtorEq, Nat.reduceBEq, Nat.reduceAdd, Nat.reduceLeDiff, RA, hag] <;> rfl) (.inl (by simp [allFresh, ints_fresh])) ?_
      simp (disch := first | assumption | omega | rfl | simp only [RH]) only [↓RP, RG, FX, RQ, ↓reduceIte, Nat.reduceEqDiff, reduceCtorEq, Nat.reduceBEq, Nat.reduceAdd, Nat.reduceLeDiff]
      refine callK_F 6 hwh (by simp (disch := first | assumption | omega | rfl | simp only [RH]) only [↓RP, RG, FX, RQ, ↓reduceIte, Nat.reduceEqDiff, reduceCtorEq, Nat.reduceBEq, Nat.reduceAdd, Nat.reduceLeDiff, RA] <;> rfl) (.inl (by simp [allFresh, ints_fresh])) ?_
      simp (disch := first | assumption | omega | rfl | simp only [RH]) only [↓RP, RG, FX, RQ, ↓reduceIte, Nat.reduceEqDiff, reduceCtorEq, Nat.reduceBEq, Nat.reduceAdd, Nat.reduceLeDiff, bst]
      exact ⟨1, by omega, by rw [← hb]; rfl, by omega⟩
    | succ k =>
      obtain ⟨b1, b2⟩ := best_ok (W := W) (n := n) l k (by omega)
      have hbs : best W n l (k + 1) = if less (upon W n l (k + 1)) (best W n l k) then upon W n l (k + 1) else best W n l k := rfl
      have hb1 : bst W n l (k + 1) = LR false (best W n l k) := rfl
      have hb2 : bst W n l (k + 1 + 1) = LR false (best W n l (k + 1)) := rfl
      generalize upon W n l (k + 1) = x at *
      generalize best W n l k = y at *
      rw [hb1]
      simp (disch := first | assumption | omega | rfl | simp only [RH]) only [↓RP, RG, FX, RQ, ↓reduceIte, Nat.reduceEqDiff, reduceCtorEq, Nat.reduceBEq, Nat.reduceAdd, Nat.reduceLeDiff]
      refine callK_F 6 hR (by simp (disch := first | assumption | omega | rfl | simp only [RH]) only [↓RP, RG, FX, RQ, ↓reduceIte, Nat.reduceEqDiff, reduceCtorEq, Nat.reduceBEq, Nat.reduceAdd, Nat.reduceLeDiff, RA, hag] <;> rfl) (.inl (by simp [allFresh, ints_fresh])) ?_
      simp (disch := first | assumption | omega | rfl | simp only [RH]) only [↓RP, RG, FX, RQ, ↓reduceIte, Nat.reduceEqDiff, reduceCtorEq, Nat.reduceBEq, Nat.reduceAdd, Nat.reduceLeDiff]
      refine callK_F 6 hwh (by simp (disch := first | assumption | omega | rfl | simp only [RH]) only [↓RP, RG, FX, RQ, ↓reduceIte, Nat.reduceEqDiff, reduceCtorEq, Nat.reduceBEq, Nat.reduceAdd, Nat.reduceLeDiff, RA] <;> rfl) (.inl (by simp [allFresh, ints_fresh])) ?_
      by_cases c1 : x.length < y.length
      · have hl : less x y := .inl c1
        rw [if_pos hl] at hbs
        simp (disch := first | assumption | omega | rfl | simp only [RH]) only [↓RP, RG, FX, RQ, ↓reduceIte, Nat.reduceEqDiff, reduceCtorEq, Nat.reduceBEq, Nat.reduceAdd, Nat.reduceLeDiff]
        exact ⟨k + 1 + 1, hlt, by rw [hb2, hbs]; rfl, by omega⟩
      · by_cases c2 : x.length = y.length
        · by_cases c3 : x.getD 0 0 < y.getD 0 0
          · have hl : less x y := .inr ⟨c2, c3⟩
            rw [if_pos hl] at hbs
            simp (disch := first | assumption | omega | rfl | simp only [RH]) only [↓RP, RG, FX, RQ, ↓reduceIte, Nat.reduceEqDiff, reduceCtorEq, Nat.reduceBEq, Nat.reduceAdd, Nat.reduceLeDiff, Int.toNat_zero]
            exact ⟨k + 1 + 1, hlt, by rw [hb2, hbs]; rfl, by omega⟩
          · have hl : ¬ less x y := fun h => h.elim c1 fun h => c3 h.2
            rw [if_neg hl] at hbs
            simp (disch := first | assumption | omega | rfl | simp only [RH]) only [↓RP, RG, FX, RQ, ↓reduceIte, Nat.reduceEqDiff, reduceCtorEq, Nat.reduceBEq, Nat.reduceAdd, Nat.reduceLeDiff, Int.toNat_zero]
            exact ⟨k + 1 + 1, hlt, by rw [hb2, hbs]; rfl, by omega⟩
        · have hl : ¬ less x y := fun h => h.elim c1 fun h => c2 h.1
          rw [if_neg hl] at hbs
          simp (disch := first | assumption | omega | rfl | simp only [RH]) only [↓RP, RG, FX, RQ, ↓reduceIte, Nat.reduceEqDiff, reduceCtorEq, Nat.reduceBEq, Nat.reduceAdd, Nat.reduceLeDiff]
          exact ⟨k + 1 + 1, hlt, by rw [hb2, hbs]; rfl, by omega⟩
  · obtain rfl : k = n := by omega
    obtain ⟨m, rfl⟩ : ∃ m, k = m + 1 := ⟨k - 1, by omega⟩
    have hb1 : bst W (m + 1) l (m + 1) = LR false (best W (m + 1) l m) := rfl
    rw [hb1, show m + 1 - 1 = m from rfl]
    simp (disch := first | assumption | omega | rfl | simp only [RH]) only [↓RP, RG, FX, RQ, ↓reduceIte, Nat.reduceEqDiff, reduceCtorEq, Nat.reduceBEq, Nat.reduceAdd, Nat.reduceLeDiff]
    rw [resVal_1 rfl]; simp (disch := first | assumption | omega | rfl | simp only [RH]) only [↓RP, RG, FX, RQ, ↓reduceIte, Nat.reduceEqDiff, reduceCtorEq, Nat.reduceBEq, Nat.reduceAdd, Nat.reduceLeDiff, RS]
end Go.Proofs.YtdbpkjanlafajaaGreatDoor

/- Apart and Hangs, of both. -/
set_option linter.unusedSimpArgs false
set_option linter.unusedVariables false
set_option maxRecDepth 100000
namespace Go.Proofs.YtdbpkjanlafajaaGreatDoor
open Go Go.Proofs Go.AW

/-- The part that comes apart; none: it hangs together. -/
def apt (W n : Nat) (l : List Bool) : List Int := if (best W n l (n - 1)).length = n then [] else best W n l (n - 1)
theorem apartP_c {W H n : Nat} (hN : W + H = n) (hW0 : 0 < W) (hH0 : 0 < H) (hn40 : n ≤ 64) (b : Bool) {l : List Bool} (hn : l.length = W * H) :
    Contract Tryz.prog 29 [GA W H b l] (.tuple [LR (apt W n l).isEmpty (apt W n l), I 0]) := by
  have hz : gchk W H l.length = 0 := gchk_ok ⟨by omega, by omega, by omega, by omega, by rw [hn, Int.natCast_mul]⟩
  have hNc : (W : Int) + (H : Int) = (n : Int) := by omega
  have hO := order_c hN hW0 hH0 (by omega) (by omega) b hn
  have hF := fun lz => firstP_c (W := W) (n := n) (by omega) hn40 l lz
  obtain ⟨b1, b2⟩ := best_ok (W := W) (n := n) l (n - 1) (by omega)
  have hag : ∀ (h : List AObj) (m : Nat), (LL (abv W n l)).map (argOf h (m + 2)) = LLa (abv W n l) := fun h m => argOf_LL h m _
  have hag2 : ∀ (h : List AObj) (m : Nat), (LL (bel W n l)).map (argOf h (m + 2)) = LLa (bel W n l) := fun h m => argOf_LL h m _
  have hap : apt W n l = if (best W n l (n - 1)).length = n then [] else best W n l (n - 1) := rfl
  generalize LLa (abv W n l) = lb at *
  generalize LLa (bel W n l) = lc at *
  generalize LL (abv W n l) = la at *
  generalize LL (bel W n l) = ld at *
  generalize best W n l (n - 1) = x at *
  generalize apt W n l = y at *
  refine Contract.intro (effS [] false) 6 follows Tryz.func29 rfl rfl (by kernel_rfl) (Nat.le_of_ble_eq_true rfl) ?_
  simp (disch := first | assumption | omega | rfl | simp only [RH]) only [↓RP, RG, FX, RQ, ↓reduceIte, Nat.reduceEqDiff, reduceCtorEq, Nat.reduceBEq, Nat.reduceAdd, Nat.reduceLeDiff, args0_1]
  refine callK_F 6 (gcheckP_c W H b l) (by simp (disch := first | assumption | omega | rfl | simp only [RH]) only [↓RP, RG, FX, RQ, ↓reduceIte, Nat.reduceEqDiff, reduceCtorEq, Nat.reduceBEq, Nat.reduceAdd, Nat.reduceLeDiff, RA] <;> rfl) (.inl (by simp [allFresh, ints_fresh, bools_fresh])) ?_
  simp (disch := first | assumption | omega | rfl | simp only [RH]) only [↓RP, RG, FX, RQ, ↓reduceIte, Nat.reduceEqDiff, reduceCtorEq, Nat.reduceBEq, Nat.reduceAdd, Nat.reduceLeDiff, hz]
  refine callK_F 6 hO (by simp (disch := first | assumption | omega | rfl | simp only [RH]) only [↓RP, RG, FX, RQ, ↓reduceIte, Nat.reduceEqDiff, reduceCtorEq, Nat.reduceBEq, Nat.reduceAdd, Nat.reduceLeDiff, RA] <;> rfl) (.inr (by simp [noRef, bools_noRef])) ?_
  simp (disch := first | assumption | omega | rfl | simp only [RH]) only [↓RP, RG, FX, RQ, ↓reduceIte, Nat.reduceEqDiff, reduceCtorEq, Nat.reduceBEq, Nat.reduceAdd, Nat.reduceLeDiff]
  refine callK_F 6 (hF lc) (by simp (disch := first | assumption | omega | rfl | simp only [RH]) only [↓RP, RG, FX, RQ, ↓reduceIte, Nat.reduceEqDiff, reduceCtorEq, Nat.reduceBEq, Nat.reduceAdd, Nat.reduceLeDiff, RA, hag, hag2] <;> rfl) (.inl (by simp [allFresh, ints_fresh])) ?_
  by_cases c : x.length = n
  · rw [if_pos c] at hap
    subst hap
    simp (disch := first | assumption | omega | rfl | simp only [RH]) only [↓RP, RG, FX, RQ, ↓reduceIte, Nat.reduceEqDiff, reduceCtorEq, Nat.reduceBEq, Nat.reduceAdd, Nat.reduceLeDiff, hNc]
    rw [resVal_2 rfl]; simp (disch := first | assumption | omega | rfl | simp only [RH]) only [↓RP, RG, FX, RQ, ↓reduceIte, Nat.reduceEqDiff, reduceCtorEq, Nat.reduceBEq, Nat.reduceAdd, Nat.reduceLeDiff, RS]
    first | done | rfl
  · rw [if_neg c] at hap
    subst hap
    simp (disch := first | assumption | omega | rfl | simp only [RH]) only [↓RP, RG, FX, RQ, ↓reduceIte, Nat.reduceEqDiff, reduceCtorEq, Nat.reduceBEq, Nat.reduceAdd, Nat.reduceLeDiff, hNc]
    rw [resVal_2 rfl]; simp (disch := first | assumption | omega | rfl | simp only [RH]) only [↓RP, RG, FX, RQ, ↓reduceIte, Nat.reduceEqDiff, reduceCtorEq, Nat.reduceBEq, Nat.reduceAdd, Nat.reduceLeDiff, RS]
    first | done | (rw [isEmpty_pos b1]; rfl) | rw [isEmpty_pos b1]
theorem hangsP_c {W H n : Nat} (hN : W + H = n) (hW0 : 0 < W) (hH0 : 0 < H) (hn40 : n ≤ 64) (b : Bool) {l : List Bool} (hn : l.length = W * H) :
    Contract Tryz.prog 8 [GA W H b l] (.tuple [B (decide ((best W n l (n - 1)).length = n)), I 0]) := by
  have hF := apartP_c hN hW0 hH0 hn40 b hn
  obtain ⟨b1, b2⟩ := best_ok (W := W) (n := n) l (n - 1) (by omega)
  have hap : apt W n l = if (best W n l (n - 1)).length = n then [] else best W n l (n - 1) := rfl
  generalize best W n l (n - 1) = x at *
  generalize apt W n l = y at *
  refine Contract.intro (effS [] false) 6 follows Tryz.func8 rfl rfl (by kernel_rfl) (Nat.le_of_ble_eq_true rfl) ?_
  simp (disch := first | assumption | omega | rfl | simp only [RH]) only [↓RP, RG, FX, RQ, ↓reduceIte, Nat.reduceEqDiff, reduceCtorEq, Nat.reduceBEq, Nat.reduceAdd, Nat.reduceLeDiff, args0_1]
  refine callK_F 6 hF (by simp (disch := first | assumption | omega | rfl | simp only [RH]) only [↓RP, RG, FX, RQ, ↓reduceIte, Nat.reduceEqDiff, reduceCtorEq, Nat.reduceBEq, Nat.reduceAdd, Nat.reduceLeDiff, RA] <;> rfl) (.inl (by simp [allFresh, ints_fresh])) ?_
  by_cases c : x.length = n
  · rw [if_pos c] at hap
    have hy : y.length = 0 := by rw [hap]; rfl
    simp (disch := first | assumption | omega | rfl | simp only [RH]) only [↓RP, RG, FX, RQ, ↓reduceIte, Nat.reduceEqDiff, reduceCtorEq, Nat.reduceBEq, Nat.reduceAdd, Nat.reduceLeDiff]
    rw [resVal_2 rfl]; simp (disch := first | assumption | omega | rfl | simp only [RH]) only [↓RP, RG, FX, RQ, ↓reduceIte, Nat.reduceEqDiff, reduceCtorEq, Nat.reduceBEq, Nat.reduceAdd, Nat.reduceLeDiff, RS]
    first | done | simp [c]
  · rw [if_neg c] at hap
    have hy : 0 < y.length := by rw [hap]; exact b1
    simp (disch := first | assumption | omega | rfl | simp only [RH]) only [↓RP, RG, FX, RQ, ↓reduceIte, Nat.reduceEqDiff, reduceCtorEq, Nat.reduceBEq, Nat.reduceAdd, Nat.reduceLeDiff]
    rw [resVal_2 rfl]; simp (disch := first | assumption | omega | rfl | simp only [RH]) only [↓RP, RG, FX, RQ, ↓reduceIte, Nat.reduceEqDiff, reduceCtorEq, Nat.reduceBEq, Nat.reduceAdd, Nat.reduceLeDiff, RS]
    first | done | simp [c]
end Go.Proofs.YtdbpkjanlafajaaGreatDoor

/- A set of threads: is it one, and which are in it. -/
set_option linter.unusedSimpArgs false
set_option linter.unusedVariables false
set_option maxRecDepth 100000
namespace Go.Proofs.YtdbpkjanlafajaaGreatDoor
open Go Go.Proofs Go.AW

/-- The first k are threads, and each is more than the one ahead of it. -/
def okS (n : Nat) (s : List Int) (k : Nat) : Prop := ∀ i, i < k → (0 ≤ s.getD i 0 ∧ s.getD i 0 < n) ∧ (0 < i → s.getD (i - 1) 0 < s.getD i 0)
end Go.Proofs.YtdbpkjanlafajaaGreatDoor

/- Off, of both. -/
set_option linter.unusedSimpArgs false
set_option linter.unusedVariables false
set_option maxRecDepth 100000
namespace Go.Proofs.YtdbpkjanlafajaaGreatDoor
open Go Go.Proofs Go.AW

end Go.Proofs.YtdbpkjanlafajaaGreatDoor

/- Off, by the program. -/
set_option linter.unusedSimpArgs false
set_option linter.unusedVariables false
set_option maxRecDepth 100000
namespace Go.Proofs.YtdbpkjanlafajaaGreatDoor
open Go Go.Proofs Go.AW

end Go.Proofs.YtdbpkjanlafajaaGreatDoor

/- The law HangAsks. -/
set_option linter.unusedSimpArgs false
set_option linter.unusedVariables false
set_option maxRecDepth 100000
namespace Go.Proofs.YtdbpkjanlafajaaGreatDoor
open Go Go.Proofs Go.AW

end Go.Proofs.YtdbpkjanlafajaaGreatDoor

/- What the search says: each thread that is reached has a next one that is nearer. -/
set_option linter.unusedSimpArgs false
set_option linter.unusedVariables false
set_option maxRecDepth 100000
namespace Go.Proofs.YtdbpkjanlafajaaGreatDoor
open Go Go.Proofs Go.AW

/-- What holds all along, of the ways. -/
structure Near (n a : Nat) (adj : Nat → List Nat) (far : List Int) (q : List Nat) : Prop where
  q0 : ∀ c ∈ q, 0 ≤ far.getD c 0
  one : ∀ x, x < n → far.getD x 0 = 0 → x = a
  zero : far.getD a 0 = 0
  next : ∀ x, x < n → 0 < far.getD x 0 → ∃ c, c < n ∧ far.getD c 0 = far.getD x 0 - 1 ∧ x ∈ adj c
theorem Near.push {n a : Nat} {adj : Nat → List Nat} {far : List Int} {q : List Nat} (h : Near n a adj far q) (hs : far.length = n) {b c : Nat} (hb : b < n) (hc : c < n) (hc0 : 0 ≤ far.getD c 0) (hn : far.getD b 0 < 0) (hadj : b ∈ adj c) : Near n a adj (far.set b (far.getD c 0 + 1)) (q ++ [b]) := by
  have hbl : b < far.length := by omega
  refine ⟨fun x hx => ?_, fun x hx h0 => ?_, ?_, fun x hx h0 => ?_⟩
  · rw [getD_set' hbl]
    split
    · omega
    · rcases List.mem_append.1 hx with g | g
      · exact h.q0 x g
      · rename_i hne
        exact absurd (by simpa using g) hne
  · rw [getD_set' hbl] at h0
    split at h0
    · omega
    · exact h.one x hx h0
  · rw [getD_set' hbl]
    have := h.zero
    rw [if_neg (fun e => by subst e; omega)]
    exact this
  · rw [getD_set' hbl] at h0 ⊢
    by_cases e : x = b
    · subst e
      rw [if_pos rfl] at h0 ⊢
      refine ⟨c, hc, ?_, hadj⟩
      rw [getD_set' hbl, if_neg (fun e => by subst e; omega)]
      omega
    · rw [if_neg e] at h0 ⊢
      obtain ⟨d, h1, h2, h3⟩ := h.next x hx h0
      refine ⟨d, h1, ?_, h3⟩
      rw [getD_set' hbl, if_neg (fun e => by subst e; omega)]
      exact h2
theorem inner_near {n a : Nat} {adj : Nat → List Nat} {c : Nat} (hc : c < n) : ∀ (ds : List Nat) (far : List Int) (q : List Nat), (∀ b ∈ ds, b < n ∧ b ∈ adj c) → Sound n far q → 0 ≤ far.getD c 0 → Near n a adj far q → Near n a adj (inner c ds (far, q)).1 (inner c ds (far, q)).2
  | [], far, q, _, _, _, h => h
  | b :: r, far, q, hd, hs, hc0, h => by
    have hd' : ∀ x ∈ r, x < n ∧ x ∈ adj c := fun x hx => hd x (List.mem_cons_of_mem _ hx)
    obtain ⟨hb, hbc⟩ := hd b List.mem_cons_self
    simp only [inner]
    split
    · rename_i hneg
      obtain ⟨h1, h2⟩ := hs.push hb hc hneg
      refine inner_near hc r _ _ hd' h1 ?_ (h.push hs.len hb hc hc0 hneg hbc)
      rw [getD_set' (by rw [hs.len]; exact hb), if_neg (fun e => by subst e; omega)]
      exact hc0
    · exact inner_near hc r far q hd' hs hc0 h
theorem bfs_near {n a : Nat} {adj : Nat → List Nat} (ha : ∀ c, c < n → ∀ b ∈ adj c, b < n) : ∀ (k : Nat) (far : List Int) (q : List Nat), Sound n far q → Near n a adj far q → ∃ q', Near n a adj (bfs adj k far q) q'
  | 0, far, q, _, h => ⟨q, h⟩
  | k + 1, far, [], _, h => ⟨[], h⟩
  | k + 1, far, c :: q, hs, h =>
    have hc := hs.mem c List.mem_cons_self
    bfs_near ha k _ _ (inner_ok hc (adj c) far q (ha c hc) hs.tail).1
      (inner_near hc (adj c) far q (fun b hb => ⟨ha c hc b hb, hb⟩) hs.tail (h.q0 c List.mem_cons_self) ⟨fun x hx => h.q0 x (List.mem_cons_of_mem _ hx), h.one, h.zero, h.next⟩)
theorem srch_near {W n : Nat} (l : List Bool) {a : Nat} (ha : a < n) : ∃ q, Near n a (adjT W n l) (srch (adjT W n l) (far0 n a) [a]) q := by
  refine bfs_near (fun c hc x hx => adjT_lt hx) _ _ _ (far0_sound ha).1 ?_
  have hl : a < (List.replicate n (-1 : Int)).length := by simpa using ha
  have hrep : ∀ x, x < n → (List.replicate n (-1 : Int)).getD x 0 = -1 := fun x hx => by simp [List.getD_eq_getElem?_getD, List.getElem?_replicate, hx]
  unfold far0
  refine ⟨fun x hx => ?_, fun x hx h0 => ?_, ?_, fun x hx h0 => ?_⟩
  · rw [getD_set' hl, if_pos (by simpa using hx)]; omega
  · rw [getD_set' hl] at h0
    by_cases e : x = a
    · exact e
    · rw [if_neg e, hrep x hx] at h0; omega
  · rw [getD_set' hl, if_pos rfl]
  · rw [getD_set' hl] at h0
    by_cases e : x = a
    · rw [if_pos e] at h0; omega
    · rw [if_neg e, hrep x hx] at h0; omega
end Go.Proofs.YtdbpkjanlafajaaGreatDoor

/- The way, by the reference. -/
set_option linter.unusedSimpArgs false
set_option linter.unusedVariables false
set_option maxRecDepth 100000
namespace Go.Proofs.YtdbpkjanlafajaaGreatDoor
open Go Go.Proofs Go.AW

/-- What the distances to a are. -/
structure Dist (W n : Nat) (l : List Bool) (a : Nat) (far : List Int) : Prop where
  len : far.length = n
  low : ∀ i, i < n → -1 ≤ far.getD i 0
  high : ∀ i, i < n → far.getD i 0 ≤ n
  one : ∀ x, x < n → far.getD x 0 = 0 → x = a
  zero : far.getD a 0 = 0
  next : ∀ x, x < n → 0 < far.getD x 0 → ∃ c, c < n ∧ far.getD c 0 = far.getD x 0 - 1 ∧ ov W l x c = true
end Go.Proofs.YtdbpkjanlafajaaGreatDoor

/- A cloth that hangs together: every way is there. The walk, plain. -/
set_option linter.unusedSimpArgs false
set_option linter.unusedVariables false
set_option maxRecDepth 100000
namespace Go.Proofs.YtdbpkjanlafajaaGreatDoor
open Go Go.Proofs Go.AW

theorem upN_all {far : List Int} : ∀ {n : Nat}, (upN far n).length = n → ∀ i, i < n → 0 ≤ far.getD i 0 := by
  intro n
  induction n with
  | zero => intro _ i hi; omega
  | succ n ih =>
    intro h i hi
    have hle := upN_le far n
    simp only [upN] at h
    split at h
    · rename_i h0
      simp only [List.length_append, List.length_singleton] at h
      by_cases e : i = n
      · subst e; exact h0
      · exact ih (by omega) i (by omega)
    · omega
theorem best_least (W n : Nat) (l : List Bool) : ∀ k j, j ≤ k → (best W n l k).length ≤ (upon W n l j).length := by
  intro k
  induction k with
  | zero => intro j hj; obtain rfl : j = 0 := by omega
            exact Nat.le_refl _
  | succ k ih =>
    intro j hj
    simp only [best]
    by_cases e : j = k + 1
    · subst e
      split
      · exact Nat.le_refl _
      · rename_i h
        unfold less at h
        have := Classical.byContradiction fun hh => h (.inl (Nat.lt_of_not_le hh))
        exact this
    · have := ih j (by omega)
      split
      · rename_i h
        unfold less at h
        rcases h with h | h <;> omega
      · exact this
/-- Where the cloth hangs together, each thread is reached from each. -/
theorem all_near {W n : Nat} (l : List Bool) (hb : (best W n l (n - 1)).length = n) {a x : Nat} (ha : a < n) (hx : x < n) : 0 ≤ (srch (adjT W n l) (far0 n a) [a]).getD x 0 := by
  have h1 := best_least W n l (n - 1) a (by omega)
  have h2 := upon_le W n l a
  exact upN_all (show (upN (srch (adjT W n l) (far0 n a) [a]) n).length = n by show (upon W n l a).length = n; omega) x hx
theorem nI_inc {xs : List Nat} (h : xs.Pairwise (· < ·)) : (nI xs).Pairwise (· < ·) := by
  unfold nI
  rw [List.pairwise_map]
  exact h.imp fun h => by omega
end Go.Proofs.YtdbpkjanlafajaaGreatDoor

/- What hanging together is: no closed set but all. Plain. -/
set_option linter.unusedSimpArgs false
set_option linter.unusedVariables false
set_option maxRecDepth 100000
namespace Go.Proofs.YtdbpkjanlafajaaGreatDoor
open Go Go.Proofs Go.AW

/-- With a thread, all that lie over it. -/
def Cl (W n : Nat) (l : List Bool) (M : Nat → Prop) : Prop := ∀ c, c < n → M c → ∀ a, a < n → ov W l a c = true → M a
theorem mem_adjT {W n : Nat} {l : List Bool} {c a : Nat} : a ∈ adjT W n l c ↔ a < n ∧ ov W l a c = true := by
  simp only [adjT, List.mem_filter, List.mem_range]
/-- What is reached from a is in each closed set that a is in. -/
theorem reach_in {W n : Nat} {l : List Bool} {a : Nat} (ha : a < n) {M : Nat → Prop} (hM : Cl W n l M) (h0 : M a) : ∀ (d x : Nat), x < n → (srch (adjT W n l) (far0 n a) [a]).getD x 0 = d → M x := by
  obtain ⟨q, hN⟩ := srch_near (W := W) l ha
  intro d
  induction d with
  | zero => intro x hx h; rw [hN.one x hx h]; exact h0
  | succ d ih =>
    intro x hx h
    obtain ⟨c, c1, c2, c3⟩ := hN.next x hx (by omega)
    exact hM c c1 (ih c c1 (by omega)) x hx (mem_adjT.1 c3).2
theorem inner_done {n c : Nat} (hc : c < n) : ∀ (ds : List Nat) (far : List Int) (q : List Nat), (∀ b ∈ ds, b < n) → Sound n far q → 0 ≤ far.getD c 0 →
    (∀ x, 0 ≤ far.getD x 0 → 0 ≤ (inner c ds (far, q)).1.getD x 0) ∧ (∀ b ∈ ds, 0 ≤ (inner c ds (far, q)).1.getD b 0) ∧ (∀ x, x < n → 0 ≤ (inner c ds (far, q)).1.getD x 0 → 0 ≤ far.getD x 0 ∨ x ∈ (inner c ds (far, q)).2) ∧ ∀ x ∈ q, x ∈ (inner c ds (far, q)).2
  | [], far, q, _, _, _ => ⟨fun x h => h, fun b hb => absurd hb (by simp), fun x hx h => Or.inl h, fun x h => h⟩
  | b :: r, far, q, hd, hs, hc0 => by
    have hd' : ∀ x ∈ r, x < n := fun x hx => hd x (List.mem_cons_of_mem _ hx)
    have hb := hd b List.mem_cons_self
    have hbl : b < far.length := by rw [hs.len]; exact hb
    simp only [inner]
    split
    · rename_i hneg
      obtain ⟨h1, h2⟩ := hs.push hb hc hneg
      have hc1 : 0 ≤ (far.set b (far.getD c 0 + 1)).getD c 0 := by
        rw [getD_set' hbl]; split <;> omega
      obtain ⟨i1, i2, i3, i4⟩ := inner_done hc r _ _ hd' h1 hc1
      refine ⟨fun x hx => i1 x ?_, fun x hx => ?_, fun x hx h => ?_, fun x hx => i4 x (List.mem_append_left _ hx)⟩
      · rw [getD_set' hbl]; split <;> omega
      · rcases List.mem_cons.1 hx with e | e
        · subst e
          refine i1 x ?_
          rw [getD_set' hbl, if_pos rfl]; omega
        · exact i2 x e
      · rcases i3 x hx h with g | g
        · rw [getD_set' hbl] at g
          by_cases e : x = b
          · exact .inr (i4 x (by simp [e]))
          · rw [if_neg e] at g; exact .inl g
        · exact .inr g
    · rename_i hneg
      obtain ⟨i1, i2, i3, i4⟩ := inner_done hc r far q hd' hs hc0
      refine ⟨i1, fun x hx => ?_, i3, i4⟩
      rcases List.mem_cons.1 hx with e | e
      · subst e; exact i1 x (by omega)
      · exact i2 x e
/-- Each one that is reached is in the queue, or all next to it are reached. -/
def Done (n : Nat) (adj : Nat → List Nat) (far : List Int) (q : List Nat) : Prop := (∀ c ∈ q, 0 ≤ far.getD c 0) ∧ ∀ c, c < n → 0 ≤ far.getD c 0 → c ∈ q ∨ ∀ b ∈ adj c, 0 ≤ far.getD b 0
theorem bfs_done {n : Nat} {adj : Nat → List Nat} (ha : ∀ c, c < n → ∀ b ∈ adj c, b < n) : ∀ (k : Nat) (far : List Int) (q : List Nat), Sound n far q → Done n adj far q → 2 * neg far + q.length ≤ k → Done n adj (bfs adj k far q) []
  | 0, far, q, _, h, hk => by
    have : q = [] := List.eq_nil_of_length_eq_zero (by omega)
    subst this; exact h
  | k + 1, far, [], _, h, _ => h
  | k + 1, far, c :: q, hs, h, hk => by
    have hc := hs.mem c List.mem_cons_self
    have hc0 := h.1 c List.mem_cons_self
    obtain ⟨h1, h2⟩ := inner_ok hc (adj c) far q (ha c hc) hs.tail
    obtain ⟨i1, i2, i3, i4⟩ := inner_done hc (adj c) far q (ha c hc) hs.tail hc0
    simp only [List.length_cons] at hk
    refine bfs_done ha k _ _ h1 ⟨fun x hx => ?_, fun x hx hx0 => ?_⟩ (by omega)
    · refine Classical.byContradiction fun hneg => ?_
      have hN : ∀ (ds : List Nat) (far : List Int) (q : List Nat), (∀ b ∈ ds, b < n) → Sound n far q → 0 ≤ far.getD c 0 → (∀ y ∈ q, 0 ≤ far.getD y 0) → ∀ y ∈ (inner c ds (far, q)).2, 0 ≤ (inner c ds (far, q)).1.getD y 0 := by
        intro ds
        induction ds with
        | nil => intro far q _ _ _ hq; exact hq
        | cons b r ih =>
          intro far q hd hs hc0 hq
          have hb := hd b List.mem_cons_self
          have hbl : b < far.length := by rw [hs.len]; exact hb
          simp only [inner]
          split
          · rename_i hneg
            refine ih _ _ (fun x hx => hd x (List.mem_cons_of_mem _ hx)) (hs.push hb hc hneg).1 ?_ (fun y hy => ?_)
            · rw [getD_set' hbl]; split <;> omega
            · rw [getD_set' hbl]
              split
              · omega
              · rename_i hne
                rcases List.mem_append.1 hy with g | g
                · exact hq y g
                · exact absurd (by simpa using g) hne
          · exact ih _ _ (fun x hx => hd x (List.mem_cons_of_mem _ hx)) hs hc0 hq
      exact hneg (hN (adj c) far q (ha c hc) hs.tail hc0 (fun y hy => h.1 y (List.mem_cons_of_mem _ hy)) x hx)
    · rcases i3 x hx hx0 with g | g
      · rcases h.2 x hx g with e | e
        · rcases List.mem_cons.1 e with e | e
          · subst e; exact .inr i2
          · exact .inl (i4 x e)
        · exact .inr fun b hb => i1 b (e b hb)
      · exact .inl g
/-- What is reached from a. -/
def Rch (W n : Nat) (l : List Bool) (a x : Nat) : Prop := 0 ≤ (srch (adjT W n l) (far0 n a) [a]).getD x 0
instance (W n : Nat) (l : List Bool) (a x : Nat) : Decidable (Rch W n l a x) := by unfold Rch; infer_instance
theorem rch_cl {W n : Nat} (l : List Bool) {a : Nat} (ha : a < n) : Cl W n l (Rch W n l a) := by
  have h : Done n (adjT W n l) (srch (adjT W n l) (far0 n a) [a]) [] := by
    refine bfs_done (fun c hc x hx => adjT_lt hx) _ _ _ (far0_sound ha).1 ⟨fun c hc => ?_, fun c hc hc0 => ?_⟩ (Nat.le_refl _)
    · obtain rfl : c = a := by simpa using hc
      unfold far0
      rw [getD_set' (by simpa using ha), if_pos rfl]; omega
    · by_cases e : c = a
      · exact .inl (by simp [e])
      · unfold far0 at hc0
        rw [getD_set' (by simpa using ha), if_neg e] at hc0
        simp [List.getD_eq_getElem?_getD, List.getElem?_replicate, hc] at hc0
  intro c hc hR x hx hov
  rcases h.2 c hc hR with g | g
  · cases g
  · exact g x (mem_adjT.2 ⟨hx, hov⟩)
theorem rch_self {W n : Nat} (l : List Bool) {a : Nat} (ha : a < n) : Rch W n l a a := srch_self l ha
theorem rch_in {W n : Nat} {l : List Bool} {a x : Nat} (ha : a < n) (hx : x < n) {M : Nat → Prop} (hM : Cl W n l M) (h0 : M a) (h : Rch W n l a x) : M x :=
  reach_in ha hM h0 ((srch (adjT W n l) (far0 n a) [a]).getD x 0).toNat x hx (by unfold Rch at h; omega)
/-- The numbers below k that are wanted: upN, upon. -/
theorem upN_eq (far : List Int) (k : Nat) : upN far k = nI ((List.range k).filter fun i => decide (0 ≤ far.getD i 0)) := by
  induction k with
  | zero => rfl
  | succ k ih =>
    simp only [upN]
    rw [List.range_succ, List.filter_append, ih]
    split
    · rename_i h
      rw [List.filter_cons_of_pos (by simpa using h), List.filter_nil, nI_app]
    · rename_i h
      rw [List.filter_cons_of_neg (by simpa using h), List.filter_nil, List.append_nil]
theorem upon_eq (W n : Nat) (l : List Bool) (a : Nat) : upon W n l a = nI ((List.range n).filter fun i => decide (Rch W n l a i)) := upN_eq _ _
theorem best_upon (W n : Nat) (l : List Bool) : ∀ k, ∃ j, j ≤ k ∧ best W n l k = upon W n l j := by
  intro k
  induction k with
  | zero => exact ⟨0, Nat.le_refl _, rfl⟩
  | succ k ih =>
    simp only [best]
    split
    · exact ⟨k + 1, Nat.le_refl _, rfl⟩
    · obtain ⟨j, h1, h2⟩ := ih; exact ⟨j, by omega, h2⟩
/-- The cloth hangs together. -/
def Hg (W n : Nat) (l : List Bool) : Prop := ∀ M : Nat → Prop, Cl W n l M → (∃ c, c < n ∧ M c) → ∀ x, x < n → M x
theorem hg_best {W n : Nat} {l : List Bool} (hn : 0 < n) : (best W n l (n - 1)).length = n ↔ Hg W n l := by
  constructor
  · rintro hb M hM ⟨c, hc, h0⟩ x hx
    exact rch_in hc hx hM h0 (all_near l hb hc hx)
  · intro h
    obtain ⟨j, h1, h2⟩ := best_upon W n l (n - 1)
    have hall : ∀ x, x < n → Rch W n l j x := h _ (rch_cl l (by omega)) ⟨j, by omega, rch_self l (by omega)⟩
    rw [h2, upon_eq, List.filter_eq_self.2 (fun x hx => decide_eq_true (hall x (List.mem_range.1 hx))), nI_len, List.length_range]
end Go.Proofs.YtdbpkjanlafajaaGreatDoor

/- Chapter 11: the parts of a cloth, by the program. -/
set_option linter.unusedSimpArgs false
set_option linter.unusedVariables false
set_option maxRecDepth 100000
namespace Go.Proofs.YtdbpkjanlafajaaGreatDoor
open Go Go.Proofs Go.AW

/-- Thread a is held by thread b. -/
def hdB (W n : Nat) (l : List Bool) (a b : Nat) : Bool := decide (0 ≤ (srch (adjT W n l) (far0 n a) [a]).getD b 0)
theorem adjT_in {W n : Nat} {l : List Bool} : ∀ x y, x < n → y ∈ adjT W n l x → y < n := fun _ _ _ h => adjT_lt h
theorem adjT_le (W n : Nat) (l : List Bool) (a : Nat) : (adjT W n l a).length ≤ n := by
  unfold adjT; exact Nat.le_trans (List.length_filter_le _ _) (by simp)
theorem hdB_iff {W n : Nat} {l : List Bool} {a b : Nat} (ha : a < n) (hb : b < n) : hdB W n l a b = true ↔ Wy (adjT W n l) a b := by
  unfold hdB
  rw [decide_eq_true_eq]
  constructor
  · intro h
    refine rch_in ha hb (M := fun x => Wy (adjT W n l) a x) (fun c hc hw x hx ho => ?_) (.refl a) h
    exact Wy.trans hw (.one (mem_adjT.2 ⟨hx, ho⟩))
  · intro h
    have hcl := rch_cl (W := W) l ha
    exact (h.closed (p := fun x => x < n ∧ Rch W n l a x) (fun x y hx hy => by
      obtain ⟨h1, h2⟩ := mem_adjT.1 hy
      exact ⟨h1, hcl x hx.1 hx.2 y h1 h2⟩) ⟨ha, rch_self l ha⟩).2
/-- The parts of a cloth in their order. -/
def PL (W n : Nat) (l : List Bool) : List (List Nat) := lsP (hdB W n l) n n fun _ => false
def PV (ps : List (List Nat)) : AVal := .list true ps.isEmpty ps.length (rowsC ps)
def nxV (o : Option Nat) : Int := match o with
  | none => -1
  | some p => (p : Int)
theorem fI_const (n : Nat) (v : Int) : fI n (fun _ => v) = List.replicate n v := by
  rw [List.eq_replicate_iff]
  exact ⟨fI_len _ _, fun x hx => by obtain ⟨_, _, rfl⟩ := List.mem_map.1 hx; rfl⟩
theorem LL_fr (k : Nat) (rs : List (List Int)) : ∀ x, x ∈ LL rs → allFresh (k + 2) x = true := by
  intro x hx
  obtain ⟨r, _, rfl⟩ := List.mem_map.1 hx
  simp [allFresh, ints_fresh]
/-- Rows, by parts. -/
def fL (m : Nat) (g : Nat → List Nat) : List (List Int) := (List.range m).map fun q => nI (g q)
theorem fL_len (m : Nat) (g : Nat → List Nat) : (fL m g).length = m := by simp [fL]
theorem fL_get {m : Nat} {g : Nat → List Nat} {q : Nat} (h : q < m) : (fL m g).getD q [] = nI (g q) := by simp [fL, List.getD_eq_getElem?_getD, h]
theorem fL_set {m : Nat} {g : Nat → List Nat} {q : Nat} (v : List Nat) : (fL m g).set q (nI v) = fL m (updN g q v) := by
  refine List.ext_getElem (by simp [fL]) fun i h1 h2 => ?_
  rw [List.getElem_set]
  simp only [fL, List.getElem_map, List.getElem_range]
  by_cases h : q = i
  · rw [if_pos h, h, updN_same]
  · rw [if_neg h, updN_other _ _ (fun e => h e.symm)]
theorem fL_nil (m : Nat) : fL m (fun _ => []) = List.replicate m [] := by
  rw [List.eq_replicate_iff]
  exact ⟨fL_len _ _, fun x hx => by obtain ⟨_, _, rfl⟩ := List.mem_map.1 hx; rfl⟩
section
variable {o0 o1 o2 o3 o4 o5 o6 o7 : AObj} {rs : List (List Int)} {tl : List AObj}
theorem h8_at {a : Nat} (ha : a < rs.length) : (o0 :: o1 :: o2 :: o3 :: o4 :: o5 :: o6 :: o7 :: (gos rs ++ tl))[8 + a]? = some (go 3 (ints (rs.getD a []))) := by
  rw [show 8 + a = a + 8 by omega]
  simp only [List.getElem?_cons_succ]
  rw [List.getElem?_append_left (by rw [gos_len]; exact ha)]
  exact gos_at ha
theorem h8_set {a : Nat} (ha : a < rs.length) (r : List Int) : (o0 :: o1 :: o2 :: o3 :: o4 :: o5 :: o6 :: o7 :: (gos rs ++ tl)).set (8 + a) (go 3 (ints r)) = o0 :: o1 :: o2 :: o3 :: o4 :: o5 :: o6 :: o7 :: (gos (rs.set a r) ++ tl) := by
  rw [show 8 + a = a + 8 by omega]
  simp only [List.set_cons_succ]
  rw [List.set_append_left _ _ (by rw [gos_len]; exact ha), gos_set]
theorem h8_tl {m k : Nat} (hm : rs.length = m) : (o0 :: o1 :: o2 :: o3 :: o4 :: o5 :: o6 :: o7 :: (gos rs ++ tl))[8 + m + k]? = tl[k]? := by
  rw [show 8 + m + k = m + k + 8 by omega]
  simp only [List.getElem?_cons_succ]
  rw [List.getElem?_append_right (by rw [gos_len]; omega), gos_len, hm, Nat.add_sub_cancel_left]
theorem h8_stl {m k : Nat} (hm : rs.length = m) (o : AObj) : (o0 :: o1 :: o2 :: o3 :: o4 :: o5 :: o6 :: o7 :: (gos rs ++ tl)).set (8 + m + k) o = o0 :: o1 :: o2 :: o3 :: o4 :: o5 :: o6 :: o7 :: (gos rs ++ tl.set k o) := by
  rw [show 8 + m + k = m + k + 8 by omega]
  simp only [List.set_cons_succ]
  rw [List.set_append_right _ _ (by rw [gos_len]; omega), gos_len, hm, Nat.add_sub_cancel_left]
end
theorem argOf_gwI {h : List AObj} {k e m : Nat} {l : List Int} (ho : h[k]? = some (go e (ints l))) : argOf h (m + 2) (gw true k (ints l)) = LA l.isEmpty l := by
  rw [argOf_gw, ho, gaA_go, ints_length, ints_arg]
  have : (ints l).isEmpty = l.isEmpty := by cases l <;> rfl
  rw [this]; rfl
theorem mem_nI {l : List Nat} {x : Nat} : (x : Int) ∈ nI l ↔ x ∈ l := by
  unfold nI
  rw [List.mem_map]
  constructor
  · rintro ⟨y, h1, h2⟩
    have : y = x := by omega
    exact this ▸ h1
  · intro h; exact ⟨x, h, rfl⟩
/-- Marks, by parts. -/
def fB (m : Nat) (D : Nat → Bool) : List Bool := (List.range m).map D
theorem fB_len (m : Nat) (D : Nat → Bool) : (fB m D).length = m := by simp [fB]
theorem fB_get {m : Nat} {D : Nat → Bool} {p : Nat} (h : p < m) : (fB m D).getD p false = D p := by simp [fB, List.getD_eq_getElem?_getD, h]
theorem fB_set {m : Nat} {D : Nat → Bool} {p : Nat} (v : Bool) : (fB m D).set p v = fB m (updN D p v) := by
  refine List.ext_getElem (by simp [fB]) fun i h1 h2 => ?_
  rw [List.getElem_set]
  simp only [fB, List.getElem_map, List.getElem_range]
  by_cases h : p = i
  · rw [if_pos h, h, updN_same]
  · rw [if_neg h, updN_other _ _ (fun e => h e.symm)]
theorem fB_none (m : Nat) : fB m (fun _ => false) = List.replicate m false := by
  rw [List.eq_replicate_iff]
  exact ⟨fB_len _ _, fun x hx => by obtain ⟨_, _, rfl⟩ := List.mem_map.1 hx; rfl⟩
theorem rowsC_at {ps : List (List Nat)} {i : Nat} (h : i < ps.length) : ((rowsC ps).drop i)[0]? = some (LR false (nI (ps.getD i []))) := by
  rw [List.getElem?_drop, Nat.add_zero, rowsC, List.getElem?_map, List.getElem?_eq_getElem h, List.getD_eq_getElem?_getD, List.getElem?_eq_getElem h]; rfl
section
variable {o0 o1 o2 o3 o4 o5 o6 o7 : AObj} {rs : List (List Int)} {tl : List AObj} {m : Nat}
theorem h8_t0 (hm : rs.length = m) : (o0 :: o1 :: o2 :: o3 :: o4 :: o5 :: o6 :: o7 :: (gos rs ++ tl))[m + 8]? = tl[0]? := by
  rw [show m + 8 = 8 + m + 0 by omega]; exact h8_tl hm
theorem h8_t1 (hm : rs.length = m) : (o0 :: o1 :: o2 :: o3 :: o4 :: o5 :: o6 :: o7 :: (gos rs ++ tl))[m + 9]? = tl[1]? := by
  rw [show m + 9 = 8 + m + 1 by omega]; exact h8_tl hm
theorem h8_s0 (hm : rs.length = m) (o : AObj) : (o0 :: o1 :: o2 :: o3 :: o4 :: o5 :: o6 :: o7 :: (gos rs ++ tl)).set (m + 8) o = o0 :: o1 :: o2 :: o3 :: o4 :: o5 :: o6 :: o7 :: (gos rs ++ tl.set 0 o) := by
  rw [show m + 8 = 8 + m + 0 by omega]; exact h8_stl hm o
theorem h8_s1 (hm : rs.length = m) (o : AObj) : (o0 :: o1 :: o2 :: o3 :: o4 :: o5 :: o6 :: o7 :: (gos rs ++ tl)).set (m + 9) o = o0 :: o1 :: o2 :: o3 :: o4 :: o5 :: o6 :: o7 :: (gos rs ++ tl.set 1 o) := by
  rw [show m + 9 = 8 + m + 1 by omega]; exact h8_stl hm o
end
theorem hdL_nI {q : List Nat} (h : 0 < q.length) : (nI q).getD 0 0 = (hdL q : Int) := by
  cases q with
  | nil => simp at h
  | cons a t => rfl
theorem rowsC_res (h : List AObj) (n : Nat) (ps : List (List Nat)) : (rowsC ps).map (resOf h (n + 2)) = rowsC ps := by
  unfold rowsC
  rw [List.map_map]
  refine List.map_congr_left fun l _ => ?_
  simp [resOf, resOf_list, ints_res]
theorem abv_len (W n : Nat) (l : List Bool) : (abv W n l).length = n := by simp [abv]
set_option maxHeartbeats 1000000 in
theorem partsP_c {W H n : Nat} (hN : W + H = n) (hW0 : 0 < W) (hH0 : 0 < H) (hn64 : n ≤ 64) (b : Bool) {l : List Bool} (hn : l.length = W * H) : Contract Tryz.prog 28 [GA W H b l] (PV (PL W n l)) := by
  have hab := aboveP_c hN hW0 hH0 (by omega) (by omega) b hn
  have hNi : ((W : Int) + (H : Int)).toNat = n := by omega
  have hNc : (W : Int) + (H : Int) = (n : Int) := by omega
  have hrl := abv_len W n l
  have hrow : ∀ a, a < n → (abv W n l).getD a [] = nI (adjT W n l a) := fun a ha => abv_adj ha
  have hS := tAll_scc (ov := adjT W n l) (n := n) adjT_in
  have hinv := tAll_inv (ov := adjT W n l) (n := n) adjT_in
  refine Contract.intro (effS [48] false [1] [0] [] (fun _ => true) [] [48]) 6 follows Tryz.func28 rfl rfl (by kernel_rfl) (Nat.le_of_ble_eq_true rfl) ?_
  simp (disch := first | assumption | omega | rfl | simp only [RH]) only [↓RP, RG, FX, RQ, ↓reduceIte, Nat.reduceEqDiff, reduceCtorEq, Nat.reduceBEq, Nat.reduceAdd, Nat.reduceLeDiff, args0_1, hNc]
  refine callK_F 6 hab (by simp (disch := first | assumption | omega | rfl | simp only [RH]) only [↓RP, RG, FX, RQ, ↓reduceIte, Nat.reduceEqDiff, reduceCtorEq, Nat.reduceBEq, Nat.reduceAdd, Nat.reduceLeDiff, RA] <;> rfl) (.inl (by simp [allFresh]; exact LL_fr 3 _)) ?_
  simp (disch := first | assumption | omega | rfl | simp only [RH]) only [↓RP, RG, FX, RQ, ↓reduceIte, Nat.reduceEqDiff, reduceCtorEq, Nat.reduceBEq, Nat.reduceAdd, Nat.reduceLeDiff, make_int, hNi, hNc]
  refine callK_M (o := ⟨3, 1, ints (List.replicate n (-1))⟩) (fun k => .ref k 0 n n) (.ref 0 n n) rfl rfl (fun h2 => repeat_s h2 (by omega) (by omega)) ?_ (by simp) (fun x hx => by
    simp only [ints, List.mem_map] at hx
    obtain ⟨u, _, rfl⟩ := hx
    exact ⟨_, rfl⟩)
  simp (disch := first | assumption | omega | rfl | simp only [RH]) only [↓RP, RG, FX, RQ, ↓reduceIte, Nat.reduceEqDiff, reduceCtorEq, Nat.reduceBEq, Nat.reduceAdd, Nat.reduceLeDiff]
  refine loopK_WW [3, 4, 35, 36] (fun a : Nat => a ≤ n) (fun a => ⟨[(3, I n), (4, .ptr 3 0 7), (35, I n), (36, I a)], FS (abv W n l) n (tAll (adjT W n l) n a)⟩) (fun a => n - a) 0 (by omega) ?_ ?_
  · simp only [↓RP, RG, FX, RQ, ↓reduceIte, Nat.reduceEqDiff, reduceCtorEq, Nat.reduceBEq, Nat.reduceAdd, Nat.reduceLeDiff]
    have e : FS (abv W n l) n (tAll (adjT W n l) n 0) = [⟨3, 1, ints (List.replicate n 0)⟩, ⟨3, 1, ints (List.replicate n 0)⟩, ⟨3, 1, ints (List.replicate n (-1))⟩, ⟨79, 7, [.list true false n (LL (abv W n l)), .ref 0 0 n n, .ref 1 0 n n, .ref 2 0 n n, .res 4, I 0, .res 5]⟩, ⟨0, 0, []⟩, ⟨0, 0, []⟩] := by
      rw [← fI_const, ← fI_const]; rfl
    rw [e]
    exact Wk.weak (fun t => .refl _) (.cons _ _ _ _ (WL.refl _) (.cons _ _ _ _ (WL.refl _) (.cons _ _ _ _ (WL.refl _) (.cons _ _ _ _ (.cons (.refl _) (.cons (.refl _) (.cons (.refl _) (.cons (.refl _) (.cons (.nil _) (.cons (.refl _) (.cons (.nil _) .nil))))))) (.nil _ (by simp))))))
  intro a ha
  obtain ⟨s, hs⟩ : ∃ s, tAll (adjT W n l) n a = s := ⟨_, rfl⟩
  have hsi := (hinv a ha).1
  rw [hs] at hsi
  simp only [hs]
  have m1 := fI_len n fun x => (s.ix x : Int)
  by_cases hlt : a < n
  · have gix : (fI n fun x => (s.ix x : Int)).getD a 0 = (s.ix a : Int) := fI_get hlt
    by_cases h0 : s.ix a = 0
    · have hnx : tAll (adjT W n l) n (a + 1) = tVis (adjT W n l) n s a := by
        show (if (tAll (adjT W n l) n a).ix a = 0 then _ else _) = _
        rw [hs, if_pos h0]
      have hg0 : (fI n fun x => (s.ix x : Int)).getD a 0 = 0 := by rw [gix, h0]; rfl
      unfold FS
      simp (disch := first | assumption | omega | rfl | simp only [RH]) only [↓RP, RG, FX, RQ, ↓reduceIte, Nat.reduceEqDiff, reduceCtorEq, Nat.reduceBEq, Nat.reduceAdd, Nat.reduceLeDiff, hg0, Int.toNat_natCast]
      refine callK_T rfl (visit_s (by omega) hrl hrow (fun a _ => adjT_le W n l a) adjT_in n s [] a hsi hlt h0 (fun g hg => by cases hg) (by have := hsi.mtc; omega)) ?_
      simp (disch := first | assumption | omega | rfl | simp only [RH]) only [↓RP, RG, FX, RQ, ↓reduceIte, Nat.reduceEqDiff, reduceCtorEq, Nat.reduceBEq, Nat.reduceAdd, Nat.reduceLeDiff]
      exact ⟨a + 1, hlt, Wk.of_eq (by rw [hnx]; rfl), by omega⟩
    · have hnx : tAll (adjT W n l) n (a + 1) = s := by
        show (if (tAll (adjT W n l) n a).ix a = 0 then _ else _) = _
        rw [hs, if_neg h0]
      have hg0 : ¬ (fI n fun x => (s.ix x : Int)).getD a 0 = 0 := by rw [gix]; omega
      unfold FS
      simp (disch := first | assumption | omega | rfl | simp only [RH]) only [↓RP, RG, FX, RQ, ↓reduceIte, Nat.reduceEqDiff, reduceCtorEq, Nat.reduceBEq, Nat.reduceAdd, Nat.reduceLeDiff, Int.toNat_natCast]
      exact ⟨a + 1, hlt, Wk.of_eq (by rw [hnx]; rfl), by omega⟩
  obtain rfl : n = a := by omega
  rw [hs] at hS
  have hpl : s.ps.length ≤ n := hS.len_le
  unfold FS
  obtain ⟨m, hm⟩ : ∃ m, s.ps.length = m := ⟨_, rfl⟩
  rw [hm] at hpl
  have hgs : gS (some (go 25 (rowsC s.ps))) (rowsC s.ps) = some (m, rowsC s.ps) := by rw [gS_go]; simp [rowsC, hm]
  have hmi : ((m : Nat) : Int).toNat = m := Int.toNat_natCast m
  have hcell : ofCell (.slice none 0 0) = .cap0 true := rfl
  -- which parts lie over which
  obtain ⟨P, hP⟩ : ∃ P : Nat → Nat, P = fun x => (s.pt x).toNat := ⟨_, rfl⟩
  obtain ⟨hF, hFn, hO⟩ := gAll_lies hS (m := m) hm.symm adjT_in (fun a _ => adjT_le W n l a)
  rw [← hP] at hF hFn hO
  have hPm : ∀ x, x < n → P x < m := fun x hx => by
    have h0 := hS.all x hx
    obtain ⟨l', h1, _⟩ := (hS.p1 x (s.pt x).toNat).1 (by omega)
    have := (List.getElem?_eq_some_iff.1 h1).1
    rw [hP]; simp only []; omega
  have hPt : ∀ x, x < n → s.pt x = (P x : Int) := fun x hx => by
    have h0 := hS.all x hx
    rw [hP]; simp only []; omega
  have hgi := gAt_inv (P := P) (n := n) (m := m) hPm adjT_in (fun a _ => adjT_le W n l a)
  simp (disch := first | assumption | omega | rfl | simp only [RH]) only [↓RP, RG, FX, RQ, ↓reduceIte, Nat.reduceEqDiff, reduceCtorEq, Nat.reduceBEq, Nat.reduceAdd, Nat.reduceLeDiff, sview_gw, hgs, make_int, make_one, hmi, hcell, ovV]
  generalize (⟨3, 1, ints (fI n fun x => (s.ix x : Int))⟩ : AObj) = o0
  generalize (⟨3, 1, ints (fI n fun x => (s.lo x : Int))⟩ : AObj) = o1
  generalize stO s.st s.jk = o4
  generalize stV 4 s.st s.jk = x4
  refine loopK_WW [3, 4, 6, 7, 57, 58, 59] (fun a : Nat => a ≤ n) (fun a => ⟨[(3, I n), (4, .ptr 3 0 7), (6, .ref 6 0 m m), (7, .ref 7 0 m m), (57, .list true false n (LL (abv W n l))), (58, I n), (59, I a)], o0 :: o1 :: ⟨3, 1, ints (fI n s.pt)⟩ :: ⟨79, 7, [.list true false n (LL (abv W n l)), .ref 0 0 n n, .ref 1 0 n n, .ref 2 0 n n, x4, I s.mt, gw true 5 (rowsC s.ps)]⟩ :: o4 :: go 25 (rowsC s.ps) :: ⟨3, 1, ints (fI m fun p => ((gAll (adjT W n l) P a).w p : Int))⟩ :: ⟨25, 1, gws 8 (fL m (gAll (adjT W n l) P a).f)⟩ :: (gos (fL m (gAll (adjT W n l) P a).f) ++ [])⟩) (fun a => n - a) 0 (by omega) ?_ ?_
  · simp only [↓RP, RG, FX, RQ, ↓reduceIte, Nat.reduceEqDiff, reduceCtorEq, Nat.reduceBEq, Nat.reduceAdd, Nat.reduceLeDiff]
    have e1 : (fI m fun p => ((gAll (adjT W n l) P 0).w p : Int)) = List.replicate m 0 := fI_const m 0
    have e2 : fL m (gAll (adjT W n l) P 0).f = List.replicate m [] := fL_nil m
    rw [e1, e2]
    exact Wk.weak (fun t => .refl _) (.app [o0, o1, _, _, o4, _, _] (.cons _ _ _ _ (WL_gws 8 m) (.nil _ (gos_nil m))))
  intro a ha
  by_cases hlt : a < n
  · have hra := LL_at (rs := abv W n l) (a := a) (by omega)
    rw [hrow a hlt] at hra
    have hal := adjT_le W n l a
    have hai : (nI (adjT W n l a)).length = (adjT W n l a).length := nI_len _
    simp (disch := first | assumption | omega | rfl | simp only [RH]) only [↓RP, RG, FX, RQ, ↓reduceIte, Nat.reduceEqDiff, reduceCtorEq, Nat.reduceBEq, Nat.reduceAdd, Nat.reduceLeDiff, hra, Int.toNat_natCast]
    refine loopK_I [3, 4, 6, 7, 8, 57, 58, 59, 64, 65, 66] (fun j : Nat => j ≤ (adjT W n l a).length) (fun j => ⟨[(3, I n), (4, .ptr 3 0 7), (6, .ref 6 0 m m), (7, .ref 7 0 m m), (8, I a), (57, .list true false n (LL (abv W n l))), (58, I n), (59, I a), (64, LR (nI (adjT W n l a)).isEmpty (nI (adjT W n l a))), (65, I (adjT W n l a).length), (66, I j)], o0 :: o1 :: ⟨3, 1, ints (fI n s.pt)⟩ :: ⟨79, 7, [.list true false n (LL (abv W n l)), .ref 0 0 n n, .ref 1 0 n n, .ref 2 0 n n, x4, I s.mt, gw true 5 (rowsC s.ps)]⟩ :: o4 :: go 25 (rowsC s.ps) :: ⟨3, 1, ints (fI m fun p => ((gRow (adjT W n l) P a (gAll (adjT W n l) P a) j).w p : Int))⟩ :: ⟨25, 1, gws 8 (fL m (gRow (adjT W n l) P a (gAll (adjT W n l) P a) j).f)⟩ :: (gos (fL m (gRow (adjT W n l) P a (gAll (adjT W n l) P a) j).f) ++ [])⟩) (fun j => (adjT W n l a).length - j) 0 (by omega) (by simp only [↓RP, RG, FX, RQ, ↓reduceIte, Nat.reduceEqDiff, reduceCtorEq, Nat.reduceBEq, Nat.reduceAdd, Nat.reduceLeDiff, hai]; rw [gRow_zero]; rfl) ?_
    intro j hj
    by_cases hlt2 : j < (adjT W n l a).length
    · obtain ⟨c, hc⟩ : ∃ c, (adjT W n l a)[j]? = some c := ⟨_, List.getElem?_eq_getElem hlt2⟩
      have hcn : c < n := adjT_lt (List.mem_of_getElem? hc)
      have hgc : (nI (adjT W n l a)).getD j 0 = (c : Int) := by simp [nI, List.getD_eq_getElem?_getD, hc]
      obtain ⟨_, hbd⟩ := (hgi a ha).2 hlt j hj
      have hnx := gRow_succ (P := P) (s := gAll (adjT W n l) P a) hc
      generalize gRow (adjT W n l) P a (gAll (adjT W n l) P a) j = t at *
      have hsq : a * n + j ≤ 64 * 64 + 64 := by
        have : a * n ≤ 64 * 64 := Nat.mul_le_mul (by omega) (by omega)
        omega
      have m3 := fI_len n s.pt
      have m4 := fI_len m fun p => (t.w p : Int)
      have gpa : (fI n s.pt).getD a 0 = (P a : Int) := by rw [fI_get hlt, hPt a hlt]
      have gpc : (fI n s.pt).getD c 0 = (P c : Int) := by rw [fI_get hcn, hPt c hcn]
      have hpa := hPm a hlt
      have hpc := hPm c hcn
      have gwp : (fI m fun p => (t.w p : Int)).getD (P a) 0 = (t.w (P a) : Int) := fI_get hpa
      have hwb := (hbd (P a)).2
      have hfb := (hbd (P c)).1
      have hfl := fL_len m t.f
      have gl : (gws 8 (fL m t.f)).length = m := by rw [gws_len, hfl]
      have a1 := gws_at (k := 8) (rs := fL m t.f) (a := P c) (by omega)
      rw [fL_get hpc] at a1
      by_cases hpq : P a = P c
      · have hst : gStep t (P a) (P c) = t := by unfold gStep; rw [if_neg (fun h => h.1 hpq)]
        rw [hst] at hnx
        have hpq2 : (P a : Int) = (P c : Int) := by omega
        simp (disch := first | assumption | omega | rfl | simp only [RH]) only [↓RP, RG, FX, RQ, ↓reduceIte, Nat.reduceEqDiff, reduceCtorEq, Nat.reduceBEq, Nat.reduceAdd, Nat.reduceLeDiff, hgc, gpa, gpc, Int.toNat_natCast]
        exact ⟨j + 1, hlt2, by rw [hnx]; rfl, by omega⟩
      · have hpq2 : ¬ (P a : Int) = (P c : Int) := by omega
        have oh := h8_at (o0 := o0) (o1 := o1) (o2 := ⟨3, 1, ints (fI n s.pt)⟩) (o3 := ⟨79, 7, [.list true false n (LL (abv W n l)), .ref 0 0 n n, .ref 1 0 n n, .ref 2 0 n n, x4, I s.mt, gw true 5 (rowsC s.ps)]⟩) (o4 := o4) (o5 := go 25 (rowsC s.ps)) (o6 := ⟨3, 1, ints (fI m fun p => (t.w p : Int))⟩) (o7 := ⟨25, 1, gws 8 (fL m t.f)⟩) (rs := fL m t.f) (tl := []) (a := P c) (by omega)
        rw [fL_get hpc, List.append_nil] at oh
        have hct := contains_c (nI (t.f (P c))).isEmpty (nI (t.f (P c))) (P a) (by rw [nI_len]; omega)
        by_cases hin : P a ∈ t.f (P c)
        · have hst : gStep t (P a) (P c) = t := by unfold gStep; rw [if_neg (fun h => h.2 hin)]
          rw [hst] at hnx
          rw [decide_eq_true (mem_nI.2 hin)] at hct
          simp (disch := first | assumption | omega | rfl | simp only [RH]) only [↓RP, RG, FX, RQ, ↓reduceIte, Nat.reduceEqDiff, reduceCtorEq, Nat.reduceBEq, Nat.reduceAdd, Nat.reduceLeDiff, hgc, gpa, gpc, cA_any, a1, Int.toNat_natCast]
          refine callK_F 6 hct (by simp only [List.map_cons, List.map_nil]; rw [argOf_gwI oh]; rfl) (.inl rfl) ?_
          simp (disch := first | assumption | omega | rfl | simp only [RH]) only [↓RP, RG, FX, RQ, ↓reduceIte, Nat.reduceEqDiff, reduceCtorEq, Nat.reduceBEq, Nat.reduceAdd, Nat.reduceLeDiff]
          exact ⟨j + 1, hlt2, by rw [hnx]; rfl, by omega⟩
        · have hst : gStep t (P a) (P c) = ⟨updN t.w (P a) (t.w (P a) + 1), updN t.f (P c) (t.f (P c) ++ [P a])⟩ := by unfold gStep; rw [if_pos ⟨hpq, hin⟩]
          rw [hst] at hnx
          rw [decide_eq_false (fun h => hin (mem_nI.1 h))] at hct
          have hil : (nI (t.f (P c))).length ≤ 1000000000 := by rw [nI_len]; omega
          have t1 : ∀ p0 p1 p2 p3 p4 p5 p6 p7 : AObj, (p0 :: p1 :: p2 :: p3 :: p4 :: p5 :: p6 :: p7 :: gos (fL m t.f)).set (8 + P c) (go 3 (ints (nI (t.f (P c)) ++ [(P a : Int)]))) = p0 :: p1 :: p2 :: p3 :: p4 :: p5 :: p6 :: p7 :: gos (fL m (updN t.f (P c) (t.f (P c) ++ [P a]))) := fun p0 p1 p2 p3 p4 p5 p6 p7 => by
            have := h8_set (o0 := p0) (o1 := p1) (o2 := p2) (o3 := p3) (o4 := p4) (o5 := p5) (o6 := p6) (o7 := p7) (rs := fL m t.f) (tl := []) (a := P c) (by omega) (nI (t.f (P c)) ++ [(P a : Int)])
            rw [List.append_nil, List.append_nil] at this
            rw [this, ← fL_set, nI_app2]; rfl
          have p1 : (gws 8 (fL m t.f)).set (P c) (gw true (8 + P c) (ints (nI (t.f (P c)) ++ [(P a : Int)]))) = gws 8 (fL m (updN t.f (P c) (t.f (P c) ++ [P a]))) := by
            rw [gws_set, ← fL_set, nI_app2]; rfl
          have e1 : (fI m fun p => (t.w p : Int)).set (P a) ((t.w (P a) : Int) + 1) = fI m fun p => ((updN t.w (P a) (t.w (P a) + 1) p : Nat) : Int) := by
            rw [fI_set, show (t.w (P a) : Int) + 1 = ((t.w (P a) + 1 : Nat) : Int) by omega, upd_cast]
          simp (disch := first | assumption | omega | rfl | simp only [RH]) only [↓RP, RG, FX, RQ, ↓reduceIte, Nat.reduceEqDiff, reduceCtorEq, Nat.reduceBEq, Nat.reduceAdd, Nat.reduceLeDiff, hgc, gpa, gpc, cA_any, a1, Int.toNat_natCast]
          refine callK_F 6 hct (by simp only [List.map_cons, List.map_nil]; rw [argOf_gwI oh]; rfl) (.inl rfl) ?_
          simp (disch := first | assumption | omega | rfl | simp only [RH]) only [↓RP, RG, FX, RQ, ↓reduceIte, Nat.reduceEqDiff, reduceCtorEq, Nat.reduceBEq, Nat.reduceAdd, Nat.reduceLeDiff, cA_any, a1, sX_gw, append_int, t1, p1, gwp, e1, Int.toNat_natCast]
          exact ⟨j + 1, hlt2, by rw [hnx]; rfl, by omega⟩
    · obtain rfl : (adjT W n l a).length = j := by omega
      simp (disch := first | assumption | omega | rfl | simp only [RH]) only [↓RP, RG, FX, RQ, ↓reduceIte, Nat.reduceEqDiff, reduceCtorEq, Nat.reduceBEq, Nat.reduceAdd, Nat.reduceLeDiff]
      exact ⟨a + 1, hlt, Wk.of_eq rfl, by omega⟩
  obtain rfl : n = a := by omega
  have hrc : (rowsC s.ps).length = m := by simp [rowsC, hm]
  obtain ⟨F, hFe⟩ : ∃ F, (gAll (adjT W n l) P n).f = F := ⟨_, rfl⟩
  obtain ⟨w0, hwe⟩ : ∃ w0, (gAll (adjT W n l) P n).w = w0 := ⟨_, rfl⟩
  rw [hFe, hwe] at hO
  rw [hFe] at hF hFn
  simp only [hFe, hwe]
  have hgl : (gos (fL m F)).length = m := by rw [gos_len, fL_len]
  simp (disch := first | assumption | omega | rfl | simp only [RH]) only [↓RP, RG, FX, RQ, ↓reduceIte, Nat.reduceEqDiff, reduceCtorEq, Nat.reduceBEq, Nat.reduceAdd, Nat.reduceLeDiff, make_bool, hrc, hgl, hmi]
  have hhd : ∀ a b, a < n → b < n → (hdB W n l a b = true ↔ Wy (adjT W n l) a b) := fun a b ha hb => hdB_iff ha hb
  have hoi := oAt_inv hS hhd hF hFn hO
  have hfin := oAt_all hS hhd hF hFn hO
  rw [hm] at hoi hfin
  have gl : (gws 8 (fL m F)).length = m := by rw [gws_len, fL_len]
  have fl := fL_len m F
  have t8 : ∀ (p0 p1 p2 p3 p4 p5 p6 p7 : AObj) (tl : List AObj), (p0 :: p1 :: p2 :: p3 :: p4 :: p5 :: p6 :: p7 :: (gos (fL m F) ++ tl))[m + 8]? = tl[0]? := fun _ _ _ _ _ _ _ _ _ => h8_t0 fl
  have t9 : ∀ (p0 p1 p2 p3 p4 p5 p6 p7 : AObj) (tl : List AObj), (p0 :: p1 :: p2 :: p3 :: p4 :: p5 :: p6 :: p7 :: (gos (fL m F) ++ tl))[m + 9]? = tl[1]? := fun _ _ _ _ _ _ _ _ _ => h8_t1 fl
  have s8 : ∀ (p0 p1 p2 p3 p4 p5 p6 p7 o : AObj) (tl : List AObj), (p0 :: p1 :: p2 :: p3 :: p4 :: p5 :: p6 :: p7 :: (gos (fL m F) ++ tl)).set (m + 8) o = p0 :: p1 :: p2 :: p3 :: p4 :: p5 :: p6 :: p7 :: (gos (fL m F) ++ tl.set 0 o) := fun _ _ _ _ _ _ _ _ _ _ => h8_s0 fl _
  have s9 : ∀ (p0 p1 p2 p3 p4 p5 p6 p7 o : AObj) (tl : List AObj), (p0 :: p1 :: p2 :: p3 :: p4 :: p5 :: p6 :: p7 :: (gos (fL m F) ++ tl)).set (m + 9) o = p0 :: p1 :: p2 :: p3 :: p4 :: p5 :: p6 :: p7 :: (gos (fL m F) ++ tl.set 1 o) := fun _ _ _ _ _ _ _ _ _ _ => h8_s1 fl _
  have hpos : ∀ i, i < m → 0 < (s.ps.getD i []).length := fun i hi => by
    rw [List.getD_eq_getElem?_getD, List.getElem?_eq_getElem (by omega), Option.getD_some]
    exact List.length_pos_iff.2 (hS.p2 _ (List.getElem_mem _)).1
  refine loopK_WW [4, 6, 7, 14, 15, 116, 117] (fun k : Nat => k ≤ m) (fun k => ⟨[(4, .ptr 3 0 7), (6, .ref 6 0 m m), (7, .ref 7 0 m m), (14, gw true (m + 9) (rowsC (oAt s.ps F w0 k).out)), (15, .ref (m + 8) 0 m m), (116, I m), (117, I k)], o0 :: o1 :: ⟨3, 1, ints (fI n s.pt)⟩ :: ⟨79, 7, [.list true false n (LL (abv W n l)), .ref 0 0 n n, .ref 1 0 n n, .ref 2 0 n n, x4, I s.mt, gw true 5 (rowsC s.ps)]⟩ :: o4 :: go 25 (rowsC s.ps) :: ⟨3, 1, ints (fI m fun p => (((oAt s.ps F w0 k).w) p : Int))⟩ :: ⟨25, 1, gws 8 (fL m F)⟩ :: (gos (fL m F) ++ [⟨4, 1, bools (fB m ((oAt s.ps F w0 k).D))⟩, go 25 (rowsC ((oAt s.ps F w0 k).out))])⟩) (fun k => m - k) 0 (by omega) ?_ ?_
  · simp only [↓RP, RG, FX, RQ, ↓reduceIte, Nat.reduceEqDiff, reduceCtorEq, Nat.reduceBEq, Nat.reduceAdd, Nat.reduceLeDiff]
    rw [← fB_none]
    refine Wk.weak (WE.cons _ (.refl _) (WE.cons _ (.refl _) (WE.cons _ (.refl _) (WE.cons _ (.nil _) (WE.cons _ (.refl _) (WE.cons _ (.refl _) (WE.cons _ (.refl _) WE.nil))))))) ?_
    have h9 := WO.app (o0 :: o1 :: ⟨3, 1, ints (fI n s.pt)⟩ :: ⟨79, 7, [.list true false n (LL (abv W n l)), .ref 0 0 n n, .ref 1 0 n n, .ref 2 0 n n, x4, I s.mt, gw true 5 (rowsC s.ps)]⟩ :: o4 :: go 25 (rowsC s.ps) :: ⟨3, 1, ints (fI m fun p => ((w0) p : Int))⟩ :: ⟨25, 1, gws 8 (fL m F)⟩ :: (gos (fL m F) ++ [⟨4, 1, bools (fB m (fun _ => false))⟩])) (r := []) (r' := [go 25 (rowsC [])]) (.nil _ (by simp [go, rowsC]))
    simp only [List.cons_append, List.append_assoc, List.nil_append, List.append_nil] at h9
    exact h9
  intro k hk
  obtain ⟨hok, hol, _⟩ := hoi k hk
  obtain ⟨O, hO'⟩ : ∃ O, oAt s.ps F w0 k = O := ⟨_, rfl⟩
  rw [hO'] at hok hol
  simp only [hO']
  have m5 := fI_len m fun p => (O.w p : Int)
  have m6 := fB_len m O.D
  by_cases hlt : k < m
  · obtain ⟨p, hp⟩ := hok.some hS hF (by omega)
    rw [hm] at hp
    obtain ⟨hpm, _, _⟩ := bstP_some hp
    have hnx : oAt s.ps F w0 (k + 1) = ⟨wDec O.w (F p), updN O.D p true, O.out ++ [s.ps.getD p []]⟩ := by
      show oStep s.ps F (oAt s.ps F w0 k) = _
      rw [hO']
      unfold oStep
      rw [hm, hp]
    simp (disch := first | assumption | omega | rfl | simp only [RH]) only [↓RP, RG, FX, RQ, ↓reduceIte, Nat.reduceEqDiff, reduceCtorEq, Nat.reduceBEq, Nat.reduceAdd, Nat.reduceLeDiff, sview_gw, hgs]
    refine loopK_I [4, 6, 7, 14, 15, 16, 116, 117, 121, 122] (fun i : Nat => i ≤ m) (fun i => ⟨[(4, .ptr 3 0 7), (6, .ref 6 0 m m), (7, .ref 7 0 m m), (14, gw true (m + 9) (rowsC O.out)), (15, .ref (m + 8) 0 m m), (16, I (nxV (bstP s.ps (cdW O.w O.D) i))), (116, I m), (117, I k), (121, I m), (122, I i)], o0 :: o1 :: ⟨3, 1, ints (fI n s.pt)⟩ :: ⟨79, 7, [.list true false n (LL (abv W n l)), .ref 0 0 n n, .ref 1 0 n n, .ref 2 0 n n, x4, I s.mt, gw true 5 (rowsC s.ps)]⟩ :: o4 :: go 25 (rowsC s.ps) :: ⟨3, 1, ints (fI m fun p => ((O.w) p : Int))⟩ :: ⟨25, 1, gws 8 (fL m F)⟩ :: (gos (fL m F) ++ [⟨4, 1, bools (fB m (O.D))⟩, go 25 (rowsC (O.out))])⟩) (fun i => m - i) 0 (by omega) (by simp only [↓RP, RG, FX, RQ, ↓reduceIte, Nat.reduceEqDiff, reduceCtorEq, Nat.reduceBEq, Nat.reduceAdd, Nat.reduceLeDiff, hrc]; rfl) ?_
    intro i hi
    by_cases hlt2 : i < m
    · have gdi : (fB m O.D).getD i false = O.D i := fB_get hlt2
      have gwi : (fI m fun p => (O.w p : Int)).getD i 0 = (O.w i : Int) := fI_get hlt2
      have hbs : bstP s.ps (cdW O.w O.D) (i + 1) = if (cdW O.w O.D i && btr s.ps (bstP s.ps (cdW O.w O.D) i) i) = true then some i else bstP s.ps (cdW O.w O.D) i := rfl
      have hcdd : cdW O.w O.D i = (!O.D i && decide (O.w i = 0)) := rfl
      obtain ⟨B, hB⟩ : ∃ B, bstP s.ps (cdW O.w O.D) i = B := ⟨_, rfl⟩
      rw [hB] at hbs
      simp only [hB]
      by_cases hd : O.D i = true
      · have hnx2 : bstP s.ps (cdW O.w O.D) (i + 1) = B := by rw [hbs, hcdd, hd]; rfl
        have gd : (fB m O.D).getD i false = true := by rw [gdi, hd]
        simp (disch := first | assumption | omega | rfl | simp only [RH]) only [↓RP, RG, FX, RQ, ↓reduceIte, Nat.reduceEqDiff, reduceCtorEq, Nat.reduceBEq, Nat.reduceAdd, Nat.reduceLeDiff, t8, gd, Int.toNat_natCast]
        exact ⟨i + 1, hlt2, by rw [hnx2]; rfl, by omega⟩
      · have hd' : O.D i = false := by simpa using hd
        have gd : (fB m O.D).getD i false = false := by rw [gdi, hd']
        by_cases hw : O.w i = 0
        · have hw2 : (fI m fun p => (O.w p : Int)).getD i 0 = 0 := by rw [gwi, hw]; rfl
          have hcd : cdW O.w O.D i = true := by rw [hcdd, hd', hw]; rfl
          have hri := rowsC_at (ps := s.ps) (i := i) (by omega)
          cases B with
          | none =>
            have hnx2 : bstP s.ps (cdW O.w O.D) (i + 1) = some i := by rw [hbs, hcd]; rfl
            simp only [nxV]
            simp (disch := first | assumption | omega | rfl | simp only [RH]) only [↓RP, RG, FX, RQ, ↓reduceIte, Nat.reduceEqDiff, reduceCtorEq, Nat.reduceBEq, Nat.reduceAdd, Nat.reduceLeDiff, t8, gd, hw2, Int.toNat_natCast]
            exact ⟨i + 1, hlt2, by rw [hnx2]; rfl, by omega⟩
          | some p' =>
            obtain ⟨hpi, _, _⟩ := bstP_some hB
            have hrp := rowsC_at (ps := s.ps) (i := p') (by omega)
            have hni := hpos i (by omega)
            have hnp := hpos p' (by omega)
            have hgi2 := hdL_nI hni
            have hgp2 := hdL_nI hnp
            have hz0 : Int.toNat 0 = 0 := rfl
            have hli : (nI (s.ps.getD i [])).length = (s.ps.getD i []).length := nI_len _
            have hlp : (nI (s.ps.getD p' [])).length = (s.ps.getD p' []).length := nI_len _
            by_cases hc : hdL (s.ps.getD i []) < hdL (s.ps.getD p' [])
            · have hnx2 : bstP s.ps (cdW O.w O.D) (i + 1) = some i := by
                rw [hbs, hcd, if_pos]
                simp only [btr, Bool.true_and, decide_eq_true_eq]; exact hc
              simp only [nxV]
              generalize s.ps.getD i [] = qi at *
              generalize s.ps.getD p' [] = qp at *
              simp (disch := first | assumption | omega | rfl | simp only [RH]) only [↓RP, RG, FX, RQ, ↓reduceIte, Nat.reduceEqDiff, reduceCtorEq, Nat.reduceBEq, Nat.reduceAdd, Nat.reduceLeDiff, t8, gd, hw2, hri, hrp, hgi2, hgp2, hz0, sview_gw, hgs, Int.toNat_natCast]
              exact ⟨i + 1, hlt2, by rw [hnx2]; rfl, by omega⟩
            · have hnx2 : bstP s.ps (cdW O.w O.D) (i + 1) = some p' := by
                rw [hbs, hcd, if_neg]
                simp only [btr, Bool.true_and, decide_eq_true_eq]; exact hc
              simp only [nxV]
              generalize s.ps.getD i [] = qi at *
              generalize s.ps.getD p' [] = qp at *
              simp (disch := first | assumption | omega | rfl | simp only [RH]) only [↓RP, RG, FX, RQ, ↓reduceIte, Nat.reduceEqDiff, reduceCtorEq, Nat.reduceBEq, Nat.reduceAdd, Nat.reduceLeDiff, t8, gd, hw2, hri, hrp, hgi2, hgp2, hz0, sview_gw, hgs, Int.toNat_natCast]
              exact ⟨i + 1, hlt2, by rw [hnx2]; rfl, by omega⟩
        · have hw2 : ¬ (fI m fun p => (O.w p : Int)).getD i 0 = 0 := by rw [gwi]; omega
          have hnx2 : bstP s.ps (cdW O.w O.D) (i + 1) = B := by rw [hbs, hcdd, hd', decide_eq_false hw]; rfl
          simp (disch := first | assumption | omega | rfl | simp only [RH]) only [↓RP, RG, FX, RQ, ↓reduceIte, Nat.reduceEqDiff, reduceCtorEq, Nat.reduceBEq, Nat.reduceAdd, Nat.reduceLeDiff, t8, gd, hw2, Int.toNat_natCast]
          exact ⟨i + 1, hlt2, by rw [hnx2]; rfl, by omega⟩
    · obtain rfl : m = i := by omega
      rw [hp]
      simp only [nxV]
      have gp : (fB m O.D).set p true = fB m (updN O.D p true) := fB_set true
      have a1 := gws_at (k := 8) (rs := fL m F) (a := p) (by omega)
      rw [fL_get hpm] at a1
      have oh : ∀ (p0 p1 p2 p3 p4 p5 p6 p7 : AObj) (tl : List AObj), (p0 :: p1 :: p2 :: p3 :: p4 :: p5 :: p6 :: p7 :: (gos (fL m F) ++ tl))[8 + p]? = some (go 3 (ints (nI (F p)))) := fun p0 p1 p2 p3 p4 p5 p6 p7 tl => by
        have := h8_at (o0 := p0) (o1 := p1) (o2 := p2) (o3 := p3) (o4 := p4) (o5 := p5) (o6 := p6) (o7 := p7) (rs := fL m F) (tl := tl) (a := p) (by omega)
        rw [fL_get hpm] at this
        exact this
      have hfl : (F p).length ≤ 64 * 64 := by
        have h1 := ((hgi n (Nat.le_refl _)).1.2 p).1
        rw [hFe] at h1
        exact Nat.le_trans h1 (Nat.mul_le_mul hn64 hn64)
      have hfl2 := nI_len (F p)
      have hpm2 : p ≤ 64 := by omega
      simp (disch := first | assumption | omega | rfl | simp only [RH]) only [↓RP, RG, FX, RQ, ↓reduceIte, Nat.reduceEqDiff, reduceCtorEq, Nat.reduceBEq, Nat.reduceAdd, Nat.reduceLeDiff, t8, s8, gp, cA_any, a1, oh, Int.toNat_natCast]
      obtain ⟨D1, hD1⟩ : ∃ D1, updN O.D p true = D1 := ⟨_, rfl⟩
      simp only [hD1] at hnx ⊢
      have hOw : ∀ r, O.w r ≤ m := fun r => by
        rw [hok.o1, hm]
        exact Nat.le_trans List.countP_le_length (by simp)
      have hwr : ∀ i r, (F p)[i]? = some r → r < m ∧ 1 ≤ wDec O.w ((F p).take i) r ∧ wDec O.w ((F p).take i) r ≤ m := fun i r hr => by
        have hmem := List.mem_of_getElem? hr
        have hl := (hF r p).1 hmem
        have h2 := (hS.lies_lt hl).2
        have hnd := hFn p
        obtain ⟨hil, he⟩ := List.getElem?_eq_some_iff.1 hr
        have hnt : ¬ r ∈ (F p).take i := fun h => by
          obtain ⟨j, hj, hje⟩ := List.mem_iff_getElem.1 h
          rw [List.getElem_take] at hje
          rw [List.length_take] at hj
          exact List.pairwise_iff_getElem.1 hnd j i _ _ (by omega) (hje.trans he.symm)
        rw [wDec_get ((List.take_sublist _ _).nodup hnd), if_neg hnt]
        refine ⟨by omega, ?_, hOw r⟩
        rw [hok.o1]
        refine List.countP_pos_iff.2 ⟨p, List.mem_range.2 (by omega), ?_⟩
        have hcp := (bstP_some hp).2.1
        unfold cdW at hcp
        rw [Bool.and_eq_true] at hcp ⊢
        exact ⟨hcp.1, decide_eq_true hmem⟩
      refine loopK_I [4, 6, 7, 14, 15, 16, 116, 117, 166, 167, 168] (fun i : Nat => i ≤ (F p).length) (fun i => ⟨[(4, .ptr 3 0 7), (6, .ref 6 0 m m), (7, .ref 7 0 m m), (14, gw true (m + 9) (rowsC O.out)), (15, .ref (m + 8) 0 m m), (16, I p), (116, I m), (117, I k), (166, gw true (8 + p) (ints (nI (F p)))), (167, I (F p).length), (168, I i)], o0 :: o1 :: ⟨3, 1, ints (fI n s.pt)⟩ :: ⟨79, 7, [.list true false n (LL (abv W n l)), .ref 0 0 n n, .ref 1 0 n n, .ref 2 0 n n, x4, I s.mt, gw true 5 (rowsC s.ps)]⟩ :: o4 :: go 25 (rowsC s.ps) :: ⟨3, 1, ints (fI m fun x => ((wDec O.w ((F p).take i)) x : Int))⟩ :: ⟨25, 1, gws 8 (fL m F)⟩ :: (gos (fL m F) ++ [⟨4, 1, bools (fB m D1)⟩, go 25 (rowsC (O.out))])⟩) (fun i => (F p).length - i) 0 (by omega) (by simp only [↓RP, RG, FX, RQ, ↓reduceIte, Nat.reduceEqDiff, reduceCtorEq, Nat.reduceBEq, Nat.reduceAdd, Nat.reduceLeDiff, hfl2]; rfl) ?_
      intro i hi
      by_cases hlt3 : i < (F p).length
      · obtain ⟨r, hr⟩ : ∃ r, (F p)[i]? = some r := ⟨_, List.getElem?_eq_getElem hlt3⟩
        obtain ⟨hrm, hw1, hw2⟩ := hwr i r hr
        have hws : wDec O.w ((F p).take (i + 1)) = updN (wDec O.w ((F p).take i)) r (wDec O.w ((F p).take i) r - 1) := by
          unfold wDec
          rw [List.take_add_one, hr, Option.toList_some, List.foldl_append]; rfl
        generalize wDec O.w ((F p).take i) = w at *
        have hgr : (nI (F p)).getD i 0 = (r : Int) := by simp [nI, List.getD_eq_getElem?_getD, hr]
        have gw0 : (fI m fun x => (w x : Int)).getD r 0 = (w r : Int) := fI_get hrm
        have m7 := fI_len m fun x => (w x : Int)
        have e1 : (fI m fun x => (w x : Int)).set r ((w r : Int) - 1) = fI m fun x => ((updN w r (w r - 1) x : Nat) : Int) := by
          rw [fI_set, show (w r : Int) - 1 = ((w r - 1 : Nat) : Int) by omega, upd_cast]
        have hix : (i : Int) < ((ints (nI (F p))).length : Int) := by rw [ints_length, hfl2]; omega
        have hcA : cA (some (go 3 (ints (nI (F p))))) (nI (F p)).length = some (ints (nI (F p))) := cA_go (ints_length _)
        simp (disch := first | assumption | omega | rfl | simp only [RH]) only [↓RP, RG, FX, RQ, ↓reduceIte, Nat.reduceEqDiff, reduceCtorEq, Nat.reduceBEq, Nat.reduceAdd, Nat.reduceLeDiff, idx_gw, cA_any, hcA, oh, hgr, gw0, e1, Int.toNat_natCast]
        exact ⟨i + 1, hlt3, by rw [hws]; rfl, by omega⟩
      · obtain rfl : (F p).length = i := by omega
        rw [List.take_length]
        have hrp := rowsC_at (ps := s.ps) (i := p) (by omega)
        have hro : rowsC O.out ++ [AVal.list true false (nI (s.ps.getD p [])).length (ints (nI (s.ps.getD p [])))] = rowsC (O.out ++ [s.ps.getD p []]) := by simp [rowsC]
        have hap : ∀ p0 p1 p2 p3 p4 p5 p6 p7 tt : AObj, aAppend Tryz.prog 28 (p0 :: p1 :: p2 :: p3 :: p4 :: p5 :: p6 :: p7 :: (gos (fL m F) ++ [tt, go 25 (rowsC O.out)])) (gw true (m + 9) (rowsC O.out)) (.lit 1 [.list true false (nI (s.ps.getD p [])).length (ints (nI (s.ps.getD p [])))]) = some (gw true (m + 9) (rowsC (O.out ++ [s.ps.getD p []])), p0 :: p1 :: p2 :: p3 :: p4 :: p5 :: p6 :: p7 :: (gos (fL m F) ++ [tt, go 25 (rowsC (O.out ++ [s.ps.getD p []]))])) := fun p0 p1 p2 p3 p4 p5 p6 p7 tt => by
          rw [append_list (e := 25) (xs := rowsC O.out) (by rw [t9]; rfl) (by simp [rowsC, hol]; omega), s9, hro]; rfl
        simp (disch := first | assumption | omega | rfl | simp only [RH]) only [↓RP, RG, FX, RQ, ↓reduceIte, Nat.reduceEqDiff, reduceCtorEq, Nat.reduceBEq, Nat.reduceAdd, Nat.reduceLeDiff, hrp, t9, s9, hap, sview_gw, hgs, Int.toNat_natCast]
        exact ⟨k + 1, hlt, Wk.of_eq (by rw [hnx]; rfl), by omega⟩
  · obtain rfl : m = k := by omega
    rw [hO'] at hfin
    simp (disch := first | assumption | omega | rfl | simp only [RH]) only [↓RP, RG, FX, RQ, ↓reduceIte, Nat.reduceEqDiff, reduceCtorEq, Nat.reduceBEq, Nat.reduceAdd, Nat.reduceLeDiff]
    rw [resVal_1 rfl]; simp (disch := first | assumption | omega | rfl | simp only [RH]) only [↓RP, RG, FX, RQ, ↓reduceIte, Nat.reduceEqDiff, reduceCtorEq, Nat.reduceBEq, Nat.reduceAdd, Nat.reduceLeDiff, RS]
    have hgx : (gos (fL m F) ++ [⟨4, 1, bools (fB m O.D)⟩, go 25 (rowsC O.out)])[m + 1]? = some (go 25 (rowsC O.out)) := by
      rw [List.getElem?_append_right (by rw [hgl]; omega), hgl, Nat.add_sub_cancel_left]; rfl
    rw [hgx, gaR_go, rowsC_res, hfin]
    simp only [PV, PL, rowsC, List.length_map, Bool.true_and, List.isEmpty_map]
end Go.Proofs.YtdbpkjanlafajaaGreatDoor

/- Chapter 11: the reference's table of what holds what. -/
set_option linter.unusedSimpArgs false
set_option linter.unusedVariables false
set_option maxRecDepth 100000
namespace Go.Proofs.YtdbpkjanlafajaaGreatDoor
open Go Go.Proofs Go.AW

section
variable {p0 p1 : AObj} {g : Nat → List Bool} {i : Nat} {tl : List AObj}
end
end Go.Proofs.YtdbpkjanlafajaaGreatDoor

/- Chapter 11: the reference's list of the parts. -/
set_option linter.unusedSimpArgs false
set_option linter.unusedVariables false
set_option maxRecDepth 100000
namespace Go.Proofs.YtdbpkjanlafajaaGreatDoor
open Go Go.Proofs Go.AW

end Go.Proofs.YtdbpkjanlafajaaGreatDoor

/- Chapter 11: the reference's list, part by part. Plain. -/
set_option linter.unusedSimpArgs false
set_option linter.unusedVariables false
set_option maxRecDepth 100000
namespace Go.Proofs.YtdbpkjanlafajaaGreatDoor
open Go Go.Proofs Go.AW

def lSt (hd : Nat → Nat → Bool) (n : Nat) : Nat → List (List Nat) × (Nat → Bool)
  | 0 => ([], fun _ => false)
  | k + 1 => match (List.range n).find? (cnd hd n (lSt hd n k).2) with
    | none => lSt hd n k
    | some a => ((lSt hd n k).1 ++ [mtl hd n a], fun b => (lSt hd n k).2 b || (hd a b && hd b a))
def lCt (hd : Nat → Nat → Bool) (n k : Nat) : Nat := (List.range n).countP (lSt hd n k).2
theorem countP_or {α : Type} {p q : α → Bool} : ∀ (l : List α), (∀ x ∈ l, q x = true → p x = false) → l.countP (fun x => p x || q x) = l.countP p + (l.filter q).length
  | [], _ => rfl
  | x :: l, h => by
    have ih := countP_or l fun y hy => h y (List.mem_cons_of_mem _ hy)
    have hx := h x List.mem_cons_self
    cases hp : p x with
    | true =>
      cases hq : q x with
      | true => rw [hx hq] at hp; cases hp
      | false =>
        rw [List.countP_cons_of_pos (by simp [hp]), List.countP_cons_of_pos hp, List.filter_cons_of_neg (by simp [hq]), ih]; omega
    | false =>
      cases hq : q x with
      | true =>
        rw [List.countP_cons_of_pos (by simp [hq]), List.countP_cons_of_neg (by simp [hp]), List.filter_cons_of_pos hq, List.length_cons, ih]; omega
      | false =>
        rw [List.countP_cons_of_neg (by simp [hp, hq]), List.countP_cons_of_neg (by simp [hp]), List.filter_cons_of_neg (by simp [hq]), ih]
section
variable {ov : Nat → List Nat} {n : Nat} {ps : List (List Nat)} {pt : Nat → Int} {hd : Nat → Nat → Bool} {F : Nat → List Nat} {w : Nat → Nat}
theorem lSt_step (S : Scc ov n ps pt) (hhd : ∀ a b, a < n → b < n → (hd a b = true ↔ Wy ov a b)) (hF : ∀ p q, p ∈ F q ↔ lies ov pt p q) (hFn : ∀ q, (F q).Nodup) (O : OInv ov n ps pt F 0 w fun _ => false) {k : Nat} (hk : k < ps.length)
    (i1 : (lSt hd n k).1 = (oAt ps F w k).out) (i2 : ∀ b (q : Nat), pt b = (q : Int) → (lSt hd n k).2 b = (oAt ps F w k).D q) :
    (∃ a, a < n ∧ (List.range n).find? (cnd hd n (lSt hd n k).2) = some a ∧ (∀ b, b < n → hd a b = true → hd b a = true → (lSt hd n k).2 b = false) ∧ hd a a = true) ∧
    (lSt hd n (k + 1)).1 = (oAt ps F w (k + 1)).out ∧ ∀ b (q : Nat), pt b = (q : Int) → (lSt hd n (k + 1)).2 b = (oAt ps F w (k + 1)).D q := by
  obtain ⟨o1, _, _⟩ := oAt_inv S hhd hF hFn O k (by omega)
  obtain ⟨p, hp⟩ := o1.some S hF hk
  obtain ⟨a, ha, hpa, hfind⟩ := S.next_is hhd i2 o1.o2 (fun p _ => o1.cd_iff S hF) hp
  have hs : oAt ps F w (k + 1) = ⟨wDec (oAt ps F w k).w (F p), updN (oAt ps F w k).D p true, (oAt ps F w k).out ++ [ps.getD p []]⟩ := by
    show oStep ps F (oAt ps F w k) = _
    unfold oStep; rw [hp]
  have hl : lSt hd n (k + 1) = ((lSt hd n k).1 ++ [mtl hd n a], fun b => (lSt hd n k).2 b || (hd a b && hd b a)) := by
    rw [lSt, hfind]
  have hm : ∀ b, b < n → ∀ q : Nat, pt b = (q : Int) → ((hd a b && hd b a) = true ↔ q = p) := fun b hbn q hq => by
    rw [Bool.and_eq_true, hhd a b ha hbn, hhd b a hbn ha, ← S.p3 a b (by omega), hq, hpa]
    omega
  refine ⟨⟨a, ha, hfind, fun b hb h1 h2 => ?_, (hhd a a ha ha).2 (.refl a)⟩, ?_, fun b q hq => ?_⟩
  · have h0 := S.all b hb
    have hq : pt b = ((pt b).toNat : Int) := by omega
    have := (hm b hb _ hq).1 (by rw [h1, h2]; rfl)
    rw [i2 b _ hq, this]
    have := (bstP_some hp).2.1
    unfold cdW at this
    rw [Bool.and_eq_true] at this
    simpa using this.1
  · rw [hl, hs]
    show _ ++ _ = _ ++ _
    rw [i1, S.part_is hhd ha hpa]
  · have hbn : b < n := S.lt b (by omega)
    rw [hl, hs]
    show ((lSt hd n k).2 b || (hd a b && hd b a)) = updN _ p true q
    have hmm := hm b hbn q hq
    by_cases hqp : q = p
    · rw [hqp, updN_same, hmm.2 hqp]; simp
    · rw [updN_other _ _ hqp, i2 b q hq]
      have : (hd a b && hd b a) = false := by
        cases h : (hd a b && hd b a) with
        | false => rfl
        | true => exact absurd (hmm.1 h) hqp
      rw [this]; simp
theorem lSt_inv (S : Scc ov n ps pt) (hhd : ∀ a b, a < n → b < n → (hd a b = true ↔ Wy ov a b)) (hF : ∀ p q, p ∈ F q ↔ lies ov pt p q) (hFn : ∀ q, (F q).Nodup) (O : OInv ov n ps pt F 0 w fun _ => false) :
    ∀ k, k ≤ ps.length → (lSt hd n k).1 = (oAt ps F w k).out ∧ ∀ b (q : Nat), pt b = (q : Int) → (lSt hd n k).2 b = (oAt ps F w k).D q
  | 0, _ => ⟨rfl, fun _ _ _ => rfl⟩
  | k + 1, hk => by
    obtain ⟨i1, i2⟩ := lSt_inv S hhd hF hFn O k (by omega)
    exact (lSt_step S hhd hF hFn O (by omega) i1 i2).2
theorem lSt_run (S : Scc ov n ps pt) (hhd : ∀ a b, a < n → b < n → (hd a b = true ↔ Wy ov a b)) (hF : ∀ p q, p ∈ F q ↔ lies ov pt p q) (hFn : ∀ q, (F q).Nodup) (O : OInv ov n ps pt F 0 w fun _ => false) :
    (∀ k, k < ps.length → lCt hd n k < n ∧ ∃ a, a < n ∧ (List.range n).find? (cnd hd n (lSt hd n k).2) = some a ∧ hd a a = true ∧ lCt hd n (k + 1) = lCt hd n k + (mtl hd n a).length ∧ (∀ b, b < n → hd a b = true → hd b a = true → (lSt hd n k).2 b = false)) ∧
    lCt hd n ps.length = n ∧ (lSt hd n ps.length).1 = lsP hd n n fun _ => false := by
  refine ⟨fun k hk => ?_, ?_, ?_⟩
  · obtain ⟨i1, i2⟩ := lSt_inv S hhd hF hFn O k (by omega)
    obtain ⟨⟨a, ha, hf, hz, haa⟩, _⟩ := lSt_step S hhd hF hFn O hk i1 i2
    have hl : lSt hd n (k + 1) = ((lSt hd n k).1 ++ [mtl hd n a], fun b => (lSt hd n k).2 b || (hd a b && hd b a)) := by
      rw [lSt, hf]
    have hct : lCt hd n (k + 1) = lCt hd n k + (mtl hd n a).length := by
      unfold lCt
      rw [hl]
      refine countP_or _ fun x hx hq => ?_
      rw [Bool.and_eq_true] at hq
      exact hz x (List.mem_range.1 hx) hq.1 hq.2
    have hle : lCt hd n (k + 1) ≤ n := by
      unfold lCt
      exact Nat.le_trans List.countP_le_length (by simp)
    have hpos : 0 < (mtl hd n a).length := List.length_pos_iff.2 fun h => by
      have : a ∈ mtl hd n a := by rw [mtl, List.mem_filter, haa]; exact ⟨List.mem_range.2 ha, rfl⟩
      rw [h] at this; cases this
    exact ⟨by omega, a, ha, hf, haa, hct, hz⟩
  · obtain ⟨_, i2⟩ := lSt_inv S hhd hF hFn O ps.length (Nat.le_refl _)
    obtain ⟨o1, _, _⟩ := oAt_inv S hhd hF hFn O ps.length (Nat.le_refl _)
    have hall : ∀ p, p < ps.length → (oAt ps F w ps.length).D p = true := by
      have h2 : (List.range ps.length).countP (oAt ps F w ps.length).D = (List.range ps.length).length := by rw [o1.o3]; simp
      exact fun p hp => (List.countP_eq_length.1 h2) p (List.mem_range.2 hp)
    unfold lCt
    have : (List.range n).countP (lSt hd n ps.length).2 = (List.range n).length := List.countP_eq_length.2 fun b hb => by
      have hbn := List.mem_range.1 hb
      have h0 := S.all b hbn
      obtain ⟨l, h1, _⟩ := (S.p1 b (pt b).toNat).1 (by omega)
      have hlt := (List.getElem?_eq_some_iff.1 h1).1
      rw [i2 b (pt b).toNat (by omega)]
      exact hall _ hlt
    rw [this]; simp
  · rw [(lSt_inv S hhd hF hFn O ps.length (Nat.le_refl _)).1]
    exact oAt_all S hhd hF hFn O
end
end Go.Proofs.YtdbpkjanlafajaaGreatDoor

/- Chapter 11: the reference's list of the parts. -/
set_option linter.unusedSimpArgs false
set_option linter.unusedVariables false
set_option maxRecDepth 100000
namespace Go.Proofs.YtdbpkjanlafajaaGreatDoor
open Go Go.Proofs Go.AW

theorem lists_run (W n : Nat) (l : List Bool) : ∃ m, m ≤ n ∧ (∀ k, k < m → lCt (hdB W n l) n k < n ∧ ∃ a, a < n ∧ (List.range n).find? (cnd (hdB W n l) n (lSt (hdB W n l) n k).2) = some a ∧ hdB W n l a a = true ∧ lCt (hdB W n l) n (k + 1) = lCt (hdB W n l) n k + (mtl (hdB W n l) n a).length ∧ (∀ b, b < n → hdB W n l a b = true → hdB W n l b a = true → (lSt (hdB W n l) n k).2 b = false)) ∧
    lCt (hdB W n l) n m = n ∧ (lSt (hdB W n l) n m).1 = PL W n l := by
  have hS := tAll_scc (ov := adjT W n l) (n := n) adjT_in
  obtain ⟨hF, hFn, hO⟩ := gAll_lies hS (m := (tAll (adjT W n l) n n).ps.length) rfl adjT_in (fun a _ => adjT_le W n l a)
  have h := lSt_run hS (fun a b ha hb => hdB_iff ha hb) hF hFn hO
  exact ⟨_, hS.len_le, h.1, h.2.1, h.2.2⟩
section
variable {p0 p1 p2 : AObj} {rs : List (List Int)} {i : Nat} {tl : List AObj}
end
theorem lSt_len {hd : Nat → Nat → Bool} {n m : Nat} (h : ∀ k, k < m → ∃ a, (List.range n).find? (cnd hd n (lSt hd n k).2) = some a) : ∀ k, k ≤ m → (lSt hd n k).1.length = k
  | 0, _ => rfl
  | k + 1, hk => by
    obtain ⟨a, ha⟩ := h k (by omega)
    rw [lSt, ha]
    show ((lSt hd n k).1 ++ [mtl hd n a]).length = _
    rw [List.length_append, lSt_len h k (by omega)]; rfl
end Go.Proofs.YtdbpkjanlafajaaGreatDoor

/- Chapter 11: the parts hold each thread once. -/
set_option linter.unusedSimpArgs false
set_option linter.unusedVariables false
set_option maxRecDepth 100000
namespace Go.Proofs.YtdbpkjanlafajaaGreatDoor
open Go Go.Proofs Go.AW

theorem lSt_flat {hd : Nat → Nat → Bool} {n m : Nat} (h : ∀ k, k < m → ∃ a, a < n ∧ (List.range n).find? (cnd hd n (lSt hd n k).2) = some a ∧ (∀ b, b < n → hd a b = true → hd b a = true → (lSt hd n k).2 b = false)) : ∀ k, k ≤ m → (lSt hd n k).1.flatten.Nodup ∧ ∀ x, x ∈ (lSt hd n k).1.flatten ↔ x < n ∧ (lSt hd n k).2 x = true
  | 0, _ => ⟨List.nodup_nil, fun x => ⟨(fun h => by cases h), fun h => by cases h.2⟩⟩
  | k + 1, hk => by
    obtain ⟨i1, i2⟩ := lSt_flat h k (by omega)
    obtain ⟨a, ha, hf, hz⟩ := h k (by omega)
    have hs : lSt hd n (k + 1) = ((lSt hd n k).1 ++ [mtl hd n a], fun b => (lSt hd n k).2 b || (hd a b && hd b a)) := by
      rw [lSt, hf]
    rw [hs]
    have hm : ∀ x, x ∈ mtl hd n a ↔ x < n ∧ hd a x = true ∧ hd x a = true := fun x => by
      rw [mtl, List.mem_filter, List.mem_range, Bool.and_eq_true]
    have he : ((lSt hd n k).1 ++ [mtl hd n a]).flatten = (lSt hd n k).1.flatten ++ mtl hd n a := by simp
    show ((lSt hd n k).1 ++ [mtl hd n a]).flatten.Nodup ∧ ∀ x, x ∈ ((lSt hd n k).1 ++ [mtl hd n a]).flatten ↔ x < n ∧ ((lSt hd n k).2 x || (hd a x && hd x a)) = true
    rw [he]
    refine ⟨List.nodup_append.2 ⟨i1, List.Pairwise.filter _ List.nodup_range, fun x hx y hy e => ?_⟩, fun x => ?_⟩
    · subst e
      have h1 := (i2 x).1 hx
      have h2 := (hm x).1 hy
      rw [hz x h2.1 h2.2.1 h2.2.2] at h1
      cases h1.2
    · rw [List.mem_append, i2, hm, Bool.or_eq_true, Bool.and_eq_true]
      constructor
      · rintro (⟨h1, h2⟩ | ⟨h1, h2⟩)
        · exact ⟨h1, .inl h2⟩
        · exact ⟨h1, .inr h2⟩
      · rintro ⟨h1, h2 | h2⟩
        · exact .inl ⟨h1, h2⟩
        · exact .inr ⟨h1, h2⟩
theorem PL_flat (W n : Nat) (l : List Bool) : (PL W n l).flatten.Nodup ∧ ∀ x, x ∈ (PL W n l).flatten ↔ x < n := by
  obtain ⟨m, hmn, hst, hcm, hfin⟩ := lists_run W n l
  obtain ⟨h1, h2⟩ := lSt_flat (m := m) (fun k hk => (hst k hk).2.imp fun a h => ⟨h.1, h.2.1, h.2.2.2.2⟩) m (Nat.le_refl _)
  rw [hfin] at h1 h2
  refine ⟨h1, fun x => ⟨fun h => ((h2 x).1 h).1, fun h => (h2 x).2 ⟨h, ?_⟩⟩⟩
  unfold lCt at hcm
  have : (List.range n).countP (lSt (hdB W n l) n m).2 = (List.range n).length := by rw [hcm]; simp
  exact List.countP_eq_length.1 this x (List.mem_range.2 h)
theorem PL_row {W n : Nat} {l : List Bool} {r : List Nat} (hr : r ∈ PL W n l) : r.length ≤ n ∧ ∀ x ∈ r, x < n := by
  obtain ⟨h1, h2⟩ := PL_flat W n l
  have hs : ∀ x ∈ r, x < n := fun x hx => (h2 x).1 (List.mem_flatten.2 ⟨r, hr, hx⟩)
  exact ⟨nodup_lt n r ((List.sublist_flatten_of_mem hr).nodup h1) hs, hs⟩
end Go.Proofs.YtdbpkjanlafajaaGreatDoor

/- Chapter 11: what holds a thread, by both. -/
set_option linter.unusedSimpArgs false
set_option linter.unusedVariables false
set_option maxRecDepth 100000
namespace Go.Proofs.YtdbpkjanlafajaaGreatDoor
open Go Go.Proofs Go.AW

/-- What the search has met. -/
structure Met (ov : Nat → List Nat) (n a : Nat) (q : List Nat) : Prop where
  nd : q.Nodup
  wy : ∀ x ∈ q, x < n ∧ Wy ov a x
  me : a ∈ q
theorem Met.len {ov : Nat → List Nat} {n a : Nat} {q : List Nat} (h : Met ov n a q) : q.length ≤ n :=
  nodup_lt n q h.nd fun x hx => (h.wy x hx).1
theorem Met.push {ov : Nat → List Nat} {n a : Nat} {q : List Nat} (h : Met ov n a q) {c y : Nat} (hc : c ∈ q) (hy : y ∈ ov c) (hyn : y < n) (hq : ¬ y ∈ q) : Met ov n a (q ++ [y]) :=
  ⟨List.nodup_append.2 ⟨h.nd, by simp, fun x hx z hz e => hq (by rw [List.mem_singleton] at hz; rw [← hz, ← e]; exact hx)⟩,
   fun x hx => by
    rcases List.mem_append.1 hx with h1 | h1
    · exact h.wy x h1
    · rw [List.mem_singleton.1 h1]; exact ⟨hyn, (h.wy c hc).2.trans (.one hy)⟩,
   List.mem_append_left _ h.me⟩
end Go.Proofs.YtdbpkjanlafajaaGreatDoor

/- Chapter 11: the parts, by both. -/
set_option linter.unusedSimpArgs false
set_option linter.unusedVariables false
set_option maxRecDepth 100000
namespace Go.Proofs.YtdbpkjanlafajaaGreatDoor
open Go Go.Proofs Go.AW

theorem rowsC_fr (k : Nat) (ps : List (List Nat)) : ∀ x, x ∈ rowsC ps → allFresh (k + 2) x = true := by
  intro x hx
  obtain ⟨r, _, rfl⟩ := List.mem_map.1 hx
  simp [allFresh, ints_fresh]
theorem PV_fr (k : Nat) (ps : List (List Nat)) : allFresh (k + 3) (PV ps) = true := by
  show ((true || (rowsC ps).isEmpty) && (rowsC ps).all (allFresh (k + 2))) = true
  rw [Bool.true_or, Bool.true_and, List.all_eq_true]
  exact rowsC_fr k ps
theorem PV_res (h : List AObj) (k : Nat) (ps : List (List Nat)) : resOf h (k + 3) (PV ps) = PV ps := by
  show resOf h (k + 2 + 1) (.list true _ _ (rowsC ps)) = _
  rw [resOf_list, rowsC_res]; rfl
theorem parts_len {W n : Nat} {l : List Bool} : (PL W n l).length ≤ n := by
  obtain ⟨m, hmn, hst, hcm, hfin⟩ := lists_run W n l
  rw [← hfin, lSt_len (m := m) (fun k hk => (hst k hk).2.imp fun a h => h.2.1) m (Nat.le_refl _)]
  exact hmn
theorem partsPP_c {W H n : Nat} (hN : W + H = n) (hW0 : 0 < W) (hH0 : 0 < H) (hn64 : n ≤ 64) (b : Bool) {l : List Bool} (hn : l.length = W * H) : Contract Tryz.prog 7 [GA W H b l] (.tuple [PV (PL W n l), I 0]) := by
  have hz : gchk W H l.length = 0 := gchk_ok ⟨by omega, by omega, by omega, by omega, by rw [hn, Int.natCast_mul]⟩
  refine Contract.intro (effS [] false) 6 follows Tryz.func7 rfl rfl (by kernel_rfl) (Nat.le_of_ble_eq_true rfl) ?_
  simp (disch := first | assumption | omega | rfl | simp only [RH]) only [↓RP, RG, FX, RQ, ↓reduceIte, Nat.reduceEqDiff, reduceCtorEq, Nat.reduceBEq, Nat.reduceAdd, Nat.reduceLeDiff, args0_1]
  refine callK_F 6 (gcheckP_c W H b l) (by simp (disch := first | assumption | omega | rfl | simp only [RH]) only [↓RP, RG, FX, RQ, ↓reduceIte, Nat.reduceEqDiff, reduceCtorEq, Nat.reduceBEq, Nat.reduceAdd, Nat.reduceLeDiff, RA] <;> rfl) (.inl (by simp [allFresh, ints_fresh, bools_fresh])) ?_
  simp (disch := first | assumption | omega | rfl | simp only [RH]) only [↓RP, RG, FX, RQ, ↓reduceIte, Nat.reduceEqDiff, reduceCtorEq, Nat.reduceBEq, Nat.reduceAdd, Nat.reduceLeDiff, hz]
  refine callK_F 6 (partsP_c hN hW0 hH0 hn64 b hn) (by simp (disch := first | assumption | omega | rfl | simp only [RH]) only [↓RP, RG, FX, RQ, ↓reduceIte, Nat.reduceEqDiff, reduceCtorEq, Nat.reduceBEq, Nat.reduceAdd, Nat.reduceLeDiff, RA] <;> rfl) (.inl (PV_fr 3 _)) ?_
  simp (disch := first | assumption | omega | rfl | simp only [RH]) only [↓RP, RG, FX, RQ, ↓reduceIte, Nat.reduceEqDiff, reduceCtorEq, Nat.reduceBEq, Nat.reduceAdd, Nat.reduceLeDiff]
  rw [resVal_2 rfl]; simp (disch := first | assumption | omega | rfl | simp only [RH]) only [↓RP, RG, FX, RQ, ↓reduceIte, Nat.reduceEqDiff, reduceCtorEq, Nat.reduceBEq, Nat.reduceAdd, Nat.reduceLeDiff, RS]
  first | done | (simp only [PV_res])
end Go.Proofs.YtdbpkjanlafajaaGreatDoor

/- Chapter 11: a layer of a part, by both. -/
set_option linter.unusedSimpArgs false
set_option linter.unusedVariables false
set_option maxRecDepth 100000
namespace Go.Proofs.YtdbpkjanlafajaaGreatDoor
open Go Go.Proofs Go.AW

def layE (W : Nat) (r : List Nat) : List Nat := r.filter fun x => decide (x < W)
def layP (W : Nat) (r : List Nat) : List Nat := (r.filter fun x => !decide (x < W)).map fun x => x - W
theorem layE_snoc (W : Nat) (r : List Nat) (x : Nat) : layE W (r ++ [x]) = layE W r ++ if x < W then [x] else [] := by
  unfold layE; rw [List.filter_append]; by_cases h : x < W <;> simp [h]
theorem layP_snoc (W : Nat) (r : List Nat) (x : Nat) : layP W (r ++ [x]) = layP W r ++ if x < W then [] else [x - W] := by
  unfold layP; rw [List.filter_append, List.map_append]; by_cases h : x < W <;> simp [h]
theorem layE_len (W : Nat) (r : List Nat) : (layE W r).length ≤ r.length := List.length_filter_le _ _
theorem layP_len (W : Nat) (r : List Nat) : (layP W r).length ≤ r.length := by
  unfold layP; rw [List.length_map]; exact List.length_filter_le _ _
/-- The cells of a layer. -/
def lyC (W : Nat) (r : List Nat) : List AVal := [LR (layE W r).isEmpty (nI (layE W r)), LR (layP W r).isEmpty (nI (layP W r))]
theorem nI_isEmpty (r : List Nat) : (nI r).isEmpty = r.isEmpty := by cases r <;> rfl
theorem layerP_c {W H n : Nat} (hN : W + H = n) (hn64 : n ≤ 64) (b : Bool) {l : List Bool} (br : Bool) {r : List Nat} (hr : ∀ x ∈ r, x < n) (hrl : r.length ≤ 1000) : Contract Tryz.prog 44 [GA W H b l, LA br (nI r)] (.agg (lyC W r)) := by
  have hlen := nI_len r
  refine Contract.intro (effS [] false) 6 follows Tryz.func44 rfl rfl (by kernel_rfl) (Nat.le_of_ble_eq_true rfl) ?_
  simp (disch := first | assumption | omega | rfl | simp only [RH]) only [↓RP, RG, FX, RQ, ↓reduceIte, Nat.reduceEqDiff, reduceCtorEq, Nat.reduceBEq, Nat.reduceAdd, Nat.reduceLeDiff, args0_2]
  refine loopK_WW [2, 5, 4, 8, 9, 10] (fun i : Nat => i ≤ r.length) (fun i => ⟨[(2, .ptr 0 0 3), (5, .ptr 2 0 2), (4, .ptr 1 0 2), (8, LA br (nI r)), (9, I r.length), (10, I i)], [⟨24, 3, [I W, I H, BA b l]⟩, ⟨50, 2, [.cap0 true, .cap0 true]⟩, ⟨50, 2, [gw true 3 (ints (nI (layE W (r.take i)))), gw true 4 (ints (nI (layP W (r.take i))))]⟩, go 3 (ints (nI (layE W (r.take i)))), go 3 (ints (nI (layP W (r.take i))))]⟩) (fun i => r.length - i) 0 (by omega) ?_ ?_
  · simp only [↓RP, RG, FX, RQ, ↓reduceIte, Nat.reduceEqDiff, reduceCtorEq, Nat.reduceBEq, Nat.reduceAdd, Nat.reduceLeDiff, hlen]
    exact Wk.weak (fun t => .refl _) (.cons _ _ _ _ (WL.refl _) (.cons _ _ _ _ (WL.refl _) (.cons _ _ _ _ (.cons (.nil _) (.cons (.nil _) .nil)) (.nil _ (by simp [go, ints, nI, layE, layP])))))
  intro i hi
  have hE := layE_len W (r.take i)
  have hP := layP_len W (r.take i)
  rw [List.length_take] at hE hP
  have hEn := nI_len (layE W (r.take i))
  have hPn := nI_len (layP W (r.take i))
  have hEl : (nI (layE W (r.take i))).length ≤ 1000000000 := by omega
  have hPl : (nI (layP W (r.take i))).length ≤ 1000000000 := by omega
  by_cases hlt : i < r.length
  · obtain ⟨x, hx⟩ : ∃ x, r[i]? = some x := ⟨_, List.getElem?_eq_getElem hlt⟩
    have hxn := hr x (List.mem_of_getElem? hx)
    have hgx : (nI r).getD i 0 = (x : Int) := by simp [nI, List.getD_eq_getElem?_getD, hx]
    have htk : r.take (i + 1) = r.take i ++ [x] := by rw [List.take_add_one, hx]; rfl
    have s1 := layE_snoc W (r.take i) x
    have s2 := layP_snoc W (r.take i) x
    rw [← htk] at s1 s2
    by_cases hxW : x < W
    · rw [if_pos hxW] at s1 s2
      rw [List.append_nil] at s2
      have e1 : nI (layE W (r.take i)) ++ [(x : Int)] = nI (layE W (r.take (i + 1))) := by rw [s1, nI_app]
      simp (disch := first | assumption | omega | rfl | simp only [RH]) only [↓RP, RG, FX, RQ, ↓reduceIte, Nat.reduceEqDiff, reduceCtorEq, Nat.reduceBEq, Nat.reduceAdd, Nat.reduceLeDiff, hgx, append_int, e1, Int.toNat_natCast]
      exact ⟨i + 1, hlt, Wk.of_eq (by rw [s2]; rfl), by omega⟩
    · rw [if_neg hxW] at s1 s2
      rw [List.append_nil] at s1
      have hsub : (x : Int) - (W : Int) = ((x - W : Nat) : Int) := by omega
      have e1 : nI (layP W (r.take i)) ++ [((x - W : Nat) : Int)] = nI (layP W (r.take (i + 1))) := by rw [s2, nI_app]
      simp (disch := first | assumption | omega | rfl | simp only [RH]) only [↓RP, RG, FX, RQ, ↓reduceIte, Nat.reduceEqDiff, reduceCtorEq, Nat.reduceBEq, Nat.reduceAdd, Nat.reduceLeDiff, hgx, hsub, append_int, e1, Int.toNat_natCast]
      exact ⟨i + 1, hlt, Wk.of_eq (by rw [s1]; rfl), by omega⟩
  · obtain rfl : r.length = i := by omega
    rw [List.take_length] at *
    simp (disch := first | assumption | omega | rfl | simp only [RH]) only [↓RP, RG, FX, RQ, ↓reduceIte, Nat.reduceEqDiff, reduceCtorEq, Nat.reduceBEq, Nat.reduceAdd, Nat.reduceLeDiff]
    rw [resVal_1 rfl]; simp (disch := first | assumption | omega | rfl | simp only [RH]) only [↓RP, RG, FX, RQ, ↓reduceIte, Nat.reduceEqDiff, reduceCtorEq, Nat.reduceBEq, Nat.reduceAdd, Nat.reduceLeDiff, RS]
    simp only [lyC, Bool.true_and, ints_isEmpty, nI_isEmpty]
end Go.Proofs.YtdbpkjanlafajaaGreatDoor

/- Chapter 11: the cloth of one part hangs together. Plain. -/
set_option linter.unusedSimpArgs false
set_option linter.unusedVariables false
set_option maxRecDepth 100000
namespace Go.Proofs.YtdbpkjanlafajaaGreatDoor
open Go Go.Proofs Go.AW

theorem lSt_mtl {hd : Nat → Nat → Bool} {n m : Nat} (h : ∀ k, k < m → ∃ a, a < n ∧ (List.range n).find? (cnd hd n (lSt hd n k).2) = some a) : ∀ k, k ≤ m → ∀ r ∈ (lSt hd n k).1, ∃ a, a < n ∧ r = mtl hd n a
  | 0, _, r, hr => by cases hr
  | k + 1, hk, r, hr => by
    obtain ⟨a, ha0, ha⟩ := h k (by omega)
    rw [lSt, ha] at hr
    rcases List.mem_append.1 (show r ∈ (lSt hd n k).1 ++ [mtl hd n a] from hr) with h1 | h1
    · exact lSt_mtl h k (by omega) r h1
    · exact ⟨a, ha0, List.mem_singleton.1 h1⟩
/-- A part: the threads that hold each other. -/
structure Part (W n : Nat) (l : List Bool) (r : List Nat) : Prop where
  inc : r.Pairwise (· < ·)
  lt : ∀ x ∈ r, x < n
  ne : r ≠ []
  mu : ∀ x y, x ∈ r → (y ∈ r ↔ Wy (adjT W n l) x y ∧ Wy (adjT W n l) y x)
theorem adj_lt {W n : Nat} {l : List Bool} {x y : Nat} (h : Wy (adjT W n l) x y) (hx : x < n) : y < n := h.closed (p := fun z => z < n) (fun _ _ _ hm => adjT_lt hm) hx
theorem mtl_part {W n : Nat} {l : List Bool} {a : Nat} (ha : a < n) : Part W n l (mtl (hdB W n l) n a) := by
  have hm : ∀ x, x ∈ mtl (hdB W n l) n a ↔ Wy (adjT W n l) a x ∧ Wy (adjT W n l) x a := fun x => by
    rw [mtl, List.mem_filter, List.mem_range, Bool.and_eq_true]
    constructor
    · rintro ⟨h1, h2, h3⟩
      exact ⟨(hdB_iff ha h1).1 h2, (hdB_iff h1 ha).1 h3⟩
    · rintro ⟨h1, h2⟩
      have hx := adj_lt h1 ha
      exact ⟨hx, (hdB_iff ha hx).2 h1, (hdB_iff hx ha).2 h2⟩
  refine ⟨List.Pairwise.filter _ List.pairwise_lt_range, fun x hx => adj_lt ((hm x).1 hx).1 ha, fun he => ?_, fun x y hx => ?_⟩
  · have : a ∈ mtl (hdB W n l) n a := (hm a).2 ⟨.refl a, .refl a⟩
    rw [he] at this; cases this
  · obtain ⟨h1, h2⟩ := (hm x).1 hx
    rw [hm]
    exact ⟨fun ⟨h3, h4⟩ => ⟨h2.trans h3, h4.trans h1⟩, fun ⟨h3, h4⟩ => ⟨h1.trans h3, h4.trans h2⟩⟩
theorem PL_part {W n : Nat} {l : List Bool} {r : List Nat} (hr : r ∈ PL W n l) : Part W n l r := by
  obtain ⟨m, hmn, hst, hcm, hfin⟩ := lists_run W n l
  rw [← hfin] at hr
  obtain ⟨a, ha, rfl⟩ := lSt_mtl (m := m) (fun k hk => (hst k hk).2.imp fun a h => ⟨h.1, h.2.1⟩) m (Nat.le_refl _) r hr
  exact mtl_part ha
/-- Each part is in the list. -/
theorem part_in {W n : Nat} {l : List Bool} {r : List Nat} (h : Part W n l r) : r ∈ PL W n l := by
  obtain ⟨x, t, rfl⟩ : ∃ x t, r = x :: t := by
    cases r with
    | nil => exact absurd rfl h.ne
    | cons x t => exact ⟨x, t, rfl⟩
  have hx := h.lt x (by simp)
  obtain ⟨r', h1, h2⟩ := List.mem_flatten.1 (((PL_flat W n l).2 x).2 hx)
  have hp := PL_part h1
  have : x :: t = r' := incN_ext _ _ h.inc hp.inc fun y => by rw [h.mu x y (by simp), hp.mu x y h2]
  rw [this]; exact h1
theorem Part.step {W n : Nat} {l : List Bool} {r : List Nat} (h : Part W n l r) {a b c : Nat} (ha : a ∈ r) (hb : b ∈ r) (hc : c ∈ adjT W n l a) (hw : Wy (adjT W n l) c b) : c ∈ r :=
  (h.mu a c ha).2 ⟨.one hc, hw.trans ((h.mu a b ha).1 hb).2⟩
/-- What holds along ways within a part. -/
theorem Part.along {W n : Nat} {l : List Bool} {r : List Nat} (h : Part W n l r) {p : Nat → Prop} (hp : ∀ x y, x ∈ r → y ∈ r → p x → y ∈ adjT W n l x → p y) {a b : Nat} (ha : a ∈ r) (hb : b ∈ r) (h0 : p a) : p b := by
  have hw := ((h.mu a b ha).1 hb).1
  induction hw with
  | refl a => exact h0
  | step hc hr ih =>
    have hcr := h.step ha hb hc hr
    exact ih hcr hb (hp _ _ ha hcr h0 hc)
theorem lay_split {r : List Nat} (h : r.Pairwise (· < ·)) (W : Nat) : r = layE W r ++ (layP W r).map (· + W) := by
  have hm : (layP W r).map (· + W) = r.filter fun x => !decide (x < W) := by
    unfold layP
    rw [List.map_map]
    conv => rhs; rw [← List.map_id (r.filter fun x => !decide (x < W))]
    refine List.map_congr_left fun x hx => ?_
    have := (List.mem_filter.1 hx).2
    simp at this
    show x - W + W = x
    omega
  rw [hm]
  refine incN_ext _ _ h (List.pairwise_append.2 ⟨List.Pairwise.filter _ h, List.Pairwise.filter _ h, fun x hx y hy => ?_⟩) fun x => ?_
  · have h1 := (List.mem_filter.1 hx).2
    have h2 := (List.mem_filter.1 hy).2
    simp at h1 h2
    omega
  · unfold layE
    rw [List.mem_append, List.mem_filter, List.mem_filter]
    by_cases hx : x < W <;> simp [hx]
/-- Both kinds of threads are in a part of two. -/
theorem Part.both {W n : Nat} {l : List Bool} {r : List Nat} (h : Part W n l r) (h1 : 1 < r.length) : 0 < (layE W r).length ∧ 0 < (layP W r).length := by
  obtain ⟨x, y, t, rfl⟩ : ∃ x y t, r = x :: y :: t := by
    match r, h1 with
    | x :: y :: t, _ => exact ⟨x, y, t, rfl⟩
  have hxy : x ≠ y := by
    have := h.inc; rw [List.pairwise_cons] at this
    have := this.1 y (by simp); omega
  have hw := ((h.mu x y (by simp)).1 (by simp)).1
  obtain ⟨c, hc, hcr⟩ : ∃ c, c ∈ adjT W n l x ∧ c ∈ x :: y :: t := by
    cases hw with
    | refl => exact absurd rfl hxy
    | step hc hr => exact ⟨_, hc, h.step (by simp) (by simp) hc hr⟩
  have hov := (mem_adjT.1 hc).2
  have hE : ∀ z, z ∈ x :: y :: t → z < W → 0 < (layE W (x :: y :: t)).length := fun z hz hzW => List.length_pos_of_mem (List.mem_filter.2 ⟨hz, decide_eq_true hzW⟩)
  have hP : ∀ z, z ∈ x :: y :: t → ¬ z < W → 0 < (layP W (x :: y :: t)).length := fun z hz hzW => by
    unfold layP
    rw [List.length_map]
    exact List.length_pos_of_mem (List.mem_filter.2 ⟨hz, by simp [hzW]⟩)
  unfold ov at hov
  by_cases hcW : c < W
  · by_cases hxW : x < W
    · rw [if_pos hcW, if_pos hxW] at hov; cases hov
    · exact ⟨hE c hcr hcW, hP x (by simp) hxW⟩
  · by_cases hxW : x < W
    · exact ⟨hE x (by simp) hxW, hP c hcr hcW⟩
    · rw [if_neg hcW, if_neg hxW] at hov; cases hov
/-- The place of a thread of the smaller cloth in the whole one. -/
def subT (W : Nat) (r : List Nat) (c : Nat) : Nat := if c < (layE W r).length then (layE W r).getD c 0 else (layP W r).getD (c - (layE W r).length) 0 + W
def subL (W : Nat) (l : List Bool) (r : List Nat) : List Bool := tabN (layE W r).length (fun x y => l.getD (W * (layP W r).getD y 0 + (layE W r).getD x 0) false) ((layE W r).length * (layP W r).length)
theorem subT_get {r : List Nat} (h : r.Pairwise (· < ·)) (W : Nat) {c : Nat} (hc : c < r.length) : subT W r c = r.getD c 0 := by
  have hs := lay_split h W
  have hl : r.length = (layE W r).length + (layP W r).length := by
    conv => lhs; rw [hs]
    simp
  unfold subT
  conv => rhs; rw [hs]
  by_cases hcE : c < (layE W r).length
  · rw [if_pos hcE, List.getD_eq_getElem?_getD, List.getD_eq_getElem?_getD, List.getElem?_append_left hcE]
  · rw [if_neg hcE, List.getD_eq_getElem?_getD, List.getD_eq_getElem?_getD, List.getElem?_append_right (by omega), List.getElem?_map]
    have : c - (layE W r).length < (layP W r).length := by omega
    rw [List.getElem?_eq_getElem this]; rfl
theorem layE_lt {W : Nat} {r : List Nat} {c : Nat} (hc : c < (layE W r).length) : (layE W r).getD c 0 < W := by
  rw [List.getD_eq_getElem?_getD, List.getElem?_eq_getElem hc]
  have := (List.mem_filter.1 (List.getElem_mem hc)).2
  simpa using this
theorem sub_ov {W : Nat} (l : List Bool) {r : List Nat} {c d : Nat} (hc : c < (layE W r).length + (layP W r).length) (hd : d < (layE W r).length + (layP W r).length) : ov (layE W r).length (subL W l r) c d = ov W l (subT W r c) (subT W r d) := by
  have hE := fun c => layE_lt (W := W) (r := r) (c := c)
  unfold subL subT
  generalize layE W r = E at *
  generalize layP W r = P at *
  have hget : ∀ x y, x < E.length → y < P.length → (tabN E.length (fun x y => l.getD (W * P.getD y 0 + E.getD x 0) false) (E.length * P.length)).getD (E.length * y + x) false = l.getD (W * P.getD y 0 + E.getD x 0) false := fun x y hx hy => by
    refine tabN_get _ _ hx ?_
    have := Nat.mul_le_mul_left E.length (show y + 1 ≤ P.length by omega)
    rw [Nat.mul_succ] at this
    omega
  have hn : ∀ z : Nat, ¬ z + W < W := fun z => by omega
  unfold ov
  by_cases h1 : c < E.length
  · have e1 := hE c h1
    rw [if_pos h1, if_pos h1, if_pos e1]
    by_cases h2 : d < E.length
    · rw [if_pos h2, if_pos h2, if_pos (hE d h2)]
    · rw [if_neg h2, if_neg h2, if_neg (hn _), hget c (d - E.length) h1 (by omega), Nat.add_sub_cancel]
  · rw [if_neg h1, if_neg h1, if_neg (hn _)]
    by_cases h2 : d < E.length
    · have e2 := hE d h2
      rw [if_pos h2, if_pos h2, if_pos e2, hget d (c - E.length) h2 (by omega), Nat.add_sub_cancel]
    · rw [if_neg h2, if_neg h2, if_neg (hn _)]
theorem lay_len {r : List Nat} (h : r.Pairwise (· < ·)) (W : Nat) : (layE W r).length + (layP W r).length = r.length := by
  have hs := lay_split h W
  conv => rhs; rw [hs]
  simp
/-- The cloth of one part hangs together. -/
theorem Part.hg {W n : Nat} {l : List Bool} {r : List Nat} (h : Part W n l r) : Hg (layE W r).length r.length (subL W l r) := by
  intro M hM ⟨c0, hc0, hM0⟩ x hx
  have hll := lay_len h.inc W
  have hT : ∀ c, c < r.length → subT W r c = r.getD c 0 := fun c hc => subT_get h.inc W hc
  have hmem : ∀ c, c < r.length → r.getD c 0 ∈ r := fun c hc => by rw [List.getD_eq_getElem?_getD, List.getElem?_eq_getElem hc]; exact List.getElem_mem hc
  have key : (fun z => ∃ c, c < r.length ∧ r.getD c 0 = z ∧ M c) (r.getD x 0) := by
    refine h.along (p := fun z => ∃ c, c < r.length ∧ r.getD c 0 = z ∧ M c) (fun a b ha hb => ?_) (hmem c0 hc0) (hmem x hx) ⟨c0, hc0, rfl, hM0⟩
    rintro ⟨c, hc, rfl, hMc⟩ hba
    obtain ⟨d, hd, rfl⟩ := List.mem_iff_getElem.1 hb
    have hdd : r.getD d 0 = r[d] := by rw [List.getD_eq_getElem?_getD, List.getElem?_eq_getElem hd]; rfl
    refine ⟨d, hd, hdd, hM c hc hMc d hd ?_⟩
    rw [sub_ov l (by omega) (by omega), hT d hd, hT c hc, hdd]
    exact (mem_adjT.1 hba).2
  obtain ⟨c, hc, he, hMc⟩ := key
  have : c = x := by
    rw [List.getD_eq_getElem?_getD, List.getD_eq_getElem?_getD, List.getElem?_eq_getElem hc, List.getElem?_eq_getElem hx] at he
    have hi := List.pairwise_iff_getElem.1 h.inc
    rcases Nat.lt_trichotomy c x with h1 | h1 | h1
    · have := hi c x hc hx h1; simp at he; omega
    · exact h1
    · have := hi x c hx hc h1; simp at he; omega
  rw [← this]; exact hMc
end Go.Proofs.YtdbpkjanlafajaaGreatDoor

/- Chapter 11: the parts are listed from below. Plain. -/
set_option linter.unusedSimpArgs false
set_option linter.unusedVariables false
set_option maxRecDepth 100000
namespace Go.Proofs.YtdbpkjanlafajaaGreatDoor
open Go Go.Proofs Go.AW

theorem lSt_pre {hd : Nat → Nat → Bool} {n : Nat} (i : Nat) : ∀ d, ∃ t, (lSt hd n (i + d)).1 = (lSt hd n i).1 ++ t
  | 0 => ⟨[], by simp⟩
  | d + 1 => by
    obtain ⟨t, ht⟩ := lSt_pre (hd := hd) (n := n) i d
    show ∃ t, (lSt hd n ((i + d) + 1)).1 = _
    rw [lSt]
    split
    · exact ⟨t, ht⟩
    · rename_i a _
      exact ⟨t ++ [mtl hd n a], by show (lSt hd n (i + d)).1 ++ _ = _; rw [ht, List.append_assoc]⟩
/-- What holds a thread of a part is in that part, or in one listed ahead of it. -/
theorem PL_below {W n : Nat} {l : List Bool} {i : Nat} (hi : i < (PL W n l).length) {a b : Nat} (ha : a ∈ (PL W n l).getD i []) (hb : b < n) (hw : Wy (adjT W n l) a b) : ∃ j, j ≤ i ∧ b ∈ (PL W n l).getD j [] := by
  obtain ⟨m, hmn, hst, hcm, hfin⟩ := lists_run W n l
  have hlen := lSt_len (m := m) (fun k hk => (hst k hk).2.imp fun a h => h.2.1)
  have hflat := lSt_flat (m := m) (fun k hk => (hst k hk).2.imp fun a h => ⟨h.1, h.2.1, h.2.2.2.2⟩)
  have hml : (PL W n l).length = m := by rw [← hfin, hlen m (Nat.le_refl _)]
  rw [hml] at hi
  obtain ⟨_, a0, ha0, hf, haa, _⟩ := hst i hi
  have hs : (lSt (hdB W n l) n (i + 1)).1 = (lSt (hdB W n l) n i).1 ++ [mtl (hdB W n l) n a0] := by rw [lSt, hf]
  obtain ⟨t, ht⟩ := lSt_pre (hd := hdB W n l) (n := n) (i + 1) (m - (i + 1))
  rw [show i + 1 + (m - (i + 1)) = m by omega, hs, hfin] at ht
  have hli := hlen i (by omega)
  have hgi : (PL W n l).getD i [] = mtl (hdB W n l) n a0 := by
    rw [ht, List.append_assoc, List.getD_eq_getElem?_getD, List.getElem?_append_right (by omega), hli, Nat.sub_self]; rfl
  rw [hgi] at ha
  have hp := mtl_part (W := W) (l := l) ha0
  have ha0m : a0 ∈ mtl (hdB W n l) n a0 := by rw [mtl, List.mem_filter, haa]; exact ⟨List.mem_range.2 ha0, rfl⟩
  have hw0 : Wy (adjT W n l) a0 b := ((hp.mu a0 a ha0m).1 ha).1.trans hw
  obtain ⟨hf1, _, _⟩ := List.find?_range_eq_some.1 hf
  unfold cnd at hf1
  rw [Bool.and_eq_true] at hf1
  have hq := List.all_eq_true.1 hf1.2 b (List.mem_range.2 hb)
  rw [(hdB_iff ha0 hb).2 hw0] at hq
  cases hL : (lSt (hdB W n l) n i).2 b with
  | true =>
    have hbf := ((hflat i (by omega)).2 b).2 ⟨hb, hL⟩
    obtain ⟨r, hr, hbr⟩ := List.mem_flatten.1 hbf
    obtain ⟨j, hj, rfl⟩ := List.mem_iff_getElem.1 hr
    refine ⟨j, by omega, ?_⟩
    rw [ht, List.append_assoc, List.getD_eq_getElem?_getD, List.getElem?_append_left hj, List.getElem?_eq_getElem hj]
    exact hbr
  | false =>
    rw [hL] at hq
    have hba : hdB W n l b a0 = true := by simpa using hq
    refine ⟨i, Nat.le_refl _, ?_⟩
    rw [hgi, mtl, List.mem_filter, (hdB_iff ha0 hb).2 hw0, hba]
    exact ⟨List.mem_range.2 hb, rfl⟩
theorem PL_one {W n : Nat} {l : List Bool} {i j x : Nat} (hi : i < (PL W n l).length) (hj : j < (PL W n l).length) (h1 : x ∈ (PL W n l).getD i []) (h2 : x ∈ (PL W n l).getD j []) : i = j := by
  have hd := (List.pairwise_flatten.1 (PL_flat W n l).1).2
  rw [List.getD_eq_getElem?_getD, List.getElem?_eq_getElem hi] at h1
  rw [List.getD_eq_getElem?_getD, List.getElem?_eq_getElem hj] at h2
  have hp := List.pairwise_iff_getElem.1 hd
  rcases Nat.lt_trichotomy i j with h | h | h
  · exact absurd rfl (hp i j hi hj h x h1 x h2)
  · exact h
  · exact absurd rfl (hp j i hj hi h x h2 x h1)
end Go.Proofs.YtdbpkjanlafajaaGreatDoor

/- The next thread of the way, by the program. -/
set_option linter.unusedSimpArgs false
set_option linter.unusedVariables false
set_option maxRecDepth 100000
namespace Go.Proofs.YtdbpkjanlafajaaGreatDoor
open Go Go.Proofs Go.AW

end Go.Proofs.YtdbpkjanlafajaaGreatDoor

/- Accept, by the reference. -/
set_option linter.unusedSimpArgs false
set_option linter.unusedVariables false
set_option maxRecDepth 100000
namespace Go.Proofs.YtdbpkjanlafajaaGreatDoor
open Go Go.Proofs Go.AW

end Go.Proofs.YtdbpkjanlafajaaGreatDoor

/- Whole walks, and sets that come off. Plain. -/
set_option linter.unusedSimpArgs false
set_option linter.unusedVariables false
set_option maxRecDepth 100000
namespace Go.Proofs.YtdbpkjanlafajaaGreatDoor
open Go Go.Proofs Go.AW

end Go.Proofs.YtdbpkjanlafajaaGreatDoor

/- Sets told by their threads; the back. Plain. -/
set_option linter.unusedSimpArgs false
set_option linter.unusedVariables false
set_option maxRecDepth 100000
namespace Go.Proofs.YtdbpkjanlafajaaGreatDoor
open Go Go.Proofs Go.AW

/-- The threads that p wants. -/
def fil (n : Nat) (p : Nat → Bool) : List Int := nI ((List.range n).filter p)
/-- It comes off: by its threads. -/
def Offs (W n : Nat) (l : List Bool) (p : Nat → Bool) : Prop := (∃ a, a < n ∧ p a = true) ∧ (∃ a, a < n ∧ p a = false) ∧ ∀ a, a < n → ∀ c, c < n → ¬ (p a = false ∧ p c = true ∧ ov W l a c = true)
end Go.Proofs.YtdbpkjanlafajaaGreatDoor

/- Chapter 11: the parts are the finest separation. Plain. -/
set_option linter.unusedSimpArgs false
set_option linter.unusedVariables false
set_option maxRecDepth 100000
namespace Go.Proofs.YtdbpkjanlafajaaGreatDoor
open Go Go.Proofs Go.AW

theorem PL_at {W n : Nat} {l : List Bool} {i : Nat} (hi : i < (PL W n l).length) : Part W n l ((PL W n l).getD i []) :=
  PL_part (by rw [List.getD_eq_getElem?_getD, List.getElem?_eq_getElem hi]; exact List.getElem_mem hi)
end Go.Proofs.YtdbpkjanlafajaaGreatDoor

/- Grids: made cell by cell, turned. -/
set_option linter.unusedSimpArgs false
set_option linter.unusedVariables false
set_option maxRecDepth 100000
namespace Go.Proofs.YtdbpkjanlafajaaGreatDoor
open Go Go.Proofs Go.AW

end Go.Proofs.YtdbpkjanlafajaaGreatDoor

/- The back of a cloth, by the program. -/
set_option linter.unusedSimpArgs false
set_option linter.unusedVariables false
set_option maxRecDepth 100000
namespace Go.Proofs.YtdbpkjanlafajaaGreatDoor
open Go Go.Proofs Go.AW

end Go.Proofs.YtdbpkjanlafajaaGreatDoor

/- The back of a cloth, by the program; how threads lie there. -/
set_option linter.unusedSimpArgs false
set_option linter.unusedVariables false
set_option maxRecDepth 100000
namespace Go.Proofs.YtdbpkjanlafajaaGreatDoor
open Go Go.Proofs Go.AW

end Go.Proofs.YtdbpkjanlafajaaGreatDoor

/- Cloths that hang together alike. Plain. -/
set_option linter.unusedSimpArgs false
set_option linter.unusedVariables false
set_option maxRecDepth 100000
namespace Go.Proofs.YtdbpkjanlafajaaGreatDoor
open Go Go.Proofs Go.AW

end Go.Proofs.YtdbpkjanlafajaaGreatDoor

/- Numbers modulo others; where the cells of a shifted cloth were. Plain. -/
set_option linter.unusedSimpArgs false
set_option linter.unusedVariables false
set_option maxRecDepth 100000
namespace Go.Proofs.YtdbpkjanlafajaaGreatDoor
open Go Go.Proofs Go.AW

end Go.Proofs.YtdbpkjanlafajaaGreatDoor

/- Cloths shifted, mirrored, tiled hang together alike. Plain. -/
set_option linter.unusedSimpArgs false
set_option linter.unusedVariables false
set_option maxRecDepth 100000
namespace Go.Proofs.YtdbpkjanlafajaaGreatDoor
open Go Go.Proofs Go.AW

end Go.Proofs.YtdbpkjanlafajaaGreatDoor

/- Chapter 11: cloths whose parts are alike. Plain. -/
set_option linter.unusedSimpArgs false
set_option linter.unusedVariables false
set_option maxRecDepth 100000
namespace Go.Proofs.YtdbpkjanlafajaaGreatDoor
open Go Go.Proofs Go.AW

theorem wy_map {W n W' n' : Nat} {l l' : List Bool} (ψ : Nat → Nat) (h1 : ∀ a, a < n → ψ a < n') (hov : ∀ a, a < n → ∀ c, c < n → ov W l a c = true → ov W' l' (ψ a) (ψ c) = true) {a b : Nat} (h : Wy (adjT W n l) a b) (ha : a < n) : Wy (adjT W' n' l') (ψ a) (ψ b) := by
  induction h with
  | refl a => exact .refl _
  | step hc hr ih =>
    obtain ⟨h2, h3⟩ := mem_adjT.1 hc
    exact .step (mem_adjT.2 ⟨h1 _ h2, hov _ h2 _ ha h3⟩) (ih h2)
end Go.Proofs.YtdbpkjanlafajaaGreatDoor

/- Threads of a cloth: limits, sets of threads. -/
set_option linter.unusedSimpArgs false
set_option linter.unusedVariables false
set_option maxRecDepth 100000
namespace Go.Proofs.YtdbpkjanlafajaaGreatDoor
open Go Go.Proofs Go.AW

instance (w h n : Int) : Decidable (gOk w h n) := by unfold gOk; infer_instance

/-- A cloth that chapter 10's statements pass over. -/
def great10 (w h n : Int) : Prop := 200 < n ∨ gOk w h n ∧ 24 < w + h
instance (w h n : Int) : Decidable (great10 w h n) := by unfold great10; infer_instance

end Go.Proofs.YtdbpkjanlafajaaGreatDoor

/- The cloth of only some threads. -/
set_option linter.unusedSimpArgs false
set_option linter.unusedVariables false
set_option maxRecDepth 100000
namespace Go.Proofs.YtdbpkjanlafajaaGreatDoor
open Go Go.Proofs Go.AW

/-- Ends and picks among the first k threads of a list. -/
def endsOf (w : Int) (s : List Int) : Nat → List Int
  | 0 => []
  | k + 1 => if s.getD k 0 < w then endsOf w s k ++ [s.getD k 0] else endsOf w s k
def picksOf (w : Int) (s : List Int) : Nat → List Int
  | 0 => []
  | k + 1 => if s.getD k 0 < w then picksOf w s k else picksOf w s k ++ [s.getD k 0 - w]
end Go.Proofs.YtdbpkjanlafajaaGreatDoor

/- The cloth of only some threads: the program's answer. -/
set_option linter.unusedSimpArgs false
set_option linter.unusedVariables false
set_option maxRecDepth 100000
namespace Go.Proofs.YtdbpkjanlafajaaGreatDoor
open Go Go.Proofs Go.AW

end Go.Proofs.YtdbpkjanlafajaaGreatDoor

/- Chapter 11: the cloth of one part. -/
set_option linter.unusedSimpArgs false
set_option linter.unusedVariables false
set_option maxRecDepth 100000
namespace Go.Proofs.YtdbpkjanlafajaaGreatDoor
open Go Go.Proofs Go.AW

theorem ends_lay (W : Nat) (r : List Nat) : ∀ k, k ≤ r.length → endsOf (W : Int) (nI r) k = nI (layE W (r.take k)) ∧ picksOf (W : Int) (nI r) k = nI (layP W (r.take k))
  | 0, _ => ⟨rfl, rfl⟩
  | k + 1, hk => by
    obtain ⟨i1, i2⟩ := ends_lay W r k (by omega)
    obtain ⟨x, hx⟩ : ∃ x, r[k]? = some x := ⟨_, List.getElem?_eq_getElem (by omega)⟩
    have hg : (nI r).getD k 0 = (x : Int) := by simp [nI, List.getD_eq_getElem?_getD, hx]
    have htk : r.take (k + 1) = r.take k ++ [x] := by rw [List.take_add_one, hx]; rfl
    simp only [endsOf, picksOf, hg, htk, layE_snoc, layP_snoc, i1, i2]
    by_cases hxW : x < W
    · have : (x : Int) < (W : Int) := by omega
      simp only [if_pos this, if_pos hxW, List.append_nil, nI_app]
      exact ⟨trivial, trivial⟩
    · have : ¬ (x : Int) < (W : Int) := by omega
      have hs : (x : Int) - (W : Int) = ((x - W : Nat) : Int) := by omega
      simp only [if_neg this, if_neg hxW, List.append_nil, nI_app, hs]
      exact ⟨trivial, trivial⟩
end Go.Proofs.YtdbpkjanlafajaaGreatDoor

/- Double cloths: checks. -/
set_option linter.unusedSimpArgs false
set_option linter.unusedVariables false
set_option maxRecDepth 100000
namespace Go.Proofs.YtdbpkjanlafajaaGreatDoor
open Go Go.Proofs Go.AW

theorem size_c (w h : Int) (b : Bool) (l : List Bool) : Contract Tryz.prog 61 [GA w h b l] (.agg [I w, I h]) := by
  refine Contract.intro (effS [] false) 6 follows Tryz.func61 rfl rfl (by kernel_rfl) (Nat.le_of_ble_eq_true rfl) ?_
  simp (disch := first | assumption | omega | rfl | simp only [RH]) only [↓RP, RG, FX, RQ, ↓reduceIte, Nat.reduceEqDiff, reduceCtorEq, Nat.reduceBEq, Nat.reduceAdd, Nat.reduceLeDiff, args0_1]
  rw [resVal_1 rfl]; simp (disch := first | assumption | omega | rfl | simp only [RH]) only [↓RP, RG, FX, RQ, ↓reduceIte, Nat.reduceEqDiff, reduceCtorEq, Nat.reduceBEq, Nat.reduceAdd, Nat.reduceLeDiff, RS]

/-- The error of three grids. -/
def thr (w1 h1 n1 w2 h2 n2 w3 h3 n3 : Int) : Int :=
  if gchk w1 h1 n1 ≠ 0 then gchk w1 h1 n1 else if gchk w2 h2 n2 ≠ 0 then gchk w2 h2 n2 else if gchk w3 h3 n3 ≠ 0 then gchk w3 h3 n3 else if w2 = w1 ∧ h2 = h1 ∧ w3 = w1 ∧ h3 = h1 then 0 else 2

theorem check3_c (w1 h1 : Int) (b1 : Bool) (l1 : List Bool) (w2 h2 : Int) (b2 : Bool) (l2 : List Bool) (w3 h3 : Int) (b3 : Bool) (l3 : List Bool) :
    Contract Tryz.prog 42 [.list false false 3 [I w1, I h1, BA b1 l1, I w2, I h2, BA b2 l2, I w3, I h3, BA b3 l3]] (I (thr w1 h1 l1.length w2 h2 l2.length w3 h3 l3.length)) := by
  refine Contract.intro (effS [] false) 6 follows Tryz.func42 rfl rfl (by kernel_rfl) (Nat.le_of_ble_eq_true rfl) ?_
  simp (disch := first | assumption | omega | rfl | simp only [RH]) only [↓RP, RG, FX, RQ, ↓reduceIte, Nat.reduceEqDiff, reduceCtorEq, Nat.reduceBEq, Nat.reduceAdd, Nat.reduceLeDiff, args0_1]
  refine loopK_WW [0, 8, 9, 10] (fun k : Nat => k ≤ 3 ∧ (0 < k → gchk w1 h1 l1.length = 0) ∧ (1 < k → gchk w2 h2 l2.length = 0) ∧ (2 < k → gchk w3 h3 l3.length = 0)) (fun k : Nat => ⟨[(0, .list false false 3 [I w1, I h1, BA b1 l1, I w2, I h2, BA b2 l2, I w3, I h3, BA b3 l3]), (8, .list false false 3 [I w1, I h1, BA b1 l1, I w2, I h2, BA b2 l2, I w3, I h3, BA b3 l3]), (9, I 3), (10, I k)], []⟩) (fun k => 3 - k) 0 (by simp) (Wk.of_eq (by simp only [↓RP, RG, FX, RQ, ↓reduceIte, Nat.reduceEqDiff, reduceCtorEq, Nat.reduceBEq, Nat.reduceAdd, Nat.reduceLeDiff]; rfl)) ?_
  rintro k ⟨hk, o1, o2, o3⟩
  obtain rfl | rfl | rfl | rfl : k = 0 ∨ k = 1 ∨ k = 2 ∨ k = 3 := by omega
  · simp (disch := first | assumption | omega | rfl | simp only [RH]) only [↓RP, RG, FX, RQ, ↓reduceIte, Nat.reduceEqDiff, reduceCtorEq, Nat.reduceBEq, Nat.reduceAdd, Nat.reduceLeDiff, Int.natCast_zero, Int.natCast_one, Int.cast_ofNat_Int, Int.toNat_zero, Int.toNat_one, Int.reduceToNat, Nat.zero_mul, Nat.one_mul, Nat.reduceMul]
    refine callK_F 6 (gcheckP_c w1 h1 b1 l1) (by simp (disch := first | assumption | omega | rfl | simp only [RH]) only [↓RP, RG, FX, RQ, ↓reduceIte, Nat.reduceEqDiff, reduceCtorEq, Nat.reduceBEq, Nat.reduceAdd, Nat.reduceLeDiff, RA] <;> rfl) (.inl (by simp [allFresh, ints_fresh, bools_fresh])) ?_
    by_cases hz : gchk w1 h1 l1.length = 0
    · simp (disch := first | assumption | omega | rfl | simp only [RH]) only [↓RP, RG, FX, RQ, ↓reduceIte, Nat.reduceEqDiff, reduceCtorEq, Nat.reduceBEq, Nat.reduceAdd, Nat.reduceLeDiff, Int.natCast_zero, Int.natCast_one, Int.cast_ofNat_Int, Int.toNat_zero, Int.toNat_one, Int.reduceToNat, Nat.zero_mul, Nat.one_mul, Nat.reduceMul]
      exact ⟨1, ⟨by omega, by intro _; first | assumption | exact o1 (by omega) | omega, by intro _; first | assumption | exact o2 (by omega) | omega, by intro _; first | assumption | exact o3 (by omega) | omega⟩, (Wk.drop (hb := []) (h1 := []) (gs := [_]) 8 [] rfl (by simp) (by simp) (by simp)).trans (Wk.of_eq (by simp only [RK, List.idxOf?_cons, List.idxOf?_nil, Nat.reduceBEq, Option.map_some, Option.map_none, List.map_cons, List.map_nil, List.getD_cons_zero, List.getD_cons_succ, Bool.false_eq_true, ↓reduceIte, Nat.add_zero, List.append_nil]; rfl)), by omega⟩
    · simp (disch := first | assumption | omega | rfl | simp only [RH]) only [↓RP, RG, FX, RQ, ↓reduceIte, Nat.reduceEqDiff, reduceCtorEq, Nat.reduceBEq, Nat.reduceAdd, Nat.reduceLeDiff]
      rw [resVal_1 rfl]; simp (disch := first | assumption | omega | rfl | simp only [RH]) only [↓RP, RG, FX, RQ, ↓reduceIte, Nat.reduceEqDiff, reduceCtorEq, Nat.reduceBEq, Nat.reduceAdd, Nat.reduceLeDiff, RS]
      first | done | simp [thr, *]
  · have z1 := o1 (by omega)
    simp (disch := first | assumption | omega | rfl | simp only [RH]) only [↓RP, RG, FX, RQ, ↓reduceIte, Nat.reduceEqDiff, reduceCtorEq, Nat.reduceBEq, Nat.reduceAdd, Nat.reduceLeDiff, Int.natCast_zero, Int.natCast_one, Int.cast_ofNat_Int, Int.toNat_zero, Int.toNat_one, Int.reduceToNat, Nat.zero_mul, Nat.one_mul, Nat.reduceMul]
    refine callK_F 6 (gcheckP_c w2 h2 b2 l2) (by simp (disch := first | assumption | omega | rfl | simp only [RH]) only [↓RP, RG, FX, RQ, ↓reduceIte, Nat.reduceEqDiff, reduceCtorEq, Nat.reduceBEq, Nat.reduceAdd, Nat.reduceLeDiff, RA] <;> rfl) (.inl (by simp [allFresh, ints_fresh, bools_fresh])) ?_
    by_cases hz : gchk w2 h2 l2.length = 0
    · simp (disch := first | assumption | omega | rfl | simp only [RH]) only [↓RP, RG, FX, RQ, ↓reduceIte, Nat.reduceEqDiff, reduceCtorEq, Nat.reduceBEq, Nat.reduceAdd, Nat.reduceLeDiff, Int.natCast_zero, Int.natCast_one, Int.cast_ofNat_Int, Int.toNat_zero, Int.toNat_one, Int.reduceToNat, Nat.zero_mul, Nat.one_mul, Nat.reduceMul]
      exact ⟨2, ⟨by omega, by intro _; first | assumption | exact o1 (by omega) | omega, by intro _; first | assumption | exact o2 (by omega) | omega, by intro _; first | assumption | exact o3 (by omega) | omega⟩, (Wk.drop (hb := []) (h1 := []) (gs := [_]) 8 [] rfl (by simp) (by simp) (by simp)).trans (Wk.of_eq (by simp only [RK, List.idxOf?_cons, List.idxOf?_nil, Nat.reduceBEq, Option.map_some, Option.map_none, List.map_cons, List.map_nil, List.getD_cons_zero, List.getD_cons_succ, Bool.false_eq_true, ↓reduceIte, Nat.add_zero, List.append_nil]; rfl)), by omega⟩
    · simp (disch := first | assumption | omega | rfl | simp only [RH]) only [↓RP, RG, FX, RQ, ↓reduceIte, Nat.reduceEqDiff, reduceCtorEq, Nat.reduceBEq, Nat.reduceAdd, Nat.reduceLeDiff]
      rw [resVal_1 rfl]; simp (disch := first | assumption | omega | rfl | simp only [RH]) only [↓RP, RG, FX, RQ, ↓reduceIte, Nat.reduceEqDiff, reduceCtorEq, Nat.reduceBEq, Nat.reduceAdd, Nat.reduceLeDiff, RS]
      first | done | simp [thr, *]
  · have z1 := o1 (by omega)
    have z2 := o2 (by omega)
    simp (disch := first | assumption | omega | rfl | simp only [RH]) only [↓RP, RG, FX, RQ, ↓reduceIte, Nat.reduceEqDiff, reduceCtorEq, Nat.reduceBEq, Nat.reduceAdd, Nat.reduceLeDiff, Int.natCast_zero, Int.natCast_one, Int.cast_ofNat_Int, Int.toNat_zero, Int.toNat_one, Int.reduceToNat, Nat.zero_mul, Nat.one_mul, Nat.reduceMul]
    refine callK_F 6 (gcheckP_c w3 h3 b3 l3) (by simp (disch := first | assumption | omega | rfl | simp only [RH]) only [↓RP, RG, FX, RQ, ↓reduceIte, Nat.reduceEqDiff, reduceCtorEq, Nat.reduceBEq, Nat.reduceAdd, Nat.reduceLeDiff, RA] <;> rfl) (.inl (by simp [allFresh, ints_fresh, bools_fresh])) ?_
    by_cases hz : gchk w3 h3 l3.length = 0
    · simp (disch := first | assumption | omega | rfl | simp only [RH]) only [↓RP, RG, FX, RQ, ↓reduceIte, Nat.reduceEqDiff, reduceCtorEq, Nat.reduceBEq, Nat.reduceAdd, Nat.reduceLeDiff, Int.natCast_zero, Int.natCast_one, Int.cast_ofNat_Int, Int.toNat_zero, Int.toNat_one, Int.reduceToNat, Nat.zero_mul, Nat.one_mul, Nat.reduceMul]
      exact ⟨3, ⟨by omega, by intro _; first | assumption | exact o1 (by omega) | omega, by intro _; first | assumption | exact o2 (by omega) | omega, by intro _; first | assumption | exact o3 (by omega) | omega⟩, (Wk.drop (hb := []) (h1 := []) (gs := [_]) 8 [] rfl (by simp) (by simp) (by simp)).trans (Wk.of_eq (by simp only [RK, List.idxOf?_cons, List.idxOf?_nil, Nat.reduceBEq, Option.map_some, Option.map_none, List.map_cons, List.map_nil, List.getD_cons_zero, List.getD_cons_succ, Bool.false_eq_true, ↓reduceIte, Nat.add_zero, List.append_nil]; rfl)), by omega⟩
    · simp (disch := first | assumption | omega | rfl | simp only [RH]) only [↓RP, RG, FX, RQ, ↓reduceIte, Nat.reduceEqDiff, reduceCtorEq, Nat.reduceBEq, Nat.reduceAdd, Nat.reduceLeDiff]
      rw [resVal_1 rfl]; simp (disch := first | assumption | omega | rfl | simp only [RH]) only [↓RP, RG, FX, RQ, ↓reduceIte, Nat.reduceEqDiff, reduceCtorEq, Nat.reduceBEq, Nat.reduceAdd, Nat.reduceLeDiff, RS]
      first | done | simp [thr, *]
  · have z1 := o1 (by omega)
    have z2 := o2 (by omega)
    have z3 := o3 (by omega)
    simp (disch := first | assumption | omega | rfl | simp only [RH]) only [↓RP, RG, FX, RQ, ↓reduceIte, Nat.reduceEqDiff, reduceCtorEq, Nat.reduceBEq, Nat.reduceAdd, Nat.reduceLeDiff, Int.natCast_zero, Int.natCast_one, Int.cast_ofNat_Int, Int.toNat_zero, Int.toNat_one, Int.reduceToNat, Nat.zero_mul, Nat.one_mul, Nat.reduceMul]
    refine loopK_WW [0, 20, 21, 22] (fun k : Nat => k ≤ 3 ∧ (1 < k → w2 = w1 ∧ h2 = h1) ∧ (2 < k → w3 = w1 ∧ h3 = h1)) (fun k : Nat => ⟨[(0, .list false false 3 [I w1, I h1, BA b1 l1, I w2, I h2, BA b2 l2, I w3, I h3, BA b3 l3]), (20, .list false false 3 [I w1, I h1, BA b1 l1, I w2, I h2, BA b2 l2, I w3, I h3, BA b3 l3]), (21, I 3), (22, I k)], []⟩) (fun k => 3 - k) 0 (by simp) (Wk.of_eq (by simp only [↓RP, RG, FX, RQ, ↓reduceIte, Nat.reduceEqDiff, reduceCtorEq, Nat.reduceBEq, Nat.reduceAdd, Nat.reduceLeDiff]; rfl)) ?_
    rintro k ⟨hk, o2, o3⟩
    obtain rfl | rfl | rfl | rfl : k = 0 ∨ k = 1 ∨ k = 2 ∨ k = 3 := by omega
    · simp (disch := first | assumption | omega | rfl | simp only [RH]) only [↓RP, RG, FX, RQ, ↓reduceIte, Nat.reduceEqDiff, reduceCtorEq, Nat.reduceBEq, Nat.reduceAdd, Nat.reduceLeDiff, Int.natCast_zero, Int.natCast_one, Int.cast_ofNat_Int, Int.toNat_zero, Int.toNat_one, Int.reduceToNat, Nat.zero_mul, Nat.one_mul, Nat.reduceMul]
      refine callK_F 6 (size_c w1 h1 b1 l1) (by simp (disch := first | assumption | omega | rfl | simp only [RH]) only [↓RP, RG, FX, RQ, ↓reduceIte, Nat.reduceEqDiff, reduceCtorEq, Nat.reduceBEq, Nat.reduceAdd, Nat.reduceLeDiff, RA] <;> rfl) (.inl (by simp [allFresh, ints_fresh, bools_fresh])) ?_
      simp (disch := first | assumption | omega | rfl | simp only [RH]) only [↓RP, RG, FX, RQ, ↓reduceIte, Nat.reduceEqDiff, reduceCtorEq, Nat.reduceBEq, Nat.reduceAdd, Nat.reduceLeDiff, Int.natCast_zero, Int.natCast_one, Int.cast_ofNat_Int, Int.toNat_zero, Int.toNat_one, Int.reduceToNat, Nat.zero_mul, Nat.one_mul, Nat.reduceMul]
      refine callK_F 6 (size_c w1 h1 b1 l1) (by simp (disch := first | assumption | omega | rfl | simp only [RH]) only [↓RP, RG, FX, RQ, ↓reduceIte, Nat.reduceEqDiff, reduceCtorEq, Nat.reduceBEq, Nat.reduceAdd, Nat.reduceLeDiff, RA] <;> rfl) (.inl (by simp [allFresh, ints_fresh, bools_fresh])) ?_
      simp (disch := first | assumption | omega | rfl | simp only [RH]) only [↓RP, RG, FX, RQ, ↓reduceIte, Nat.reduceEqDiff, reduceCtorEq, Nat.reduceBEq, Nat.reduceAdd, Nat.reduceLeDiff, beq_self_eq_true, Bool.true_and, Bool.not_true]
      exact ⟨1, ⟨by omega, by omega, by omega⟩, (Wk.drop (hb := []) (h1 := []) (gs := [_]) 8 [] rfl (by simp) (by simp) (by simp)).trans (Wk.of_eq (by simp only [RK, List.idxOf?_cons, List.idxOf?_nil, Nat.reduceBEq, Option.map_some, Option.map_none, List.map_cons, List.map_nil, List.getD_cons_zero, List.getD_cons_succ, Bool.false_eq_true, ↓reduceIte, Nat.add_zero, List.append_nil]; rfl)), by omega⟩
    · simp (disch := first | assumption | omega | rfl | simp only [RH]) only [↓RP, RG, FX, RQ, ↓reduceIte, Nat.reduceEqDiff, reduceCtorEq, Nat.reduceBEq, Nat.reduceAdd, Nat.reduceLeDiff, Int.natCast_zero, Int.natCast_one, Int.cast_ofNat_Int, Int.toNat_zero, Int.toNat_one, Int.reduceToNat, Nat.zero_mul, Nat.one_mul, Nat.reduceMul]
      refine callK_F 6 (size_c w2 h2 b2 l2) (by simp (disch := first | assumption | omega | rfl | simp only [RH]) only [↓RP, RG, FX, RQ, ↓reduceIte, Nat.reduceEqDiff, reduceCtorEq, Nat.reduceBEq, Nat.reduceAdd, Nat.reduceLeDiff, RA] <;> rfl) (.inl (by simp [allFresh, ints_fresh, bools_fresh])) ?_
      simp (disch := first | assumption | omega | rfl | simp only [RH]) only [↓RP, RG, FX, RQ, ↓reduceIte, Nat.reduceEqDiff, reduceCtorEq, Nat.reduceBEq, Nat.reduceAdd, Nat.reduceLeDiff, Int.natCast_zero, Int.natCast_one, Int.cast_ofNat_Int, Int.toNat_zero, Int.toNat_one, Int.reduceToNat, Nat.zero_mul, Nat.one_mul, Nat.reduceMul]
      refine callK_F 6 (size_c w1 h1 b1 l1) (by simp (disch := first | assumption | omega | rfl | simp only [RH]) only [↓RP, RG, FX, RQ, ↓reduceIte, Nat.reduceEqDiff, reduceCtorEq, Nat.reduceBEq, Nat.reduceAdd, Nat.reduceLeDiff, RA] <;> rfl) (.inl (by simp [allFresh, ints_fresh, bools_fresh])) ?_
      by_cases hw : w2 = w1
      · by_cases hh : h2 = h1
        · simp (disch := first | assumption | omega | rfl | simp only [RH]) only [↓RP, RG, FX, RQ, ↓reduceIte, Nat.reduceEqDiff, reduceCtorEq, Nat.reduceBEq, Nat.reduceAdd, Nat.reduceLeDiff, beq_self_eq_true, Bool.true_and, Bool.and_true, Bool.not_true]
          exact ⟨2, ⟨by omega, by intro _; first | exact ⟨hw, hh⟩ | exact o2 (by omega) | omega, by intro _; first | exact ⟨hw, hh⟩ | exact o3 (by omega) | omega⟩, (Wk.drop (hb := []) (h1 := []) (gs := [_]) 8 [] rfl (by simp) (by simp) (by simp)).trans (Wk.of_eq (by simp only [RK, List.idxOf?_cons, List.idxOf?_nil, Nat.reduceBEq, Option.map_some, Option.map_none, List.map_cons, List.map_nil, List.getD_cons_zero, List.getD_cons_succ, Bool.false_eq_true, ↓reduceIte, Nat.add_zero, List.append_nil]; rfl)), by omega⟩
        · simp (disch := first | assumption | omega | rfl | simp only [RH]) only [↓RP, RG, FX, RQ, ↓reduceIte, Nat.reduceEqDiff, reduceCtorEq, Nat.reduceBEq, Nat.reduceAdd, Nat.reduceLeDiff, beq_self_eq_true, Bool.true_and, Bool.and_true, Bool.and_false, Bool.false_and, Bool.not_true, Bool.not_false]
          rw [resVal_1 rfl]; simp (disch := first | assumption | omega | rfl | simp only [RH]) only [↓RP, RG, FX, RQ, ↓reduceIte, Nat.reduceEqDiff, reduceCtorEq, Nat.reduceBEq, Nat.reduceAdd, Nat.reduceLeDiff, RS]
          have hne : ¬ (w2 = w1 ∧ h2 = h1 ∧ w3 = w1 ∧ h3 = h1) := by omega
          unfold thr
          rw [if_neg (by omega), if_neg (by omega), if_neg (by omega), if_neg hne]
      · simp (disch := first | assumption | omega | rfl | simp only [RH]) only [↓RP, RG, FX, RQ, ↓reduceIte, Nat.reduceEqDiff, reduceCtorEq, Nat.reduceBEq, Nat.reduceAdd, Nat.reduceLeDiff, beq_self_eq_true, Bool.true_and, Bool.and_true, Bool.and_false, Bool.false_and, Bool.not_true, Bool.not_false]
        rw [resVal_1 rfl]; simp (disch := first | assumption | omega | rfl | simp only [RH]) only [↓RP, RG, FX, RQ, ↓reduceIte, Nat.reduceEqDiff, reduceCtorEq, Nat.reduceBEq, Nat.reduceAdd, Nat.reduceLeDiff, RS]
        have hne : ¬ (w2 = w1 ∧ h2 = h1 ∧ w3 = w1 ∧ h3 = h1) := by omega
        unfold thr
        rw [if_neg (by omega), if_neg (by omega), if_neg (by omega), if_neg hne]
    · simp (disch := first | assumption | omega | rfl | simp only [RH]) only [↓RP, RG, FX, RQ, ↓reduceIte, Nat.reduceEqDiff, reduceCtorEq, Nat.reduceBEq, Nat.reduceAdd, Nat.reduceLeDiff, Int.natCast_zero, Int.natCast_one, Int.cast_ofNat_Int, Int.toNat_zero, Int.toNat_one, Int.reduceToNat, Nat.zero_mul, Nat.one_mul, Nat.reduceMul]
      refine callK_F 6 (size_c w3 h3 b3 l3) (by simp (disch := first | assumption | omega | rfl | simp only [RH]) only [↓RP, RG, FX, RQ, ↓reduceIte, Nat.reduceEqDiff, reduceCtorEq, Nat.reduceBEq, Nat.reduceAdd, Nat.reduceLeDiff, RA] <;> rfl) (.inl (by simp [allFresh, ints_fresh, bools_fresh])) ?_
      simp (disch := first | assumption | omega | rfl | simp only [RH]) only [↓RP, RG, FX, RQ, ↓reduceIte, Nat.reduceEqDiff, reduceCtorEq, Nat.reduceBEq, Nat.reduceAdd, Nat.reduceLeDiff, Int.natCast_zero, Int.natCast_one, Int.cast_ofNat_Int, Int.toNat_zero, Int.toNat_one, Int.reduceToNat, Nat.zero_mul, Nat.one_mul, Nat.reduceMul]
      refine callK_F 6 (size_c w1 h1 b1 l1) (by simp (disch := first | assumption | omega | rfl | simp only [RH]) only [↓RP, RG, FX, RQ, ↓reduceIte, Nat.reduceEqDiff, reduceCtorEq, Nat.reduceBEq, Nat.reduceAdd, Nat.reduceLeDiff, RA] <;> rfl) (.inl (by simp [allFresh, ints_fresh, bools_fresh])) ?_
      by_cases hw : w3 = w1
      · by_cases hh : h3 = h1
        · simp (disch := first | assumption | omega | rfl | simp only [RH]) only [↓RP, RG, FX, RQ, ↓reduceIte, Nat.reduceEqDiff, reduceCtorEq, Nat.reduceBEq, Nat.reduceAdd, Nat.reduceLeDiff, beq_self_eq_true, Bool.true_and, Bool.and_true, Bool.not_true]
          exact ⟨3, ⟨by omega, by intro _; first | exact ⟨hw, hh⟩ | exact o2 (by omega) | omega, by intro _; first | exact ⟨hw, hh⟩ | exact o3 (by omega) | omega⟩, (Wk.drop (hb := []) (h1 := []) (gs := [_]) 8 [] rfl (by simp) (by simp) (by simp)).trans (Wk.of_eq (by simp only [RK, List.idxOf?_cons, List.idxOf?_nil, Nat.reduceBEq, Option.map_some, Option.map_none, List.map_cons, List.map_nil, List.getD_cons_zero, List.getD_cons_succ, Bool.false_eq_true, ↓reduceIte, Nat.add_zero, List.append_nil]; rfl)), by omega⟩
        · simp (disch := first | assumption | omega | rfl | simp only [RH]) only [↓RP, RG, FX, RQ, ↓reduceIte, Nat.reduceEqDiff, reduceCtorEq, Nat.reduceBEq, Nat.reduceAdd, Nat.reduceLeDiff, beq_self_eq_true, Bool.true_and, Bool.and_true, Bool.and_false, Bool.false_and, Bool.not_true, Bool.not_false]
          rw [resVal_1 rfl]; simp (disch := first | assumption | omega | rfl | simp only [RH]) only [↓RP, RG, FX, RQ, ↓reduceIte, Nat.reduceEqDiff, reduceCtorEq, Nat.reduceBEq, Nat.reduceAdd, Nat.reduceLeDiff, RS]
          have hne : ¬ (w2 = w1 ∧ h2 = h1 ∧ w3 = w1 ∧ h3 = h1) := by omega
          unfold thr
          rw [if_neg (by omega), if_neg (by omega), if_neg (by omega), if_neg hne]
      · simp (disch := first | assumption | omega | rfl | simp only [RH]) only [↓RP, RG, FX, RQ, ↓reduceIte, Nat.reduceEqDiff, reduceCtorEq, Nat.reduceBEq, Nat.reduceAdd, Nat.reduceLeDiff, beq_self_eq_true, Bool.true_and, Bool.and_true, Bool.and_false, Bool.false_and, Bool.not_true, Bool.not_false]
        rw [resVal_1 rfl]; simp (disch := first | assumption | omega | rfl | simp only [RH]) only [↓RP, RG, FX, RQ, ↓reduceIte, Nat.reduceEqDiff, reduceCtorEq, Nat.reduceBEq, Nat.reduceAdd, Nat.reduceLeDiff, RS]
        have hne : ¬ (w2 = w1 ∧ h2 = h1 ∧ w3 = w1 ∧ h3 = h1) := by omega
        unfold thr
        rw [if_neg (by omega), if_neg (by omega), if_neg (by omega), if_neg hne]
    · have q2 := o2 (by omega)
      have q3 := o3 (by omega)
      simp (disch := first | assumption | omega | rfl | simp only [RH]) only [↓RP, RG, FX, RQ, ↓reduceIte, Nat.reduceEqDiff, reduceCtorEq, Nat.reduceBEq, Nat.reduceAdd, Nat.reduceLeDiff, Int.natCast_zero, Int.natCast_one, Int.cast_ofNat_Int, Int.toNat_zero, Int.toNat_one, Int.reduceToNat, Nat.zero_mul, Nat.one_mul, Nat.reduceMul]
      rw [resVal_1 rfl]; simp (disch := first | assumption | omega | rfl | simp only [RH]) only [↓RP, RG, FX, RQ, ↓reduceIte, Nat.reduceEqDiff, reduceCtorEq, Nat.reduceBEq, Nat.reduceAdd, Nat.reduceLeDiff, RS]
      unfold thr
      rw [if_neg (by omega), if_neg (by omega), if_neg (by omega), if_pos ⟨q2.1, q2.2, q3.1, q3.2⟩]

theorem both_c (w1 h1 : Int) (b1 : Bool) (l1 : List Bool) (w2 h2 : Int) (b2 : Bool) (l2 : List Bool) :
    Contract Tryz.prog 56 [GA w1 h1 b1 l1, GA w2 h2 b2 l2] (I (if gchk w1 h1 l1.length ≠ 0 then gchk w1 h1 l1.length else gchk w2 h2 l2.length)) := by
  refine Contract.intro (effS [] false) 6 follows Tryz.func56 rfl rfl (by kernel_rfl) (Nat.le_of_ble_eq_true rfl) ?_
  simp (disch := first | assumption | omega | rfl | simp only [RH]) only [↓RP, RG, FX, RQ, ↓reduceIte, Nat.reduceEqDiff, reduceCtorEq, Nat.reduceBEq, Nat.reduceAdd, Nat.reduceLeDiff, args0_2]
  refine callK_F 6 (gcheckR_c w1 h1 b1 l1) (by simp (disch := first | assumption | omega | rfl | simp only [RH]) only [↓RP, RG, FX, RQ, ↓reduceIte, Nat.reduceEqDiff, reduceCtorEq, Nat.reduceBEq, Nat.reduceAdd, Nat.reduceLeDiff, RA] <;> rfl) (.inl (by simp [allFresh, ints_fresh, bools_fresh])) ?_
  by_cases hz : gchk w1 h1 l1.length = 0
  · simp (disch := first | assumption | omega | rfl | simp only [RH]) only [↓RP, RG, FX, RQ, ↓reduceIte, Nat.reduceEqDiff, reduceCtorEq, Nat.reduceBEq, Nat.reduceAdd, Nat.reduceLeDiff]
    refine callK_F 6 (gcheckR_c w2 h2 b2 l2) (by simp (disch := first | assumption | omega | rfl | simp only [RH]) only [↓RP, RG, FX, RQ, ↓reduceIte, Nat.reduceEqDiff, reduceCtorEq, Nat.reduceBEq, Nat.reduceAdd, Nat.reduceLeDiff, RA] <;> rfl) (.inl (by simp [allFresh, ints_fresh, bools_fresh])) ?_
    simp (disch := first | assumption | omega | rfl | simp only [RH]) only [↓RP, RG, FX, RQ, ↓reduceIte, Nat.reduceEqDiff, reduceCtorEq, Nat.reduceBEq, Nat.reduceAdd, Nat.reduceLeDiff]
    rw [resVal_1 rfl]; simp (disch := first | assumption | omega | rfl | simp only [RH]) only [↓RP, RG, FX, RQ, ↓reduceIte, Nat.reduceEqDiff, reduceCtorEq, Nat.reduceBEq, Nat.reduceAdd, Nat.reduceLeDiff, RS]
    first | done | simp [hz]
  · simp (disch := first | assumption | omega | rfl | simp only [RH]) only [↓RP, RG, FX, RQ, ↓reduceIte, Nat.reduceEqDiff, reduceCtorEq, Nat.reduceBEq, Nat.reduceAdd, Nat.reduceLeDiff]
    refine callK_F 6 (gcheckR_c w1 h1 b1 l1) (by simp (disch := first | assumption | omega | rfl | simp only [RH]) only [↓RP, RG, FX, RQ, ↓reduceIte, Nat.reduceEqDiff, reduceCtorEq, Nat.reduceBEq, Nat.reduceAdd, Nat.reduceLeDiff, RA] <;> rfl) (.inl (by simp [allFresh, ints_fresh, bools_fresh])) ?_
    simp (disch := first | assumption | omega | rfl | simp only [RH]) only [↓RP, RG, FX, RQ, ↓reduceIte, Nat.reduceEqDiff, reduceCtorEq, Nat.reduceBEq, Nat.reduceAdd, Nat.reduceLeDiff]
    rw [resVal_1 rfl]; simp (disch := first | assumption | omega | rfl | simp only [RH]) only [↓RP, RG, FX, RQ, ↓reduceIte, Nat.reduceEqDiff, reduceCtorEq, Nat.reduceBEq, Nat.reduceAdd, Nat.reduceLeDiff, RS]
    first | done | simp [hz]

theorem three_c (w1 h1 : Int) (b1 : Bool) (l1 : List Bool) (w2 h2 : Int) (b2 : Bool) (l2 : List Bool) (w3 h3 : Int) (b3 : Bool) (l3 : List Bool) :
    Contract Tryz.prog 38 [GA w1 h1 b1 l1, GA w2 h2 b2 l2, GA w3 h3 b3 l3] (I (thr w1 h1 l1.length w2 h2 l2.length w3 h3 l3.length)) := by
  refine Contract.intro (effS [] false) 6 follows Tryz.func38 rfl rfl (by kernel_rfl) (Nat.le_of_ble_eq_true rfl) ?_
  simp (disch := first | assumption | omega | rfl | simp only [RH]) only [↓RP, RG, FX, RQ, ↓reduceIte, Nat.reduceEqDiff, reduceCtorEq, Nat.reduceBEq, Nat.reduceAdd, Nat.reduceLeDiff, args0_3]
  refine callK_F 6 (both_c w1 h1 b1 l1 w2 h2 b2 l2) (by simp (disch := first | assumption | omega | rfl | simp only [RH]) only [↓RP, RG, FX, RQ, ↓reduceIte, Nat.reduceEqDiff, reduceCtorEq, Nat.reduceBEq, Nat.reduceAdd, Nat.reduceLeDiff, RA] <;> rfl) (.inl (by simp [allFresh, ints_fresh, bools_fresh])) ?_
  by_cases z1 : gchk w1 h1 l1.length = 0
  · rw [if_neg (by omega)]
    by_cases z2 : gchk w2 h2 l2.length = 0
    · simp (disch := first | assumption | omega | rfl | simp only [RH]) only [↓RP, RG, FX, RQ, ↓reduceIte, Nat.reduceEqDiff, reduceCtorEq, Nat.reduceBEq, Nat.reduceAdd, Nat.reduceLeDiff]
      refine callK_F 6 (gcheckR_c w3 h3 b3 l3) (by simp (disch := first | assumption | omega | rfl | simp only [RH]) only [↓RP, RG, FX, RQ, ↓reduceIte, Nat.reduceEqDiff, reduceCtorEq, Nat.reduceBEq, Nat.reduceAdd, Nat.reduceLeDiff, RA] <;> rfl) (.inl (by simp [allFresh, ints_fresh, bools_fresh])) ?_
      by_cases z3 : gchk w3 h3 l3.length = 0
      · by_cases e1 : w1 = w2
        · by_cases e2 : h1 = h2
          · by_cases e3 : w1 = w3
            · by_cases e4 : h1 = h3
              · simp (disch := first | assumption | omega | rfl | simp only [RH]) only [↓RP, RG, FX, RQ, ↓reduceIte, Nat.reduceEqDiff, reduceCtorEq, Nat.reduceBEq, Nat.reduceAdd, Nat.reduceLeDiff]
                rw [resVal_1 rfl]; simp (disch := first | assumption | omega | rfl | simp only [RH]) only [↓RP, RG, FX, RQ, ↓reduceIte, Nat.reduceEqDiff, reduceCtorEq, Nat.reduceBEq, Nat.reduceAdd, Nat.reduceLeDiff, RS]
                unfold thr
                rw [if_neg (by omega), if_neg (by omega), if_neg (by omega), if_pos (by omega)]
              · simp (disch := first | assumption | omega | rfl | simp only [RH]) only [↓RP, RG, FX, RQ, ↓reduceIte, Nat.reduceEqDiff, reduceCtorEq, Nat.reduceBEq, Nat.reduceAdd, Nat.reduceLeDiff]
                rw [resVal_1 rfl]; simp (disch := first | assumption | omega | rfl | simp only [RH]) only [↓RP, RG, FX, RQ, ↓reduceIte, Nat.reduceEqDiff, reduceCtorEq, Nat.reduceBEq, Nat.reduceAdd, Nat.reduceLeDiff, RS]
                unfold thr
                rw [if_neg (by omega), if_neg (by omega), if_neg (by omega), if_neg (by omega)]
            · simp (disch := first | assumption | omega | rfl | simp only [RH]) only [↓RP, RG, FX, RQ, ↓reduceIte, Nat.reduceEqDiff, reduceCtorEq, Nat.reduceBEq, Nat.reduceAdd, Nat.reduceLeDiff]
              rw [resVal_1 rfl]; simp (disch := first | assumption | omega | rfl | simp only [RH]) only [↓RP, RG, FX, RQ, ↓reduceIte, Nat.reduceEqDiff, reduceCtorEq, Nat.reduceBEq, Nat.reduceAdd, Nat.reduceLeDiff, RS]
              unfold thr
              rw [if_neg (by omega), if_neg (by omega), if_neg (by omega), if_neg (by omega)]
          · simp (disch := first | assumption | omega | rfl | simp only [RH]) only [↓RP, RG, FX, RQ, ↓reduceIte, Nat.reduceEqDiff, reduceCtorEq, Nat.reduceBEq, Nat.reduceAdd, Nat.reduceLeDiff]
            rw [resVal_1 rfl]; simp (disch := first | assumption | omega | rfl | simp only [RH]) only [↓RP, RG, FX, RQ, ↓reduceIte, Nat.reduceEqDiff, reduceCtorEq, Nat.reduceBEq, Nat.reduceAdd, Nat.reduceLeDiff, RS]
            unfold thr
            rw [if_neg (by omega), if_neg (by omega), if_neg (by omega), if_neg (by omega)]
        · simp (disch := first | assumption | omega | rfl | simp only [RH]) only [↓RP, RG, FX, RQ, ↓reduceIte, Nat.reduceEqDiff, reduceCtorEq, Nat.reduceBEq, Nat.reduceAdd, Nat.reduceLeDiff]
          rw [resVal_1 rfl]; simp (disch := first | assumption | omega | rfl | simp only [RH]) only [↓RP, RG, FX, RQ, ↓reduceIte, Nat.reduceEqDiff, reduceCtorEq, Nat.reduceBEq, Nat.reduceAdd, Nat.reduceLeDiff, RS]
          unfold thr
          rw [if_neg (by omega), if_neg (by omega), if_neg (by omega), if_neg (by omega)]
      · simp (disch := first | assumption | omega | rfl | simp only [RH]) only [↓RP, RG, FX, RQ, ↓reduceIte, Nat.reduceEqDiff, reduceCtorEq, Nat.reduceBEq, Nat.reduceAdd, Nat.reduceLeDiff]
        refine callK_F 6 (gcheckR_c w3 h3 b3 l3) (by simp (disch := first | assumption | omega | rfl | simp only [RH]) only [↓RP, RG, FX, RQ, ↓reduceIte, Nat.reduceEqDiff, reduceCtorEq, Nat.reduceBEq, Nat.reduceAdd, Nat.reduceLeDiff, RA] <;> rfl) (.inl (by simp [allFresh, ints_fresh, bools_fresh])) ?_
        simp (disch := first | assumption | omega | rfl | simp only [RH]) only [↓RP, RG, FX, RQ, ↓reduceIte, Nat.reduceEqDiff, reduceCtorEq, Nat.reduceBEq, Nat.reduceAdd, Nat.reduceLeDiff]
        rw [resVal_1 rfl]; simp (disch := first | assumption | omega | rfl | simp only [RH]) only [↓RP, RG, FX, RQ, ↓reduceIte, Nat.reduceEqDiff, reduceCtorEq, Nat.reduceBEq, Nat.reduceAdd, Nat.reduceLeDiff, RS]
        first | done | simp [thr, *]
    · simp (disch := first | assumption | omega | rfl | simp only [RH]) only [↓RP, RG, FX, RQ, ↓reduceIte, Nat.reduceEqDiff, reduceCtorEq, Nat.reduceBEq, Nat.reduceAdd, Nat.reduceLeDiff]
      refine callK_F 6 (both_c w1 h1 b1 l1 w2 h2 b2 l2) (by simp (disch := first | assumption | omega | rfl | simp only [RH]) only [↓RP, RG, FX, RQ, ↓reduceIte, Nat.reduceEqDiff, reduceCtorEq, Nat.reduceBEq, Nat.reduceAdd, Nat.reduceLeDiff, RA] <;> rfl) (.inl (by simp [allFresh, ints_fresh, bools_fresh])) ?_
      rw [if_neg (by omega)]
      simp (disch := first | assumption | omega | rfl | simp only [RH]) only [↓RP, RG, FX, RQ, ↓reduceIte, Nat.reduceEqDiff, reduceCtorEq, Nat.reduceBEq, Nat.reduceAdd, Nat.reduceLeDiff]
      rw [resVal_1 rfl]; simp (disch := first | assumption | omega | rfl | simp only [RH]) only [↓RP, RG, FX, RQ, ↓reduceIte, Nat.reduceEqDiff, reduceCtorEq, Nat.reduceBEq, Nat.reduceAdd, Nat.reduceLeDiff, RS]
      first | done | simp [thr, *]
  · rw [if_pos z1]
    simp (disch := first | assumption | omega | rfl | simp only [RH]) only [↓RP, RG, FX, RQ, ↓reduceIte, Nat.reduceEqDiff, reduceCtorEq, Nat.reduceBEq, Nat.reduceAdd, Nat.reduceLeDiff]
    refine callK_F 6 (both_c w1 h1 b1 l1 w2 h2 b2 l2) (by simp (disch := first | assumption | omega | rfl | simp only [RH]) only [↓RP, RG, FX, RQ, ↓reduceIte, Nat.reduceEqDiff, reduceCtorEq, Nat.reduceBEq, Nat.reduceAdd, Nat.reduceLeDiff, RA] <;> rfl) (.inl (by simp [allFresh, ints_fresh, bools_fresh])) ?_
    rw [if_pos z1]
    simp (disch := first | assumption | omega | rfl | simp only [RH]) only [↓RP, RG, FX, RQ, ↓reduceIte, Nat.reduceEqDiff, reduceCtorEq, Nat.reduceBEq, Nat.reduceAdd, Nat.reduceLeDiff]
    rw [resVal_1 rfl]; simp (disch := first | assumption | omega | rfl | simp only [RH]) only [↓RP, RG, FX, RQ, ↓reduceIte, Nat.reduceEqDiff, reduceCtorEq, Nat.reduceBEq, Nat.reduceAdd, Nat.reduceLeDiff, RS]
    first | done | simp [thr, *]
end Go.Proofs.YtdbpkjanlafajaaGreatDoor

/- Double cloths: tables, weaving. -/
set_option linter.unusedSimpArgs false
set_option linter.unusedVariables false
set_option maxRecDepth 100000
namespace Go.Proofs.YtdbpkjanlafajaaGreatDoor
open Go Go.Proofs Go.AW

theorem xtable_s (h0 : List AObj) (f : FuncId) (caps caps' : List AVal) (W H : Nat) (u : Nat → Nat → Bool) (hw : W ≤ 10000) (hh : H ≤ 10000) (hcaps : ∀ r : List AObj, caps.map (argOf (h0 ++ r) 6) = caps') (hup : ∀ x y : Nat, x < W → y < H → Contract Tryz.prog f ([I x, I y] ++ caps') (B (u x y))) :
    SpecTo Tryz.prog 58 [I W, I H, .func (.func f) [] caps] h0 (.agg [I W, I H, gw true h0.length (bools (tabN W u (W * H)))]) (h0 ++ [go 4 (bools (tabN W u (W * H)))]) := by
  refine SpecTo.intro (effS [] false) follows Tryz.func58 rfl rfl (by kernel_rfl) (Nat.le_of_ble_eq_true rfl) ?_
  simp (disch := first | assumption | omega | rfl | simp only [RH]) only [↓RP, RG, FX, RQ, ↓reduceIte, Nat.reduceEqDiff, reduceCtorEq, Nat.reduceBEq, Nat.reduceAdd, Nat.reduceLeDiff, args0_3]
  refine loopK_W [0, 1, 2, 6, 7, 13, 14] (fun y : Nat => y ≤ H) (fun y => ⟨[(0, I W), (1, I H), (2, .func (.func f) [] caps), (6, .ptr h0.length 0 3), (7, .ptr (h0.length + 1) 0 3), (13, I H), (14, I y)], h0 ++ [⟨24, 3, [I 0, I 0, .cap0 true]⟩, ⟨24, 3, [I W, I H, gw true (h0.length + 2) (bools (tabN W u (W * y)))]⟩, go 4 (bools (tabN W u (W * y)))]⟩) (fun y => H - y) 0 (by omega) ?_ ?_
  · simp only [↓RP, RG, FX, RQ, ↓reduceIte, Nat.reduceEqDiff, reduceCtorEq, Nat.reduceBEq, Nat.reduceAdd, Nat.reduceLeDiff]
    exact Wk.weak (fun t => .refl _) (.app h0 (.cons _ _ _ _ (WL.refl _) (.cons _ _ _ _ (.cons (.refl _) (.cons (.refl _) (.cons (.nil _) .nil))) (.nil _ (by simp [go, bools, tabN])))))
  intro y hy
  by_cases hlt : y < H
  · simp (disch := first | assumption | omega | rfl | simp only [RH]) only [↓RP, RG, FX, RQ, ↓reduceIte, Nat.reduceEqDiff, reduceCtorEq, Nat.reduceBEq, Nat.reduceAdd, Nat.reduceLeDiff]
    refine loopK_I [0, 1, 2, 6, 7, 8, 13, 14, 17, 18] (fun x : Nat => x ≤ W) (fun x => ⟨[(0, I W), (1, I H), (2, .func (.func f) [] caps), (6, .ptr h0.length 0 3), (7, .ptr (h0.length + 1) 0 3), (8, I y), (13, I H), (14, I y), (17, I W), (18, I x)], h0 ++ [⟨24, 3, [I 0, I 0, .cap0 true]⟩, ⟨24, 3, [I W, I H, gw true (h0.length + 2) (bools (tabN W u (W * y + x)))]⟩, go 4 (bools (tabN W u (W * y + x)))]⟩) (fun x => W - x) 0 (by omega) (by simp only [↓RP, RG, FX, RQ, ↓reduceIte, Nat.reduceEqDiff, reduceCtorEq, Nat.reduceBEq, Nat.reduceAdd, Nat.reduceLeDiff]; rfl) ?_
    intro x hx
    by_cases hlt2 : x < W
    · have hb : (tabN W u (W * y + x)).length ≤ 1000000000 := by
        rw [tabN_len]
        have : W * y ≤ 10000 * 10000 := Nat.mul_le_mul hw (by omega)
        omega
      simp (disch := first | assumption | omega | rfl | simp only [RH]) only [↓RP, RG, FX, RQ, ↓reduceIte, Nat.reduceEqDiff, reduceCtorEq, Nat.reduceBEq, Nat.reduceAdd, Nat.reduceLeDiff]
      refine callK_V 6 (hup x y hlt2 hlt) (by rw [List.nil_append, List.map_append, hcaps]; rfl) (.inl rfl) ?_
      simp (disch := first | assumption | omega | rfl | simp only [RH]) only [↓RP, RG, FX, RQ, ↓reduceIte, Nat.reduceEqDiff, reduceCtorEq, Nat.reduceBEq, Nat.reduceAdd, Nat.reduceLeDiff, append_bool]
      exact ⟨x + 1, by omega, by rw [show W * y + (x + 1) = W * y + x + 1 from rfl, tabN_succ W u hlt2]; rfl, by omega⟩
    · obtain rfl : x = W := by omega
      simp (disch := first | assumption | omega | rfl | simp only [RH]) only [↓RP, RG, FX, RQ, ↓reduceIte, Nat.reduceEqDiff, reduceCtorEq, Nat.reduceBEq, Nat.reduceAdd, Nat.reduceLeDiff]
      exact ⟨y + 1, by omega, rfl, by omega⟩
  · obtain rfl : y = H := by omega
    simp (disch := first | assumption | omega | rfl | simp only [RH]) only [↓RP, RG, FX, RQ, ↓reduceIte, Nat.reduceEqDiff, reduceCtorEq, Nat.reduceBEq, Nat.reduceAdd, Nat.reduceLeDiff]
    refine ⟨_, by rw [resVal_1 rfl]; simp (disch := first | assumption | omega | rfl | simp only [RH]) only [↓RP, RG, FX, RQ, ↓reduceIte, Nat.reduceEqDiff, reduceCtorEq, Nat.reduceBEq, Nat.reduceAdd, Nat.reduceLeDiff, raX_tmp, raX_cell, rvX_0, rvX_1, rvX_2, rvX_3, rvX_4, rvX_5]; rfl, (Wk.drop 8 [2] (by simp) (by decide) (by simp) (same_refl)).trans (Wk.of_eq (by simp (disch := omega) only [RK, List.idxOf?_cons, List.idxOf?_nil, Nat.reduceBEq, Option.map_some, Option.map_none, List.map_cons, List.map_nil, List.getD_cons_zero, List.getD_cons_succ, Bool.false_eq_true, ↓reduceIte, Nat.add_zero, List.append_nil]))⟩

theorem table_c (f : FuncId) (caps : List AVal) (W H : Nat) (u : Nat → Nat → Bool) (hw : W ≤ 10000) (hh : H ≤ 10000) (hcaps : ∀ r : List AObj, caps.map (argOf r 6) = caps) (hup : ∀ x y : Nat, x < W → y < H → Contract Tryz.prog f ([I x, I y] ++ caps) (B (u x y))) :
    Contract Tryz.prog 58 [I W, I H, .func (.func f) [] caps] (GR W H (tabN W u (W * H)).isEmpty (tabN W u (W * H))) := by
  have := Contract.ofSpec 6 (xtable_s [] f caps caps W H u hw hh (fun r => hcaps _) hup)
  simp (disch := first | assumption | omega | rfl) only [RS, List.nil_append, List.length_nil, List.getElem?_cons_zero, List.map_cons, List.map_nil, bools_length, bools_isEmpty, Bool.true_and] at this
  exact this

theorem atD_c (w h : Int) (b : Bool) (l : List Bool) (x y : Int) (h0 : 0 ≤ y * w + x) (h1 : y * w + x < l.length) (h2 : l.length ≤ 1000000000000) (h3 : 0 ≤ y * w) (h4 : y * w ≤ 1000000000000) : Contract Tryz.prog 60 [GA w h b l, I x, I y] (B (cell w l x y)) := by
  refine Contract.intro (effS [] false) 6 follows Tryz.func60 rfl rfl (by kernel_rfl) (Nat.le_of_ble_eq_true rfl) ?_
  simp (disch := first | assumption | omega | rfl | simp only [RH]) only [↓RP, RG, FX, RQ, ↓reduceIte, Nat.reduceEqDiff, reduceCtorEq, Nat.reduceBEq, Nat.reduceAdd, Nat.reduceLeDiff, args0_3]
  rw [resVal_1 rfl]; simp (disch := first | assumption | omega | rfl | simp only [RH]) only [↓RP, RG, FX, RQ, ↓reduceIte, Nat.reduceEqDiff, reduceCtorEq, Nat.reduceBEq, Nat.reduceAdd, Nat.reduceLeDiff, RS]
  rfl

/-- A grid that a pointer leads to. -/
abbrev GS (w h : Int) (b : Bool) (l : List Bool) : AVal := .spot false [I w, I h, BA b l]

theorem cell_in {W H : Nat} {n x y : Nat} (hn : n = W * H) (hx : x < W) (hy : y < H) (hW : W ≤ 64) (hH : H ≤ 64) : 0 ≤ (y : Int) * W + x ∧ (y : Int) * W + x < n ∧ 0 ≤ (y : Int) * W ∧ (y : Int) * W ≤ 1000000000000 ∧ n ≤ 4096 := by
  have e : (y : Int) * (W : Int) = ((W * y : Nat) : Int) := by rw [Int.natCast_mul, Int.mul_comm]
  have := idx_lt hx hy
  have : W * H ≤ 64 * 64 := Nat.mul_le_mul hW hH
  omega

/-- A cell of two cloths woven at once. -/
def uD (w : Int) (a b m : List Bool) (x y : Nat) : Bool :=
  if x % 2 = 0 ∧ y % 2 = 0 then cell w a ((x / 2 : Nat) : Int) ((y / 2 : Nat) : Int) else if x % 2 = 1 ∧ y % 2 = 1 then cell w b ((x / 2 : Nat) : Int) ((y / 2 : Nat) : Int) else cell w m ((x / 2 : Nat) : Int) ((y / 2 : Nat) : Int) == decide (x % 2 = 0)

theorem wovenF_c {W H : Nat} (hW : W ≤ 32) (hH : H ≤ 32) (b1 b2 b3 : Bool) {l1 l2 l3 : List Bool} (n1 : l1.length = W * H) (n2 : l2.length = W * H) (n3 : l3.length = W * H) {x y : Nat} (hx : x < 2 * W) (hy : y < 2 * H) :
    Contract Tryz.prog 63 [I x, I y, GS W H b1 l1, GS W H b2 l2, GS W H b3 l3] (B (uD W l1 l2 l3 x y)) := by
  have i1 := cell_in n1 (show x / 2 < W by omega) (show y / 2 < H by omega) (by omega) (by omega)
  have i2 := cell_in n2 (show x / 2 < W by omega) (show y / 2 < H by omega) (by omega) (by omega)
  have i3 := cell_in n3 (show x / 2 < W by omega) (show y / 2 < H by omega) (by omega) (by omega)
  refine Contract.intro (effS [] false) 6 follows Tryz.func63 rfl rfl (by kernel_rfl) (Nat.le_of_ble_eq_true rfl) ?_
  by_cases hx2 : x % 2 = 0
  · by_cases hy2 : y % 2 = 0
    · simp (disch := first | assumption | omega | rfl | simp only [RH]) only [↓RP, RG, FX, RQ, ↓reduceIte, Nat.reduceEqDiff, reduceCtorEq, Nat.reduceBEq, Nat.reduceAdd, Nat.reduceLeDiff, args0_5, quo_int, rem_int, Int.toNat_natCast, Int.reduceToNat]
      refine callK_F 6 (atD_c W H b1 l1 ((x / 2 : Nat) : Int) ((y / 2 : Nat) : Int) (by omega) (by omega) (by omega) (by omega) (by omega)) (by simp (disch := first | assumption | omega | rfl | simp only [RH]) only [↓RP, RG, FX, RQ, ↓reduceIte, Nat.reduceEqDiff, reduceCtorEq, Nat.reduceBEq, Nat.reduceAdd, Nat.reduceLeDiff, RA] <;> rfl) (.inl (by simp [allFresh, ints_fresh, bools_fresh])) ?_
      simp (disch := first | assumption | omega | rfl | simp only [RH]) only [↓RP, RG, FX, RQ, ↓reduceIte, Nat.reduceEqDiff, reduceCtorEq, Nat.reduceBEq, Nat.reduceAdd, Nat.reduceLeDiff]
      rw [resVal_1 rfl]; simp (disch := first | assumption | omega | rfl | simp only [RH]) only [↓RP, RG, FX, RQ, ↓reduceIte, Nat.reduceEqDiff, reduceCtorEq, Nat.reduceBEq, Nat.reduceAdd, Nat.reduceLeDiff, RS]
      rw [uD, if_pos ⟨hx2, hy2⟩]
    · simp (disch := first | assumption | omega | rfl | simp only [RH]) only [↓RP, RG, FX, RQ, ↓reduceIte, Nat.reduceEqDiff, reduceCtorEq, Nat.reduceBEq, Nat.reduceAdd, Nat.reduceLeDiff, args0_5, quo_int, rem_int, Int.toNat_natCast, Int.reduceToNat]
      refine callK_F 6 (atD_c W H b3 l3 ((x / 2 : Nat) : Int) ((y / 2 : Nat) : Int) (by omega) (by omega) (by omega) (by omega) (by omega)) (by simp (disch := first | assumption | omega | rfl | simp only [RH]) only [↓RP, RG, FX, RQ, ↓reduceIte, Nat.reduceEqDiff, reduceCtorEq, Nat.reduceBEq, Nat.reduceAdd, Nat.reduceLeDiff, RA] <;> rfl) (.inl (by simp [allFresh, ints_fresh, bools_fresh])) ?_
      simp (disch := first | assumption | omega | rfl | simp only [RH]) only [↓RP, RG, FX, RQ, ↓reduceIte, Nat.reduceEqDiff, reduceCtorEq, Nat.reduceBEq, Nat.reduceAdd, Nat.reduceLeDiff, quo_int, rem_int, Int.toNat_natCast, Int.reduceToNat]
      rw [resVal_1 rfl]; simp (disch := first | assumption | omega | rfl | simp only [RH]) only [↓RP, RG, FX, RQ, ↓reduceIte, Nat.reduceEqDiff, reduceCtorEq, Nat.reduceBEq, Nat.reduceAdd, Nat.reduceLeDiff, RS]
      rw [uD, if_neg (by omega), if_neg (by omega), decide_eq_true hx2]
  · by_cases hy2 : y % 2 = 0
    · simp (disch := first | assumption | omega | rfl | simp only [RH]) only [↓RP, RG, FX, RQ, ↓reduceIte, Nat.reduceEqDiff, reduceCtorEq, Nat.reduceBEq, Nat.reduceAdd, Nat.reduceLeDiff, args0_5, quo_int, rem_int, Int.toNat_natCast, Int.reduceToNat]
      refine callK_F 6 (atD_c W H b3 l3 ((x / 2 : Nat) : Int) ((y / 2 : Nat) : Int) (by omega) (by omega) (by omega) (by omega) (by omega)) (by simp (disch := first | assumption | omega | rfl | simp only [RH]) only [↓RP, RG, FX, RQ, ↓reduceIte, Nat.reduceEqDiff, reduceCtorEq, Nat.reduceBEq, Nat.reduceAdd, Nat.reduceLeDiff, RA] <;> rfl) (.inl (by simp [allFresh, ints_fresh, bools_fresh])) ?_
      simp (disch := first | assumption | omega | rfl | simp only [RH]) only [↓RP, RG, FX, RQ, ↓reduceIte, Nat.reduceEqDiff, reduceCtorEq, Nat.reduceBEq, Nat.reduceAdd, Nat.reduceLeDiff, quo_int, rem_int, Int.toNat_natCast, Int.reduceToNat]
      rw [resVal_1 rfl]; simp (disch := first | assumption | omega | rfl | simp only [RH]) only [↓RP, RG, FX, RQ, ↓reduceIte, Nat.reduceEqDiff, reduceCtorEq, Nat.reduceBEq, Nat.reduceAdd, Nat.reduceLeDiff, RS]
      rw [uD, if_neg (by omega), if_neg (by omega), decide_eq_false hx2]
    · simp (disch := first | assumption | omega | rfl | simp only [RH]) only [↓RP, RG, FX, RQ, ↓reduceIte, Nat.reduceEqDiff, reduceCtorEq, Nat.reduceBEq, Nat.reduceAdd, Nat.reduceLeDiff, args0_5, quo_int, rem_int, Int.toNat_natCast, Int.reduceToNat]
      refine callK_F 6 (atD_c W H b2 l2 ((x / 2 : Nat) : Int) ((y / 2 : Nat) : Int) (by omega) (by omega) (by omega) (by omega) (by omega)) (by simp (disch := first | assumption | omega | rfl | simp only [RH]) only [↓RP, RG, FX, RQ, ↓reduceIte, Nat.reduceEqDiff, reduceCtorEq, Nat.reduceBEq, Nat.reduceAdd, Nat.reduceLeDiff, RA] <;> rfl) (.inl (by simp [allFresh, ints_fresh, bools_fresh])) ?_
      simp (disch := first | assumption | omega | rfl | simp only [RH]) only [↓RP, RG, FX, RQ, ↓reduceIte, Nat.reduceEqDiff, reduceCtorEq, Nat.reduceBEq, Nat.reduceAdd, Nat.reduceLeDiff, quo_int, rem_int, Int.toNat_natCast, Int.reduceToNat]
      rw [resVal_1 rfl]; simp (disch := first | assumption | omega | rfl | simp only [RH]) only [↓RP, RG, FX, RQ, ↓reduceIte, Nat.reduceEqDiff, reduceCtorEq, Nat.reduceBEq, Nat.reduceAdd, Nat.reduceLeDiff, RS]
      rw [uD, if_neg (by omega), if_pos (by omega)]

theorem tabN_nil {W H : Nat} (hw : 0 < W) (hh : 0 < H) (u : Nat → Nat → Bool) : (tabN W u (W * H)).isEmpty = false := by
  have := tabN_pos hw hh u
  rw [bools_length] at this
  cases hT : tabN W u (W * H) with
  | nil => rw [hT] at this; simp at this
  | cons => rfl

theorem wovenP_c {W H : Nat} (hW0 : 0 < W) (hH0 : 0 < H) (hW : W ≤ 32) (hH : H ≤ 32) (b1 b2 b3 : Bool) {l1 l2 l3 : List Bool} (n1 : l1.length = W * H) (n2 : l2.length = W * H) (n3 : l3.length = W * H) :
    Contract Tryz.prog 43 [GA W H b1 l1, GA W H b2 l2, GA W H b3 l3] (GR ((2 * W : Nat) : Int) ((2 * H : Nat) : Int) false (tabN (2 * W) (uD W l1 l2 l3) (2 * W * (2 * H)))) := by
  have ht := table_c 63 [GS W H b1 l1, GS W H b2 l2, GS W H b3 l3] (2 * W) (2 * H) (uD W l1 l2 l3) (by omega) (by omega) (fun r => by simp only [RA, List.map_cons, List.map_nil]) (fun x y hx hy => wovenF_c hW hH b1 b2 b3 n1 n2 n3 hx hy)
  rw [tabN_nil (by omega) (by omega)] at ht
  have e1 : (2 : Int) * (W : Int) = ((2 * W : Nat) : Int) := by omega
  have e2 : (2 : Int) * (H : Int) = ((2 * H : Nat) : Int) := by omega
  refine Contract.intro (effS [] false) 6 follows Tryz.func43 rfl rfl (by kernel_rfl) (Nat.le_of_ble_eq_true rfl) ?_
  simp (disch := first | assumption | omega | rfl | simp only [RH]) only [↓RP, RG, FX, RQ, ↓reduceIte, Nat.reduceEqDiff, reduceCtorEq, Nat.reduceBEq, Nat.reduceAdd, Nat.reduceLeDiff, args0_3, e1, e2]
  refine callK_F 6 (ht) (by simp (disch := first | assumption | omega | rfl | simp only [RH]) only [↓RP, RG, FX, RQ, ↓reduceIte, Nat.reduceEqDiff, reduceCtorEq, Nat.reduceBEq, Nat.reduceAdd, Nat.reduceLeDiff, RA] <;> rfl) (.inl (by simp [allFresh, ints_fresh, bools_fresh])) ?_
  simp (disch := first | assumption | omega | rfl | simp only [RH]) only [↓RP, RG, FX, RQ, ↓reduceIte, Nat.reduceEqDiff, reduceCtorEq, Nat.reduceBEq, Nat.reduceAdd, Nat.reduceLeDiff]
  rw [resVal_1 rfl]; simp (disch := first | assumption | omega | rfl | simp only [RH]) only [↓RP, RG, FX, RQ, ↓reduceIte, Nat.reduceEqDiff, reduceCtorEq, Nat.reduceBEq, Nat.reduceAdd, Nat.reduceLeDiff, RS]
end Go.Proofs.YtdbpkjanlafajaaGreatDoor

/- Double cloths: the reference's weaving. -/
set_option linter.unusedSimpArgs false
set_option linter.unusedVariables false
set_option maxRecDepth 100000
namespace Go.Proofs.YtdbpkjanlafajaaGreatDoor
open Go Go.Proofs Go.AW

theorem uD_00 (w : Int) (a b m : List Bool) (x y : Nat) : uD w a b m (2 * x) (2 * y) = cell w a x y := by
  rw [uD, if_pos (by omega), show 2 * x / 2 = x by omega, show 2 * y / 2 = y by omega]
theorem uD_11 (w : Int) (a b m : List Bool) (x y : Nat) : uD w a b m (2 * x + 1) (2 * y + 1) = cell w b x y := by
  rw [uD, if_neg (by omega), if_pos (by omega), show (2 * x + 1) / 2 = x by omega, show (2 * y + 1) / 2 = y by omega]
theorem uD_01 (w : Int) (a b m : List Bool) (x y : Nat) : uD w a b m (2 * x) (2 * y + 1) = cell w m x y := by
  rw [uD, if_neg (by omega), if_neg (by omega), show 2 * x / 2 = x by omega, show (2 * y + 1) / 2 = y by omega, decide_eq_true (by omega)]
  cases cell w m x y <;> rfl
theorem uD_10 (w : Int) (a b m : List Bool) (x y : Nat) : uD w a b m (2 * x + 1) (2 * y) = !cell w m x y := by
  rw [uD, if_neg (by omega), if_neg (by omega), show (2 * x + 1) / 2 = x by omega, show 2 * y / 2 = y by omega, decide_eq_false (by omega)]
  cases cell w m x y <;> rfl

end Go.Proofs.YtdbpkjanlafajaaGreatDoor

/- Double cloths: two cloths woven at once, by both programs. -/
set_option linter.unusedSimpArgs false
set_option linter.unusedVariables false
set_option maxRecDepth 100000
namespace Go.Proofs.YtdbpkjanlafajaaGreatDoor
open Go Go.Proofs Go.AW

abbrev GN : AVal := .agg [I 0, I 0, .list true true 0 []]

theorem thr_zero {w1 h1 n1 w2 h2 n2 w3 h3 n3 : Int} (hz : thr w1 h1 n1 w2 h2 n2 w3 h3 n3 = 0) : gOk w1 h1 n1 ∧ gOk w2 h2 n2 ∧ gOk w3 h3 n3 ∧ w2 = w1 ∧ h2 = h1 ∧ w3 = w1 ∧ h3 = h1 := by
  unfold thr at hz
  by_cases z1 : gchk w1 h1 n1 = 0
  · rw [if_neg (by omega)] at hz
    by_cases z2 : gchk w2 h2 n2 = 0
    · rw [if_neg (by omega)] at hz
      by_cases z3 : gchk w3 h3 n3 = 0
      · rw [if_neg (by omega)] at hz
        by_cases he : w2 = w1 ∧ h2 = h1 ∧ w3 = w1 ∧ h3 = h1
        · exact ⟨gchk_iff.1 z1, gchk_iff.1 z2, gchk_iff.1 z3, he⟩
        · rw [if_neg he] at hz; omega
      · rw [if_pos z3] at hz; exact absurd hz z3
    · rw [if_pos z2] at hz; exact absurd hz z2
  · rw [if_pos z1] at hz; exact absurd hz z1

/-- Sides of a valid grid, as natural numbers. -/
theorem gOk_nat {w h : Int} {n : Nat} (hg : gOk w h n) : ∃ W H : Nat, w = W ∧ h = H ∧ 0 < W ∧ W ≤ 64 ∧ 0 < H ∧ H ≤ 64 ∧ n = W * H := by
  obtain ⟨h1, h2, h3, h4, h5⟩ := hg
  refine ⟨w.toNat, h.toNat, by omega, by omega, by omega, by omega, by omega, by omega, ?_⟩
  have e1 : w = (w.toNat : Int) := by omega
  have e2 : h = (h.toNat : Int) := by omega
  rw [e1, e2, ← Int.natCast_mul] at h5
  exact Int.ofNat.inj h5

/-- What weaving two cloths answers. -/
def wv (w1 h1 : Int) (l1 : List Bool) (w2 h2 : Int) (l2 : List Bool) (w3 h3 : Int) (l3 : List Bool) : List AVal :=
  if thr w1 h1 l1.length w2 h2 l2.length w3 h3 l3.length ≠ 0 then [GN, I (thr w1 h1 l1.length w2 h2 l2.length w3 h3 l3.length)]
  else if 32 < w1 ∨ 32 < h1 then [GN, I 4]
  else [GR ((2 * w1.toNat : Nat) : Int) ((2 * h1.toNat : Nat) : Int) false (tabN (2 * w1.toNat) (uD w1 l1 l2 l3) (2 * w1.toNat * (2 * h1.toNat))), I 0]

theorem weaveP_c (w1 h1 : Int) (b1 : Bool) (l1 : List Bool) (w2 h2 : Int) (b2 : Bool) (l2 : List Bool) (w3 h3 : Int) (b3 : Bool) (l3 : List Bool) :
    Contract Tryz.prog 16 [GA w1 h1 b1 l1, GA w2 h2 b2 l2, GA w3 h3 b3 l3] (.tuple (wv w1 h1 l1 w2 h2 l2 w3 h3 l3)) := by
  have hch := check3_c w1 h1 b1 l1 w2 h2 b2 l2 w3 h3 b3 l3
  unfold wv
  generalize hr : thr w1 h1 l1.length w2 h2 l2.length w3 h3 l3.length = r at *
  by_cases hz : r = 0
  · subst hz
    obtain ⟨g1, g2, g3, rfl, rfl, rfl, rfl⟩ := thr_zero hr
    obtain ⟨W, H, rfl, rfl, hW0, hW, hH0, hH, n1⟩ := gOk_nat g1
    have n2 : l2.length = W * H := by have := g2.2.2.2.2; rw [← Int.natCast_mul] at this; exact Int.ofNat.inj this
    have n3 : l3.length = W * H := by have := g3.2.2.2.2; rw [← Int.natCast_mul] at this; exact Int.ofNat.inj this
    rw [if_neg (by omega)]
    by_cases hm : (32 : Int) < W ∨ (32 : Int) < H
    · have : (32 : Int) < max (W : Int) (H : Int) := by omega
      rw [if_pos hm]
      refine Contract.intro (effS [] false) 6 follows Tryz.func16 rfl rfl (by kernel_rfl) (Nat.le_of_ble_eq_true rfl) ?_
      simp (disch := first | assumption | omega | rfl | simp only [RH]) only [↓RP, RG, FX, RQ, ↓reduceIte, Nat.reduceEqDiff, reduceCtorEq, Nat.reduceBEq, Nat.reduceAdd, Nat.reduceLeDiff, args0_3]
      refine callK_F 6 (hch) (by simp (disch := first | assumption | omega | rfl | simp only [RH]) only [↓RP, RG, FX, RQ, ↓reduceIte, Nat.reduceEqDiff, reduceCtorEq, Nat.reduceBEq, Nat.reduceAdd, Nat.reduceLeDiff, RA] <;> rfl) (.inl (by simp [allFresh, ints_fresh, bools_fresh])) ?_
      simp (disch := first | assumption | omega | rfl | simp only [RH]) only [↓RP, RG, FX, RQ, ↓reduceIte, Nat.reduceEqDiff, reduceCtorEq, Nat.reduceBEq, Nat.reduceAdd, Nat.reduceLeDiff]
      rw [resVal_2 rfl]; simp (disch := first | assumption | omega | rfl | simp only [RH]) only [↓RP, RG, FX, RQ, ↓reduceIte, Nat.reduceEqDiff, reduceCtorEq, Nat.reduceBEq, Nat.reduceAdd, Nat.reduceLeDiff, RS]
    · have : ¬ (32 : Int) < max (W : Int) (H : Int) := by omega
      rw [if_neg hm]
      refine Contract.intro (effS [] false) 6 follows Tryz.func16 rfl rfl (by kernel_rfl) (Nat.le_of_ble_eq_true rfl) ?_
      simp (disch := first | assumption | omega | rfl | simp only [RH]) only [↓RP, RG, FX, RQ, ↓reduceIte, Nat.reduceEqDiff, reduceCtorEq, Nat.reduceBEq, Nat.reduceAdd, Nat.reduceLeDiff, args0_3]
      refine callK_F 6 (hch) (by simp (disch := first | assumption | omega | rfl | simp only [RH]) only [↓RP, RG, FX, RQ, ↓reduceIte, Nat.reduceEqDiff, reduceCtorEq, Nat.reduceBEq, Nat.reduceAdd, Nat.reduceLeDiff, RA] <;> rfl) (.inl (by simp [allFresh, ints_fresh, bools_fresh])) ?_
      simp (disch := first | assumption | omega | rfl | simp only [RH]) only [↓RP, RG, FX, RQ, ↓reduceIte, Nat.reduceEqDiff, reduceCtorEq, Nat.reduceBEq, Nat.reduceAdd, Nat.reduceLeDiff]
      refine callK_F 6 (wovenP_c hW0 hH0 (by omega) (by omega) b1 b2 b3 n1 n2 n3) (by simp (disch := first | assumption | omega | rfl | simp only [RH]) only [↓RP, RG, FX, RQ, ↓reduceIte, Nat.reduceEqDiff, reduceCtorEq, Nat.reduceBEq, Nat.reduceAdd, Nat.reduceLeDiff, RA] <;> rfl) (.inl (by simp [allFresh, ints_fresh, bools_fresh])) ?_
      simp (disch := first | assumption | omega | rfl | simp only [RH]) only [↓RP, RG, FX, RQ, ↓reduceIte, Nat.reduceEqDiff, reduceCtorEq, Nat.reduceBEq, Nat.reduceAdd, Nat.reduceLeDiff]
      rw [resVal_2 rfl]; simp (disch := first | assumption | omega | rfl | simp only [RH]) only [↓RP, RG, FX, RQ, ↓reduceIte, Nat.reduceEqDiff, reduceCtorEq, Nat.reduceBEq, Nat.reduceAdd, Nat.reduceLeDiff, RS]
      first | done | rfl
  · rw [if_pos hz]
    refine Contract.intro (effS [] false) 6 follows Tryz.func16 rfl rfl (by kernel_rfl) (Nat.le_of_ble_eq_true rfl) ?_
    simp (disch := first | assumption | omega | rfl | simp only [RH]) only [↓RP, RG, FX, RQ, ↓reduceIte, Nat.reduceEqDiff, reduceCtorEq, Nat.reduceBEq, Nat.reduceAdd, Nat.reduceLeDiff, args0_3]
    refine callK_F 6 (hch) (by simp (disch := first | assumption | omega | rfl | simp only [RH]) only [↓RP, RG, FX, RQ, ↓reduceIte, Nat.reduceEqDiff, reduceCtorEq, Nat.reduceBEq, Nat.reduceAdd, Nat.reduceLeDiff, RA] <;> rfl) (.inl (by simp [allFresh, ints_fresh, bools_fresh])) ?_
    simp (disch := first | assumption | omega | rfl | simp only [RH]) only [↓RP, RG, FX, RQ, ↓reduceIte, Nat.reduceEqDiff, reduceCtorEq, Nat.reduceBEq, Nat.reduceAdd, Nat.reduceLeDiff]
    rw [resVal_2 rfl]; simp (disch := first | assumption | omega | rfl | simp only [RH]) only [↓RP, RG, FX, RQ, ↓reduceIte, Nat.reduceEqDiff, reduceCtorEq, Nat.reduceBEq, Nat.reduceAdd, Nat.reduceLeDiff, RS]

end Go.Proofs.YtdbpkjanlafajaaGreatDoor

/- Double cloths: twins, inverses, mirrors. -/
set_option linter.unusedSimpArgs false
set_option linter.unusedVariables false
set_option maxRecDepth 100000
namespace Go.Proofs.YtdbpkjanlafajaaGreatDoor
open Go Go.Proofs Go.AW

end Go.Proofs.YtdbpkjanlafajaaGreatDoor

/- Double cloths: a double cloth taken apart, by the program. -/
set_option linter.unusedSimpArgs false
set_option linter.unusedVariables false
set_option maxRecDepth 100000
namespace Go.Proofs.YtdbpkjanlafajaaGreatDoor
open Go Go.Proofs Go.AW

end Go.Proofs.YtdbpkjanlafajaaGreatDoor

/- Double cloths: a double cloth taken apart, by the reference. -/
set_option linter.unusedSimpArgs false
set_option linter.unusedVariables false
set_option maxRecDepth 100000
namespace Go.Proofs.YtdbpkjanlafajaaGreatDoor
open Go Go.Proofs Go.AW

end Go.Proofs.YtdbpkjanlafajaaGreatDoor

/- Double cloths: the law of weaving. -/
set_option linter.unusedSimpArgs false
set_option linter.unusedVariables false
set_option maxRecDepth 100000
namespace Go.Proofs.YtdbpkjanlafajaaGreatDoor
open Go Go.Proofs Go.AW

theorem great12_c (w h : Int) (b : Bool) (l : List Bool) : Contract Tryz.prog 37 [GA w h b l] (B (decide (1100 < (l.length : Int)))) := by
  refine Contract.intro (effS [] false) 6 follows Tryz.func37 rfl rfl (by kernel_rfl) (Nat.le_of_ble_eq_true rfl) ?_
  simp (disch := first | assumption | omega | rfl | simp only [RH]) only [↓RP, RG, FX, RQ, ↓reduceIte, Nat.reduceEqDiff, reduceCtorEq, Nat.reduceBEq, Nat.reduceAdd, Nat.reduceLeDiff, args0_1]
  rw [resVal_1 rfl]; simp (disch := first | assumption | omega | rfl | simp only [RH]) only [↓RP, RG, FX, RQ, ↓reduceIte, Nat.reduceEqDiff, reduceCtorEq, Nat.reduceBEq, Nat.reduceAdd, Nat.reduceLeDiff, RS]

end Go.Proofs.YtdbpkjanlafajaaGreatDoor

/- The examples of chapter 12 hold. -/
set_option maxRecDepth 100000
namespace Go.Proofs.YtdbpkjanlafajaaGreatDoor
open Go Go.Proofs Go.AW
theorem alive_c : Contract Tryz.prog 15 [] (B true) := Contract.run xGood 1000 (by kernel_rfl)
end Go.Proofs.YtdbpkjanlafajaaGreatDoor

/- Double cloths: the law of the inverse. -/
set_option linter.unusedSimpArgs false
set_option linter.unusedVariables false
set_option maxRecDepth 100000
namespace Go.Proofs.YtdbpkjanlafajaaGreatDoor
open Go Go.Proofs Go.AW

/-- They fit, and weave. -/
def fit3 (w1 h1 : Int) (l1 : List Bool) (w2 h2 : Int) (l2 : List Bool) (w3 h3 : Int) (l3 : List Bool) (n : Int) : Prop :=
  ¬ 1100 < (l1.length : Int) ∧ thr w1 h1 l1.length w2 h2 l2.length w3 h3 l3.length = 0 ∧ w1 ≤ n ∧ h1 ≤ n
theorem threeL_c (w1 h1 : Int) (b1 : Bool) (l1 : List Bool) (w2 h2 : Int) (b2 : Bool) (l2 : List Bool) (w3 h3 : Int) (b3 : Bool) (l3 : List Bool) (n : Int) (r : Bool) (hr : r = true ↔ fit3 w1 h1 l1 w2 h2 l2 w3 h3 l3 n) :
    Contract Tryz.prog 14 [GA w1 h1 b1 l1, GA w2 h2 b2 l2, GA w3 h3 b3 l3, I n] (B r) := by
  have hTT := three_c w1 h1 b1 l1 w2 h2 b2 l2 w3 h3 b3 l3
  unfold fit3 at hr
  generalize thr w1 h1 l1.length w2 h2 l2.length w3 h3 l3.length = q at *
  refine Contract.intro (effS [] false) 6 follows Tryz.func14 rfl rfl (by kernel_rfl) (Nat.le_of_ble_eq_true rfl) ?_
  simp (disch := first | assumption | omega | rfl | simp only [RH]) only [↓RP, RG, FX, RQ, ↓reduceIte, Nat.reduceEqDiff, reduceCtorEq, Nat.reduceBEq, Nat.reduceAdd, Nat.reduceLeDiff, args0_4]
  refine callK_F 6 (great12_c w1 h1 b1 l1) (by simp (disch := first | assumption | omega | rfl | simp only [RH]) only [↓RP, RG, FX, RQ, ↓reduceIte, Nat.reduceEqDiff, reduceCtorEq, Nat.reduceBEq, Nat.reduceAdd, Nat.reduceLeDiff, RA] <;> rfl) (.inl (by simp [allFresh, ints_fresh, bools_fresh])) ?_
  by_cases g1 : 1100 < (l1.length : Int)
  · obtain rfl : r = false := by cases r with | false => rfl | true => exact absurd g1 (hr.1 rfl).1
    simp (disch := first | assumption | omega | rfl | simp only [RH]) only [↓RP, RG, FX, RQ, ↓reduceIte, Nat.reduceEqDiff, reduceCtorEq, Nat.reduceBEq, Nat.reduceAdd, Nat.reduceLeDiff, decide_eq_true g1, Bool.not_true]
    rw [resVal_1 rfl]; simp (disch := first | assumption | omega | rfl | simp only [RH]) only [↓RP, RG, FX, RQ, ↓reduceIte, Nat.reduceEqDiff, reduceCtorEq, Nat.reduceBEq, Nat.reduceAdd, Nat.reduceLeDiff, RS]
  · simp (disch := first | assumption | omega | rfl | simp only [RH]) only [↓RP, RG, FX, RQ, ↓reduceIte, Nat.reduceEqDiff, reduceCtorEq, Nat.reduceBEq, Nat.reduceAdd, Nat.reduceLeDiff, decide_eq_false g1, Bool.not_false]
    refine callK_F 6 (hTT) (by simp (disch := first | assumption | omega | rfl | simp only [RH]) only [↓RP, RG, FX, RQ, ↓reduceIte, Nat.reduceEqDiff, reduceCtorEq, Nat.reduceBEq, Nat.reduceAdd, Nat.reduceLeDiff, RA] <;> rfl) (.inl (by simp [allFresh, ints_fresh, bools_fresh])) ?_
    by_cases hq : q = 0
    · by_cases c1 : w1 ≤ n
      · by_cases c2 : h1 ≤ n
        · obtain rfl : r = true := hr.2 ⟨g1, hq, c1, c2⟩
          simp (disch := first | assumption | omega | rfl | simp only [RH]) only [↓RP, RG, FX, RQ, ↓reduceIte, Nat.reduceEqDiff, reduceCtorEq, Nat.reduceBEq, Nat.reduceAdd, Nat.reduceLeDiff]
          rw [resVal_1 rfl]; simp (disch := first | assumption | omega | rfl | simp only [RH]) only [↓RP, RG, FX, RQ, ↓reduceIte, Nat.reduceEqDiff, reduceCtorEq, Nat.reduceBEq, Nat.reduceAdd, Nat.reduceLeDiff, RS]
          first | done | simp [hq, c1, c2]
        · obtain rfl : r = false := by cases r with | false => rfl | true => exact absurd (hr.1 rfl).2.2.2 c2
          simp (disch := first | assumption | omega | rfl | simp only [RH]) only [↓RP, RG, FX, RQ, ↓reduceIte, Nat.reduceEqDiff, reduceCtorEq, Nat.reduceBEq, Nat.reduceAdd, Nat.reduceLeDiff]
          rw [resVal_1 rfl]; simp (disch := first | assumption | omega | rfl | simp only [RH]) only [↓RP, RG, FX, RQ, ↓reduceIte, Nat.reduceEqDiff, reduceCtorEq, Nat.reduceBEq, Nat.reduceAdd, Nat.reduceLeDiff, RS]
          first | done | simp [hq, c1, c2]
      · obtain rfl : r = false := by cases r with | false => rfl | true => exact absurd (hr.1 rfl).2.2.1 c1
        simp (disch := first | assumption | omega | rfl | simp only [RH]) only [↓RP, RG, FX, RQ, ↓reduceIte, Nat.reduceEqDiff, reduceCtorEq, Nat.reduceBEq, Nat.reduceAdd, Nat.reduceLeDiff]
        rw [resVal_1 rfl]; simp (disch := first | assumption | omega | rfl | simp only [RH]) only [↓RP, RG, FX, RQ, ↓reduceIte, Nat.reduceEqDiff, reduceCtorEq, Nat.reduceBEq, Nat.reduceAdd, Nat.reduceLeDiff, RS]
        first | done | simp [hq, c1]
    · obtain rfl : r = false := by cases r with | false => rfl | true => exact absurd (hr.1 rfl).2.1 hq
      simp (disch := first | assumption | omega | rfl | simp only [RH]) only [↓RP, RG, FX, RQ, ↓reduceIte, Nat.reduceEqDiff, reduceCtorEq, Nat.reduceBEq, Nat.reduceAdd, Nat.reduceLeDiff]
      rw [resVal_1 rfl]; simp (disch := first | assumption | omega | rfl | simp only [RH]) only [↓RP, RG, FX, RQ, ↓reduceIte, Nat.reduceEqDiff, reduceCtorEq, Nat.reduceBEq, Nat.reduceAdd, Nat.reduceLeDiff, RS]
      first | done | simp [hq]
end Go.Proofs.YtdbpkjanlafajaaGreatDoor

/- Double cloths: lists of every second thread; a cloth's count. -/
set_option linter.unusedSimpArgs false
set_option linter.unusedVariables false
set_option maxRecDepth 100000
namespace Go.Proofs.YtdbpkjanlafajaaGreatDoor
open Go Go.Proofs Go.AW

/-- Every second number, from z on. -/
def evenL (z : Nat) (n : Nat) : List Int := (List.range n).map fun i => ((2 * i + z : Nat) : Int)
theorem evenL_len (z n : Nat) : (evenL z n).length = n := by simp [evenL]
theorem evenL_succ (z n : Nat) : evenL z (n + 1) = evenL z n ++ [((2 * n + z : Nat) : Int)] := by simp [evenL, List.range_succ]

theorem even_c (n z : Nat) (hn : n ≤ 64) (hz : z ≤ 1) : Contract Tryz.prog 20 [I n, I z] (LR (evenL z n).isEmpty (evenL z n)) := by
  refine Contract.intro (effS [] false) 6 follows Tryz.func20 rfl rfl (by kernel_rfl) (Nat.le_of_ble_eq_true rfl) ?_
  simp (disch := first | assumption | omega | rfl | simp only [RH]) only [↓RP, RG, FX, RQ, ↓reduceIte, Nat.reduceEqDiff, reduceCtorEq, Nat.reduceBEq, Nat.reduceAdd, Nat.reduceLeDiff, args0_2]
  refine loopK_W [0, 1, 5, 6] (fun k : Nat => k ≤ n) (fun k : Nat => ⟨[(0, I n), (1, I z), (5, gw true 0 (ints (evenL z k))), (6, I k)], [go 3 (ints (evenL z k))]⟩) (fun k => n - k) 0 (by omega) ?_ ?_
  · simp only [↓RP, RG, FX, RQ, ↓reduceIte, Nat.reduceEqDiff, reduceCtorEq, Nat.reduceBEq, Nat.reduceAdd, Nat.reduceLeDiff]
    exact Wk.weak (WE.cons _ (.refl _) (WE.cons _ (.refl _) (WE.cons _ (.nil _) (WE.cons _ (.refl _) WE.nil)))) (.nil _ (by simp [go, ints, evenL]))
  intro k hk
  have hle := evenL_len z k
  have e1 : (2 : Int) * (k : Int) + (z : Int) = ((2 * k + z : Nat) : Int) := by omega
  by_cases hlt : k < n
  · simp (disch := first | assumption | omega | rfl | simp only [RH]) only [↓RP, RG, FX, RQ, ↓reduceIte, Nat.reduceEqDiff, reduceCtorEq, Nat.reduceBEq, Nat.reduceAdd, Nat.reduceLeDiff, append_int, e1]
    exact ⟨k + 1, by omega, by rw [evenL_succ]; rfl, by omega⟩
  · obtain rfl : k = n := by omega
    simp (disch := first | assumption | omega | rfl | simp only [RH]) only [↓RP, RG, FX, RQ, ↓reduceIte, Nat.reduceEqDiff, reduceCtorEq, Nat.reduceBEq, Nat.reduceAdd, Nat.reduceLeDiff]
    rw [resVal_1 rfl]; simp (disch := first | assumption | omega | rfl | simp only [RH]) only [↓RP, RG, FX, RQ, ↓reduceIte, Nat.reduceEqDiff, reduceCtorEq, Nat.reduceBEq, Nat.reduceAdd, Nat.reduceLeDiff, RS]
    simp only [Bool.true_and, ints_isEmpty]

/-- How many of the first k cells are true. -/
def cnt (l : List Bool) : Nat → Nat
  | 0 => 0
  | k + 1 => cnt l k + if l.getD k false then 1 else 0
theorem cnt_le (l : List Bool) (k : Nat) : cnt l k ≤ k := by
  induction k with
  | zero => exact Nat.le_refl _
  | succ k ih => simp only [cnt]; split <;> omega
theorem count_c {w h : Int} (b : Bool) {l : List Bool} (hg : gOk w h l.length) (hl : l.length ≤ 4096) : Contract Tryz.prog 17 [GA w h b l] (.tuple [I (cnt l l.length), I 0]) := by
  have hz := gchk_ok hg
  refine Contract.intro (effS [] false) 6 follows Tryz.func17 rfl rfl (by kernel_rfl) (Nat.le_of_ble_eq_true rfl) ?_
  simp (disch := first | assumption | omega | rfl | simp only [RH]) only [↓RP, RG, FX, RQ, ↓reduceIte, Nat.reduceEqDiff, reduceCtorEq, Nat.reduceBEq, Nat.reduceAdd, Nat.reduceLeDiff, args0_1]
  refine callK_F 6 (gcheckP_c w h b l) (by simp (disch := first | assumption | omega | rfl | simp only [RH]) only [↓RP, RG, FX, RQ, ↓reduceIte, Nat.reduceEqDiff, reduceCtorEq, Nat.reduceBEq, Nat.reduceAdd, Nat.reduceLeDiff, RA] <;> rfl) (.inl (by simp [allFresh, ints_fresh, bools_fresh])) ?_
  simp (disch := first | assumption | omega | rfl | simp only [RH]) only [↓RP, RG, FX, RQ, ↓reduceIte, Nat.reduceEqDiff, reduceCtorEq, Nat.reduceBEq, Nat.reduceAdd, Nat.reduceLeDiff, hz]
  refine loopK_I [5, 14, 15, 16] (fun k : Nat => k ≤ l.length) (fun k => ⟨[(5, I (cnt l k)), (14, BA b l), (15, I l.length), (16, I k)], [⟨24, 3, [I w, I h, BA b l]⟩]⟩) (fun k => l.length - k) 0 (by omega) (by simp only [↓RP, RG, FX, RQ, ↓reduceIte, Nat.reduceEqDiff, reduceCtorEq, Nat.reduceBEq, Nat.reduceAdd, Nat.reduceLeDiff]; rfl) ?_
  intro k hk
  have hle := cnt_le l k
  by_cases hlt : k < l.length
  · cases hc : l.getD k false with
    | true =>
      simp (disch := first | assumption | omega | rfl | simp only [RH]) only [↓RP, RG, FX, RQ, ↓reduceIte, Nat.reduceEqDiff, reduceCtorEq, Nat.reduceBEq, Nat.reduceAdd, Nat.reduceLeDiff, hc]
      exact ⟨k + 1, by omega, by rw [show cnt l (k + 1) = cnt l k + (if l.getD k false then 1 else 0) from rfl, hc]; rfl, by omega⟩
    | false =>
      simp (disch := first | assumption | omega | rfl | simp only [RH]) only [↓RP, RG, FX, RQ, ↓reduceIte, Nat.reduceEqDiff, reduceCtorEq, Nat.reduceBEq, Nat.reduceAdd, Nat.reduceLeDiff, hc]
      exact ⟨k + 1, by omega, by rw [show cnt l (k + 1) = cnt l k + (if l.getD k false then 1 else 0) from rfl, hc]; rfl, by omega⟩
  · obtain rfl : k = l.length := by omega
    simp (disch := first | assumption | omega | rfl | simp only [RH]) only [↓RP, RG, FX, RQ, ↓reduceIte, Nat.reduceEqDiff, reduceCtorEq, Nat.reduceBEq, Nat.reduceAdd, Nat.reduceLeDiff]
    rw [resVal_2 rfl]; simp (disch := first | assumption | omega | rfl | simp only [RH]) only [↓RP, RG, FX, RQ, ↓reduceIte, Nat.reduceEqDiff, reduceCtorEq, Nat.reduceBEq, Nat.reduceAdd, Nat.reduceLeDiff, RS]
    first | done | rfl
end Go.Proofs.YtdbpkjanlafajaaGreatDoor

/- Double cloths: faces, backs, tubes. -/
set_option linter.unusedSimpArgs false
set_option linter.unusedVariables false
set_option maxRecDepth 100000
namespace Go.Proofs.YtdbpkjanlafajaaGreatDoor
open Go Go.Proofs Go.AW

end Go.Proofs.YtdbpkjanlafajaaGreatDoor

/- Double cloths: tubes; the law of faces. -/
set_option linter.unusedSimpArgs false
set_option linter.unusedVariables false
set_option maxRecDepth 100000
namespace Go.Proofs.YtdbpkjanlafajaaGreatDoor
open Go Go.Proofs Go.AW

end Go.Proofs.YtdbpkjanlafajaaGreatDoor

/- Faces, backs and tubes, by the program; the back hangs together where the cloth does. -/
set_option linter.unusedSimpArgs false
set_option linter.unusedVariables false
set_option maxRecDepth 100000
namespace Go.Proofs.YtdbpkjanlafajaaGreatDoor
open Go Go.Proofs Go.AW

theorem thr_same {W H : Nat} (hW0 : 0 < W) (hH0 : 0 < H) (hW : W ≤ 64) (hH : H ≤ 64) {l1 l2 l3 : List Bool} (n1 : l1.length = W * H) (n2 : l2.length = W * H) (n3 : l3.length = W * H) : thr W H l1.length W H l2.length W H l3.length = 0 := by
  have g1 : gchk W H l1.length = 0 := gchk_ok ⟨by omega, by omega, by omega, by omega, by rw [n1, Int.natCast_mul]⟩
  have g2 : gchk W H l2.length = 0 := by rw [n2, ← n1]; exact g1
  have g3 : gchk W H l3.length = 0 := by rw [n3, ← n1]; exact g1
  unfold thr
  rw [if_neg (by omega), if_neg (by omega), if_neg (by omega), if_pos ⟨rfl, rfl, rfl, rfl⟩]
theorem cellD (W : Nat) (l : List Bool) (x y : Nat) : cell W l x y = l.getD (W * y + x) false := by
  unfold cell; rw [idx_nat W y x]
/-- The count of all. -/
theorem cnt_all {l : List Bool} : ∀ k, cnt l k = k ↔ ∀ i, i < k → l.getD i false = true := by
  intro k
  induction k with
  | zero => exact ⟨fun _ i hi => by omega, fun _ => rfl⟩
  | succ k ih =>
    have hle := cnt_le l k
    simp only [cnt]
    constructor
    · intro h i hi
      cases hk : l.getD k false with
      | true =>
        rw [hk, if_pos rfl] at h
        by_cases e : i = k
        · subst e; exact hk
        · exact ih.1 (by omega) i (by omega)
      | false =>
        rw [hk, if_neg (by simp)] at h; omega
    · intro h
      rw [h k (by omega), if_pos rfl, ih.2 fun i hi => h i (by omega)]
theorem cnt_none {l : List Bool} : ∀ k, cnt l k = 0 ↔ ∀ i, i < k → l.getD i false = false := by
  intro k
  induction k with
  | zero => exact ⟨fun _ i hi => by omega, fun _ => rfl⟩
  | succ k ih =>
    simp only [cnt]
    constructor
    · intro h i hi
      cases hk : l.getD k false with
      | true => rw [hk, if_pos rfl] at h; omega
      | false =>
        rw [hk, if_neg (by simp)] at h
        by_cases e : i = k
        · subst e; exact hk
        · exact ih.1 (by omega) i (by omega)
    · intro h
      rw [h k (by omega), if_neg (by simp), ih.2 fun i hi => h i (by omega)]
end Go.Proofs.YtdbpkjanlafajaaGreatDoor

/- Double cloths: the threads of one of the two, plain; and as a row of its own. -/
set_option linter.unusedSimpArgs false
set_option linter.unusedVariables false
set_option maxRecDepth 100000
namespace Go.Proofs.YtdbpkjanlafajaaGreatDoor
open Go Go.Proofs Go.AW

/-- Every second number, the first i more by c. -/
def mixL (z : Nat) (c : Int) (n i : Nat) : List Int := (List.range n).map fun v => ((2 * v + z : Nat) : Int) + if v < i then c else 0
theorem mixL_len (z : Nat) (c : Int) (n i : Nat) : (mixL z c n i).length = n := by simp [mixL]
/-- The threads of a (z = 0), or of b, of a double cloth. -/
def thD (W H z : Nat) : List Int := evenL z W ++ mixL z ((2 * W : Nat) : Int) H H
def pD (W z : Nat) (t : Nat) : Bool := decide (if t < 2 * W then t % 2 = z else (t - 2 * W) % 2 = z)
theorem mem_even {z n : Nat} {x : Int} : x ∈ evenL z n ↔ ∃ u : Nat, u < n ∧ x = ((2 * u + z : Nat) : Int) := by
  unfold evenL
  simp only [List.mem_map, List.mem_range]
  constructor
  · rintro ⟨u, h, rfl⟩; exact ⟨u, h, rfl⟩
  · rintro ⟨u, h, rfl⟩; exact ⟨u, h, rfl⟩
theorem mem_mix {z n : Nat} {c x : Int} : x ∈ mixL z c n n ↔ ∃ u : Nat, u < n ∧ x = ((2 * u + z : Nat) : Int) + c := by
  unfold mixL
  simp only [List.mem_map, List.mem_range]
  constructor
  · rintro ⟨u, h, rfl⟩; exact ⟨u, h, by rw [if_pos h]⟩
  · rintro ⟨u, h, rfl⟩; exact ⟨u, h, by rw [if_pos h]⟩
theorem thD_fil {W H z : Nat} (hz : z ≤ 1) : thD W H z = fil (2 * W + 2 * H) (pD W z) := by
  refine sinc_ext _ _ ?_ (nI_inc (List.Pairwise.filter _ List.pairwise_lt_range)) fun x => ?_
  · unfold thD
    refine List.pairwise_append.2 ⟨?_, ?_, fun a ha b hb => ?_⟩
    · unfold evenL
      rw [List.pairwise_map]
      exact List.pairwise_lt_range.imp fun h => by omega
    · rw [List.pairwise_iff_getElem]
      intro i j hi hj hij
      rw [mixL_len] at hi hj
      simp only [mixL, List.getElem_map, List.getElem_range, if_pos hi, if_pos hj]
      omega
    · obtain ⟨u, h1, rfl⟩ := mem_even.1 ha
      obtain ⟨v, h2, rfl⟩ := mem_mix.1 hb
      omega
  · unfold thD
    rw [List.mem_append, mem_even, mem_mix]
    have hx : x ∈ nI ((List.range (2 * W + 2 * H)).filter (pD W z)) ↔ ∃ t : Nat, (t < 2 * W + 2 * H ∧ pD W z t = true) ∧ (t : Int) = x := by
      unfold nI
      simp only [List.mem_map, List.mem_filter, List.mem_range]
    refine Iff.trans ?_ hx.symm
    unfold pD
    constructor
    · rintro (⟨u, h1, rfl⟩ | ⟨u, h1, rfl⟩)
      · exact ⟨2 * u + z, ⟨by omega, decide_eq_true (by rw [if_pos (by omega)]; omega)⟩, rfl⟩
      · exact ⟨2 * u + z + 2 * W, ⟨by omega, decide_eq_true (by rw [if_neg (by omega)]; omega)⟩, by omega⟩
    · rintro ⟨t, ⟨h1, h2⟩, rfl⟩
      have h2 := of_decide_eq_true h2
      by_cases e : t < 2 * W
      · rw [if_pos e] at h2
        exact .inl ⟨t / 2, by omega, by omega⟩
      · rw [if_neg e] at h2
        exact .inr ⟨(t - 2 * W) / 2, by omega, by omega⟩
theorem endsOf_eq (w : Int) (s : List Int) : ∀ k, k ≤ s.length → endsOf w s k = (s.take k).filter (fun x => decide (x < w)) := by
  intro k
  induction k with
  | zero => intro _; rfl
  | succ k ih =>
    intro hk
    have e : s.take (k + 1) = s.take k ++ [s.getD k 0] := by
      rw [List.take_add_one, List.getD_eq_getElem?_getD, List.getElem?_eq_getElem (show k < s.length by omega)]; rfl
    rw [e, List.filter_append, ← ih (by omega)]
    simp only [endsOf]
    by_cases h : s.getD k 0 < w
    · rw [if_pos h, List.filter_cons_of_pos (by simpa using h), List.filter_nil]
    · rw [if_neg h, List.filter_cons_of_neg (by simpa using h), List.filter_nil, List.append_nil]
theorem picksOf_eq (w : Int) (s : List Int) : ∀ k, k ≤ s.length → picksOf w s k = ((s.take k).filter (fun x => !decide (x < w))).map fun x => x - w := by
  intro k
  induction k with
  | zero => intro _; rfl
  | succ k ih =>
    intro hk
    have e : s.take (k + 1) = s.take k ++ [s.getD k 0] := by
      rw [List.take_add_one, List.getD_eq_getElem?_getD, List.getElem?_eq_getElem (show k < s.length by omega)]; rfl
    rw [e, List.filter_append, List.map_append, ← ih (by omega)]
    simp only [picksOf]
    by_cases h : s.getD k 0 < w
    · rw [if_pos h, List.filter_cons_of_neg (by simpa using h), List.filter_nil, List.map_nil, List.append_nil]
    · rw [if_neg h, List.filter_cons_of_pos (by simpa using h), List.filter_nil]; rfl
theorem thD_len (W H z : Nat) : (thD W H z).length = W + H := by unfold thD; rw [List.length_append, evenL_len, mixL_len]
theorem thD_ends {W H z : Nat} (hz : z ≤ 1) : endsOf ((2 * W : Nat) : Int) (thD W H z) (thD W H z).length = evenL z W := by
  rw [endsOf_eq _ _ _ (Nat.le_refl _), List.take_length]
  unfold thD
  rw [List.filter_append, List.filter_eq_self.2 (fun x hx => ?_), List.filter_eq_nil_iff.2 (fun x hx => ?_), List.append_nil]
  · obtain ⟨u, h, rfl⟩ := mem_mix.1 hx
    simp only [decide_eq_true_eq]; omega
  · obtain ⟨u, h, rfl⟩ := mem_even.1 hx
    simp only [decide_eq_true_eq]; omega
theorem thD_picks {W H z : Nat} (hz : z ≤ 1) : picksOf ((2 * W : Nat) : Int) (thD W H z) (thD W H z).length = evenL z H := by
  rw [picksOf_eq _ _ _ (Nat.le_refl _), List.take_length]
  unfold thD
  rw [List.filter_append, List.filter_eq_nil_iff.2 (fun x hx => ?_), List.filter_eq_self.2 (fun x hx => ?_), List.nil_append]
  · unfold mixL evenL
    rw [List.map_map]
    refine List.map_congr_left fun v hv => ?_
    show ((2 * v + z : Nat) : Int) + (if v < H then ((2 * W : Nat) : Int) else 0) - ((2 * W : Nat) : Int) = ((2 * v + z : Nat) : Int)
    rw [if_pos (List.mem_range.1 hv)]; omega
  · obtain ⟨u, h, rfl⟩ := mem_mix.1 hx
    simp only [Bool.not_eq_true', decide_eq_false_iff_not]; omega
  · obtain ⟨u, h, rfl⟩ := mem_even.1 hx
    simp only [Bool.not_eq_true', decide_eq_false_iff_not]; omega
/-- The cells of a double cloth. -/
theorem wov_get {W H : Nat} {l1 l2 l3 : List Bool} {x y : Nat} (hx : x < 2 * W) (hy : y < 2 * H) : (tabN (2 * W) (uD W l1 l2 l3) (2 * W * (2 * H))).getD (2 * W * y + x) false = uD W l1 l2 l3 x y :=
  tabN_get (2 * W) _ hx (idx_lt hx hy)
/-- The threads of a come off where the motif is up everywhere, those of b where it is down everywhere. -/
theorem offs_double {W H z : Nat} (hW0 : 0 < W) (hH0 : 0 < H) {l1 l2 l3 : List Bool} (hz : z ≤ 1) :
    Offs (2 * W) (2 * W + 2 * H) (tabN (2 * W) (uD W l1 l2 l3) (2 * W * (2 * H))) (pD W z) ↔ ∀ u v, u < W → v < H → cell W l3 u v = decide (z = 0) := by
  have p1 : ∀ t, t < 2 * W → (pD W z t = true ↔ t % 2 = z) := fun t ht => by simp [pD, ht]
  have p2 : ∀ t, ¬ t < 2 * W → (pD W z t = true ↔ (t - 2 * W) % 2 = z) := fun t ht => by simp [pD, ht]
  have f1 : ∀ t, pD W z t = false ↔ ¬ pD W z t = true := fun t => by cases pD W z t <;> simp
  unfold Offs
  constructor
  · rintro ⟨_, _, h⟩ u v hu hv
    by_cases e : z = 0
    · subst e
      have h1 := h (2 * u + 1) (by omega) (2 * W + 2 * v) (by omega)
      rw [f1, p1 _ (by omega), p2 _ (by omega)] at h1
      cases hc : cell W l3 u v with
      | true => rfl
      | false =>
        refine absurd ⟨by omega, by omega, ?_⟩ h1
        unfold ov
        rw [if_pos (by omega), if_neg (by omega), show 2 * W + 2 * v - 2 * W = 2 * v by omega, wov_get (by omega) (by omega), uD_10, hc]; rfl
    · obtain rfl : z = 1 := by omega
      have h1 := h (2 * u) (by omega) (2 * W + (2 * v + 1)) (by omega)
      rw [f1, p1 _ (by omega), p2 _ (by omega)] at h1
      cases hc : cell W l3 u v with
      | false => rfl
      | true =>
        refine absurd ⟨by omega, by omega, ?_⟩ h1
        unfold ov
        rw [if_pos (by omega), if_neg (by omega), show 2 * W + (2 * v + 1) - 2 * W = 2 * v + 1 by omega, wov_get (by omega) (by omega), uD_01, hc]
  · intro h
    refine ⟨⟨z, by omega, (p1 z (by omega)).2 (by omega)⟩, ⟨1 - z, by omega, by rw [f1, p1 _ (by omega)]; omega⟩, ?_⟩
    rintro a ha c hc ⟨g1, g2, g3⟩
    rw [f1] at g1
    unfold ov at g3
    by_cases ea : a < 2 * W <;> by_cases ec : c < 2 * W
    · rw [if_pos ea, if_pos ec] at g3; cases g3
    · rw [if_pos ea, if_neg ec, wov_get ea (by omega)] at g3
      rw [p1 a ea] at g1
      rw [p2 c ec] at g2
      have hh := h (a / 2) ((c - 2 * W) / 2) (by omega) (by omega)
      by_cases e : z = 0
      · subst e
        rw [show a = 2 * (a / 2) + 1 by omega, show c - 2 * W = 2 * ((c - 2 * W) / 2) by omega, uD_10, hh] at g3
        simp at g3
      · obtain rfl : z = 1 := by omega
        rw [show a = 2 * (a / 2) by omega, show c - 2 * W = 2 * ((c - 2 * W) / 2) + 1 by omega, uD_01, hh] at g3
        simp at g3
    · rw [if_neg ea, if_pos ec, wov_get ec (by omega)] at g3
      rw [p2 a ea] at g1
      rw [p1 c ec] at g2
      have hh := h (c / 2) ((a - 2 * W) / 2) (by omega) (by omega)
      by_cases e : z = 0
      · subst e
        rw [show c = 2 * (c / 2) by omega, show a - 2 * W = 2 * ((a - 2 * W) / 2) + 1 by omega, uD_01, hh] at g3
        simp at g3
      · obtain rfl : z = 1 := by omega
        rw [show c = 2 * (c / 2) + 1 by omega, show a - 2 * W = 2 * ((a - 2 * W) / 2) by omega, uD_10, hh] at g3
        simp at g3
    · rw [if_neg ea, if_neg ec] at g3; cases g3
end Go.Proofs.YtdbpkjanlafajaaGreatDoor

/- A cloth of just two parts; double cloths. Plain. -/
set_option linter.unusedSimpArgs false
set_option linter.unusedVariables false
set_option maxRecDepth 100000
namespace Go.Proofs.YtdbpkjanlafajaaGreatDoor
open Go Go.Proofs Go.AW

theorem hg_wy {W n : Nat} {l : List Bool} (h : Hg W n l) {a x : Nat} (ha : a < n) (hx : x < n) : Wy (adjT W n l) a x :=
  h (fun x => Wy (adjT W n l) a x) (fun c hc hm x hx ho => hm.trans (.one (mem_adjT.2 ⟨hx, ho⟩))) ⟨a, ha, .refl a⟩ x hx
theorem offs_wy {W n : Nat} {l : List Bool} {p : Nat → Bool} (h : Offs W n l p) {a b : Nat} (ha : a < n) (hw : Wy (adjT W n l) a b) (hp : p a = true) : p b = true := by
  obtain ⟨_, _, hc⟩ := h
  exact (hw.closed (p := fun z => z < n ∧ p z = true) (fun u v ⟨hu, hpu⟩ hv => by
    obtain ⟨v1, v2⟩ := mem_adjT.1 hv
    refine ⟨v1, ?_⟩
    cases hpv : p v with
    | true => rfl
    | false => exact absurd ⟨hpv, hpu, v2⟩ (hc v v1 u hu)) ⟨ha, hp⟩).2
theorem offs_not_hg {W n : Nat} {l : List Bool} {p : Nat → Bool} (h : Offs W n l p) (hg : Hg W n l) : False := by
  obtain ⟨⟨a, ha, h1⟩, ⟨c, hc, h2⟩, _⟩ := id h
  rw [offs_wy h ha (hg_wy hg ha hc) h1] at h2
  cases h2
/-- Two parts: what comes off, and the rest. -/
theorem parts_two {W n : Nat} {l : List Bool} {p : Nat → Bool} (h : Offs W n l p) (hA : ∀ x, x < n → ∀ y, y < n → p x = true → p y = true → Wy (adjT W n l) x y) (hB : ∀ x, x < n → ∀ y, y < n → p x = false → p y = false → Wy (adjT W n l) x y)
    (he : ∃ a c, a < n ∧ c < n ∧ p a = true ∧ p c = false ∧ ov W l a c = true) : PL W n l = [(List.range n).filter p, (List.range n).filter fun x => !p x] := by
  have mA : ∀ x, x ∈ (List.range n).filter p ↔ x < n ∧ p x = true := fun x => by rw [List.mem_filter, List.mem_range]
  have mB : ∀ x, x ∈ (List.range n).filter (fun x => !p x) ↔ x < n ∧ p x = false := fun x => by rw [List.mem_filter, List.mem_range]; cases p x <;> simp
  have pA : Part W n l ((List.range n).filter p) := by
    refine ⟨List.Pairwise.filter _ List.pairwise_lt_range, fun x hx => ((mA x).1 hx).1, fun e => ?_, fun x y hx => ?_⟩
    · obtain ⟨a, ha, h1⟩ := h.1
      have := (mA a).2 ⟨ha, h1⟩
      rw [e] at this; cases this
    · obtain ⟨h1, h2⟩ := (mA x).1 hx
      rw [mA]
      exact ⟨fun ⟨h3, h4⟩ => ⟨hA x h1 y h3 h2 h4, hA y h3 x h1 h4 h2⟩, fun ⟨h3, _⟩ => ⟨adj_lt h3 h1, offs_wy h h1 h3 h2⟩⟩
  have pB : Part W n l ((List.range n).filter fun x => !p x) := by
    refine ⟨List.Pairwise.filter _ List.pairwise_lt_range, fun x hx => ((mB x).1 hx).1, fun e => ?_, fun x y hx => ?_⟩
    · obtain ⟨a, ha, h1⟩ := h.2.1
      have := (mB a).2 ⟨ha, h1⟩
      rw [e] at this; cases this
    · obtain ⟨h1, h2⟩ := (mB x).1 hx
      rw [mB]
      refine ⟨fun ⟨h3, h4⟩ => ⟨hB x h1 y h3 h2 h4, hB y h3 x h1 h4 h2⟩, fun ⟨h3, h5⟩ => ⟨adj_lt h3 h1, ?_⟩⟩
      cases hpy : p y with
      | false => rfl
      | true => rw [offs_wy h (adj_lt h3 h1) h5 hpy] at h2; cases h2
  obtain ⟨i, hi, ei⟩ := List.mem_iff_getElem.1 (part_in pA)
  obtain ⟨j, hj, ej⟩ := List.mem_iff_getElem.1 (part_in pB)
  have gi : (PL W n l).getD i [] = (List.range n).filter p := by rw [List.getD_eq_getElem?_getD, List.getElem?_eq_getElem hi]; exact ei
  have gj : (PL W n l).getD j [] = (List.range n).filter fun x => !p x := by rw [List.getD_eq_getElem?_getD, List.getElem?_eq_getElem hj]; exact ej
  have all : ∀ k, k < (PL W n l).length → k = i ∨ k = j := fun k hk => by
    obtain ⟨x, hx⟩ := List.exists_mem_of_ne_nil _ (PL_at hk).ne
    have hxn := (PL_at hk).lt x hx
    cases hp : p x with
    | true => exact .inl (PL_one hk hi hx (by rw [gi]; exact (mA x).2 ⟨hxn, hp⟩))
    | false => exact .inr (PL_one hk hj hx (by rw [gj]; exact (mB x).2 ⟨hxn, hp⟩))
  obtain ⟨a, c, ha, hc, h1, h2, h3⟩ := he
  obtain ⟨k, hk, hak⟩ := PL_below hj (show c ∈ (PL W n l).getD j [] by rw [gj]; exact (mB c).2 ⟨hc, h2⟩) ha (.one (mem_adjT.2 ⟨ha, h3⟩))
  have hki := PL_one (show k < (PL W n l).length by omega) hi hak (by rw [gi]; exact (mA a).2 ⟨ha, h1⟩)
  have hij : i ≠ j := fun e => by
    rw [e, gj] at gi
    have := (mB a).1 (gi ▸ (mA a).2 ⟨ha, h1⟩)
    rw [h1] at this; cases this.2
  have a0 := all 0 (by omega)
  have a1 := all 1 (by omega)
  have hlen : (PL W n l).length = 2 := by
    by_cases h2 : 2 < (PL W n l).length
    · have := all 2 h2; omega
    · omega
  obtain rfl : i = 0 := by omega
  obtain rfl : j = 1 := by omega
  obtain ⟨x, y, e⟩ : ∃ x y, PL W n l = [x, y] := by
    match h9 : PL W n l, hlen with
    | [x, y], _ => exact ⟨x, y, rfl⟩
  rw [e] at gi gj ⊢
  rw [show x = _ from gi, show y = _ from gj]
/-- The place of a thread of one of the two cloths in the double cloth. -/
def emb (W z t : Nat) : Nat := if t < W then 2 * t + z else 2 * W + 2 * (t - W) + z
theorem emb_lt {W H z t : Nat} (hz : z ≤ 1) (ht : t < W + H) : emb W z t < 2 * W + 2 * H := by unfold emb; split <;> omega
theorem emb_sur {W H z t : Nat} (ht : t < 2 * W + 2 * H) (hp : pD W z t = true) : ∃ s, s < W + H ∧ emb W z s = t := by
  have h2 := of_decide_eq_true hp
  by_cases e : t < 2 * W
  · rw [if_pos e] at h2
    exact ⟨t / 2, by omega, by unfold emb; rw [if_pos (by omega)]; omega⟩
  · rw [if_neg e] at h2
    exact ⟨W + (t - 2 * W) / 2, by omega, by unfold emb; rw [if_neg (by omega)]; omega⟩
theorem pD_not (W z t : Nat) (hz : z ≤ 1) : pD W (1 - z) t = !pD W z t := by
  unfold pD
  rw [← decide_not]
  refine decide_eq_decide.2 ?_
  split <;> omega
theorem dbl_ov {W H z : Nat} (hz : z ≤ 1) {l1 l2 l3 : List Bool} {a c : Nat} (ha : a < W + H) (hc : c < W + H) :
    ov (2 * W) (tabN (2 * W) (uD W l1 l2 l3) (2 * W * (2 * H))) (emb W z a) (emb W z c) = ov W (if z = 0 then l1 else l2) a c := by
  have hget : ∀ x y, x < W → y < H → (tabN (2 * W) (uD W l1 l2 l3) (2 * W * (2 * H))).getD (2 * W * (2 * y + z) + (2 * x + z)) false = (if z = 0 then l1 else l2).getD (W * y + x) false := fun x y hx hy => by
    rw [wov_get (by omega) (by omega)]
    by_cases e : z = 0
    · subst e; rw [if_pos rfl, Nat.add_zero, Nat.add_zero, uD_00, cellD]
    · obtain rfl : z = 1 := by omega
      rw [if_neg e, uD_11, cellD]
  unfold ov emb
  by_cases h1 : a < W <;> by_cases h2 : c < W
  · rw [if_pos h1, if_pos h2, if_pos h1, if_pos h2, if_pos (show 2 * a + z < 2 * W by omega), if_pos (show 2 * c + z < 2 * W by omega)]
  · rw [if_pos h1, if_neg h2, if_pos h1, if_neg h2, if_pos (show 2 * a + z < 2 * W by omega), if_neg (show ¬ 2 * W + 2 * (c - W) + z < 2 * W by omega), show 2 * W + 2 * (c - W) + z - 2 * W = 2 * (c - W) + z by omega, hget a (c - W) h1 (by omega)]
  · rw [if_neg h1, if_pos h2, if_neg h1, if_pos h2, if_neg (show ¬ 2 * W + 2 * (a - W) + z < 2 * W by omega), if_pos (show 2 * c + z < 2 * W by omega), show 2 * W + 2 * (a - W) + z - 2 * W = 2 * (a - W) + z by omega, hget c (a - W) h2 (by omega)]
  · rw [if_neg h1, if_neg h2, if_neg h1, if_neg h2, if_neg (show ¬ 2 * W + 2 * (a - W) + z < 2 * W by omega), if_neg (show ¬ 2 * W + 2 * (c - W) + z < 2 * W by omega)]
theorem dbl_wy {W H z : Nat} (hz : z ≤ 1) {l1 l2 l3 : List Bool} (hg : Hg W (W + H) (if z = 0 then l1 else l2)) : ∀ x, x < 2 * W + 2 * H → ∀ y, y < 2 * W + 2 * H → pD W z x = true → pD W z y = true → Wy (adjT (2 * W) (2 * W + 2 * H) (tabN (2 * W) (uD W l1 l2 l3) (2 * W * (2 * H)))) x y := by
  intro x hx y hy h1 h2
  obtain ⟨s, hs, rfl⟩ := emb_sur hx h1
  obtain ⟨t, ht, rfl⟩ := emb_sur hy h2
  exact wy_map (emb W z) (fun a ha => emb_lt hz ha) (fun a ha c hc h => by rw [dbl_ov hz ha hc]; exact h) (hg_wy hg hs ht) hs
section
variable {W H : Nat} {l1 l2 l3 : List Bool}
theorem dbl_up {u v : Nat} (hu : u < W) (hv : v < H) (h : cell W l3 u v = true) : ov (2 * W) (tabN (2 * W) (uD W l1 l2 l3) (2 * W * (2 * H))) (2 * u) (2 * W + (2 * v + 1)) = true := by
  unfold ov
  rw [if_pos (by omega), if_neg (by omega), show 2 * W + (2 * v + 1) - 2 * W = 2 * v + 1 by omega, wov_get (by omega) (by omega), uD_01, h]
theorem dbl_down {u v : Nat} (hu : u < W) (hv : v < H) (h : cell W l3 u v = false) : ov (2 * W) (tabN (2 * W) (uD W l1 l2 l3) (2 * W * (2 * H))) (2 * u + 1) (2 * W + 2 * v) = true := by
  unfold ov
  rw [if_pos (by omega), if_neg (by omega), show 2 * W + 2 * v - 2 * W = 2 * v by omega, wov_get (by omega) (by omega), uD_10, h]; rfl
variable (hW0 : 0 < W) (hH0 : 0 < H)
include hW0 hH0
/-- When a double cloth hangs together. -/
theorem dbl_hangs (g1 : Hg W (W + H) l1) (g2 : Hg W (W + H) l2) : Hg (2 * W) (2 * W + 2 * H) (tabN (2 * W) (uD W l1 l2 l3) (2 * W * (2 * H))) ↔ (∃ u v, u < W ∧ v < H ∧ cell W l3 u v = true) ∧ ∃ u v, u < W ∧ v < H ∧ cell W l3 u v = false := by
  have w0 := dbl_wy (W := W) (H := H) (z := 0) (by omega) (l1 := l1) (l2 := l2) (l3 := l3) (by rw [if_pos rfl]; exact g1)
  have w1 := dbl_wy (W := W) (H := H) (z := 1) (by omega) (l1 := l1) (l2 := l2) (l3 := l3) (by rw [if_neg (by omega)]; exact g2)
  constructor
  · intro hg
    constructor
    · refine Classical.byContradiction fun hno => offs_not_hg ((offs_double (l1 := l1) (l2 := l2) (l3 := l3) (z := 1) hW0 hH0 (by omega)).2 fun u v hu hv => ?_) hg
      cases hc : cell W l3 u v with
      | false => rfl
      | true => exact absurd ⟨u, v, hu, hv, hc⟩ hno
    · refine Classical.byContradiction fun hno => offs_not_hg ((offs_double (l1 := l1) (l2 := l2) (l3 := l3) (z := 0) hW0 hH0 (by omega)).2 fun u v hu hv => ?_) hg
      cases hc : cell W l3 u v with
      | true => rfl
      | false => exact absurd ⟨u, v, hu, hv, hc⟩ hno
  · rintro ⟨⟨u, v, hu, hv, h1⟩, ⟨u', v', hu', hv', h2⟩⟩ M hM ⟨c, hc, mc⟩ x hx
    have e1 := dbl_up (l1 := l1) (l2 := l2) hu hv h1
    have e2 := dbl_down (l1 := l1) (l2 := l2) hu' hv' h2
    have p1 : pD W 0 (2 * u) = true := decide_eq_true (by rw [if_pos (by omega)]; omega)
    have p2 : pD W 1 (2 * W + (2 * v + 1)) = true := decide_eq_true (by rw [if_neg (by omega)]; omega)
    have p3 : pD W 1 (2 * u' + 1) = true := decide_eq_true (by rw [if_pos (by omega)]; omega)
    have p4 : pD W 0 (2 * W + 2 * v') = true := decide_eq_true (by rw [if_neg (by omega)]; omega)
    have cl : ∀ a b, a < 2 * W + 2 * H → Wy (adjT (2 * W) (2 * W + 2 * H) (tabN (2 * W) (uD W l1 l2 l3) (2 * W * (2 * H)))) a b → M a → M b := fun a b ha hw hma =>
      (hw.closed (p := fun z => z < 2 * W + 2 * H ∧ M z) (fun a b ⟨ha, hma⟩ hb => ⟨(mem_adjT.1 hb).1, hM a ha hma b (mem_adjT.1 hb).1 (mem_adjT.1 hb).2⟩) ⟨ha, hma⟩).2
    have hpn := fun t => pD_not W 0 t (by omega)
    have m0 : ∀ t, t < 2 * W + 2 * H → pD W 0 t = true → M t → ∀ y, y < 2 * W + 2 * H → M y := fun t ht hp hm y hy => by
      have a0 : ∀ s, s < 2 * W + 2 * H → pD W 0 s = true → M s := fun s hs hps => cl t s ht (w0 t ht s hs hp hps) hm
      have a1 := hM _ (by omega) (a0 _ (by omega) p4) _ (by omega) e2
      cases hpy : pD W 0 y with
      | true => exact a0 y hy hpy
      | false => exact cl _ y (by omega) (w1 _ (by omega) y hy p3 (by have := hpn y; rw [hpy] at this; exact this)) a1
    cases hpc : pD W 0 c with
    | true => exact m0 c hc hpc mc x hx
    | false =>
      have hp1 : pD W 1 c = true := by have := hpn c; rw [hpc] at this; exact this
      have b1 := cl c _ hc (w1 c hc _ (by omega) hp1 p2) mc
      exact m0 _ (by omega) p1 (hM _ (by omega) b1 _ (by omega) e1) x hx
/-- The parts of a double cloth that does not hang together. -/
theorem dbl_parts {z : Nat} (hz : z ≤ 1) (g1 : Hg W (W + H) l1) (g2 : Hg W (W + H) l2) (h : ∀ u v, u < W → v < H → cell W l3 u v = decide (z = 0)) :
    PL (2 * W) (2 * W + 2 * H) (tabN (2 * W) (uD W l1 l2 l3) (2 * W * (2 * H))) = [(List.range (2 * W + 2 * H)).filter (pD W z), (List.range (2 * W + 2 * H)).filter (pD W (1 - z))] := by
  have w0 := dbl_wy (W := W) (H := H) (z := 0) (by omega) (l1 := l1) (l2 := l2) (l3 := l3) (by rw [if_pos rfl]; exact g1)
  have w1 := dbl_wy (W := W) (H := H) (z := 1) (by omega) (l1 := l1) (l2 := l2) (l3 := l3) (by rw [if_neg (by omega)]; exact g2)
  have hf : pD W (1 - z) = fun x => !pD W z x := funext fun x => pD_not W z x hz
  have hw : ∀ y, y ≤ 1 → ∀ a, a < 2 * W + 2 * H → ∀ b, b < 2 * W + 2 * H → pD W y a = true → pD W y b = true → Wy (adjT (2 * W) (2 * W + 2 * H) (tabN (2 * W) (uD W l1 l2 l3) (2 * W * (2 * H)))) a b := fun y hy => by
    rcases (show y = 0 ∨ y = 1 by omega) with rfl | rfl
    · exact w0
    · exact w1
  rw [hf]
  refine parts_two ((offs_double hW0 hH0 hz).2 h) (hw z hz) (fun a ha b hb h1 h2 => ?_) ?_
  · refine hw (1 - z) (by omega) a ha b hb ?_ ?_
    · rw [hf]; simp [h1]
    · rw [hf]; simp [h2]
  · have h00 := h 0 0 hW0 hH0
    rcases (show z = 0 ∨ z = 1 by omega) with rfl | rfl
    · exact ⟨2 * 0, 2 * W + (2 * 0 + 1), by omega, by omega, decide_eq_true (by rw [if_pos (by omega)]), decide_eq_false (by rw [if_neg (by omega)]; omega), dbl_up hW0 hH0 h00⟩
    · exact ⟨2 * 0 + 1, 2 * W + 2 * 0, by omega, by omega, decide_eq_true (by rw [if_pos (by omega)]), decide_eq_false (by rw [if_neg (by omega)]; omega), dbl_down hW0 hH0 h00⟩
end
theorem dbl_lay {W H z : Nat} (hz : z ≤ 1) : nI (layE (2 * W) ((List.range (2 * W + 2 * H)).filter (pD W z))) = evenL z W ∧ nI (layP (2 * W) ((List.range (2 * W + 2 * H)).filter (pD W z))) = evenL z H ∧ ((List.range (2 * W + 2 * H)).filter (pD W z)).length = W + H := by
  have hr : nI ((List.range (2 * W + 2 * H)).filter (pD W z)) = thD W H z := (thD_fil hz).symm
  generalize (List.range (2 * W + 2 * H)).filter (pD W z) = r at *
  have hl : r.length = (thD W H z).length := by rw [← hr, nI_len]
  obtain ⟨h1, h2⟩ := ends_lay (2 * W) r r.length (Nat.le_refl _)
  rw [List.take_length, hr, hl] at h1 h2
  rw [← h1, ← h2, thD_ends hz, thD_picks hz, hl, thD_len]
  exact ⟨rfl, rfl, rfl⟩
end Go.Proofs.YtdbpkjanlafajaaGreatDoor

/- Chapter 11: the layers, by both. -/
set_option linter.unusedSimpArgs false
set_option linter.unusedVariables false
set_option maxRecDepth 100000
namespace Go.Proofs.YtdbpkjanlafajaaGreatDoor
open Go Go.Proofs Go.AW

def big (ps : List (List Nat)) : List (List Nat) := ps.filter fun r => decide (1 < r.length)
def lyS (W : Nat) (rs : List (List Nat)) : List AVal := rs.flatMap (lyC W)
theorem lyS_len (W : Nat) : ∀ rs : List (List Nat), (lyS W rs).length = rs.length * 2
  | [] => rfl
  | r :: rs => by
    show (lyC W r ++ lyS W rs).length = _
    rw [List.length_append, lyS_len W rs]; simp [lyC]; omega
theorem lyS_snoc (W : Nat) (rs : List (List Nat)) (r : List Nat) : lyS W (rs ++ [r]) = lyS W rs ++ lyC W r := by simp [lyS]
theorem big_snoc (ps : List (List Nat)) (r : List Nat) : big (ps ++ [r]) = big ps ++ if 1 < r.length then [r] else [] := by
  unfold big; rw [List.filter_append]; by_cases h : 1 < r.length <;> simp [h]
theorem big_len (ps : List (List Nat)) : (big ps).length ≤ ps.length := List.length_filter_le _ _
theorem lyC_res (h : List AObj) (n W : Nat) (r : List Nat) : (lyC W r).map (resOf h (n + 2)) = lyC W r := by
  simp [lyC, resOf_list, ints_res]
theorem lyS_res (h : List AObj) (n W : Nat) : ∀ rs : List (List Nat), (lyS W rs).map (resOf h (n + 2)) = lyS W rs
  | [] => rfl
  | r :: rs => by
    show (lyC W r ++ lyS W rs).map _ = lyC W r ++ lyS W rs
    rw [List.map_append, lyC_res, lyS_res]
theorem lyC_fr (k W : Nat) (r : List Nat) : ∀ x ∈ lyC W r, allFresh (k + 2) x = true := by
  intro x hx
  simp only [lyC, List.mem_cons, List.not_mem_nil, or_false] at hx
  rcases hx with rfl | rfl <;> simp [allFresh, ints_fresh]
theorem resOf_gwL {h : List AObj} {n k : Nat} {W : Nat} {rs : List (List Nat)} (ho : h[k]? = some (goW 50 2 (lyS W rs))) : resOf h (n + 3) (gwW 2 k rs.length) = .list true rs.isEmpty rs.length (lyS W rs) := by
  cases rs with
  | nil => rfl
  | cons r t =>
    have hl := lyS_len W (r :: t)
    unfold gwW
    rw [if_neg (by simp)]
    rw [resOf_ref, ho]
    have hg : goW 50 2 (lyS W (r :: t)) = ⟨50, 2, lyS W (r :: t)⟩ := rfl
    rw [hg]
    simp only [rX]
    rw [if_pos hl, List.drop_zero, List.take_of_length_le (by omega), lyS_res]; rfl
/-- Layers. -/
def YV (W : Nat) (ps : List (List Nat)) : AVal := .list true (big ps).isEmpty (big ps).length (lyS W (big ps))
theorem layersP_c {W H n : Nat} (hN : W + H = n) (hW0 : 0 < W) (hH0 : 0 < H) (hn64 : n ≤ 64) (b : Bool) {l : List Bool} (hn : l.length = W * H) : Contract Tryz.prog 18 [GA W H b l] (.tuple [YV W (PL W n l), I 0]) := by
  have hrn : ∀ r ∈ PL W n l, r.length ≤ 1000 ∧ ∀ x ∈ r, x < n := fun r hr => by
    obtain ⟨h1, h2⟩ := PL_row hr
    exact ⟨by omega, h2⟩
  have hps := parts_len (W := W) (n := n) (l := l)
  have hpp := partsPP_c hN hW0 hH0 hn64 b hn
  generalize PL W n l = ps at *
  refine Contract.intro (effS [] false) 6 follows Tryz.func18 rfl rfl (by kernel_rfl) (Nat.le_of_ble_eq_true rfl) ?_
  simp (disch := first | assumption | omega | rfl | simp only [RH]) only [↓RP, RG, FX, RQ, ↓reduceIte, Nat.reduceEqDiff, reduceCtorEq, Nat.reduceBEq, Nat.reduceAdd, Nat.reduceLeDiff, args0_1]
  refine callK_F 6 hpp (by simp (disch := first | assumption | omega | rfl | simp only [RH]) only [↓RP, RG, FX, RQ, ↓reduceIte, Nat.reduceEqDiff, reduceCtorEq, Nat.reduceBEq, Nat.reduceAdd, Nat.reduceLeDiff, RA] <;> rfl) (.inl (by simp [allFresh]; exact PV_fr 2 _)) ?_
  simp only [PV]
  simp (disch := first | assumption | omega | rfl | simp only [RH]) only [↓RP, RG, FX, RQ, ↓reduceIte, Nat.reduceEqDiff, reduceCtorEq, Nat.reduceBEq, Nat.reduceAdd, Nat.reduceLeDiff]
  refine loopK_WW [1, 5, 6, 14, 15, 16] (fun i : Nat => i ≤ ps.length) (fun i => ⟨[(1, .ptr 0 0 3), (5, I 0), (6, gwW 2 1 (big (ps.take i)).length), (14, .list true ps.isEmpty ps.length (rowsC ps)), (15, I ps.length), (16, I i)], [⟨24, 3, [I W, I H, BA b l]⟩, goW 50 2 (lyS W (big (ps.take i)))]⟩) (fun i => ps.length - i) 0 (by omega) ?_ ?_
  · simp only [↓RP, RG, FX, RQ, ↓reduceIte, Nat.reduceEqDiff, reduceCtorEq, Nat.reduceBEq, Nat.reduceAdd, Nat.reduceLeDiff]
    exact Wk.weak (WE.cons _ (.refl _) (WE.cons _ (.refl _) (WE.cons _ (.nil _) (WE.cons _ (.refl _) (WE.cons _ (.refl _) (WE.cons _ (.refl _) WE.nil)))))) (.cons _ _ _ _ (WL.refl _) (.nil _ (by simp [goW, lyS, big])))
  intro i hi
  have hb := big_len (ps.take i)
  rw [List.length_take] at hb
  have hlS := lyS_len W (big (ps.take i))
  by_cases hlt : i < ps.length
  · have hrk := rowsC_at hlt
    have hmem : ps.getD i [] ∈ ps := by rw [List.getD_eq_getElem?_getD, List.getElem?_eq_getElem hlt]; exact List.getElem_mem hlt
    obtain ⟨hr1, hr2⟩ := hrn _ hmem
    have htk : ps.take (i + 1) = ps.take i ++ [ps.getD i []] := by rw [List.take_add_one, List.getElem?_eq_getElem hlt, List.getD_eq_getElem?_getD, List.getElem?_eq_getElem hlt]; rfl
    have hbs := big_snoc (ps.take i) (ps.getD i [])
    rw [← htk] at hbs
    generalize ps.getD i [] = r at *
    have hrl := nI_len r
    by_cases h1 : 1 < r.length
    · rw [if_pos h1] at hbs
      have hly := layerP_c hN hn64 b (l := l) false hr2 hr1
      generalize big (ps.take i) = R at *
      have hap : ∀ p0 : AObj, aAppend Tryz.prog 45 [p0, goW 50 2 (lyS W R)] (gwW 2 1 R.length) (.lit 1 (lyC W r)) = some (gwW 2 1 (R.length + 1), [p0, goW 50 2 (lyS W (R ++ [r]))]) := fun p0 => by
        rw [append_W (e := 50) (xs := lyS W R) rfl hlS rfl rfl (by omega) (by omega), lyS_snoc]; rfl
      have hRl : (R ++ [r]).length = R.length + 1 := by simp
      simp (disch := first | assumption | omega | rfl | simp only [RH]) only [↓RP, RG, FX, RQ, ↓reduceIte, Nat.reduceEqDiff, reduceCtorEq, Nat.reduceBEq, Nat.reduceAdd, Nat.reduceLeDiff, hrk, Int.toNat_natCast]
      refine callK_F 6 hly (by simp (disch := first | assumption | omega | rfl | simp only [RH]) only [↓RP, RG, FX, RQ, ↓reduceIte, Nat.reduceEqDiff, reduceCtorEq, Nat.reduceBEq, Nat.reduceAdd, Nat.reduceLeDiff, RA] <;> rfl) (.inl (by simp [allFresh]; exact lyC_fr 3 W r)) ?_
      simp only [lyC] at hap
      simp (disch := first | assumption | omega | rfl | simp only [RH]) only [↓RP, RG, FX, RQ, ↓reduceIte, Nat.reduceEqDiff, reduceCtorEq, Nat.reduceBEq, Nat.reduceAdd, Nat.reduceLeDiff, hap, lyC]
      exact ⟨i + 1, hlt, Wk.of_eq (by rw [hbs, hRl]; rfl), by omega⟩
    · rw [if_neg h1, List.append_nil] at hbs
      simp (disch := first | assumption | omega | rfl | simp only [RH]) only [↓RP, RG, FX, RQ, ↓reduceIte, Nat.reduceEqDiff, reduceCtorEq, Nat.reduceBEq, Nat.reduceAdd, Nat.reduceLeDiff, hrk, Int.toNat_natCast]
      exact ⟨i + 1, hlt, Wk.of_eq (by rw [hbs]; rfl), by omega⟩
  · obtain rfl : ps.length = i := by omega
    rw [List.take_length]
    simp (disch := first | assumption | omega | rfl | simp only [RH]) only [↓RP, RG, FX, RQ, ↓reduceIte, Nat.reduceEqDiff, reduceCtorEq, Nat.reduceBEq, Nat.reduceAdd, Nat.reduceLeDiff]
    rw [resVal_2 rfl]; simp (disch := first | assumption | omega | rfl | simp only [RH]) only [↓RP, RG, FX, RQ, ↓reduceIte, Nat.reduceEqDiff, reduceCtorEq, Nat.reduceBEq, Nat.reduceAdd, Nat.reduceLeDiff, RS]
    rw [resOf_gwL rfl]; rfl
end Go.Proofs.YtdbpkjanlafajaaGreatDoor

/- The law DoubleBack. -/
set_option linter.unusedSimpArgs false
set_option linter.unusedVariables false
set_option maxRecDepth 100000
namespace Go.Proofs.YtdbpkjanlafajaaGreatDoor
open Go Go.Proofs Go.AW

theorem fit3_nat {w1 h1 : Int} {l1 : List Bool} {w2 h2 : Int} {l2 : List Bool} {w3 h3 : Int} {l3 : List Bool} {n : Int} (hf : fit3 w1 h1 l1 w2 h2 l2 w3 h3 l3 n) :
    ∃ W H : Nat, w1 = W ∧ h1 = H ∧ w2 = W ∧ h2 = H ∧ w3 = W ∧ h3 = H ∧ 0 < W ∧ 0 < H ∧ (W : Int) ≤ n ∧ (H : Int) ≤ n ∧ W ≤ 64 ∧ H ≤ 64 ∧ l1.length = W * H ∧ l2.length = W * H ∧ l3.length = W * H := by
  obtain ⟨f1, f2, f3, f4⟩ := hf
  obtain ⟨g1, g2, g3, rfl, rfl, rfl, rfl⟩ := thr_zero f2
  obtain ⟨W, H, rfl, rfl, hW0, hW, hH0, hH, n1⟩ := gOk_nat g1
  have n2 : l2.length = W * H := by have := g2.2.2.2.2; rw [← Int.natCast_mul] at this; exact Int.ofNat.inj this
  have n3 : l3.length = W * H := by have := g3.2.2.2.2; rw [← Int.natCast_mul] at this; exact Int.ofNat.inj this
  exact ⟨W, H, rfl, rfl, rfl, rfl, rfl, rfl, hW0, hH0, f3, f4, hW, hH, n1, n2, n3⟩
end Go.Proofs.YtdbpkjanlafajaaGreatDoor
