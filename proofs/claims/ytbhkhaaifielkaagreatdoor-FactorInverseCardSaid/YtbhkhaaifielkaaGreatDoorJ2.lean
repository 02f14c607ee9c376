/- Part 2 of the proof's own texts: the contracts of functions, and what they rest on. -/
import Derived.Test.YtbhkhaaifielkaaGreatDoorJ1
import Derived.Test.YtbhkhaaifielkaaGreatDoorBw3
/- Match of drafts: the walks. -/
set_option linter.unusedSimpArgs false
set_option linter.unusedVariables false
set_option maxRecDepth 100000
namespace Go.Proofs.YtbhkhaaifielkaaGreatDoor
open Go Go.Proofs Go.AW

section
variable {s t : Int} {b1 : Bool} {th : List Int} {b2 : Bool} {td : List Int} {w h : Int} {b3 : Bool} {l : List Bool} {s' t' : Int} {b1' : Bool} {th' : List Int} {b2' : Bool} {td' : List Int} {w' h' : Int} {b3' : Bool} {l' : List Bool}
section
variable (hca : Contract Tryz.prog 27 [DA s t b1 th b2 td w h b3 l] (I 0)) (hcb : Contract Tryz.prog 27 [DA s' t' b1' th' b2' td' w' h' b3' l'] (I 0))
include hca hcb
variable (hua : Contract Tryz.prog 28 [DA s t b1 th b2 td w h b3 l] (B true)) (hub : Contract Tryz.prog 28 [DA s' t' b1' th' b2' td' w' h' b3' l'] (B true))
include hua hub
variable {n1 n2 : Bool} {m1 m2 : List Int} (h1 : Contract Tryz.prog 29 [LA b1 th, LA b1' th'] (.tuple [LR n1 m1, I 0])) (h2 : Contract Tryz.prog 29 [LA b2 td, LA b2' td'] (.tuple [LR n2 m2, I 0]))
include h1 h2
theorem mP_ren {s2 t2 : Int} {c1 : Bool} {th2 : List Int} {c2 : Bool} {td2 : List Int} {w2 h2' : Int} {c3 : Bool} {l2 : List Bool} {e : Int} {r : Bool} (hr : Contract Tryz.prog 9 [DA s t b1 th b2 td w h b3 l, LA n1 m1, LA n2 m2] (.tuple [DR s2 t2 c1 th2 c2 td2 w2 h2' c3 l2, I e]))
    (hs : Contract Tryz.prog 30 [DA s2 t2 c1 th2 c2 td2 w2 h2' c3 l2, DA s' t' b1' th' b2' td' w' h' b3' l'] (B r)) :
    Contract Tryz.prog 8 [DA s t b1 th b2 td w h b3 l, DA s' t' b1' th' b2' td' w' h' b3' l'] (.tuple (if e = 0 ∧ r = true then [LR n1 m1, LR n2 m2, I 0] else [LR true [], LR true [], I 6])) := by
  by_cases c1 : e = 0
  · subst c1
    cases r with
    | true =>
      rw [if_pos ⟨rfl, rfl⟩]
      refine Contract.intro (effS [] false) 6 follows Tryz.func8 rfl rfl (by kernel_rfl) (Nat.le_of_ble_eq_true rfl) ?_
      simp (disch := first | assumption | omega | rfl | simp only [RH]) only [↓RP, RG, FX, RQ, ↓reduceIte, Nat.reduceEqDiff, reduceCtorEq, Nat.reduceBEq, Nat.reduceAdd, Nat.reduceLeDiff, args0_2]
      refine callK_F 6 (hca) (by simp (disch := first | assumption | omega | rfl | simp only [RH]) only [↓RP, RG, FX, RQ, ↓reduceIte, Nat.reduceEqDiff, reduceCtorEq, Nat.reduceBEq, Nat.reduceAdd, Nat.reduceLeDiff, RA] <;> rfl) (.inl (by simp [allFresh, ints_fresh, bools_fresh])) ?_
      simp (disch := first | assumption | omega | rfl | simp only [RH]) only [↓RP, RG, FX, RQ, ↓reduceIte, Nat.reduceEqDiff, reduceCtorEq, Nat.reduceBEq, Nat.reduceAdd, Nat.reduceLeDiff]
      refine callK_F 6 (hcb) (by simp (disch := first | assumption | omega | rfl | simp only [RH]) only [↓RP, RG, FX, RQ, ↓reduceIte, Nat.reduceEqDiff, reduceCtorEq, Nat.reduceBEq, Nat.reduceAdd, Nat.reduceLeDiff, RA] <;> rfl) (.inl (by simp [allFresh, ints_fresh, bools_fresh])) ?_
      simp (disch := first | assumption | omega | rfl | simp only [RH]) only [↓RP, RG, FX, RQ, ↓reduceIte, Nat.reduceEqDiff, reduceCtorEq, Nat.reduceBEq, Nat.reduceAdd, Nat.reduceLeDiff]
      refine callK_F 6 (hua) (by simp (disch := first | assumption | omega | rfl | simp only [RH]) only [↓RP, RG, FX, RQ, ↓reduceIte, Nat.reduceEqDiff, reduceCtorEq, Nat.reduceBEq, Nat.reduceAdd, Nat.reduceLeDiff, RA] <;> rfl) (.inl (by simp [allFresh, ints_fresh, bools_fresh])) ?_
      simp (disch := first | assumption | omega | rfl | simp only [RH]) only [↓RP, RG, FX, RQ, ↓reduceIte, Nat.reduceEqDiff, reduceCtorEq, Nat.reduceBEq, Nat.reduceAdd, Nat.reduceLeDiff]
      refine callK_F 6 (hub) (by simp (disch := first | assumption | omega | rfl | simp only [RH]) only [↓RP, RG, FX, RQ, ↓reduceIte, Nat.reduceEqDiff, reduceCtorEq, Nat.reduceBEq, Nat.reduceAdd, Nat.reduceLeDiff, RA] <;> rfl) (.inl (by simp [allFresh, ints_fresh, bools_fresh])) ?_
      simp (disch := first | assumption | omega | rfl | simp only [RH]) only [↓RP, RG, FX, RQ, ↓reduceIte, Nat.reduceEqDiff, reduceCtorEq, Nat.reduceBEq, Nat.reduceAdd, Nat.reduceLeDiff]
      refine callK_F 6 h1 (by simp (disch := first | assumption | omega | rfl | simp only [RH]) only [↓RP, RG, FX, RQ, ↓reduceIte, Nat.reduceEqDiff, reduceCtorEq, Nat.reduceBEq, Nat.reduceAdd, Nat.reduceLeDiff, RA] <;> rfl) (.inl (by simp [allFresh, ints_fresh])) ?_
      simp (disch := first | assumption | omega | rfl | simp only [RH]) only [↓RP, RG, FX, RQ, ↓reduceIte, Nat.reduceEqDiff, reduceCtorEq, Nat.reduceBEq, Nat.reduceAdd, Nat.reduceLeDiff]
      refine callK_F 6 h2 (by simp (disch := first | assumption | omega | rfl | simp only [RH]) only [↓RP, RG, FX, RQ, ↓reduceIte, Nat.reduceEqDiff, reduceCtorEq, Nat.reduceBEq, Nat.reduceAdd, Nat.reduceLeDiff, RA] <;> rfl) (.inl (by simp [allFresh, ints_fresh])) ?_
      simp (disch := first | assumption | omega | rfl | simp only [RH]) only [↓RP, RG, FX, RQ, ↓reduceIte, Nat.reduceEqDiff, reduceCtorEq, Nat.reduceBEq, Nat.reduceAdd, Nat.reduceLeDiff]
      refine callK_F 6 hr (by simp (disch := first | assumption | omega | rfl | simp only [RH]) only [↓RP, RG, FX, RQ, ↓reduceIte, Nat.reduceEqDiff, reduceCtorEq, Nat.reduceBEq, Nat.reduceAdd, Nat.reduceLeDiff, RA] <;> rfl) (.inl (by simp [allFresh, ints_fresh, bools_fresh])) ?_
      simp (disch := first | assumption | omega | rfl | simp only [RH]) only [↓RP, RG, FX, RQ, ↓reduceIte, Nat.reduceEqDiff, reduceCtorEq, Nat.reduceBEq, Nat.reduceAdd, Nat.reduceLeDiff]
      refine callK_F 6 hs (by simp (disch := first | assumption | omega | rfl | simp only [RH]) only [↓RP, RG, FX, RQ, ↓reduceIte, Nat.reduceEqDiff, reduceCtorEq, Nat.reduceBEq, Nat.reduceAdd, Nat.reduceLeDiff, RA] <;> rfl) (.inl rfl) ?_
      simp (disch := first | assumption | omega | rfl | simp only [RH]) only [↓RP, RG, FX, RQ, ↓reduceIte, Nat.reduceEqDiff, reduceCtorEq, Nat.reduceBEq, Nat.reduceAdd, Nat.reduceLeDiff]
      rw [resVal_3 rfl]; simp (disch := first | assumption | omega | rfl | simp only [RH]) only [↓RP, RG, FX, RQ, ↓reduceIte, Nat.reduceEqDiff, reduceCtorEq, Nat.reduceBEq, Nat.reduceAdd, Nat.reduceLeDiff, RS]
      first | done | rfl
    | false =>
      rw [if_neg (fun h => by cases h.2)]
      refine Contract.intro (effS [] false) 6 follows Tryz.func8 rfl rfl (by kernel_rfl) (Nat.le_of_ble_eq_true rfl) ?_
      simp (disch := first | assumption | omega | rfl | simp only [RH]) only [↓RP, RG, FX, RQ, ↓reduceIte, Nat.reduceEqDiff, reduceCtorEq, Nat.reduceBEq, Nat.reduceAdd, Nat.reduceLeDiff, args0_2]
      refine callK_F 6 (hca) (by simp (disch := first | assumption | omega | rfl | simp only [RH]) only [↓RP, RG, FX, RQ, ↓reduceIte, Nat.reduceEqDiff, reduceCtorEq, Nat.reduceBEq, Nat.reduceAdd, Nat.reduceLeDiff, RA] <;> rfl) (.inl (by simp [allFresh, ints_fresh, bools_fresh])) ?_
      simp (disch := first | assumption | omega | rfl | simp only [RH]) only [↓RP, RG, FX, RQ, ↓reduceIte, Nat.reduceEqDiff, reduceCtorEq, Nat.reduceBEq, Nat.reduceAdd, Nat.reduceLeDiff]
      refine callK_F 6 (hcb) (by simp (disch := first | assumption | omega | rfl | simp only [RH]) only [↓RP, RG, FX, RQ, ↓reduceIte, Nat.reduceEqDiff, reduceCtorEq, Nat.reduceBEq, Nat.reduceAdd, Nat.reduceLeDiff, RA] <;> rfl) (.inl (by simp [allFresh, ints_fresh, bools_fresh])) ?_
      simp (disch := first | assumption | omega | rfl | simp only [RH]) only [↓RP, RG, FX, RQ, ↓reduceIte, Nat.reduceEqDiff, reduceCtorEq, Nat.reduceBEq, Nat.reduceAdd, Nat.reduceLeDiff]
      refine callK_F 6 (hua) (by simp (disch := first | assumption | omega | rfl | simp only [RH]) only [↓RP, RG, FX, RQ, ↓reduceIte, Nat.reduceEqDiff, reduceCtorEq, Nat.reduceBEq, Nat.reduceAdd, Nat.reduceLeDiff, RA] <;> rfl) (.inl (by simp [allFresh, ints_fresh, bools_fresh])) ?_
      simp (disch := first | assumption | omega | rfl | simp only [RH]) only [↓RP, RG, FX, RQ, ↓reduceIte, Nat.reduceEqDiff, reduceCtorEq, Nat.reduceBEq, Nat.reduceAdd, Nat.reduceLeDiff]
      refine callK_F 6 (hub) (by simp (disch := first | assumption | omega | rfl | simp only [RH]) only [↓RP, RG, FX, RQ, ↓reduceIte, Nat.reduceEqDiff, reduceCtorEq, Nat.reduceBEq, Nat.reduceAdd, Nat.reduceLeDiff, RA] <;> rfl) (.inl (by simp [allFresh, ints_fresh, bools_fresh])) ?_
      simp (disch := first | assumption | omega | rfl | simp only [RH]) only [↓RP, RG, FX, RQ, ↓reduceIte, Nat.reduceEqDiff, reduceCtorEq, Nat.reduceBEq, Nat.reduceAdd, Nat.reduceLeDiff]
      refine callK_F 6 h1 (by simp (disch := first | assumption | omega | rfl | simp only [RH]) only [↓RP, RG, FX, RQ, ↓reduceIte, Nat.reduceEqDiff, reduceCtorEq, Nat.reduceBEq, Nat.reduceAdd, Nat.reduceLeDiff, RA] <;> rfl) (.inl (by simp [allFresh, ints_fresh])) ?_
      simp (disch := first | assumption | omega | rfl | simp only [RH]) only [↓RP, RG, FX, RQ, ↓reduceIte, Nat.reduceEqDiff, reduceCtorEq, Nat.reduceBEq, Nat.reduceAdd, Nat.reduceLeDiff]
      refine callK_F 6 h2 (by simp (disch := first | assumption | omega | rfl | simp only [RH]) only [↓RP, RG, FX, RQ, ↓reduceIte, Nat.reduceEqDiff, reduceCtorEq, Nat.reduceBEq, Nat.reduceAdd, Nat.reduceLeDiff, RA] <;> rfl) (.inl (by simp [allFresh, ints_fresh])) ?_
      simp (disch := first | assumption | omega | rfl | simp only [RH]) only [↓RP, RG, FX, RQ, ↓reduceIte, Nat.reduceEqDiff, reduceCtorEq, Nat.reduceBEq, Nat.reduceAdd, Nat.reduceLeDiff]
      refine callK_F 6 hr (by simp (disch := first | assumption | omega | rfl | simp only [RH]) only [↓RP, RG, FX, RQ, ↓reduceIte, Nat.reduceEqDiff, reduceCtorEq, Nat.reduceBEq, Nat.reduceAdd, Nat.reduceLeDiff, RA] <;> rfl) (.inl (by simp [allFresh, ints_fresh, bools_fresh])) ?_
      simp (disch := first | assumption | omega | rfl | simp only [RH]) only [↓RP, RG, FX, RQ, ↓reduceIte, Nat.reduceEqDiff, reduceCtorEq, Nat.reduceBEq, Nat.reduceAdd, Nat.reduceLeDiff]
      refine callK_F 6 hs (by simp (disch := first | assumption | omega | rfl | simp only [RH]) only [↓RP, RG, FX, RQ, ↓reduceIte, Nat.reduceEqDiff, reduceCtorEq, Nat.reduceBEq, Nat.reduceAdd, Nat.reduceLeDiff, RA] <;> rfl) (.inl rfl) ?_
      simp (disch := first | assumption | omega | rfl | simp only [RH]) only [↓RP, RG, FX, RQ, ↓reduceIte, Nat.reduceEqDiff, reduceCtorEq, Nat.reduceBEq, Nat.reduceAdd, Nat.reduceLeDiff]
      rw [resVal_3 rfl]; simp (disch := first | assumption | omega | rfl | simp only [RH]) only [↓RP, RG, FX, RQ, ↓reduceIte, Nat.reduceEqDiff, reduceCtorEq, Nat.reduceBEq, Nat.reduceAdd, Nat.reduceLeDiff, RS]
      first | done | rfl
  · rw [if_neg (fun h => c1 h.1)]
    refine Contract.intro (effS [] false) 6 follows Tryz.func8 rfl rfl (by kernel_rfl) (Nat.le_of_ble_eq_true rfl) ?_
    simp (disch := first | assumption | omega | rfl | simp only [RH]) only [↓RP, RG, FX, RQ, ↓reduceIte, Nat.reduceEqDiff, reduceCtorEq, Nat.reduceBEq, Nat.reduceAdd, Nat.reduceLeDiff, args0_2]
    refine callK_F 6 (hca) (by simp (disch := first | assumption | omega | rfl | simp only [RH]) only [↓RP, RG, FX, RQ, ↓reduceIte, Nat.reduceEqDiff, reduceCtorEq, Nat.reduceBEq, Nat.reduceAdd, Nat.reduceLeDiff, RA] <;> rfl) (.inl (by simp [allFresh, ints_fresh, bools_fresh])) ?_
    simp (disch := first | assumption | omega | rfl | simp only [RH]) only [↓RP, RG, FX, RQ, ↓reduceIte, Nat.reduceEqDiff, reduceCtorEq, Nat.reduceBEq, Nat.reduceAdd, Nat.reduceLeDiff]
    refine callK_F 6 (hcb) (by simp (disch := first | assumption | omega | rfl | simp only [RH]) only [↓RP, RG, FX, RQ, ↓reduceIte, Nat.reduceEqDiff, reduceCtorEq, Nat.reduceBEq, Nat.reduceAdd, Nat.reduceLeDiff, RA] <;> rfl) (.inl (by simp [allFresh, ints_fresh, bools_fresh])) ?_
    simp (disch := first | assumption | omega | rfl | simp only [RH]) only [↓RP, RG, FX, RQ, ↓reduceIte, Nat.reduceEqDiff, reduceCtorEq, Nat.reduceBEq, Nat.reduceAdd, Nat.reduceLeDiff]
    refine callK_F 6 (hua) (by simp (disch := first | assumption | omega | rfl | simp only [RH]) only [↓RP, RG, FX, RQ, ↓reduceIte, Nat.reduceEqDiff, reduceCtorEq, Nat.reduceBEq, Nat.reduceAdd, Nat.reduceLeDiff, RA] <;> rfl) (.inl (by simp [allFresh, ints_fresh, bools_fresh])) ?_
    simp (disch := first | assumption | omega | rfl | simp only [RH]) only [↓RP, RG, FX, RQ, ↓reduceIte, Nat.reduceEqDiff, reduceCtorEq, Nat.reduceBEq, Nat.reduceAdd, Nat.reduceLeDiff]
    refine callK_F 6 (hub) (by simp (disch := first | assumption | omega | rfl | simp only [RH]) only [↓RP, RG, FX, RQ, ↓reduceIte, Nat.reduceEqDiff, reduceCtorEq, Nat.reduceBEq, Nat.reduceAdd, Nat.reduceLeDiff, RA] <;> rfl) (.inl (by simp [allFresh, ints_fresh, bools_fresh])) ?_
    simp (disch := first | assumption | omega | rfl | simp only [RH]) only [↓RP, RG, FX, RQ, ↓reduceIte, Nat.reduceEqDiff, reduceCtorEq, Nat.reduceBEq, Nat.reduceAdd, Nat.reduceLeDiff]
    refine callK_F 6 h1 (by simp (disch := first | assumption | omega | rfl | simp only [RH]) only [↓RP, RG, FX, RQ, ↓reduceIte, Nat.reduceEqDiff, reduceCtorEq, Nat.reduceBEq, Nat.reduceAdd, Nat.reduceLeDiff, RA] <;> rfl) (.inl (by simp [allFresh, ints_fresh])) ?_
    simp (disch := first | assumption | omega | rfl | simp only [RH]) only [↓RP, RG, FX, RQ, ↓reduceIte, Nat.reduceEqDiff, reduceCtorEq, Nat.reduceBEq, Nat.reduceAdd, Nat.reduceLeDiff]
    refine callK_F 6 h2 (by simp (disch := first | assumption | omega | rfl | simp only [RH]) only [↓RP, RG, FX, RQ, ↓reduceIte, Nat.reduceEqDiff, reduceCtorEq, Nat.reduceBEq, Nat.reduceAdd, Nat.reduceLeDiff, RA] <;> rfl) (.inl (by simp [allFresh, ints_fresh])) ?_
    simp (disch := first | assumption | omega | rfl | simp only [RH]) only [↓RP, RG, FX, RQ, ↓reduceIte, Nat.reduceEqDiff, reduceCtorEq, Nat.reduceBEq, Nat.reduceAdd, Nat.reduceLeDiff]
    refine callK_F 6 hr (by simp (disch := first | assumption | omega | rfl | simp only [RH]) only [↓RP, RG, FX, RQ, ↓reduceIte, Nat.reduceEqDiff, reduceCtorEq, Nat.reduceBEq, Nat.reduceAdd, Nat.reduceLeDiff, RA] <;> rfl) (.inl (by simp [allFresh, ints_fresh, bools_fresh])) ?_
    simp (disch := first | assumption | omega | rfl | simp only [RH]) only [↓RP, RG, FX, RQ, ↓reduceIte, Nat.reduceEqDiff, reduceCtorEq, Nat.reduceBEq, Nat.reduceAdd, Nat.reduceLeDiff]
    rw [resVal_3 rfl]; simp (disch := first | assumption | omega | rfl | simp only [RH]) only [↓RP, RG, FX, RQ, ↓reduceIte, Nat.reduceEqDiff, reduceCtorEq, Nat.reduceBEq, Nat.reduceAdd, Nat.reduceLeDiff, RS]
    first | done | rfl
end
end
end Go.Proofs.YtbhkhaaifielkaaGreatDoor

/- Matches of a draft with what is made of it by renumbering. -/
set_option linter.unusedSimpArgs false
set_option linter.unusedVariables false
set_option maxRecDepth 100000
namespace Go.Proofs.YtbhkhaaifielkaaGreatDoor
open Go Go.Proofs Go.AW

/-- Where all of the first are used: the match found. -/
theorem tm_use {a b : List Int} (b1 b2 : Bool) {S : Nat} (hw : wIn a S) (hS : S ≤ 400) (hal : a.length ≤ 400) (hb : thV b) (hu : nK a = S) (hl : a.length = b.length) (hp : pairs a b a.length) :
    Contract Tryz.prog 29 [LA b1 a, LA b2 b] (.tuple [LR false (mtO a b S a.length), I 0]) :=
  matchP_c b1 b2 (thV_of hw hal (by omega)) hb hl hw.1 (N := S) (use_max hw hu).symm 0 _ _ (fun _ => ⟨rfl, rfl, rfl⟩) (fun h => absurd hp h)
section
variable {S T : Nat} {th td : List Int} {l : List Bool} (hd : dOk S T th td T S l.length) (b1 b2 b3 : Bool)
include hd
theorem uses_a : Contract Tryz.prog 28 [DA S T b1 th b2 td T S b3 l] (B (decide ((nK th : Int) = S ∧ (nK td : Int) = T))) :=
  usesP_c S T b1 b2 T S b3 l (thV_of hd.2.2.2.2.1 (by have := hd.2.2.1; omega) (by have := hd.1; omega)) (thV_of hd.2.2.2.2.2.1 (by have := hd.2.2.2.1; omega) (by have := hd.2.1; omega)) hd.2.2.2.2.1.1 hd.2.2.2.2.2.1.1
theorem check_a : Contract Tryz.prog 27 [DA S T b1 th b2 td T S b3 l] (I 0) := by
  have h := dcheckP_c S T b1 th b2 td T S b3 l (by have := hd.2.2.1; omega) (by have := hd.2.2.2.1; omega)
  rwa [dchk_ok hd] at h
end
end Go.Proofs.YtbhkhaaifielkaaGreatDoor

/- The least draft of a valid grid, by both. -/
set_option linter.unusedSimpArgs false
set_option linter.unusedVariables false
set_option maxRecDepth 100000
namespace Go.Proofs.YtbhkhaaifielkaaGreatDoor
open Go Go.Proofs Go.AW

/-- The tie-up of the least draft. -/
def uF (W : Nat) (l : List Bool) (es ps : List Nat) (t s : Nat) : Bool := l.getD (W * ps.getD t 0 + es.getD s 0) false
theorem fC_lt (W H : Nat) (l : List Bool) : ∀ j, j < (fC W H l).length → (fC W H l).getD j 0 < W := fun j hj =>
  knd_first _ _ _ (by rw [List.getD_eq_getElem?_getD, List.getElem?_eq_getElem hj]; exact List.getElem_mem hj)
theorem fR_lt (W H : Nat) (l : List Bool) : ∀ j, j < (fR W H l).length → (fR W H l).getD j 0 < H := fun j hj =>
  knd_first _ _ _ (by rw [List.getD_eq_getElem?_getD, List.getElem?_eq_getElem hj]; exact List.getElem_mem hj)
section
variable {W H : Nat} (hW1 : 1 ≤ W) (hW : W ≤ 64) (hH1 : 1 ≤ H) (hH : H ≤ 64) (b : Bool) {l : List Bool} (hn : l.length = W * H)
include hW1 hW hH1 hH hn
theorem ofP_many (hm : 40 < (fC W H l).length ∨ 40 < (fR W H l).length) : Contract Tryz.prog 17 [GA W H b l] (.tuple [DR 0 0 true [] true [] 0 0 true [], I 4]) := by
  have h1 := both_c hW1 hW hH1 hH b hn
  have n1 := nI_len (fC W H l)
  have n2 := nI_len (fR W H l)
  generalize kC W H l = a1 at *
  generalize fC W H l = a2 at *
  generalize kR W H l = a3 at *
  generalize fR W H l = a4 at *
  refine Contract.intro (effS [] false) 6 follows Tryz.func17 rfl rfl (by kernel_rfl) (Nat.le_of_ble_eq_true rfl) ?_
  simp (disch := first | assumption | omega | rfl | simp only [RH]) only [↓RP, RG, FX, RQ, ↓reduceIte, Nat.reduceEqDiff, reduceCtorEq, Nat.reduceBEq, Nat.reduceAdd, Nat.reduceLeDiff, args0_1]
  refine callK_F 6 h1 (by simp (disch := first | assumption | omega | rfl | simp only [RH]) only [↓RP, RG, FX, RQ, ↓reduceIte, Nat.reduceEqDiff, reduceCtorEq, Nat.reduceBEq, Nat.reduceAdd, Nat.reduceLeDiff, RA] <;> rfl) (.inl (by simp [allFresh, ints_fresh])) ?_
  simp (disch := first | assumption | omega | rfl | simp only [RH]) only [↓RP, RG, FX, RQ, ↓reduceIte, Nat.reduceEqDiff, reduceCtorEq, Nat.reduceBEq, Nat.reduceAdd, Nat.reduceLeDiff, n1, n2]
  refine loopK_I [1, 2, 3, 4, 5, 6, 7, 32, 33] (fun z : Nat => z ≤ 2 ∧ (0 < z → a2.length ≤ 40) ∧ (1 < z → a4.length ≤ 40)) (fun z : Nat => ⟨[(1, .ptr 0 0 3), (2, .ptr 1 0 7), (3, I 0), (4, LN a1), (5, LN a2), (6, LN a3), (7, LN a4), (32, .agg [I a2.length, I a4.length]), (33, I z)], [⟨25, 3, [I W, I H, BA b l]⟩, ⟨27, 7, [I 0, I 0, .cap0 true, .cap0 true, I 0, I 0, .cap0 true]⟩]⟩) (fun z => 2 - z) 0 ⟨by omega, by omega, by omega⟩ (by simp only [↓RP, RG, FX, RQ, ↓reduceIte, Nat.reduceEqDiff, reduceCtorEq, Nat.reduceBEq, Nat.reduceAdd, Nat.reduceLeDiff]; rfl) ?_
  rintro z ⟨hz, hz1, hz2⟩
  have hc : z = 0 ∨ z = 1 ∨ z = 2 := by omega
  rcases hc with rfl | rfl | rfl
  · by_cases c1 : 40 < (a2.length : Int)
    · simp (disch := first | assumption | omega | rfl | simp only [RH]) only [↓RP, RG, FX, RQ, ↓reduceIte, Nat.reduceEqDiff, reduceCtorEq, Nat.reduceBEq, Nat.reduceAdd, Nat.reduceLeDiff, opK_index, idxA_agg, idxA_spot, limE]
      rw [resVal_2 rfl]; simp (disch := first | assumption | omega | rfl | simp only [RH]) only [↓RP, RG, FX, RQ, ↓reduceIte, Nat.reduceEqDiff, reduceCtorEq, Nat.reduceBEq, Nat.reduceAdd, Nat.reduceLeDiff, RS]
      first | done | rfl
    · simp (disch := first | assumption | omega | rfl | simp only [RH]) only [↓RP, RG, FX, RQ, ↓reduceIte, Nat.reduceEqDiff, reduceCtorEq, Nat.reduceBEq, Nat.reduceAdd, Nat.reduceLeDiff, opK_index, idxA_agg, idxA_spot, limE]
      exact ⟨1, ⟨by omega, by omega, by omega⟩, rfl, by omega⟩
  · have := hz1 (by omega)
    simp (disch := first | assumption | omega | rfl | simp only [RH]) only [↓RP, RG, FX, RQ, ↓reduceIte, Nat.reduceEqDiff, reduceCtorEq, Nat.reduceBEq, Nat.reduceAdd, Nat.reduceLeDiff, opK_index, idxA_agg, idxA_spot, limE]
    rw [resVal_2 rfl]; simp (disch := first | assumption | omega | rfl | simp only [RH]) only [↓RP, RG, FX, RQ, ↓reduceIte, Nat.reduceEqDiff, reduceCtorEq, Nat.reduceBEq, Nat.reduceAdd, Nat.reduceLeDiff, RS]
    first | done | rfl
  · exfalso
    have := hz1 (by omega)
    have := hz2 (by omega)
    omega
theorem ofP_c (c1 : (fC W H l).length ≤ 40) (c2 : (fR W H l).length ≤ 40) : Contract Tryz.prog 17 [GA W H b l]
    (.tuple [DR (fC W H l).length (fR W H l).length (nI (kC W H l)).isEmpty (nI (kC W H l)) (nI (kR W H l)).isEmpty (nI (kR W H l)) (fR W H l).length (fC W H l).length (tabN (fR W H l).length (uF W l (fC W H l) (fR W H l)) ((fR W H l).length * (fC W H l).length)).isEmpty (tabN (fR W H l).length (uF W l (fC W H l) (fR W H l)) ((fR W H l).length * (fC W H l).length)), I 0]) := by
  have h1 := both_c hW1 hW hH1 hH b hn
  have n1 := nI_len (fC W H l)
  have n2 := nI_len (fR W H l)
  have hCl := fC_lt W H l
  have hRl := fR_lt W H l
  generalize kC W H l = a1 at *
  generalize fC W H l = a2 at *
  generalize kR W H l = a3 at *
  generalize fR W H l = a4 at *
  refine Contract.intro (effS [] false) 6 follows Tryz.func17 rfl rfl (by kernel_rfl) (Nat.le_of_ble_eq_true rfl) ?_
  simp (disch := first | assumption | omega | rfl | simp only [RH]) only [↓RP, RG, FX, RQ, ↓reduceIte, Nat.reduceEqDiff, reduceCtorEq, Nat.reduceBEq, Nat.reduceAdd, Nat.reduceLeDiff, args0_1]
  refine callK_F 6 h1 (by simp (disch := first | assumption | omega | rfl | simp only [RH]) only [↓RP, RG, FX, RQ, ↓reduceIte, Nat.reduceEqDiff, reduceCtorEq, Nat.reduceBEq, Nat.reduceAdd, Nat.reduceLeDiff, RA] <;> rfl) (.inl (by simp [allFresh, ints_fresh])) ?_
  simp (disch := first | assumption | omega | rfl | simp only [RH]) only [↓RP, RG, FX, RQ, ↓reduceIte, Nat.reduceEqDiff, reduceCtorEq, Nat.reduceBEq, Nat.reduceAdd, Nat.reduceLeDiff, n1, n2]
  refine loopK_I [1, 2, 3, 4, 5, 6, 7, 32, 33] (fun z : Nat => z ≤ 2) (fun z : Nat => ⟨[(1, .ptr 0 0 3), (2, .ptr 1 0 7), (3, I 0), (4, LN a1), (5, LN a2), (6, LN a3), (7, LN a4), (32, .agg [I a2.length, I a4.length]), (33, I z)], [⟨25, 3, [I W, I H, BA b l]⟩, ⟨27, 7, [I 0, I 0, .cap0 true, .cap0 true, I 0, I 0, .cap0 true]⟩]⟩) (fun z => 2 - z) 0 (by omega) (by simp only [↓RP, RG, FX, RQ, ↓reduceIte, Nat.reduceEqDiff, reduceCtorEq, Nat.reduceBEq, Nat.reduceAdd, Nat.reduceLeDiff]; rfl) ?_
  intro z hz
  have hc : z = 0 ∨ z = 1 ∨ z = 2 := by omega
  rcases hc with rfl | rfl | rfl
  · simp (disch := first | assumption | omega | rfl | simp only [RH]) only [↓RP, RG, FX, RQ, ↓reduceIte, Nat.reduceEqDiff, reduceCtorEq, Nat.reduceBEq, Nat.reduceAdd, Nat.reduceLeDiff, opK_index, idxA_agg, idxA_spot, limE]
    exact ⟨1, by omega, rfl, by omega⟩
  · simp (disch := first | assumption | omega | rfl | simp only [RH]) only [↓RP, RG, FX, RQ, ↓reduceIte, Nat.reduceEqDiff, reduceCtorEq, Nat.reduceBEq, Nat.reduceAdd, Nat.reduceLeDiff, opK_index, idxA_agg, idxA_spot, limE]
    exact ⟨2, by omega, rfl, by omega⟩
  simp (disch := first | assumption | omega | rfl | simp only [RH]) only [↓RP, RG, FX, RQ, ↓reduceIte, Nat.reduceEqDiff, reduceCtorEq, Nat.reduceBEq, Nat.reduceAdd, Nat.reduceLeDiff, n1, n2]
  refine loopK_W [1, 2, 3, 7, 11, 57, 58, 59] (fun s : Nat => s ≤ a2.length) (fun s : Nat => ⟨[(1, .ptr 0 0 3), (2, .ptr 1 0 7), (3, I 0), (7, LN a4), (11, .ptr 2 0 7), (57, LN a2), (58, I a2.length), (59, I s)], [⟨25, 3, [I W, I H, BA b l]⟩, ⟨27, 7, [I 0, I 0, .cap0 true, .cap0 true, I 0, I 0, .cap0 true]⟩, ⟨27, 7, [I a2.length, I a4.length, LN a1, LN a3, I a4.length, I a2.length, gw true 3 (bools (tabN a4.length (uF W l a2 a4) (a4.length * s)))]⟩, go 4 (bools (tabN a4.length (uF W l a2 a4) (a4.length * s)))]⟩) (fun s => a2.length - s) 0 (by omega) ?_ ?_
  · simp only [↓RP, RG, FX, RQ, ↓reduceIte, Nat.reduceEqDiff, reduceCtorEq, Nat.reduceBEq, Nat.reduceAdd, Nat.reduceLeDiff]
    exact Wk.weak (fun t => .refl _) (.cons _ _ _ _ (WL.refl _) (.cons _ _ _ _ (WL.refl _) (.cons _ _ _ _ (.cons (.refl _) (.cons (.refl _) (.cons (.refl _) (.cons (.refl _) (.cons (.refl _) (.cons (.refl _) (.cons (.nil _) .nil))))))) (.nil _ (by simp [go, bools, tabN])))))
  intro s hs
  by_cases hs2 : s < a2.length
  · have hcs := hCl s hs2
    have g1 := nI_get a2 s
    simp (disch := first | assumption | omega | rfl | simp only [RH]) only [↓RP, RG, FX, RQ, ↓reduceIte, Nat.reduceEqDiff, reduceCtorEq, Nat.reduceBEq, Nat.reduceAdd, Nat.reduceLeDiff, n1, g1]
    refine loopK_I [1, 2, 3, 7, 11, 13, 57, 58, 59, 63, 64, 65] (fun t : Nat => t ≤ a4.length) (fun t : Nat => ⟨[(1, .ptr 0 0 3), (2, .ptr 1 0 7), (3, I 0), (7, LN a4), (11, .ptr 2 0 7), (13, I (a2.getD s 0 : Nat)), (57, LN a2), (58, I a2.length), (59, I s), (63, LN a4), (64, I a4.length), (65, I t)], [⟨25, 3, [I W, I H, BA b l]⟩, ⟨27, 7, [I 0, I 0, .cap0 true, .cap0 true, I 0, I 0, .cap0 true]⟩, ⟨27, 7, [I a2.length, I a4.length, LN a1, LN a3, I a4.length, I a2.length, gw true 3 (bools (tabN a4.length (uF W l a2 a4) (a4.length * s + t)))]⟩, go 4 (bools (tabN a4.length (uF W l a2 a4) (a4.length * s + t)))]⟩) (fun t => a4.length - t) 0 (by omega) (by simp only [↓RP, RG, FX, RQ, ↓reduceIte, Nat.reduceEqDiff, reduceCtorEq, Nat.reduceBEq, Nat.reduceAdd, Nat.reduceLeDiff, n2]; rfl) ?_
    intro t ht
    by_cases ht2 : t < a4.length
    · have hrt := hRl t ht2
      have g2 := nI_get a4 t
      have hil := idx_lt hcs hrt
      have m1 : ((a4.getD t 0 : Nat) : Int) * (W : Int) = ((W * a4.getD t 0 : Nat) : Int) := by rw [Int.natCast_mul, Int.mul_comm]
      have hWH : W * H ≤ 64 * 64 := Nat.mul_le_mul hW hH
      have m2 : ((W * a4.getD t 0 : Nat) : Int) + ((a2.getD s 0 : Nat) : Int) = ((W * a4.getD t 0 + a2.getD s 0 : Nat) : Int) := by omega
      have hbl : (tabN a4.length (uF W l a2 a4) (a4.length * s + t)).length ≤ 1000000000 := by
        rw [tabN_len]
        have : a4.length * s ≤ 40 * 40 := Nat.mul_le_mul (by omega) (by omega)
        omega
      simp (disch := first | assumption | omega | rfl | simp only [RH]) only [↓RP, RG, FX, RQ, ↓reduceIte, Nat.reduceEqDiff, reduceCtorEq, Nat.reduceBEq, Nat.reduceAdd, Nat.reduceLeDiff, g2, n2, m1, m2, append_bool, Int.toNat_natCast]
      exact ⟨t + 1, by omega, by rw [show a4.length * s + (t + 1) = a4.length * s + t + 1 from rfl, tabN_succ a4.length (uF W l a2 a4) ht2]; rfl, by omega⟩
    · obtain rfl : t = a4.length := by omega
      simp (disch := first | assumption | omega | rfl | simp only [RH]) only [↓RP, RG, FX, RQ, ↓reduceIte, Nat.reduceEqDiff, reduceCtorEq, Nat.reduceBEq, Nat.reduceAdd, Nat.reduceLeDiff, n2]
      exact ⟨s + 1, by omega, rfl, by omega⟩
  · obtain rfl : s = a2.length := by omega
    simp (disch := first | assumption | omega | rfl | simp only [RH]) only [↓RP, RG, FX, RQ, ↓reduceIte, Nat.reduceEqDiff, reduceCtorEq, Nat.reduceBEq, Nat.reduceAdd, Nat.reduceLeDiff, n1]
    rw [resVal_2 rfl]; simp (disch := first | assumption | omega | rfl | simp only [RH]) only [↓RP, RG, FX, RQ, ↓reduceIte, Nat.reduceEqDiff, reduceCtorEq, Nat.reduceBEq, Nat.reduceAdd, Nat.reduceLeDiff, RS]
    first | done | (simp only [bools_isEmpty, Bool.true_and])
end
end Go.Proofs.YtbhkhaaifielkaaGreatDoor

/- The least draft of a valid grid, by the reference. -/
set_option linter.unusedSimpArgs false
set_option linter.unusedVariables false
set_option maxRecDepth 100000
namespace Go.Proofs.YtbhkhaaifielkaaGreatDoor
open Go Go.Proofs Go.AW

section
variable {W H : Nat} (hW1 : 1 ≤ W) (hW : W ≤ 64) (hH1 : 1 ≤ H) (hH : H ≤ 64) (b : Bool) {l : List Bool} (hn : l.length = W * H)
include hW1 hW hH1 hH hn
end
end Go.Proofs.YtbhkhaaifielkaaGreatDoor

/- Both give the same kinds and drafts: the law FactorKinds. -/
set_option linter.unusedSimpArgs false
set_option linter.unusedVariables false
set_option maxRecDepth 100000
namespace Go.Proofs.YtbhkhaaifielkaaGreatDoor
open Go Go.Proofs Go.AW

section
variable (w h : Int) (b : Bool) (l : List Bool)
theorem gcases : gchk w h l.length ≠ 0 ∨ ∃ W H : Nat, w = W ∧ h = H ∧ gchk w h l.length = 0 ∧ 1 ≤ W ∧ W ≤ 64 ∧ 1 ≤ H ∧ H ≤ 64 ∧ l.length = W * H := by
  by_cases ck : gchk w h l.length = 0
  · obtain ⟨g1, g2, g3, g4, g5⟩ := gchk_iff.1 ck
    refine .inr ⟨w.toNat, h.toNat, by omega, by omega, ck, by omega, by omega, by omega, by omega, ?_⟩
    have e1 : w = (w.toNat : Int) := by omega
    have e2 : h = (h.toNat : Int) := by omega
    rw [e1, e2, ← Int.natCast_mul] at g5
    omega
  · exact .inl ck
theorem kC_len (W H : Nat) (l : List Bool) : (kC W H l).length = W := knd_len _ _
theorem kR_len (W H : Nat) (l : List Bool) : (kR W H l).length = H := knd_len _ _
end
end Go.Proofs.YtbhkhaaifielkaaGreatDoor

/- Drafts: drawdowns and lifts as values; turned. -/
set_option linter.unusedSimpArgs false
set_option linter.unusedVariables false
set_option maxRecDepth 100000
namespace Go.Proofs.YtbhkhaaifielkaaGreatDoor
open Go Go.Proofs Go.AW

theorem weaveV_c {s t : Int} (b1 : Bool) {th : List Int} (b2 : Bool) {td : List Int} {w h : Int} (b3 : Bool) {l : List Bool} (hd : dOk s t th td w h l.length) :
    Contract Tryz.prog 10 [DA s t b1 th b2 td w h b3 l] (.tuple [GR th.length td.length false (tabN th.length (uW t th td l) (th.length * td.length)), I 0]) := by
  have h1 := Contract.ofSpec 6 (weaveP_s [] b1 b2 b3 hd)
  have h2 := tabN_len th.length (uW t th td l) (th.length * td.length)
  simp (disch := omega) only [↓RP, RG, FX, RQ, ↓reduceIte, Nat.reduceEqDiff, reduceCtorEq, Nat.reduceBEq, Nat.reduceAdd, Nat.reduceLeDiff, RS] at h1
  rw [← h2] at h1
  simpa only [GR, BR, bools_length, h2] using h1

end Go.Proofs.YtbhkhaaifielkaaGreatDoor

/- No draft has fewer shafts or treadles: the law FactorFewest. -/
set_option linter.unusedSimpArgs false
set_option linter.unusedVariables false
set_option maxRecDepth 100000
namespace Go.Proofs.YtbhkhaaifielkaaGreatDoor
open Go Go.Proofs Go.AW

theorem alive4_c : Contract Tryz.prog 7 [] (B true) := Contract.run xGood 1000 (by kernel_rfl)
theorem valid4_c (s t : Int) (b1 : Bool) (th : List Int) (b2 : Bool) (td : List Int) (w h : Int) (b3 : Bool) (l : List Bool) (r : Bool) (hr : r = true ↔ ¬ dGreat th td l ∧ dOk s t th td w h l.length) :
    Contract Tryz.prog 6 [DA s t b1 th b2 td w h b3 l] (B r) := by
  have hg := great03_c s t b1 th b2 td w h b3 l
  by_cases c1 : dGreat th td l
  · obtain rfl : r = false := by cases r with | false => rfl | true => exact absurd c1 (hr.1 rfl).1
    rw [decide_eq_true c1] at hg
    refine Contract.intro (effS [] false) 6 follows Tryz.func6 rfl rfl (by kernel_rfl) (Nat.le_of_ble_eq_true rfl) ?_
    simp (disch := first | assumption | omega | rfl | simp only [RH]) only [↓RP, RG, FX, RQ, ↓reduceIte, Nat.reduceEqDiff, reduceCtorEq, Nat.reduceBEq, Nat.reduceAdd, Nat.reduceLeDiff, args0_1]
    refine callK_F 6 (hg) (by simp (disch := first | assumption | omega | rfl | simp only [RH]) only [↓RP, RG, FX, RQ, ↓reduceIte, Nat.reduceEqDiff, reduceCtorEq, Nat.reduceBEq, Nat.reduceAdd, Nat.reduceLeDiff, RA] <;> rfl) (.inl (by simp [allFresh, ints_fresh, bools_fresh])) ?_
    simp (disch := first | assumption | omega | rfl | simp only [RH]) only [↓RP, RG, FX, RQ, ↓reduceIte, Nat.reduceEqDiff, reduceCtorEq, Nat.reduceBEq, Nat.reduceAdd, Nat.reduceLeDiff]
    rw [resVal_1 rfl]; simp (disch := first | assumption | omega | rfl | simp only [RH]) only [↓RP, RG, FX, RQ, ↓reduceIte, Nat.reduceEqDiff, reduceCtorEq, Nat.reduceBEq, Nat.reduceAdd, Nat.reduceLeDiff, RS]
  · have c0 := c1
    unfold dGreat at c0
    have hc := dcheckR_c s t b1 th b2 td w h b3 l (by omega) (by omega)
    rw [decide_eq_false c1] at hg
    by_cases c2 : dchk s t th td w h l.length = 0
    · obtain rfl : r = true := hr.2 ⟨c1, dchk_iff.1 c2⟩
      rw [c2] at hc
      refine Contract.intro (effS [] false) 6 follows Tryz.func6 rfl rfl (by kernel_rfl) (Nat.le_of_ble_eq_true rfl) ?_
      simp (disch := first | assumption | omega | rfl | simp only [RH]) only [↓RP, RG, FX, RQ, ↓reduceIte, Nat.reduceEqDiff, reduceCtorEq, Nat.reduceBEq, Nat.reduceAdd, Nat.reduceLeDiff, args0_1]
      refine callK_F 6 (hg) (by simp (disch := first | assumption | omega | rfl | simp only [RH]) only [↓RP, RG, FX, RQ, ↓reduceIte, Nat.reduceEqDiff, reduceCtorEq, Nat.reduceBEq, Nat.reduceAdd, Nat.reduceLeDiff, RA] <;> rfl) (.inl (by simp [allFresh, ints_fresh, bools_fresh])) ?_
      simp (disch := first | assumption | omega | rfl | simp only [RH]) only [↓RP, RG, FX, RQ, ↓reduceIte, Nat.reduceEqDiff, reduceCtorEq, Nat.reduceBEq, Nat.reduceAdd, Nat.reduceLeDiff]
      refine callK_F 6 (hc) (by simp (disch := first | assumption | omega | rfl | simp only [RH]) only [↓RP, RG, FX, RQ, ↓reduceIte, Nat.reduceEqDiff, reduceCtorEq, Nat.reduceBEq, Nat.reduceAdd, Nat.reduceLeDiff, RA] <;> rfl) (.inl (by simp [allFresh, ints_fresh, bools_fresh])) ?_
      simp (disch := first | assumption | omega | rfl | simp only [RH]) only [↓RP, RG, FX, RQ, ↓reduceIte, Nat.reduceEqDiff, reduceCtorEq, Nat.reduceBEq, Nat.reduceAdd, Nat.reduceLeDiff]
      rw [resVal_1 rfl]; simp (disch := first | assumption | omega | rfl | simp only [RH]) only [↓RP, RG, FX, RQ, ↓reduceIte, Nat.reduceEqDiff, reduceCtorEq, Nat.reduceBEq, Nat.reduceAdd, Nat.reduceLeDiff, RS]
    · obtain rfl : r = false := by cases r with | false => rfl | true => exact absurd (dchk_ok (hr.1 rfl).2) c2
      generalize dchk s t th td w h l.length = e at *
      refine Contract.intro (effS [] false) 6 follows Tryz.func6 rfl rfl (by kernel_rfl) (Nat.le_of_ble_eq_true rfl) ?_
      simp (disch := first | assumption | omega | rfl | simp only [RH]) only [↓RP, RG, FX, RQ, ↓reduceIte, Nat.reduceEqDiff, reduceCtorEq, Nat.reduceBEq, Nat.reduceAdd, Nat.reduceLeDiff, args0_1]
      refine callK_F 6 (hg) (by simp (disch := first | assumption | omega | rfl | simp only [RH]) only [↓RP, RG, FX, RQ, ↓reduceIte, Nat.reduceEqDiff, reduceCtorEq, Nat.reduceBEq, Nat.reduceAdd, Nat.reduceLeDiff, RA] <;> rfl) (.inl (by simp [allFresh, ints_fresh, bools_fresh])) ?_
      simp (disch := first | assumption | omega | rfl | simp only [RH]) only [↓RP, RG, FX, RQ, ↓reduceIte, Nat.reduceEqDiff, reduceCtorEq, Nat.reduceBEq, Nat.reduceAdd, Nat.reduceLeDiff]
      refine callK_F 6 (hc) (by simp (disch := first | assumption | omega | rfl | simp only [RH]) only [↓RP, RG, FX, RQ, ↓reduceIte, Nat.reduceEqDiff, reduceCtorEq, Nat.reduceBEq, Nat.reduceAdd, Nat.reduceLeDiff, RA] <;> rfl) (.inl (by simp [allFresh, ints_fresh, bools_fresh])) ?_
      simp (disch := first | assumption | omega | rfl | simp only [RH]) only [↓RP, RG, FX, RQ, ↓reduceIte, Nat.reduceEqDiff, reduceCtorEq, Nat.reduceBEq, Nat.reduceAdd, Nat.reduceLeDiff]
      rw [resVal_1 rfl]; simp (disch := first | assumption | omega | rfl | simp only [RH]) only [↓RP, RG, FX, RQ, ↓reduceIte, Nat.reduceEqDiff, reduceCtorEq, Nat.reduceBEq, Nat.reduceAdd, Nat.reduceLeDiff, RS]
/-- A column. -/
def colL (W H : Nat) (l : List Bool) (x : Nat) : List Bool := (List.range H).map fun y => l.getD (W * y + x) false
theorem col_row {W H : Nat} {l : List Bool} {x : Nat} (hx : x < W) : rowN H (tgL W H l) x = colL W H l x := by
  unfold rowN colL
  refine List.map_congr_left fun y hy => ?_
  have hy' : y < H := by simpa using hy
  have hH : 0 < H := by omega
  rw [tgL, tabN_get H (uT W l) hy' (idx_lt hy' hx), uT, cell, idx_nat]
/-- The drawdown. -/
abbrev ddL (T : Int) (th td : List Int) (l : List Bool) : List Bool := tabN th.length (uW T th td l) (th.length * td.length)
theorem dd_col {T : Int} {th td : List Int} {l : List Bool} {x z : Nat} (hx : x < th.length) (hz : z < th.length) (h : th.getD x 0 = th.getD z 0) : colL th.length td.length (ddL T th td l) x = colL th.length td.length (ddL T th td l) z := by
  refine List.map_congr_left fun y hy => ?_
  have hy' : y < td.length := by simpa using hy
  rw [tabN_get _ _ hx (idx_lt hx hy'), tabN_get _ _ hz (idx_lt hz hy'), uW, uW, h]
theorem dd_row {T : Int} {th td : List Int} {l : List Bool} {x z : Nat} (hx : x < td.length) (hz : z < td.length) (h : td.getD x 0 = td.getD z 0) : rowN th.length (ddL T th td l) x = rowN th.length (ddL T th td l) z := by
  refine List.map_congr_left fun y hy => ?_
  have hy' : y < th.length := by simpa using hy
  rw [tabN_get _ _ hy' (idx_lt hy' hx), tabN_get _ _ hy' (idx_lt hy' hz), uW, uW, h]
end Go.Proofs.YtbhkhaaifielkaaGreatDoor

/- The law FactorFewest. -/
set_option linter.unusedSimpArgs false
set_option linter.unusedVariables false
set_option maxRecDepth 100000
namespace Go.Proofs.YtbhkhaaifielkaaGreatDoor
open Go Go.Proofs Go.AW

end Go.Proofs.YtbhkhaaifielkaaGreatDoor

/- Kinds of a turned grid, and its least draft. Plain. -/
set_option linter.unusedSimpArgs false
set_option linter.unusedVariables false
set_option maxRecDepth 100000
namespace Go.Proofs.YtbhkhaaifielkaaGreatDoor
open Go Go.Proofs Go.AW

theorem tg_get {W H : Nat} {l : List Bool} {x y : Nat} (hx : x < W) (hy : y < H) : (tgL W H l).getD (H * x + y) false = l.getD (W * y + x) false := by
  rw [tgL, tabN_get H (uT W l) hy (idx_lt hy hx), uT, cell, idx_nat]
/-- Kinds are numbered by first occurrence. -/
theorem kC_num (W H : Nat) (l : List Bool) : knd (rI (nI (kC W H l))) (nI (kC W H l)).length = (kC W H l, fC W H l) := by
  rw [nI_len, kC_len]
  have := knd_congr (rI (nI (kC W H l))) (rowN H (tgL W H l)) W (fun a b ha hb => by
    show (nI (kC W H l)).getD a 0 = (nI (kC W H l)).getD b 0 ↔ _
    rw [nI_get, nI_get]
    exact ⟨fun h => (knd_iff (rowN H (tgL W H l)) W ha hb).1 (by have : (kC W H l).getD a 0 = (kC W H l).getD b 0 := by omega
                                                                 exact this), fun h => by
      have : (kC W H l).getD a 0 = (kC W H l).getD b 0 := (knd_iff (rowN H (tgL W H l)) W ha hb).2 h
      rw [this]⟩)
  rw [this]; rfl
/-- The tie-up of the least draft. -/
abbrev tieL (W H : Nat) (l : List Bool) : List Bool := tabN (fR W H l).length (uF W l (fC W H l) (fR W H l)) ((fR W H l).length * (fC W H l).length)
theorem fC_pos {W H : Nat} (hW : 1 ≤ W) (l : List Bool) : 1 ≤ (fC W H l).length := by
  have := (knd_like (rowN H (tgL W H l)) W 0 (by omega)).1
  show 1 ≤ (knd (rowN H (tgL W H l)) W).2.length
  omega
theorem fR_pos {W H : Nat} (hH : 1 ≤ H) (l : List Bool) : 1 ≤ (fR W H l).length := by
  have := (knd_like (rowN W l) H 0 (by omega)).1
  show 1 ≤ (knd (rowN W l) H).2.length
  omega
theorem least_ok {W H : Nat} (hW1 : 1 ≤ W) (hW : W ≤ 64) (hH1 : 1 ≤ H) (hH : H ≤ 64) (l : List Bool) (c1 : (fC W H l).length ≤ 40) (c2 : (fR W H l).length ≤ 40) :
    dOk (fC W H l).length (fR W H l).length (nI (kC W H l)) (nI (kR W H l)) (fR W H l).length (fC W H l).length (tieL W H l).length := by
  have h1 := fC_pos (H := H) hW1 l
  have h2 := fR_pos (W := W) hH1 l
  have k1 := kC_len W H l
  have k2 := kR_len W H l
  refine ⟨by omega, by omega, by rw [nI_len]; omega, by rw [nI_len]; omega, ⟨by rw [nI_len]; omega, fun i hi => ?_⟩, ⟨by rw [nI_len]; omega, fun i hi => ?_⟩, ⟨by omega, by omega, by omega, by omega, ?_⟩, rfl, rfl⟩
  · rw [nI_len, k1] at hi
    have := (knd_like (rowN H (tgL W H l)) W i hi).1
    rw [nI_get]
    have : (kC W H l).getD i 0 < (fC W H l).length := this
    omega
  · rw [nI_len, k2] at hi
    have := (knd_like (rowN W l) H i hi).1
    rw [nI_get]
    have : (kR W H l).getD i 0 < (fR W H l).length := this
    omega
  · rw [tabN_len, Int.natCast_mul]
end Go.Proofs.YtbhkhaaifielkaaGreatDoor

/- Multiplying and factoring. Plain. -/
set_option linter.unusedSimpArgs false
set_option linter.unusedVariables false
set_option maxRecDepth 100000
namespace Go.Proofs.YtbhkhaaifielkaaGreatDoor
open Go Go.Proofs Go.AW

theorem knd_inj {α : Type} [DecidableEq α] (r : Nat → α) : ∀ n, (∀ a b, a < n → b < n → r a = r b → a = b) → (knd r n).2 = List.range n
  | 0, _ => rfl
  | n + 1, h => by
    have ih := knd_inj r n (fun a b ha hb => h a b (by omega) (by omega))
    have hp : plc r (knd r n).2 n = (knd r n).2.length := knd_new r n fun j hj he => by
      have := h j n (by omega) (by omega) he
      omega
    rw [ih] at hp
    simp only [knd, ih, hp, if_true, List.range_succ]
/-- As many kinds as there are: none is like another one. -/
theorem knd_full {α : Type} [DecidableEq α] (r : Nat → α) (n : Nat) (hc : (knd r n).2.length = n) {a b : Nat} (ha : a < n) (hb : b < n) (h : r a = r b) : a = b := by
  refine Classical.byContradiction fun hab => ?_
  have := knd_card r n (fun y => if y = max a b then min a b else if y = n - 1 then max a b else y) (n - 1) (fun y hy => by
    show (if y = max a b then min a b else if y = n - 1 then max a b else y) < n - 1
    split
    · omega
    · split <;> omega) (fun x y hx hy he => by
    have he' : (if x = max a b then min a b else if x = n - 1 then max a b else x) = (if y = max a b then min a b else if y = n - 1 then max a b else y) := he
    have hab2 : r (max a b) = r (min a b) := by
      rcases Nat.le_total a b with h1 | h1
      · rw [Nat.max_eq_right h1, Nat.min_eq_left h1]; exact h.symm
      · rw [Nat.max_eq_left h1, Nat.min_eq_right h1]; exact h
    by_cases x1 : x = max a b
    · by_cases y1 : y = max a b
      · rw [x1, y1]
      · rw [if_pos x1, if_neg y1] at he'
        by_cases y2 : y = n - 1
        · rw [if_pos y2] at he'; omega
        · rw [if_neg y2] at he'; rw [x1, ← he', hab2]
    · by_cases y1 : y = max a b
      · rw [if_neg x1, if_pos y1] at he'
        by_cases x2 : x = n - 1
        · rw [if_pos x2] at he'; omega
        · rw [if_neg x2] at he'; rw [y1, he', hab2]
      · rw [if_neg x1, if_neg y1] at he'
        by_cases x2 : x = n - 1
        · by_cases y2 : y = n - 1
          · rw [x2, y2]
          · rw [if_pos x2, if_neg y2] at he'; omega
        · by_cases y2 : y = n - 1
          · rw [if_neg x2, if_pos y2] at he'; omega
          · rw [if_neg x2, if_neg y2] at he'; rw [he'])
  omega
theorem kR_num (W H : Nat) (l : List Bool) : knd (rI (nI (kR W H l))) (nI (kR W H l)).length = (kR W H l, fR W H l) := by
  rw [nI_len, kR_len]
  have := knd_congr (rI (nI (kR W H l))) (rowN W l) H (fun a b ha hb => by
    show (nI (kR W H l)).getD a 0 = (nI (kR W H l)).getD b 0 ↔ _
    rw [nI_get, nI_get]
    exact ⟨fun h => (knd_iff (rowN W l) H ha hb).1 (by have : (kR W H l).getD a 0 = (kR W H l).getD b 0 := by omega
                                                       exact this), fun h => by
      have : (kR W H l).getD a 0 = (kR W H l).getD b 0 := (knd_iff (rowN W l) H ha hb).2 h
      rw [this]⟩)
  rw [this]; rfl
theorem nK_kC (W H : Nat) (l : List Bool) : nK (nI (kC W H l)) = (fC W H l).length := by
  show (knd (rI (nI (kC W H l))) (nI (kC W H l)).length).2.length = _
  rw [kC_num]
theorem nK_kR (W H : Nat) (l : List Bool) : nK (nI (kR W H l)) = (fR W H l).length := by
  show (knd (rI (nI (kR W H l))) (nI (kR W H l)).length).2.length = _
  rw [kR_num]
/-- Columns are like the firsts of their kinds; so are rows. -/
theorem col_like {W H : Nat} {l : List Bool} {x : Nat} (hx : x < W) : (kC W H l).getD x 0 < (fC W H l).length ∧ ∀ y, y < H → l.getD (W * y + (fC W H l).getD ((kC W H l).getD x 0) 0) false = l.getD (W * y + x) false := by
  have h := knd_like (rowN H (tgL W H l)) W x hx
  have h1 : (kC W H l).getD x 0 < (fC W H l).length := h.1
  refine ⟨h1, fun y hy => ?_⟩
  have h2 : rowN H (tgL W H l) ((fC W H l).getD ((kC W H l).getD x 0) 0) = rowN H (tgL W H l) x := h.2
  have hf := fC_lt W H l _ h1
  have := rowN_eq.1 h2 y hy
  rwa [tg_get hf hy, tg_get hx hy] at this
theorem row_like {W H : Nat} {l : List Bool} {y : Nat} (hy : y < H) : (kR W H l).getD y 0 < (fR W H l).length ∧ ∀ x, x < W → l.getD (W * (fR W H l).getD ((kR W H l).getD y 0) 0 + x) false = l.getD (W * y + x) false := by
  have h := knd_like (rowN W l) H y hy
  have h1 : (kR W H l).getD y 0 < (fR W H l).length := h.1
  refine ⟨h1, fun x hx => ?_⟩
  have h2 : rowN W l ((fR W H l).getD ((kR W H l).getD y 0) 0) = rowN W l y := h.2
  exact rowN_eq.1 h2 x hx
theorem fC_diff {W H : Nat} {l : List Bool} {i j : Nat} (hi : i < (fC W H l).length) (hj : j < (fC W H l).length) (h : ∀ y, y < H → l.getD (W * y + (fC W H l).getD i 0) false = l.getD (W * y + (fC W H l).getD j 0) false) : i = j := by
  have key : rowN H (tgL W H l) ((fC W H l).getD i 0) = rowN H (tgL W H l) ((fC W H l).getD j 0) := rowN_eq.2 fun y hy => by
    rw [tg_get (fC_lt W H l i hi) hy, tg_get (fC_lt W H l j hj) hy]
    exact h y hy
  rcases Nat.lt_trichotomy i j with h1 | h1 | h1
  · exact absurd key (knd_diff (rowN H (tgL W H l)) W i j h1 hj)
  · exact h1
  · exact absurd key.symm (knd_diff (rowN H (tgL W H l)) W j i h1 hi)
theorem fR_diff {W H : Nat} {l : List Bool} {i j : Nat} (hi : i < (fR W H l).length) (hj : j < (fR W H l).length) (h : ∀ x, x < W → l.getD (W * (fR W H l).getD i 0 + x) false = l.getD (W * (fR W H l).getD j 0 + x) false) : i = j := by
  have key : rowN W l ((fR W H l).getD i 0) = rowN W l ((fR W H l).getD j 0) := rowN_eq.2 h
  rcases Nat.lt_trichotomy i j with h1 | h1 | h1
  · exact absurd key (knd_diff (rowN W l) H i j h1 hj)
  · exact h1
  · exact absurd key.symm (knd_diff (rowN W l) H j i h1 hi)
theorem tie_get {W H : Nat} {l : List Bool} {t s : Nat} (ht : t < (fR W H l).length) (hs : s < (fC W H l).length) : (tieL W H l).getD ((fR W H l).length * s + t) false = l.getD (W * (fR W H l).getD t 0 + (fC W H l).getD s 0) false := by
  rw [tabN_get _ _ ht (idx_lt ht hs)]; rfl
/-- The drawdown of the least draft is the grid. -/
theorem least_weave {W H : Nat} {l : List Bool} (hn : l.length = W * H) : tabN (nI (kC W H l)).length (uW ((fR W H l).length : Nat) (nI (kC W H l)) (nI (kR W H l)) (tieL W H l)) ((nI (kC W H l)).length * (nI (kR W H l)).length) = l := by
  rw [nI_len, nI_len, kC_len, kR_len]
  refine Eq.trans ?_ (tab_own hn)
  refine tabN_congr fun x y hx hy => ?_
  obtain ⟨c1, c2⟩ := col_like (l := l) (H := H) hx
  obtain ⟨r1, r2⟩ := row_like (l := l) (W := W) hy
  unfold uW cell
  rw [nI_get, nI_get, idx_nat, tie_get r1 c1, r2 _ (fC_lt W H l _ c1), c2 y hy]
/-- It is least. -/
theorem least_lst {W H : Nat} (l : List Bool) : lst4 (fC W H l).length (fR W H l).length (nI (kC W H l)) (nI (kR W H l)) (tieL W H l) := by
  unfold lst4
  rw [Int.toNat_natCast, Int.toNat_natCast, nK_kC, nK_kR]
  refine ⟨⟨rfl, rfl⟩, ?_, ?_⟩
  · have : fR (fR W H l).length (fC W H l).length (tieL W H l) = List.range (fC W H l).length := knd_inj _ _ fun a b ha hb he => by
      have h1 := rowN_eq.1 he
      refine fC_diff ha hb fun y hy => ?_
      obtain ⟨r1, r2⟩ := row_like (l := l) (W := W) hy
      have := h1 _ r1
      rw [tie_get r1 ha, tie_get r1 hb, r2 _ (fC_lt W H l a ha), r2 _ (fC_lt W H l b hb)] at this
      exact this
    rw [this, List.length_range]
  · have : fC (fR W H l).length (fC W H l).length (tieL W H l) = List.range (fR W H l).length := knd_inj _ _ fun a b ha hb he => by
      have h1 := rowN_eq.1 he
      refine fR_diff ha hb fun x hx => ?_
      obtain ⟨c1, c2⟩ := col_like (l := l) (H := H) hx
      have := h1 _ c1
      rw [tg_get ha c1, tg_get hb c1, tie_get ha c1, tie_get hb c1, c2 _ (fR_lt W H l a ha), c2 _ (fR_lt W H l b hb)] at this
      exact this
    rw [this, List.length_range]
section
variable {S T : Nat} {th td : List Int} {l : List Bool} (hd : dOk S T th td T S l.length)
include hd
theorem dd_at {x y : Nat} (hx : x < th.length) (hy : y < td.length) : (ddL T th td l).getD (th.length * y + x) false = l.getD (T * (th.getD x 0).toNat + (td.getD y 0).toNat) false := by
  have w1 := hd.2.2.2.2.1.2 x hx
  have w2 := hd.2.2.2.2.2.1.2 y hy
  obtain ⟨a, ha⟩ : ∃ a : Nat, th.getD x 0 = a := ⟨(th.getD x 0).toNat, by omega⟩
  obtain ⟨b, hb⟩ : ∃ b : Nat, td.getD y 0 = b := ⟨(td.getD y 0).toNat, by omega⟩
  rw [tabN_get _ _ hx (idx_lt hx hy), uW, ha, hb, Int.toNat_natCast, Int.toNat_natCast, cell, idx_nat]
theorem dd_le : (fC th.length td.length (ddL T th td l)).length ≤ S ∧ (fR th.length td.length (ddL T th td l)).length ≤ T := by
  constructor
  · exact knd_card _ _ (fun x => (th.getD x 0).toNat) S (fun x hx => by have := hd.2.2.2.2.1.2 x hx; omega) (fun a b ha hb he => by
      rw [col_row ha, col_row hb]
      have h1 := hd.2.2.2.2.1.2 a ha
      have h2 := hd.2.2.2.2.1.2 b hb
      have he' : (th.getD a 0).toNat = (th.getD b 0).toNat := he
      exact dd_col ha hb (by omega))
  · exact knd_card _ _ (fun x => (td.getD x 0).toNat) T (fun x hx => by have := hd.2.2.2.2.2.1.2 x hx; omega) (fun a b ha hb he => by
      have h1 := hd.2.2.2.2.2.1.2 a ha
      have h2 := hd.2.2.2.2.2.1.2 b hb
      have he' : (td.getD a 0).toNat = (td.getD b 0).toNat := he
      exact dd_row ha hb (by omega))
end
section
variable {S T : Nat} {th td : List Int} {l : List Bool} (hl : lst4 S T th td l)
include hl
theorem lst_use : nK th = S ∧ nK td = T := by obtain ⟨⟨h1, h2⟩, _⟩ := hl; omega
theorem lst_row {a b : Nat} (ha : a < S) (hb : b < S) (h : ∀ t, t < T → l.getD (T * a + t) false = l.getD (T * b + t) false) : a = b := by
  obtain ⟨_, h3, _⟩ := hl
  rw [Int.toNat_natCast, Int.toNat_natCast] at h3
  exact knd_full (rowN T l) S (by have : (fR T S l).length = S := by omega
                                  exact this) ha hb (rowN_eq.2 h)
theorem lst_col {a b : Nat} (ha : a < T) (hb : b < T) (h : ∀ s, s < S → l.getD (T * s + a) false = l.getD (T * s + b) false) : a = b := by
  obtain ⟨_, _, h3⟩ := hl
  rw [Int.toNat_natCast, Int.toNat_natCast] at h3
  refine knd_full (rowN S (tgL T S l)) T (by have : (fC T S l).length = T := by omega
                                             exact this) ha hb (rowN_eq.2 fun y hy => ?_)
  rw [tg_get ha hy, tg_get hb hy]
  exact h y hy
end
end Go.Proofs.YtbhkhaaifielkaaGreatDoor

/- A least draft is the least draft of its drawdown, renumbered. Plain. -/
set_option linter.unusedSimpArgs false
set_option linter.unusedVariables false
set_option maxRecDepth 100000
namespace Go.Proofs.YtbhkhaaifielkaaGreatDoor
open Go Go.Proofs Go.AW

section
variable {S T : Nat} {th td : List Int} {l : List Bool} (hd : dOk S T th td T S l.length) (hl : lst4 S T th td l)
include hd hl
theorem th_of {x z : Nat} (hx : x < th.length) (hz : z < th.length) (h : ∀ y, y < td.length → (ddL T th td l).getD (th.length * y + x) false = (ddL T th td l).getD (th.length * y + z) false) : th.getD x 0 = th.getD z 0 := by
  have w1 := hd.2.2.2.2.1.2 x hx
  have w2 := hd.2.2.2.2.1.2 z hz
  have := lst_row hl (a := (th.getD x 0).toNat) (b := (th.getD z 0).toNat) (by omega) (by omega) (fun t ht => by
    obtain ⟨y, hy, e⟩ := use_all hd.2.2.2.2.2.1 (lst_use hl).2 t ht
    have h1 := h y hy
    rw [dd_at hd hx hy, dd_at hd hz hy, e, Int.toNat_natCast] at h1
    exact h1)
  omega
theorem td_of {x z : Nat} (hx : x < td.length) (hz : z < td.length) (h : ∀ y, y < th.length → (ddL T th td l).getD (th.length * x + y) false = (ddL T th td l).getD (th.length * z + y) false) : td.getD x 0 = td.getD z 0 := by
  have w1 := hd.2.2.2.2.2.1.2 x hx
  have w2 := hd.2.2.2.2.2.1.2 z hz
  have := lst_col hl (a := (td.getD x 0).toNat) (b := (td.getD z 0).toNat) (by omega) (by omega) (fun s hs => by
    obtain ⟨y, hy, e⟩ := use_all hd.2.2.2.2.1 (lst_use hl).1 s hs
    have h1 := h y hy
    rw [dd_at hd hy hx, dd_at hd hy hz, e, Int.toNat_natCast] at h1
    exact h1)
  omega
theorem th_iff {x z : Nat} (hx : x < th.length) (hz : z < th.length) : rowN td.length (tgL th.length td.length (ddL T th td l)) x = rowN td.length (tgL th.length td.length (ddL T th td l)) z ↔ th.getD x 0 = th.getD z 0 := by
  constructor
  · intro h
    refine th_of hd hl hx hz fun y hy => ?_
    have := rowN_eq.1 h y hy
    rwa [tg_get hx hy, tg_get hz hy] at this
  · intro h
    rw [col_row hx, col_row hz]
    exact dd_col hx hz h
theorem td_iff {x z : Nat} (hx : x < td.length) (hz : z < td.length) : rowN th.length (ddL T th td l) x = rowN th.length (ddL T th td l) z ↔ td.getD x 0 = td.getD z 0 := by
  constructor
  · intro h
    exact td_of hd hl hx hz fun y hy => rowN_eq.1 h y hy
  · intro h; exact dd_row hx hz h
theorem fC_S : (fC th.length td.length (ddL T th td l)).length = S := by
  have := knd_congr (rowN td.length (tgL th.length td.length (ddL T th td l))) (rI th) th.length (fun a b ha hb => th_iff hd hl ha hb)
  have h2 : fC th.length td.length (ddL T th td l) = (knd (rI th) th.length).2 := by show (knd _ _).2 = _; rw [this]
  rw [h2]
  exact (lst_use hl).1
theorem fR_T : (fR th.length td.length (ddL T th td l)).length = T := by
  have := knd_congr (rowN th.length (ddL T th td l)) (rI td) td.length (fun a b ha hb => td_iff hd hl ha hb)
  have h2 : fR th.length td.length (ddL T th td l) = (knd (rI td) td.length).2 := by show (knd _ _).2 = _; rw [this]
  rw [h2]
  exact (lst_use hl).2
theorem pairs1 : pairs (nI (kC th.length td.length (ddL T th td l))) th th.length := fun x z hx hz => by
  rw [nI_get, nI_get, ← th_iff hd hl hx hz]
  have : (kC th.length td.length (ddL T th td l)).getD x 0 = (kC th.length td.length (ddL T th td l)).getD z 0 ↔ _ := knd_iff (rowN td.length (tgL th.length td.length (ddL T th td l))) th.length hx hz
  rw [← this]
  omega
theorem pairs2 : pairs (nI (kR th.length td.length (ddL T th td l))) td td.length := fun x z hx hz => by
  rw [nI_get, nI_get, ← td_iff hd hl hx hz]
  have : (kR th.length td.length (ddL T th td l)).getD x 0 = (kR th.length td.length (ddL T th td l)).getD z 0 ↔ _ := knd_iff (rowN th.length (ddL T th td l)) td.length hx hz
  rw [← this]
  omega
/-- The tie-up, renumbered, is the draft's. -/
theorem tie_back {m1 m2 : List Int} (h1 : m1 = mtO (nI (kC th.length td.length (ddL T th td l))) th S th.length) (h2 : m2 = mtO (nI (kR th.length td.length (ddL T th td l))) td T td.length) (o1 : once m1 S S) (o2 : once m2 T T) : rnT S T m1 m2 (tieL th.length td.length (ddL T th td l)) = l := by
  obtain ⟨g1, g2, g3, g4, g5⟩ := hd.2.2.2.2.2.2.1
  have hn : l.length = T * S := by rw [← Int.natCast_mul] at g5; omega
  have d1 := hd.1
  have d2 := hd.2.1
  have hS := fC_S hd hl
  have hT := fR_T hd hl
  have l1 : m1.length = S := by rw [h1, mtO_len]
  have l2 : m2.length = T := by rw [h2, mtO_len]
  have k1 := kC_len th.length td.length (ddL T th td l)
  have k2 := kR_len th.length td.length (ddL T th td l)
  refine Eq.trans ?_ (tab_own hn)
  unfold rnT
  refine tabN_congr fun x y hx hy => ?_
  obtain ⟨v, v1, v2, v3⟩ := inv_of l1 o1 hy
  obtain ⟨u, u1, u2, u3⟩ := inv_of l2 o2 hx
  unfold uN
  rw [v3, u3, cell, idx_nat]
  have htg := tie_get (W := th.length) (H := td.length) (l := ddL T th td l) (t := u) (s := v) (by omega) (by omega)
  rw [hT] at htg
  rw [htg]
  have he := fC_lt th.length td.length (ddL T th td l) v (by omega)
  have hp := fR_lt th.length td.length (ddL T th td l) u (by omega)
  rw [dd_at hd he hp]
  -- the first of a kind has the kind's number
  have a1 : th.getD ((fC th.length td.length (ddL T th td l)).getD v 0) 0 = (y : Int) := by
    have hj : ∃ j, j < th.length ∧ (kC th.length td.length (ddL T th td l)).getD j 0 = v ∧ m1.getD v 0 = th.getD j 0 := by
      have hw : wIn (nI (kC th.length td.length (ddL T th td l))) S := ⟨by rw [nI_len, k1]; exact hd.2.2.2.2.1.1, fun j hj => by
        rw [nI_len, k1] at hj
        rw [nI_get]
        have := (col_like (W := th.length) (H := td.length) (l := ddL T th td l) hj).1
        omega⟩
      obtain ⟨j, j1, j2, j3⟩ := mt_at hw (by rw [nK_kC]; exact hS) (b := th) (by rw [nI_len, k1]; exact pairs1 hd hl) v1
      rw [nI_len, k1] at j1 j3
      rw [nI_get] at j2
      exact ⟨j, j1, by omega, by rw [h1]; exact j3⟩
    obtain ⟨j, j1, j2, j3⟩ := hj
    have hcl := (col_like (W := th.length) (H := td.length) (l := ddL T th td l) j1).2
    rw [j2] at hcl
    rw [th_of hd hl he j1 hcl, ← j3, v2]
  have a2 : td.getD ((fR th.length td.length (ddL T th td l)).getD u 0) 0 = (x : Int) := by
    have hj : ∃ j, j < td.length ∧ (kR th.length td.length (ddL T th td l)).getD j 0 = u ∧ m2.getD u 0 = td.getD j 0 := by
      have hw : wIn (nI (kR th.length td.length (ddL T th td l))) T := ⟨by rw [nI_len, k2]; exact hd.2.2.2.2.2.1.1, fun j hj => by
        rw [nI_len, k2] at hj
        rw [nI_get]
        have := (row_like (W := th.length) (H := td.length) (l := ddL T th td l) hj).1
        omega⟩
      obtain ⟨j, j1, j2, j3⟩ := mt_at hw (by rw [nK_kR]; exact hT) (b := td) (by rw [nI_len, k2]; exact pairs2 hd hl) u1
      rw [nI_len, k2] at j1 j3
      rw [nI_get] at j2
      exact ⟨j, j1, by omega, by rw [h2]; exact j3⟩
    obtain ⟨j, j1, j2, j3⟩ := hj
    have hcl := (row_like (W := th.length) (H := td.length) (l := ddL T th td l) j1).2
    rw [j2] at hcl
    rw [td_of hd hl hp j1 hcl, ← j3, u2]
  rw [a1, a2, Int.toNat_natCast, Int.toNat_natCast]
end
end Go.Proofs.YtbhkhaaifielkaaGreatDoor

/- Matches lead from draft to draft: the walks. -/
set_option linter.unusedSimpArgs false
set_option linter.unusedVariables false
set_option maxRecDepth 100000
namespace Go.Proofs.YtbhkhaaifielkaaGreatDoor
open Go Go.Proofs Go.AW

theorem bb1 : (true == false) = false := rfl
theorem bb2 : (false == true) = false := rfl
section
variable {s t : Int} {b1 : Bool} {th : List Int} {b2 : Bool} {td : List Int} {w h : Int} {b3 : Bool} {l : List Bool} {s' t' : Int} {b1' : Bool} {th' : List Int} {b2' : Bool} {td' : List Int} {w' h' : Int} {b3' : Bool} {l' : List Bool} {x1 x2 : Bool} {ls lt : List Int}
variable (hv1 : Contract Tryz.prog 6 [DA s t b1 th b2 td w h b3 l] (B true)) (hv2 : Contract Tryz.prog 6 [DA s' t' b1' th' b2' td' w' h' b3' l'] (B true)) (h70 : ls.length ≤ 70) (h71 : lt.length ≤ 70)
include hv1 hv2 h70 h71
end
end Go.Proofs.YtbhkhaaifielkaaGreatDoor

/- Multiplication and factoring are inverse: the walks. -/
set_option linter.unusedSimpArgs false
set_option linter.unusedVariables false
set_option maxRecDepth 100000
namespace Go.Proofs.YtbhkhaaifielkaaGreatDoor
open Go Go.Proofs Go.AW

section
variable {W H : Int} {b : Bool} {l : List Bool} {s t : Int} {b1 : Bool} {th : List Int} {b2 : Bool} {td : List Int} {w h : Int} {b3 : Bool} {dl : List Bool}
theorem inv_great (hg : Contract Tryz.prog 15 [GA W H b l] (B true)) : Contract Tryz.prog 4 [GA W H b l, DA s t b1 th b2 td w h b3 dl] (B true) := by
  refine Contract.intro (effS [] false) 6 follows Tryz.func4 rfl rfl (by kernel_rfl) (Nat.le_of_ble_eq_true rfl) ?_
  simp (disch := first | assumption | omega | rfl | simp only [RH]) only [↓RP, RG, FX, RQ, ↓reduceIte, Nat.reduceEqDiff, reduceCtorEq, Nat.reduceBEq, Nat.reduceAdd, Nat.reduceLeDiff, args0_2]
  refine callK_F 6 hg (by simp (disch := first | assumption | omega | rfl | simp only [RH]) only [↓RP, RG, FX, RQ, ↓reduceIte, Nat.reduceEqDiff, reduceCtorEq, Nat.reduceBEq, Nat.reduceAdd, Nat.reduceLeDiff, RA] <;> rfl) (.inl rfl) ?_
  simp (disch := first | assumption | omega | rfl | simp only [RH]) only [↓RP, RG, FX, RQ, ↓reduceIte, Nat.reduceEqDiff, reduceCtorEq, Nat.reduceBEq, Nat.reduceAdd, Nat.reduceLeDiff, beq_self_eq_true, bb1, bb2]
  refine callK_F 6 alive4_c (by rfl) (.inl rfl) ?_
  simp (disch := first | assumption | omega | rfl | simp only [RH]) only [↓RP, RG, FX, RQ, ↓reduceIte, Nat.reduceEqDiff, reduceCtorEq, Nat.reduceBEq, Nat.reduceAdd, Nat.reduceLeDiff]
  rw [resVal_1 rfl]; simp (disch := first | assumption | omega | rfl | simp only [RH]) only [↓RP, RG, FX, RQ, ↓reduceIte, Nat.reduceEqDiff, reduceCtorEq, Nat.reduceBEq, Nat.reduceAdd, Nat.reduceLeDiff, RS]
theorem inv_check (hg : Contract Tryz.prog 15 [GA W H b l] (B false)) {e : Int} (he : e ≠ 0) (hck : Contract Tryz.prog 16 [GA W H b l] (I e)) : Contract Tryz.prog 4 [GA W H b l, DA s t b1 th b2 td w h b3 dl] (B true) := by
  refine Contract.intro (effS [] false) 6 follows Tryz.func4 rfl rfl (by kernel_rfl) (Nat.le_of_ble_eq_true rfl) ?_
  simp (disch := first | assumption | omega | rfl | simp only [RH]) only [↓RP, RG, FX, RQ, ↓reduceIte, Nat.reduceEqDiff, reduceCtorEq, Nat.reduceBEq, Nat.reduceAdd, Nat.reduceLeDiff, args0_2]
  refine callK_F 6 hg (by simp (disch := first | assumption | omega | rfl | simp only [RH]) only [↓RP, RG, FX, RQ, ↓reduceIte, Nat.reduceEqDiff, reduceCtorEq, Nat.reduceBEq, Nat.reduceAdd, Nat.reduceLeDiff, RA] <;> rfl) (.inl rfl) ?_
  simp (disch := first | assumption | omega | rfl | simp only [RH]) only [↓RP, RG, FX, RQ, ↓reduceIte, Nat.reduceEqDiff, reduceCtorEq, Nat.reduceBEq, Nat.reduceAdd, Nat.reduceLeDiff, beq_self_eq_true, bb1, bb2]
  refine callK_F 6 hck (by simp (disch := first | assumption | omega | rfl | simp only [RH]) only [↓RP, RG, FX, RQ, ↓reduceIte, Nat.reduceEqDiff, reduceCtorEq, Nat.reduceBEq, Nat.reduceAdd, Nat.reduceLeDiff, RA] <;> rfl) (.inl rfl) ?_
  simp (disch := first | assumption | omega | rfl | simp only [RH]) only [↓RP, RG, FX, RQ, ↓reduceIte, Nat.reduceEqDiff, reduceCtorEq, Nat.reduceBEq, Nat.reduceAdd, Nat.reduceLeDiff, beq_self_eq_true, bb1, bb2]
  refine callK_F 6 alive4_c (by rfl) (.inl rfl) ?_
  simp (disch := first | assumption | omega | rfl | simp only [RH]) only [↓RP, RG, FX, RQ, ↓reduceIte, Nat.reduceEqDiff, reduceCtorEq, Nat.reduceBEq, Nat.reduceAdd, Nat.reduceLeDiff]
  rw [resVal_1 rfl]; simp (disch := first | assumption | omega | rfl | simp only [RH]) only [↓RP, RG, FX, RQ, ↓reduceIte, Nat.reduceEqDiff, reduceCtorEq, Nat.reduceBEq, Nat.reduceAdd, Nat.reduceLeDiff, RS]
theorem inv_draft (hg : Contract Tryz.prog 15 [GA W H b l] (B false)) (hck : Contract Tryz.prog 16 [GA W H b l] (I 0)) (hv : Contract Tryz.prog 6 [DA s t b1 th b2 td w h b3 dl] (B false)) : Contract Tryz.prog 4 [GA W H b l, DA s t b1 th b2 td w h b3 dl] (B true) := by
  refine Contract.intro (effS [] false) 6 follows Tryz.func4 rfl rfl (by kernel_rfl) (Nat.le_of_ble_eq_true rfl) ?_
  simp (disch := first | assumption | omega | rfl | simp only [RH]) only [↓RP, RG, FX, RQ, ↓reduceIte, Nat.reduceEqDiff, reduceCtorEq, Nat.reduceBEq, Nat.reduceAdd, Nat.reduceLeDiff, args0_2]
  refine callK_F 6 hg (by simp (disch := first | assumption | omega | rfl | simp only [RH]) only [↓RP, RG, FX, RQ, ↓reduceIte, Nat.reduceEqDiff, reduceCtorEq, Nat.reduceBEq, Nat.reduceAdd, Nat.reduceLeDiff, RA] <;> rfl) (.inl rfl) ?_
  simp (disch := first | assumption | omega | rfl | simp only [RH]) only [↓RP, RG, FX, RQ, ↓reduceIte, Nat.reduceEqDiff, reduceCtorEq, Nat.reduceBEq, Nat.reduceAdd, Nat.reduceLeDiff, beq_self_eq_true, bb1, bb2]
  refine callK_F 6 hck (by simp (disch := first | assumption | omega | rfl | simp only [RH]) only [↓RP, RG, FX, RQ, ↓reduceIte, Nat.reduceEqDiff, reduceCtorEq, Nat.reduceBEq, Nat.reduceAdd, Nat.reduceLeDiff, RA] <;> rfl) (.inl rfl) ?_
  simp (disch := first | assumption | omega | rfl | simp only [RH]) only [↓RP, RG, FX, RQ, ↓reduceIte, Nat.reduceEqDiff, reduceCtorEq, Nat.reduceBEq, Nat.reduceAdd, Nat.reduceLeDiff, beq_self_eq_true, bb1, bb2]
  refine callK_F 6 hv (by simp (disch := first | assumption | omega | rfl | simp only [RH]) only [↓RP, RG, FX, RQ, ↓reduceIte, Nat.reduceEqDiff, reduceCtorEq, Nat.reduceBEq, Nat.reduceAdd, Nat.reduceLeDiff, RA] <;> rfl) (.inl rfl) ?_
  simp (disch := first | assumption | omega | rfl | simp only [RH]) only [↓RP, RG, FX, RQ, ↓reduceIte, Nat.reduceEqDiff, reduceCtorEq, Nat.reduceBEq, Nat.reduceAdd, Nat.reduceLeDiff, beq_self_eq_true, bb1, bb2]
  refine callK_F 6 alive4_c (by rfl) (.inl rfl) ?_
  simp (disch := first | assumption | omega | rfl | simp only [RH]) only [↓RP, RG, FX, RQ, ↓reduceIte, Nat.reduceEqDiff, reduceCtorEq, Nat.reduceBEq, Nat.reduceAdd, Nat.reduceLeDiff]
  rw [resVal_1 rfl]; simp (disch := first | assumption | omega | rfl | simp only [RH]) only [↓RP, RG, FX, RQ, ↓reduceIte, Nat.reduceEqDiff, reduceCtorEq, Nat.reduceBEq, Nat.reduceAdd, Nat.reduceLeDiff, RS]
variable (hg : Contract Tryz.prog 15 [GA W H b l] (B false)) (hck : Contract Tryz.prog 16 [GA W H b l] (I 0)) (hv : Contract Tryz.prog 6 [DA s t b1 th b2 td w h b3 dl] (B true))
include hg hck hv
theorem inv_G0D0 {sa ta : Int} {b1a : Bool} {tha : List Int} {b2a : Bool} {tda : List Int} {wa ha : Int} {b3a : Bool} {la : List Bool} (hOf : Contract Tryz.prog 17 [GA W H b l] (.tuple [DR sa ta b1a tha b2a tda wa ha b3a la, I 4])) {n m : Int} (hCt : Contract Tryz.prog 19 [GA W H b l] (.tuple [I n, I m, I 0])) (hnm : 40 < n ∨ 40 < m) {xw xh : Int} {xb : Bool} {xl : List Bool} (hWd : Contract Tryz.prog 10 [DA s t b1 th b2 td w h b3 dl] (.tuple [GR xw xh xb xl, I 0])) {sc tc : Int} {b1c : Bool} {thc : List Int} {b2c : Bool} {tdc : List Int} {wc hc : Int} {b3c : Bool} {lc : List Bool} (hOf2 : Contract Tryz.prog 17 [GA xw xh xb xl] (.tuple [DR sc tc b1c thc b2c tdc wc hc b3c lc, I 0])) (hLd : Contract Tryz.prog 18 [DA s t b1 th b2 td w h b3 dl] (.tuple [B false, I 0])) (hle1 : sc ≤ s) (hle2 : tc ≤ t) : Contract Tryz.prog 4 [GA W H b l, DA s t b1 th b2 td w h b3 dl] (B true) := by
  by_cases c1 : 40 < n
  · skip
    refine Contract.intro (effS [] false) 6 follows Tryz.func4 rfl rfl (by kernel_rfl) (Nat.le_of_ble_eq_true rfl) ?_
    simp (disch := first | assumption | omega | rfl | simp only [RH]) only [↓RP, RG, FX, RQ, ↓reduceIte, Nat.reduceEqDiff, reduceCtorEq, Nat.reduceBEq, Nat.reduceAdd, Nat.reduceLeDiff, args0_2]
    refine callK_F 6 hg (by simp (disch := first | assumption | omega | rfl | simp only [RH]) only [↓RP, RG, FX, RQ, ↓reduceIte, Nat.reduceEqDiff, reduceCtorEq, Nat.reduceBEq, Nat.reduceAdd, Nat.reduceLeDiff, RA] <;> rfl) (.inl rfl) ?_
    simp (disch := first | assumption | omega | rfl | simp only [RH]) only [↓RP, RG, FX, RQ, ↓reduceIte, Nat.reduceEqDiff, reduceCtorEq, Nat.reduceBEq, Nat.reduceAdd, Nat.reduceLeDiff, beq_self_eq_true, bb1, bb2]
    refine callK_F 6 hck (by simp (disch := first | assumption | omega | rfl | simp only [RH]) only [↓RP, RG, FX, RQ, ↓reduceIte, Nat.reduceEqDiff, reduceCtorEq, Nat.reduceBEq, Nat.reduceAdd, Nat.reduceLeDiff, RA] <;> rfl) (.inl rfl) ?_
    simp (disch := first | assumption | omega | rfl | simp only [RH]) only [↓RP, RG, FX, RQ, ↓reduceIte, Nat.reduceEqDiff, reduceCtorEq, Nat.reduceBEq, Nat.reduceAdd, Nat.reduceLeDiff, beq_self_eq_true, bb1, bb2]
    refine callK_F 6 hv (by simp (disch := first | assumption | omega | rfl | simp only [RH]) only [↓RP, RG, FX, RQ, ↓reduceIte, Nat.reduceEqDiff, reduceCtorEq, Nat.reduceBEq, Nat.reduceAdd, Nat.reduceLeDiff, RA] <;> rfl) (.inl rfl) ?_
    simp (disch := first | assumption | omega | rfl | simp only [RH]) only [↓RP, RG, FX, RQ, ↓reduceIte, Nat.reduceEqDiff, reduceCtorEq, Nat.reduceBEq, Nat.reduceAdd, Nat.reduceLeDiff, beq_self_eq_true, bb1, bb2]
    refine callK_F 6 hOf (by simp (disch := first | assumption | omega | rfl | simp only [RH]) only [↓RP, RG, FX, RQ, ↓reduceIte, Nat.reduceEqDiff, reduceCtorEq, Nat.reduceBEq, Nat.reduceAdd, Nat.reduceLeDiff, RA] <;> rfl) (.inl (by simp [allFresh, ints_fresh, bools_fresh])) ?_
    simp (disch := first | assumption | omega | rfl | simp only [RH]) only [↓RP, RG, FX, RQ, ↓reduceIte, Nat.reduceEqDiff, reduceCtorEq, Nat.reduceBEq, Nat.reduceAdd, Nat.reduceLeDiff, beq_self_eq_true, bb1, bb2]
    refine callK_F 6 hCt (by simp (disch := first | assumption | omega | rfl | simp only [RH]) only [↓RP, RG, FX, RQ, ↓reduceIte, Nat.reduceEqDiff, reduceCtorEq, Nat.reduceBEq, Nat.reduceAdd, Nat.reduceLeDiff, RA] <;> rfl) (.inl rfl) ?_
    simp (disch := first | assumption | omega | rfl | simp only [RH]) only [↓RP, RG, FX, RQ, ↓reduceIte, Nat.reduceEqDiff, reduceCtorEq, Nat.reduceBEq, Nat.reduceAdd, Nat.reduceLeDiff, beq_self_eq_true, bb1, bb2]
    refine callK_F 6 hWd (by simp (disch := first | assumption | omega | rfl | simp only [RH]) only [↓RP, RG, FX, RQ, ↓reduceIte, Nat.reduceEqDiff, reduceCtorEq, Nat.reduceBEq, Nat.reduceAdd, Nat.reduceLeDiff, RA] <;> rfl) (.inl (by simp [allFresh, ints_fresh, bools_fresh])) ?_
    simp (disch := first | assumption | omega | rfl | simp only [RH]) only [↓RP, RG, FX, RQ, ↓reduceIte, Nat.reduceEqDiff, reduceCtorEq, Nat.reduceBEq, Nat.reduceAdd, Nat.reduceLeDiff, beq_self_eq_true, bb1, bb2]
    refine callK_F 6 hOf2 (by simp (disch := first | assumption | omega | rfl | simp only [RH]) only [↓RP, RG, FX, RQ, ↓reduceIte, Nat.reduceEqDiff, reduceCtorEq, Nat.reduceBEq, Nat.reduceAdd, Nat.reduceLeDiff, RA] <;> rfl) (.inl (by simp [allFresh, ints_fresh, bools_fresh])) ?_
    simp (disch := first | assumption | omega | rfl | simp only [RH]) only [↓RP, RG, FX, RQ, ↓reduceIte, Nat.reduceEqDiff, reduceCtorEq, Nat.reduceBEq, Nat.reduceAdd, Nat.reduceLeDiff, beq_self_eq_true, bb1, bb2]
    refine callK_F 6 hLd (by simp (disch := first | assumption | omega | rfl | simp only [RH]) only [↓RP, RG, FX, RQ, ↓reduceIte, Nat.reduceEqDiff, reduceCtorEq, Nat.reduceBEq, Nat.reduceAdd, Nat.reduceLeDiff, RA] <;> rfl) (.inl rfl) ?_
    simp (disch := first | assumption | omega | rfl | simp only [RH]) only [↓RP, RG, FX, RQ, ↓reduceIte, Nat.reduceEqDiff, reduceCtorEq, Nat.reduceBEq, Nat.reduceAdd, Nat.reduceLeDiff, beq_self_eq_true, bb1, bb2]
    refine callK_F 6 alive4_c (by rfl) (.inl rfl) ?_
    simp (disch := first | assumption | omega | rfl | simp only [RH]) only [↓RP, RG, FX, RQ, ↓reduceIte, Nat.reduceEqDiff, reduceCtorEq, Nat.reduceBEq, Nat.reduceAdd, Nat.reduceLeDiff]
    rw [resVal_1 rfl]; simp (disch := first | assumption | omega | rfl | simp only [RH]) only [↓RP, RG, FX, RQ, ↓reduceIte, Nat.reduceEqDiff, reduceCtorEq, Nat.reduceBEq, Nat.reduceAdd, Nat.reduceLeDiff, RS]
  · have c2 : 40 < m := hnm.resolve_left c1
    refine Contract.intro (effS [] false) 6 follows Tryz.func4 rfl rfl (by kernel_rfl) (Nat.le_of_ble_eq_true rfl) ?_
    simp (disch := first | assumption | omega | rfl | simp only [RH]) only [↓RP, RG, FX, RQ, ↓reduceIte, Nat.reduceEqDiff, reduceCtorEq, Nat.reduceBEq, Nat.reduceAdd, Nat.reduceLeDiff, args0_2]
    refine callK_F 6 hg (by simp (disch := first | assumption | omega | rfl | simp only [RH]) only [↓RP, RG, FX, RQ, ↓reduceIte, Nat.reduceEqDiff, reduceCtorEq, Nat.reduceBEq, Nat.reduceAdd, Nat.reduceLeDiff, RA] <;> rfl) (.inl rfl) ?_
    simp (disch := first | assumption | omega | rfl | simp only [RH]) only [↓RP, RG, FX, RQ, ↓reduceIte, Nat.reduceEqDiff, reduceCtorEq, Nat.reduceBEq, Nat.reduceAdd, Nat.reduceLeDiff, beq_self_eq_true, bb1, bb2]
    refine callK_F 6 hck (by simp (disch := first | assumption | omega | rfl | simp only [RH]) only [↓RP, RG, FX, RQ, ↓reduceIte, Nat.reduceEqDiff, reduceCtorEq, Nat.reduceBEq, Nat.reduceAdd, Nat.reduceLeDiff, RA] <;> rfl) (.inl rfl) ?_
    simp (disch := first | assumption | omega | rfl | simp only [RH]) only [↓RP, RG, FX, RQ, ↓reduceIte, Nat.reduceEqDiff, reduceCtorEq, Nat.reduceBEq, Nat.reduceAdd, Nat.reduceLeDiff, beq_self_eq_true, bb1, bb2]
    refine callK_F 6 hv (by simp (disch := first | assumption | omega | rfl | simp only [RH]) only [↓RP, RG, FX, RQ, ↓reduceIte, Nat.reduceEqDiff, reduceCtorEq, Nat.reduceBEq, Nat.reduceAdd, Nat.reduceLeDiff, RA] <;> rfl) (.inl rfl) ?_
    simp (disch := first | assumption | omega | rfl | simp only [RH]) only [↓RP, RG, FX, RQ, ↓reduceIte, Nat.reduceEqDiff, reduceCtorEq, Nat.reduceBEq, Nat.reduceAdd, Nat.reduceLeDiff, beq_self_eq_true, bb1, bb2]
    refine callK_F 6 hOf (by simp (disch := first | assumption | omega | rfl | simp only [RH]) only [↓RP, RG, FX, RQ, ↓reduceIte, Nat.reduceEqDiff, reduceCtorEq, Nat.reduceBEq, Nat.reduceAdd, Nat.reduceLeDiff, RA] <;> rfl) (.inl (by simp [allFresh, ints_fresh, bools_fresh])) ?_
    simp (disch := first | assumption | omega | rfl | simp only [RH]) only [↓RP, RG, FX, RQ, ↓reduceIte, Nat.reduceEqDiff, reduceCtorEq, Nat.reduceBEq, Nat.reduceAdd, Nat.reduceLeDiff, beq_self_eq_true, bb1, bb2]
    refine callK_F 6 hCt (by simp (disch := first | assumption | omega | rfl | simp only [RH]) only [↓RP, RG, FX, RQ, ↓reduceIte, Nat.reduceEqDiff, reduceCtorEq, Nat.reduceBEq, Nat.reduceAdd, Nat.reduceLeDiff, RA] <;> rfl) (.inl rfl) ?_
    simp (disch := first | assumption | omega | rfl | simp only [RH]) only [↓RP, RG, FX, RQ, ↓reduceIte, Nat.reduceEqDiff, reduceCtorEq, Nat.reduceBEq, Nat.reduceAdd, Nat.reduceLeDiff, beq_self_eq_true, bb1, bb2]
    refine callK_F 6 hWd (by simp (disch := first | assumption | omega | rfl | simp only [RH]) only [↓RP, RG, FX, RQ, ↓reduceIte, Nat.reduceEqDiff, reduceCtorEq, Nat.reduceBEq, Nat.reduceAdd, Nat.reduceLeDiff, RA] <;> rfl) (.inl (by simp [allFresh, ints_fresh, bools_fresh])) ?_
    simp (disch := first | assumption | omega | rfl | simp only [RH]) only [↓RP, RG, FX, RQ, ↓reduceIte, Nat.reduceEqDiff, reduceCtorEq, Nat.reduceBEq, Nat.reduceAdd, Nat.reduceLeDiff, beq_self_eq_true, bb1, bb2]
    refine callK_F 6 hOf2 (by simp (disch := first | assumption | omega | rfl | simp only [RH]) only [↓RP, RG, FX, RQ, ↓reduceIte, Nat.reduceEqDiff, reduceCtorEq, Nat.reduceBEq, Nat.reduceAdd, Nat.reduceLeDiff, RA] <;> rfl) (.inl (by simp [allFresh, ints_fresh, bools_fresh])) ?_
    simp (disch := first | assumption | omega | rfl | simp only [RH]) only [↓RP, RG, FX, RQ, ↓reduceIte, Nat.reduceEqDiff, reduceCtorEq, Nat.reduceBEq, Nat.reduceAdd, Nat.reduceLeDiff, beq_self_eq_true, bb1, bb2]
    refine callK_F 6 hLd (by simp (disch := first | assumption | omega | rfl | simp only [RH]) only [↓RP, RG, FX, RQ, ↓reduceIte, Nat.reduceEqDiff, reduceCtorEq, Nat.reduceBEq, Nat.reduceAdd, Nat.reduceLeDiff, RA] <;> rfl) (.inl rfl) ?_
    simp (disch := first | assumption | omega | rfl | simp only [RH]) only [↓RP, RG, FX, RQ, ↓reduceIte, Nat.reduceEqDiff, reduceCtorEq, Nat.reduceBEq, Nat.reduceAdd, Nat.reduceLeDiff, beq_self_eq_true, bb1, bb2]
    refine callK_F 6 alive4_c (by rfl) (.inl rfl) ?_
    simp (disch := first | assumption | omega | rfl | simp only [RH]) only [↓RP, RG, FX, RQ, ↓reduceIte, Nat.reduceEqDiff, reduceCtorEq, Nat.reduceBEq, Nat.reduceAdd, Nat.reduceLeDiff]
    rw [resVal_1 rfl]; simp (disch := first | assumption | omega | rfl | simp only [RH]) only [↓RP, RG, FX, RQ, ↓reduceIte, Nat.reduceEqDiff, reduceCtorEq, Nat.reduceBEq, Nat.reduceAdd, Nat.reduceLeDiff, RS]
theorem inv_G1D0 {sa ta : Int} {b1a : Bool} {tha : List Int} {b2a : Bool} {tda : List Int} {wa ha : Int} {b3a : Bool} {la : List Bool} (hOf : Contract Tryz.prog 17 [GA W H b l] (.tuple [DR sa ta b1a tha b2a tda wa ha b3a la, I 0])) {gw gh : Int} {gb : Bool} {gl : List Bool} (hWa : Contract Tryz.prog 10 [DA sa ta b1a tha b2a tda wa ha b3a la] (.tuple [GR gw gh gb gl, I 0])) (hSa : Contract Tryz.prog 12 [GA gw gh gb gl, GA W H b l] (B true)) (hLa : Contract Tryz.prog 18 [DA sa ta b1a tha b2a tda wa ha b3a la] (.tuple [B true, I 0])) (hCt : Contract Tryz.prog 19 [GA W H b l] (.tuple [I sa, I ta, I 0])) {xw xh : Int} {xb : Bool} {xl : List Bool} (hWd : Contract Tryz.prog 10 [DA s t b1 th b2 td w h b3 dl] (.tuple [GR xw xh xb xl, I 0])) {sc tc : Int} {b1c : Bool} {thc : List Int} {b2c : Bool} {tdc : List Int} {wc hc : Int} {b3c : Bool} {lc : List Bool} (hOf2 : Contract Tryz.prog 17 [GA xw xh xb xl] (.tuple [DR sc tc b1c thc b2c tdc wc hc b3c lc, I 0])) (hLd : Contract Tryz.prog 18 [DA s t b1 th b2 td w h b3 dl] (.tuple [B false, I 0])) (hle1 : sc ≤ s) (hle2 : tc ≤ t) : Contract Tryz.prog 4 [GA W H b l, DA s t b1 th b2 td w h b3 dl] (B true) := by
  refine Contract.intro (effS [] false) 6 follows Tryz.func4 rfl rfl (by kernel_rfl) (Nat.le_of_ble_eq_true rfl) ?_
  simp (disch := first | assumption | omega | rfl | simp only [RH]) only [↓RP, RG, FX, RQ, ↓reduceIte, Nat.reduceEqDiff, reduceCtorEq, Nat.reduceBEq, Nat.reduceAdd, Nat.reduceLeDiff, args0_2]
  refine callK_F 6 hg (by simp (disch := first | assumption | omega | rfl | simp only [RH]) only [↓RP, RG, FX, RQ, ↓reduceIte, Nat.reduceEqDiff, reduceCtorEq, Nat.reduceBEq, Nat.reduceAdd, Nat.reduceLeDiff, RA] <;> rfl) (.inl rfl) ?_
  simp (disch := first | assumption | omega | rfl | simp only [RH]) only [↓RP, RG, FX, RQ, ↓reduceIte, Nat.reduceEqDiff, reduceCtorEq, Nat.reduceBEq, Nat.reduceAdd, Nat.reduceLeDiff, beq_self_eq_true, bb1, bb2]
  refine callK_F 6 hck (by simp (disch := first | assumption | omega | rfl | simp only [RH]) only [↓RP, RG, FX, RQ, ↓reduceIte, Nat.reduceEqDiff, reduceCtorEq, Nat.reduceBEq, Nat.reduceAdd, Nat.reduceLeDiff, RA] <;> rfl) (.inl rfl) ?_
  simp (disch := first | assumption | omega | rfl | simp only [RH]) only [↓RP, RG, FX, RQ, ↓reduceIte, Nat.reduceEqDiff, reduceCtorEq, Nat.reduceBEq, Nat.reduceAdd, Nat.reduceLeDiff, beq_self_eq_true, bb1, bb2]
  refine callK_F 6 hv (by simp (disch := first | assumption | omega | rfl | simp only [RH]) only [↓RP, RG, FX, RQ, ↓reduceIte, Nat.reduceEqDiff, reduceCtorEq, Nat.reduceBEq, Nat.reduceAdd, Nat.reduceLeDiff, RA] <;> rfl) (.inl rfl) ?_
  simp (disch := first | assumption | omega | rfl | simp only [RH]) only [↓RP, RG, FX, RQ, ↓reduceIte, Nat.reduceEqDiff, reduceCtorEq, Nat.reduceBEq, Nat.reduceAdd, Nat.reduceLeDiff, beq_self_eq_true, bb1, bb2]
  refine callK_F 6 hOf (by simp (disch := first | assumption | omega | rfl | simp only [RH]) only [↓RP, RG, FX, RQ, ↓reduceIte, Nat.reduceEqDiff, reduceCtorEq, Nat.reduceBEq, Nat.reduceAdd, Nat.reduceLeDiff, RA] <;> rfl) (.inl (by simp [allFresh, ints_fresh, bools_fresh])) ?_
  simp (disch := first | assumption | omega | rfl | simp only [RH]) only [↓RP, RG, FX, RQ, ↓reduceIte, Nat.reduceEqDiff, reduceCtorEq, Nat.reduceBEq, Nat.reduceAdd, Nat.reduceLeDiff, beq_self_eq_true, bb1, bb2]
  refine callK_F 6 hWa (by simp (disch := first | assumption | omega | rfl | simp only [RH]) only [↓RP, RG, FX, RQ, ↓reduceIte, Nat.reduceEqDiff, reduceCtorEq, Nat.reduceBEq, Nat.reduceAdd, Nat.reduceLeDiff, RA] <;> rfl) (.inl (by simp [allFresh, ints_fresh, bools_fresh])) ?_
  simp (disch := first | assumption | omega | rfl | simp only [RH]) only [↓RP, RG, FX, RQ, ↓reduceIte, Nat.reduceEqDiff, reduceCtorEq, Nat.reduceBEq, Nat.reduceAdd, Nat.reduceLeDiff, beq_self_eq_true, bb1, bb2]
  refine callK_F 6 hLa (by simp (disch := first | assumption | omega | rfl | simp only [RH]) only [↓RP, RG, FX, RQ, ↓reduceIte, Nat.reduceEqDiff, reduceCtorEq, Nat.reduceBEq, Nat.reduceAdd, Nat.reduceLeDiff, RA] <;> rfl) (.inl rfl) ?_
  simp (disch := first | assumption | omega | rfl | simp only [RH]) only [↓RP, RG, FX, RQ, ↓reduceIte, Nat.reduceEqDiff, reduceCtorEq, Nat.reduceBEq, Nat.reduceAdd, Nat.reduceLeDiff, beq_self_eq_true, bb1, bb2]
  refine callK_F 6 hSa (by simp (disch := first | assumption | omega | rfl | simp only [RH]) only [↓RP, RG, FX, RQ, ↓reduceIte, Nat.reduceEqDiff, reduceCtorEq, Nat.reduceBEq, Nat.reduceAdd, Nat.reduceLeDiff, RA] <;> rfl) (.inl rfl) ?_
  simp (disch := first | assumption | omega | rfl | simp only [RH]) only [↓RP, RG, FX, RQ, ↓reduceIte, Nat.reduceEqDiff, reduceCtorEq, Nat.reduceBEq, Nat.reduceAdd, Nat.reduceLeDiff, beq_self_eq_true, bb1, bb2]
  refine callK_F 6 hCt (by simp (disch := first | assumption | omega | rfl | simp only [RH]) only [↓RP, RG, FX, RQ, ↓reduceIte, Nat.reduceEqDiff, reduceCtorEq, Nat.reduceBEq, Nat.reduceAdd, Nat.reduceLeDiff, RA] <;> rfl) (.inl rfl) ?_
  simp (disch := first | assumption | omega | rfl | simp only [RH]) only [↓RP, RG, FX, RQ, ↓reduceIte, Nat.reduceEqDiff, reduceCtorEq, Nat.reduceBEq, Nat.reduceAdd, Nat.reduceLeDiff, beq_self_eq_true, bb1, bb2]
  refine callK_F 6 hWd (by simp (disch := first | assumption | omega | rfl | simp only [RH]) only [↓RP, RG, FX, RQ, ↓reduceIte, Nat.reduceEqDiff, reduceCtorEq, Nat.reduceBEq, Nat.reduceAdd, Nat.reduceLeDiff, RA] <;> rfl) (.inl (by simp [allFresh, ints_fresh, bools_fresh])) ?_
  simp (disch := first | assumption | omega | rfl | simp only [RH]) only [↓RP, RG, FX, RQ, ↓reduceIte, Nat.reduceEqDiff, reduceCtorEq, Nat.reduceBEq, Nat.reduceAdd, Nat.reduceLeDiff, beq_self_eq_true, bb1, bb2]
  refine callK_F 6 hOf2 (by simp (disch := first | assumption | omega | rfl | simp only [RH]) only [↓RP, RG, FX, RQ, ↓reduceIte, Nat.reduceEqDiff, reduceCtorEq, Nat.reduceBEq, Nat.reduceAdd, Nat.reduceLeDiff, RA] <;> rfl) (.inl (by simp [allFresh, ints_fresh, bools_fresh])) ?_
  simp (disch := first | assumption | omega | rfl | simp only [RH]) only [↓RP, RG, FX, RQ, ↓reduceIte, Nat.reduceEqDiff, reduceCtorEq, Nat.reduceBEq, Nat.reduceAdd, Nat.reduceLeDiff, beq_self_eq_true, bb1, bb2]
  refine callK_F 6 hLd (by simp (disch := first | assumption | omega | rfl | simp only [RH]) only [↓RP, RG, FX, RQ, ↓reduceIte, Nat.reduceEqDiff, reduceCtorEq, Nat.reduceBEq, Nat.reduceAdd, Nat.reduceLeDiff, RA] <;> rfl) (.inl rfl) ?_
  simp (disch := first | assumption | omega | rfl | simp only [RH]) only [↓RP, RG, FX, RQ, ↓reduceIte, Nat.reduceEqDiff, reduceCtorEq, Nat.reduceBEq, Nat.reduceAdd, Nat.reduceLeDiff, beq_self_eq_true, bb1, bb2]
  refine callK_F 6 alive4_c (by rfl) (.inl rfl) ?_
  simp (disch := first | assumption | omega | rfl | simp only [RH]) only [↓RP, RG, FX, RQ, ↓reduceIte, Nat.reduceEqDiff, reduceCtorEq, Nat.reduceBEq, Nat.reduceAdd, Nat.reduceLeDiff]
  rw [resVal_1 rfl]; simp (disch := first | assumption | omega | rfl | simp only [RH]) only [↓RP, RG, FX, RQ, ↓reduceIte, Nat.reduceEqDiff, reduceCtorEq, Nat.reduceBEq, Nat.reduceAdd, Nat.reduceLeDiff, RS]
theorem inv_G0D1 {sa ta : Int} {b1a : Bool} {tha : List Int} {b2a : Bool} {tda : List Int} {wa ha : Int} {b3a : Bool} {la : List Bool} (hOf : Contract Tryz.prog 17 [GA W H b l] (.tuple [DR sa ta b1a tha b2a tda wa ha b3a la, I 4])) {n m : Int} (hCt : Contract Tryz.prog 19 [GA W H b l] (.tuple [I n, I m, I 0])) (hnm : 40 < n ∨ 40 < m) {xw xh : Int} {xb : Bool} {xl : List Bool} (hWd : Contract Tryz.prog 10 [DA s t b1 th b2 td w h b3 dl] (.tuple [GR xw xh xb xl, I 0])) {sc tc : Int} {b1c : Bool} {thc : List Int} {b2c : Bool} {tdc : List Int} {wc hc : Int} {b3c : Bool} {lc : List Bool} (hOf2 : Contract Tryz.prog 17 [GA xw xh xb xl] (.tuple [DR sc tc b1c thc b2c tdc wc hc b3c lc, I 0])) (hLd : Contract Tryz.prog 18 [DA s t b1 th b2 td w h b3 dl] (.tuple [B true, I 0])) (hle1 : sc ≤ s) (hle2 : tc ≤ t) {n1 n2 : Bool} {m1 m2 : List Int} (hM : Contract Tryz.prog 8 [DA sc tc b1c thc b2c tdc wc hc b3c lc, DA s t b1 th b2 td w h b3 dl] (.tuple [LR n1 m1, LR n2 m2, I 0])) {sk tk : Int} {b1k : Bool} {thk : List Int} {b2k : Bool} {tdk : List Int} {wk hk : Int} {b3k : Bool} {lk : List Bool} (hR : Contract Tryz.prog 9 [DA sc tc b1c thc b2c tdc wc hc b3c lc, LA n1 m1, LA n2 m2] (.tuple [DR sk tk b1k thk b2k tdk wk hk b3k lk, I 0])) (hSk : Contract Tryz.prog 11 [DA sk tk b1k thk b2k tdk wk hk b3k lk, DA s t b1 th b2 td w h b3 dl] (B true)) (hq1 : sc = s) (hq2 : tc = t) : Contract Tryz.prog 4 [GA W H b l, DA s t b1 th b2 td w h b3 dl] (B true) := by
  subst hq1; subst hq2
  by_cases c1 : 40 < n
  · skip
    refine Contract.intro (effS [] false) 6 follows Tryz.func4 rfl rfl (by kernel_rfl) (Nat.le_of_ble_eq_true rfl) ?_
    simp (disch := first | assumption | omega | rfl | simp only [RH]) only [↓RP, RG, FX, RQ, ↓reduceIte, Nat.reduceEqDiff, reduceCtorEq, Nat.reduceBEq, Nat.reduceAdd, Nat.reduceLeDiff, args0_2]
    refine callK_F 6 hg (by simp (disch := first | assumption | omega | rfl | simp only [RH]) only [↓RP, RG, FX, RQ, ↓reduceIte, Nat.reduceEqDiff, reduceCtorEq, Nat.reduceBEq, Nat.reduceAdd, Nat.reduceLeDiff, RA] <;> rfl) (.inl rfl) ?_
    simp (disch := first | assumption | omega | rfl | simp only [RH]) only [↓RP, RG, FX, RQ, ↓reduceIte, Nat.reduceEqDiff, reduceCtorEq, Nat.reduceBEq, Nat.reduceAdd, Nat.reduceLeDiff, beq_self_eq_true, bb1, bb2]
    refine callK_F 6 hck (by simp (disch := first | assumption | omega | rfl | simp only [RH]) only [↓RP, RG, FX, RQ, ↓reduceIte, Nat.reduceEqDiff, reduceCtorEq, Nat.reduceBEq, Nat.reduceAdd, Nat.reduceLeDiff, RA] <;> rfl) (.inl rfl) ?_
    simp (disch := first | assumption | omega | rfl | simp only [RH]) only [↓RP, RG, FX, RQ, ↓reduceIte, Nat.reduceEqDiff, reduceCtorEq, Nat.reduceBEq, Nat.reduceAdd, Nat.reduceLeDiff, beq_self_eq_true, bb1, bb2]
    refine callK_F 6 hv (by simp (disch := first | assumption | omega | rfl | simp only [RH]) only [↓RP, RG, FX, RQ, ↓reduceIte, Nat.reduceEqDiff, reduceCtorEq, Nat.reduceBEq, Nat.reduceAdd, Nat.reduceLeDiff, RA] <;> rfl) (.inl rfl) ?_
    simp (disch := first | assumption | omega | rfl | simp only [RH]) only [↓RP, RG, FX, RQ, ↓reduceIte, Nat.reduceEqDiff, reduceCtorEq, Nat.reduceBEq, Nat.reduceAdd, Nat.reduceLeDiff, beq_self_eq_true, bb1, bb2]
    refine callK_F 6 hOf (by simp (disch := first | assumption | omega | rfl | simp only [RH]) only [↓RP, RG, FX, RQ, ↓reduceIte, Nat.reduceEqDiff, reduceCtorEq, Nat.reduceBEq, Nat.reduceAdd, Nat.reduceLeDiff, RA] <;> rfl) (.inl (by simp [allFresh, ints_fresh, bools_fresh])) ?_
    simp (disch := first | assumption | omega | rfl | simp only [RH]) only [↓RP, RG, FX, RQ, ↓reduceIte, Nat.reduceEqDiff, reduceCtorEq, Nat.reduceBEq, Nat.reduceAdd, Nat.reduceLeDiff, beq_self_eq_true, bb1, bb2]
    refine callK_F 6 hCt (by simp (disch := first | assumption | omega | rfl | simp only [RH]) only [↓RP, RG, FX, RQ, ↓reduceIte, Nat.reduceEqDiff, reduceCtorEq, Nat.reduceBEq, Nat.reduceAdd, Nat.reduceLeDiff, RA] <;> rfl) (.inl rfl) ?_
    simp (disch := first | assumption | omega | rfl | simp only [RH]) only [↓RP, RG, FX, RQ, ↓reduceIte, Nat.reduceEqDiff, reduceCtorEq, Nat.reduceBEq, Nat.reduceAdd, Nat.reduceLeDiff, beq_self_eq_true, bb1, bb2]
    refine callK_F 6 hWd (by simp (disch := first | assumption | omega | rfl | simp only [RH]) only [↓RP, RG, FX, RQ, ↓reduceIte, Nat.reduceEqDiff, reduceCtorEq, Nat.reduceBEq, Nat.reduceAdd, Nat.reduceLeDiff, RA] <;> rfl) (.inl (by simp [allFresh, ints_fresh, bools_fresh])) ?_
    simp (disch := first | assumption | omega | rfl | simp only [RH]) only [↓RP, RG, FX, RQ, ↓reduceIte, Nat.reduceEqDiff, reduceCtorEq, Nat.reduceBEq, Nat.reduceAdd, Nat.reduceLeDiff, beq_self_eq_true, bb1, bb2]
    refine callK_F 6 hOf2 (by simp (disch := first | assumption | omega | rfl | simp only [RH]) only [↓RP, RG, FX, RQ, ↓reduceIte, Nat.reduceEqDiff, reduceCtorEq, Nat.reduceBEq, Nat.reduceAdd, Nat.reduceLeDiff, RA] <;> rfl) (.inl (by simp [allFresh, ints_fresh, bools_fresh])) ?_
    simp (disch := first | assumption | omega | rfl | simp only [RH]) only [↓RP, RG, FX, RQ, ↓reduceIte, Nat.reduceEqDiff, reduceCtorEq, Nat.reduceBEq, Nat.reduceAdd, Nat.reduceLeDiff, beq_self_eq_true, bb1, bb2]
    refine callK_F 6 hLd (by simp (disch := first | assumption | omega | rfl | simp only [RH]) only [↓RP, RG, FX, RQ, ↓reduceIte, Nat.reduceEqDiff, reduceCtorEq, Nat.reduceBEq, Nat.reduceAdd, Nat.reduceLeDiff, RA] <;> rfl) (.inl rfl) ?_
    simp (disch := first | assumption | omega | rfl | simp only [RH]) only [↓RP, RG, FX, RQ, ↓reduceIte, Nat.reduceEqDiff, reduceCtorEq, Nat.reduceBEq, Nat.reduceAdd, Nat.reduceLeDiff, beq_self_eq_true, bb1, bb2]
    refine callK_F 6 hM (by simp (disch := first | assumption | omega | rfl | simp only [RH]) only [↓RP, RG, FX, RQ, ↓reduceIte, Nat.reduceEqDiff, reduceCtorEq, Nat.reduceBEq, Nat.reduceAdd, Nat.reduceLeDiff, RA] <;> rfl) (.inl (by simp [allFresh, ints_fresh, bools_fresh])) ?_
    simp (disch := first | assumption | omega | rfl | simp only [RH]) only [↓RP, RG, FX, RQ, ↓reduceIte, Nat.reduceEqDiff, reduceCtorEq, Nat.reduceBEq, Nat.reduceAdd, Nat.reduceLeDiff, beq_self_eq_true, bb1, bb2]
    refine callK_F 6 hR (by simp (disch := first | assumption | omega | rfl | simp only [RH]) only [↓RP, RG, FX, RQ, ↓reduceIte, Nat.reduceEqDiff, reduceCtorEq, Nat.reduceBEq, Nat.reduceAdd, Nat.reduceLeDiff, RA] <;> rfl) (.inl (by simp [allFresh, ints_fresh, bools_fresh])) ?_
    simp (disch := first | assumption | omega | rfl | simp only [RH]) only [↓RP, RG, FX, RQ, ↓reduceIte, Nat.reduceEqDiff, reduceCtorEq, Nat.reduceBEq, Nat.reduceAdd, Nat.reduceLeDiff, beq_self_eq_true, bb1, bb2]
    refine callK_F 6 hSk (by simp (disch := first | assumption | omega | rfl | simp only [RH]) only [↓RP, RG, FX, RQ, ↓reduceIte, Nat.reduceEqDiff, reduceCtorEq, Nat.reduceBEq, Nat.reduceAdd, Nat.reduceLeDiff, RA] <;> rfl) (.inl rfl) ?_
    simp (disch := first | assumption | omega | rfl | simp only [RH]) only [↓RP, RG, FX, RQ, ↓reduceIte, Nat.reduceEqDiff, reduceCtorEq, Nat.reduceBEq, Nat.reduceAdd, Nat.reduceLeDiff, beq_self_eq_true, bb1, bb2]
    refine callK_F 6 alive4_c (by rfl) (.inl rfl) ?_
    simp (disch := first | assumption | omega | rfl | simp only [RH]) only [↓RP, RG, FX, RQ, ↓reduceIte, Nat.reduceEqDiff, reduceCtorEq, Nat.reduceBEq, Nat.reduceAdd, Nat.reduceLeDiff]
    rw [resVal_1 rfl]; simp (disch := first | assumption | omega | rfl | simp only [RH]) only [↓RP, RG, FX, RQ, ↓reduceIte, Nat.reduceEqDiff, reduceCtorEq, Nat.reduceBEq, Nat.reduceAdd, Nat.reduceLeDiff, RS]
  · have c2 : 40 < m := hnm.resolve_left c1
    refine Contract.intro (effS [] false) 6 follows Tryz.func4 rfl rfl (by kernel_rfl) (Nat.le_of_ble_eq_true rfl) ?_
    simp (disch := first | assumption | omega | rfl | simp only [RH]) only [↓RP, RG, FX, RQ, ↓reduceIte, Nat.reduceEqDiff, reduceCtorEq, Nat.reduceBEq, Nat.reduceAdd, Nat.reduceLeDiff, args0_2]
    refine callK_F 6 hg (by simp (disch := first | assumption | omega | rfl | simp only [RH]) only [↓RP, RG, FX, RQ, ↓reduceIte, Nat.reduceEqDiff, reduceCtorEq, Nat.reduceBEq, Nat.reduceAdd, Nat.reduceLeDiff, RA] <;> rfl) (.inl rfl) ?_
    simp (disch := first | assumption | omega | rfl | simp only [RH]) only [↓RP, RG, FX, RQ, ↓reduceIte, Nat.reduceEqDiff, reduceCtorEq, Nat.reduceBEq, Nat.reduceAdd, Nat.reduceLeDiff, beq_self_eq_true, bb1, bb2]
    refine callK_F 6 hck (by simp (disch := first | assumption | omega | rfl | simp only [RH]) only [↓RP, RG, FX, RQ, ↓reduceIte, Nat.reduceEqDiff, reduceCtorEq, Nat.reduceBEq, Nat.reduceAdd, Nat.reduceLeDiff, RA] <;> rfl) (.inl rfl) ?_
    simp (disch := first | assumption | omega | rfl | simp only [RH]) only [↓RP, RG, FX, RQ, ↓reduceIte, Nat.reduceEqDiff, reduceCtorEq, Nat.reduceBEq, Nat.reduceAdd, Nat.reduceLeDiff, beq_self_eq_true, bb1, bb2]
    refine callK_F 6 hv (by simp (disch := first | assumption | omega | rfl | simp only [RH]) only [↓RP, RG, FX, RQ, ↓reduceIte, Nat.reduceEqDiff, reduceCtorEq, Nat.reduceBEq, Nat.reduceAdd, Nat.reduceLeDiff, RA] <;> rfl) (.inl rfl) ?_
    simp (disch := first | assumption | omega | rfl | simp only [RH]) only [↓RP, RG, FX, RQ, ↓reduceIte, Nat.reduceEqDiff, reduceCtorEq, Nat.reduceBEq, Nat.reduceAdd, Nat.reduceLeDiff, beq_self_eq_true, bb1, bb2]
    refine callK_F 6 hOf (by simp (disch := first | assumption | omega | rfl | simp only [RH]) only [↓RP, RG, FX, RQ, ↓reduceIte, Nat.reduceEqDiff, reduceCtorEq, Nat.reduceBEq, Nat.reduceAdd, Nat.reduceLeDiff, RA] <;> rfl) (.inl (by simp [allFresh, ints_fresh, bools_fresh])) ?_
    simp (disch := first | assumption | omega | rfl | simp only [RH]) only [↓RP, RG, FX, RQ, ↓reduceIte, Nat.reduceEqDiff, reduceCtorEq, Nat.reduceBEq, Nat.reduceAdd, Nat.reduceLeDiff, beq_self_eq_true, bb1, bb2]
    refine callK_F 6 hCt (by simp (disch := first | assumption | omega | rfl | simp only [RH]) only [↓RP, RG, FX, RQ, ↓reduceIte, Nat.reduceEqDiff, reduceCtorEq, Nat.reduceBEq, Nat.reduceAdd, Nat.reduceLeDiff, RA] <;> rfl) (.inl rfl) ?_
    simp (disch := first | assumption | omega | rfl | simp only [RH]) only [↓RP, RG, FX, RQ, ↓reduceIte, Nat.reduceEqDiff, reduceCtorEq, Nat.reduceBEq, Nat.reduceAdd, Nat.reduceLeDiff, beq_self_eq_true, bb1, bb2]
    refine callK_F 6 hWd (by simp (disch := first | assumption | omega | rfl | simp only [RH]) only [↓RP, RG, FX, RQ, ↓reduceIte, Nat.reduceEqDiff, reduceCtorEq, Nat.reduceBEq, Nat.reduceAdd, Nat.reduceLeDiff, RA] <;> rfl) (.inl (by simp [allFresh, ints_fresh, bools_fresh])) ?_
    simp (disch := first | assumption | omega | rfl | simp only [RH]) only [↓RP, RG, FX, RQ, ↓reduceIte, Nat.reduceEqDiff, reduceCtorEq, Nat.reduceBEq, Nat.reduceAdd, Nat.reduceLeDiff, beq_self_eq_true, bb1, bb2]
    refine callK_F 6 hOf2 (by simp (disch := first | assumption | omega | rfl | simp only [RH]) only [↓RP, RG, FX, RQ, ↓reduceIte, Nat.reduceEqDiff, reduceCtorEq, Nat.reduceBEq, Nat.reduceAdd, Nat.reduceLeDiff, RA] <;> rfl) (.inl (by simp [allFresh, ints_fresh, bools_fresh])) ?_
    simp (disch := first | assumption | omega | rfl | simp only [RH]) only [↓RP, RG, FX, RQ, ↓reduceIte, Nat.reduceEqDiff, reduceCtorEq, Nat.reduceBEq, Nat.reduceAdd, Nat.reduceLeDiff, beq_self_eq_true, bb1, bb2]
    refine callK_F 6 hLd (by simp (disch := first | assumption | omega | rfl | simp only [RH]) only [↓RP, RG, FX, RQ, ↓reduceIte, Nat.reduceEqDiff, reduceCtorEq, Nat.reduceBEq, Nat.reduceAdd, Nat.reduceLeDiff, RA] <;> rfl) (.inl rfl) ?_
    simp (disch := first | assumption | omega | rfl | simp only [RH]) only [↓RP, RG, FX, RQ, ↓reduceIte, Nat.reduceEqDiff, reduceCtorEq, Nat.reduceBEq, Nat.reduceAdd, Nat.reduceLeDiff, beq_self_eq_true, bb1, bb2]
    refine callK_F 6 hM (by simp (disch := first | assumption | omega | rfl | simp only [RH]) only [↓RP, RG, FX, RQ, ↓reduceIte, Nat.reduceEqDiff, reduceCtorEq, Nat.reduceBEq, Nat.reduceAdd, Nat.reduceLeDiff, RA] <;> rfl) (.inl (by simp [allFresh, ints_fresh, bools_fresh])) ?_
    simp (disch := first | assumption | omega | rfl | simp only [RH]) only [↓RP, RG, FX, RQ, ↓reduceIte, Nat.reduceEqDiff, reduceCtorEq, Nat.reduceBEq, Nat.reduceAdd, Nat.reduceLeDiff, beq_self_eq_true, bb1, bb2]
    refine callK_F 6 hR (by simp (disch := first | assumption | omega | rfl | simp only [RH]) only [↓RP, RG, FX, RQ, ↓reduceIte, Nat.reduceEqDiff, reduceCtorEq, Nat.reduceBEq, Nat.reduceAdd, Nat.reduceLeDiff, RA] <;> rfl) (.inl (by simp [allFresh, ints_fresh, bools_fresh])) ?_
    simp (disch := first | assumption | omega | rfl | simp only [RH]) only [↓RP, RG, FX, RQ, ↓reduceIte, Nat.reduceEqDiff, reduceCtorEq, Nat.reduceBEq, Nat.reduceAdd, Nat.reduceLeDiff, beq_self_eq_true, bb1, bb2]
    refine callK_F 6 hSk (by simp (disch := first | assumption | omega | rfl | simp only [RH]) only [↓RP, RG, FX, RQ, ↓reduceIte, Nat.reduceEqDiff, reduceCtorEq, Nat.reduceBEq, Nat.reduceAdd, Nat.reduceLeDiff, RA] <;> rfl) (.inl rfl) ?_
    simp (disch := first | assumption | omega | rfl | simp only [RH]) only [↓RP, RG, FX, RQ, ↓reduceIte, Nat.reduceEqDiff, reduceCtorEq, Nat.reduceBEq, Nat.reduceAdd, Nat.reduceLeDiff, beq_self_eq_true, bb1, bb2]
    refine callK_F 6 alive4_c (by rfl) (.inl rfl) ?_
    simp (disch := first | assumption | omega | rfl | simp only [RH]) only [↓RP, RG, FX, RQ, ↓reduceIte, Nat.reduceEqDiff, reduceCtorEq, Nat.reduceBEq, Nat.reduceAdd, Nat.reduceLeDiff]
    rw [resVal_1 rfl]; simp (disch := first | assumption | omega | rfl | simp only [RH]) only [↓RP, RG, FX, RQ, ↓reduceIte, Nat.reduceEqDiff, reduceCtorEq, Nat.reduceBEq, Nat.reduceAdd, Nat.reduceLeDiff, RS]
theorem inv_G1D1 {sa ta : Int} {b1a : Bool} {tha : List Int} {b2a : Bool} {tda : List Int} {wa ha : Int} {b3a : Bool} {la : List Bool} (hOf : Contract Tryz.prog 17 [GA W H b l] (.tuple [DR sa ta b1a tha b2a tda wa ha b3a la, I 0])) {gw gh : Int} {gb : Bool} {gl : List Bool} (hWa : Contract Tryz.prog 10 [DA sa ta b1a tha b2a tda wa ha b3a la] (.tuple [GR gw gh gb gl, I 0])) (hSa : Contract Tryz.prog 12 [GA gw gh gb gl, GA W H b l] (B true)) (hLa : Contract Tryz.prog 18 [DA sa ta b1a tha b2a tda wa ha b3a la] (.tuple [B true, I 0])) (hCt : Contract Tryz.prog 19 [GA W H b l] (.tuple [I sa, I ta, I 0])) {xw xh : Int} {xb : Bool} {xl : List Bool} (hWd : Contract Tryz.prog 10 [DA s t b1 th b2 td w h b3 dl] (.tuple [GR xw xh xb xl, I 0])) {sc tc : Int} {b1c : Bool} {thc : List Int} {b2c : Bool} {tdc : List Int} {wc hc : Int} {b3c : Bool} {lc : List Bool} (hOf2 : Contract Tryz.prog 17 [GA xw xh xb xl] (.tuple [DR sc tc b1c thc b2c tdc wc hc b3c lc, I 0])) (hLd : Contract Tryz.prog 18 [DA s t b1 th b2 td w h b3 dl] (.tuple [B true, I 0])) (hle1 : sc ≤ s) (hle2 : tc ≤ t) {n1 n2 : Bool} {m1 m2 : List Int} (hM : Contract Tryz.prog 8 [DA sc tc b1c thc b2c tdc wc hc b3c lc, DA s t b1 th b2 td w h b3 dl] (.tuple [LR n1 m1, LR n2 m2, I 0])) {sk tk : Int} {b1k : Bool} {thk : List Int} {b2k : Bool} {tdk : List Int} {wk hk : Int} {b3k : Bool} {lk : List Bool} (hR : Contract Tryz.prog 9 [DA sc tc b1c thc b2c tdc wc hc b3c lc, LA n1 m1, LA n2 m2] (.tuple [DR sk tk b1k thk b2k tdk wk hk b3k lk, I 0])) (hSk : Contract Tryz.prog 11 [DA sk tk b1k thk b2k tdk wk hk b3k lk, DA s t b1 th b2 td w h b3 dl] (B true)) (hq1 : sc = s) (hq2 : tc = t) : Contract Tryz.prog 4 [GA W H b l, DA s t b1 th b2 td w h b3 dl] (B true) := by
  subst hq1; subst hq2
  refine Contract.intro (effS [] false) 6 follows Tryz.func4 rfl rfl (by kernel_rfl) (Nat.le_of_ble_eq_true rfl) ?_
  simp (disch := first | assumption | omega | rfl | simp only [RH]) only [↓RP, RG, FX, RQ, ↓reduceIte, Nat.reduceEqDiff, reduceCtorEq, Nat.reduceBEq, Nat.reduceAdd, Nat.reduceLeDiff, args0_2]
  refine callK_F 6 hg (by simp (disch := first | assumption | omega | rfl | simp only [RH]) only [↓RP, RG, FX, RQ, ↓reduceIte, Nat.reduceEqDiff, reduceCtorEq, Nat.reduceBEq, Nat.reduceAdd, Nat.reduceLeDiff, RA] <;> rfl) (.inl rfl) ?_
  simp (disch := first | assumption | omega | rfl | simp only [RH]) only [↓RP, RG, FX, RQ, ↓reduceIte, Nat.reduceEqDiff, reduceCtorEq, Nat.reduceBEq, Nat.reduceAdd, Nat.reduceLeDiff, beq_self_eq_true, bb1, bb2]
  refine callK_F 6 hck (by simp (disch := first | assumption | omega | rfl | simp only [RH]) only [↓RP, RG, FX, RQ, ↓reduceIte, Nat.reduceEqDiff, reduceCtorEq, Nat.reduceBEq, Nat.reduceAdd, Nat.reduceLeDiff, RA] <;> rfl) (.inl rfl) ?_
  simp (disch := first | assumption | omega | rfl | simp only [RH]) only [↓RP, RG, FX, RQ, ↓reduceIte, Nat.reduceEqDiff, reduceCtorEq, Nat.reduceBEq, Nat.reduceAdd, Nat.reduceLeDiff, beq_self_eq_true, bb1, bb2]
  refine callK_F 6 hv (by simp (disch := first | assumption | omega | rfl | simp only [RH]) only [↓RP, RG, FX, RQ, ↓reduceIte, Nat.reduceEqDiff, reduceCtorEq, Nat.reduceBEq, Nat.reduceAdd, Nat.reduceLeDiff, RA] <;> rfl) (.inl rfl) ?_
  simp (disch := first | assumption | omega | rfl | simp only [RH]) only [↓RP, RG, FX, RQ, ↓reduceIte, Nat.reduceEqDiff, reduceCtorEq, Nat.reduceBEq, Nat.reduceAdd, Nat.reduceLeDiff, beq_self_eq_true, bb1, bb2]
  refine callK_F 6 hOf (by simp (disch := first | assumption | omega | rfl | simp only [RH]) only [↓RP, RG, FX, RQ, ↓reduceIte, Nat.reduceEqDiff, reduceCtorEq, Nat.reduceBEq, Nat.reduceAdd, Nat.reduceLeDiff, RA] <;> rfl) (.inl (by simp [allFresh, ints_fresh, bools_fresh])) ?_
  simp (disch := first | assumption | omega | rfl | simp only [RH]) only [↓RP, RG, FX, RQ, ↓reduceIte, Nat.reduceEqDiff, reduceCtorEq, Nat.reduceBEq, Nat.reduceAdd, Nat.reduceLeDiff, beq_self_eq_true, bb1, bb2]
  refine callK_F 6 hWa (by simp (disch := first | assumption | omega | rfl | simp only [RH]) only [↓RP, RG, FX, RQ, ↓reduceIte, Nat.reduceEqDiff, reduceCtorEq, Nat.reduceBEq, Nat.reduceAdd, Nat.reduceLeDiff, RA] <;> rfl) (.inl (by simp [allFresh, ints_fresh, bools_fresh])) ?_
  simp (disch := first | assumption | omega | rfl | simp only [RH]) only [↓RP, RG, FX, RQ, ↓reduceIte, Nat.reduceEqDiff, reduceCtorEq, Nat.reduceBEq, Nat.reduceAdd, Nat.reduceLeDiff, beq_self_eq_true, bb1, bb2]
  refine callK_F 6 hLa (by simp (disch := first | assumption | omega | rfl | simp only [RH]) only [↓RP, RG, FX, RQ, ↓reduceIte, Nat.reduceEqDiff, reduceCtorEq, Nat.reduceBEq, Nat.reduceAdd, Nat.reduceLeDiff, RA] <;> rfl) (.inl rfl) ?_
  simp (disch := first | assumption | omega | rfl | simp only [RH]) only [↓RP, RG, FX, RQ, ↓reduceIte, Nat.reduceEqDiff, reduceCtorEq, Nat.reduceBEq, Nat.reduceAdd, Nat.reduceLeDiff, beq_self_eq_true, bb1, bb2]
  refine callK_F 6 hSa (by simp (disch := first | assumption | omega | rfl | simp only [RH]) only [↓RP, RG, FX, RQ, ↓reduceIte, Nat.reduceEqDiff, reduceCtorEq, Nat.reduceBEq, Nat.reduceAdd, Nat.reduceLeDiff, RA] <;> rfl) (.inl rfl) ?_
  simp (disch := first | assumption | omega | rfl | simp only [RH]) only [↓RP, RG, FX, RQ, ↓reduceIte, Nat.reduceEqDiff, reduceCtorEq, Nat.reduceBEq, Nat.reduceAdd, Nat.reduceLeDiff, beq_self_eq_true, bb1, bb2]
  refine callK_F 6 hCt (by simp (disch := first | assumption | omega | rfl | simp only [RH]) only [↓RP, RG, FX, RQ, ↓reduceIte, Nat.reduceEqDiff, reduceCtorEq, Nat.reduceBEq, Nat.reduceAdd, Nat.reduceLeDiff, RA] <;> rfl) (.inl rfl) ?_
  simp (disch := first | assumption | omega | rfl | simp only [RH]) only [↓RP, RG, FX, RQ, ↓reduceIte, Nat.reduceEqDiff, reduceCtorEq, Nat.reduceBEq, Nat.reduceAdd, Nat.reduceLeDiff, beq_self_eq_true, bb1, bb2]
  refine callK_F 6 hWd (by simp (disch := first | assumption | omega | rfl | simp only [RH]) only [↓RP, RG, FX, RQ, ↓reduceIte, Nat.reduceEqDiff, reduceCtorEq, Nat.reduceBEq, Nat.reduceAdd, Nat.reduceLeDiff, RA] <;> rfl) (.inl (by simp [allFresh, ints_fresh, bools_fresh])) ?_
  simp (disch := first | assumption | omega | rfl | simp only [RH]) only [↓RP, RG, FX, RQ, ↓reduceIte, Nat.reduceEqDiff, reduceCtorEq, Nat.reduceBEq, Nat.reduceAdd, Nat.reduceLeDiff, beq_self_eq_true, bb1, bb2]
  refine callK_F 6 hOf2 (by simp (disch := first | assumption | omega | rfl | simp only [RH]) only [↓RP, RG, FX, RQ, ↓reduceIte, Nat.reduceEqDiff, reduceCtorEq, Nat.reduceBEq, Nat.reduceAdd, Nat.reduceLeDiff, RA] <;> rfl) (.inl (by simp [allFresh, ints_fresh, bools_fresh])) ?_
  simp (disch := first | assumption | omega | rfl | simp only [RH]) only [↓RP, RG, FX, RQ, ↓reduceIte, Nat.reduceEqDiff, reduceCtorEq, Nat.reduceBEq, Nat.reduceAdd, Nat.reduceLeDiff, beq_self_eq_true, bb1, bb2]
  refine callK_F 6 hLd (by simp (disch := first | assumption | omega | rfl | simp only [RH]) only [↓RP, RG, FX, RQ, ↓reduceIte, Nat.reduceEqDiff, reduceCtorEq, Nat.reduceBEq, Nat.reduceAdd, Nat.reduceLeDiff, RA] <;> rfl) (.inl rfl) ?_
  simp (disch := first | assumption | omega | rfl | simp only [RH]) only [↓RP, RG, FX, RQ, ↓reduceIte, Nat.reduceEqDiff, reduceCtorEq, Nat.reduceBEq, Nat.reduceAdd, Nat.reduceLeDiff, beq_self_eq_true, bb1, bb2]
  refine callK_F 6 hM (by simp (disch := first | assumption | omega | rfl | simp only [RH]) only [↓RP, RG, FX, RQ, ↓reduceIte, Nat.reduceEqDiff, reduceCtorEq, Nat.reduceBEq, Nat.reduceAdd, Nat.reduceLeDiff, RA] <;> rfl) (.inl (by simp [allFresh, ints_fresh, bools_fresh])) ?_
  simp (disch := first | assumption | omega | rfl | simp only [RH]) only [↓RP, RG, FX, RQ, ↓reduceIte, Nat.reduceEqDiff, reduceCtorEq, Nat.reduceBEq, Nat.reduceAdd, Nat.reduceLeDiff, beq_self_eq_true, bb1, bb2]
  refine callK_F 6 hR (by simp (disch := first | assumption | omega | rfl | simp only [RH]) only [↓RP, RG, FX, RQ, ↓reduceIte, Nat.reduceEqDiff, reduceCtorEq, Nat.reduceBEq, Nat.reduceAdd, Nat.reduceLeDiff, RA] <;> rfl) (.inl (by simp [allFresh, ints_fresh, bools_fresh])) ?_
  simp (disch := first | assumption | omega | rfl | simp only [RH]) only [↓RP, RG, FX, RQ, ↓reduceIte, Nat.reduceEqDiff, reduceCtorEq, Nat.reduceBEq, Nat.reduceAdd, Nat.reduceLeDiff, beq_self_eq_true, bb1, bb2]
  refine callK_F 6 hSk (by simp (disch := first | assumption | omega | rfl | simp only [RH]) only [↓RP, RG, FX, RQ, ↓reduceIte, Nat.reduceEqDiff, reduceCtorEq, Nat.reduceBEq, Nat.reduceAdd, Nat.reduceLeDiff, RA] <;> rfl) (.inl rfl) ?_
  simp (disch := first | assumption | omega | rfl | simp only [RH]) only [↓RP, RG, FX, RQ, ↓reduceIte, Nat.reduceEqDiff, reduceCtorEq, Nat.reduceBEq, Nat.reduceAdd, Nat.reduceLeDiff, beq_self_eq_true, bb1, bb2]
  refine callK_F 6 alive4_c (by rfl) (.inl rfl) ?_
  simp (disch := first | assumption | omega | rfl | simp only [RH]) only [↓RP, RG, FX, RQ, ↓reduceIte, Nat.reduceEqDiff, reduceCtorEq, Nat.reduceBEq, Nat.reduceAdd, Nat.reduceLeDiff]
  rw [resVal_1 rfl]; simp (disch := first | assumption | omega | rfl | simp only [RH]) only [↓RP, RG, FX, RQ, ↓reduceIte, Nat.reduceEqDiff, reduceCtorEq, Nat.reduceBEq, Nat.reduceAdd, Nat.reduceLeDiff, RS]
end
end Go.Proofs.YtbhkhaaifielkaaGreatDoor

/- The law FactorInverse. -/
set_option linter.unusedSimpArgs false
set_option linter.unusedVariables false
set_option maxRecDepth 100000
namespace Go.Proofs.YtbhkhaaifielkaaGreatDoor
open Go Go.Proofs Go.AW

/-- The drawdown of the least draft, by the program. -/
theorem least_wv {W H : Nat} (hW1 : 1 ≤ W) (hW : W ≤ 64) (hH1 : 1 ≤ H) (hH : H ≤ 64) {l : List Bool} (hn : l.length = W * H) (c1 : (fC W H l).length ≤ 40) (c2 : (fR W H l).length ≤ 40) (f1 f2 f3 : Bool) :
    Contract Tryz.prog 10 [DA (fC W H l).length (fR W H l).length f1 (nI (kC W H l)) f2 (nI (kR W H l)) (fR W H l).length (fC W H l).length f3 (tieL W H l)] (.tuple [GR W H false l, I 0]) := by
  have h := weaveV_c f1 f2 f3 (least_ok hW1 hW hH1 hH l c1 c2)
  rw [least_weave hn, nI_len, nI_len, kC_len, kR_len] at h
  exact h
section
variable {S T : Nat} {th td : List Int} {l : List Bool} (hd : dOk S T th td T S l.length) (hl : lst4 S T th td l)
include hd hl
/-- The least draft of a least draft's drawdown matches it. -/
theorem inv_match (f1 f2 f3 b1 b2 b3 : Bool) : ∃ m1 m2 : List Int, (m1.length = S ∧ once m1 S S) ∧ (m2.length = T ∧ once m2 T T) ∧
    Contract Tryz.prog 8 [DA S T f1 (nI (kC th.length td.length (ddL T th td l))) f2 (nI (kR th.length td.length (ddL T th td l))) T S f3 (tieL th.length td.length (ddL T th td l)), DA S T b1 th b2 td T S b3 l] (.tuple [LR false m1, LR false m2, I 0]) ∧
    Contract Tryz.prog 9 [DA S T f1 (nI (kC th.length td.length (ddL T th td l))) f2 (nI (kR th.length td.length (ddL T th td l))) T S f3 (tieL th.length td.length (ddL T th td l)), LA false m1, LA false m2] (.tuple [DR S T false th false td T S false l, I 0]) := by
  have hS := fC_S hd hl
  have hT := fR_T hd hl
  have d1 := hd.1
  have d2 := hd.2.1
  have d3 := hd.2.2.1
  have d4 := hd.2.2.2.1
  have p1 := hd.2.2.2.2.1.1
  have p2 := hd.2.2.2.2.2.1.1
  have k1 := kC_len th.length td.length (ddL T th td l)
  have k2 := kR_len th.length td.length (ddL T th td l)
  have hc := least_ok (W := th.length) (H := td.length) (by omega) (by omega) (by omega) (by omega) (ddL T th td l) (by omega) (by omega)
  have hlc := least_lst (W := th.length) (H := td.length) (ddL T th td l)
  have hlu := lst_use hlc
  have hp1 := pairs1 hd hl
  have hp2 := pairs2 hd hl
  have htb := fun m1 m2 => tie_back hd hl (m1 := m1) (m2 := m2)
  rw [hS, hT] at hc hlu
  generalize hK : nI (kC th.length td.length (ddL T th td l)) = K at *
  generalize hR : nI (kR th.length td.length (ddL T th td l)) = R at *
  have hKl : K.length = th.length := by rw [← hK, nI_len, k1]
  have hRl : R.length = td.length := by rw [← hR, nI_len, k2]
  generalize tieL th.length td.length (ddL T th td l) = tie at *
  have w1 := hc.2.2.2.2.1
  have w2 := hc.2.2.2.2.2.1
  rw [← hKl] at hp1
  rw [← hRl] at hp2
  have o1 := mt_once w1 hlu.1 hd.2.2.2.2.1 hKl hp1
  have o2 := mt_once w2 hlu.2 hd.2.2.2.2.2.1 hRl hp2
  have e1 := mt_map w1 hKl hp1
  have e2 := mt_map w2 hRl hp2
  have l1 := mtO_len K th S K.length
  have l2 := mtO_len R td T R.length
  have t1 := tm_use f1 b1 w1 (by omega) (by omega) (thV_of hd.2.2.2.2.1 (by omega) (by omega)) hlu.1 hKl hp1
  have t2 := tm_use f2 b2 w2 (by omega) (by omega) (thV_of hd.2.2.2.2.2.1 (by omega) (by omega)) hlu.2 hRl hp2
  have htb' := htb (mtO K th S K.length) (mtO R td T R.length) (by rw [hKl]) (by rw [hRl]) o1 o2
  generalize mtO K th S K.length = m1 at *
  generalize mtO R td T R.length = m2 at *
  have ua := uses_a hc f1 f2 f3
  rw [decide_eq_true ⟨by have := hlu.1; omega, by have := hlu.2; omega⟩] at ua
  have ub := uses_a hd b1 b2 b3
  have hu := lst_use hl
  rw [decide_eq_true ⟨by omega, by omega⟩] at ub
  have rP := renP_ok f1 f2 f3 hc false false l1 l2 o1 o2
  have htb2 : tabN T (uN T tie (invL m1 S S) (invL m2 T T)) (T * S) = l := htb'
  rw [e1, e2, htb2] at rP
  have sP := dsameP_c S T false th false td T S false l S T b1 th b2 td T S b3 l (by omega) (by omega) (by
    obtain ⟨g1, g2, g3, g4, g5⟩ := hd.2.2.2.2.2.2.1
    have q : T * S ≤ 64 * 64 := Nat.mul_le_mul (by omega) (by omega)
    rw [← Int.natCast_mul] at g5; omega)
  rw [decide_eq_true (show dEq S T th td T S l S T th td T S l from ⟨rfl, rfl, rfl, rfl, rfl, rfl, rfl⟩)] at sP
  have k := mP_ren (check_a hc f1 f2 f3) (check_a hd b1 b2 b3) ua ub t1 t2 rP sP
  rw [if_pos ⟨rfl, rfl⟩] at k
  exact ⟨m1, m2, ⟨l1, o1⟩, ⟨l2, o2⟩, k, rP⟩
end
theorem factorInverse_c (w0 h0 : Int) (b0 : Bool) (l0 : List Bool) (s t : Int) (b1 : Bool) (th : List Int) (b2 : Bool) (td : List Int) (w h : Int) (b3 : Bool) (l : List Bool) :
    Contract Tryz.prog 4 [GA w0 h0 b0 l0, DA s t b1 th b2 td w h b3 l] (B true) := by
  have hgc := great_c w0 h0 b0 l0
  by_cases cg : 4200 < (l0.length : Int)
  · rw [decide_eq_true cg] at hgc
    exact inv_great hgc
  rw [decide_eq_false cg] at hgc
  have hck := gcheckR_c w0 h0 b0 l0
  rcases gcases w0 h0 l0 with hz | ⟨W, H, rfl, rfl, hz, a1, a2, a3, a4, hn0⟩
  · exact inv_check hgc hz hck
  rw [hz] at hck
  by_cases hv : ¬ dGreat th td l ∧ dOk s t th td w h l.length
  rotate_left
  · exact inv_draft hgc hck (valid4_c s t b1 th b2 td w h b3 l false (by simp [hv]))
  have hv1 := valid4_c s t b1 th b2 td w h b3 l true ⟨fun _ => hv, fun _ => rfl⟩
  obtain ⟨hng, hd⟩ := hv
  have d1 := hd.1
  have d2 := hd.2.1
  have d3 := hd.2.2.1
  have d4 := hd.2.2.2.1
  have p1 := hd.2.2.2.2.1.1
  have p2 := hd.2.2.2.2.2.1.1
  obtain ⟨g1, g2, g3, g4, g5⟩ := hd.2.2.2.2.2.2.1
  obtain rfl : w = t := hd.2.2.2.2.2.2.2.1
  obtain rfl : h = s := hd.2.2.2.2.2.2.2.2
  obtain ⟨T, rfl⟩ : ∃ T : Nat, w = T := ⟨w.toNat, by omega⟩
  obtain ⟨S, rfl⟩ : ∃ S : Nat, h = S := ⟨h.toNat, by omega⟩
  have hn : l.length = T * S := by rw [← Int.natCast_mul] at g5; omega
  have q : T * S ≤ 64 * 64 := Nat.mul_le_mul (by omega) (by omega)
  -- the draft's side
  have hWd := weaveV_c b1 b2 b3 hd
  have hG : (ddL T th td l).length = th.length * td.length := tabN_len th.length (uW T th td l) (th.length * td.length)
  rw [show tabN th.length (uW T th td l) (th.length * td.length) = ddL T th td l from rfl] at hWd
  obtain ⟨le1, le2⟩ := dd_le hd
  have hOf2 := ofP_c (W := th.length) (H := td.length) (by omega) (by omega) (by omega) (by omega) false hG (by omega) (by omega)
  have hCt := countP_c a1 a2 a3 a4 b0 hn0
  by_cases hl : lst4 S T th td l
  · have hLd := leastP_ok b1 b2 b3 hd true ⟨fun _ => hl, fun _ => rfl⟩
    have hS := fC_S hd hl
    have hT := fR_T hd hl
    rw [hS, hT] at hOf2
    obtain ⟨m1, m2, _, _, hM, hR⟩ := inv_match hd hl (nI (kC th.length td.length (ddL T th td l))).isEmpty (nI (kR th.length td.length (ddL T th td l))).isEmpty (tieL th.length td.length (ddL T th td l)).isEmpty b1 b2 b3
    have hSk := dsameR_c S T false th false td T S false l S T b1 th b2 td T S b3 l (by omega) (by omega) (by omega)
    rw [decide_eq_true (show dEq S T th td T S l S T th td T S l from ⟨rfl, rfl, rfl, rfl, rfl, rfl, rfl⟩)] at hSk
    unfold tieL at hM hR
    rw [hS, hT] at hM hR
    by_cases hm : 40 < (fC W H l0).length ∨ 40 < (fR W H l0).length
    · exact inv_G0D1 hgc hck hv1 (ofP_many a1 a2 a3 a4 b0 hn0 hm) hCt (by omega) hWd hOf2 hLd (by omega) (by omega) hM hR hSk rfl rfl
    · have hSa := sameR_c W H W H false b0 l0 l0 (by omega)
      rw [decide_eq_true ⟨rfl, rfl, rfl⟩] at hSa
      exact inv_G1D1 hgc hck hv1 (ofP_c a1 a2 a3 a4 b0 hn0 (by omega) (by omega)) (least_wv a1 a2 a3 a4 hn0 (by omega) (by omega) _ _ _) hSa (leastP_ok _ _ _ (least_ok a1 a2 a3 a4 l0 (by omega) (by omega)) true ⟨fun _ => least_lst l0, fun _ => rfl⟩) hCt hWd hOf2 hLd (by omega) (by omega) hM hR hSk rfl rfl
  · have hLd := leastP_ok b1 b2 b3 hd false ⟨(fun h => by cases h), fun h => absurd h hl⟩
    by_cases hm : 40 < (fC W H l0).length ∨ 40 < (fR W H l0).length
    · exact inv_G0D0 hgc hck hv1 (ofP_many a1 a2 a3 a4 b0 hn0 hm) hCt (by omega) hWd hOf2 hLd (by omega) (by omega)
    · have hSa := sameR_c W H W H false b0 l0 l0 (by omega)
      rw [decide_eq_true ⟨rfl, rfl, rfl⟩] at hSa
      exact inv_G1D0 hgc hck hv1 (ofP_c a1 a2 a3 a4 b0 hn0 (by omega) (by omega)) (least_wv a1 a2 a3 a4 hn0 (by omega) (by omega) _ _ _) hSa (leastP_ok _ _ _ (least_ok a1 a2 a3 a4 l0 (by omega) (by omega)) true ⟨fun _ => least_lst l0, fun _ => rfl⟩) hCt hWd hOf2 hLd (by omega) (by omega)
end Go.Proofs.YtbhkhaaifielkaaGreatDoor
