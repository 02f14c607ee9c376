/- The search, by the program. -/
import Derived.Test.YtefhmecaoefpbaaNO8
set_option linter.unusedSimpArgs false
set_option linter.unusedVariables false
set_option maxRecDepth 100000
namespace Go.Proofs.Ytefhmecaoefpbaa
open Go Go.Proofs Go.AW

/-- The queue: a literal, or a row of its own behind the distances. -/
def qw (p : Bool) (q : List Nat) : AVal := if p then .ref 1 0 q.length q.length else .lit q.length (ints (nI q))
def qk (p : Bool) (q : List Nat) : List AObj := if p then [⟨3, 1, ints (nI q)⟩] else []
theorem ren_litE (f : Nat → Option Nat) (n k : Nat) (cs : List AVal) : ren f (n + 1) (.lit k cs) = .lit k (cs.map (ren f n)) := rfl
theorem ren_LLa (f : Nat → Option Nat) (n : Nat) (rs : List (List Int)) : (LLa rs).map (ren f (n + 2)) = LLa rs := by
  simp only [LLa, List.map_map]
  refine List.map_congr_left fun r _ => ?_
  show ren f (n + 2) (LA r.isEmpty r) = LA r.isEmpty r
  simp only [LA, ren_list, map_ren_ints]

set_option maxHeartbeats 4000000 in
theorem reached_c {W n : Nat} (hn : n ≤ 40) (l : List Bool) {a : Nat} (ha : a < n) :
    Contract Try.prog 35 [.list false false n (LLa (abv W n l)), I a] (LR false (srch (adjT W n l) (far0 n a) [a])) := by
  have hlb := LLa_len (abv W n l)
  have hab : (abv W n l).length = n := by simp [abv]
  have hre : ∀ (f : Nat → Option Nat) (k : Nat), (LLa (abv W n l)).map (ren f (k + 2)) = LLa (abv W n l) := fun f k => ren_LLa f k _
  have hat : ∀ c, c < n → ((LLa (abv W n l)).drop c)[0]? = some (LA (nI (adjT W n l c)).isEmpty (nI (adjT W n l c))) := by
    intro c hc
    rw [LLa_at (rs := abv W n l) (by omega), abv_adj hc]
  generalize LLa (abv W n l) = lb at *
  refine Contract.intro (effS [] false) 6 follows Try.func35 rfl rfl (by kernel_rfl) (Nat.le_of_ble_eq_true rfl) ?_
  simp (disch := first | assumption | omega | rfl | simp only [hAt_app, hAt_app0, List.getElem?_cons_zero, List.getElem?_cons_succ]) only [↓RP, RG, FX, decide_eq_true, decide_eq_false, Bool.not_true, Bool.not_false, Option.map_some, List.map_cons, List.map_nil, List.getElem?_cons_zero, List.getElem?_cons_succ, ↓reduceIte, Nat.reduceEqDiff, reduceCtorEq, decide_eq_true_eq, decide_eq_false_iff_not, Option.map_none, Option.bind_some, List.contains_nil, List.contains_cons, Nat.reduceBEq, Bool.or_false, Bool.false_or, Bool.or_self, List.set_cons_zero, List.set_cons_succ, List.take_succ_cons, List.take_zero, List.drop_succ_cons, List.drop_zero, List.length_cons, List.length_nil, List.length_append, Nat.reduceAdd, Nat.reduceLeDiff, List.all_cons, List.all_nil, Bool.and_true, and_true, true_and, and_self, ne_eq, not_false_eq_true, List.cons_append, List.nil_append, List.append_nil, List.append_assoc, Nat.zero_add, Nat.add_zero, Int.toNat_natCast, args0_2]
  refine callK_T rfl (repeat_s _ (by omega) hn) ?_
  have hkr : (List.replicate n (-1 : Int)).length = n := by simp
  have hf0 : (List.replicate n (-1 : Int)).set a 0 = far0 n a := rfl
  obtain ⟨z1, z2⟩ := far0_sound ha
  simp (disch := first | assumption | omega | rfl | simp only [hAt_app, hAt_app0, List.getElem?_cons_zero, List.getElem?_cons_succ]) only [↓RP, RG, FX, decide_eq_true, decide_eq_false, Bool.not_true, Bool.not_false, Option.map_some, List.map_cons, List.map_nil, List.getElem?_cons_zero, List.getElem?_cons_succ, ↓reduceIte, Nat.reduceEqDiff, reduceCtorEq, decide_eq_true_eq, decide_eq_false_iff_not, Option.map_none, Option.bind_some, List.contains_nil, List.contains_cons, Nat.reduceBEq, Bool.or_false, Bool.false_or, Bool.or_self, List.set_cons_zero, List.set_cons_succ, List.take_succ_cons, List.take_zero, List.drop_succ_cons, List.drop_zero, List.length_cons, List.length_nil, List.length_append, Nat.reduceAdd, Nat.reduceLeDiff, List.all_cons, List.all_nil, Bool.and_true, and_true, true_and, and_self, ne_eq, not_false_eq_true, List.cons_append, List.nil_append, List.append_nil, List.append_assoc, Nat.zero_add, Nat.add_zero, Int.toNat_natCast, hf0]
  refine loopK_I [0, 5, 6] (fun s : List Int × List Nat × Bool => Sound n s.1 s.2.1 ∧ s.2.1.length + neg s.1 ≤ n ∧ srch (adjT W n l) s.1 s.2.1 = srch (adjT W n l) (far0 n a) [a])
    (fun s => ⟨[(0, .list false false n lb), (5, .ref 0 0 n n), (6, qw s.2.2 s.2.1)], ⟨3, 1, ints s.1⟩ :: qk s.2.2 s.2.1⟩) (fun s => 2 * neg s.1 + s.2.1.length) (far0 n a, [a], false) ⟨z1, by simp only [List.length_singleton]; omega, rfl⟩ (by simp only [↓RP, RG, FX, decide_eq_true, decide_eq_false, Bool.not_true, Bool.not_false, Option.map_some, List.map_cons, List.map_nil, List.getElem?_cons_zero, List.getElem?_cons_succ, ↓reduceIte, Nat.reduceEqDiff, reduceCtorEq, decide_eq_true_eq, decide_eq_false_iff_not, Option.map_none, Option.bind_some, List.contains_nil, List.contains_cons, Nat.reduceBEq, Bool.or_false, Bool.false_or, Bool.or_self, List.set_cons_zero, List.set_cons_succ, List.take_succ_cons, List.take_zero, List.drop_succ_cons, List.drop_zero, List.length_cons, List.length_nil, List.length_append, Nat.reduceAdd, Nat.reduceLeDiff, List.all_cons, List.all_nil, Bool.and_true, and_true, true_and, and_self, ne_eq, not_false_eq_true, List.cons_append, List.nil_append, List.append_nil, List.append_assoc, Nat.zero_add, Nat.add_zero, Int.toNat_natCast]; rfl) ?_
  rintro ⟨far, q, p⟩ ⟨h1, h2, h3⟩
  simp only at h1 h2 h3 ⊢
  have hfl := h1.len
  have hqn := nI_len q
  cases q with
  | nil =>
    rw [srch_nil] at h3
    have hfp : 0 < far.length := by omega
    have hz : ([] : List Nat).length = 0 := rfl
    rw [← h3]
    cases p
    · simp (disch := first | assumption | omega | rfl | simp only [hAt_app, hAt_app0, List.getElem?_cons_zero, List.getElem?_cons_succ]) only [↓RP, RG, FX, decide_eq_true, decide_eq_false, Bool.not_true, Bool.not_false, Option.map_some, List.map_cons, List.map_nil, List.getElem?_cons_zero, List.getElem?_cons_succ, ↓reduceIte, Nat.reduceEqDiff, reduceCtorEq, decide_eq_true_eq, decide_eq_false_iff_not, Option.map_none, Option.bind_some, List.contains_nil, List.contains_cons, Nat.reduceBEq, Bool.or_false, Bool.false_or, Bool.or_self, List.set_cons_zero, List.set_cons_succ, List.take_succ_cons, List.take_zero, List.drop_succ_cons, List.drop_zero, List.length_cons, List.length_nil, List.length_append, Nat.reduceAdd, Nat.reduceLeDiff, List.all_cons, List.all_nil, Bool.and_true, and_true, true_and, and_self, ne_eq, not_false_eq_true, List.cons_append, List.nil_append, List.append_nil, List.append_assoc, Nat.zero_add, Nat.add_zero, Int.toNat_natCast, qw, qk, hz]
      rw [resVal_1 rfl]; simp (disch := first | assumption | omega | rfl | simp only [hAt_app, hAt_app0, List.getElem?_cons_zero, List.getElem?_cons_succ]) only [↓RP, RG, FX, decide_eq_true, decide_eq_false, Bool.not_true, Bool.not_false, Option.map_some, List.map_cons, List.map_nil, List.getElem?_cons_zero, List.getElem?_cons_succ, ↓reduceIte, Nat.reduceEqDiff, reduceCtorEq, decide_eq_true_eq, decide_eq_false_iff_not, Option.map_none, Option.bind_some, List.contains_nil, List.contains_cons, Nat.reduceBEq, Bool.or_false, Bool.false_or, Bool.or_self, List.set_cons_zero, List.set_cons_succ, List.take_succ_cons, List.take_zero, List.drop_succ_cons, List.drop_zero, List.length_cons, List.length_nil, List.length_append, Nat.reduceAdd, Nat.reduceLeDiff, List.all_cons, List.all_nil, Bool.and_true, and_true, true_and, and_self, ne_eq, not_false_eq_true, List.cons_append, List.nil_append, List.append_nil, List.append_assoc, Nat.zero_add, Nat.add_zero, Int.toNat_natCast, RS]
    · simp (disch := first | assumption | omega | rfl | simp only [hAt_app, hAt_app0, List.getElem?_cons_zero, List.getElem?_cons_succ]) only [↓RP, RG, FX, decide_eq_true, decide_eq_false, Bool.not_true, Bool.not_false, Option.map_some, List.map_cons, List.map_nil, List.getElem?_cons_zero, List.getElem?_cons_succ, ↓reduceIte, Nat.reduceEqDiff, reduceCtorEq, decide_eq_true_eq, decide_eq_false_iff_not, Option.map_none, Option.bind_some, List.contains_nil, List.contains_cons, Nat.reduceBEq, Bool.or_false, Bool.false_or, Bool.or_self, List.set_cons_zero, List.set_cons_succ, List.take_succ_cons, List.take_zero, List.drop_succ_cons, List.drop_zero, List.length_cons, List.length_nil, List.length_append, Nat.reduceAdd, Nat.reduceLeDiff, List.all_cons, List.all_nil, Bool.and_true, and_true, true_and, and_self, ne_eq, not_false_eq_true, List.cons_append, List.nil_append, List.append_nil, List.append_assoc, Nat.zero_add, Nat.add_zero, Int.toNat_natCast, qw, qk, hz]
      rw [resVal_1 rfl]; simp (disch := first | assumption | omega | rfl | simp only [hAt_app, hAt_app0, List.getElem?_cons_zero, List.getElem?_cons_succ]) only [↓RP, RG, FX, decide_eq_true, decide_eq_false, Bool.not_true, Bool.not_false, Option.map_some, List.map_cons, List.map_nil, List.getElem?_cons_zero, List.getElem?_cons_succ, ↓reduceIte, Nat.reduceEqDiff, reduceCtorEq, decide_eq_true_eq, decide_eq_false_iff_not, Option.map_none, Option.bind_some, List.contains_nil, List.contains_cons, Nat.reduceBEq, Bool.or_false, Bool.false_or, Bool.or_self, List.set_cons_zero, List.set_cons_succ, List.take_succ_cons, List.take_zero, List.drop_succ_cons, List.drop_zero, List.length_cons, List.length_nil, List.length_append, Nat.reduceAdd, Nat.reduceLeDiff, List.all_cons, List.all_nil, Bool.and_true, and_true, true_and, and_self, ne_eq, not_false_eq_true, List.cons_append, List.nil_append, List.append_nil, List.append_assoc, Nat.zero_add, Nat.add_zero, Int.toNat_natCast, RS]
  | cons c r =>
    have hst := srch_step (adj := adjT W n l) (fun c hc x hx => adjT_lt hx) h1
    have hc := h1.mem _ List.mem_cons_self
    have hin := inner_ok hc (adjT W n l c) far r (fun x hx => adjT_lt hx) h1.tail
    have hatc := hat c hc
    have hg0 : (nI (c :: r)).getD (Int.toNat 0) 0 = (c : Int) := rfl
    have hpos : 0 < (c :: r).length := by simp
    have hd1 : (nI (c :: r)).drop 1 = nI r := rfl
    have hm1 : (c :: r).length - 1 = r.length := rfl
    have hlen1 : r.length + 1 = (c :: r).length := rfl
    have hql : (ints (nI (c :: r))).length = (c :: r).length := by rw [ints_length, nI_len]
    obtain ⟨A, hA⟩ : ∃ A, adjT W n l c = A := ⟨_, rfl⟩
    have hAn : ∀ x ∈ A, x < n := by rw [← hA]; exact fun x hx => adjT_lt hx
    rw [hA] at hst hin hatc
    have hAl := nI_len A
    have hAs : A.length ≤ n := by rw [← hA]; simp only [adjT]; exact Nat.le_trans (List.length_filter_le _ _) (by simp)
    generalize hqq : c :: r = qq at *
    have hcut := @aCut_ref Try.prog 25 _ _ _ _ [⟨3, 1, ints far⟩, ⟨3, 1, ints (nI qq)⟩] 1 qq.length 3 (nI qq) rfl (by decide) hqn hpos
    have hcul : ∀ h : List AObj, aCut Try.prog 25 h (.lit qq.length (ints (nI qq))) (some (I 1)) (some (I qq.length)) (some (I qq.length)) = some (.lit (qq.length - 1) (ints ((nI qq).drop 1)), h) := fun h => aCut_lit hqn hpos
    rw [hm1, hd1] at hcut
    rw [hm1, hd1] at hcul
    have h1t : Sound n far r := by rw [← hqq] at h1; exact h1.tail
    have e3 : srch (adjT W n l) (inner c A (far, r)).1 (inner c A (far, r)).2 = srch (adjT W n l) (far0 n a) [a] := by rw [← hst]; exact h3
    cases p
    · simp (disch := first | assumption | omega | rfl | simp only [hAt_app, hAt_app0, List.getElem?_cons_zero, List.getElem?_cons_succ]) only [↓RP, RG, FX, decide_eq_true, decide_eq_false, Bool.not_true, Bool.not_false, Option.map_some, List.map_cons, List.map_nil, List.getElem?_cons_zero, List.getElem?_cons_succ, ↓reduceIte, Nat.reduceEqDiff, reduceCtorEq, decide_eq_true_eq, decide_eq_false_iff_not, Option.map_none, Option.bind_some, List.contains_nil, List.contains_cons, Nat.reduceBEq, Bool.or_false, Bool.false_or, Bool.or_self, List.set_cons_zero, List.set_cons_succ, List.take_succ_cons, List.take_zero, List.drop_succ_cons, List.drop_zero, List.length_cons, List.length_nil, List.length_append, Nat.reduceAdd, Nat.reduceLeDiff, List.all_cons, List.all_nil, Bool.and_true, and_true, true_and, and_self, ne_eq, not_false_eq_true, List.cons_append, List.nil_append, List.append_nil, List.append_assoc, Nat.zero_add, Nat.add_zero, Int.toNat_natCast, qw, qk, hql, hg0, cutB_some, hcul, hatc]
      refine loopK_W [0, 5, 6, 7, 34, 35, 36] (fun s : Nat × List Int × List Nat × Bool => s.1 ≤ A.length ∧ Sound n s.2.1 s.2.2.1 ∧ s.2.2.1.length + neg s.2.1 ≤ n ∧ inner c (A.drop s.1) (s.2.1, s.2.2.1) = inner c A (far, r))
        (fun s => ⟨[(0, .list false false n lb), (5, .ref 0 0 n n), (6, qw s.2.2.2 s.2.2.1), (7, I c), (34, LA (nI A).isEmpty (nI A)), (35, I (nI A).length), (36, I s.1)], ⟨3, 1, ints s.2.1⟩ :: qk s.2.2.2 s.2.2.1⟩) (fun s => A.length - s.1) (0, far, r, false) ⟨by simp only; omega, h1t, by simp only; omega, rfl⟩ (Wk.of_eq (by simp only [↓RP, RG, FX, decide_eq_true, decide_eq_false, Bool.not_true, Bool.not_false, Option.map_some, List.map_cons, List.map_nil, List.getElem?_cons_zero, List.getElem?_cons_succ, ↓reduceIte, Nat.reduceEqDiff, reduceCtorEq, decide_eq_true_eq, decide_eq_false_iff_not, Option.map_none, Option.bind_some, List.contains_nil, List.contains_cons, Nat.reduceBEq, Bool.or_false, Bool.false_or, Bool.or_self, List.set_cons_zero, List.set_cons_succ, List.take_succ_cons, List.take_zero, List.drop_succ_cons, List.drop_zero, List.length_cons, List.length_nil, List.length_append, Nat.reduceAdd, Nat.reduceLeDiff, List.all_cons, List.all_nil, Bool.and_true, and_true, true_and, and_self, ne_eq, not_false_eq_true, List.cons_append, List.nil_append, List.append_nil, List.append_assoc, Nat.zero_add, Nat.add_zero, Int.toNat_natCast]; rfl)) ?_
      rintro ⟨j, far', q', p'⟩ ⟨j1, j2, j3, j4⟩
      simp only at j1 j2 j3 j4 ⊢
      have hfl' := j2.len
      have hqn' := nI_len q'
      have hql' : (ints (nI q')).length = q'.length := by rw [ints_length, nI_len]
      by_cases hlt3 : j < A.length
      · obtain ⟨y, hy⟩ : ∃ y, A.getD j 0 = y := ⟨_, rfl⟩
        have hyA : y ∈ A := by rw [← hy, List.getD_eq_getElem?_getD, List.getElem?_eq_getElem hlt3]; exact List.getElem_mem _
        have hyn := hAn y hyA
        have hgi := nI_get A j
        rw [hy] at hgi
        have hAd : A.drop j = y :: A.drop (j + 1) := by
          rw [List.drop_eq_getElem_cons hlt3, ← hy, List.getD_eq_getElem?_getD, List.getElem?_eq_getElem hlt3]; rfl
        have lj := j2.low y hyn
        have lc := j2.low c hc
        have uc := j2.high c hc
        rw [hAd, inner] at j4
        by_cases hneg : far'.getD y 0 < 0
        · rw [if_pos hneg] at j4
          obtain ⟨x1, x2⟩ := j2.push hyn hc hneg
          have hap : ints (nI q') ++ ints [(y : Int)] = ints (nI (q' ++ [y])) := by rw [nI_app, ints_append]
          have qb : q'.length ≤ 1000 := by omega
          cases p'
          · have hapl : ∀ h : List AObj, aAppend Try.prog 25 h (.lit q'.length (ints (nI q'))) (.lit 1 [.val (.int .i64 (y : Int))]) = some (.ref h.length 0 (q'.length + 1) (q'.length + 1), h ++ [⟨3, 1, ints (nI q' ++ [(y : Int)])⟩]) := fun h => append_litG hqn' (by omega)
            simp (disch := first | assumption | omega | rfl | simp only [hAt_app, hAt_app0, List.getElem?_cons_zero, List.getElem?_cons_succ]) only [↓RP, RG, FX, decide_eq_true, decide_eq_false, Bool.not_true, Bool.not_false, Option.map_some, List.map_cons, List.map_nil, List.getElem?_cons_zero, List.getElem?_cons_succ, ↓reduceIte, Nat.reduceEqDiff, reduceCtorEq, decide_eq_true_eq, decide_eq_false_iff_not, Option.map_none, Option.bind_some, List.contains_nil, List.contains_cons, Nat.reduceBEq, Bool.or_false, Bool.false_or, Bool.or_self, List.set_cons_zero, List.set_cons_succ, List.take_succ_cons, List.take_zero, List.drop_succ_cons, List.drop_zero, List.length_cons, List.length_nil, List.length_append, Nat.reduceAdd, Nat.reduceLeDiff, List.all_cons, List.all_nil, Bool.and_true, and_true, true_and, and_self, ne_eq, not_false_eq_true, List.cons_append, List.nil_append, List.append_nil, List.append_assoc, Nat.zero_add, Nat.add_zero, Int.toNat_natCast, qw, qk, hql', hgi, hapl]
            exact ⟨(j + 1, far'.set y (far'.getD c 0 + 1), q' ++ [y], true), ⟨by simp only; omega, x1, by simp only [List.length_append, List.length_singleton]; omega, j4⟩, by simp only [qw, qk, nI_app, List.length_append, List.length_singleton]; rfl, by simp only; omega⟩
          · simp (disch := first | assumption | omega | rfl | simp only [hAt_app, hAt_app0, List.getElem?_cons_zero, List.getElem?_cons_succ]) only [↓RP, RG, FX, decide_eq_true, decide_eq_false, Bool.not_true, Bool.not_false, Option.map_some, List.map_cons, List.map_nil, List.getElem?_cons_zero, List.getElem?_cons_succ, ↓reduceIte, Nat.reduceEqDiff, reduceCtorEq, decide_eq_true_eq, decide_eq_false_iff_not, Option.map_none, Option.bind_some, List.contains_nil, List.contains_cons, Nat.reduceBEq, Bool.or_false, Bool.false_or, Bool.or_self, List.set_cons_zero, List.set_cons_succ, List.take_succ_cons, List.take_zero, List.drop_succ_cons, List.drop_zero, List.length_cons, List.length_nil, List.length_append, Nat.reduceAdd, Nat.reduceLeDiff, List.all_cons, List.all_nil, Bool.and_true, and_true, true_and, and_self, ne_eq, not_false_eq_true, List.cons_append, List.nil_append, List.append_nil, List.append_assoc, Nat.zero_add, Nat.add_zero, Int.toNat_natCast, qw, qk, hql', hgi, append_ref1, apRI_ints]
            exact ⟨(j + 1, far'.set y (far'.getD c 0 + 1), q' ++ [y], true), ⟨by simp only; omega, x1, by simp only [List.length_append, List.length_singleton]; omega, j4⟩, by simp only [qw, qk, nI_app, List.length_append, List.length_singleton]; rfl, by simp only; omega⟩
        · rw [if_neg hneg] at j4
          cases p'
          · simp (disch := first | assumption | omega | rfl | simp only [hAt_app, hAt_app0, List.getElem?_cons_zero, List.getElem?_cons_succ]) only [↓RP, RG, FX, decide_eq_true, decide_eq_false, Bool.not_true, Bool.not_false, Option.map_some, List.map_cons, List.map_nil, List.getElem?_cons_zero, List.getElem?_cons_succ, ↓reduceIte, Nat.reduceEqDiff, reduceCtorEq, decide_eq_true_eq, decide_eq_false_iff_not, Option.map_none, Option.bind_some, List.contains_nil, List.contains_cons, Nat.reduceBEq, Bool.or_false, Bool.false_or, Bool.or_self, List.set_cons_zero, List.set_cons_succ, List.take_succ_cons, List.take_zero, List.drop_succ_cons, List.drop_zero, List.length_cons, List.length_nil, List.length_append, Nat.reduceAdd, Nat.reduceLeDiff, List.all_cons, List.all_nil, Bool.and_true, and_true, true_and, and_self, ne_eq, not_false_eq_true, List.cons_append, List.nil_append, List.append_nil, List.append_assoc, Nat.zero_add, Nat.add_zero, Int.toNat_natCast, qw, qk, hql', hgi]
            exact ⟨(j + 1, far', q', false), ⟨by simp only; omega, j2, j3, j4⟩, rfl, by simp only; omega⟩
          · simp (disch := first | assumption | omega | rfl | simp only [hAt_app, hAt_app0, List.getElem?_cons_zero, List.getElem?_cons_succ]) only [↓RP, RG, FX, decide_eq_true, decide_eq_false, Bool.not_true, Bool.not_false, Option.map_some, List.map_cons, List.map_nil, List.getElem?_cons_zero, List.getElem?_cons_succ, ↓reduceIte, Nat.reduceEqDiff, reduceCtorEq, decide_eq_true_eq, decide_eq_false_iff_not, Option.map_none, Option.bind_some, List.contains_nil, List.contains_cons, Nat.reduceBEq, Bool.or_false, Bool.false_or, Bool.or_self, List.set_cons_zero, List.set_cons_succ, List.take_succ_cons, List.take_zero, List.drop_succ_cons, List.drop_zero, List.length_cons, List.length_nil, List.length_append, Nat.reduceAdd, Nat.reduceLeDiff, List.all_cons, List.all_nil, Bool.and_true, and_true, true_and, and_self, ne_eq, not_false_eq_true, List.cons_append, List.nil_append, List.append_nil, List.append_assoc, Nat.zero_add, Nat.add_zero, Int.toNat_natCast, qw, qk, hql', hgi]
            exact ⟨(j + 1, far', q', true), ⟨by simp only; omega, j2, j3, j4⟩, rfl, by simp only; omega⟩
      · obtain rfl : j = A.length := by omega
        rw [List.drop_length, inner] at j4
        have y1 := congrArg Prod.fst j4
        have y2 := congrArg Prod.snd j4
        simp only at y1 y2
        rw [← y1, ← y2] at e3
        have hm := hin.2
        rw [← y1, ← y2] at hm
        cases p'
        · simp (disch := first | assumption | omega | rfl | simp only [hAt_app, hAt_app0, List.getElem?_cons_zero, List.getElem?_cons_succ]) only [↓RP, RG, FX, decide_eq_true, decide_eq_false, Bool.not_true, Bool.not_false, Option.map_some, List.map_cons, List.map_nil, List.getElem?_cons_zero, List.getElem?_cons_succ, ↓reduceIte, Nat.reduceEqDiff, reduceCtorEq, decide_eq_true_eq, decide_eq_false_iff_not, Option.map_none, Option.bind_some, List.contains_nil, List.contains_cons, Nat.reduceBEq, Bool.or_false, Bool.false_or, Bool.or_self, List.set_cons_zero, List.set_cons_succ, List.take_succ_cons, List.take_zero, List.drop_succ_cons, List.drop_zero, List.length_cons, List.length_nil, List.length_append, Nat.reduceAdd, Nat.reduceLeDiff, List.all_cons, List.all_nil, Bool.and_true, and_true, true_and, and_self, ne_eq, not_false_eq_true, List.cons_append, List.nil_append, List.append_nil, List.append_assoc, Nat.zero_add, Nat.add_zero, Int.toNat_natCast, qw, qk, hql']
          exact ⟨(far', q', false), ⟨j2, j3, e3⟩, rfl, by simp only; omega⟩
        · simp (disch := first | assumption | omega | rfl | simp only [hAt_app, hAt_app0, List.getElem?_cons_zero, List.getElem?_cons_succ]) only [↓RP, RG, FX, decide_eq_true, decide_eq_false, Bool.not_true, Bool.not_false, Option.map_some, List.map_cons, List.map_nil, List.getElem?_cons_zero, List.getElem?_cons_succ, ↓reduceIte, Nat.reduceEqDiff, reduceCtorEq, decide_eq_true_eq, decide_eq_false_iff_not, Option.map_none, Option.bind_some, List.contains_nil, List.contains_cons, Nat.reduceBEq, Bool.or_false, Bool.false_or, Bool.or_self, List.set_cons_zero, List.set_cons_succ, List.take_succ_cons, List.take_zero, List.drop_succ_cons, List.drop_zero, List.length_cons, List.length_nil, List.length_append, Nat.reduceAdd, Nat.reduceLeDiff, List.all_cons, List.all_nil, Bool.and_true, and_true, true_and, and_self, ne_eq, not_false_eq_true, List.cons_append, List.nil_append, List.append_nil, List.append_assoc, Nat.zero_add, Nat.add_zero, Int.toNat_natCast, qw, qk, hql']
          exact ⟨(far', q', true), ⟨j2, j3, e3⟩, rfl, by simp only; omega⟩
    · simp (disch := first | assumption | omega | rfl | simp only [hAt_app, hAt_app0, List.getElem?_cons_zero, List.getElem?_cons_succ]) only [↓RP, RG, FX, decide_eq_true, decide_eq_false, Bool.not_true, Bool.not_false, Option.map_some, List.map_cons, List.map_nil, List.getElem?_cons_zero, List.getElem?_cons_succ, ↓reduceIte, Nat.reduceEqDiff, reduceCtorEq, decide_eq_true_eq, decide_eq_false_iff_not, Option.map_none, Option.bind_some, List.contains_nil, List.contains_cons, Nat.reduceBEq, Bool.or_false, Bool.false_or, Bool.or_self, List.set_cons_zero, List.set_cons_succ, List.take_succ_cons, List.take_zero, List.drop_succ_cons, List.drop_zero, List.length_cons, List.length_nil, List.length_append, Nat.reduceAdd, Nat.reduceLeDiff, List.all_cons, List.all_nil, Bool.and_true, and_true, true_and, and_self, ne_eq, not_false_eq_true, List.cons_append, List.nil_append, List.append_nil, List.append_assoc, Nat.zero_add, Nat.add_zero, Int.toNat_natCast, qw, qk, hql, hg0, cutB_some, hcut, hatc]
      refine loopK_W [0, 5, 6, 7, 34, 35, 36] (fun s : Nat × List Int × List Nat × Bool => s.1 ≤ A.length ∧ Sound n s.2.1 s.2.2.1 ∧ s.2.2.1.length + neg s.2.1 ≤ n ∧ inner c (A.drop s.1) (s.2.1, s.2.2.1) = inner c A (far, r))
        (fun s => ⟨[(0, .list false false n lb), (5, .ref 0 0 n n), (6, qw s.2.2.2 s.2.2.1), (7, I c), (34, LA (nI A).isEmpty (nI A)), (35, I (nI A).length), (36, I s.1)], ⟨3, 1, ints s.2.1⟩ :: qk s.2.2.2 s.2.2.1⟩) (fun s => A.length - s.1) (0, far, r, false) ⟨by simp only; omega, h1t, by simp only; omega, rfl⟩ (by
          refine (Wk.of_eq (by simp only [↓RP, RG, FX, decide_eq_true, decide_eq_false, Bool.not_true, Bool.not_false, Option.map_some, List.map_cons, List.map_nil, List.getElem?_cons_zero, List.getElem?_cons_succ, ↓reduceIte, Nat.reduceEqDiff, reduceCtorEq, decide_eq_true_eq, decide_eq_false_iff_not, Option.map_none, Option.bind_some, List.contains_nil, List.contains_cons, Nat.reduceBEq, Bool.or_false, Bool.false_or, Bool.or_self, List.set_cons_zero, List.set_cons_succ, List.take_succ_cons, List.take_zero, List.drop_succ_cons, List.drop_zero, List.length_cons, List.length_nil, List.length_append, Nat.reduceAdd, Nat.reduceLeDiff, List.all_cons, List.all_nil, Bool.and_true, and_true, true_and, and_self, ne_eq, not_false_eq_true, List.cons_append, List.nil_append, List.append_nil, List.append_assoc, Nat.zero_add, Nat.add_zero, Int.toNat_natCast]; rfl)).trans ((Wk.drop (hb := []) (h1 := []) (gs := [_, _]) (env := _) 8 [0] rfl (by simp) (by simp) (by simp)).trans (Wk.of_eq (by simp only [RK, List.idxOf?_cons, List.idxOf?_nil, Nat.reduceBEq, Option.map_some, Option.map_none, List.map_cons, List.map_nil, List.getD_cons_zero, List.getD_cons_succ, Bool.false_eq_true, ↓reduceIte, Nat.add_zero, List.append_nil, hre, ren_litE]; rfl)))) ?_
      rintro ⟨j, far', q', p'⟩ ⟨j1, j2, j3, j4⟩
      simp only at j1 j2 j3 j4 ⊢
      have hfl' := j2.len
      have hqn' := nI_len q'
      have hql' : (ints (nI q')).length = q'.length := by rw [ints_length, nI_len]
      by_cases hlt3 : j < A.length
      · obtain ⟨y, hy⟩ : ∃ y, A.getD j 0 = y := ⟨_, rfl⟩
        have hyA : y ∈ A := by rw [← hy, List.getD_eq_getElem?_getD, List.getElem?_eq_getElem hlt3]; exact List.getElem_mem _
        have hyn := hAn y hyA
        have hgi := nI_get A j
        rw [hy] at hgi
        have hAd : A.drop j = y :: A.drop (j + 1) := by
          rw [List.drop_eq_getElem_cons hlt3, ← hy, List.getD_eq_getElem?_getD, List.getElem?_eq_getElem hlt3]; rfl
        have lj := j2.low y hyn
        have lc := j2.low c hc
        have uc := j2.high c hc
        rw [hAd, inner] at j4
        by_cases hneg : far'.getD y 0 < 0
        · rw [if_pos hneg] at j4
          obtain ⟨x1, x2⟩ := j2.push hyn hc hneg
          have hap : ints (nI q') ++ ints [(y : Int)] = ints (nI (q' ++ [y])) := by rw [nI_app, ints_append]
          have qb : q'.length ≤ 1000 := by omega
          cases p'
          · have hapl : ∀ h : List AObj, aAppend Try.prog 25 h (.lit q'.length (ints (nI q'))) (.lit 1 [.val (.int .i64 (y : Int))]) = some (.ref h.length 0 (q'.length + 1) (q'.length + 1), h ++ [⟨3, 1, ints (nI q' ++ [(y : Int)])⟩]) := fun h => append_litG hqn' (by omega)
            simp (disch := first | assumption | omega | rfl | simp only [hAt_app, hAt_app0, List.getElem?_cons_zero, List.getElem?_cons_succ]) only [↓RP, RG, FX, decide_eq_true, decide_eq_false, Bool.not_true, Bool.not_false, Option.map_some, List.map_cons, List.map_nil, List.getElem?_cons_zero, List.getElem?_cons_succ, ↓reduceIte, Nat.reduceEqDiff, reduceCtorEq, decide_eq_true_eq, decide_eq_false_iff_not, Option.map_none, Option.bind_some, List.contains_nil, List.contains_cons, Nat.reduceBEq, Bool.or_false, Bool.false_or, Bool.or_self, List.set_cons_zero, List.set_cons_succ, List.take_succ_cons, List.take_zero, List.drop_succ_cons, List.drop_zero, List.length_cons, List.length_nil, List.length_append, Nat.reduceAdd, Nat.reduceLeDiff, List.all_cons, List.all_nil, Bool.and_true, and_true, true_and, and_self, ne_eq, not_false_eq_true, List.cons_append, List.nil_append, List.append_nil, List.append_assoc, Nat.zero_add, Nat.add_zero, Int.toNat_natCast, qw, qk, hql', hgi, hapl]
            exact ⟨(j + 1, far'.set y (far'.getD c 0 + 1), q' ++ [y], true), ⟨by simp only; omega, x1, by simp only [List.length_append, List.length_singleton]; omega, j4⟩, by simp only [qw, qk, nI_app, List.length_append, List.length_singleton]; rfl, by simp only; omega⟩
          · simp (disch := first | assumption | omega | rfl | simp only [hAt_app, hAt_app0, List.getElem?_cons_zero, List.getElem?_cons_succ]) only [↓RP, RG, FX, decide_eq_true, decide_eq_false, Bool.not_true, Bool.not_false, Option.map_some, List.map_cons, List.map_nil, List.getElem?_cons_zero, List.getElem?_cons_succ, ↓reduceIte, Nat.reduceEqDiff, reduceCtorEq, decide_eq_true_eq, decide_eq_false_iff_not, Option.map_none, Option.bind_some, List.contains_nil, List.contains_cons, Nat.reduceBEq, Bool.or_false, Bool.false_or, Bool.or_self, List.set_cons_zero, List.set_cons_succ, List.take_succ_cons, List.take_zero, List.drop_succ_cons, List.drop_zero, List.length_cons, List.length_nil, List.length_append, Nat.reduceAdd, Nat.reduceLeDiff, List.all_cons, List.all_nil, Bool.and_true, and_true, true_and, and_self, ne_eq, not_false_eq_true, List.cons_append, List.nil_append, List.append_nil, List.append_assoc, Nat.zero_add, Nat.add_zero, Int.toNat_natCast, qw, qk, hql', hgi, append_ref1, apRI_ints]
            exact ⟨(j + 1, far'.set y (far'.getD c 0 + 1), q' ++ [y], true), ⟨by simp only; omega, x1, by simp only [List.length_append, List.length_singleton]; omega, j4⟩, by simp only [qw, qk, nI_app, List.length_append, List.length_singleton]; rfl, by simp only; omega⟩
        · rw [if_neg hneg] at j4
          cases p'
          · simp (disch := first | assumption | omega | rfl | simp only [hAt_app, hAt_app0, List.getElem?_cons_zero, List.getElem?_cons_succ]) only [↓RP, RG, FX, decide_eq_true, decide_eq_false, Bool.not_true, Bool.not_false, Option.map_some, List.map_cons, List.map_nil, List.getElem?_cons_zero, List.getElem?_cons_succ, ↓reduceIte, Nat.reduceEqDiff, reduceCtorEq, decide_eq_true_eq, decide_eq_false_iff_not, Option.map_none, Option.bind_some, List.contains_nil, List.contains_cons, Nat.reduceBEq, Bool.or_false, Bool.false_or, Bool.or_self, List.set_cons_zero, List.set_cons_succ, List.take_succ_cons, List.take_zero, List.drop_succ_cons, List.drop_zero, List.length_cons, List.length_nil, List.length_append, Nat.reduceAdd, Nat.reduceLeDiff, List.all_cons, List.all_nil, Bool.and_true, and_true, true_and, and_self, ne_eq, not_false_eq_true, List.cons_append, List.nil_append, List.append_nil, List.append_assoc, Nat.zero_add, Nat.add_zero, Int.toNat_natCast, qw, qk, hql', hgi]
            exact ⟨(j + 1, far', q', false), ⟨by simp only; omega, j2, j3, j4⟩, rfl, by simp only; omega⟩
          · simp (disch := first | assumption | omega | rfl | simp only [hAt_app, hAt_app0, List.getElem?_cons_zero, List.getElem?_cons_succ]) only [↓RP, RG, FX, decide_eq_true, decide_eq_false, Bool.not_true, Bool.not_false, Option.map_some, List.map_cons, List.map_nil, List.getElem?_cons_zero, List.getElem?_cons_succ, ↓reduceIte, Nat.reduceEqDiff, reduceCtorEq, decide_eq_true_eq, decide_eq_false_iff_not, Option.map_none, Option.bind_some, List.contains_nil, List.contains_cons, Nat.reduceBEq, Bool.or_false, Bool.false_or, Bool.or_self, List.set_cons_zero, List.set_cons_succ, List.take_succ_cons, List.take_zero, List.drop_succ_cons, List.drop_zero, List.length_cons, List.length_nil, List.length_append, Nat.reduceAdd, Nat.reduceLeDiff, List.all_cons, List.all_nil, Bool.and_true, and_true, true_and, and_self, ne_eq, not_false_eq_true, List.cons_append, List.nil_append, List.append_nil, List.append_assoc, Nat.zero_add, Nat.add_zero, Int.toNat_natCast, qw, qk, hql', hgi]
            exact ⟨(j + 1, far', q', true), ⟨by simp only; omega, j2, j3, j4⟩, rfl, by simp only; omega⟩
      · obtain rfl : j = A.length := by omega
        rw [List.drop_length, inner] at j4
        have y1 := congrArg Prod.fst j4
        have y2 := congrArg Prod.snd j4
        simp only at y1 y2
        rw [← y1, ← y2] at e3
        have hm := hin.2
        rw [← y1, ← y2] at hm
        cases p'
        · simp (disch := first | assumption | omega | rfl | simp only [hAt_app, hAt_app0, List.getElem?_cons_zero, List.getElem?_cons_succ]) only [↓RP, RG, FX, decide_eq_true, decide_eq_false, Bool.not_true, Bool.not_false, Option.map_some, List.map_cons, List.map_nil, List.getElem?_cons_zero, List.getElem?_cons_succ, ↓reduceIte, Nat.reduceEqDiff, reduceCtorEq, decide_eq_true_eq, decide_eq_false_iff_not, Option.map_none, Option.bind_some, List.contains_nil, List.contains_cons, Nat.reduceBEq, Bool.or_false, Bool.false_or, Bool.or_self, List.set_cons_zero, List.set_cons_succ, List.take_succ_cons, List.take_zero, List.drop_succ_cons, List.drop_zero, List.length_cons, List.length_nil, List.length_append, Nat.reduceAdd, Nat.reduceLeDiff, List.all_cons, List.all_nil, Bool.and_true, and_true, true_and, and_self, ne_eq, not_false_eq_true, List.cons_append, List.nil_append, List.append_nil, List.append_assoc, Nat.zero_add, Nat.add_zero, Int.toNat_natCast, qw, qk, hql']
          exact ⟨(far', q', false), ⟨j2, j3, e3⟩, rfl, by simp only; omega⟩
        · simp (disch := first | assumption | omega | rfl | simp only [hAt_app, hAt_app0, List.getElem?_cons_zero, List.getElem?_cons_succ]) only [↓RP, RG, FX, decide_eq_true, decide_eq_false, Bool.not_true, Bool.not_false, Option.map_some, List.map_cons, List.map_nil, List.getElem?_cons_zero, List.getElem?_cons_succ, ↓reduceIte, Nat.reduceEqDiff, reduceCtorEq, decide_eq_true_eq, decide_eq_false_iff_not, Option.map_none, Option.bind_some, List.contains_nil, List.contains_cons, Nat.reduceBEq, Bool.or_false, Bool.false_or, Bool.or_self, List.set_cons_zero, List.set_cons_succ, List.take_succ_cons, List.take_zero, List.drop_succ_cons, List.drop_zero, List.length_cons, List.length_nil, List.length_append, Nat.reduceAdd, Nat.reduceLeDiff, List.all_cons, List.all_nil, Bool.and_true, and_true, true_and, and_self, ne_eq, not_false_eq_true, List.cons_append, List.nil_append, List.append_nil, List.append_assoc, Nat.zero_add, Nat.add_zero, Int.toNat_natCast, qw, qk, hql']
          exact ⟨(far', q', true), ⟨j2, j3, e3⟩, rfl, by simp only; omega⟩
end Go.Proofs.Ytefhmecaoefpbaa
