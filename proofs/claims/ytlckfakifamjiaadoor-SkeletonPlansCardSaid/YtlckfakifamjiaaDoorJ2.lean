/- Part 2 of the proof's own texts: the contracts of functions, and what they rest on. -/
import Derived.Test.YtlckfakifamjiaaDoorJ1
/- What a tie-up covers, by the reference: an array of bools. -/
set_option linter.unusedSimpArgs false
set_option linter.unusedVariables false
set_option maxRecDepth 100000
namespace Go.Proofs.YtlckfakifamjiaaDoor
open Go Go.Proofs Go.AW

theorem arT : ∃ T E, tyI Tryd.prog 138 = some T ∧ T.elem = none ∧ T.arr = some (16, 4) ∧ tyI Tryd.prog 4 = some E ∧ E.size = 1 := by
  have h : (tyI Tryd.prog 138).any (fun T => T.elem.isNone && (T.arr == some (16, 4)) && (tyI Tryd.prog 4).any fun E => E.size == 1) = true := by kernel_rfl
  revert h
  cases tyI Tryd.prog 138 with
  | none => intro h; cases h
  | some T =>
    cases tyI Tryd.prog 4 with
    | none => intro h; simp at h
    | some E =>
      intro h
      simp only [Option.any_some, Bool.and_eq_true, beq_iff_eq, Option.isNone_iff_eq_none] at h
      exact ⟨T, E, rfl, h.1.1, h.1.2, rfl, h.2⟩
theorem arAt {h : List AObj} {id off ext : Nat} {k : IntKind} {n : Int} (h0 : 0 ≤ n) (h1 : n < 16) : aIdx Tryd.prog 138 h (.ptr id off ext) (.val (.int k n)) = (cA h[id]? ext).map fun _ => .ptr id (off + n.toNat) ext := by
  obtain ⟨T, E, e1, e2, e3, e4, e5⟩ := arT
  simp only [aIdx, e1, e2, e3, e4, e5, Nat.mul_one, cellsAt_eq]
  cases hc : cA h[id]? ext with
  | none => simp
  | some cs => rw [if_pos ⟨h0, by omega, rfl⟩]; rfl
theorem parts_bools (l : List Bool) : AVal.parts (.agg (bools l)) = some (bools l) := rfl
theorem cA16 {l : List Bool} {t n : Nat} (hl : l.length = 16) : cA (some ⟨t, n, bools l⟩) 16 = some (bools l) := by
  simp [cA, bools_length, hl]
theorem take16 {l : List Bool} (hl : l.length = 16) : (bools l).take 16 = bools l := List.take_of_length_le (by rw [bools_length]; omega)
theorem splice16 {l m : List Bool} (hl : l.length = 16) (hm : m.length = 16) : splice (bools l) 0 (bools m) = bools m := by
  unfold splice
  split
  · rename_i v hv
    have := congrArg List.length hv
    rw [bools_length, hm] at this; simp at this
  · rw [List.take_zero, List.nil_append, Nat.zero_add, List.drop_eq_nil_of_le (by rw [bools_length, bools_length]; omega), List.append_nil]
theorem sX16 {g : Bool} {h : List AObj} {id es ty : Nat} {l m : List Bool} (hty : ty ≠ 1000003) (hl : l.length = 16) (hm : m.length = 16) : sX (some (g, 16)) h id 0 16 (some ⟨ty, es, bools l⟩) (some (bools m)) = some (h.set id ⟨ty, es, bools m⟩) := by
  rw [sX_mk hty, if_pos ⟨by rw [bools_length]; exact hl, by rw [bools_length]; exact hm, by rw [bools_length]; omega, by simp [bools, AVal.one, Value.oneCell']⟩, splice16 hl hm]
/-- The array after n rounds. -/
def Rt (tie : List Nat) (n : Nat) (l : List Bool) : Prop := l.length = 16 ∧ ∀ y, y < 16 → (l.getD y false = true ↔ Rk tie n y)
theorem rt_unique {tie : List Nat} {n : Nat} {l m : List Bool} (hl : Rt tie n l) (hm : Rt tie n m) : l = m := by
  apply List.ext_getElem (by rw [hl.1, hm.1])
  intro i h1 h2
  have h3 := hl.2 i (by rw [← hl.1]; exact h1)
  have h4 := hm.2 i (by rw [← hl.1]; exact h1)
  rw [List.getD_eq_getElem?_getD, List.getElem?_eq_getElem h1] at h3
  rw [List.getD_eq_getElem?_getD, List.getElem?_eq_getElem h2] at h4
  exact Bool.eq_iff_iff.2 (h3.trans h4.symm)
theorem set_getD {l : List Bool} {i j : Nat} (hi : i < l.length) : (l.set i true).getD j false = (decide (i = j) || l.getD j false) := by
  rw [List.getD_eq_getElem?_getD, List.getElem?_set, List.getD_eq_getElem?_getD]
  by_cases h : i = j
  · subst h; simp [hi]
  · simp [h]
theorem reached_c (b : Bool) {tie : List Nat} (hn : tie.length ≤ 1000) (ht : ∀ i, i < tie.length → tie.getD i 0 < 16) {feet : Nat} (hf : feet ≤ 4) {l : List Bool} (hl : Rt tie feet l) :
    Contract Tryd.prog 100 [LA b (nI tie), I feet] (.agg (bools l)) := by
  have lt := nI_len tie
  have hmem : ∀ t, t ∈ tie ↔ ∃ j, j < tie.length ∧ tie.getD j 0 = t := fun t => by
    rw [List.mem_iff_getElem]
    constructor
    · rintro ⟨i, hi, h⟩; exact ⟨i, hi, by rw [List.getD_eq_getElem?_getD, List.getElem?_eq_getElem hi]; exact h⟩
    · rintro ⟨i, hi, h⟩; exact ⟨i, hi, by rw [List.getD_eq_getElem?_getD, List.getElem?_eq_getElem hi] at h; exact h⟩
  have hR0 : (List.replicate 16 false).length = 16 := List.length_replicate
  generalize hZ : List.replicate 16 false = Z at *
  have hz0 : ∀ y, Z.getD y false = false := fun y => by rw [← hZ, List.getD_eq_getElem?_getD, List.getElem?_replicate]; split <;> rfl
  have hl0 := hl.1
  refine Contract.intro (effS [] false) 6 follows Tryd.func100 rfl rfl (by kernel_rfl) (Nat.le_of_ble_eq_true rfl) ?_
  simp (disch := first | assumption | omega | rfl | simp only [RH]) only [↓RP, RG, FX, RQ, ↓reduceIte, Nat.reduceEqDiff, reduceCtorEq, Nat.reduceBEq, Nat.reduceAdd, Nat.reduceLeDiff, args0_2, hZ, arAt, cA16]
  refine loopK_WW [0, 1, 4, 5, 6] (fun s : Nat × List Bool => s.1 ≤ feet ∧ Rt tie s.1 s.2) (fun s => ⟨[(0, LA b (nI tie)), (1, I feet), (4, .ptr 0 0 16), (5, .ptr 1 0 16), (6, I s.1)], [⟨138, 16, bools Z⟩, ⟨138, 16, bools s.2⟩]⟩) (fun s => feet - s.1) (0, Z.set 0 true) ⟨by simp only; omega, by simp [hR0], fun y hy => by
    simp only
    rw [set_getD (by omega), hz0, Bool.or_false, decide_eq_true_eq]
    exact eq_comm⟩ (Wk.of_eq (by simp only [↓RP, RG, FX, RQ, ↓reduceIte, Nat.reduceEqDiff, reduceCtorEq, Nat.reduceBEq, Nat.reduceAdd, Nat.reduceLeDiff]; rfl)) ?_
  rintro ⟨n, m⟩ ⟨h1, h2, h3⟩
  simp only at h1 h2 h3 ⊢
  by_cases hk : n < feet
  · have c1 := fun (t : TypeId) (k : Nat) => cA16 (t := t) (n := k) h2
    simp (disch := first | assumption | omega | rfl | simp only [RH]) only [↓RP, RG, FX, RQ, ↓reduceIte, Nat.reduceEqDiff, reduceCtorEq, Nat.reduceBEq, Nat.reduceAdd, Nat.reduceLeDiff, hZ, c1, take16 h2, parts_bools, h2, Nat.le_refl, sX16]
    refine loopK_I [0, 1, 4, 5, 6, 7, 8] (fun s : Nat × List Bool => s.1 ≤ 16 ∧ s.2.length = 16 ∧ ∀ y, y < 16 → (s.2.getD y false = true ↔ m.getD y false = true ∨ ∃ x, x < s.1 ∧ m.getD x false = true ∧ ∃ t ∈ tie, y = x ||| t)) (fun s => ⟨[(0, LA b (nI tie)), (1, I feet), (4, .ptr 0 0 16), (5, .ptr 1 0 16), (6, I n), (7, .ptr 2 0 16), (8, I s.1)], [⟨138, 16, bools Z⟩, ⟨138, 16, bools m⟩, ⟨138, 16, bools s.2⟩]⟩) (fun s => 16 - s.1) (0, m) ⟨by simp only; omega, h2, fun y hy => by simp⟩ (by simp only [↓RP, RG, FX, RQ, ↓reduceIte, Nat.reduceEqDiff, reduceCtorEq, Nat.reduceBEq, Nat.reduceAdd, Nat.reduceLeDiff]; rfl) ?_
    rintro ⟨x, p⟩ ⟨g1, g2, g3⟩
    simp only at g1 g2 g3 ⊢
    by_cases hx : x < 16
    · obtain ⟨A, hA⟩ : ∃ A : Prop, A ↔ m.getD x false = true := ⟨_, Iff.rfl⟩
      simp (disch := first | assumption | omega | rfl | simp only [RH]) only [↓RP, RG, FX, RQ, ↓reduceIte, Nat.reduceEqDiff, reduceCtorEq, Nat.reduceBEq, Nat.reduceAdd, Nat.reduceLeDiff]
      refine loopK_I [0, 1, 4, 5, 6, 7, 8, 9] (fun s : Nat × List Bool => s.1 ≤ tie.length ∧ s.2.length = 16 ∧ ∀ y, y < 16 → (s.2.getD y false = true ↔ p.getD y false = true ∨ A ∧ ∃ j, j < s.1 ∧ y = x ||| tie.getD j 0)) (fun s => ⟨[(0, LA b (nI tie)), (1, I feet), (4, .ptr 0 0 16), (5, .ptr 1 0 16), (6, I n), (7, .ptr 2 0 16), (8, I x), (9, I s.1)], [⟨138, 16, bools Z⟩, ⟨138, 16, bools m⟩, ⟨138, 16, bools s.2⟩]⟩) (fun s => tie.length - s.1) (0, p) ⟨by simp only; omega, g2, fun y hy => by simp⟩ (by simp only [↓RP, RG, FX, RQ, ↓reduceIte, Nat.reduceEqDiff, reduceCtorEq, Nat.reduceBEq, Nat.reduceAdd, Nat.reduceLeDiff]; rfl) ?_
      rintro ⟨i, q⟩ ⟨f1, f2, f3⟩
      simp only at f1 f2 f3 ⊢
      have c3 := fun (t : TypeId) (k : Nat) => cA16 (t := t) (n := k) f2
      have hfin : ∀ q' : List Bool, q'.length = 16 → (∀ y, y < 16 → (q'.getD y false = true ↔ p.getD y false = true ∨ A ∧ ∃ j, j < tie.length ∧ y = x ||| tie.getD j 0)) → ∀ y, y < 16 → (q'.getD y false = true ↔ m.getD y false = true ∨ ∃ x', x' < x + 1 ∧ m.getD x' false = true ∧ ∃ t ∈ tie, y = x' ||| t) := fun q' hq1 hq2 y hy => by
        rw [hq2 y hy, g3 y hy]
        constructor
        · rintro ((h | ⟨x', e1, e2, e3⟩) | ⟨e1, j, e2, e3⟩)
          · exact .inl h
          · exact .inr ⟨x', by omega, e2, e3⟩
          · exact .inr ⟨x, by omega, hA.1 e1, _, (hmem _).2 ⟨j, e2, rfl⟩, e3⟩
        · rintro (h | ⟨x', e1, e2, t, e3, e4⟩)
          · exact .inl (.inl h)
          · by_cases e : x' = x
            · subst e
              obtain ⟨j, j1, j2⟩ := (hmem _).1 e3
              exact .inr ⟨hA.2 e2, j, j1, by rw [j2]; exact e4⟩
            · exact .inl (.inr ⟨x', by omega, e2, t, e3, e4⟩)
      by_cases hi : i < tie.length
      · cases hm : m.getD x false with
        | true =>
          have hti := ht i hi
          have hg := nI_get tie i
          have ho := or64 hx hti
          have ho2 : x ||| tie.getD i 0 < 16 := Nat.or_lt_two_pow (n := 4) hx hti
          have hst : ∀ y, y < 16 → ((q.set (x ||| tie.getD i 0) true).getD y false = true ↔ p.getD y false = true ∨ A ∧ ∃ j, j < i + 1 ∧ y = x ||| tie.getD j 0) := fun y hy => by
            rw [set_getD (by omega), Bool.or_eq_true, decide_eq_true_eq, f3 y hy]
            constructor
            · rintro (h | h | ⟨e1, j, e2, e3⟩)
              · exact .inr ⟨hA.2 hm, i, by omega, h.symm⟩
              · exact .inl h
              · exact .inr ⟨e1, j, by omega, e3⟩
            · rintro (h | ⟨e1, j, e2, e3⟩)
              · exact .inr (.inl h)
              · by_cases e : j = i
                · subst e; exact .inl e3.symm
                · exact .inr (.inr ⟨e1, j, by omega, e3⟩)
          generalize x ||| tie.getD i 0 = o at *
          simp (disch := first | assumption | omega | rfl | simp only [RH]) only [↓RP, RG, FX, RQ, ↓reduceIte, Nat.reduceEqDiff, reduceCtorEq, Nat.reduceBEq, Nat.reduceAdd, Nat.reduceLeDiff, arAt, c1, c3, hm, hg, ho, Nat.zero_add]
          exact ⟨(i + 1, q.set o true), ⟨hi, by rw [List.length_set]; exact f2, hst⟩, rfl, by simp only; omega⟩
        | false =>
          simp (disch := first | assumption | omega | rfl | simp only [RH]) only [↓RP, RG, FX, RQ, ↓reduceIte, Nat.reduceEqDiff, reduceCtorEq, Nat.reduceBEq, Nat.reduceAdd, Nat.reduceLeDiff, arAt, c1, c3, hm]
          exact ⟨(x + 1, q), ⟨hx, f2, hfin q f2 (fun y hy => by
            have : ¬ A := fun h => by rw [hA.1 h] at hm; cases hm
            rw [f3 y hy]; simp [this])⟩, rfl, by simp only; omega⟩
      · obtain rfl : i = tie.length := by omega
        simp (disch := first | assumption | omega | rfl | simp only [RH]) only [↓RP, RG, FX, RQ, ↓reduceIte, Nat.reduceEqDiff, reduceCtorEq, Nat.reduceBEq, Nat.reduceAdd, Nat.reduceLeDiff]
        exact ⟨(x + 1, q), ⟨hx, f2, hfin q f2 f3⟩, rfl, by simp only; omega⟩
    · obtain rfl : x = 16 := by omega
      have c2 := fun (t : TypeId) (k : Nat) => cA16 (t := t) (n := k) g2
      simp (disch := first | assumption | omega | rfl | simp only [RH]) only [↓RP, RG, FX, RQ, ↓reduceIte, Nat.reduceEqDiff, reduceCtorEq, Nat.reduceBEq, Nat.reduceAdd, Nat.reduceLeDiff, c1, c2, take16 g2, parts_bools, g2, Nat.le_refl, sX16]
      refine ⟨(n + 1, p), ⟨hk, g2, fun y hy => ?_⟩, (Wk.drop (hb := []) (h1 := []) (gs := [_, _, _]) 8 [0, 1] rfl (by decide) (by simp) (by simp)).trans (Wk.of_eq (by simp only [RK, List.idxOf?_cons, List.idxOf?_nil, Nat.reduceBEq, Option.map_some, Option.map_none, List.map_cons, List.map_nil, List.getD_cons_zero, List.getD_cons_succ, Bool.false_eq_true, ↓reduceIte, Nat.add_zero, List.append_nil, map_ren_bools]; rfl)), by simp only; omega⟩
      rw [g3 y hy, h3 y hy]
      constructor
      · rintro (h | ⟨x, e1, e2, e3⟩)
        · exact .inl h
        · exact .inr ⟨x, (h3 x e1).1 e2, e3⟩
      · rintro (h | ⟨x, e2, t, e3, e4⟩)
        · exact .inl h
        · have hx16 : x < 16 := by
            have := Rk_lt (tie := tie) (s := 4) (fun t ht' => by
              obtain ⟨j, j1, j2⟩ := (hmem t).1 ht'
              have := ht j j1; omega) n x e2
            simpa using this
          exact .inr ⟨x, hx16, (h3 x hx16).2 e2, t, e3, e4⟩
  · obtain rfl : n = feet := by omega
    obtain rfl := rt_unique ⟨h2, h3⟩ hl
    have c1 := fun (t : TypeId) (k : Nat) => cA16 (t := t) (n := k) h2
    simp (disch := first | assumption | omega | rfl | simp only [RH]) only [↓RP, RG, FX, RQ, ↓reduceIte, Nat.reduceEqDiff, reduceCtorEq, Nat.reduceBEq, Nat.reduceAdd, Nat.reduceLeDiff, c1, take16 h2, parts_bools, h2, Nat.le_refl, sX16]
    rw [resVal_1 rfl]; simp (disch := first | assumption | omega | rfl | simp only [RH]) only [↓RP, RG, FX, RQ, ↓reduceIte, Nat.reduceEqDiff, reduceCtorEq, Nat.reduceBEq, Nat.reduceAdd, Nat.reduceLeDiff, RS]
    rw [if_pos (by omega), take16 h2]
    simp [rvX, resOf, bools_res]
theorem rt_ex (tie : List Nat) (n : Nat) : ∃ l, Rt tie n l := by
  classical
  refine ⟨(List.range 16).map fun y => decide (Rk tie n y), by simp, fun y hy => ?_⟩
  rw [List.getD_eq_getElem?_getD, List.getElem?_map, List.getElem?_range hy]
  simp
theorem coversF_c (b b2 : Bool) {tie : List Nat} (hn : tie.length ≤ 1000) (ht : ∀ i, i < tie.length → tie.getD i 0 < 16) {L : List Nat} (hL : L.length ≤ 1000) (hg : ∀ i, i < L.length → L.getD i 0 < 16) {feet : Nat} (hf : feet ≤ 4) (r : Bool) (hr : r = true ↔ Cov tie L feet) :
    Contract Tryd.prog 73 [LA b (nI tie), LA b2 (nI L), I feet] (B r) := by
  obtain ⟨l, hl⟩ := rt_ex tie feet
  have hre := reached_c b hn ht hf hl
  have h2 := hl.1
  have ll := nI_len L
  have hgL := nI_get L
  have hR0 : (List.replicate 16 false).length = 16 := List.length_replicate
  generalize hZ : List.replicate 16 false = Z at *
  have c1 := fun (t : TypeId) (k : Nat) => cA16 (t := t) (n := k) h2
  refine Contract.intro (effS [] false) 6 follows Tryd.func73 rfl rfl (by kernel_rfl) (Nat.le_of_ble_eq_true rfl) ?_
  simp (disch := first | assumption | omega | rfl | simp only [RH]) only [↓RP, RG, FX, RQ, ↓reduceIte, Nat.reduceEqDiff, reduceCtorEq, Nat.reduceBEq, Nat.reduceAdd, Nat.reduceLeDiff, args0_3]
  refine callK_F 6 hre (by simp (disch := first | assumption | omega | rfl | simp only [RH]) only [↓RP, RG, FX, RQ, ↓reduceIte, Nat.reduceEqDiff, reduceCtorEq, Nat.reduceBEq, Nat.reduceAdd, Nat.reduceLeDiff, RA] <;> rfl) (.inl (by simp [allFresh, bools_fresh])) ?_
  simp (disch := first | assumption | omega | rfl | simp only [RH]) only [↓RP, RG, FX, RQ, ↓reduceIte, Nat.reduceEqDiff, reduceCtorEq, Nat.reduceBEq, Nat.reduceAdd, Nat.reduceLeDiff, hZ, c1, parts_bools, sX16]
  refine loopK_I [0, 1, 2, 7, 8] (fun i : Nat => i ≤ L.length ∧ ∀ j, j < i → Rk tie feet (L.getD j 0)) (fun i => ⟨[(0, LA b (nI tie)), (1, LA b2 (nI L)), (2, I feet), (7, .ptr 0 0 16), (8, I i)], [⟨138, 16, bools l⟩]⟩) (fun i => L.length - i) 0 ⟨by omega, fun j hj => by omega⟩ (by simp only [↓RP, RG, FX, RQ, ↓reduceIte, Nat.reduceEqDiff, reduceCtorEq, Nat.reduceBEq, Nat.reduceAdd, Nat.reduceLeDiff]; rfl) ?_
  rintro i ⟨hi, hall⟩
  by_cases hlt : i < L.length
  · have hgi := hg i hlt
    have hgg := hgL i
    have hrk := hl.2 (L.getD i 0) hgi
    have hnx : Rk tie feet (L.getD i 0) → ∀ j, j < i + 1 → Rk tie feet (L.getD j 0) := fun h j hj => by
      by_cases e : j = i
      · rw [e]; exact h
      · exact hall j (by omega)
    have hno : ¬ Rk tie feet (L.getD i 0) → r = false := fun h => by
      cases hrr : r with
      | false => rfl
      | true => exact absurd (hr.1 hrr (L.getD i 0) (by rw [List.getD_eq_getElem?_getD, List.getElem?_eq_getElem hlt]; exact List.getElem_mem hlt)) h
    generalize hx : L.getD i 0 = x at *
    cases hb : l.getD x false with
    | true =>
      have hk := hrk.1 hb
      simp (disch := first | assumption | omega | rfl | simp only [RH]) only [↓RP, RG, FX, RQ, ↓reduceIte, Nat.reduceEqDiff, reduceCtorEq, Nat.reduceBEq, Nat.reduceAdd, Nat.reduceLeDiff, hgg, arAt, c1, hb, Nat.zero_add, Int.toNat_natCast]
      exact ⟨i + 1, ⟨hlt, hnx hk⟩, rfl, by omega⟩
    | false =>
      obtain rfl := hno fun h => by rw [hrk.2 h] at hb; cases hb
      simp (disch := first | assumption | omega | rfl | simp only [RH]) only [↓RP, RG, FX, RQ, ↓reduceIte, Nat.reduceEqDiff, reduceCtorEq, Nat.reduceBEq, Nat.reduceAdd, Nat.reduceLeDiff, hgg, arAt, c1, hb, Nat.zero_add, Int.toNat_natCast]
      rw [resVal_1 rfl]; simp (disch := first | assumption | omega | rfl | simp only [RH]) only [↓RP, RG, FX, RQ, ↓reduceIte, Nat.reduceEqDiff, reduceCtorEq, Nat.reduceBEq, Nat.reduceAdd, Nat.reduceLeDiff, RS]
  · obtain rfl : i = L.length := by omega
    have : r = true := hr.2 fun x hx => by
      obtain ⟨j, hj, e⟩ := List.mem_iff_getElem.1 hx
      have := hall j hj
      rwa [List.getD_eq_getElem?_getD, List.getElem?_eq_getElem hj, Option.getD_some, e] at this
    subst this
    simp (disch := first | assumption | omega | rfl | simp only [RH]) only [↓RP, RG, FX, RQ, ↓reduceIte, Nat.reduceEqDiff, reduceCtorEq, Nat.reduceBEq, Nat.reduceAdd, Nat.reduceLeDiff]
    rw [resVal_1 rfl]; simp (disch := first | assumption | omega | rfl | simp only [RH]) only [↓RP, RG, FX, RQ, ↓reduceIte, Nat.reduceEqDiff, reduceCtorEq, Nat.reduceBEq, Nat.reduceAdd, Nat.reduceLeDiff, RS]
theorem setsR_c {s : Nat} (hs4 : s ≤ 4) (b : Bool) {l : List Int} (hl : l.length ≤ 1000000) (r : Bool) (hr : r = true ↔ inR s l) : Contract Tryd.prog 47 [LA b l, I s] (B r) := by
  refine Contract.intro (effS [] false) 6 follows Tryd.func47 rfl rfl (by kernel_rfl) (Nat.le_of_ble_eq_true rfl) ?_
  simp (disch := first | assumption | omega | rfl | simp only [RH]) only [↓RP, RG, FX, RQ, ↓reduceIte, Nat.reduceEqDiff, reduceCtorEq, Nat.reduceBEq, Nat.reduceAdd, Nat.reduceLeDiff, args0_2]
  refine loopK_I [0, 1, 5] (fun i : Nat => i ≤ l.length ∧ ∀ j, j < i → 0 ≤ l.getD j 0 ∧ l.getD j 0 < ((2 ^ s : Nat) : Int)) (fun i => ⟨[(0, LA b l), (1, I s), (5, I i)], []⟩) (fun i => l.length - i) 0 ⟨by omega, fun j hj => by omega⟩ (by simp only [↓RP, RG, FX, RQ, ↓reduceIte, Nat.reduceEqDiff, reduceCtorEq, Nat.reduceBEq, Nat.reduceAdd, Nat.reduceLeDiff]; rfl) ?_
  rintro i ⟨hi, hall⟩
  by_cases hlt : i < l.length
  · have hS := setR_c hs4 (l.getD i 0)
    by_cases hc : 0 ≤ l.getD i 0 ∧ l.getD i 0 < ((2 ^ s : Nat) : Int)
    · rw [decide_eq_true hc] at hS
      simp (disch := first | assumption | omega | rfl | simp only [RH]) only [↓RP, RG, FX, RQ, ↓reduceIte, Nat.reduceEqDiff, reduceCtorEq, Nat.reduceBEq, Nat.reduceAdd, Nat.reduceLeDiff]
      refine callK_F 6 (hS) (by simp (disch := first | assumption | omega | rfl | simp only [RH]) only [↓RP, RG, FX, RQ, ↓reduceIte, Nat.reduceEqDiff, reduceCtorEq, Nat.reduceBEq, Nat.reduceAdd, Nat.reduceLeDiff, RA] <;> rfl) (.inl (by simp [allFresh, ints_fresh, bools_fresh])) ?_
      simp (disch := first | assumption | omega | rfl | simp only [RH]) only [↓RP, RG, FX, RQ, ↓reduceIte, Nat.reduceEqDiff, reduceCtorEq, Nat.reduceBEq, Nat.reduceAdd, Nat.reduceLeDiff]
      refine ⟨i + 1, ⟨hlt, fun j hj => ?_⟩, rfl, by omega⟩
      by_cases e : j = i
      · subst e; exact hc
      · exact hall j (by omega)
    · rw [decide_eq_false hc] at hS
      have hrf : r = false := by
        cases hrr : r with
        | false => rfl
        | true => exact absurd (hr.1 hrr i hlt) hc
      subst hrf
      simp (disch := first | assumption | omega | rfl | simp only [RH]) only [↓RP, RG, FX, RQ, ↓reduceIte, Nat.reduceEqDiff, reduceCtorEq, Nat.reduceBEq, Nat.reduceAdd, Nat.reduceLeDiff]
      refine callK_F 6 (hS) (by simp (disch := first | assumption | omega | rfl | simp only [RH]) only [↓RP, RG, FX, RQ, ↓reduceIte, Nat.reduceEqDiff, reduceCtorEq, Nat.reduceBEq, Nat.reduceAdd, Nat.reduceLeDiff, RA] <;> rfl) (.inl (by simp [allFresh, ints_fresh, bools_fresh])) ?_
      simp (disch := first | assumption | omega | rfl | simp only [RH]) only [↓RP, RG, FX, RQ, ↓reduceIte, Nat.reduceEqDiff, reduceCtorEq, Nat.reduceBEq, Nat.reduceAdd, Nat.reduceLeDiff]
      rw [resVal_1 rfl]; simp (disch := first | assumption | omega | rfl | simp only [RH]) only [↓RP, RG, FX, RQ, ↓reduceIte, Nat.reduceEqDiff, reduceCtorEq, Nat.reduceBEq, Nat.reduceAdd, Nat.reduceLeDiff, RS]
  · obtain rfl : i = l.length := by omega
    obtain rfl := hr.2 hall
    simp (disch := first | assumption | omega | rfl | simp only [RH]) only [↓RP, RG, FX, RQ, ↓reduceIte, Nat.reduceEqDiff, reduceCtorEq, Nat.reduceBEq, Nat.reduceAdd, Nat.reduceLeDiff]
    rw [resVal_1 rfl]; simp (disch := first | assumption | omega | rfl | simp only [RH]) only [↓RP, RG, FX, RQ, ↓reduceIte, Nat.reduceEqDiff, reduceCtorEq, Nat.reduceBEq, Nat.reduceAdd, Nat.reduceLeDiff, RS]
end Go.Proofs.YtlckfakifamjiaaDoor

/- Pressings by the digits of numbers, by the reference. -/
set_option linter.unusedSimpArgs false
set_option linter.unusedVariables false
set_option maxRecDepth 100000
namespace Go.Proofs.YtlckfakifamjiaaDoor
open Go Go.Proofs Go.AW

theorem shrN {x n : Nat} (hn : n ≤ 16) : aInt .shr .i64 (x : Int) (n : Int) = some (.val (.int .i64 ((x / 2 ^ n : Nat) : Int))) := by
  have e : (min (Int.toNat (n : Int)) IntKind.i64.bits) = n := by
    rw [Int.toNat_natCast, show IntKind.i64.bits = 64 from rfl]; omega
  show (if (n : Int) < 0 then none else some _) = _
  rw [if_neg (by omega), e, show ((2 : Int) ^ n) = ((2 ^ n : Nat) : Int) by norm_cast, Int.fdiv_eq_ediv_of_nonneg _ (Int.natCast_nonneg _)]
  rfl
theorem andN1 {x : Nat} (hx : x < 1000000) : aInt .and .i64 (x : Int) 1 = some (.val (.int .i64 ((x % 2 : Nat) : Int))) := by
  show some (AVal.val (.int .i64 (IntKind.i64.wrap ((BitVec.ofInt 64 (x : Int) &&& BitVec.ofInt 64 ((1 : Nat) : Int)).toNat)))) = _
  rw [ofI64, ofI64, BitVec.toNat_and, BitVec.toNat_ofNat, BitVec.toNat_ofNat, Nat.mod_eq_of_lt (by omega), Nat.mod_eq_of_lt (by omega), Nat.and_one_is_mod, wr64 (by omega)]
/-- A digit. -/
def dig (x i : Nat) : Nat := x / 2 ^ i % 2
theorem dig_lt (x i : Nat) : dig x i < 2 := Nat.mod_lt _ (by omega)
theorem dig_bit (x i : Nat) : x.testBit i = decide (dig x i = 1) := bit_mod x i
theorem dig_ops {x i : Nat} (hx : x < 65536) (hi : i ≤ 16) : aInt .shr .i64 (x : Int) (i : Int) = some (.val (.int .i64 ((x / 2 ^ i : Nat) : Int))) ∧ aInt .and .i64 ((x / 2 ^ i : Nat) : Int) 1 = some (.val (.int .i64 ((dig x i : Nat) : Int))) :=
  ⟨shrN hi, andN1 (Nat.lt_of_le_of_lt (Nat.div_le_self _ _) (by omega))⟩
/-- The digits below k. -/
def bitsK (x k : Nat) : List Nat := (List.range k).filter fun i => x.testBit i
theorem bitsK_len (x k : Nat) : (bitsK x k).length ≤ k := Nat.le_trans (List.length_filter_le _ _) (by simp)
theorem bitsK_t {x k : Nat} (h : dig x k = 1) : bitsK x (k + 1) = bitsK x k ++ [k] := by
  unfold bitsK; rw [List.range_succ, List.filter_append, List.filter_cons_of_pos (by rw [dig_bit]; exact decide_eq_true h), List.filter_nil]
theorem bitsK_f {x k : Nat} (h : ¬ dig x k = 1) : bitsK x (k + 1) = bitsK x k := by
  unfold bitsK; rw [List.range_succ, List.filter_append, List.filter_cons_of_neg (by rw [dig_bit, decide_eq_true_eq]; exact h), List.filter_nil, List.append_nil]
theorem onesR_c {x : Nat} (hx : x < 65536) : Contract Tryd.prog 74 [I x] (I (bitsL x).length) := by
  refine Contract.intro (effS [] false) 6 follows Tryd.func74 rfl rfl (by kernel_rfl) (Nat.le_of_ble_eq_true rfl) ?_
  simp (disch := first | assumption | omega | rfl | simp only [RH]) only [↓RP, RG, FX, RQ, ↓reduceIte, Nat.reduceEqDiff, reduceCtorEq, Nat.reduceBEq, Nat.reduceAdd, Nat.reduceLeDiff, args0_1]
  refine loopK_I [0, 3, 4] (fun i : Nat => i ≤ 16) (fun i => ⟨[(0, I x), (3, I (bitsK x i).length), (4, I i)], []⟩) (fun i => 16 - i) 0 (by omega) (by simp only [↓RP, RG, FX, RQ, ↓reduceIte, Nat.reduceEqDiff, reduceCtorEq, Nat.reduceBEq, Nat.reduceAdd, Nat.reduceLeDiff]; rfl) ?_
  intro i hi
  have hl := bitsK_len x i
  by_cases hlt : i < 16
  · obtain ⟨s1, s2⟩ := dig_ops (i := i) hx (by omega)
    have hd := dig_lt x i
    have hn : (((bitsK x i).length : Nat) : Int) + ((dig x i : Nat) : Int) = (((bitsK x (i + 1)).length : Nat) : Int) := by
      by_cases h : dig x i = 1
      · rw [bitsK_t h, List.length_append, List.length_singleton]; omega
      · rw [bitsK_f h]; omega
    generalize dig x i = d at *
    generalize x / 2 ^ i = q at *
    simp (disch := first | assumption | omega | rfl | simp only [RH]) only [↓RP, RG, FX, RQ, ↓reduceIte, Nat.reduceEqDiff, reduceCtorEq, Nat.reduceBEq, Nat.reduceAdd, Nat.reduceLeDiff, aBin_shr, s1, s2]
    exact ⟨i + 1, hlt, by rw [hn]; rfl, by omega⟩
  · obtain rfl : i = 16 := by omega
    simp (disch := first | assumption | omega | rfl | simp only [RH]) only [↓RP, RG, FX, RQ, ↓reduceIte, Nat.reduceEqDiff, reduceCtorEq, Nat.reduceBEq, Nat.reduceAdd, Nat.reduceLeDiff]
    rw [resVal_1 rfl]; simp (disch := first | assumption | omega | rfl | simp only [RH]) only [↓RP, RG, FX, RQ, ↓reduceIte, Nat.reduceEqDiff, reduceCtorEq, Nat.reduceBEq, Nat.reduceAdd, Nat.reduceLeDiff, RS]
    first | done | rfl
/-- What the treadles of a number's digits below k lift. -/
def lfK (tie : List Nat) (x : Nat) : Nat → Nat
  | 0 => 0
  | k + 1 => if dig x k = 1 then lfK tie x k ||| tie.getD k 0 else lfK tie x k
theorem lfK_lt {tie : List Nat} (ht : ∀ i, i < tie.length → tie.getD i 0 < 16) (x : Nat) : ∀ k, k ≤ tie.length → lfK tie x k < 16
  | 0, _ => by unfold lfK; omega
  | k + 1, h => by
    unfold lfK
    have := lfK_lt ht x k (by omega)
    split
    · exact Nat.or_lt_two_pow (n := 4) this (ht k (by omega))
    · exact this
theorem lfK_bit (tie : List Nat) (x : Nat) : ∀ k b, (lfK tie x k).testBit b = true ↔ ∃ i, i < k ∧ x.testBit i = true ∧ (tie.getD i 0).testBit b = true
  | 0, b => by simp [lfK]
  | k + 1, b => by
    have ih := lfK_bit tie x k b
    unfold lfK
    split
    · rename_i h
      rw [Nat.testBit_or, Bool.or_eq_true, ih]
      constructor
      · rintro (⟨i, h1, h2⟩ | h1)
        · exact ⟨i, by omega, h2⟩
        · exact ⟨k, by omega, by rw [dig_bit]; exact decide_eq_true h, h1⟩
      · rintro ⟨i, h1, h2, h3⟩
        by_cases e : i = k
        · subst e; exact .inr h3
        · exact .inl ⟨i, by omega, h2, h3⟩
    · rename_i h
      rw [ih]
      constructor
      · rintro ⟨i, h1, h2⟩; exact ⟨i, by omega, h2⟩
      · rintro ⟨i, h1, h2, h3⟩
        by_cases e : i = k
        · subst e; rw [dig_bit, decide_eq_true_eq] at h2; exact absurd h2 h
        · exact ⟨i, by omega, h2, h3⟩
theorem lifted_c (b : Bool) {tie : List Nat} (hn : tie.length ≤ 16) (ht : ∀ i, i < tie.length → tie.getD i 0 < 16) {x : Nat} (hx : x < 65536) : Contract Tryd.prog 75 [LA b (nI tie), I x] (I (lfK tie x tie.length)) := by
  have lt := nI_len tie
  refine Contract.intro (effS [] false) 6 follows Tryd.func75 rfl rfl (by kernel_rfl) (Nat.le_of_ble_eq_true rfl) ?_
  simp (disch := first | assumption | omega | rfl | simp only [RH]) only [↓RP, RG, FX, RQ, ↓reduceIte, Nat.reduceEqDiff, reduceCtorEq, Nat.reduceBEq, Nat.reduceAdd, Nat.reduceLeDiff, args0_2]
  refine loopK_I [0, 1, 5, 6] (fun i : Nat => i ≤ tie.length) (fun i => ⟨[(0, LA b (nI tie)), (1, I x), (5, I (lfK tie x i)), (6, I i)], []⟩) (fun i => tie.length - i) 0 (by omega) (by simp only [↓RP, RG, FX, RQ, ↓reduceIte, Nat.reduceEqDiff, reduceCtorEq, Nat.reduceBEq, Nat.reduceAdd, Nat.reduceLeDiff]; rfl) ?_
  intro i hi
  by_cases hlt : i < tie.length
  · obtain ⟨s1, s2⟩ := dig_ops (i := i) hx (by omega)
    have hd := dig_lt x i
    have hg := nI_get tie i
    have hor := or64 (lfK_lt ht x i hi) (ht i hlt)
    have hs : lfK tie x (i + 1) = if dig x i = 1 then lfK tie x i ||| tie.getD i 0 else lfK tie x i := rfl
    by_cases h : dig x i = 1
    · rw [if_pos h] at hs
      generalize dig x i = d at *
      generalize x / 2 ^ i = q at *
      simp (disch := first | assumption | omega | rfl | simp only [RH]) only [↓RP, RG, FX, RQ, ↓reduceIte, Nat.reduceEqDiff, reduceCtorEq, Nat.reduceBEq, Nat.reduceAdd, Nat.reduceLeDiff, aBin_shr, s1, s2, hg, hor]
      exact ⟨i + 1, hlt, by rw [hs]; rfl, by omega⟩
    · rw [if_neg h] at hs
      generalize dig x i = d at *
      generalize x / 2 ^ i = q at *
      simp (disch := first | assumption | omega | rfl | simp only [RH]) only [↓RP, RG, FX, RQ, ↓reduceIte, Nat.reduceEqDiff, reduceCtorEq, Nat.reduceBEq, Nat.reduceAdd, Nat.reduceLeDiff, aBin_shr, s1, s2]
      exact ⟨i + 1, hlt, by rw [hs]; rfl, by omega⟩
  · obtain rfl : i = tie.length := by omega
    simp (disch := first | assumption | omega | rfl | simp only [RH]) only [↓RP, RG, FX, RQ, ↓reduceIte, Nat.reduceEqDiff, reduceCtorEq, Nat.reduceBEq, Nat.reduceAdd, Nat.reduceLeDiff]
    rw [resVal_1 rfl]; simp (disch := first | assumption | omega | rfl | simp only [RH]) only [↓RP, RG, FX, RQ, ↓reduceIte, Nat.reduceEqDiff, reduceCtorEq, Nat.reduceBEq, Nat.reduceAdd, Nat.reduceLeDiff, RS]
theorem lexlt_pre (p : List Nat) (u v : List Nat) : lexlt (p ++ u) (p ++ v) ↔ lexlt u v := by
  induction p with
  | nil => exact Iff.rfl
  | cons a p ih =>
    simp only [List.cons_append, lexlt, Nat.lt_irrefl, false_or, true_and]
    exact ih
theorem bits_split (x i : Nat) (hi : i < 16) : bitsL x = bitsK x i ++ (if x.testBit i then [i] else []) ++ (((List.range (15 - i)).map fun k => i + 1 + k).filter fun k => x.testBit k) := by
  have h : List.range 16 = List.range i ++ ([i] ++ (List.range (15 - i)).map fun k => i + 1 + k) := by
    rw [show 16 = i + (1 + (15 - i)) by omega, List.range_add, List.range_add, List.map_append, List.map_map]
    congr 2
    refine List.map_congr_left fun k _ => ?_
    simp only [Function.comp]; omega
  unfold bitsL bitsK
  rw [h, List.filter_append, List.filter_append, List.append_assoc]
  congr 2
  cases hb : x.testBit i with
  | true => simp [hb]
  | false => simp [hb]
theorem bitsK_congr {x y i : Nat} (h : ∀ j, j < i → x.testBit j = y.testBit j) : bitsK x i = bitsK y i := by
  unfold bitsK
  exact List.filter_congr fun j hj => by rw [h j (List.mem_range.1 hj)]
/-- Of two numbers with as many digits, the first different digit tells. -/
theorem bits_first {x y i : Nat} (hi : i < 16) (h : ∀ j, j < i → x.testBit j = y.testBit j) (hx : x.testBit i = true) (hy : y.testBit i = false) (hl : (bitsL x).length = (bitsL y).length) : lexlt (bitsL x) (bitsL y) := by
  rw [bits_split x i hi, bits_split y i hi, hx, hy, bitsK_congr h] at *
  simp only [↓reduceIte, Bool.false_eq_true, List.append_nil] at *
  rw [List.append_assoc, lexlt_pre]
  rw [List.append_assoc, List.length_append, List.length_append, List.length_append, List.length_singleton] at hl
  have hmem : ∀ t ∈ (((List.range (15 - i)).map fun k => i + 1 + k).filter fun k => y.testBit k), i < t := fun t ht => by
    obtain ⟨k, -, e⟩ := List.mem_map.1 (List.mem_filter.1 ht).1
    omega
  generalize (((List.range (15 - i)).map fun k => i + 1 + k).filter fun k => y.testBit k) = v at *
  cases v with
  | nil => simp at hl
  | cons a v => exact .inl (hmem a (by simp))
theorem lexlt_asymm {a b : List Nat} (h : lexlt a b) : ¬ lexlt b a := fun g => lexlt_irr a (lexlt_trans h g)
open Classical in
theorem better_c {x y : Nat} (hx : x < 65536) (hy : y < 65536) (r : Bool) (hr : r = true ↔ btr (bitsL x) (bitsL y)) : Contract Tryd.prog 76 [I x, I y] (B r) := by
  have h1 := onesR_c hx
  have h2 := onesR_c hy
  have hl1 : (bitsL x).length ≤ 16 := by unfold bitsL; exact Nat.le_trans (List.length_filter_le _ _) (by simp)
  have hl2 : (bitsL y).length ≤ 16 := by unfold bitsL; exact Nat.le_trans (List.length_filter_le _ _) (by simp)
  unfold btr at hr
  by_cases c1 : (bitsL x).length = (bitsL y).length
  rotate_left
  · have hrr : r = decide ((bitsL x).length < (bitsL y).length) := by
      refine Bool.eq_iff_iff.2 (hr.trans ?_)
      rw [decide_eq_true_eq]
      exact ⟨fun h => h.resolve_right fun g => c1 g.1, .inl⟩
    subst hrr
    generalize (bitsL x).length = n at *
    generalize (bitsL y).length = m at *
    refine Contract.intro (effS [] false) 6 follows Tryd.func76 rfl rfl (by kernel_rfl) (Nat.le_of_ble_eq_true rfl) ?_
    simp (disch := first | assumption | omega | rfl | simp only [RH]) only [↓RP, RG, FX, RQ, ↓reduceIte, Nat.reduceEqDiff, reduceCtorEq, Nat.reduceBEq, Nat.reduceAdd, Nat.reduceLeDiff, args0_2]
    refine callK_F 6 (h1) (by simp (disch := first | assumption | omega | rfl | simp only [RH]) only [↓RP, RG, FX, RQ, ↓reduceIte, Nat.reduceEqDiff, reduceCtorEq, Nat.reduceBEq, Nat.reduceAdd, Nat.reduceLeDiff, RA] <;> rfl) (.inl (by simp [allFresh, ints_fresh, bools_fresh])) ?_
    simp (disch := first | assumption | omega | rfl | simp only [RH]) only [↓RP, RG, FX, RQ, ↓reduceIte, Nat.reduceEqDiff, reduceCtorEq, Nat.reduceBEq, Nat.reduceAdd, Nat.reduceLeDiff]
    refine callK_F 6 (h2) (by simp (disch := first | assumption | omega | rfl | simp only [RH]) only [↓RP, RG, FX, RQ, ↓reduceIte, Nat.reduceEqDiff, reduceCtorEq, Nat.reduceBEq, Nat.reduceAdd, Nat.reduceLeDiff, RA] <;> rfl) (.inl (by simp [allFresh, ints_fresh, bools_fresh])) ?_
    simp (disch := first | assumption | omega | rfl | simp only [RH]) only [↓RP, RG, FX, RQ, ↓reduceIte, Nat.reduceEqDiff, reduceCtorEq, Nat.reduceBEq, Nat.reduceAdd, Nat.reduceLeDiff]
    rw [resVal_1 rfl]; simp (disch := first | assumption | omega | rfl | simp only [RH]) only [↓RP, RG, FX, RQ, ↓reduceIte, Nat.reduceEqDiff, reduceCtorEq, Nat.reduceBEq, Nat.reduceAdd, Nat.reduceLeDiff, RS]
    first | done | simp
  have hfirst : ∀ i, i < 16 → (∀ j, j < i → x.testBit j = y.testBit j) → x.testBit i ≠ y.testBit i → r = x.testBit i := fun i hi hall hne => by
    cases hxb : x.testBit i with
    | true =>
      cases hyb : y.testBit i with
      | true => exact absurd (hxb.trans hyb.symm) hne
      | false => exact hr.2 (.inr ⟨c1, bits_first hi hall hxb hyb c1⟩)
    | false =>
      cases hyb : y.testBit i with
      | false => exact absurd (hxb.trans hyb.symm) hne
      | true =>
        have := bits_first hi (fun j hj => (hall j hj).symm) hyb hxb c1.symm
        cases hrr : r with
        | false => rfl
        | true =>
          rcases hr.1 hrr with g | g
          · omega
          · exact absurd g.2 (lexlt_asymm this)
  refine Contract.intro (effS [] false) 6 follows Tryd.func76 rfl rfl (by kernel_rfl) (Nat.le_of_ble_eq_true rfl) ?_
  simp (disch := first | assumption | omega | rfl | simp only [RH]) only [↓RP, RG, FX, RQ, ↓reduceIte, Nat.reduceEqDiff, reduceCtorEq, Nat.reduceBEq, Nat.reduceAdd, Nat.reduceLeDiff, args0_2]
  refine callK_F 6 (h1) (by simp (disch := first | assumption | omega | rfl | simp only [RH]) only [↓RP, RG, FX, RQ, ↓reduceIte, Nat.reduceEqDiff, reduceCtorEq, Nat.reduceBEq, Nat.reduceAdd, Nat.reduceLeDiff, RA] <;> rfl) (.inl (by simp [allFresh, ints_fresh, bools_fresh])) ?_
  simp (disch := first | assumption | omega | rfl | simp only [RH]) only [↓RP, RG, FX, RQ, ↓reduceIte, Nat.reduceEqDiff, reduceCtorEq, Nat.reduceBEq, Nat.reduceAdd, Nat.reduceLeDiff]
  refine callK_F 6 (h2) (by simp (disch := first | assumption | omega | rfl | simp only [RH]) only [↓RP, RG, FX, RQ, ↓reduceIte, Nat.reduceEqDiff, reduceCtorEq, Nat.reduceBEq, Nat.reduceAdd, Nat.reduceLeDiff, RA] <;> rfl) (.inl (by simp [allFresh, ints_fresh, bools_fresh])) ?_
  simp (disch := first | assumption | omega | rfl | simp only [RH]) only [↓RP, RG, FX, RQ, ↓reduceIte, Nat.reduceEqDiff, reduceCtorEq, Nat.reduceBEq, Nat.reduceAdd, Nat.reduceLeDiff]
  refine loopK_I [0, 1, 7] (fun i : Nat => i ≤ 16 ∧ ∀ j, j < i → x.testBit j = y.testBit j) (fun i => ⟨[(0, I x), (1, I y), (7, I i)], []⟩) (fun i => 16 - i) 0 ⟨by omega, fun j hj => by omega⟩ (by simp only [↓RP, RG, FX, RQ, ↓reduceIte, Nat.reduceEqDiff, reduceCtorEq, Nat.reduceBEq, Nat.reduceAdd, Nat.reduceLeDiff]; rfl) ?_
  rintro i ⟨hi, hall⟩
  by_cases hlt : i < 16
  · obtain ⟨s1, s2⟩ := dig_ops (i := i) hx (by omega)
    obtain ⟨s3, s4⟩ := dig_ops (i := i) hy (by omega)
    have hd := dig_lt x i
    have hd2 := dig_lt y i
    have hf := hfirst i hlt hall
    have hst : x.testBit i = y.testBit i → ∀ j, j < i + 1 → x.testBit j = y.testBit j := fun h j hj => by
      by_cases e : j = i
      · rw [e]; exact h
      · exact hall j (by omega)
    rw [dig_bit, dig_bit y] at hf hst
    generalize dig x i = d at *
    generalize x / 2 ^ i = q at *
    generalize dig y i = d2 at *
    generalize y / 2 ^ i = q2 at *
    by_cases e : d = d2
    · subst e
      simp (disch := first | assumption | omega | rfl | simp only [RH]) only [↓RP, RG, FX, RQ, ↓reduceIte, Nat.reduceEqDiff, reduceCtorEq, Nat.reduceBEq, Nat.reduceAdd, Nat.reduceLeDiff, aBin_shr, s1, s2, s3, s4]
      exact ⟨i + 1, ⟨hlt, hst rfl⟩, rfl, by omega⟩
    · have hf := hf (fun h => e (by
        by_cases g : d = 1
        · rw [decide_eq_true g] at h; have := of_decide_eq_true h.symm; omega
        · rw [decide_eq_false g] at h; have := of_decide_eq_false h.symm; omega))
      subst hf
      simp (disch := first | assumption | omega | rfl | simp only [RH]) only [↓RP, RG, FX, RQ, ↓reduceIte, Nat.reduceEqDiff, reduceCtorEq, Nat.reduceBEq, Nat.reduceAdd, Nat.reduceLeDiff, aBin_shr, s1, s2, s3, s4]
      rw [resVal_1 rfl]; simp (disch := first | assumption | omega | rfl | simp only [RH]) only [↓RP, RG, FX, RQ, ↓reduceIte, Nat.reduceEqDiff, reduceCtorEq, Nat.reduceBEq, Nat.reduceAdd, Nat.reduceLeDiff, RS]
      by_cases g : d = 1
      · subst g; rfl
      · rw [decide_eq_false g]; have : d = 0 := by omega
        subst this; rfl
  · obtain rfl : i = 16 := by omega
    have : bitsL x = bitsL y := bitsK_congr hall
    have hrf : r = false := by
      cases hrr : r with
      | false => rfl
      | true =>
        rcases hr.1 hrr with g | g
        · omega
        · rw [this] at g; exact absurd g.2 (lexlt_irr _)
    subst hrf
    simp (disch := first | assumption | omega | rfl | simp only [RH]) only [↓RP, RG, FX, RQ, ↓reduceIte, Nat.reduceEqDiff, reduceCtorEq, Nat.reduceBEq, Nat.reduceAdd, Nat.reduceLeDiff]
    rw [resVal_1 rfl]; simp (disch := first | assumption | omega | rfl | simp only [RH]) only [↓RP, RG, FX, RQ, ↓reduceIte, Nat.reduceEqDiff, reduceCtorEq, Nat.reduceBEq, Nat.reduceAdd, Nat.reduceLeDiff, RS]
end Go.Proofs.YtlckfakifamjiaaDoor

/- The best pressing by the reference: numbers one by one. -/
set_option linter.unusedSimpArgs false
set_option linter.unusedVariables false
set_option maxRecDepth 100000
namespace Go.Proofs.YtlckfakifamjiaaDoor
open Go Go.Proofs Go.AW

theorem joinP_bit : ∀ (l : List Nat) (b : Nat), (joinL (l.map fun i => 2 ^ i)).testBit b = true ↔ b ∈ l
  | [], b => by simp [joinL]
  | t :: r, b => by
    simp only [List.map_cons, joinL]
    rw [Nat.testBit_or, Bool.or_eq_true, joinP_bit r b, Nat.testBit_two_pow, decide_eq_true_eq, List.mem_cons]
    constructor
    · rintro (h | h)
      · exact .inr h
      · exact .inl h.symm
    · rintro (h | h)
      · exact .inr h.symm
      · exact .inl h
/-- The number with these digits. -/
def famL (u : List Nat) : Nat := joinL (u.map fun i => 2 ^ i)
theorem famL_bits {y : Nat} (hy : y < 65536) : famL (bitsL y) = y := Nat.eq_of_testBit_eq fun b => by
  refine Bool.eq_iff_iff.2 ((joinP_bit _ b).trans ?_)
  rw [mem_bitsL]
  refine ⟨fun h => h.2, fun h => ⟨?_, h⟩⟩
  by_cases c : b < 16
  · exact c
  · rw [Nat.testBit_lt_two_pow (Nat.lt_of_lt_of_le hy (by have := Nat.pow_le_pow_right (n := 2) (by omega) (show 16 ≤ b by omega); simpa using this))] at h; cases h
theorem famL_lt {u : List Nat} {n : Nat} (h : ∀ i ∈ u, i < n) : famL u < 2 ^ n := Nat.lt_pow_two_of_testBit _ fun i hi => by
  cases hb : (famL u).testBit i with
  | false => rfl
  | true => have := h i ((joinP_bit u i).1 hb); omega
theorem bits_famL {u : List Nat} (hp : u.Pairwise (· < ·)) (h : ∀ i ∈ u, i < 16) : bitsL (famL u) = u := by
  have key : nI (bitsL (famL u)) = nI u := by
    refine sinc_ext _ _ ?_ ?_ fun x => ?_
    · unfold nI; rw [List.pairwise_map]; exact (bitsL_inc _).imp fun h => by omega
    · unfold nI; rw [List.pairwise_map]; exact hp.imp fun h => by omega
    · unfold nI
      simp only [List.mem_map]
      constructor
      · rintro ⟨a, h1, rfl⟩; exact ⟨a, (joinP_bit u a).1 (mem_bitsL.1 h1).2, rfl⟩
      · rintro ⟨a, h1, rfl⟩; exact ⟨a, mem_bitsL.2 ⟨h a h1, (joinP_bit u a).2 h1⟩, rfl⟩
  have := congrArg (List.map Int.toNat) key
  simpa [nI, Function.comp_def] using this
theorem bit_low {x n i : Nat} (hx : x < 2 ^ n) (h : x.testBit i = true) : i < n := by
  by_cases c : i < n
  · exact c
  · rw [Nat.testBit_lt_two_pow (Nat.lt_of_lt_of_le hx (Nat.pow_le_pow_right (by omega) (by omega)))] at h; cases h
theorem pok_num {tie : List Nat} (hn : tie.length ≤ 16) {lift feet x : Nat} (hx : x < 2 ^ tie.length) : Pok tie lift feet (bitsL x) ↔ (bitsL x).length ≤ feet ∧ lfK tie x tie.length = lift := by
  have hb : ∀ b, (∃ i ∈ bitsL x, (tie.getD i 0).testBit b = true) ↔ (lfK tie x tie.length).testBit b = true := fun b => by
    rw [lfK_bit]
    constructor
    · rintro ⟨i, h1, h2⟩; exact ⟨i, bit_low hx (mem_bitsL.1 h1).2, (mem_bitsL.1 h1).2, h2⟩
    · rintro ⟨i, h1, h2, h3⟩; exact ⟨i, mem_bitsL.2 ⟨by omega, h2⟩, h3⟩
  constructor
  · intro h
    refine ⟨h.len, Nat.eq_of_testBit_eq fun b => Bool.eq_iff_iff.2 ?_⟩
    have := h.lif b
    simp only [Nat.zero_testBit, Bool.false_eq_true, false_or] at this
    rw [this, hb]
  · rintro ⟨h1, h2⟩
    refine ⟨h1, bitsL_inc x, fun i hi => bit_low hx (mem_bitsL.1 hi).2, fun b => ?_⟩
    simp only [Nat.zero_testBit, Bool.false_eq_true, false_or]
    rw [hb, h2]
/-- The best of the numbers below n. -/
def PB (tie : List Nat) (lift feet n : Nat) : Option Nat → Prop
  | none => ∀ y, y < n → ¬ Pok tie lift feet (bitsL y)
  | some y => y < n ∧ Pok tie lift feet (bitsL y) ∧ ∀ z, z < n → Pok tie lift feet (bitsL z) → ¬ btr (bitsL z) (bitsL y)
theorem pb_bst {tie : List Nat} (hn : tie.length ≤ 16) {lift feet : Nat} {o : Option Nat} (h : PB tie lift feet (2 ^ tie.length) o) : Bst tie lift feet (o.map bitsL) := by
  have hv : ∀ v, Pok tie lift feet v → famL v < 2 ^ tie.length ∧ bitsL (famL v) = v := fun v hv =>
    ⟨famL_lt hv.low, bits_famL hv.inc fun i hi => by have := hv.low i hi; omega⟩
  cases o with
  | none =>
    intro v hp
    obtain ⟨h1, h2⟩ := hv v hp
    exact h _ h1 (by rw [h2]; exact hp)
  | some y =>
    refine ⟨h.2.1, fun v hp => ?_⟩
    obtain ⟨h1, h2⟩ := hv v hp
    have := h.2.2 _ h1 (by rw [h2]; exact hp)
    rwa [h2] at this
def pbI : Option Nat → Int
  | none => -1
  | some y => y
def prI : Option (List Nat) → Int
  | none => -1
  | some u => famL u
theorem pressing_c (b : Bool) {tie : List Nat} (hn : tie.length ≤ 15) (ht : ∀ i, i < tie.length → tie.getD i 0 < 16) {lift feet : Nat} (hl : lift < 16) (r : Option (List Nat)) (hr : Bst tie lift feet r) :
    Contract Tryd.prog 53 [LA b (nI tie), I lift, I feet] (I (prI r)) := by
  have lt := nI_len tie
  have hsh := shl64 (n := tie.length) (by omega)
  have hp16 : 2 ^ tie.length ≤ 2 ^ 15 := Nat.pow_le_pow_right (by omega) hn
  have hN : 2 ^ tie.length ≤ 32768 := hp16
  have hpn : ∀ x : Nat, x < 2 ^ tie.length → (Pok tie lift feet (bitsL x) ↔ (bitsL x).length ≤ feet ∧ lfK tie x tie.length = lift) := fun x hx => pok_num (by omega) hx
  have hfin : ∀ o, PB tie lift feet (2 ^ tie.length) o → pbI o = prI r := fun o ho => by
    have h1 := bst_unique hr (pb_bst (by omega) ho)
    cases o with
    | none => rw [h1]; rfl
    | some y =>
      rw [h1]
      show (y : Int) = ((famL (bitsL y) : Nat) : Int)
      rw [famL_bits (by have := ho.1; omega)]
  have hlf : ∀ x : Nat, x < 2 ^ tie.length → Contract Tryd.prog 75 [LA b (nI tie), I x] (I (lfK tie x tie.length)) := fun x hx => lifted_c b (by omega) ht (by omega)
  have hlt16 : ∀ x, lfK tie x tie.length < 16 := fun x => lfK_lt ht x _ (Nat.le_refl _)
  have hones : ∀ x : Nat, x < 2 ^ tie.length → Contract Tryd.prog 74 [I x] (I (bitsL x).length) := fun x hx => onesR_c (by omega)
  have hbe : ∀ x y : Nat, x < 2 ^ tie.length → y < 2 ^ tie.length → ∀ q : Bool, (q = true ↔ btr (bitsL x) (bitsL y)) → Contract Tryd.prog 76 [I x, I y] (B q) := fun x y hx hy q hq => better_c (by omega) (by omega) q hq
  have hlen16 : ∀ x, (bitsL x).length ≤ 16 := fun x => by unfold bitsL; exact Nat.le_trans (List.length_filter_le _ _) (by simp)
  generalize hM : 2 ^ tie.length = M at *
  rw [← lt] at hsh
  refine Contract.intro (effS [] false) 6 follows Tryd.func53 rfl rfl (by kernel_rfl) (Nat.le_of_ble_eq_true rfl) ?_
  simp (disch := first | assumption | omega | rfl | simp only [RH]) only [↓RP, RG, FX, RQ, ↓reduceIte, Nat.reduceEqDiff, reduceCtorEq, Nat.reduceBEq, Nat.reduceAdd, Nat.reduceLeDiff, args0_3]
  refine loopK_I [0, 1, 2, 7, 8] (fun s : Nat × Option Nat => s.1 ≤ M ∧ PB tie lift feet s.1 s.2) (fun s => ⟨[(0, LA b (nI tie)), (1, I lift), (2, I feet), (7, I (pbI s.2)), (8, I s.1)], []⟩) (fun s => M - s.1) (0, none) ⟨by simp only; omega, fun y hy => by simp at hy⟩ (by simp only [↓RP, RG, FX, RQ, ↓reduceIte, Nat.reduceEqDiff, reduceCtorEq, Nat.reduceBEq, Nat.reduceAdd, Nat.reduceLeDiff]; rfl) ?_
  rintro ⟨x, o⟩ ⟨h1, h2⟩
  simp only at h1 h2 ⊢
  by_cases hlt : x < M
  · have c1 := hones x hlt
    have c2 := hlf x hlt
    have hx16 := hlt16 x
    have hl16 := hlen16 x
    have hpx := hpn x hlt
    have hno : ¬ Pok tie lift feet (bitsL x) → PB tie lift feet (x + 1) o := fun h => by
      cases o with
      | none =>
        intro y hy hp
        by_cases e : y = x
        · subst e; exact h hp
        · exact h2 y (by omega) hp
      | some y0 =>
        refine ⟨by have := h2.1; omega, h2.2.1, fun z hz hp => ?_⟩
        by_cases e : z = x
        · subst e; exact absurd hp h
        · exact h2.2.2 z (by omega) hp
    by_cases d1 : (bitsL x).length ≤ feet
    · by_cases d2 : lfK tie x tie.length = lift
      · have hp := hpx.2 ⟨d1, d2⟩
        cases o with
        | none =>
          have hst : PB tie lift feet (x + 1) (some x) := ⟨by omega, hp, fun z hz hpz => by
            by_cases e : z = x
            · subst e; exact btr_irr _
            · exact absurd hpz (h2 z (by omega))⟩
          generalize (bitsL x).length = n at *
          generalize lfK tie x tie.length = q at *
          simp (disch := first | assumption | omega | rfl | simp only [RH]) only [↓RP, RG, FX, RQ, ↓reduceIte, Nat.reduceEqDiff, reduceCtorEq, Nat.reduceBEq, Nat.reduceAdd, Nat.reduceLeDiff, aBin_shl, hsh, pbI]
          refine callK_F 6 (c1) (by simp (disch := first | assumption | omega | rfl | simp only [RH]) only [↓RP, RG, FX, RQ, ↓reduceIte, Nat.reduceEqDiff, reduceCtorEq, Nat.reduceBEq, Nat.reduceAdd, Nat.reduceLeDiff, RA] <;> rfl) (.inl (by simp [allFresh, ints_fresh, bools_fresh])) ?_
          simp (disch := first | assumption | omega | rfl | simp only [RH]) only [↓RP, RG, FX, RQ, ↓reduceIte, Nat.reduceEqDiff, reduceCtorEq, Nat.reduceBEq, Nat.reduceAdd, Nat.reduceLeDiff]
          refine callK_F 6 (c2) (by simp (disch := first | assumption | omega | rfl | simp only [RH]) only [↓RP, RG, FX, RQ, ↓reduceIte, Nat.reduceEqDiff, reduceCtorEq, Nat.reduceBEq, Nat.reduceAdd, Nat.reduceLeDiff, RA] <;> rfl) (.inl (by simp [allFresh, ints_fresh, bools_fresh])) ?_
          simp (disch := first | assumption | omega | rfl | simp only [RH]) only [↓RP, RG, FX, RQ, ↓reduceIte, Nat.reduceEqDiff, reduceCtorEq, Nat.reduceBEq, Nat.reduceAdd, Nat.reduceLeDiff]
          exact ⟨(x + 1, some x), ⟨hlt, hst⟩, rfl, by simp only; omega⟩
        | some y =>
          obtain ⟨e1, e2, e3⟩ := h2
          by_cases d3 : btr (bitsL x) (bitsL y)
          · have c3 := hbe x y hlt (by omega) true ⟨fun _ => d3, fun _ => rfl⟩
            have hst : PB tie lift feet (x + 1) (some x) := ⟨by omega, hp, fun z hz hpz => by
              by_cases e : z = x
              · subst e; exact btr_irr _
              · exact fun h => e3 z (by omega) hpz (btr_trans h d3)⟩
            generalize (bitsL x).length = n at *
            generalize lfK tie x tie.length = q at *
            simp (disch := first | assumption | omega | rfl | simp only [RH]) only [↓RP, RG, FX, RQ, ↓reduceIte, Nat.reduceEqDiff, reduceCtorEq, Nat.reduceBEq, Nat.reduceAdd, Nat.reduceLeDiff, aBin_shl, hsh, pbI]
            refine callK_F 6 (c1) (by simp (disch := first | assumption | omega | rfl | simp only [RH]) only [↓RP, RG, FX, RQ, ↓reduceIte, Nat.reduceEqDiff, reduceCtorEq, Nat.reduceBEq, Nat.reduceAdd, Nat.reduceLeDiff, RA] <;> rfl) (.inl (by simp [allFresh, ints_fresh, bools_fresh])) ?_
            simp (disch := first | assumption | omega | rfl | simp only [RH]) only [↓RP, RG, FX, RQ, ↓reduceIte, Nat.reduceEqDiff, reduceCtorEq, Nat.reduceBEq, Nat.reduceAdd, Nat.reduceLeDiff]
            refine callK_F 6 (c2) (by simp (disch := first | assumption | omega | rfl | simp only [RH]) only [↓RP, RG, FX, RQ, ↓reduceIte, Nat.reduceEqDiff, reduceCtorEq, Nat.reduceBEq, Nat.reduceAdd, Nat.reduceLeDiff, RA] <;> rfl) (.inl (by simp [allFresh, ints_fresh, bools_fresh])) ?_
            simp (disch := first | assumption | omega | rfl | simp only [RH]) only [↓RP, RG, FX, RQ, ↓reduceIte, Nat.reduceEqDiff, reduceCtorEq, Nat.reduceBEq, Nat.reduceAdd, Nat.reduceLeDiff]
            refine callK_F 6 (c3) (by simp (disch := first | assumption | omega | rfl | simp only [RH]) only [↓RP, RG, FX, RQ, ↓reduceIte, Nat.reduceEqDiff, reduceCtorEq, Nat.reduceBEq, Nat.reduceAdd, Nat.reduceLeDiff, RA] <;> rfl) (.inl (by simp [allFresh, ints_fresh, bools_fresh])) ?_
            simp (disch := first | assumption | omega | rfl | simp only [RH]) only [↓RP, RG, FX, RQ, ↓reduceIte, Nat.reduceEqDiff, reduceCtorEq, Nat.reduceBEq, Nat.reduceAdd, Nat.reduceLeDiff]
            exact ⟨(x + 1, some x), ⟨hlt, hst⟩, rfl, by simp only; omega⟩
          · have c3 := hbe x y hlt (by omega) false ⟨(fun h => by cases h), fun h => absurd h d3⟩
            have hst : PB tie lift feet (x + 1) (some y) := ⟨by omega, e2, fun z hz hpz => by
              by_cases e : z = x
              · subst e; exact d3
              · exact e3 z (by omega) hpz⟩
            generalize (bitsL x).length = n at *
            generalize lfK tie x tie.length = q at *
            simp (disch := first | assumption | omega | rfl | simp only [RH]) only [↓RP, RG, FX, RQ, ↓reduceIte, Nat.reduceEqDiff, reduceCtorEq, Nat.reduceBEq, Nat.reduceAdd, Nat.reduceLeDiff, aBin_shl, hsh, pbI]
            refine callK_F 6 (c1) (by simp (disch := first | assumption | omega | rfl | simp only [RH]) only [↓RP, RG, FX, RQ, ↓reduceIte, Nat.reduceEqDiff, reduceCtorEq, Nat.reduceBEq, Nat.reduceAdd, Nat.reduceLeDiff, RA] <;> rfl) (.inl (by simp [allFresh, ints_fresh, bools_fresh])) ?_
            simp (disch := first | assumption | omega | rfl | simp only [RH]) only [↓RP, RG, FX, RQ, ↓reduceIte, Nat.reduceEqDiff, reduceCtorEq, Nat.reduceBEq, Nat.reduceAdd, Nat.reduceLeDiff]
            refine callK_F 6 (c2) (by simp (disch := first | assumption | omega | rfl | simp only [RH]) only [↓RP, RG, FX, RQ, ↓reduceIte, Nat.reduceEqDiff, reduceCtorEq, Nat.reduceBEq, Nat.reduceAdd, Nat.reduceLeDiff, RA] <;> rfl) (.inl (by simp [allFresh, ints_fresh, bools_fresh])) ?_
            simp (disch := first | assumption | omega | rfl | simp only [RH]) only [↓RP, RG, FX, RQ, ↓reduceIte, Nat.reduceEqDiff, reduceCtorEq, Nat.reduceBEq, Nat.reduceAdd, Nat.reduceLeDiff]
            refine callK_F 6 (c3) (by simp (disch := first | assumption | omega | rfl | simp only [RH]) only [↓RP, RG, FX, RQ, ↓reduceIte, Nat.reduceEqDiff, reduceCtorEq, Nat.reduceBEq, Nat.reduceAdd, Nat.reduceLeDiff, RA] <;> rfl) (.inl (by simp [allFresh, ints_fresh, bools_fresh])) ?_
            simp (disch := first | assumption | omega | rfl | simp only [RH]) only [↓RP, RG, FX, RQ, ↓reduceIte, Nat.reduceEqDiff, reduceCtorEq, Nat.reduceBEq, Nat.reduceAdd, Nat.reduceLeDiff]
            exact ⟨(x + 1, some y), ⟨hlt, hst⟩, rfl, by simp only; omega⟩
      · have hnx := hno fun h => d2 (hpx.1 h).2
        generalize (bitsL x).length = n at *
        generalize lfK tie x tie.length = q at *
        simp (disch := first | assumption | omega | rfl | simp only [RH]) only [↓RP, RG, FX, RQ, ↓reduceIte, Nat.reduceEqDiff, reduceCtorEq, Nat.reduceBEq, Nat.reduceAdd, Nat.reduceLeDiff, aBin_shl, hsh]
        refine callK_F 6 (c1) (by simp (disch := first | assumption | omega | rfl | simp only [RH]) only [↓RP, RG, FX, RQ, ↓reduceIte, Nat.reduceEqDiff, reduceCtorEq, Nat.reduceBEq, Nat.reduceAdd, Nat.reduceLeDiff, RA] <;> rfl) (.inl (by simp [allFresh, ints_fresh, bools_fresh])) ?_
        simp (disch := first | assumption | omega | rfl | simp only [RH]) only [↓RP, RG, FX, RQ, ↓reduceIte, Nat.reduceEqDiff, reduceCtorEq, Nat.reduceBEq, Nat.reduceAdd, Nat.reduceLeDiff]
        refine callK_F 6 (c2) (by simp (disch := first | assumption | omega | rfl | simp only [RH]) only [↓RP, RG, FX, RQ, ↓reduceIte, Nat.reduceEqDiff, reduceCtorEq, Nat.reduceBEq, Nat.reduceAdd, Nat.reduceLeDiff, RA] <;> rfl) (.inl (by simp [allFresh, ints_fresh, bools_fresh])) ?_
        simp (disch := first | assumption | omega | rfl | simp only [RH]) only [↓RP, RG, FX, RQ, ↓reduceIte, Nat.reduceEqDiff, reduceCtorEq, Nat.reduceBEq, Nat.reduceAdd, Nat.reduceLeDiff]
        exact ⟨(x + 1, o), ⟨hlt, hnx⟩, rfl, by simp only; omega⟩
    · have hnx := hno fun h => d1 (hpx.1 h).1
      generalize (bitsL x).length = n at *
      simp (disch := first | assumption | omega | rfl | simp only [RH]) only [↓RP, RG, FX, RQ, ↓reduceIte, Nat.reduceEqDiff, reduceCtorEq, Nat.reduceBEq, Nat.reduceAdd, Nat.reduceLeDiff, aBin_shl, hsh]
      refine callK_F 6 (c1) (by simp (disch := first | assumption | omega | rfl | simp only [RH]) only [↓RP, RG, FX, RQ, ↓reduceIte, Nat.reduceEqDiff, reduceCtorEq, Nat.reduceBEq, Nat.reduceAdd, Nat.reduceLeDiff, RA] <;> rfl) (.inl (by simp [allFresh, ints_fresh, bools_fresh])) ?_
      simp (disch := first | assumption | omega | rfl | simp only [RH]) only [↓RP, RG, FX, RQ, ↓reduceIte, Nat.reduceEqDiff, reduceCtorEq, Nat.reduceBEq, Nat.reduceAdd, Nat.reduceLeDiff]
      exact ⟨(x + 1, o), ⟨hlt, hnx⟩, rfl, by simp only; omega⟩
  · obtain rfl : x = M := by omega
    have hf := hfin o h2
    simp (disch := first | assumption | omega | rfl | simp only [RH]) only [↓RP, RG, FX, RQ, ↓reduceIte, Nat.reduceEqDiff, reduceCtorEq, Nat.reduceBEq, Nat.reduceAdd, Nat.reduceLeDiff, aBin_shl, hsh]
    rw [resVal_1 rfl]; simp (disch := first | assumption | omega | rfl | simp only [RH]) only [↓RP, RG, FX, RQ, ↓reduceIte, Nat.reduceEqDiff, reduceCtorEq, Nat.reduceBEq, Nat.reduceAdd, Nat.reduceLeDiff, RS]
    rw [hf]
theorem indices_c {x : Nat} (hx : x < 65536) : Contract Tryd.prog 52 [I x] (LR (nI (bitsL x)).isEmpty (nI (bitsL x))) := by
  refine Contract.intro (effS [] false) 6 follows Tryd.func52 rfl rfl (by kernel_rfl) (Nat.le_of_ble_eq_true rfl) ?_
  simp (disch := first | assumption | omega | rfl | simp only [RH]) only [↓RP, RG, FX, RQ, ↓reduceIte, Nat.reduceEqDiff, reduceCtorEq, Nat.reduceBEq, Nat.reduceAdd, Nat.reduceLeDiff, args0_1]
  refine loopK_W [0, 3, 4] (fun i : Nat => i ≤ 16) (fun i => ⟨[(0, I x), (3, gw true 0 (ints (nI (bitsK x i)))), (4, I i)], [go 3 (ints (nI (bitsK x i)))]⟩) (fun i => 16 - i) 0 (by omega) (by
    simp only [↓RP, RG, FX, RQ, ↓reduceIte, Nat.reduceEqDiff, reduceCtorEq, Nat.reduceBEq, Nat.reduceAdd, Nat.reduceLeDiff]
    exact Wk.weak (WE.cons _ (.refl _) (WE.cons _ (.nil _) (WE.cons _ (.refl _) WE.nil))) (.nil _ (by simp [go, ints, nI, bitsK]))) ?_
  intro i hi
  have hl := bitsK_len x i
  have hn := nI_len (bitsK x i)
  by_cases hlt : i < 16
  · obtain ⟨s1, s2⟩ := dig_ops (i := i) hx (by omega)
    have hd := dig_lt x i
    by_cases h : dig x i = 1
    · have hs : nI (bitsK x (i + 1)) = nI (bitsK x i) ++ [(i : Int)] := by rw [bitsK_t h, nI_app]
      generalize dig x i = d at *
      generalize x / 2 ^ i = q at *
      simp (disch := first | assumption | omega | rfl | simp only [RH]) only [↓RP, RG, FX, RQ, ↓reduceIte, Nat.reduceEqDiff, reduceCtorEq, Nat.reduceBEq, Nat.reduceAdd, Nat.reduceLeDiff, aBin_shr, s1, s2, append_int]
      exact ⟨i + 1, hlt, by rw [hs]; rfl, by omega⟩
    · have hs : nI (bitsK x (i + 1)) = nI (bitsK x i) := by rw [bitsK_f h]
      generalize dig x i = d at *
      generalize x / 2 ^ i = q at *
      simp (disch := first | assumption | omega | rfl | simp only [RH]) only [↓RP, RG, FX, RQ, ↓reduceIte, Nat.reduceEqDiff, reduceCtorEq, Nat.reduceBEq, Nat.reduceAdd, Nat.reduceLeDiff, aBin_shr, s1, s2]
      exact ⟨i + 1, hlt, by rw [hs]; rfl, by omega⟩
  · obtain rfl : i = 16 := by omega
    simp (disch := first | assumption | omega | rfl | simp only [RH]) only [↓RP, RG, FX, RQ, ↓reduceIte, Nat.reduceEqDiff, reduceCtorEq, Nat.reduceBEq, Nat.reduceAdd, Nat.reduceLeDiff]
    rw [resVal_1 rfl]; simp (disch := first | assumption | omega | rfl | simp only [RH]) only [↓RP, RG, FX, RQ, ↓reduceIte, Nat.reduceEqDiff, reduceCtorEq, Nat.reduceBEq, Nat.reduceAdd, Nat.reduceLeDiff, RS]
    simp only [Bool.true_and, ints_isEmpty]
    first | done | rfl
end Go.Proofs.YtlckfakifamjiaaDoor

/- Lifts by the reference. -/
set_option linter.unusedSimpArgs false
set_option linter.unusedVariables false
set_option maxRecDepth 100000
namespace Go.Proofs.YtlckfakifamjiaaDoor
open Go Go.Proofs Go.AW

theorem cellU (W : Nat) (l : List Bool) (x y : Nat) : cell W l x y = l.getD (W * y + x) false := by rw [cell, idx_nat]
theorem cellV {W H : Nat} {n x y : Nat} (hn : n = W * H) (hx : x < W) (hy : y < H) (hW : W ≤ 64) (hH : H ≤ 64) : 0 ≤ (y : Int) * W + x ∧ (y : Int) * W + x < n ∧ 0 ≤ (y : Int) * W ∧ (y : Int) * W ≤ 1000000000000 ∧ n ≤ 4096 := by
  have e : (y : Int) * (W : Int) = ((W * y : Nat) : Int) := by rw [Int.natCast_mul, Int.mul_comm]
  have := idx_lt hx hy
  have : W * H ≤ 64 * 64 := Nat.mul_le_mul hW hH
  omega
theorem pow2_16 {i : Nat} (hi : i < 4) : 2 ^ i < 16 := Nat.pow_lt_pow_right (m := i) (n := 4) (by omega) hi
theorem rowR_c {W H : Nat} (hW4 : W ≤ 4) (hH : H ≤ 64) (b : Bool) {l : List Bool} (hn : l.length = W * H) {y : Nat} (hy : y < H) : Contract Tryd.prog 54 [GA W H b l, I y] (I (rowK W l y W)) := by
  have hat : ∀ s, s < W → Contract Tryd.prog 15 [GA W H b l, I s, I y] (B (l.getD (W * y + s) false)) := fun s hs => by
    obtain ⟨i1, i2, i3, i4, i5⟩ := cellV hn hs hy (by omega) hH
    have := at_c (W : Int) H b l s y i1 i2 (by omega) i3 i4
    rwa [cellU] at this
  refine Contract.intro (effS [] false) 6 follows Tryd.func54 rfl rfl (by kernel_rfl) (Nat.le_of_ble_eq_true rfl) ?_
  simp (disch := first | assumption | omega | rfl | simp only [RH]) only [↓RP, RG, FX, RQ, ↓reduceIte, Nat.reduceEqDiff, reduceCtorEq, Nat.reduceBEq, Nat.reduceAdd, Nat.reduceLeDiff, args0_2]
  refine loopK_I [1, 2, 5, 6] (fun s : Nat => s ≤ W) (fun s => ⟨[(1, I y), (2, .ptr 0 0 3), (5, I (rowK W l y s)), (6, I s)], [⟨25, 3, [I W, I H, BA b l]⟩]⟩) (fun s => W - s) 0 (by omega) (by simp only [↓RP, RG, FX, RQ, ↓reduceIte, Nat.reduceEqDiff, reduceCtorEq, Nat.reduceBEq, Nat.reduceAdd, Nat.reduceLeDiff]; rfl) ?_
  intro s hs
  by_cases hlt : s < W
  · have hA := hat s hlt
    have hsh := shl64 (n := s) (by omega)
    have hk : rowK W l y s < 16 := Nat.lt_of_lt_of_le (rowK_lt W l y s) (by have := Nat.pow_le_pow_right (n := 2) (by omega) (show s ≤ 4 by omega); simpa using this)
    have hp := pow2_16 (i := s) (by omega)
    have hor := or64 hk hp
    have hst : rowK W l y (s + 1) = if l.getD (W * y + s) false = true then rowK W l y s ||| 2 ^ s else rowK W l y s := rfl
    generalize 2 ^ s = q at *
    cases hb : l.getD (W * y + s) false with
    | true =>
      rw [hb, if_pos rfl] at hst
      rw [hb] at hA
      simp (disch := first | assumption | omega | rfl | simp only [RH]) only [↓RP, RG, FX, RQ, ↓reduceIte, Nat.reduceEqDiff, reduceCtorEq, Nat.reduceBEq, Nat.reduceAdd, Nat.reduceLeDiff]
      refine callK_F 6 (hA) (by simp (disch := first | assumption | omega | rfl | simp only [RH]) only [↓RP, RG, FX, RQ, ↓reduceIte, Nat.reduceEqDiff, reduceCtorEq, Nat.reduceBEq, Nat.reduceAdd, Nat.reduceLeDiff, RA] <;> rfl) (.inl (by simp [allFresh, ints_fresh, bools_fresh])) ?_
      simp (disch := first | assumption | omega | rfl | simp only [RH]) only [↓RP, RG, FX, RQ, ↓reduceIte, Nat.reduceEqDiff, reduceCtorEq, Nat.reduceBEq, Nat.reduceAdd, Nat.reduceLeDiff, aBin_shl, hsh, hor]
      exact ⟨s + 1, hlt, by rw [hst]; rfl, by omega⟩
    | false =>
      rw [hb, if_neg (by simp)] at hst
      rw [hb] at hA
      simp (disch := first | assumption | omega | rfl | simp only [RH]) only [↓RP, RG, FX, RQ, ↓reduceIte, Nat.reduceEqDiff, reduceCtorEq, Nat.reduceBEq, Nat.reduceAdd, Nat.reduceLeDiff]
      refine callK_F 6 (hA) (by simp (disch := first | assumption | omega | rfl | simp only [RH]) only [↓RP, RG, FX, RQ, ↓reduceIte, Nat.reduceEqDiff, reduceCtorEq, Nat.reduceBEq, Nat.reduceAdd, Nat.reduceLeDiff, RA] <;> rfl) (.inl (by simp [allFresh, ints_fresh, bools_fresh])) ?_
      simp (disch := first | assumption | omega | rfl | simp only [RH]) only [↓RP, RG, FX, RQ, ↓reduceIte, Nat.reduceEqDiff, reduceCtorEq, Nat.reduceBEq, Nat.reduceAdd, Nat.reduceLeDiff]
      exact ⟨s + 1, hlt, by rw [hst]; rfl, by omega⟩
  · obtain rfl : s = W := by omega
    simp (disch := first | assumption | omega | rfl | simp only [RH]) only [↓RP, RG, FX, RQ, ↓reduceIte, Nat.reduceEqDiff, reduceCtorEq, Nat.reduceBEq, Nat.reduceAdd, Nat.reduceLeDiff]
    rw [resVal_1 rfl]; simp (disch := first | assumption | omega | rfl | simp only [RH]) only [↓RP, RG, FX, RQ, ↓reduceIte, Nat.reduceEqDiff, reduceCtorEq, Nat.reduceBEq, Nat.reduceAdd, Nat.reduceLeDiff, RS]
theorem liftsR_bad (w h : Int) (b : Bool) (l : List Bool) (hz : gchk w h l.length ≠ 0) : Contract Tryd.prog 49 [GA w h b l] (.tuple [LR true [], I (gchk w h l.length)]) := by
  have hgk := gcheckR_c w h b l
  generalize gchk w h l.length = e at *
  refine Contract.intro (effS [] false) 6 follows Tryd.func49 rfl rfl (by kernel_rfl) (Nat.le_of_ble_eq_true rfl) ?_
  simp (disch := first | assumption | omega | rfl | simp only [RH]) only [↓RP, RG, FX, RQ, ↓reduceIte, Nat.reduceEqDiff, reduceCtorEq, Nat.reduceBEq, Nat.reduceAdd, Nat.reduceLeDiff, args0_1]
  refine callK_F 6 (hgk) (by simp (disch := first | assumption | omega | rfl | simp only [RH]) only [↓RP, RG, FX, RQ, ↓reduceIte, Nat.reduceEqDiff, reduceCtorEq, Nat.reduceBEq, Nat.reduceAdd, Nat.reduceLeDiff, RA] <;> rfl) (.inl (by simp [allFresh, ints_fresh, bools_fresh])) ?_
  simp (disch := first | assumption | omega | rfl | simp only [RH]) only [↓RP, RG, FX, RQ, ↓reduceIte, Nat.reduceEqDiff, reduceCtorEq, Nat.reduceBEq, Nat.reduceAdd, Nat.reduceLeDiff]
  refine callK_F 6 (hgk) (by simp (disch := first | assumption | omega | rfl | simp only [RH]) only [↓RP, RG, FX, RQ, ↓reduceIte, Nat.reduceEqDiff, reduceCtorEq, Nat.reduceBEq, Nat.reduceAdd, Nat.reduceLeDiff, RA] <;> rfl) (.inl (by simp [allFresh, ints_fresh, bools_fresh])) ?_
  simp (disch := first | assumption | omega | rfl | simp only [RH]) only [↓RP, RG, FX, RQ, ↓reduceIte, Nat.reduceEqDiff, reduceCtorEq, Nat.reduceBEq, Nat.reduceAdd, Nat.reduceLeDiff]
  rw [resVal_2 rfl]; simp (disch := first | assumption | omega | rfl | simp only [RH]) only [↓RP, RG, FX, RQ, ↓reduceIte, Nat.reduceEqDiff, reduceCtorEq, Nat.reduceBEq, Nat.reduceAdd, Nat.reduceLeDiff, RS]
  first | done | rfl
theorem liftsR_many (w h : Int) (b : Bool) (l : List Bool) (hz : gchk w h l.length = 0) (hw : 4 < w) : Contract Tryd.prog 49 [GA w h b l] (.tuple [LR true [], I 4]) := by
  have hgk := gcheckR_c w h b l
  rw [hz] at hgk
  refine Contract.intro (effS [] false) 6 follows Tryd.func49 rfl rfl (by kernel_rfl) (Nat.le_of_ble_eq_true rfl) ?_
  simp (disch := first | assumption | omega | rfl | simp only [RH]) only [↓RP, RG, FX, RQ, ↓reduceIte, Nat.reduceEqDiff, reduceCtorEq, Nat.reduceBEq, Nat.reduceAdd, Nat.reduceLeDiff, args0_1]
  refine callK_F 6 (hgk) (by simp (disch := first | assumption | omega | rfl | simp only [RH]) only [↓RP, RG, FX, RQ, ↓reduceIte, Nat.reduceEqDiff, reduceCtorEq, Nat.reduceBEq, Nat.reduceAdd, Nat.reduceLeDiff, RA] <;> rfl) (.inl (by simp [allFresh, ints_fresh, bools_fresh])) ?_
  simp (disch := first | assumption | omega | rfl | simp only [RH]) only [↓RP, RG, FX, RQ, ↓reduceIte, Nat.reduceEqDiff, reduceCtorEq, Nat.reduceBEq, Nat.reduceAdd, Nat.reduceLeDiff]
  rw [resVal_2 rfl]; simp (disch := first | assumption | omega | rfl | simp only [RH]) only [↓RP, RG, FX, RQ, ↓reduceIte, Nat.reduceEqDiff, reduceCtorEq, Nat.reduceBEq, Nat.reduceAdd, Nat.reduceLeDiff, RS]
  first | done | rfl
theorem liftsP_bad (w h : Int) (b : Bool) (l : List Bool) (hz : gchk w h l.length ≠ 0) : Contract Tryd.prog 18 [GA w h b l] (.tuple [LR true [], I (gchk w h l.length)]) := by
  have hgk := gcheckP_c w h b l
  generalize gchk w h l.length = e at *
  refine Contract.intro (effS [] false) 6 follows Tryd.func18 rfl rfl (by kernel_rfl) (Nat.le_of_ble_eq_true rfl) ?_
  simp (disch := first | assumption | omega | rfl | simp only [RH]) only [↓RP, RG, FX, RQ, ↓reduceIte, Nat.reduceEqDiff, reduceCtorEq, Nat.reduceBEq, Nat.reduceAdd, Nat.reduceLeDiff, args0_1]
  refine callK_F 6 (hgk) (by simp (disch := first | assumption | omega | rfl | simp only [RH]) only [↓RP, RG, FX, RQ, ↓reduceIte, Nat.reduceEqDiff, reduceCtorEq, Nat.reduceBEq, Nat.reduceAdd, Nat.reduceLeDiff, RA] <;> rfl) (.inl (by simp [allFresh, ints_fresh, bools_fresh])) ?_
  simp (disch := first | assumption | omega | rfl | simp only [RH]) only [↓RP, RG, FX, RQ, ↓reduceIte, Nat.reduceEqDiff, reduceCtorEq, Nat.reduceBEq, Nat.reduceAdd, Nat.reduceLeDiff]
  rw [resVal_2 rfl]; simp (disch := first | assumption | omega | rfl | simp only [RH]) only [↓RP, RG, FX, RQ, ↓reduceIte, Nat.reduceEqDiff, reduceCtorEq, Nat.reduceBEq, Nat.reduceAdd, Nat.reduceLeDiff, RS]
  first | done | rfl
theorem liftsP_many (w h : Int) (b : Bool) (l : List Bool) (hz : gchk w h l.length = 0) (hw : 4 < w) : Contract Tryd.prog 18 [GA w h b l] (.tuple [LR true [], I 4]) := by
  have hgk := gcheckP_c w h b l
  rw [hz] at hgk
  refine Contract.intro (effS [] false) 6 follows Tryd.func18 rfl rfl (by kernel_rfl) (Nat.le_of_ble_eq_true rfl) ?_
  simp (disch := first | assumption | omega | rfl | simp only [RH]) only [↓RP, RG, FX, RQ, ↓reduceIte, Nat.reduceEqDiff, reduceCtorEq, Nat.reduceBEq, Nat.reduceAdd, Nat.reduceLeDiff, args0_1]
  refine callK_F 6 (hgk) (by simp (disch := first | assumption | omega | rfl | simp only [RH]) only [↓RP, RG, FX, RQ, ↓reduceIte, Nat.reduceEqDiff, reduceCtorEq, Nat.reduceBEq, Nat.reduceAdd, Nat.reduceLeDiff, RA] <;> rfl) (.inl (by simp [allFresh, ints_fresh, bools_fresh])) ?_
  simp (disch := first | assumption | omega | rfl | simp only [RH]) only [↓RP, RG, FX, RQ, ↓reduceIte, Nat.reduceEqDiff, reduceCtorEq, Nat.reduceBEq, Nat.reduceAdd, Nat.reduceLeDiff]
  rw [resVal_2 rfl]; simp (disch := first | assumption | omega | rfl | simp only [RH]) only [↓RP, RG, FX, RQ, ↓reduceIte, Nat.reduceEqDiff, reduceCtorEq, Nat.reduceBEq, Nat.reduceAdd, Nat.reduceLeDiff, RS]
  first | done | rfl
/-- The lifts below x that are not empty. -/
def nzU (L : List Nat) (x : Nat) : List Nat := (List.range x).filter fun y => decide (0 < y ∧ y ∈ L)
theorem nzU_len_le (L : List Nat) (x : Nat) : (nzU L x).length ≤ x := Nat.le_trans (List.length_filter_le _ _) (by simp)
theorem nzU_t {L : List Nat} {x : Nat} (h0 : 0 < x) (h : x ∈ L) : nzU L (x + 1) = nzU L x ++ [x] := by
  unfold nzU; rw [List.range_succ, List.filter_append, List.filter_cons_of_pos (by simp [h0, h]), List.filter_nil]
theorem nzU_f {L : List Nat} {x : Nat} (h : x ∉ L) : nzU L (x + 1) = nzU L x := by
  unfold nzU; rw [List.range_succ, List.filter_append, List.filter_cons_of_neg (by simp [h]), List.filter_nil, List.append_nil]
theorem liftsR_c {W H : Nat} (hW1 : 1 ≤ W) (hW4 : W ≤ 4) (hH1 : 1 ≤ H) (hH : H ≤ 64) (b : Bool) {l : List Bool} (hn : l.length = W * H) : Contract Tryd.prog 49 [GA W H b l] (.tuple [LR (nzL W (rowsL W l H)).isEmpty (nI (nzL W (rowsL W l H))), I 0]) := by
  obtain ⟨p1, p2⟩ := pow4 hW4
  have hgk := gcheckR_c W H b l
  rw [gchk_ok ⟨by omega, by omega, by omega, by omega, by rw [← Int.natCast_mul, hn]⟩] at hgk
  have hsh := shl64 (n := W) (by omega)
  have hrow : ∀ y, y < H → Contract Tryd.prog 54 [GA W H b l, I y] (I (rowK W l y W)) := fun y hy => rowR_c hW4 hH b hn hy
  have hz1 : nzU (rowsL W l H) 1 = [] := by simp [nzU]
  have hzW : nzL W (rowsL W l H) = nzU (rowsL W l H) (2 ^ W) := rfl
  have hlen0 := nzU_len_le (rowsL W l H)
  have hst := fun x => @nzU_t (rowsL W l H) x
  have hsf := fun x => @nzU_f (rowsL W l H) x
  have hsc := rowsL_succ W l
  have hr0 : rowsL W l 0 = [] := rfl
  rw [hzW]
  generalize nzU (rowsL W l H) = U at *
  generalize 2 ^ W = q at *
  refine Contract.intro (effS [] false) 6 follows Tryd.func49 rfl rfl (by kernel_rfl) (Nat.le_of_ble_eq_true rfl) ?_
  simp (disch := first | assumption | omega | rfl | simp only [RH]) only [↓RP, RG, FX, RQ, ↓reduceIte, Nat.reduceEqDiff, reduceCtorEq, Nat.reduceBEq, Nat.reduceAdd, Nat.reduceLeDiff, args0_1]
  refine callK_F 6 (hgk) (by simp (disch := first | assumption | omega | rfl | simp only [RH]) only [↓RP, RG, FX, RQ, ↓reduceIte, Nat.reduceEqDiff, reduceCtorEq, Nat.reduceBEq, Nat.reduceAdd, Nat.reduceLeDiff, RA] <;> rfl) (.inl (by simp [allFresh, ints_fresh, bools_fresh])) ?_
  simp (disch := first | assumption | omega | rfl | simp only [RH]) only [↓RP, RG, FX, RQ, ↓reduceIte, Nat.reduceEqDiff, reduceCtorEq, Nat.reduceBEq, Nat.reduceAdd, Nat.reduceLeDiff]
  refine loopK_W [1, 4, 5] (fun x : Nat => 1 ≤ x ∧ x ≤ q) (fun x => ⟨[(1, .ptr 0 0 3), (4, gw true 1 (ints (nI (U x)))), (5, I x)], [⟨25, 3, [I W, I H, BA b l]⟩, go 3 (ints (nI (U x)))]⟩) (fun x => q - x) 1 ⟨by omega, by omega⟩ (by
    rw [hz1]
    simp only [↓RP, RG, FX, RQ, ↓reduceIte, Nat.reduceEqDiff, reduceCtorEq, Nat.reduceBEq, Nat.reduceAdd, Nat.reduceLeDiff]
    exact Wk.weak (WE.cons _ (.refl _) (WE.cons _ (.nil _) (WE.cons _ (.refl _) WE.nil))) (.cons _ _ _ _ (WL.refl _) (.nil _ (by simp [go, ints, nI])))) ?_
  rintro x ⟨hx1, hxq⟩
  have hUl := hlen0 x
  have hUn := nI_len (U x)
  by_cases hlt : x < q
  · simp (disch := first | assumption | omega | rfl | simp only [RH]) only [↓RP, RG, FX, RQ, ↓reduceIte, Nat.reduceEqDiff, reduceCtorEq, Nat.reduceBEq, Nat.reduceAdd, Nat.reduceLeDiff, aBin_shl, hsh]
    refine loopK_I [1, 4, 5, 6, 7] (fun y : Nat => y ≤ H) (fun y => ⟨[(1, .ptr 0 0 3), (4, gw true 1 (ints (nI (U x)))), (5, I x), (6, B (decide (x ∈ rowsL W l y))), (7, I y)], [⟨25, 3, [I W, I H, BA b l]⟩, go 3 (ints (nI (U x)))]⟩) (fun y => H - y) 0 (by omega) (by rw [hr0]; simp only [↓RP, RG, FX, RQ, ↓reduceIte, Nat.reduceEqDiff, reduceCtorEq, Nat.reduceBEq, Nat.reduceAdd, Nat.reduceLeDiff]; rfl) ?_
    intro y hy
    by_cases hylt : y < H
    · have hR := hrow y hylt
      have hs := hsc y
      by_cases hm : x ∈ rowsL W l y
      · have hm2 : x ∈ rowsL W l (y + 1) := by rw [hs]; exact List.mem_append_left _ hm
        rw [decide_eq_true hm]
        simp (disch := first | assumption | omega | rfl | simp only [RH]) only [↓RP, RG, FX, RQ, ↓reduceIte, Nat.reduceEqDiff, reduceCtorEq, Nat.reduceBEq, Nat.reduceAdd, Nat.reduceLeDiff]
        exact ⟨y + 1, hylt, by rw [decide_eq_true hm2]; rfl, by omega⟩
      · have hm2 : x ∈ rowsL W l (y + 1) ↔ rowK W l y W = x := by
          rw [hs, List.mem_append, List.mem_singleton]
          exact ⟨fun h => (h.resolve_left hm).symm, fun h => .inr h.symm⟩
        rw [decide_eq_false hm]
        generalize rowK W l y W = k at *
        by_cases e : k = x
        · simp (disch := first | assumption | omega | rfl | simp only [RH]) only [↓RP, RG, FX, RQ, ↓reduceIte, Nat.reduceEqDiff, reduceCtorEq, Nat.reduceBEq, Nat.reduceAdd, Nat.reduceLeDiff]
          refine callK_F 6 (hR) (by simp (disch := first | assumption | omega | rfl | simp only [RH]) only [↓RP, RG, FX, RQ, ↓reduceIte, Nat.reduceEqDiff, reduceCtorEq, Nat.reduceBEq, Nat.reduceAdd, Nat.reduceLeDiff, RA] <;> rfl) (.inl (by simp [allFresh, ints_fresh, bools_fresh])) ?_
          simp (disch := first | assumption | omega | rfl | simp only [RH]) only [↓RP, RG, FX, RQ, ↓reduceIte, Nat.reduceEqDiff, reduceCtorEq, Nat.reduceBEq, Nat.reduceAdd, Nat.reduceLeDiff]
          exact ⟨y + 1, hylt, by rw [decide_eq_true (hm2.2 e)]; rfl, by omega⟩
        · simp (disch := first | assumption | omega | rfl | simp only [RH]) only [↓RP, RG, FX, RQ, ↓reduceIte, Nat.reduceEqDiff, reduceCtorEq, Nat.reduceBEq, Nat.reduceAdd, Nat.reduceLeDiff]
          refine callK_F 6 (hR) (by simp (disch := first | assumption | omega | rfl | simp only [RH]) only [↓RP, RG, FX, RQ, ↓reduceIte, Nat.reduceEqDiff, reduceCtorEq, Nat.reduceBEq, Nat.reduceAdd, Nat.reduceLeDiff, RA] <;> rfl) (.inl (by simp [allFresh, ints_fresh, bools_fresh])) ?_
          simp (disch := first | assumption | omega | rfl | simp only [RH]) only [↓RP, RG, FX, RQ, ↓reduceIte, Nat.reduceEqDiff, reduceCtorEq, Nat.reduceBEq, Nat.reduceAdd, Nat.reduceLeDiff]
          exact ⟨y + 1, hylt, by rw [decide_eq_false (fun h => e (hm2.1 h))]; rfl, by omega⟩
    · obtain rfl : y = H := by omega
      by_cases hm : x ∈ rowsL W l y
      · have hs := hst x (by omega) hm
        have hs2 : nI (U (x + 1)) = nI (U x) ++ [(x : Int)] := by rw [hs, nI_app]
        rw [decide_eq_true hm]
        simp (disch := first | assumption | omega | rfl | simp only [RH]) only [↓RP, RG, FX, RQ, ↓reduceIte, Nat.reduceEqDiff, reduceCtorEq, Nat.reduceBEq, Nat.reduceAdd, Nat.reduceLeDiff, append_int]
        exact ⟨x + 1, ⟨by omega, by omega⟩, by rw [hs2]; rfl, by omega⟩
      · have hs := hsf x hm
        rw [decide_eq_false hm]
        simp (disch := first | assumption | omega | rfl | simp only [RH]) only [↓RP, RG, FX, RQ, ↓reduceIte, Nat.reduceEqDiff, reduceCtorEq, Nat.reduceBEq, Nat.reduceAdd, Nat.reduceLeDiff]
        exact ⟨x + 1, ⟨by omega, by omega⟩, by rw [hs]; rfl, by omega⟩
  · obtain rfl : x = q := by omega
    simp (disch := first | assumption | omega | rfl | simp only [RH]) only [↓RP, RG, FX, RQ, ↓reduceIte, Nat.reduceEqDiff, reduceCtorEq, Nat.reduceBEq, Nat.reduceAdd, Nat.reduceLeDiff, aBin_shl, hsh]
    rw [resVal_2 rfl]; simp (disch := first | assumption | omega | rfl | simp only [RH]) only [↓RP, RG, FX, RQ, ↓reduceIte, Nat.reduceEqDiff, reduceCtorEq, Nat.reduceBEq, Nat.reduceAdd, Nat.reduceLeDiff, RS]
    simp only [Bool.true_and, ints_isEmpty]
    cases U x <;> first | done | rfl
end Go.Proofs.YtlckfakifamjiaaDoor

/- The search of a least tie-up, plain. -/
set_option linter.unusedSimpArgs false
set_option linter.unusedVariables false
set_option maxRecDepth 100000
namespace Go.Proofs.YtlckfakifamjiaaDoor
open Go Go.Proofs Go.AW

theorem tie_len' {s : Nat} (hs : s ≤ 4) {u : List Nat} (hu : Tie s u) : u.length ≤ 16 := by
  obtain ⟨q1, q2, q3⟩ := famN_ok hs hu
  rw [← q3]; unfold bitsL; exact Nat.le_trans (List.length_filter_le _ _) (by simp)
theorem tie_lt {s : Nat} (hs : s ≤ 4) {u : List Nat} (hu : Tie s u) {i : Nat} (hi : i < u.length) : u.getD i 0 < 16 := by
  obtain ⟨p1, p2⟩ := pow4 hs
  have := (hu.2 (u.getD i 0) (by rw [List.getD_eq_getElem?_getD, List.getElem?_eq_getElem hi]; exact List.getElem_mem hi)).2
  omega
/-- A tie-up with n treadles more. -/
def Ext (s n : Nat) (p u : List Nat) : Prop := ∃ v, v.length = n ∧ u = p ++ v ∧ Tie s u
/-- The first one that covers. -/
def SR (s : Nat) (L : List Nat) (feet n : Nat) (p : List Nat) : Option (List Nat) → Prop
  | some u => Ext s n p u ∧ Cov u L feet ∧ ∀ w, Ext s n p w → Cov w L feet → ¬ lexlt w u
  | none => ∀ w, Ext s n p w → ¬ Cov w L feet
theorem sr_unique {s : Nat} {L : List Nat} {feet n : Nat} {p : List Nat} {r r' : Option (List Nat)} (h : SR s L feet n p r) (h' : SR s L feet n p r') : r = r' := by
  cases r with
  | none =>
    cases r' with
    | none => rfl
    | some u => exact absurd h'.2.1 (h u h'.1)
  | some u =>
    cases r' with
    | none => exact absurd h.2.1 (h' u h.1)
    | some v =>
      rcases lexlt_total u v with g | g | g
      · exact absurd g (h'.2.2 u h.1 h.2.1)
      · rw [g]
      · exact absurd g (h.2.2 v h'.1 h'.2.1)
open Classical in
theorem sr_zero {s : Nat} {L : List Nat} {feet : Nat} {p : List Nat} (hp : Tie s p) : SR s L feet 0 p (if Cov p L feet then some p else none) := by
  have h1 : ∀ w, Ext s 0 p w → w = p := fun w ⟨v, h1, h2, _⟩ => by rw [h2, List.eq_nil_of_length_eq_zero h1, List.append_nil]
  split
  · rename_i h
    refine ⟨⟨[], rfl, by simp, hp⟩, h, fun w hw _ => ?_⟩
    rw [h1 w hw]; exact lexlt_irr p
  · rename_i h
    intro w hw
    rw [h1 w hw]; exact h
/-- The least treadle that may come next. -/
def frm (p : List Nat) : Nat := if p.length = 0 then 1 else p.getD (p.length - 1) 0 + 1
theorem le_last {p : List Nat} (hp : p.Pairwise (· < ·)) {a : Nat} (ha : a ∈ p) : a < frm p := by
  obtain ⟨i, hi, rfl⟩ := List.mem_iff_getElem.1 ha
  unfold frm
  rw [if_neg (by omega), List.getD_eq_getElem?_getD, List.getElem?_eq_getElem (show p.length - 1 < p.length by omega), Option.getD_some]
  by_cases e : i = p.length - 1
  · subst e; omega
  · have := List.pairwise_iff_getElem.1 hp i (p.length - 1) hi (by omega) (by omega)
    omega
theorem frm_pos (p : List Nat) : 1 ≤ frm p := by unfold frm; split <;> omega
theorem tie_snoc {s : Nat} {p : List Nat} (hp : Tie s p) {x : Nat} (h1 : frm p ≤ x) (h2 : x < 2 ^ s) : Tie s (p ++ [x]) := by
  have := frm_pos p
  refine ⟨List.pairwise_append.2 ⟨hp.1, List.pairwise_singleton _ _, fun a ha b hb => ?_⟩, fun y hy => ?_⟩
  · rw [List.mem_singleton.1 hb]
    have := le_last hp.1 ha
    omega
  · rcases List.mem_append.1 hy with h | h
    · exact hp.2 y h
    · rw [List.mem_singleton.1 h]; omega
theorem inc_bound {M : Nat} : ∀ (v : List Nat) (y : Nat), (y :: v).Pairwise (· < ·) → (∀ a ∈ y :: v, a < M) → y + v.length < M
  | [], y, _, h => by have := h y (by simp); simpa using this
  | z :: v, y, hp, h => by
    have h1 := inc_bound v z (List.Pairwise.of_cons hp) (fun a ha => h a (List.mem_cons_of_mem _ ha))
    have h2 : y < z := (List.pairwise_cons.1 hp).1 z (by simp)
    simp only [List.length_cons]; omega
theorem ext_cons {s m : Nat} {p w : List Nat} : Ext s (m + 1) p w ↔ ∃ y, (frm p ≤ y ∧ y + (m + 1) ≤ 2 ^ s) ∧ Ext s m (p ++ [y]) w := by
  constructor
  · rintro ⟨v, h1, h2, h3⟩
    cases v with
    | nil => simp at h1
    | cons y v =>
      subst h2
      have hpw := List.pairwise_append.1 h3.1
      refine ⟨y, ⟨?_, ?_⟩, v, by simpa using h1, by simp, h3⟩
      · have hy0 := (h3.2 y (by simp)).1
        unfold frm
        split
        · omega
        · rename_i hne
          have hi : p.length - 1 < p.length := by omega
          rw [List.getD_eq_getElem?_getD, List.getElem?_eq_getElem hi]
          exact hpw.2.2 _ (List.getElem_mem hi) y (by simp)
      · have := inc_bound v y hpw.2.1 (fun a ha => (h3.2 a (List.mem_append_right _ ha)).2)
        simp at h1; omega
  · rintro ⟨y, _, v, h1, h2, h3⟩
    exact ⟨y :: v, by simp [h1], by rw [h2]; simp, h3⟩
theorem lex_snoc {p : List Nat} {x y : Nat} {u v : List Nat} : lexlt (p ++ [x] ++ u) (p ++ [y] ++ v) ↔ x < y ∨ x = y ∧ lexlt u v := by
  rw [List.append_assoc, List.append_assoc, lexlt_pre]; exact Iff.rfl
theorem sr_some {s : Nat} {L : List Nat} {feet m : Nat} {p : List Nat} {x : Nat} (h1 : frm p ≤ x) (h2 : x + (m + 1) ≤ 2 ^ s) {u : List Nat} (hu : SR s L feet m (p ++ [x]) (some u)) (hno : ∀ y, frm p ≤ y → y < x → SR s L feet m (p ++ [y]) none) : SR s L feet (m + 1) p (some u) := by
  refine ⟨ext_cons.2 ⟨x, ⟨h1, h2⟩, hu.1⟩, hu.2.1, fun w hw hc => ?_⟩
  obtain ⟨y, ⟨g1, g2⟩, g3⟩ := ext_cons.1 hw
  obtain ⟨v, e1, e2, e3⟩ := hu.1
  obtain ⟨v', f1, f2, f3⟩ := g3
  rcases Nat.lt_trichotomy y x with c | c | c
  · exact absurd hc (hno y g1 c w ⟨v', f1, f2, f3⟩)
  · subst c
    exact hu.2.2 w ⟨v', f1, f2, f3⟩ hc
  · rw [e2, f2, lex_snoc]; omega
theorem sr_none {s : Nat} {L : List Nat} {feet m : Nat} {p : List Nat} (hno : ∀ y, frm p ≤ y → y + (m + 1) ≤ 2 ^ s → SR s L feet m (p ++ [y]) none) : SR s L feet (m + 1) p none := fun w hw => by
  obtain ⟨y, ⟨g1, g2⟩, g3⟩ := ext_cons.1 hw
  exact hno y g1 g2 w g3
open Classical in
theorem sr_ex (s : Nat) (L : List Nat) (feet : Nat) : ∀ n p, Tie s p → ∃ r, SR s L feet n p r
  | 0, p, hp => ⟨_, sr_zero hp⟩
  | m + 1, p, hp => by
    have ih : ∀ x, frm p ≤ x → x + (m + 1) ≤ 2 ^ s → ∃ r, SR s L feet m (p ++ [x]) r := fun x h1 h2 => sr_ex s L feet m _ (tie_snoc hp h1 (by omega))
    have key : ∀ k, (∃ u, SR s L feet (m + 1) p (some u)) ∨ ∀ y, frm p ≤ y → y < k → y + (m + 1) ≤ 2 ^ s → SR s L feet m (p ++ [y]) none := by
      intro k
      induction k with
      | zero => exact .inr fun y _ hy => by omega
      | succ k ihk =>
        rcases ihk with h | h
        · exact .inl h
        · by_cases c : frm p ≤ k ∧ k + (m + 1) ≤ 2 ^ s
          · obtain ⟨r, hr⟩ := ih k c.1 c.2
            cases r with
            | some u => exact .inl ⟨u, sr_some c.1 c.2 hr fun y g1 g2 => h y g1 g2 (by omega)⟩
            | none =>
              refine .inr fun y g1 g2 g3 => ?_
              by_cases e : y = k
              · subst e; exact hr
              · exact h y g1 (by omega) g3
          · refine .inr fun y g1 g2 g3 => ?_
            by_cases e : y = k
            · subst e; exact absurd ⟨g1, g3⟩ c
            · exact h y g1 (by omega) g3
    rcases key (2 ^ s) with ⟨u, h⟩ | h
    · exact ⟨_, h⟩
    · exact ⟨none, sr_none fun y g1 g2 => h y g1 (by omega) g2⟩
/-- The first of the least length is the least tie-up. -/
theorem sr_lst {s : Nat} {L : List Nat} {feet : Nat} {T : List Nat} (hT : Lst s L feet T) {n : Nat} {r : Option (List Nat)} (hn : n ≤ T.length) (hr : SR s L feet n [] r) : (n < T.length → r = none) ∧ (n = T.length → r = some T) := by
  have hlen : ∀ u, r = some u → u.length = n := fun u hu => by
    subst hu
    obtain ⟨v, h1, h2, _⟩ := hr.1
    rw [h2, List.nil_append, h1]
  constructor
  · intro h
    cases r with
    | none => rfl
    | some u =>
      have hl := hlen u rfl
      obtain ⟨v, h1, h2, h3⟩ := hr.1
      exact absurd (.inl (by omega)) (hT.min u h3 hr.2.1)
  · intro h
    have hTe : Ext s n [] T := ⟨T, h.symm, rfl, hT.tie⟩
    cases r with
    | none => exact absurd hT.cov (hr T hTe)
    | some u =>
      have hl := hlen u rfl
      obtain ⟨v, h1, h2, h3⟩ := hr.1
      rcases lexlt_total u T with g | g | g
      · exact absurd (.inr ⟨by omega, g⟩) (hT.min u h3 hr.2.1)
      · rw [g]
      · exact absurd g (hr.2.2 T hTe hT.cov)
end Go.Proofs.YtlckfakifamjiaaDoor

/- The search of a least tie-up, by the reference. -/
set_option linter.unusedSimpArgs false
set_option linter.unusedVariables false
set_option maxRecDepth 100000
namespace Go.Proofs.YtlckfakifamjiaaDoor
open Go Go.Proofs Go.AW

theorem cAr {t n : Nat} {p : List Nat} {k : Nat} (hk : p.length = k) : cA (some ⟨t, n, ints (nI p)⟩) k = some (ints (nI p)) := by
  simp [cA, ints_length, nI_len, hk]
theorem search0_ref {s : Nat} (hs4 : s ≤ 4) (b : Bool) {L : List Nat} (hL : L.length ≤ 1000) (hg : ∀ i, i < L.length → L.getD i 0 < 16) {feet : Nat} (hf : feet ≤ 4) {p : List Nat} (hp : Tie s p) (c : Bool) (hc : c = true ↔ Cov p L feet) (h0 : List AObj) (id : Nat) (hk : h0[id]? = some ⟨3, 1, ints (nI p)⟩) :
    SpecTo Tryd.prog 48 [.ref id 0 p.length p.length, I s, LA b (nI L), I feet, I 0] h0 (.tuple [.ref id 0 p.length p.length, B c]) h0 := by
  have hpl : p.length ≤ 16 := tie_len' hs4 hp
  have hpg : ∀ i, i < p.length → p.getD i 0 < 16 := fun i hi => tie_lt hs4 hp hi
  have hco := coversF_c false b (tie := p) (by omega) hpg hL hg hf c hc
  have hA := fun t n => cAr (t := t) (n := n) (p := p) rfl
  have hpn := nI_len p
  have e1 : LA false (nI p) = .list false false p.length (ints (nI p)) := by rw [← hpn]
  rw [e1] at hco
  refine SpecTo.intro (effS [] false) follows Tryd.func48 rfl rfl (by kernel_rfl) (Nat.le_of_ble_eq_true rfl) ?_
  simp (disch := first | assumption | omega | rfl | simp only [RH]) only [↓RP, RG, FX, RQ, ↓reduceIte, Nat.reduceEqDiff, reduceCtorEq, Nat.reduceBEq, Nat.reduceAdd, Nat.reduceLeDiff, args0_5]
  refine callK_F 6 hco (by simp (disch := first | assumption | omega | rfl | simp only [RH]) only [↓RP, RG, FX, RQ, ↓reduceIte, Nat.reduceEqDiff, reduceCtorEq, Nat.reduceBEq, Nat.reduceAdd, Nat.reduceLeDiff, RA, hk, hA, hpn] <;> rfl) (.inl rfl) ?_
  simp (disch := first | assumption | omega | rfl | simp only [RH]) only [↓RP, RG, FX, RQ, ↓reduceIte, Nat.reduceEqDiff, reduceCtorEq, Nat.reduceBEq, Nat.reduceAdd, Nat.reduceLeDiff]
  exact ⟨_, by rw [resVal_2 rfl]; simp (disch := first | assumption | omega | rfl | simp only [RH]) only [↓RP, RG, FX, RQ, ↓reduceIte, Nat.reduceEqDiff, reduceCtorEq, Nat.reduceBEq, Nat.reduceAdd, Nat.reduceLeDiff, raX_tmp, raX_cell, rvX_0, rvX_1, rvX_2, rvX_3, rvX_4, rvX_5], Wk.refl _ _⟩
theorem search0_nil {s : Nat} (hs4 : s ≤ 4) (b : Bool) {L : List Nat} (hL : L.length ≤ 1000) (hg : ∀ i, i < L.length → L.getD i 0 < 16) {feet : Nat} (hf : feet ≤ 4) (c : Bool) (hc : c = true ↔ Cov [] L feet) (h0 : List AObj) :
    SpecTo Tryd.prog 48 [.cap0 true, I s, LA b (nI L), I feet, I 0] h0 (.tuple [.cap0 true, B c]) h0 := by
  have hco := coversF_c true b (tie := []) (by simp) (fun i hi => by simp at hi) hL hg hf c hc
  refine SpecTo.intro (effS [] false) follows Tryd.func48 rfl rfl (by kernel_rfl) (Nat.le_of_ble_eq_true rfl) ?_
  simp (disch := first | assumption | omega | rfl | simp only [RH]) only [↓RP, RG, FX, RQ, ↓reduceIte, Nat.reduceEqDiff, reduceCtorEq, Nat.reduceBEq, Nat.reduceAdd, Nat.reduceLeDiff, args0_5]
  refine callK_F 6 hco (by simp (disch := first | assumption | omega | rfl | simp only [RH]) only [↓RP, RG, FX, RQ, ↓reduceIte, Nat.reduceEqDiff, reduceCtorEq, Nat.reduceBEq, Nat.reduceAdd, Nat.reduceLeDiff, RA] <;> rfl) (.inl rfl) ?_
  simp (disch := first | assumption | omega | rfl | simp only [RH]) only [↓RP, RG, FX, RQ, ↓reduceIte, Nat.reduceEqDiff, reduceCtorEq, Nat.reduceBEq, Nat.reduceAdd, Nat.reduceLeDiff]
  exact ⟨_, by rw [resVal_2 rfl]; simp (disch := first | assumption | omega | rfl | simp only [RH]) only [↓RP, RG, FX, RQ, ↓reduceIte, Nat.reduceEqDiff, reduceCtorEq, Nat.reduceBEq, Nat.reduceAdd, Nat.reduceLeDiff, raX_tmp, raX_cell, rvX_0, rvX_1, rvX_2, rvX_3, rvX_4, rvX_5], Wk.refl _ _⟩
def srR (k : Nat) : Option (List Nat) → AVal
  | none => .cap0 true
  | some u => .ref k 0 u.length u.length
def srG : Option (List Nat) → List AObj
  | none => []
  | some u => [⟨3, 1, ints (nI u)⟩]
theorem search_ref {s : Nat} (hs4 : s ≤ 4) (b : Bool) {L : List Nat} (hL : L.length ≤ 1000) (hg : ∀ i, i < L.length → L.getD i 0 < 16) {feet : Nat} (hf : feet ≤ 4) :
    ∀ n, n ≤ 16 → ∀ p, Tie s p → p ≠ [] → ∀ r, SR s L feet n p r → ∀ (h0 : List AObj) (id : Nat), h0[id]? = some ⟨3, 1, ints (nI p)⟩ → ∃ res gs, SpecTo Tryd.prog 48 [.ref id 0 p.length p.length, I s, LA b (nI L), I feet, I n] h0 (.tuple [res, B r.isSome]) (h0 ++ gs) ∧ (r = none → gs = []) ∧ (∀ u, r = some u → (gs = [] ∧ res = .ref id 0 p.length p.length ∧ u = p) ∨ (gs = [⟨3, 1, ints (nI u)⟩] ∧ res = .ref h0.length 0 u.length u.length)) := by
  classical
  intro n
  induction n with
  | zero =>
    intro _ p hp hne r hr h0 id hk
    obtain rfl := sr_unique hr (sr_zero hp)
    have h1 := search0_ref hs4 b hL hg hf hp (decide (Cov p L feet)) decide_eq_true_iff h0 id hk
    refine ⟨_, [], ?_, fun _ => rfl, fun u hu => .inl ⟨rfl, rfl, ?_⟩⟩
    · rw [List.append_nil]
      by_cases c : Cov p L feet
      · rw [decide_eq_true c] at h1; rw [if_pos c]; exact h1
      · rw [decide_eq_false c] at h1; rw [if_neg c]; exact h1
    · by_cases c : Cov p L feet
      · rw [if_pos c] at hu; exact (Option.some.inj hu).symm
      · rw [if_neg c] at hu; cases hu
  | succ m ih =>
    intro hm p hp hne r hr h0 id hk
    have hid : id < h0.length := (List.getElem?_eq_some_iff.1 hk).1
    have hpl : p.length ≤ 16 := tie_len' hs4 hp
    have hpos : 0 < p.length := List.length_pos_iff.2 hne
    have hA := fun t n => cAr (t := t) (n := n) (p := p) rfl
    have hpn := nI_len p
    have hpg := nI_get p (p.length - 1)
    have hfr : frm p = p.getD (p.length - 1) 0 + 1 := by unfold frm; rw [if_neg (by omega)]
    have hp16 := tie_lt hs4 hp (show p.length - 1 < p.length by omega)
    obtain ⟨p1, p2⟩ := pow4 hs4
    have hsh := shl64 (n := s) (by omega)
    have ht1 : ((p.length : Int) - 1).toNat = p.length - 1 := by omega
    have hlq : p.getD (p.length - 1) 0 < 2 ^ s := (hp.2 _ (by rw [List.getD_eq_getElem?_getD, List.getElem?_eq_getElem (show p.length - 1 < p.length by omega)]; exact List.getElem_mem _)).2
    generalize hlast : p.getD (p.length - 1) 0 = la at *
    have hq : 2 ^ s ≤ 16 := p1
    have hno : ∀ x, frm p ≤ x → (∀ y, frm p ≤ y → y < x → y + (m + 1) ≤ 2 ^ s → SR s L feet m (p ++ [y]) none) → ¬ x + (m + 1) ≤ 2 ^ s → r = none := fun x h1 h2 h3 => sr_unique hr (sr_none fun y g1 g2 => h2 y g1 (by omega) g2)
    have hyes : ∀ x u, frm p ≤ x → (∀ y, frm p ≤ y → y < x → y + (m + 1) ≤ 2 ^ s → SR s L feet m (p ++ [y]) none) → x + (m + 1) ≤ 2 ^ s → SR s L feet m (p ++ [x]) (some u) → r = some u := fun x u h1 h2 h3 h4 => sr_unique hr (sr_some h1 h3 h4 fun y g1 g2 => h2 y g1 g2 (by omega))
    have hex : ∀ x, frm p ≤ x → x + (m + 1) ≤ 2 ^ s → ∃ r', SR s L feet m (p ++ [x]) r' := fun x h1 h2 => sr_ex s L feet m _ (tie_snoc hp h1 (by omega))
    have htx : ∀ x, frm p ≤ x → x + (m + 1) ≤ 2 ^ s → Tie s (p ++ [x]) := fun x h1 h2 => tie_snoc hp h1 (by omega)
    refine ⟨srR h0.length r, srG r, ?_, fun h => by rw [h]; rfl, fun u h => .inr (by rw [h]; exact ⟨rfl, rfl⟩)⟩
    generalize 2 ^ s = q at *
    refine SpecTo.intro (effS [] false) follows Tryd.func48 rfl rfl (by kernel_rfl) (Nat.le_of_ble_eq_true rfl) ?_
    simp (disch := first | assumption | omega | rfl | simp only [RH]) only [↓RP, RG, FX, RQ, ↓reduceIte, Nat.reduceEqDiff, reduceCtorEq, Nat.reduceBEq, Nat.reduceAdd, Nat.reduceLeDiff, args0_5, hk, hA, hpg, ht1]
    refine loopK_WW [0, 1, 2, 3, 4, 13] (fun x : Nat => (frm p ≤ x ∧ x ≤ q + 1) ∧ ∀ y, frm p ≤ y → y < x → y + (m + 1) ≤ q → SR s L feet m (p ++ [y]) none) (fun x => ⟨[(0, .ref id 0 p.length p.length), (1, I s), (2, LA b (nI L)), (3, I feet), (4, I ((m + 1 : Nat) : Int)), (13, I x)], h0⟩) (fun x => q + 1 - x) (frm p) ⟨⟨Nat.le_refl _, by omega⟩, fun y g1 g2 => by omega⟩ (Wk.of_eq (by rw [hfr]; simp only [↓RP, RG, FX, RQ, ↓reduceIte, Nat.reduceEqDiff, reduceCtorEq, Nat.reduceBEq, Nat.reduceAdd, Nat.reduceLeDiff]; rfl)) ?_
    rintro x ⟨⟨h1, h2⟩, h3⟩
    by_cases hlt : x + (m + 1) ≤ q
    · obtain ⟨r', hr'⟩ := hex x h1 hlt
      have htie := htx x h1 hlt
      have hl' : (p ++ [x]).length = p.length + 1 := by simp
      have hcell : ints (nI p ++ [(x : Int)]) = ints (nI (p ++ [x])) := by rw [nI_app]
      have happ1 : ∀ h : List AObj, h[id]? = some ⟨3, 1, ints (nI p)⟩ → aAppend Tryd.prog 22 h (.cap0 false) (.ref id 0 p.length p.length) = some (.ref h.length 0 p.length p.length, h ++ [⟨3, 1, ints (nI p)⟩]) := fun h hh => by
        have hv : sview h (.ref id 0 p.length p.length) = some (p.length, ints (nI p)) := by
          simp only [sview, cellsAt_eq, hh, hA, Option.map_some, List.drop_zero]
        rw [append_cw (S := inferInstance) hv (by rw [ints_length, hpn]) (ints_one _) (by omega) (by omega)]
        obtain ⟨a, t, rfl⟩ : ∃ a t, p = a :: t := by
          cases p with
          | nil => exact absurd rfl hne
          | cons a t => exact ⟨a, t, rfl⟩
        simp [gw, go, ints, nI]
      obtain ⟨res, gs, i1, i2, i3⟩ := ih (by omega) (p ++ [x]) htie (by simp) r' hr' (h0 ++ [⟨3, 1, ints (nI (p ++ [x]))⟩]) h0.length (by simp)
      rw [hl'] at i1
      have happ2 : aAppend Tryd.prog 22 (h0 ++ [⟨3, 1, ints (nI p)⟩]) (.ref h0.length 0 p.length p.length) (.lit 1 [.val (.int .i64 (x : Int))]) = some (.ref h0.length 0 (p.length + 1) (p.length + 1), h0 ++ [⟨3, 1, ints (nI (p ++ [x]))⟩]) := by
        rw [append_refI (l := nI p) (by simp) hpn (by omega), hcell]
        simp
      have hm1 : (((m + 1 : Nat)) : Int) - 1 = (m : Int) := by omega
      simp (disch := first | assumption | omega | rfl | simp only [RH]) only [↓RP, RG, FX, RQ, ↓reduceIte, Nat.reduceEqDiff, reduceCtorEq, Nat.reduceBEq, Nat.reduceAdd, Nat.reduceLeDiff, aBin_shl, hsh, happ1, happ2, hm1]
      refine callK_T rfl i1 ?_
      cases r' with
      | none =>
        obtain rfl := i2 rfl
        simp (disch := first | assumption | omega | rfl | simp only [RH]) only [↓RP, RG, FX, RQ, ↓reduceIte, Nat.reduceEqDiff, reduceCtorEq, Nat.reduceBEq, Nat.reduceAdd, Nat.reduceLeDiff, Option.isSome_none]
        refine ⟨x + 1, ⟨⟨by omega, by omega⟩, fun y g1 g2 g3 => ?_⟩, ?_, by omega⟩
        · by_cases e : y = x
          · subst e; exact hr'
          · exact h3 y g1 (by omega) g3
        · exact (Wk.drop (hb := h0) (h1 := h0) (gs := [_]) 8 [] rfl (by simp) (by simp) (fun i o h => .inl h)).trans (Wk.of_eq (by simp (disch := omega) only [RK, List.idxOf?_cons, List.idxOf?_nil, Nat.reduceBEq, Option.map_some, Option.map_none, List.map_cons, List.map_nil, List.getD_cons_zero, List.getD_cons_succ, Bool.false_eq_true, ↓reduceIte, Nat.add_zero, List.append_nil]; rfl))
      | some u =>
        obtain rfl := hyes x u h1 h3 hlt hr'
        rcases i3 u rfl with ⟨rfl, rfl, rfl⟩ | ⟨rfl, rfl⟩
        · simp (disch := first | assumption | omega | rfl | simp only [RH]) only [↓RP, RG, FX, RQ, ↓reduceIte, Nat.reduceEqDiff, reduceCtorEq, Nat.reduceBEq, Nat.reduceAdd, Nat.reduceLeDiff, Option.isSome_some]
          refine ⟨_, by rw [resVal_2 rfl]; simp (disch := first | assumption | omega | rfl | simp only [RH]) only [↓RP, RG, FX, RQ, ↓reduceIte, Nat.reduceEqDiff, reduceCtorEq, Nat.reduceBEq, Nat.reduceAdd, Nat.reduceLeDiff, raX_tmp, raX_cell, rvX_0, rvX_1, rvX_2, rvX_3, rvX_4, rvX_5]; rfl, Wk.of_eq ?_⟩
          simp only [srR, srG, List.append_nil, hl', Option.isSome_some]
        · rw [List.append_assoc]
          simp (disch := first | assumption | omega | rfl | simp only [RH]) only [↓RP, RG, FX, RQ, ↓reduceIte, Nat.reduceEqDiff, reduceCtorEq, Nat.reduceBEq, Nat.reduceAdd, Nat.reduceLeDiff, Option.isSome_some]
          refine ⟨_, by rw [resVal_2 rfl]; simp (disch := first | assumption | omega | rfl | simp only [RH]) only [↓RP, RG, FX, RQ, ↓reduceIte, Nat.reduceEqDiff, reduceCtorEq, Nat.reduceBEq, Nat.reduceAdd, Nat.reduceLeDiff, raX_tmp, raX_cell, rvX_0, rvX_1, rvX_2, rvX_3, rvX_4, rvX_5]; rfl, (Wk.drop (hb := h0) (h1 := h0) (gs := [_, _]) 8 [1] rfl (by decide) (by simp) (fun i o h => .inl h)).trans (Wk.of_eq ?_)⟩
          simp (disch := omega) only [RK, List.idxOf?_cons, List.idxOf?_nil, Nat.reduceBEq, Option.map_some, Option.map_none, List.map_cons, List.map_nil, List.getD_cons_zero, List.getD_cons_succ, Bool.false_eq_true, ↓reduceIte, Nat.add_zero, List.append_nil, List.length_append, List.length_singleton, srR, srG, Option.isSome_some]
    · have hn := hno x h1 h3 hlt
      subst hn
      simp (disch := first | assumption | omega | rfl | simp only [RH]) only [↓RP, RG, FX, RQ, ↓reduceIte, Nat.reduceEqDiff, reduceCtorEq, Nat.reduceBEq, Nat.reduceAdd, Nat.reduceLeDiff, aBin_shl, hsh]
      exact ⟨_, by rw [resVal_2 rfl]; simp (disch := first | assumption | omega | rfl | simp only [RH]) only [↓RP, RG, FX, RQ, ↓reduceIte, Nat.reduceEqDiff, reduceCtorEq, Nat.reduceBEq, Nat.reduceAdd, Nat.reduceLeDiff, raX_tmp, raX_cell, rvX_0, rvX_1, rvX_2, rvX_3, rvX_4, rvX_5]; rfl, Wk.of_eq (by simp only [srR, srG, List.append_nil]; rfl)⟩
theorem search_nil {s : Nat} (hs4 : s ≤ 4) (b : Bool) {L : List Nat} (hL : L.length ≤ 1000) (hg : ∀ i, i < L.length → L.getD i 0 < 16) {feet : Nat} (hf : feet ≤ 4) (n : Nat) (hn16 : n ≤ 16) (r : Option (List Nat)) (hr : SR s L feet n [] r) (h0 : List AObj) :
    ∃ res gs, SpecTo Tryd.prog 48 [.cap0 true, I s, LA b (nI L), I feet, I n] h0 (.tuple [res, B r.isSome]) (h0 ++ gs) ∧ (r = none → gs = []) ∧ (∀ u, r = some u → (gs = [] ∧ res = .cap0 true ∧ u = []) ∨ (gs = [⟨3, 1, ints (nI u)⟩] ∧ res = .ref h0.length 0 u.length u.length ∧ 0 < u.length)) := by
  classical
  have hp : Tie s [] := ⟨List.Pairwise.nil, fun x hx => absurd hx (by simp)⟩
  cases n with
  | zero =>
    obtain rfl := sr_unique hr (sr_zero hp)
    have h1 := search0_nil (s := s) hs4 b hL hg hf (decide (Cov [] L feet)) decide_eq_true_iff h0
    refine ⟨_, [], ?_, fun _ => rfl, fun u hu => .inl ⟨rfl, rfl, ?_⟩⟩
    · rw [List.append_nil]
      by_cases c : Cov [] L feet
      · rw [decide_eq_true c] at h1; rw [if_pos c]; exact h1
      · rw [decide_eq_false c] at h1; rw [if_neg c]; exact h1
    · by_cases c : Cov [] L feet
      · rw [if_pos c] at hu; exact (Option.some.inj hu).symm
      · rw [if_neg c] at hu; cases hu
  | succ m =>
    have ih := search_ref hs4 b hL hg hf m (by omega)
    obtain ⟨p1, p2⟩ := pow4 hs4
    have hsh := shl64 (n := s) (by omega)
    have hfr : frm [] = 1 := rfl
    have hq : 2 ^ s ≤ 16 := p1
    have hno : ∀ x, 1 ≤ x → (∀ y, 1 ≤ y → y < x → y + (m + 1) ≤ 2 ^ s → SR s L feet m [y] none) → ¬ x + (m + 1) ≤ 2 ^ s → r = none := fun x h1 h2 h3 => sr_unique hr (sr_none fun y g1 g2 => h2 y g1 (by omega) g2)
    have hyes : ∀ x u, 1 ≤ x → (∀ y, 1 ≤ y → y < x → y + (m + 1) ≤ 2 ^ s → SR s L feet m [y] none) → x + (m + 1) ≤ 2 ^ s → SR s L feet m [x] (some u) → r = some u := fun x u h1 h2 h3 h4 => sr_unique hr (sr_some (p := []) h1 h3 h4 fun y g1 g2 => h2 y g1 g2 (by omega))
    have hex : ∀ x, 1 ≤ x → x + (m + 1) ≤ 2 ^ s → ∃ r', SR s L feet m [x] r' := fun x h1 h2 => sr_ex s L feet m _ (tie_snoc (p := []) hp h1 (by omega))
    have htx : ∀ x, 1 ≤ x → x + (m + 1) ≤ 2 ^ s → Tie s [x] := fun x h1 h2 => tie_snoc (p := []) hp h1 (by omega)
    have hul : ∀ u, r = some u → 0 < u.length := fun u h => by
      subst h
      obtain ⟨v, e1, e2, _⟩ := hr.1
      rw [e2, List.nil_append, e1]; omega
    refine ⟨srR h0.length r, srG r, ?_, fun h => by rw [h]; rfl, fun u h => .inr (by rw [h]; exact ⟨rfl, rfl, hul u h⟩)⟩
    generalize 2 ^ s = q at *
    refine SpecTo.intro (effS [] false) follows Tryd.func48 rfl rfl (by kernel_rfl) (Nat.le_of_ble_eq_true rfl) ?_
    simp (disch := first | assumption | omega | rfl | simp only [RH]) only [↓RP, RG, FX, RQ, ↓reduceIte, Nat.reduceEqDiff, reduceCtorEq, Nat.reduceBEq, Nat.reduceAdd, Nat.reduceLeDiff, args0_5]
    refine loopK_WW [0, 1, 2, 3, 4, 13] (fun x : Nat => (1 ≤ x ∧ x ≤ q + 1) ∧ ∀ y, 1 ≤ y → y < x → y + (m + 1) ≤ q → SR s L feet m [y] none) (fun x => ⟨[(0, .cap0 true), (1, I s), (2, LA b (nI L)), (3, I feet), (4, I ((m + 1 : Nat) : Int)), (13, I x)], h0⟩) (fun x => q + 1 - x) 1 ⟨⟨Nat.le_refl _, by omega⟩, fun y g1 g2 => by omega⟩ (Wk.of_eq (by simp only [↓RP, RG, FX, RQ, ↓reduceIte, Nat.reduceEqDiff, reduceCtorEq, Nat.reduceBEq, Nat.reduceAdd, Nat.reduceLeDiff]; rfl)) ?_
    rintro x ⟨⟨h1, h2⟩, h3⟩
    by_cases hlt : x + (m + 1) ≤ q
    · obtain ⟨r', hr'⟩ := hex x h1 hlt
      have htie := htx x h1 hlt
      have happ1 : ∀ h : List AObj, aAppend Tryd.prog 22 h (.cap0 false) (.cap0 true) = some (.cap0 false, h ++ [⟨0, 0, []⟩]) := fun h => append_cw (S := inferInstance) (m := 0) (ys := []) rfl rfl rfl (by omega) (by omega)
      have happ2 : ∀ h : List AObj, aAppend Tryd.prog 22 h (.cap0 false) (.lit 1 [.val (.int .i64 (x : Int))]) = some (.ref h.length 0 1 1, h ++ [⟨3, 1, ints (nI [x])⟩]) := fun h => append_cw (S := inferInstance) (m := 1) (ys := [I x]) rfl rfl (by simp [AVal.one, Value.oneCell']) (by omega) (by omega)
      obtain ⟨res, gs, i1, i2, i3⟩ := ih [x] htie (by simp) r' hr' (h0 ++ [⟨0, 0, []⟩, ⟨3, 1, ints (nI [x])⟩]) (h0.length + 1) (by simp)
      have hm1 : (((m + 1 : Nat)) : Int) - 1 = (m : Int) := by omega
      simp (disch := first | assumption | omega | rfl | simp only [RH]) only [↓RP, RG, FX, RQ, ↓reduceIte, Nat.reduceEqDiff, reduceCtorEq, Nat.reduceBEq, Nat.reduceAdd, Nat.reduceLeDiff, aBin_shl, hsh, happ1, happ2, hm1, List.append_assoc, List.length_append, List.length_singleton, List.cons_append, List.nil_append]
      refine callK_T rfl i1 ?_
      cases r' with
      | none =>
        obtain rfl := i2 rfl
        simp (disch := first | assumption | omega | rfl | simp only [RH]) only [↓RP, RG, FX, RQ, ↓reduceIte, Nat.reduceEqDiff, reduceCtorEq, Nat.reduceBEq, Nat.reduceAdd, Nat.reduceLeDiff, Option.isSome_none]
        refine ⟨x + 1, ⟨⟨by omega, by omega⟩, fun y g1 g2 g3 => ?_⟩, ?_, by omega⟩
        · by_cases e : y = x
          · subst e; exact hr'
          · exact h3 y g1 (by omega) g3
        · exact (Wk.drop (hb := h0) (h1 := h0) (gs := [_, _]) 8 [] rfl (by simp) (by simp) (fun i o h => .inl h)).trans (Wk.of_eq (by simp (disch := omega) only [RK, List.idxOf?_cons, List.idxOf?_nil, Nat.reduceBEq, Option.map_some, Option.map_none, List.map_cons, List.map_nil, List.getD_cons_zero, List.getD_cons_succ, Bool.false_eq_true, ↓reduceIte, Nat.add_zero, List.append_nil]; rfl))
      | some u =>
        obtain rfl := hyes x u h1 h3 hlt hr'
        rcases i3 u rfl with ⟨rfl, rfl, rfl⟩ | ⟨rfl, rfl⟩
        · simp (disch := first | assumption | omega | rfl | simp only [RH]) only [↓RP, RG, FX, RQ, ↓reduceIte, Nat.reduceEqDiff, reduceCtorEq, Nat.reduceBEq, Nat.reduceAdd, Nat.reduceLeDiff, Option.isSome_some]
          refine ⟨_, by rw [resVal_2 rfl]; simp (disch := first | assumption | omega | rfl | simp only [RH]) only [↓RP, RG, FX, RQ, ↓reduceIte, Nat.reduceEqDiff, reduceCtorEq, Nat.reduceBEq, Nat.reduceAdd, Nat.reduceLeDiff, raX_tmp, raX_cell, rvX_0, rvX_1, rvX_2, rvX_3, rvX_4, rvX_5]; rfl, (Wk.drop (hb := h0) (h1 := h0) (gs := [_, _]) 8 [1] rfl (by decide) (by simp) (fun i o h => .inl h)).trans (Wk.of_eq ?_)⟩
          simp (disch := omega) only [RK, List.idxOf?_cons, List.idxOf?_nil, Nat.reduceBEq, Option.map_some, Option.map_none, List.map_cons, List.map_nil, List.getD_cons_zero, List.getD_cons_succ, Bool.false_eq_true, ↓reduceIte, Nat.add_zero, List.append_nil, srR, srG, Option.isSome_some]
          first | done | rfl
        · rw [List.append_assoc]
          simp (disch := first | assumption | omega | rfl | simp only [RH]) only [↓RP, RG, FX, RQ, ↓reduceIte, Nat.reduceEqDiff, reduceCtorEq, Nat.reduceBEq, Nat.reduceAdd, Nat.reduceLeDiff, Option.isSome_some]
          refine ⟨_, by rw [resVal_2 rfl]; simp (disch := first | assumption | omega | rfl | simp only [RH]) only [↓RP, RG, FX, RQ, ↓reduceIte, Nat.reduceEqDiff, reduceCtorEq, Nat.reduceBEq, Nat.reduceAdd, Nat.reduceLeDiff, raX_tmp, raX_cell, rvX_0, rvX_1, rvX_2, rvX_3, rvX_4, rvX_5]; rfl, (Wk.drop (hb := h0) (h1 := h0) (gs := [_, _, _]) 8 [2] rfl (by decide) (by simp) (fun i o h => .inl h)).trans (Wk.of_eq ?_)⟩
          simp (disch := omega) only [RK, List.idxOf?_cons, List.idxOf?_nil, Nat.reduceBEq, Option.map_some, Option.map_none, List.map_cons, List.map_nil, List.getD_cons_zero, List.getD_cons_succ, Bool.false_eq_true, ↓reduceIte, Nat.add_zero, List.append_nil, List.length_append, List.length_singleton, srR, srG, Option.isSome_some]
          first | done | rfl
    · have hn := hno x h1 h3 hlt
      subst hn
      simp (disch := first | assumption | omega | rfl | simp only [RH]) only [↓RP, RG, FX, RQ, ↓reduceIte, Nat.reduceEqDiff, reduceCtorEq, Nat.reduceBEq, Nat.reduceAdd, Nat.reduceLeDiff, aBin_shl, hsh]
      exact ⟨_, by rw [resVal_2 rfl]; simp (disch := first | assumption | omega | rfl | simp only [RH]) only [↓RP, RG, FX, RQ, ↓reduceIte, Nat.reduceEqDiff, reduceCtorEq, Nat.reduceBEq, Nat.reduceAdd, Nat.reduceLeDiff, raX_tmp, raX_cell, rvX_0, rvX_1, rvX_2, rvX_3, rvX_4, rvX_5]; rfl, Wk.of_eq (by simp only [srR, srG, List.append_nil]; rfl)⟩
theorem leastR_c {s : Nat} (hs1 : 1 ≤ s) (hs4 : s ≤ 4) (b : Bool) {L : List Nat} (hn : L.length ≤ 1000) (hl : ∀ x ∈ L, x < 2 ^ s) {feet : Nat} (hf1 : 1 ≤ feet) (hf4 : feet ≤ 4) {T : List Nat} (hT : Lst s L feet T) :
    Contract Tryd.prog 22 [I s, LA b (nI L), I feet] (.tuple [LR T.isEmpty (nI T), I 0]) := by
  obtain ⟨p1, p2⟩ := pow4 hs4
  have hlg : ∀ i, i < L.length → L.getD i 0 < 2 ^ s := fun i hi => hl _ (by rw [List.getD_eq_getElem?_getD, List.getElem?_eq_getElem hi]; exact List.getElem_mem hi)
  have hse := setsR_c hs4 b (l := nI L) (by rw [nI_len]; omega) true ⟨fun _ i hi => by
    rw [nI_len] at hi
    have := hlg i hi
    rw [nI_get]; omega, fun _ => rfl⟩
  have hfe := feetR_c (feet : Int)
  rw [decide_eq_true (by omega)] at hfe
  have hTl := tie_len' hs4 hT.tie
  have hsn := search_nil hs4 b hn (fun i hi => by have := hlg i hi; omega) hf4
  have hTn := nI_len T
  refine Contract.intro (effS [] false) 6 follows Tryd.func22 rfl rfl (by kernel_rfl) (Nat.le_of_ble_eq_true rfl) ?_
  simp (disch := first | assumption | omega | rfl | simp only [RH]) only [↓RP, RG, FX, RQ, ↓reduceIte, Nat.reduceEqDiff, reduceCtorEq, Nat.reduceBEq, Nat.reduceAdd, Nat.reduceLeDiff, args0_3]
  refine callK_F 6 (hfe) (by simp (disch := first | assumption | omega | rfl | simp only [RH]) only [↓RP, RG, FX, RQ, ↓reduceIte, Nat.reduceEqDiff, reduceCtorEq, Nat.reduceBEq, Nat.reduceAdd, Nat.reduceLeDiff, RA] <;> rfl) (.inl (by simp [allFresh, ints_fresh, bools_fresh])) ?_
  simp (disch := first | assumption | omega | rfl | simp only [RH]) only [↓RP, RG, FX, RQ, ↓reduceIte, Nat.reduceEqDiff, reduceCtorEq, Nat.reduceBEq, Nat.reduceAdd, Nat.reduceLeDiff]
  refine callK_F 6 (hse) (by simp (disch := first | assumption | omega | rfl | simp only [RH]) only [↓RP, RG, FX, RQ, ↓reduceIte, Nat.reduceEqDiff, reduceCtorEq, Nat.reduceBEq, Nat.reduceAdd, Nat.reduceLeDiff, RA] <;> rfl) (.inl (by simp [allFresh, ints_fresh, bools_fresh])) ?_
  simp (disch := first | assumption | omega | rfl | simp only [RH]) only [↓RP, RG, FX, RQ, ↓reduceIte, Nat.reduceEqDiff, reduceCtorEq, Nat.reduceBEq, Nat.reduceAdd, Nat.reduceLeDiff]
  refine loopK_I [0, 1, 2, 8] (fun n : Nat => n ≤ T.length) (fun n => ⟨[(0, I s), (1, LA b (nI L)), (2, I feet), (8, I n)], []⟩) (fun n => T.length + 1 - n) 0 (by omega) (by simp only [↓RP, RG, FX, RQ, ↓reduceIte, Nat.reduceEqDiff, reduceCtorEq, Nat.reduceBEq, Nat.reduceAdd, Nat.reduceLeDiff]; rfl) ?_
  intro n hn2
  obtain ⟨r, hr⟩ := sr_ex s L feet n [] ⟨List.Pairwise.nil, fun x hx => absurd hx (by simp)⟩
  obtain ⟨res, gs, i1, i2, i3⟩ := hsn n (by omega) r hr []
  obtain ⟨k1, k2⟩ := sr_lst hT hn2 hr
  simp (disch := first | assumption | omega | rfl | simp only [RH]) only [↓RP, RG, FX, RQ, ↓reduceIte, Nat.reduceEqDiff, reduceCtorEq, Nat.reduceBEq, Nat.reduceAdd, Nat.reduceLeDiff]
  refine callK_T rfl i1 ?_
  by_cases c : n < T.length
  · obtain rfl := k1 c
    obtain rfl := i2 rfl
    simp (disch := first | assumption | omega | rfl | simp only [RH]) only [↓RP, RG, FX, RQ, ↓reduceIte, Nat.reduceEqDiff, reduceCtorEq, Nat.reduceBEq, Nat.reduceAdd, Nat.reduceLeDiff, Option.isSome_none]
    exact ⟨n + 1, by omega, rfl, by omega⟩
  · obtain rfl := k2 (by omega)
    rcases i3 T rfl with ⟨rfl, rfl, rfl⟩ | ⟨rfl, rfl, hpos⟩
    · simp (disch := first | assumption | omega | rfl | simp only [RH]) only [↓RP, RG, FX, RQ, ↓reduceIte, Nat.reduceEqDiff, reduceCtorEq, Nat.reduceBEq, Nat.reduceAdd, Nat.reduceLeDiff, Option.isSome_some]
      rw [resVal_2 rfl]; simp (disch := first | assumption | omega | rfl | simp only [RH]) only [↓RP, RG, FX, RQ, ↓reduceIte, Nat.reduceEqDiff, reduceCtorEq, Nat.reduceBEq, Nat.reduceAdd, Nat.reduceLeDiff, RS]
      first | done | rfl
    · simp (disch := first | assumption | omega | rfl | simp only [RH]) only [↓RP, RG, FX, RQ, ↓reduceIte, Nat.reduceEqDiff, reduceCtorEq, Nat.reduceBEq, Nat.reduceAdd, Nat.reduceLeDiff, Option.isSome_some]
      rw [resVal_2 rfl]; simp (disch := first | assumption | omega | rfl | simp only [RH]) only [↓RP, RG, FX, RQ, ↓reduceIte, Nat.reduceEqDiff, reduceCtorEq, Nat.reduceBEq, Nat.reduceAdd, Nat.reduceLeDiff, RS]
      have : T.isEmpty = false := by cases T with | nil => simp at hpos | cons a t => rfl
      rw [this]
      first | done | rfl
end Go.Proofs.YtlckfakifamjiaaDoor

/- Plans by the reference. -/
set_option linter.unusedSimpArgs false
set_option linter.unusedVariables false
set_option maxRecDepth 100000
namespace Go.Proofs.YtlckfakifamjiaaDoor
open Go Go.Proofs Go.AW

theorem planR_err (w h : Int) (b : Bool) (l : List Bool) (feet e : Int) (he : e ≠ 0) (hl : Contract Tryd.prog 49 [GA w h b l] (.tuple [LR true [], I e])) :
    Contract Tryd.prog 23 [GA w h b l, I feet] (.tuple [GR 0 0 true [], .list true true 0 [], I e]) := by
  refine Contract.intro (effS [51] false) 6 follows Tryd.func23 rfl rfl (by kernel_rfl) (Nat.le_of_ble_eq_true rfl) ?_
  simp (disch := first | assumption | omega | rfl | simp only [RH]) only [↓RP, RG, FX, RQ, ↓reduceIte, Nat.reduceEqDiff, reduceCtorEq, Nat.reduceBEq, Nat.reduceAdd, Nat.reduceLeDiff, args0_2]
  refine callK_F 6 hl (by simp (disch := first | assumption | omega | rfl | simp only [RH]) only [↓RP, RG, FX, RQ, ↓reduceIte, Nat.reduceEqDiff, reduceCtorEq, Nat.reduceBEq, Nat.reduceAdd, Nat.reduceLeDiff, RA] <;> rfl) (.inl rfl) ?_
  simp (disch := first | assumption | omega | rfl | simp only [RH]) only [↓RP, RG, FX, RQ, ↓reduceIte, Nat.reduceEqDiff, reduceCtorEq, Nat.reduceBEq, Nat.reduceAdd, Nat.reduceLeDiff]
  rw [resVal_3 rfl]; simp (disch := first | assumption | omega | rfl | simp only [RH]) only [↓RP, RG, FX, RQ, ↓reduceIte, Nat.reduceEqDiff, reduceCtorEq, Nat.reduceBEq, Nat.reduceAdd, Nat.reduceLeDiff, RS]
  first | done | rfl
theorem planR_feet {W H : Nat} (hW1 : 1 ≤ W) (hW4 : W ≤ 4) (hH1 : 1 ≤ H) (hH : H ≤ 64) (b : Bool) {l : List Bool} (hn : l.length = W * H) (feet : Int) (hf : ¬ (1 ≤ feet ∧ feet ≤ 4)) :
    Contract Tryd.prog 23 [GA W H b l, I feet] (.tuple [GR 0 0 true [], .list true true 0 [], I 2]) := by
  have hli := liftsR_c hW1 hW4 hH1 hH b hn
  have hfe := feetR_c feet
  rw [decide_eq_false hf] at hfe
  generalize nzL W (rowsL W l H) = L at *
  refine Contract.intro (effS [51] false) 6 follows Tryd.func23 rfl rfl (by kernel_rfl) (Nat.le_of_ble_eq_true rfl) ?_
  simp (disch := first | assumption | omega | rfl | simp only [RH]) only [↓RP, RG, FX, RQ, ↓reduceIte, Nat.reduceEqDiff, reduceCtorEq, Nat.reduceBEq, Nat.reduceAdd, Nat.reduceLeDiff, args0_2]
  refine callK_F 6 hli (by simp (disch := first | assumption | omega | rfl | simp only [RH]) only [↓RP, RG, FX, RQ, ↓reduceIte, Nat.reduceEqDiff, reduceCtorEq, Nat.reduceBEq, Nat.reduceAdd, Nat.reduceLeDiff, RA] <;> rfl) (.inl (by simp [allFresh, ints_fresh])) ?_
  simp (disch := first | assumption | omega | rfl | simp only [RH]) only [↓RP, RG, FX, RQ, ↓reduceIte, Nat.reduceEqDiff, reduceCtorEq, Nat.reduceBEq, Nat.reduceAdd, Nat.reduceLeDiff]
  refine callK_F 6 (hfe) (by simp (disch := first | assumption | omega | rfl | simp only [RH]) only [↓RP, RG, FX, RQ, ↓reduceIte, Nat.reduceEqDiff, reduceCtorEq, Nat.reduceBEq, Nat.reduceAdd, Nat.reduceLeDiff, RA] <;> rfl) (.inl (by simp [allFresh, ints_fresh, bools_fresh])) ?_
  simp (disch := first | assumption | omega | rfl | simp only [RH]) only [↓RP, RG, FX, RQ, ↓reduceIte, Nat.reduceEqDiff, reduceCtorEq, Nat.reduceBEq, Nat.reduceAdd, Nat.reduceLeDiff]
  rw [resVal_3 rfl]; simp (disch := first | assumption | omega | rfl | simp only [RH]) only [↓RP, RG, FX, RQ, ↓reduceIte, Nat.reduceEqDiff, reduceCtorEq, Nat.reduceBEq, Nat.reduceAdd, Nat.reduceLeDiff, RS]
  first | done | rfl
theorem planR_none {W H : Nat} (hW1 : 1 ≤ W) (hW4 : W ≤ 4) (hH1 : 1 ≤ H) (hH : H ≤ 64) (b : Bool) {l : List Bool} (hn : l.length = W * H) {feet : Nat} (hf1 : 1 ≤ feet) (hf4 : feet ≤ 4) {T : List Nat} (hT : Lst W (nzL W (rowsL W l H)) feet T) (h0 : T.length = 0) :
    Contract Tryd.prog 23 [GA W H b l, I feet] (.tuple [GR 0 0 true [], .list true true 0 [], I 6]) := by
  have hli := liftsR_c hW1 hW4 hH1 hH b hn
  have hfe := feetR_c (feet : Int)
  rw [decide_eq_true (by omega)] at hfe
  have hnzl := tie_len' hW4 (nz_tie W (rowsL W l H))
  have hle := leastR_c (s := W) hW1 hW4 (nzL W (rowsL W l H)).isEmpty (L := nzL W (rowsL W l H)) (by omega) (fun x hx => (mem_nz.1 hx).1) hf1 hf4 hT
  have hTl := nI_len T
  generalize nzL W (rowsL W l H) = L at *
  refine Contract.intro (effS [51] false) 6 follows Tryd.func23 rfl rfl (by kernel_rfl) (Nat.le_of_ble_eq_true rfl) ?_
  simp (disch := first | assumption | omega | rfl | simp only [RH]) only [↓RP, RG, FX, RQ, ↓reduceIte, Nat.reduceEqDiff, reduceCtorEq, Nat.reduceBEq, Nat.reduceAdd, Nat.reduceLeDiff, args0_2]
  refine callK_F 6 hli (by simp (disch := first | assumption | omega | rfl | simp only [RH]) only [↓RP, RG, FX, RQ, ↓reduceIte, Nat.reduceEqDiff, reduceCtorEq, Nat.reduceBEq, Nat.reduceAdd, Nat.reduceLeDiff, RA] <;> rfl) (.inl (by simp [allFresh, ints_fresh])) ?_
  simp (disch := first | assumption | omega | rfl | simp only [RH]) only [↓RP, RG, FX, RQ, ↓reduceIte, Nat.reduceEqDiff, reduceCtorEq, Nat.reduceBEq, Nat.reduceAdd, Nat.reduceLeDiff]
  refine callK_F 6 (hfe) (by simp (disch := first | assumption | omega | rfl | simp only [RH]) only [↓RP, RG, FX, RQ, ↓reduceIte, Nat.reduceEqDiff, reduceCtorEq, Nat.reduceBEq, Nat.reduceAdd, Nat.reduceLeDiff, RA] <;> rfl) (.inl (by simp [allFresh, ints_fresh, bools_fresh])) ?_
  simp (disch := first | assumption | omega | rfl | simp only [RH]) only [↓RP, RG, FX, RQ, ↓reduceIte, Nat.reduceEqDiff, reduceCtorEq, Nat.reduceBEq, Nat.reduceAdd, Nat.reduceLeDiff]
  refine callK_F 6 hle (by simp (disch := first | assumption | omega | rfl | simp only [RH]) only [↓RP, RG, FX, RQ, ↓reduceIte, Nat.reduceEqDiff, reduceCtorEq, Nat.reduceBEq, Nat.reduceAdd, Nat.reduceLeDiff, RA] <;> rfl) (.inl (by simp [allFresh, ints_fresh])) ?_
  simp (disch := first | assumption | omega | rfl | simp only [RH]) only [↓RP, RG, FX, RQ, ↓reduceIte, Nat.reduceEqDiff, reduceCtorEq, Nat.reduceBEq, Nat.reduceAdd, Nat.reduceLeDiff]
  rw [resVal_3 rfl]; simp (disch := first | assumption | omega | rfl | simp only [RH]) only [↓RP, RG, FX, RQ, ↓reduceIte, Nat.reduceEqDiff, reduceCtorEq, Nat.reduceBEq, Nat.reduceAdd, Nat.reduceLeDiff, RS]
  first | done | rfl
theorem planR_c {W H : Nat} (hW1 : 1 ≤ W) (hW4 : W ≤ 4) (hH1 : 1 ≤ H) (hH : H ≤ 64) (b : Bool) {l : List Bool} (hn : l.length = W * H) {feet : Nat} (hf1 : 1 ≤ feet) (hf4 : feet ≤ 4) {T : List Nat} (hT : Lst W (nzL W (rowsL W l H)) feet T) (h0 : 0 < T.length)
    (f : Nat → List Nat) (hf : ∀ y, y < H → Bst T (rowK W l y W) feet (some (f y))) :
    Contract Tryd.prog 23 [GA W H b l, I feet] (.tuple [GR T.length W false (tabN T.length (uT5 T) (T.length * W)), .list true false H (prL f H), I 0]) := by
  obtain ⟨p1, p2⟩ := pow4 hW4
  have hli := liftsR_c hW1 hW4 hH1 hH b hn
  have hfe := feetR_c (feet : Int)
  rw [decide_eq_true (by omega)] at hfe
  have hnzl := tie_len' hW4 (nz_tie W (rowsL W l H))
  have hle := leastR_c (s := W) hW1 hW4 (nzL W (rowsL W l H)).isEmpty (L := nzL W (rowsL W l H)) (by omega) (fun x hx => (mem_nz.1 hx).1) hf1 hf4 hT
  have hTl := nI_len T
  have hT15 : T.length ≤ 15 := by
    have h1 := tie_len' hW4 hT.tie
    rcases Nat.lt_or_ge T.length 16 with h | h
    · omega
    · have := inc_bound (M := 16) (T.drop 1) (T.getD 0 0) (by
        obtain ⟨a, t, rfl⟩ : ∃ a t, T = a :: t := by
          cases T with
          | nil => simp at h0
          | cons a t => exact ⟨a, t, rfl⟩
        exact hT.tie.1) (by
        obtain ⟨a, t, rfl⟩ : ∃ a t, T = a :: t := by
          cases T with
          | nil => simp at h0
          | cons a t => exact ⟨a, t, rfl⟩
        intro x hx
        have := (hT.tie.2 x hx).2
        omega)
      rw [List.length_drop] at this
      have h2 := (hT.tie.2 (T.getD 0 0) (by rw [List.getD_eq_getElem?_getD, List.getElem?_eq_getElem h0]; exact List.getElem_mem h0)).1
      omega
  have htg : ∀ i, i < T.length → T.getD i 0 < 16 := fun i hi => tie_lt hW4 hT.tie hi
  have hrow : ∀ y, y < H → Contract Tryd.prog 54 [GA W H b l, I y] (I (rowK W l y W)) := fun y hy => rowR_c hW4 hH b hn hy
  have hrk : ∀ y, rowK W l y W < 16 := fun y => by have := rowK_lt W l y W; omega
  have hpr : ∀ y, y < H → Contract Tryd.prog 53 [LA T.isEmpty (nI T), I ((rowK W l y W : Nat) : Int), I feet] (I (famL (f y))) := fun y hy =>
    pressing_c T.isEmpty hT15 htg (hrk y) _ (hf y hy)
  have hfb : ∀ y, y < H → famL (f y) < 65536 ∧ bitsL (famL (f y)) = f y := fun y hy => by
    have hlow := (hf y hy).1.low
    have h1 := famL_lt (n := 16) fun i hi => by have := hlow i hi; omega
    exact ⟨by simpa using h1, bits_famL (hf y hy).1.inc fun i hi => by have := hlow i hi; omega⟩
  have hin : ∀ y, y < H → Contract Tryd.prog 52 [I (famL (f y))] (LR (f y).isEmpty (nI (f y))) := fun y hy => by
    have := indices_c (hfb y hy).1
    rw [(hfb y hy).2] at this
    rwa [show (nI (f y)).isEmpty = (f y).isEmpty from by cases f y <;> rfl] at this
  have hfl : ∀ y, y < H → (f y).length ≤ 4 := fun y hy => Nat.le_trans (hf y hy).1.len hf4
  have hTW : T.length * W ≤ 15 * 4 := Nat.mul_le_mul hT15 hW4
  generalize nzL W (rowsL W l H) = L at *
  refine Contract.intro (effS [51] false) 6 follows Tryd.func23 rfl rfl (by kernel_rfl) (Nat.le_of_ble_eq_true rfl) ?_
  simp (disch := first | assumption | omega | rfl | simp only [RH]) only [↓RP, RG, FX, RQ, ↓reduceIte, Nat.reduceEqDiff, reduceCtorEq, Nat.reduceBEq, Nat.reduceAdd, Nat.reduceLeDiff, args0_2]
  refine callK_F 6 hli (by simp (disch := first | assumption | omega | rfl | simp only [RH]) only [↓RP, RG, FX, RQ, ↓reduceIte, Nat.reduceEqDiff, reduceCtorEq, Nat.reduceBEq, Nat.reduceAdd, Nat.reduceLeDiff, RA] <;> rfl) (.inl (by simp [allFresh, ints_fresh])) ?_
  simp (disch := first | assumption | omega | rfl | simp only [RH]) only [↓RP, RG, FX, RQ, ↓reduceIte, Nat.reduceEqDiff, reduceCtorEq, Nat.reduceBEq, Nat.reduceAdd, Nat.reduceLeDiff]
  refine callK_F 6 (hfe) (by simp (disch := first | assumption | omega | rfl | simp only [RH]) only [↓RP, RG, FX, RQ, ↓reduceIte, Nat.reduceEqDiff, reduceCtorEq, Nat.reduceBEq, Nat.reduceAdd, Nat.reduceLeDiff, RA] <;> rfl) (.inl (by simp [allFresh, ints_fresh, bools_fresh])) ?_
  simp (disch := first | assumption | omega | rfl | simp only [RH]) only [↓RP, RG, FX, RQ, ↓reduceIte, Nat.reduceEqDiff, reduceCtorEq, Nat.reduceBEq, Nat.reduceAdd, Nat.reduceLeDiff]
  refine callK_F 6 hle (by simp (disch := first | assumption | omega | rfl | simp only [RH]) only [↓RP, RG, FX, RQ, ↓reduceIte, Nat.reduceEqDiff, reduceCtorEq, Nat.reduceBEq, Nat.reduceAdd, Nat.reduceLeDiff, RA] <;> rfl) (.inl (by simp [allFresh, ints_fresh])) ?_
  simp (disch := first | assumption | omega | rfl | simp only [RH]) only [↓RP, RG, FX, RQ, ↓reduceIte, Nat.reduceEqDiff, reduceCtorEq, Nat.reduceBEq, Nat.reduceAdd, Nat.reduceLeDiff]
  refine callK_T rfl (by rw [hTl]; exact zero_n _ T.length W (by omega) (by omega)) ?_
  simp (disch := first | assumption | omega | rfl | simp only [RH]) only [↓RP, RG, FX, RQ, ↓reduceIte, Nat.reduceEqDiff, reduceCtorEq, Nat.reduceBEq, Nat.reduceAdd, Nat.reduceLeDiff]
  refine loopK_I [1, 2, 4, 9, 11, 12] (fun x : Nat => x ≤ T.length) (fun x => ⟨[(1, I feet), (2, .ptr 0 0 3), (4, .ptr 1 0 3), (9, LR T.isEmpty (nI T)), (11, .ptr 3 0 3), (12, I x)], [⟨25, 3, [I W, I H, BA b l]⟩, ⟨25, 3, [I 0, I 0, .cap0 true]⟩, ⟨4, 1, bools (colN T.length (uT5 T) (T.length * W) x 0)⟩, ⟨25, 3, [I T.length, I W, .ref 2 0 (T.length * W) (T.length * W)]⟩]⟩) (fun x => T.length - x) 0 (by omega) (by simp only [↓RP, RG, FX, RQ, ↓reduceIte, Nat.reduceEqDiff, reduceCtorEq, Nat.reduceBEq, Nat.reduceAdd, Nat.reduceLeDiff, colN_zero]; rfl) ?_
  intro x hx
  by_cases hx2 : x < T.length
  · simp (disch := first | assumption | omega | rfl | simp only [RH]) only [↓RP, RG, FX, RQ, ↓reduceIte, Nat.reduceEqDiff, reduceCtorEq, Nat.reduceBEq, Nat.reduceAdd, Nat.reduceLeDiff]
    refine loopK_I [1, 2, 4, 9, 11, 12, 13] (fun y : Nat => y ≤ W) (fun y => ⟨[(1, I feet), (2, .ptr 0 0 3), (4, .ptr 1 0 3), (9, LR T.isEmpty (nI T)), (11, .ptr 3 0 3), (12, I x), (13, I y)], [⟨25, 3, [I W, I H, BA b l]⟩, ⟨25, 3, [I 0, I 0, .cap0 true]⟩, ⟨4, 1, bools (colN T.length (uT5 T) (T.length * W) x y)⟩, ⟨25, 3, [I T.length, I W, .ref 2 0 (T.length * W) (T.length * W)]⟩]⟩) (fun y => W - y) 0 (by omega) (by simp only [↓RP, RG, FX, RQ, ↓reduceIte, Nat.reduceEqDiff, reduceCtorEq, Nat.reduceBEq, Nat.reduceAdd, Nat.reduceLeDiff]; rfl) ?_
    intro y hy
    by_cases hy2 : y < W
    · have hcl := colN_len T.length (uT5 T) (T.length * W) x y
      have hil := idx_lt hx2 hy2
      have hg := nI_get T x
      have ht16 := htg x hx2
      obtain ⟨s1, s2⟩ := dig_ops (x := T.getD x 0) (i := y) (by omega) (by omega)
      have hd := dig_lt (T.getD x 0) y
      have hu : uT5 T x y = decide (dig (T.getD x 0) y = 1) := dig_bit _ _
      have hst := colN_step T.length (uT5 T) (n := T.length * W) (y := y) hx2
      generalize dig (T.getD x 0) y = d at *
      generalize T.getD x 0 / 2 ^ y = q at *
      generalize T.getD x 0 = tx at *
      by_cases e : d = 1
      · rw [decide_eq_true e] at hu
        rw [hu] at hst
        simp (disch := first | assumption | omega | rfl | simp only [RH]) only [↓RP, RG, FX, RQ, ↓reduceIte, Nat.reduceEqDiff, reduceCtorEq, Nat.reduceBEq, Nat.reduceAdd, Nat.reduceLeDiff, hg, aBin_shr, s1, s2]
        refine callK_T rfl (set_n _ 2 (T.length * W) T.length x y _ W _ rfl hcl hil (by omega)) ?_
        simp (disch := first | assumption | omega | rfl | simp only [RH]) only [↓RP, RG, FX, RQ, ↓reduceIte, Nat.reduceEqDiff, reduceCtorEq, Nat.reduceBEq, Nat.reduceAdd, Nat.reduceLeDiff]
        exact ⟨y + 1, by omega, by rw [← hst]; rfl, by omega⟩
      · rw [decide_eq_false e] at hu
        rw [hu] at hst
        simp (disch := first | assumption | omega | rfl | simp only [RH]) only [↓RP, RG, FX, RQ, ↓reduceIte, Nat.reduceEqDiff, reduceCtorEq, Nat.reduceBEq, Nat.reduceAdd, Nat.reduceLeDiff, hg, aBin_shr, s1, s2]
        refine callK_T rfl (set_n _ 2 (T.length * W) T.length x y _ W _ rfl hcl hil (by omega)) ?_
        simp (disch := first | assumption | omega | rfl | simp only [RH]) only [↓RP, RG, FX, RQ, ↓reduceIte, Nat.reduceEqDiff, reduceCtorEq, Nat.reduceBEq, Nat.reduceAdd, Nat.reduceLeDiff]
        exact ⟨y + 1, by omega, by rw [← hst]; rfl, by omega⟩
    · obtain rfl : y = W := by omega
      simp (disch := first | assumption | omega | rfl | simp only [RH]) only [↓RP, RG, FX, RQ, ↓reduceIte, Nat.reduceEqDiff, reduceCtorEq, Nat.reduceBEq, Nat.reduceAdd, Nat.reduceLeDiff]
      exact ⟨x + 1, by omega, by rw [colN_row]; rfl, by omega⟩
  · obtain rfl : x = T.length := by omega
    simp (disch := first | assumption | omega | rfl | simp only [RH]) only [↓RP, RG, FX, RQ, ↓reduceIte, Nat.reduceEqDiff, reduceCtorEq, Nat.reduceBEq, Nat.reduceAdd, Nat.reduceLeDiff]
    rw [colN_end]
    have hbl := tabN_len T.length (uT5 T) (T.length * W)
    have hbe1 : (bools (tabN T.length (uT5 T) (T.length * W))).isEmpty = false := by
      have h3 := hbl
      have : 0 < T.length * W := Nat.mul_pos h0 (by omega)
      cases hc : tabN T.length (uT5 T) (T.length * W) with
      | nil => rw [hc] at h3; simp at h3; omega
      | cons x r => rfl
    generalize tabN T.length (uT5 T) (T.length * W) = bt at *
    refine loopK_W [1, 2, 4, 9, 11, 14, 15] (fun y : Nat => y ≤ H) (fun y => ⟨[(1, I feet), (2, .ptr 0 0 3), (4, .ptr 1 0 3), (9, LR T.isEmpty (nI T)), (11, .ptr 3 0 3), (14, gw true 4 (prL f y)), (15, I y)], [⟨25, 3, [I W, I H, BA b l]⟩, ⟨25, 3, [I 0, I 0, .cap0 true]⟩, ⟨4, 1, bools bt⟩, ⟨25, 3, [I T.length, I W, .ref 2 0 (T.length * W) (T.length * W)]⟩, go 22 (prL f y)]⟩) (fun y => H - y) 0 (by omega) (by
      simp only [↓RP, RG, FX, RQ, ↓reduceIte, Nat.reduceEqDiff, reduceCtorEq, Nat.reduceBEq, Nat.reduceAdd, Nat.reduceLeDiff]
      exact Wk.weak (WE.cons _ (.refl _) (WE.cons _ (.refl _) (WE.cons _ (.refl _) (WE.cons _ (.refl _) (WE.cons _ (.refl _) (WE.cons _ (.nil _) (WE.cons _ (.refl _) WE.nil))))))) (.cons _ _ _ _ (WL.refl _) (.cons _ _ _ _ (WL.refl _) (.cons _ _ _ _ (WL.refl _) (.cons _ _ _ _ (WL.refl _) (.nil _ (by simp [go, prL]))))))) ?_
    intro y hy
    have hpl := prL_len f y
    by_cases hlt2 : y < H
    · have hR := hrow y hlt2
      have hP := hpr y hlt2
      have hI := hin y hlt2
      have hps := prL_succ f y
      have hfy := hfl y hlt2
      generalize rowK W l y W = rk at *
      generalize famL (f y) = fm at *
      simp (disch := first | assumption | omega | rfl | simp only [RH]) only [↓RP, RG, FX, RQ, ↓reduceIte, Nat.reduceEqDiff, reduceCtorEq, Nat.reduceBEq, Nat.reduceAdd, Nat.reduceLeDiff]
      refine callK_F 6 (hR) (by simp (disch := first | assumption | omega | rfl | simp only [RH]) only [↓RP, RG, FX, RQ, ↓reduceIte, Nat.reduceEqDiff, reduceCtorEq, Nat.reduceBEq, Nat.reduceAdd, Nat.reduceLeDiff, RA] <;> rfl) (.inl (by simp [allFresh, ints_fresh, bools_fresh])) ?_
      simp (disch := first | assumption | omega | rfl | simp only [RH]) only [↓RP, RG, FX, RQ, ↓reduceIte, Nat.reduceEqDiff, reduceCtorEq, Nat.reduceBEq, Nat.reduceAdd, Nat.reduceLeDiff]
      refine callK_F 6 (hP) (by simp (disch := first | assumption | omega | rfl | simp only [RH]) only [↓RP, RG, FX, RQ, ↓reduceIte, Nat.reduceEqDiff, reduceCtorEq, Nat.reduceBEq, Nat.reduceAdd, Nat.reduceLeDiff, RA] <;> rfl) (.inl (by simp [allFresh, ints_fresh, bools_fresh])) ?_
      simp (disch := first | assumption | omega | rfl | simp only [RH]) only [↓RP, RG, FX, RQ, ↓reduceIte, Nat.reduceEqDiff, reduceCtorEq, Nat.reduceBEq, Nat.reduceAdd, Nat.reduceLeDiff]
      refine callK_F 6 hI (by simp (disch := first | assumption | omega | rfl | simp only [RH]) only [↓RP, RG, FX, RQ, ↓reduceIte, Nat.reduceEqDiff, reduceCtorEq, Nat.reduceBEq, Nat.reduceAdd, Nat.reduceLeDiff, RA] <;> rfl) (.inl (by simp [allFresh, ints_fresh])) ?_
      simp (disch := first | assumption | omega | rfl | simp only [RH]) only [↓RP, RG, FX, RQ, ↓reduceIte, Nat.reduceEqDiff, reduceCtorEq, Nat.reduceBEq, Nat.reduceAdd, Nat.reduceLeDiff, append_list]
      exact ⟨y + 1, hlt2, by rw [hps]; rfl, by omega⟩
    · obtain rfl : y = H := by omega
      have hpe : (prL f y).isEmpty = false := by
        cases hp : prL f y with
        | nil => rw [hp] at hpl; simp at hpl; omega
        | cons x r => rfl
      have hres : ∀ (h : List AObj) (m : Nat), (prL f y).map (resOf h (m + 2)) = prL f y := fun h m => by
        unfold prL
        rw [List.map_map]
        refine List.map_congr_left fun k _ => ?_
        show resOf h (m + 2) (LR (f k).isEmpty (nI (f k))) = LR (f k).isEmpty (nI (f k))
        simp only [LR, resOf_list, ints_res]
      generalize prL f y = PL at *
      simp (disch := first | assumption | omega | rfl | simp only [RH]) only [↓RP, RG, FX, RQ, ↓reduceIte, Nat.reduceEqDiff, reduceCtorEq, Nat.reduceBEq, Nat.reduceAdd, Nat.reduceLeDiff]
      rw [resVal_3 rfl]; simp (disch := first | assumption | omega | rfl | simp only [RH]) only [↓RP, RG, FX, RQ, ↓reduceIte, Nat.reduceEqDiff, reduceCtorEq, Nat.reduceBEq, Nat.reduceAdd, Nat.reduceLeDiff, RS]
      rw [hpe, hres _ 2, hpl]
      rfl
end Go.Proofs.YtlckfakifamjiaaDoor

/- The law SkeletonPlans. -/
set_option linter.unusedSimpArgs false
set_option linter.unusedVariables false
set_option maxRecDepth 100000
namespace Go.Proofs.YtlckfakifamjiaaDoor
open Go Go.Proofs Go.AW

theorem countP_orP (p q : Nat → Bool) : ∀ l : List Nat, l.countP (fun i => p i || q i) ≤ l.countP p + l.countP q
  | [] => by simp
  | a :: l => by
    have ih := countP_orP p q l
    rw [List.countP_cons, List.countP_cons, List.countP_cons]
    cases p a <;> cases q a <;> simp <;> omega
theorem countP_oneP (x : Nat) : ∀ n, (List.range n).countP (fun i => decide (x = i)) ≤ if x < n then 1 else 0 := by
  intro n
  induction n with
  | zero => simp
  | succ n ih =>
    rw [List.range_succ, List.countP_append, List.countP_cons, List.countP_nil]
    by_cases e : x = n
    · subst e
      rw [if_neg (by omega)] at ih
      rw [if_pos (by simp), if_pos (by omega)]; omega
    · rw [if_neg (by simpa using e)]
      by_cases c : x < n
      · rw [if_pos c] at ih; rw [if_pos (by omega)]; omega
      · rw [if_neg c] at ih; omega
theorem bitsL_orP (x m : Nat) : (bitsL (2 ^ x ||| m)).length ≤ (bitsL m).length + 1 := by
  have e1 : (bitsL (2 ^ x ||| m)).length = (List.range 16).countP (fun i => decide (x = i) || m.testBit i) := by
    unfold bitsL
    rw [← List.countP_eq_length_filter]
    congr 1
    funext i
    rw [Nat.testBit_or, Nat.testBit_two_pow]
  have e2 : (bitsL m).length = (List.range 16).countP (fun i => m.testBit i) := by unfold bitsL; rw [List.countP_eq_length_filter]
  rw [e1, e2]
  have h1 := countP_orP (fun i => decide (x = i)) (fun i => m.testBit i) (List.range 16)
  have h2 := countP_oneP x 16
  have h3 : (if x < 16 then 1 else 0) ≤ 1 := by split <;> omega
  omega
theorem rk_famP {tie : List Nat} : ∀ k x, Rk tie k x → ∃ m, (∀ i, m.testBit i = true → i < tie.length) ∧ (bitsL m).length ≤ k ∧ ∀ b, x.testBit b = true ↔ ∃ i, m.testBit i = true ∧ (tie.getD i 0).testBit b = true
  | 0, x, h => by
    have : x = 0 := h
    subst this
    exact ⟨0, fun i hi => by simp at hi, by rw [bitsL_zero]; simp, fun b => by simp⟩
  | k + 1, x, h => by
    rcases h with h | ⟨y, hy, t, ht, e⟩
    · obtain ⟨m, h1, h2, h3⟩ := rk_famP k x h
      exact ⟨m, h1, by omega, h3⟩
    · obtain ⟨m, h1, h2, h3⟩ := rk_famP k y hy
      obtain ⟨j, hj, ej⟩ := List.mem_iff_getElem.1 ht
      have hjg : tie.getD j 0 = t := by rw [List.getD_eq_getElem?_getD, List.getElem?_eq_getElem hj]; exact ej
      refine ⟨2 ^ j ||| m, fun i hi => ?_, by have := bitsL_orP j m; omega, fun b => ?_⟩
      · rw [Nat.testBit_or, Bool.or_eq_true, Nat.testBit_two_pow, decide_eq_true_eq] at hi
        rcases hi with hi | hi
        · omega
        · exact h1 i hi
      · rw [e, Nat.testBit_or, Bool.or_eq_true, h3 b]
        constructor
        · rintro (⟨i, g1, g2⟩ | g)
          · exact ⟨i, by rw [Nat.testBit_or, g1, Bool.or_true], g2⟩
          · exact ⟨j, by rw [Nat.testBit_or, Nat.testBit_two_pow, decide_eq_true rfl, Bool.true_or], by rw [hjg]; exact g⟩
        · rintro ⟨i, g1, g2⟩
          rw [Nat.testBit_or, Bool.or_eq_true, Nat.testBit_two_pow, decide_eq_true_eq] at g1
          rcases g1 with g1 | g1
          · subst g1; rw [hjg] at g2; exact .inr g2
          · exact .inl ⟨i, g1, g2⟩
theorem rk_pok {tie : List Nat} (ht : tie.length ≤ 16) {lift feet : Nat} (h : Rk tie feet lift) : ∃ u, Pok tie lift feet u := by
  obtain ⟨m, h1, h2, h3⟩ := rk_famP feet lift h
  refine ⟨bitsL m, h2, bitsL_inc m, fun i hi => h1 i (mem_bitsL.1 hi).2, fun b => ?_⟩
  rw [h3 b]
  simp only [Nat.zero_testBit, Bool.false_eq_true, false_or]
  constructor
  · rintro ⟨i, g1, g2⟩; exact ⟨i, mem_bitsL.2 ⟨by have := h1 i g1; omega, g1⟩, g2⟩
  · rintro ⟨i, g1, g2⟩; exact ⟨i, (mem_bitsL.1 g1).2, g2⟩
/-- The pressings of the first k rows, handed to a call. -/
def prA (f : Nat → List Nat) (k : Nat) : List AVal := (List.range k).map fun y => LA (f y).isEmpty (nI (f y))
theorem prA_len (f : Nat → List Nat) (k : Nat) : (prA f k).length = k := by simp [prA]
theorem prA_at (f : Nat → List Nat) {k y : Nat} (hy : y < k) : ((prA f k).drop y)[0]? = some (LA (f y).isEmpty (nI (f y))) := by
  rw [List.getElem?_drop, Nat.add_zero]
  unfold prA
  rw [List.getElem?_map, List.getElem?_range hy]; rfl
theorem prL_arg (f : Nat → List Nat) (k : Nat) (h : List AObj) (m : Nat) : (prL f k).map (argOf h (m + 2)) = prA f k := by
  unfold prL prA
  rw [List.map_map]
  refine List.map_congr_left fun y _ => ?_
  show argOf h (m + 2) (LR (f y).isEmpty (nI (f y))) = _
  simp [argOf, ints, LR, LA, Function.comp_def]
theorem prL_fr (f : Nat → List Nat) (k n : Nat) : (prL f k).all (allFresh (n + 2)) = true := by
  rw [List.all_eq_true]
  intro x hx
  obtain ⟨y, -, rfl⟩ := List.mem_map.1 hx
  simp [allFresh, ints_fresh]
theorem sameL_c (b1 b2 : Bool) (f : Nat → List Nat) {k : Nat} (hk : k ≤ 1000) (hf : ∀ y, y < k → (f y).length ≤ 1000) : Contract Tryd.prog 25 [.list false b1 k (prA f k), .list false b2 k (prA f k)] (B true) := by
  have hpl := prA_len f k
  have hat : ∀ y, y < k → ((prA f k).drop y)[0]? = some (LA (f y).isEmpty (nI (f y))) := fun y hy => prA_at f hy
  generalize prA f k = PA at *
  refine Contract.intro (effS [] false) 6 follows Tryd.func25 rfl rfl (by kernel_rfl) (Nat.le_of_ble_eq_true rfl) ?_
  simp (disch := first | assumption | omega | rfl | simp only [RH]) only [↓RP, RG, FX, RQ, ↓reduceIte, Nat.reduceEqDiff, reduceCtorEq, Nat.reduceBEq, Nat.reduceAdd, Nat.reduceLeDiff, args0_2]
  refine loopK_I [0, 1, 5] (fun y : Nat => y ≤ k) (fun y => ⟨[(0, .list false b1 k PA), (1, .list false b2 k PA), (5, I y)], []⟩) (fun y => k - y) 0 (by omega) (by simp only [↓RP, RG, FX, RQ, ↓reduceIte, Nat.reduceEqDiff, reduceCtorEq, Nat.reduceBEq, Nat.reduceAdd, Nat.reduceLeDiff]; rfl) ?_
  intro y hy
  by_cases hlt : y < k
  · have ha := hat y hlt
    have hl := nI_len (f y)
    have hfy := hf y hlt
    generalize nI (f y) = r at *
    simp (disch := first | assumption | omega | rfl | simp only [RH]) only [↓RP, RG, FX, RQ, ↓reduceIte, Nat.reduceEqDiff, reduceCtorEq, Nat.reduceBEq, Nat.reduceAdd, Nat.reduceLeDiff, ha, Int.toNat_natCast]
    refine loopK_I [0, 1, 5, 6] (fun i : Nat => i ≤ r.length) (fun i => ⟨[(0, .list false b1 k PA), (1, .list false b2 k PA), (5, I y), (6, I i)], []⟩) (fun i => r.length - i) 0 (by omega) (by simp only [↓RP, RG, FX, RQ, ↓reduceIte, Nat.reduceEqDiff, reduceCtorEq, Nat.reduceBEq, Nat.reduceAdd, Nat.reduceLeDiff]; rfl) ?_
    intro i hi
    by_cases hlt2 : i < r.length
    · simp (disch := first | assumption | omega | rfl | simp only [RH]) only [↓RP, RG, FX, RQ, ↓reduceIte, Nat.reduceEqDiff, reduceCtorEq, Nat.reduceBEq, Nat.reduceAdd, Nat.reduceLeDiff, ha, Int.toNat_natCast]
      exact ⟨i + 1, hlt2, rfl, by omega⟩
    · obtain rfl : i = r.length := by omega
      simp (disch := first | assumption | omega | rfl | simp only [RH]) only [↓RP, RG, FX, RQ, ↓reduceIte, Nat.reduceEqDiff, reduceCtorEq, Nat.reduceBEq, Nat.reduceAdd, Nat.reduceLeDiff, ha, Int.toNat_natCast]
      exact ⟨y + 1, hlt, rfl, by omega⟩
  · obtain rfl : y = k := by omega
    simp (disch := first | assumption | omega | rfl | simp only [RH]) only [↓RP, RG, FX, RQ, ↓reduceIte, Nat.reduceEqDiff, reduceCtorEq, Nat.reduceBEq, Nat.reduceAdd, Nat.reduceLeDiff]
    rw [resVal_1 rfl]; simp (disch := first | assumption | omega | rfl | simp only [RH]) only [↓RP, RG, FX, RQ, ↓reduceIte, Nat.reduceEqDiff, reduceCtorEq, Nat.reduceBEq, Nat.reduceAdd, Nat.reduceLeDiff, RS]
theorem leastP_bad (s : Int) (b : Bool) (l : List Int) (hl : l.length ≤ 1000) (feet : Int) (hn : ¬ ((1 ≤ s ∧ s ≤ 4) ∧ (1 ≤ feet ∧ feet ≤ 4) ∧ inR s.toNat l)) : Contract Tryd.prog 19 [I s, LA b l, I feet] (.tuple [LR true [], I 2]) := by
  by_cases c1 : s < 1
  · refine Contract.intro (effS [] false) 6 follows Tryd.func19 rfl rfl (by kernel_rfl) (Nat.le_of_ble_eq_true rfl) ?_
    simp (disch := first | assumption | omega | rfl | simp only [RH]) only [↓RP, RG, FX, RQ, ↓reduceIte, Nat.reduceEqDiff, reduceCtorEq, Nat.reduceBEq, Nat.reduceAdd, Nat.reduceLeDiff, args0_3]
    rw [resVal_2 rfl]; simp (disch := first | assumption | omega | rfl | simp only [RH]) only [↓RP, RG, FX, RQ, ↓reduceIte, Nat.reduceEqDiff, reduceCtorEq, Nat.reduceBEq, Nat.reduceAdd, Nat.reduceLeDiff, RS]
    first | done | rfl
  by_cases c2 : 4 < s
  · refine Contract.intro (effS [] false) 6 follows Tryd.func19 rfl rfl (by kernel_rfl) (Nat.le_of_ble_eq_true rfl) ?_
    simp (disch := first | assumption | omega | rfl | simp only [RH]) only [↓RP, RG, FX, RQ, ↓reduceIte, Nat.reduceEqDiff, reduceCtorEq, Nat.reduceBEq, Nat.reduceAdd, Nat.reduceLeDiff, args0_3]
    rw [resVal_2 rfl]; simp (disch := first | assumption | omega | rfl | simp only [RH]) only [↓RP, RG, FX, RQ, ↓reduceIte, Nat.reduceEqDiff, reduceCtorEq, Nat.reduceBEq, Nat.reduceAdd, Nat.reduceLeDiff, RS]
    first | done | rfl
  have hfe := feet_c feet
  by_cases c3 : 1 ≤ feet ∧ feet ≤ 4
  rotate_left
  · rw [decide_eq_false c3] at hfe
    refine Contract.intro (effS [] false) 6 follows Tryd.func19 rfl rfl (by kernel_rfl) (Nat.le_of_ble_eq_true rfl) ?_
    simp (disch := first | assumption | omega | rfl | simp only [RH]) only [↓RP, RG, FX, RQ, ↓reduceIte, Nat.reduceEqDiff, reduceCtorEq, Nat.reduceBEq, Nat.reduceAdd, Nat.reduceLeDiff, args0_3]
    refine callK_F 6 (hfe) (by simp (disch := first | assumption | omega | rfl | simp only [RH]) only [↓RP, RG, FX, RQ, ↓reduceIte, Nat.reduceEqDiff, reduceCtorEq, Nat.reduceBEq, Nat.reduceAdd, Nat.reduceLeDiff, RA] <;> rfl) (.inl (by simp [allFresh, ints_fresh, bools_fresh])) ?_
    simp (disch := first | assumption | omega | rfl | simp only [RH]) only [↓RP, RG, FX, RQ, ↓reduceIte, Nat.reduceEqDiff, reduceCtorEq, Nat.reduceBEq, Nat.reduceAdd, Nat.reduceLeDiff]
    rw [resVal_2 rfl]; simp (disch := first | assumption | omega | rfl | simp only [RH]) only [↓RP, RG, FX, RQ, ↓reduceIte, Nat.reduceEqDiff, reduceCtorEq, Nat.reduceBEq, Nat.reduceAdd, Nat.reduceLeDiff, RS]
    first | done | rfl
  rw [decide_eq_true c3] at hfe
  obtain ⟨S, rfl⟩ : ∃ S : Nat, s = S := ⟨s.toNat, by omega⟩
  rw [Int.toNat_natCast] at hn
  have hse := sets_c (s := S) (by omega) b l (by omega) false ⟨(fun h => by cases h), fun h => absurd ⟨⟨by omega, by omega⟩, c3, h⟩ hn⟩
  refine Contract.intro (effS [] false) 6 follows Tryd.func19 rfl rfl (by kernel_rfl) (Nat.le_of_ble_eq_true rfl) ?_
  simp (disch := first | assumption | omega | rfl | simp only [RH]) only [↓RP, RG, FX, RQ, ↓reduceIte, Nat.reduceEqDiff, reduceCtorEq, Nat.reduceBEq, Nat.reduceAdd, Nat.reduceLeDiff, args0_3]
  refine callK_F 6 (hfe) (by simp (disch := first | assumption | omega | rfl | simp only [RH]) only [↓RP, RG, FX, RQ, ↓reduceIte, Nat.reduceEqDiff, reduceCtorEq, Nat.reduceBEq, Nat.reduceAdd, Nat.reduceLeDiff, RA] <;> rfl) (.inl (by simp [allFresh, ints_fresh, bools_fresh])) ?_
  simp (disch := first | assumption | omega | rfl | simp only [RH]) only [↓RP, RG, FX, RQ, ↓reduceIte, Nat.reduceEqDiff, reduceCtorEq, Nat.reduceBEq, Nat.reduceAdd, Nat.reduceLeDiff]
  refine callK_F 6 (hse) (by simp (disch := first | assumption | omega | rfl | simp only [RH]) only [↓RP, RG, FX, RQ, ↓reduceIte, Nat.reduceEqDiff, reduceCtorEq, Nat.reduceBEq, Nat.reduceAdd, Nat.reduceLeDiff, RA] <;> rfl) (.inl (by simp [allFresh, ints_fresh, bools_fresh])) ?_
  simp (disch := first | assumption | omega | rfl | simp only [RH]) only [↓RP, RG, FX, RQ, ↓reduceIte, Nat.reduceEqDiff, reduceCtorEq, Nat.reduceBEq, Nat.reduceAdd, Nat.reduceLeDiff]
  rw [resVal_2 rfl]; simp (disch := first | assumption | omega | rfl | simp only [RH]) only [↓RP, RG, FX, RQ, ↓reduceIte, Nat.reduceEqDiff, reduceCtorEq, Nat.reduceBEq, Nat.reduceAdd, Nat.reduceLeDiff, RS]
  first | done | rfl
theorem leastR_bad (s : Int) (b : Bool) (l : List Int) (hl : l.length ≤ 1000) (feet : Int) (hn : ¬ ((1 ≤ s ∧ s ≤ 4) ∧ (1 ≤ feet ∧ feet ≤ 4) ∧ inR s.toNat l)) : Contract Tryd.prog 22 [I s, LA b l, I feet] (.tuple [LR true [], I 2]) := by
  by_cases c1 : s < 1
  · refine Contract.intro (effS [] false) 6 follows Tryd.func22 rfl rfl (by kernel_rfl) (Nat.le_of_ble_eq_true rfl) ?_
    simp (disch := first | assumption | omega | rfl | simp only [RH]) only [↓RP, RG, FX, RQ, ↓reduceIte, Nat.reduceEqDiff, reduceCtorEq, Nat.reduceBEq, Nat.reduceAdd, Nat.reduceLeDiff, args0_3]
    rw [resVal_2 rfl]; simp (disch := first | assumption | omega | rfl | simp only [RH]) only [↓RP, RG, FX, RQ, ↓reduceIte, Nat.reduceEqDiff, reduceCtorEq, Nat.reduceBEq, Nat.reduceAdd, Nat.reduceLeDiff, RS]
    first | done | rfl
  by_cases c2 : 4 < s
  · refine Contract.intro (effS [] false) 6 follows Tryd.func22 rfl rfl (by kernel_rfl) (Nat.le_of_ble_eq_true rfl) ?_
    simp (disch := first | assumption | omega | rfl | simp only [RH]) only [↓RP, RG, FX, RQ, ↓reduceIte, Nat.reduceEqDiff, reduceCtorEq, Nat.reduceBEq, Nat.reduceAdd, Nat.reduceLeDiff, args0_3]
    rw [resVal_2 rfl]; simp (disch := first | assumption | omega | rfl | simp only [RH]) only [↓RP, RG, FX, RQ, ↓reduceIte, Nat.reduceEqDiff, reduceCtorEq, Nat.reduceBEq, Nat.reduceAdd, Nat.reduceLeDiff, RS]
    first | done | rfl
  have hfe := feetR_c feet
  by_cases c3 : 1 ≤ feet ∧ feet ≤ 4
  rotate_left
  · rw [decide_eq_false c3] at hfe
    refine Contract.intro (effS [] false) 6 follows Tryd.func22 rfl rfl (by kernel_rfl) (Nat.le_of_ble_eq_true rfl) ?_
    simp (disch := first | assumption | omega | rfl | simp only [RH]) only [↓RP, RG, FX, RQ, ↓reduceIte, Nat.reduceEqDiff, reduceCtorEq, Nat.reduceBEq, Nat.reduceAdd, Nat.reduceLeDiff, args0_3]
    refine callK_F 6 (hfe) (by simp (disch := first | assumption | omega | rfl | simp only [RH]) only [↓RP, RG, FX, RQ, ↓reduceIte, Nat.reduceEqDiff, reduceCtorEq, Nat.reduceBEq, Nat.reduceAdd, Nat.reduceLeDiff, RA] <;> rfl) (.inl (by simp [allFresh, ints_fresh, bools_fresh])) ?_
    simp (disch := first | assumption | omega | rfl | simp only [RH]) only [↓RP, RG, FX, RQ, ↓reduceIte, Nat.reduceEqDiff, reduceCtorEq, Nat.reduceBEq, Nat.reduceAdd, Nat.reduceLeDiff]
    rw [resVal_2 rfl]; simp (disch := first | assumption | omega | rfl | simp only [RH]) only [↓RP, RG, FX, RQ, ↓reduceIte, Nat.reduceEqDiff, reduceCtorEq, Nat.reduceBEq, Nat.reduceAdd, Nat.reduceLeDiff, RS]
    first | done | rfl
  rw [decide_eq_true c3] at hfe
  obtain ⟨S, rfl⟩ : ∃ S : Nat, s = S := ⟨s.toNat, by omega⟩
  rw [Int.toNat_natCast] at hn
  have hse := setsR_c (s := S) (by omega) b (l := l) (by omega) false ⟨(fun h => by cases h), fun h => absurd ⟨⟨by omega, by omega⟩, c3, h⟩ hn⟩
  refine Contract.intro (effS [] false) 6 follows Tryd.func22 rfl rfl (by kernel_rfl) (Nat.le_of_ble_eq_true rfl) ?_
  simp (disch := first | assumption | omega | rfl | simp only [RH]) only [↓RP, RG, FX, RQ, ↓reduceIte, Nat.reduceEqDiff, reduceCtorEq, Nat.reduceBEq, Nat.reduceAdd, Nat.reduceLeDiff, args0_3]
  refine callK_F 6 (hfe) (by simp (disch := first | assumption | omega | rfl | simp only [RH]) only [↓RP, RG, FX, RQ, ↓reduceIte, Nat.reduceEqDiff, reduceCtorEq, Nat.reduceBEq, Nat.reduceAdd, Nat.reduceLeDiff, RA] <;> rfl) (.inl (by simp [allFresh, ints_fresh, bools_fresh])) ?_
  simp (disch := first | assumption | omega | rfl | simp only [RH]) only [↓RP, RG, FX, RQ, ↓reduceIte, Nat.reduceEqDiff, reduceCtorEq, Nat.reduceBEq, Nat.reduceAdd, Nat.reduceLeDiff]
  refine callK_F 6 (hse) (by simp (disch := first | assumption | omega | rfl | simp only [RH]) only [↓RP, RG, FX, RQ, ↓reduceIte, Nat.reduceEqDiff, reduceCtorEq, Nat.reduceBEq, Nat.reduceAdd, Nat.reduceLeDiff, RA] <;> rfl) (.inl (by simp [allFresh, ints_fresh, bools_fresh])) ?_
  simp (disch := first | assumption | omega | rfl | simp only [RH]) only [↓RP, RG, FX, RQ, ↓reduceIte, Nat.reduceEqDiff, reduceCtorEq, Nat.reduceBEq, Nat.reduceAdd, Nat.reduceLeDiff]
  rw [resVal_2 rfl]; simp (disch := first | assumption | omega | rfl | simp only [RH]) only [↓RP, RG, FX, RQ, ↓reduceIte, Nat.reduceEqDiff, reduceCtorEq, Nat.reduceBEq, Nat.reduceAdd, Nat.reduceLeDiff, RS]
  first | done | rfl
theorem planP_err (w h : Int) (b : Bool) (l : List Bool) (feet e : Int) (he : e ≠ 0) (hl : Contract Tryd.prog 18 [GA w h b l] (.tuple [LR true [], I e])) :
    Contract Tryd.prog 14 [GA w h b l, I feet] (.tuple [GR 0 0 true [], .list true true 0 [], I e]) := by
  refine Contract.intro (effS [] false) 6 follows Tryd.func14 rfl rfl (by kernel_rfl) (Nat.le_of_ble_eq_true rfl) ?_
  simp (disch := first | assumption | omega | rfl | simp only [RH]) only [↓RP, RG, FX, RQ, ↓reduceIte, Nat.reduceEqDiff, reduceCtorEq, Nat.reduceBEq, Nat.reduceAdd, Nat.reduceLeDiff, args0_2]
  refine callK_F 6 hl (by simp (disch := first | assumption | omega | rfl | simp only [RH]) only [↓RP, RG, FX, RQ, ↓reduceIte, Nat.reduceEqDiff, reduceCtorEq, Nat.reduceBEq, Nat.reduceAdd, Nat.reduceLeDiff, RA] <;> rfl) (.inl rfl) ?_
  simp (disch := first | assumption | omega | rfl | simp only [RH]) only [↓RP, RG, FX, RQ, ↓reduceIte, Nat.reduceEqDiff, reduceCtorEq, Nat.reduceBEq, Nat.reduceAdd, Nat.reduceLeDiff]
  rw [resVal_3 rfl]; simp (disch := first | assumption | omega | rfl | simp only [RH]) only [↓RP, RG, FX, RQ, ↓reduceIte, Nat.reduceEqDiff, reduceCtorEq, Nat.reduceBEq, Nat.reduceAdd, Nat.reduceLeDiff, RS]
  first | done | rfl
theorem planP_feet {W H : Nat} (hW1 : 1 ≤ W) (hW4 : W ≤ 4) (hH1 : 1 ≤ H) (hH : H ≤ 64) (b : Bool) {l : List Bool} (hn : l.length = W * H) (feet : Int) (hf : ¬ (1 ≤ feet ∧ feet ≤ 4)) :
    Contract Tryd.prog 14 [GA W H b l, I feet] (.tuple [GR 0 0 true [], .list true true 0 [], I 2]) := by
  have hli := liftsP_c hW1 hW4 hH1 hH b hn
  have hfe := feet_c feet
  rw [decide_eq_false hf] at hfe
  generalize nzL W (rowsL W l H) = L at *
  refine Contract.intro (effS [] false) 6 follows Tryd.func14 rfl rfl (by kernel_rfl) (Nat.le_of_ble_eq_true rfl) ?_
  simp (disch := first | assumption | omega | rfl | simp only [RH]) only [↓RP, RG, FX, RQ, ↓reduceIte, Nat.reduceEqDiff, reduceCtorEq, Nat.reduceBEq, Nat.reduceAdd, Nat.reduceLeDiff, args0_2]
  refine callK_F 6 hli (by simp (disch := first | assumption | omega | rfl | simp only [RH]) only [↓RP, RG, FX, RQ, ↓reduceIte, Nat.reduceEqDiff, reduceCtorEq, Nat.reduceBEq, Nat.reduceAdd, Nat.reduceLeDiff, RA] <;> rfl) (.inl (by simp [allFresh, ints_fresh])) ?_
  simp (disch := first | assumption | omega | rfl | simp only [RH]) only [↓RP, RG, FX, RQ, ↓reduceIte, Nat.reduceEqDiff, reduceCtorEq, Nat.reduceBEq, Nat.reduceAdd, Nat.reduceLeDiff]
  refine callK_F 6 (hfe) (by simp (disch := first | assumption | omega | rfl | simp only [RH]) only [↓RP, RG, FX, RQ, ↓reduceIte, Nat.reduceEqDiff, reduceCtorEq, Nat.reduceBEq, Nat.reduceAdd, Nat.reduceLeDiff, RA] <;> rfl) (.inl (by simp [allFresh, ints_fresh, bools_fresh])) ?_
  simp (disch := first | assumption | omega | rfl | simp only [RH]) only [↓RP, RG, FX, RQ, ↓reduceIte, Nat.reduceEqDiff, reduceCtorEq, Nat.reduceBEq, Nat.reduceAdd, Nat.reduceLeDiff]
  rw [resVal_3 rfl]; simp (disch := first | assumption | omega | rfl | simp only [RH]) only [↓RP, RG, FX, RQ, ↓reduceIte, Nat.reduceEqDiff, reduceCtorEq, Nat.reduceBEq, Nat.reduceAdd, Nat.reduceLeDiff, RS]
  first | done | rfl
/-- Both give the same least tie-up. -/
theorem least_both (s : Int) (b : Bool) (l : List Int) (hl : l.length ≤ 1000) (feet : Int) : ∃ (T : List Int) (b1 b2 : Bool) (e : Int), T.length ≤ 1000 ∧
    Contract Tryd.prog 19 [I s, LA b l, I feet] (.tuple [LR b1 T, I e]) ∧ Contract Tryd.prog 22 [I s, LA b l, I feet] (.tuple [LR b2 T, I e]) := by
  by_cases hv : (1 ≤ s ∧ s ≤ 4) ∧ (1 ≤ feet ∧ feet ≤ 4) ∧ inR s.toNat l
  · obtain ⟨⟨a1, a2⟩, ⟨a3, a4⟩, a6⟩ := hv
    obtain ⟨S, rfl⟩ : ∃ S : Nat, s = S := ⟨s.toNat, by omega⟩
    obtain ⟨F, rfl⟩ : ∃ F : Nat, feet = F := ⟨feet.toNat, by omega⟩
    rw [Int.toNat_natCast] at a6
    have hlt := inR_lt a6
    have hL : nI (l.map Int.toNat) = l := toN_eq fun i hi => (a6 i hi).1
    obtain ⟨T, -, hT⟩ := bst_lst (by omega) hlt (feet := F) (by omega)
    have h1 := least_c (s := S) (by omega) (by omega) b (L := l.map Int.toNat) (by rw [List.length_map]; omega) hlt (feet := F) (by omega) (by omega) hT
    have h2 := leastR_c (s := S) (by omega) (by omega) b (L := l.map Int.toNat) (by rw [List.length_map]; omega) hlt (feet := F) (by omega) (by omega) hT
    rw [hL] at h1 h2
    have := tie_len' (show S ≤ 4 by omega) hT.tie
    exact ⟨nI T, _, _, 0, by rw [nI_len]; omega, h1, h2⟩
  · exact ⟨[], _, _, 2, by simp, leastP_bad s b l hl feet hv, leastR_bad s b l hl feet hv⟩
theorem covRow {W H : Nat} {l : List Bool} {T : List Nat} {feet : Nat} (hT : Lst W (nzL W (rowsL W l H)) feet T) (hTl : T.length ≤ 16) : ∃ f : Nat → List Nat, ∀ y, y < H → Bst T (rowK W l y W) feet (some (f y)) := by
  refine ⟨fun y => ((bst_ex T (rowK W l y W) feet).choose).getD [], fun y hy => ?_⟩
  have hb := (bst_ex T (rowK W l y W) feet).choose_spec
  have hcv : Rk T feet (rowK W l y W) := by
    by_cases h0 : rowK W l y W = 0
    · rw [h0]; exact Rk_zero T feet
    · exact hT.cov _ (mem_nz.2 ⟨rowK_lt W l y W, by omega, List.mem_map.2 ⟨y, List.mem_range.2 hy, rfl⟩⟩)
  have hex := rk_pok (tie := T) hTl hcv
  show Bst T (rowK W l y W) feet (some (((bst_ex T (rowK W l y W) feet).choose).getD []))
  generalize (bst_ex T (rowK W l y W) feet).choose = r at *
  cases r with
  | none => obtain ⟨u, hu⟩ := hex; exact absurd hu (hb u)
  | some u => exact hb
/-- Both give the same plan. -/
theorem plan_both (w h : Int) (b : Bool) (l : List Bool) (feet : Int) : ∃ (w1 h1 : Int) (b1 : Bool) (bt : List Bool) (b2 : Bool) (k : Nat) (f : Nat → List Nat) (e : Int), bt.length ≤ 1000 ∧ k ≤ 64 ∧ (∀ y, y < k → (f y).length ≤ 1000) ∧
    Contract Tryd.prog 14 [GA w h b l, I feet] (.tuple [GR w1 h1 b1 bt, .list true b2 k (prL f k), I e]) ∧ Contract Tryd.prog 23 [GA w h b l, I feet] (.tuple [GR w1 h1 b1 bt, .list true b2 k (prL f k), I e]) := by
  by_cases ck : gchk w h l.length = 0
  rotate_left
  · exact ⟨0, 0, true, [], true, 0, fun _ => [], gchk w h l.length, by simp, by omega, fun y hy => by omega, planP_err w h b l feet _ ck (liftsP_bad w h b l ck), planR_err w h b l feet _ ck (liftsR_bad w h b l ck)⟩
  by_cases cw : 4 < w
  · exact ⟨0, 0, true, [], true, 0, fun _ => [], 4, by simp, by omega, fun y hy => by omega, planP_err w h b l feet 4 (by omega) (liftsP_many w h b l ck cw), planR_err w h b l feet 4 (by omega) (liftsR_many w h b l ck cw)⟩
  obtain ⟨g1, g2, g3, g4, g5⟩ := gchk_iff.1 ck
  obtain ⟨W, rfl⟩ : ∃ W : Nat, w = W := ⟨w.toNat, by omega⟩
  obtain ⟨H, rfl⟩ : ∃ H : Nat, h = H := ⟨h.toNat, by omega⟩
  have hn : l.length = W * H := by rw [← Int.natCast_mul] at g5; omega
  by_cases cf : 1 ≤ feet ∧ feet ≤ 4
  rotate_left
  · exact ⟨0, 0, true, [], true, 0, fun _ => [], 2, by simp, by omega, fun y hy => by omega, planP_feet (by omega) (by omega) (by omega) (by omega) b hn feet cf, planR_feet (by omega) (by omega) (by omega) (by omega) b hn feet cf⟩
  obtain ⟨F, rfl⟩ : ∃ F : Nat, feet = F := ⟨feet.toNat, by omega⟩
  obtain ⟨T, -, hT⟩ := bst_lst (s := W) (by omega) (L := nzL W (rowsL W l H)) (fun x hx => (mem_nz.1 hx).1) (feet := F) (by omega)
  have hT16 := tie_len' (show W ≤ 4 by omega) hT.tie
  by_cases h0 : T.length = 0
  · exact ⟨0, 0, true, [], true, 0, fun _ => [], 6, by simp, by omega, fun y hy => by omega, plan_none (by omega) (by omega) (by omega) (by omega) b hn (by omega) (by omega) hT h0, planR_none (by omega) (by omega) (by omega) (by omega) b hn (by omega) (by omega) hT h0⟩
  obtain ⟨f, hf⟩ := covRow hT hT16
  have hTW : T.length * W ≤ 16 * 4 := Nat.mul_le_mul hT16 (by omega)
  exact ⟨T.length, W, false, tabN T.length (uT5 T) (T.length * W), false, H, f, 0, by rw [tabN_len]; omega, by omega, fun y hy => by have := (hf y hy).1.len; omega, plan_c (by omega) (by omega) (by omega) (by omega) b hn (by omega) (by omega) hT (by omega) f hf, planR_c (by omega) (by omega) (by omega) (by omega) b hn (by omega) (by omega) hT (by omega) f hf⟩
theorem skeletonPlans_c (w h : Int) (bg : Bool) (l : List Bool) (b : Bool) (L : List Int) (s feet : Int) : Contract Tryd.prog 5 [GA w h bg l, LA b L, I s, I feet] (B true) := by
  have hgc := great_c w h bg l
  by_cases cg : 4200 < (l.length : Int)
  · rw [decide_eq_true cg] at hgc
    refine Contract.intro (effS [] false) 6 follows Tryd.func5 rfl rfl (by kernel_rfl) (Nat.le_of_ble_eq_true rfl) ?_
    simp (disch := first | assumption | omega | rfl | simp only [RH]) only [↓RP, RG, FX, RQ, ↓reduceIte, Nat.reduceEqDiff, reduceCtorEq, Nat.reduceBEq, Nat.reduceAdd, Nat.reduceLeDiff, args0_4]
    refine callK_F 6 (hgc) (by simp (disch := first | assumption | omega | rfl | simp only [RH]) only [↓RP, RG, FX, RQ, ↓reduceIte, Nat.reduceEqDiff, reduceCtorEq, Nat.reduceBEq, Nat.reduceAdd, Nat.reduceLeDiff, RA] <;> rfl) (.inl (by simp [allFresh, ints_fresh, bools_fresh])) ?_
    simp (disch := first | assumption | omega | rfl | simp only [RH]) only [↓RP, RG, FX, RQ, ↓reduceIte, Nat.reduceEqDiff, reduceCtorEq, Nat.reduceBEq, Nat.reduceAdd, Nat.reduceLeDiff]
    rw [resVal_1 rfl]; simp (disch := first | assumption | omega | rfl | simp only [RH]) only [↓RP, RG, FX, RQ, ↓reduceIte, Nat.reduceEqDiff, reduceCtorEq, Nat.reduceBEq, Nat.reduceAdd, Nat.reduceLeDiff, RS]
  rw [decide_eq_false cg] at hgc
  by_cases c20 : 20 < (L.length : Int)
  · refine Contract.intro (effS [] false) 6 follows Tryd.func5 rfl rfl (by kernel_rfl) (Nat.le_of_ble_eq_true rfl) ?_
    simp (disch := first | assumption | omega | rfl | simp only [RH]) only [↓RP, RG, FX, RQ, ↓reduceIte, Nat.reduceEqDiff, reduceCtorEq, Nat.reduceBEq, Nat.reduceAdd, Nat.reduceLeDiff, args0_4]
    refine callK_F 6 (hgc) (by simp (disch := first | assumption | omega | rfl | simp only [RH]) only [↓RP, RG, FX, RQ, ↓reduceIte, Nat.reduceEqDiff, reduceCtorEq, Nat.reduceBEq, Nat.reduceAdd, Nat.reduceLeDiff, RA] <;> rfl) (.inl (by simp [allFresh, ints_fresh, bools_fresh])) ?_
    simp (disch := first | assumption | omega | rfl | simp only [RH]) only [↓RP, RG, FX, RQ, ↓reduceIte, Nat.reduceEqDiff, reduceCtorEq, Nat.reduceBEq, Nat.reduceAdd, Nat.reduceLeDiff]
    rw [resVal_1 rfl]; simp (disch := first | assumption | omega | rfl | simp only [RH]) only [↓RP, RG, FX, RQ, ↓reduceIte, Nat.reduceEqDiff, reduceCtorEq, Nat.reduceBEq, Nat.reduceAdd, Nat.reduceLeDiff, RS]
  obtain ⟨T, b1, b2, e, hTl, k1, k2⟩ := least_both s b L (by omega) feet
  obtain ⟨w1, h1, b3, bt, b4, k, f, e2, d1, d2, d3, k3, k4⟩ := plan_both w h bg l feet
  have s1 := same02_c b1 b2 T T (by omega)
  have s2 := sameR_c w1 h1 w1 h1 b3 b3 bt bt (by omega)
  have s3 := sameL_c b4 b4 f (k := k) (by omega) d3
  rw [decide_eq_true rfl] at s1
  rw [decide_eq_true ⟨rfl, rfl, rfl⟩] at s2
  have hPf := prL_fr f k
  have hPa := prL_arg f k
  generalize prL f k = PL at *
  generalize prA f k = PA at *
  refine Contract.intro (effS [] false) 6 follows Tryd.func5 rfl rfl (by kernel_rfl) (Nat.le_of_ble_eq_true rfl) ?_
  simp (disch := first | assumption | omega | rfl | simp only [RH]) only [↓RP, RG, FX, RQ, ↓reduceIte, Nat.reduceEqDiff, reduceCtorEq, Nat.reduceBEq, Nat.reduceAdd, Nat.reduceLeDiff, args0_4]
  refine callK_F 6 (hgc) (by simp (disch := first | assumption | omega | rfl | simp only [RH]) only [↓RP, RG, FX, RQ, ↓reduceIte, Nat.reduceEqDiff, reduceCtorEq, Nat.reduceBEq, Nat.reduceAdd, Nat.reduceLeDiff, RA] <;> rfl) (.inl (by simp [allFresh, ints_fresh, bools_fresh])) ?_
  simp (disch := first | assumption | omega | rfl | simp only [RH]) only [↓RP, RG, FX, RQ, ↓reduceIte, Nat.reduceEqDiff, reduceCtorEq, Nat.reduceBEq, Nat.reduceAdd, Nat.reduceLeDiff]
  refine callK_F 6 k1 (by simp (disch := first | assumption | omega | rfl | simp only [RH]) only [↓RP, RG, FX, RQ, ↓reduceIte, Nat.reduceEqDiff, reduceCtorEq, Nat.reduceBEq, Nat.reduceAdd, Nat.reduceLeDiff, RA] <;> rfl) (.inl (by simp [allFresh, ints_fresh])) ?_
  simp (disch := first | assumption | omega | rfl | simp only [RH]) only [↓RP, RG, FX, RQ, ↓reduceIte, Nat.reduceEqDiff, reduceCtorEq, Nat.reduceBEq, Nat.reduceAdd, Nat.reduceLeDiff]
  refine callK_F 6 k2 (by simp (disch := first | assumption | omega | rfl | simp only [RH]) only [↓RP, RG, FX, RQ, ↓reduceIte, Nat.reduceEqDiff, reduceCtorEq, Nat.reduceBEq, Nat.reduceAdd, Nat.reduceLeDiff, RA] <;> rfl) (.inl (by simp [allFresh, ints_fresh])) ?_
  simp (disch := first | assumption | omega | rfl | simp only [RH]) only [↓RP, RG, FX, RQ, ↓reduceIte, Nat.reduceEqDiff, reduceCtorEq, Nat.reduceBEq, Nat.reduceAdd, Nat.reduceLeDiff]
  refine callK_F 6 k3 (by simp (disch := first | assumption | omega | rfl | simp only [RH]) only [↓RP, RG, FX, RQ, ↓reduceIte, Nat.reduceEqDiff, reduceCtorEq, Nat.reduceBEq, Nat.reduceAdd, Nat.reduceLeDiff, RA] <;> rfl) (.inl (by simp [allFresh, bools_fresh, hPf])) ?_
  simp (disch := first | assumption | omega | rfl | simp only [RH]) only [↓RP, RG, FX, RQ, ↓reduceIte, Nat.reduceEqDiff, reduceCtorEq, Nat.reduceBEq, Nat.reduceAdd, Nat.reduceLeDiff]
  refine callK_F 6 k4 (by simp (disch := first | assumption | omega | rfl | simp only [RH]) only [↓RP, RG, FX, RQ, ↓reduceIte, Nat.reduceEqDiff, reduceCtorEq, Nat.reduceBEq, Nat.reduceAdd, Nat.reduceLeDiff, RA] <;> rfl) (.inl (by simp [allFresh, bools_fresh, hPf])) ?_
  simp (disch := first | assumption | omega | rfl | simp only [RH]) only [↓RP, RG, FX, RQ, ↓reduceIte, Nat.reduceEqDiff, reduceCtorEq, Nat.reduceBEq, Nat.reduceAdd, Nat.reduceLeDiff]
  refine callK_F 6 s1 (by simp (disch := first | assumption | omega | rfl | simp only [RH]) only [↓RP, RG, FX, RQ, ↓reduceIte, Nat.reduceEqDiff, reduceCtorEq, Nat.reduceBEq, Nat.reduceAdd, Nat.reduceLeDiff, RA] <;> rfl) (.inl rfl) ?_
  simp (disch := first | assumption | omega | rfl | simp only [RH]) only [↓RP, RG, FX, RQ, ↓reduceIte, Nat.reduceEqDiff, reduceCtorEq, Nat.reduceBEq, Nat.reduceAdd, Nat.reduceLeDiff, beq_self_eq_true]
  refine callK_F 6 s2 (by simp (disch := first | assumption | omega | rfl | simp only [RH]) only [↓RP, RG, FX, RQ, ↓reduceIte, Nat.reduceEqDiff, reduceCtorEq, Nat.reduceBEq, Nat.reduceAdd, Nat.reduceLeDiff, RA] <;> rfl) (.inl rfl) ?_
  simp (disch := first | assumption | omega | rfl | simp only [RH]) only [↓RP, RG, FX, RQ, ↓reduceIte, Nat.reduceEqDiff, reduceCtorEq, Nat.reduceBEq, Nat.reduceAdd, Nat.reduceLeDiff, beq_self_eq_true]
  refine callK_F 6 s3 (by simp (disch := first | assumption | omega | rfl | simp only [RH]) only [↓RP, RG, FX, RQ, ↓reduceIte, Nat.reduceEqDiff, reduceCtorEq, Nat.reduceBEq, Nat.reduceAdd, Nat.reduceLeDiff, RA, hPa] <;> rfl) (.inl rfl) ?_
  simp (disch := first | assumption | omega | rfl | simp only [RH]) only [↓RP, RG, FX, RQ, ↓reduceIte, Nat.reduceEqDiff, reduceCtorEq, Nat.reduceBEq, Nat.reduceAdd, Nat.reduceLeDiff, beq_self_eq_true]
  rw [resVal_1 rfl]; simp (disch := first | assumption | omega | rfl | simp only [RH]) only [↓RP, RG, FX, RQ, ↓reduceIte, Nat.reduceEqDiff, reduceCtorEq, Nat.reduceBEq, Nat.reduceAdd, Nat.reduceLeDiff, RS]
end Go.Proofs.YtlckfakifamjiaaDoor
