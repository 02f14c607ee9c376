/- An abstract machine over the model: what it says of a function's code, the model does. -/
import Derived.Sort.OwnSortedInts
import Derived.Lib.SlicesCompact
import Derived.Sort.EveryDepth
import Derived.Shelf.Sort.AssemblyIn
import Derived.Shelf.Slices.CompactI
import Derived.Shelf.GgSortFunc.InsertionK
import Derived.Test.YtllijejobeogdaaGreatBw3
namespace Go.AW
open Go Go.RowKit
theorem rel_val {ok fr : Nat → Prop} {w : World} {β : Nat → Nat × Nat} {len : Nat → Option Nat} {x v : Value} (h : VRel ok fr w β len (.val x) v) : v = x := by cases h; rfl
theorem putObj_set {h : List AObj} {id : Nat} {o o' : AObj} (ho : h[id]? = some o) : putObj h id o' = h.set id o' := by
  unfold putObj; rw [if_pos (List.getElem?_eq_some_iff.1 ho).1]
theorem SpecTo.row {P : Program} {f : FuncId} {h : List AObj} {id : Nat} {ty : TypeId} {zs zs' : List Int} (m : Option Nat) (hm : ∀ k, m = some k → k ≤ zs.length) (hc : callable P f = true) (ho : h[id]? = some ⟨ty, 1, ints zs⟩) (hz : ty ≠ FZ) (hl : zs'.length = zs.length) {n : Nat} (hn : zs.length = n)
    (hcall : ∀ (blk cap : Nat) (w : World), blk < w.heap.size → Go.Sort.Holds (Value.int .i64) w blk 0 zs.toArray → zs.length ≤ cap →
      Calls P f #[.slice (some ⟨blk, 0, none⟩) zs.length cap] w fun e w' => e = .returned (match m with | none => .tuple #[] | some k => .slice (some ⟨blk, 0, none⟩) k cap) ∧ ∃ q os, w' = Go.Sort.grow (Go.Sort.putRow (Value.int .i64) (Go.Sort.ahead w q) blk 0 zs'.toArray) os) :
    SpecTo P f [.ref id 0 n n] h (match m with | none => .tuple [] | some k => .ref id 0 k n) (h.set id ⟨ty, 1, ints zs'⟩) := by
  subst hn
  refine ⟨hc, fun W0 ok0 A β w vs hr har => ?_⟩
  obtain ⟨hsz, hrel⟩ := har
  have h0 := hrel 0 (by simp)
  simp only [List.length_cons, List.length_nil, Nat.zero_add] at hsz
  have hvs : vs = #[vs.getD 0 undef] := by
    apply Array.ext
    · simpa using hsz
    · intro j h1 h2
      obtain rfl : j = 0 := by simp at h2; omega
      simp [Array.getD_eq_getD_getElem?, h1]
  rw [hvs]
  generalize vs.getD 0 undef = v at h0
  simp only [List.getElem_cons_zero] at h0
  have hes : (⟨ty, 1, ints zs⟩ : AObj).es ≠ 0 := by simp
  have hlive : live h id := ⟨_, ho, hes⟩
  obtain ⟨cur, hrow, hcs, hcap, hle, hcr⟩ := hr.heap id _ ho hes
  have hb := hrow.ty hz
  simp only [Nat.mul_one] at hcs
  simp only [ints_length] at hle hcr
  have htake : cur.toList.take zs.length = zs.map (Value.int .i64) := by
    apply List.ext_getElem
    · simp; omega
    · intro j h1 h2
      have hj : j < (ints zs).length := by simp [ints_length]; simpa using h2
      have h3 := rel_val (by have := hcr.2 j hj; simpa only [ints, List.getElem_map] using this)
      rw [List.getD_eq_getElem?_getD, List.getElem?_eq_getElem h1, Option.getD_some] at h3
      rw [h3]
      simp
  have hH := holds_of_blockI hb htake
  cases h0 with
  | ref _ _ _ _ l cap a hl0 he hnc ha hat =>
    rw [lens_some ho hes] at hl0
    obtain rfl := Option.some.inj hl0
    obtain ⟨rfl, hcp⟩ := hat (by simp [ints_length])
    have hcp := hcp rfl
    refine (hcall (β id).1 cap w (hr.lt hlive) hH hnc).mono ?_
    rintro e w' ⟨rfl, q, os, rfl⟩
    obtain ⟨g1, g2, g3, g4, g5⟩ := grownBy_sortedI (w := w) (g := (β id).1) (n := q) (os := os) zs'.toArray
    have hst := step_put hr id ⟨ty, 1, ints zs'⟩ (β id).1 cap (Go.Sort.putCells (Value.int .i64) 0 zs'.toArray cur) (Nat.le_of_lt (live_lt hlive)) (.inl ⟨⟨_, ho, hes, hz⟩, rfl⟩) (by simp)
      (w' := Go.Sort.grow (Go.Sort.putRow (Value.int .i64) (Go.Sort.ahead w q) (β id).1 0 zs'.toArray) os)
      (fun l0 h1 => by rw [lens_some ho hes] at h1; cases h1; exact ⟨by simp [ints_length, hl], fun _ => ⟨rfl, hcp⟩⟩)
      (fun k hk hne => g5 k hk (fun h => hne (Option.some.inj h))) (RowAt.of (heap_sortedI _ hb)) g1 g2 g3 g4
      (by rw [hcp]; simpa [Go.Sort.putCells] using hcs) (by rw [hcp]; exact hcap) (by simp [ints_length, Go.Sort.putCells]; omega) ⟨by simp [ints_length, Go.Sort.putCells]; omega, fun j hj => ?_⟩
    · rw [putObj_set ho] at hst
      refine ⟨_, _, rfl, hst, ?_⟩
      cases m with
      | none => exact .tuple _ _ rfl (fun j h => by simp at h)
      | some k =>
        have hk := hm k rfl
        refine .ref id 0 k _ zs.length cap _ ?_ (Nat.le_refl _) (by omega) rfl (fun _ => ⟨by simp, fun _ => by simp⟩)
        rw [lens_some (o := ⟨ty, 1, ints zs'⟩) (by rw [List.getElem?_set_self (live_lt hlive)]) (by simp)]
        simp [ints_length, hl]
    · simp only [ints_length] at hj ⊢
      rw [take_putCellsI cur zs' (by omega)]
      simp only [ints, List.getElem_map, List.getD_eq_getElem?_getD, List.getElem?_map]
      rw [List.getElem?_eq_getElem (by simpa [ints_length] using hj)]
      exact .val _
theorem Contract.res {P : Program} {f : FuncId} {args : List AVal} {res res' : AVal} (h : Contract P f args res) (hw : ∀ (ok fr : Nat → Prop) (w : World) (v : Value), VRel ok fr w (fun _ => (0, 0)) (fun _ => none) res v → VRel ok fr w (fun _ => (0, 0)) (fun _ => none) res' v) : Contract P f args res' := by
  refine ⟨h.1, fun w ok vs h1 h0 h2 h3 => (h.2 w ok vs h1 h0 h2 h3).mono ?_⟩
  rintro e w' ⟨v, g1, g2, g3⟩
  exact ⟨v, g1, hw _ _ _ _ g2, g3⟩
end Go.AW
namespace Go.AW
open Go Go.RowKit Go.Lib
theorem sinc_ext : ∀ (a b : List Int), a.Pairwise (· < ·) → b.Pairwise (· < ·) → (∀ x, x ∈ a ↔ x ∈ b) → a = b := by
  intro a
  induction a with
  | nil =>
    intro b _ _ h
    cases b with
    | nil => rfl
    | cons y b => exact absurd ((h y).2 (by simp)) (by simp)
  | cons x a ih =>
    intro b ha hb h
    cases b with
    | nil => exact absurd ((h x).1 (by simp)) (by simp)
    | cons y b =>
      rw [List.pairwise_cons] at ha hb
      have h1 := (h x).1 (by simp)
      have h2 := (h y).2 (by simp)
      rw [List.mem_cons] at h1 h2
      have hxy : x = y := by
        rcases h1 with h1 | h1
        · exact h1
        · rcases h2 with h2 | h2
          · exact h2.symm
          · have := ha.1 _ h2; have := hb.1 _ h1; omega
      subst hxy
      rw [ih b ha.2 hb.2 fun z => ?_]
      have hz := h z
      simp only [List.mem_cons] at hz
      constructor
      · intro h3
        rcases hz.1 (.inr h3) with h4 | h4
        · have := ha.1 _ h3; omega
        · exact h4
      · intro h3
        rcases hz.2 (.inr h3) with h4 | h4
        · have := hb.1 _ h3; omega
        · exact h4
theorem cUp_sorted (d : Array Int) (hs : ∀ i j, i ≤ j → j < d.size → d[i]! ≤ d[j]!) : ∀ m, m ≤ d.size → (compactUpTo d m).Pairwise (· < ·) ∧ ∀ x, x ∈ compactUpTo d m ↔ ∃ i, i < m ∧ d[i]! = x := by
  intro m
  induction m with
  | zero => intro _; exact ⟨by simp [compactUpTo], fun x => by simp [compactUpTo]⟩
  | succ m ih =>
    intro hm
    obtain ⟨h1, h2⟩ := ih (by omega)
    rw [compactUpTo_succ]
    by_cases hk : keeps d m = true
    · rw [if_pos hk]
      refine ⟨List.pairwise_append.2 ⟨h1, by simp, fun a ha b hb => ?_⟩, fun x => ?_⟩
      · rw [List.mem_singleton] at hb
        subst hb
        obtain ⟨i, hi, rfl⟩ := (h2 a).1 ha
        have h3 := hs i (m - 1) (by omega) (by omega)
        have h4 := hs (m - 1) m (by omega) (by omega)
        have h5 : d[m - 1]! ≠ d[m]! := by
          unfold keeps at hk
          intro h
          simp [h] at hk
          omega
        omega
      · rw [List.mem_append, h2, List.mem_singleton]
        constructor
        · rintro (⟨i, hi, h3⟩ | h3)
          · exact ⟨i, by omega, h3⟩
          · exact ⟨m, by omega, h3.symm⟩
        · rintro ⟨i, hi, h3⟩
          by_cases him : i = m
          · subst him; exact .inr h3.symm
          · exact .inl ⟨i, by omega, h3⟩
    · rw [if_neg hk]
      refine ⟨by simpa using h1, fun x => ?_⟩
      rw [List.append_nil, h2]
      constructor
      · rintro ⟨i, hi, h3⟩; exact ⟨i, by omega, h3⟩
      · rintro ⟨i, hi, h3⟩
        by_cases him : i = m
        · subst him
          unfold keeps at hk
          simp at hk
          exact ⟨i - 1, by omega, by rw [← h3]; simp_all⟩
        · exact ⟨i, by omega, h3⟩
theorem ms_mem (l : List Int) (x : Int) : x ∈ l.mergeSort (fun x y => decide (x ≤ y)) ↔ x ∈ l := List.mem_mergeSort
theorem ms_sorted (l : List Int) : (l.mergeSort fun x y => decide (x ≤ y)).Pairwise (· ≤ ·) := by
  have := List.pairwise_mergeSort (le := fun x y : Int => decide (x ≤ y)) (fun a b c h1 h2 => by simp at *; omega) (fun a b => by simp; omega) l
  exact this.imp (by simp)
def uniq (l : List Int) : List Int := compact (l.mergeSort fun x y => decide (x ≤ y))
theorem uniq_spec (l : List Int) : (uniq l).Pairwise (· < ·) ∧ ∀ x, x ∈ uniq l ↔ x ∈ l := by
  have hs := ms_sorted l
  have hm := ms_mem l
  unfold uniq compact
  generalize l.mergeSort (fun x y => decide (x ≤ y)) = s at *
  obtain ⟨h1, h2⟩ := cUp_sorted s.toArray (fun i j hij hj => by
    simp at hj
    by_cases h : i = j
    · subst h; exact Int.le_refl _
    · have := List.pairwise_iff_getElem.1 hs i j (by omega) hj (by omega)
      simpa [getElem!_pos, hj, show i < s.length by omega] using this) s.length (by simp)
  refine ⟨h1, fun x => ?_⟩
  rw [h2, ← hm, List.mem_iff_getElem]
  constructor
  · rintro ⟨i, hi, h3⟩; exact ⟨i, hi, by simpa [getElem!_pos, hi] using h3⟩
  · rintro ⟨i, hi, h3⟩; exact ⟨i, hi, by simpa [getElem!_pos, hi] using h3⟩
theorem uniq_eq {l m : List Int} (h1 : m.Pairwise (· < ·)) (h2 : ∀ x, x ∈ m ↔ x ∈ l) : uniq l = m := sinc_ext _ _ (uniq_spec l).1 h1 fun x => ((uniq_spec l).2 x).trans (h2 x).symm
theorem uniq_len (l : List Int) : (uniq l).length ≤ (l.mergeSort fun x y => decide (x ≤ y)).length := by
  unfold uniq compact compactUpTo
  rw [List.length_map]
  exact Nat.le_trans (List.length_filter_le _ _) (by simp)
theorem ms_len (l : List Int) : (l.mergeSort fun x y => decide (x ≤ y)).length = l.length := List.length_mergeSort l
end Go.AW
namespace Go.AW
open Go Go.RowKit Go.Shelf Go.Proofs
abbrev srt (l : List Int) : List Int := l.mergeSort fun x y => decide (x ≤ y)
theorem sort_spec {P : Program} {ρ : Ren} (Ly : Lays.n189 P ρ) (hc : callable P (ρ.f 189) = true) {h : List AObj} {id : Nat} {ty : TypeId} {zs : List Int} {n : Nat} (ho : h[id]? = some ⟨ty, 1, ints zs⟩) (hz : ty ≠ FZ) (hn : zs.length = n) (hsz : n < 4611686018427387904) :
    SpecTo P (ρ.f 189) [.ref id 0 n n] h (.tuple []) (h.set id ⟨ty, 1, ints (srt zs)⟩) :=
  SpecTo.row none (fun k hk => by cases hk) hc ho hz (ms_len zs) hn fun blk cap w hb hH _ => (Go.calls_of_every_depth fun D => Go.Proofs.AnyS.slices_Sort_int_in Ly D blk 0 cap zs w hH hb (by omega)).mono fun e w' ⟨h1, q, os, h2⟩ => ⟨h1, q, os, h2⟩
theorem compact_spec {P : Program} {ρ : Ren} (L : Lays2.n20 P ρ) (hc : callable P (ρ.f 20) = true) {h : List AObj} {id : Nat} {ty : TypeId} {zs : List Int} {n : Nat} (ho : h[id]? = some ⟨ty, 1, ints zs⟩) (hz : ty ≠ FZ) (hn : zs.length = n) (hsz : n ≤ 9223372036854775807) :
    SpecTo P (ρ.f 20) [.ref id 0 n n] h (.ref id 0 (Lib.compact zs).length n) (h.set id ⟨ty, 1, ints (Lib.compact zs ++ List.replicate (n - (Lib.compact zs).length) 0)⟩) := by
  have hle : (Lib.compact zs).length ≤ zs.length := by
    unfold Lib.compact Lib.compactUpTo
    rw [List.length_map]
    exact Nat.le_trans (List.length_filter_le _ _) (by simp)
  subst hn
  exact SpecTo.row (some _) (fun k hk => by cases hk; exact hle) hc ho hz (by simp; omega) rfl fun blk cap w hb hH hcap => (Go.Proofs.Any.slices_Compact_int L blk 0 cap zs w hH hsz hcap).mono fun e w' ⟨h1, q, h2⟩ => ⟨h1, q, #[], by rw [h2, Go.Sort.grow_empty]⟩
end Go.AW
namespace Go.AW
open Go Go.RowKit Go.Sort
theorem holds_of_blockV {w : World} {g : Nat} {cur : Array Value} {e : TypeId} {ss : List Value} (hb : w.heap[g]? = some (.cells cur e (0, 0))) (ht : cur.toList.take ss.length = ss) : Holds id w g 0 ss.toArray := by
  intro j hj
  have hj' : j < ss.length := by simpa using hj
  refine ⟨?_, by simp [World.frozen?, hb]⟩
  have h1 : (cur.toList.take ss.length)[j]? = ss[j]? := by rw [ht]
  rw [List.getElem?_take_of_lt hj'] at h1
  simp only [World.cell?, hb, Nat.zero_add]
  simp only [Option.isSome_none, Bool.false_eq_true, if_false]
  rw [← Array.getElem?_toList, h1]
  simp [hj']
theorem heap_sortedV {w : World} {g n : Nat} {os : Array Obj} {cur : Array Value} {e : TypeId} {fr : Nat × Nat} (d : Array Value) (hb : w.heap[g]? = some (.cells cur e fr)) :
    (grow (putRow id (Sort.ahead w n) g 0 d) os).heap[g]? = some (.cells (putCells id 0 d cur) e fr) := by
  have hg : g < w.heap.size := (Array.getElem?_eq_some_iff.1 hb).1
  rw [heap_grow_old _ _ (by simpa using hg)]
  simp [putRow, mapBlock, Sort.ahead, Array.getElem?_modify, hb, onCells]
theorem grownBy_sortedV {w : World} {g n : Nat} {os : Array Obj} (d : Array Value) : w.grownBy (grow (putRow id (Sort.ahead w n) g 0 d) os) (some g) := by
  refine ⟨rfl, rfl, rfl, by simp, fun k hk hne => ?_⟩
  rw [heap_grow_old _ _ (by simpa using hk)]
  have : g ≠ k := fun e => hne (by rw [e])
  simp [putRow, mapBlock, Sort.ahead, Array.getElem?_modify, this]
theorem take_putCellsV (cur : Array Value) (ts : List Value) (h : ts.length ≤ cur.size) : (putCells id 0 ts.toArray cur).toList.take ts.length = ts := by
  apply List.ext_getElem?
  intro j
  by_cases hj : j < ts.length
  · rw [List.getElem?_take_of_lt hj, Array.getElem?_toList]
    simp [putCells, hj, show j < cur.size by omega]
  · rw [List.getElem?_take_eq_none (by omega), List.getElem?_eq_none (by omega)]
abbrev vcells (vs : List Value) : List AVal := vs.map AVal.val
theorem SpecTo.rowV {P : Program} {f g : FuncId} {h : List AObj} {id : Nat} {ty : TypeId} {es n : Nat} {vs vs' : List Value} (hc : callable P f = true) (ho : h[id]? = some ⟨ty, es, vcells vs⟩) (hz : ty ≠ FZ) (hes0 : es ≠ 0) (hl : vs'.length = vs.length) (hn : vs.length = n * es)
    (hcall : ∀ (blk cap : Nat) (w : World), blk < w.heap.size → Holds _root_.id w blk 0 vs.toArray → n ≤ cap →
      Calls P f #[.slice (some ⟨blk, 0, none⟩) n cap, .func (.func g) #[] #[]] w fun e w' => e = .returned (.tuple #[]) ∧ ∃ q os, w' = grow (putRow _root_.id (Sort.ahead w q) blk 0 vs'.toArray) os) :
    SpecTo P f [.ref id 0 n (n * es), .func (.func g) [] []] h (.tuple []) (h.set id ⟨ty, es, vcells vs'⟩) := by
  refine ⟨hc, fun W0 ok0 A β w us hr har => ?_⟩
  obtain ⟨hsz, hrel⟩ := har
  have h0 := hrel 0 (by simp)
  have h1 := hrel 1 (by simp)
  simp only [List.length_cons, List.length_nil, Nat.zero_add] at hsz
  have hvs : us = #[us.getD 0 undef, us.getD 1 undef] := by
    apply Array.ext
    · simpa using hsz
    · intro j h1 h2
      rcases (by simp at h2; omega : j = 0 ∨ j = 1) with rfl | rfl <;> simp [Array.getD_eq_getD_getElem?, h1]
  rw [hvs]
  generalize us.getD 0 undef = v at h0
  generalize us.getD 1 undef = v1 at h1
  simp only [List.getElem_cons_zero, List.getElem_cons_succ] at h0 h1
  have hv1 : v1 = .func (.func g) #[] #[] := by
    cases h1 with
    | func _ _ _ fv cv hfs hcs hf hc2 =>
      obtain rfl : fv = #[] := Array.eq_empty_of_size_eq_zero (by simpa using hfs)
      obtain rfl : cv = #[] := Array.eq_empty_of_size_eq_zero (by simpa using hcs)
      rfl
  subst hv1
  have hes : (⟨ty, es, vcells vs⟩ : AObj).es ≠ 0 := hes0
  have hlive : live h id := ⟨_, ho, hes⟩
  obtain ⟨cur, hrow, hcs, hcap, hle, hcr⟩ := hr.heap id _ ho hes
  have hb := hrow.ty hz
  have hlv : (vcells vs).length = vs.length := by simp
  have hlv' : (vcells vs').length = vs'.length := by simp
  simp only [hlv] at hle hcr
  have htake : cur.toList.take vs.length = vs := by
    apply List.ext_getElem
    · simp; omega
    · intro j h1 h2
      have hj : j < (vcells vs).length := by rw [hlv]; exact h2
      have h3 := rel_val (by have := hcr.2 j hj; simpa only [vcells, List.getElem_map] using this)
      rw [List.getD_eq_getElem?_getD, List.getElem?_eq_getElem h1, Option.getD_some] at h3
      exact h3
  have hH := holds_of_blockV hb htake
  cases h0 with
  | ref _ _ _ _ l cap a hl0 he hnc ha hat =>
    rw [lens_some ho hes] at hl0
    obtain rfl := Option.some.inj hl0
    obtain ⟨rfl, hcp⟩ := hat (by rw [hlv]; exact hn.symm)
    have hcp := hcp rfl
    refine (hcall (β id).1 cap w (hr.lt hlive) hH hnc).mono ?_
    rintro e w' ⟨rfl, q, os, rfl⟩
    obtain ⟨g1, g2, g3, g4, g5⟩ := grownBy_sortedV (w := w) (g := (β id).1) (n := q) (os := os) vs'.toArray
    have hst := step_put hr id ⟨ty, es, vcells vs'⟩ (β id).1 cap (putCells _root_.id 0 vs'.toArray cur) (Nat.le_of_lt (live_lt hlive)) (.inl ⟨⟨_, ho, hes, hz⟩, rfl⟩) hes0
      (w' := grow (putRow _root_.id (Sort.ahead w q) (β id).1 0 vs'.toArray) os)
      (fun l0 h1 => by rw [lens_some ho hes] at h1; cases h1; exact ⟨by simp [hl], fun _ => ⟨rfl, hcp⟩⟩)
      (fun k hk hne => g5 k hk (fun h => hne (Option.some.inj h))) (RowAt.of (heap_sortedV _ hb)) g1 g2 g3 g4
      (by rw [hcp]; simpa [putCells] using hcs) (by rw [hcp]; exact hcap) (by simp [putCells]; omega) ⟨by simp [putCells]; omega, fun j hj => ?_⟩
    · rw [putObj_set ho] at hst
      exact ⟨_, _, rfl, hst, .tuple _ _ rfl (fun j h => by simp at h)⟩
    · have hj' : j < vs'.length := by simpa using hj
      simp only [hlv']
      rw [take_putCellsV cur vs' (by omega)]
      simp only [vcells, List.getElem_map, List.getD_eq_getElem?_getD]
      rw [List.getElem?_eq_getElem hj']
      exact .val _
end Go.AW
