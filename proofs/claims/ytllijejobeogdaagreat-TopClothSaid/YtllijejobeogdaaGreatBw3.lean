/- An abstract machine over the model: what it says of a function's code, the model does. -/
import Derived.ProofKit
import Derived.OpenShut
import Derived.Deep.Grids
import Derived.Test.YtllijejobeogdaaGreatBw2
set_option linter.unusedSimpArgs false
namespace Go.AW
open Go
class SlT (P : Program) (t : TypeId) (e : outParam TypeId) (nb : outParam Nat) (z : outParam Value) : Prop where
  ht : ∃ T, tyI P t = some T ∧ T.elem = some e
  he : ∃ E, tyI P e = some E ∧ E.size = 1 ∧ E.agg = false ∧ E.bytes = nb ∧ E.zero = [z]
theorem SlT.of {P : Program} {t e : TypeId} {nb : Nat} {z : Value} (h1 : (tyI P t).map (·.elem) = some (some e)) (h2 : (tyI P e).map (fun E => (E.size, E.agg, E.bytes, E.zero)) = some (1, false, nb, [z])) : SlT P t e nb z := by
  constructor
  · obtain ⟨T, hT, he⟩ := Option.map_eq_some_iff.1 h1; exact ⟨T, hT, he⟩
  · obtain ⟨E, hE, he⟩ := Option.map_eq_some_iff.1 h2
    simp only [Prod.mk.injEq] at he
    exact ⟨E, hE, he.1, he.2.1, he.2.2.1, he.2.2.2⟩
section
variable {P : Program} {fb fn ff fl fz : Operand → Bool} {fD : Nat → Bool} {fy : Option (Value × (List AVal → List AObj → List AObj → Prop))} {t e : TypeId} {nb : Nat} {z : Value} {h : List AObj}
theorem idx_list [S : SlT P t e nb z] (p b : Bool) (m : Nat) (cs : List AVal) (k : IntKind) (n : Int) : aIdx P t h (.list p b m cs) (.val (.int k n)) = if 0 ≤ n ∧ n < m then some (.spot p (cs.drop n.toNat)) else none := by
  obtain ⟨⟨T, hT, hTe⟩, E, hE, h1, h2, h3, h4⟩ := S
  simp [aIdx, hT, hTe, hE, h1]
theorem idx_lit [S : SlT P t e nb z] (m : Nat) (cs : List AVal) (k : IntKind) (n : Int) : aIdx P t h (.lit m cs) (.val (.int k n)) = if 0 ≤ n ∧ n < m then some (.spot true (cs.drop n.toNat)) else none := by
  obtain ⟨⟨T, hT, hTe⟩, E, hE, h1, h2, h3, h4⟩ := S
  simp [aIdx, hT, hTe, hE, h1]
theorem idx_ref [S : SlT P t e nb z] (id off m ext : Nat) (k : IntKind) (n : Int) : aIdx P t h (.ref id off m ext) (.val (.int k n)) = if 0 ≤ n ∧ n < m ∧ (cellsAt h id ext).isSome then some (.ptr id (off + n.toNat) ext) else none := by
  obtain ⟨⟨T, hT, hTe⟩, E, hE, h1, h2, h3, h4⟩ := S
  simp [aIdx, hT, hTe, hE, h1]
theorem idx_list_ok [S : SlT P t e nb z] {p b : Bool} {m : Nat} {cs : List AVal} {k : IntKind} {n : Int} (h0 : 0 ≤ n) (h1 : n < m) : aIdx P t h (.list p b m cs) (.val (.int k n)) = some (.spot p (cs.drop n.toNat)) := by
  rw [idx_list (S := S), if_pos ⟨h0, h1⟩]
theorem idx_lit_ok [S : SlT P t e nb z] {m : Nat} {cs : List AVal} {k : IntKind} {n : Int} (h0 : 0 ≤ n) (h1 : n < m) : aIdx P t h (.lit m cs) (.val (.int k n)) = some (.spot true (cs.drop n.toNat)) := by
  rw [idx_lit (S := S), if_pos ⟨h0, h1⟩]
theorem pview_spot (p : Bool) (cs : List AVal) : pview h (.spot p cs) = some cs := _root_.id rfl
theorem sview_list (p b : Bool) (n : Nat) (cs : List AVal) : sview h (.list p b n cs) = some (n, cs) := _root_.id rfl
theorem sview_lit (n : Nat) (cs : List AVal) : sview h (.lit n cs) = some (n, cs) := _root_.id rfl
theorem sview_cap0 (b : Bool) : sview h (.cap0 b) = some (0, []) := _root_.id rfl
theorem len_elem [S : SlT P t e nb z] : ∃ T, tyI P t = some T ∧ T.elem.isSome = true := by
  obtain ⟨⟨T, hT, hTe⟩, _⟩ := S
  exact ⟨T, hT, by simp [hTe]⟩
variable {dst : Option Tmp} {ty : TypeId} {pos : String} {after : Array Edge} {g : Option (Nat × Bool)} {ρ : Operand → AVal} {K : AVal → List AObj → Prop}
theorem opK_len1 [S : SlT P t e nb z] (x : Operand) : @opK P ⟨fb, fn, ff, fl, fD, fz, fy⟩ ⟨dst, .call ⟨.builtin .len, #[x], #[t]⟩, ty, pos, after, g⟩ ρ h K = @bindK _ (lnF (fl x) (ρ x) (sview h (ρ x))) ⟨fun r => K (.val (.int .i64 r.1)) h⟩ := by
  obtain ⟨T, hT, hs⟩ := len_elem (S := S)
  rw [opK_len]
  unfold lnF
  split
  · rfl
  cases sview h (ρ x) with
  | none => rfl
  | some r => simp [hT, hs, bindK]
theorem one_parts {x : AVal} (h : x.one = true) : x.parts = some [x] := by
  cases x <;> first | rfl | (simp [AVal.one] at h; done) | skip
  case val v => cases v <;> first | rfl | (simp [AVal.one, Value.oneCell'] at h; done)
theorem fill_one : ∀ (xs : List AVal) (k : Nat) (cells : List AVal), (∀ x ∈ xs, x.one = true) → k + xs.length ≤ cells.length →
    aFill (fun i => some (i * 1, 1)) cells ((xs.zipIdx k).map fun (x, i) => (i, x)) = some (cells.take k ++ xs ++ cells.drop (k + xs.length)) := by
  intro xs
  induction xs with
  | nil => intro k cells _ _; simp [aFill]
  | cons x xs ih =>
    intro k cells h1 hl
    simp only [List.length_cons] at hl
    simp only [List.zipIdx_cons, List.map_cons, aFill, one_parts (h1 x (by simp)), Nat.mul_one, List.length_singleton]
    rw [if_pos (by simp; omega)]
    have := ih (k + 1) (splice cells k [x]) (fun y hy => h1 y (by simp [hy])) (by simp [splice]; omega)
    simp only [Nat.mul_one] at this
    rw [this]
    simp only [splice, List.length_cons]
    congr 1
    have e1 : (cells.set k x).take (k + 1) = cells.take k ++ [x] := by
      rw [List.take_add_one, List.take_set_of_le (Nat.le_refl _)]
      have : k < cells.length := by omega
      simp [this]
    have e2 : (cells.set k x).drop (k + 1 + xs.length) = cells.drop (k + (xs.length + 1)) := by
      rw [List.drop_set_of_lt (by omega)]; congr 1; omega
    rw [e1, e2]; simp
def allOne (l : List AVal) : Option (List AVal) := if l.all AVal.one then some l else none
theorem allOne_nil : allOne [] = some [] := _root_.id rfl
theorem allOne_cons {x : AVal} (hx : x.one = true) (l : List AVal) : allOne (x :: l) = (allOne l).map (x :: ·) := by
  simp only [allOne, List.all_cons, hx, Bool.true_and]
  cases l.all AVal.one <;> simp
theorem allOne_int (k : IntKind) (n : Int) (l : List AVal) : allOne (.val (.int k n) :: l) = (allOne l).map (.val (.int k n) :: ·) := allOne_cons rfl l
theorem allOne_bool (b : Bool) (l : List AVal) : allOne (.val (.bool b) :: l) = (allOne l).map (.val (.bool b) :: ·) := allOne_cons rfl l
theorem allOne_list (p b : Bool) (n : Nat) (cs l : List AVal) : allOne (.list p b n cs :: l) = (allOne l).map (.list p b n cs :: ·) := allOne_cons rfl l
theorem opK_lit [S : SlT P t e nb z] (n : Nat) (ps : Array (Nat × Operand)) (hn : n ≤ 16777216) (hps : ps.toList.map (·.1) = List.range n) (h0 : n ≠ 0) :
    @opK P ⟨fb, fn, ff, fl, fD, fz, fy⟩ ⟨dst, .buildSlice t n ps, ty, pos, after, g⟩ ρ h K = @bindK _ (allOne (ps.toList.map fun p => ρ p.2)) ⟨fun l => K (.lit n l) h⟩ := by
  obtain ⟨⟨T, hT, hTe⟩, E, hE, g1, g2, g3, g4⟩ := S
  have hlen : ps.toList.length = n := by have := congrArg List.length hps; simpa using this
  have hsz : ps.size = n := by simpa using hlen
  rw [opK_buildSlice]
  simp only [aEff, hT, hTe, hE]
  have hall : (ps.toList.all fun p => (ρ p.2).one) = (ps.toList.map fun p => ρ p.2).all AVal.one := by rw [List.all_map]; rfl
  rw [hall]
  cases h1 : (ps.toList.map fun p => ρ p.2).all AVal.one with
  | false =>
    have h2 : allOne (ps.toList.map fun p => ρ p.2) = none := by simp only [allOne, h1]; rfl
    rw [h2, if_neg]
    · rfl
    · rintro ⟨_, _, _, h3⟩
      exact absurd (h3 g1) (by simp)
  | true =>
    have h2 : allOne (ps.toList.map fun p => ρ p.2) = some (ps.toList.map fun p => ρ p.2) := by simp only [allOne, h1, if_true]
    have hz : (ps.toList.map fun (i, x) => (i, ρ x)) = ((ps.toList.map fun p => ρ p.2).zipIdx 0).map fun (x, i) => (i, x) := by
      apply List.ext_getElem
      · simp
      · intro i h2 h3
        have hi : i < ps.toList.length := by simpa using h2
        have := congrArg (fun l => l[i]?) hps
        simp only [List.getElem?_map, List.getElem?_range (show i < n by omega), List.getElem?_eq_getElem hi, Option.map_some, Option.some.injEq] at this
        simp at this ⊢
        exact this
    have hf := fill_one (ps.toList.map fun p => ρ p.2) 0 (zeros E.zero (n * 1)) (List.all_eq_true.1 h1) (by simp [zeros]; omega)
    have hf' : aFill (fun i => some (i * E.size, E.size)) (zeros E.zero (n * E.size)) (ps.toList.map fun (i, x) => (i, ρ x)) = some (ps.toList.map fun p => ρ p.2) := by
      rw [g1, hz, hf]
      have : (zeros E.zero (n * 1)).drop (0 + (ps.toList.map fun p => ρ p.2).length) = [] := by
        apply List.drop_eq_nil_of_le; simp [zeros]; omega
      rw [this]; simp
    rw [if_pos ⟨by rw [g1]; omega, by rw [g4]; simp, by omega, fun _ => rfl⟩, hf', h2]
    simp [bindK, h0]
theorem opK_lit1 [S : SlT P t e nb z] (x0 : Operand) : @opK P ⟨fb, fn, ff, fl, fD, fz, fy⟩ ⟨dst, .buildSlice t 1 #[(0, x0)], ty, pos, after, g⟩ ρ h K = @bindK _ (allOne [ρ x0]) ⟨fun l => K (.lit 1 l) h⟩ :=
  opK_lit (S := S) 1 #[(0, x0)] (by decide) rfl (by decide)
theorem opK_lit2 [S : SlT P t e nb z] (x0 x1 : Operand) : @opK P ⟨fb, fn, ff, fl, fD, fz, fy⟩ ⟨dst, .buildSlice t 2 #[(0, x0), (1, x1)], ty, pos, after, g⟩ ρ h K = @bindK _ (allOne [ρ x0, ρ x1]) ⟨fun l => K (.lit 2 l) h⟩ :=
  opK_lit (S := S) 2 #[(0, x0), (1, x1)] (by decide) rfl (by decide)
theorem opK_lit3 [S : SlT P t e nb z] (x0 x1 x2 : Operand) : @opK P ⟨fb, fn, ff, fl, fD, fz, fy⟩ ⟨dst, .buildSlice t 3 #[(0, x0), (1, x1), (2, x2)], ty, pos, after, g⟩ ρ h K = @bindK _ (allOne [ρ x0, ρ x1, ρ x2]) ⟨fun l => K (.lit 3 l) h⟩ :=
  opK_lit (S := S) 3 #[(0, x0), (1, x1), (2, x2)] (by decide) rfl (by decide)
theorem opK_lit4 [S : SlT P t e nb z] (x0 x1 x2 x3 : Operand) : @opK P ⟨fb, fn, ff, fl, fD, fz, fy⟩ ⟨dst, .buildSlice t 4 #[(0, x0), (1, x1), (2, x2), (3, x3)], ty, pos, after, g⟩ ρ h K = @bindK _ (allOne [ρ x0, ρ x1, ρ x2, ρ x3]) ⟨fun l => K (.lit 4 l) h⟩ :=
  opK_lit (S := S) 4 #[(0, x0), (1, x1), (2, x2), (3, x3)] (by decide) rfl (by decide)
theorem opK_lit5 [S : SlT P t e nb z] (x0 x1 x2 x3 x4 : Operand) : @opK P ⟨fb, fn, ff, fl, fD, fz, fy⟩ ⟨dst, .buildSlice t 5 #[(0, x0), (1, x1), (2, x2), (3, x3), (4, x4)], ty, pos, after, g⟩ ρ h K = @bindK _ (allOne [ρ x0, ρ x1, ρ x2, ρ x3, ρ x4]) ⟨fun l => K (.lit 5 l) h⟩ :=
  opK_lit (S := S) 5 #[(0, x0), (1, x1), (2, x2), (3, x3), (4, x4)] (by decide) rfl (by decide)
theorem opK_lit6 [S : SlT P t e nb z] (x0 x1 x2 x3 x4 x5 : Operand) : @opK P ⟨fb, fn, ff, fl, fD, fz, fy⟩ ⟨dst, .buildSlice t 6 #[(0, x0), (1, x1), (2, x2), (3, x3), (4, x4), (5, x5)], ty, pos, after, g⟩ ρ h K = @bindK _ (allOne [ρ x0, ρ x1, ρ x2, ρ x3, ρ x4, ρ x5]) ⟨fun l => K (.lit 6 l) h⟩ :=
  opK_lit (S := S) 6 #[(0, x0), (1, x1), (2, x2), (3, x3), (4, x4), (5, x5)] (by decide) rfl (by decide)
theorem opK_lit7 [S : SlT P t e nb z] (x0 x1 x2 x3 x4 x5 x6 : Operand) : @opK P ⟨fb, fn, ff, fl, fD, fz, fy⟩ ⟨dst, .buildSlice t 7 #[(0, x0), (1, x1), (2, x2), (3, x3), (4, x4), (5, x5), (6, x6)], ty, pos, after, g⟩ ρ h K = @bindK _ (allOne [ρ x0, ρ x1, ρ x2, ρ x3, ρ x4, ρ x5, ρ x6]) ⟨fun l => K (.lit 7 l) h⟩ :=
  opK_lit (S := S) 7 #[(0, x0), (1, x1), (2, x2), (3, x3), (4, x4), (5, x5), (6, x6)] (by decide) rfl (by decide)
theorem opK_lit0 [S : SlT P t e nb z] : @opK P ⟨fb, fn, ff, fl, fD, fz, fy⟩ ⟨dst, .buildSlice t 0 #[], ty, pos, after, g⟩ ρ h K = K (.cap0 false) h := by
  obtain ⟨⟨T, hT, hTe⟩, E, hE, g1, g2, g3, g4⟩ := S
  rw [opK_buildSlice]
  simp [aEff, hT, hTe, hE, g1, g4, aFill, bindK]
def cA (o : Option AObj) (ext : Nat) : Option (List AVal) := match o with
  | some o => if o.cells.length = ext then some o.cells else none
  | none => none
theorem cellsAt_eq (id ext : Nat) : cellsAt h id ext = cA h[id]? ext := _root_.id rfl
theorem cA_ints {ty es ext : Nat} {l : List Int} (hl : l.length = ext) : cA (some ⟨ty, es, ints l⟩) ext = some (ints l) := by simp [cA, ints_length, hl]
theorem cA_bools {ty es ext : Nat} {l : List Bool} (hl : l.length = ext) : cA (some ⟨ty, es, bools l⟩) ext = some (bools l) := by simp [cA, bools_length, hl]
theorem cA_1 {ty es : Nat} (a : AVal) : cA (some ⟨ty, es, [a]⟩) 1 = some [a] := _root_.id rfl
theorem cA_2 {ty es : Nat} (a b : AVal) : cA (some ⟨ty, es, [a, b]⟩) 2 = some [a, b] := _root_.id rfl
theorem cA_3 {ty es : Nat} (a b c : AVal) : cA (some ⟨ty, es, [a, b, c]⟩) 3 = some [a, b, c] := _root_.id rfl
theorem cA_4 {ty es : Nat} (a b c d : AVal) : cA (some ⟨ty, es, [a, b, c, d]⟩) 4 = some [a, b, c, d] := _root_.id rfl
theorem cA_5 {ty es : Nat} (a b c d f : AVal) : cA (some ⟨ty, es, [a, b, c, d, f]⟩) 5 = some [a, b, c, d, f] := _root_.id rfl
theorem cA_6 {ty es : Nat} (a b c d f g : AVal) : cA (some ⟨ty, es, [a, b, c, d, f, g]⟩) 6 = some [a, b, c, d, f, g] := _root_.id rfl
theorem cA_7 {ty es : Nat} (a b c d f g i : AVal) : cA (some ⟨ty, es, [a, b, c, d, f, g, i]⟩) 7 = some [a, b, c, d, f, g, i] := _root_.id rfl
theorem hAt_app (k : Nat) (r : List AObj) : (h ++ r)[h.length + k]? = r[k]? := by rw [List.getElem?_append_right (by omega)]; congr 1; omega
theorem hAt_app0 (r : List AObj) : (h ++ r)[h.length]? = r[0]? := hAt_app 0 r
theorem hAt_low {k : Nat} (r : List AObj) (hk : k < h.length) : (h ++ r)[k]? = h[k]? := List.getElem?_append_left hk
theorem hSet_app (k : Nat) (o : AObj) (r : List AObj) : (h ++ r).set (h.length + k) o = h ++ r.set k o := by rw [List.set_append_right _ _ (by omega)]; congr 2; omega
theorem hSet_app0 (o : AObj) (r : List AObj) : (h ++ r).set h.length o = h ++ r.set 0 o := hSet_app 0 o r
theorem hSet_low {k : Nat} (o : AObj) (r : List AObj) (hk : k < h.length) : (h ++ r).set k o = h.set k o ++ r := List.set_append_left _ _ hk
theorem sview_ref (id off n ext : Nat) : sview h (.ref id off n ext) = (cA h[id]? ext).map fun cs => (n, cs.drop off) := _root_.id rfl
theorem pview_ptr (id off ext : Nat) : pview h (.ptr id off ext) = (cA h[id]? ext).map (·.drop off) := _root_.id rfl
theorem sview_res (k : Nat) : sview h (.res k) = some (0, []) := _root_.id rfl
def fOff (P : Program) (s f : Nat) : Option Nat := match tyI P s with
  | some T => match T.fields[f]? with
    | some (off, ft) => match tyI P ft with
      | some F => if F.size = 0 then none else some off
      | none => none
    | none => none
  | none => none
def fX (o : Option Nat) (h : List AObj) (x : AVal) : Option AVal := match o with
  | some off => match x with
    | .spot p cs => some (.spot p (cs.drop off))
    | .ptr id o ext => if (cellsAt h id ext).isSome then some (.ptr id (o + off) ext) else none
    | _ => none
  | none => none
theorem aField_eq (s f : Nat) (x : AVal) : aField P s x f h = fX (fOff P s f) h x := by
  unfold aField fX fOff
  cases tyI P s with
  | none => rfl
  | some T =>
    simp only
    cases T.fields[f]? with
    | none => rfl
    | some p =>
      simp only
      cases tyI P p.2 with
      | none => rfl
      | some F => simp only; split <;> rfl
theorem fX_spot (off : Nat) (p : Bool) (cs : List AVal) : fX (some off) h (.spot p cs) = some (.spot p (cs.drop off)) := _root_.id rfl
theorem fX_ptr (off id o ext : Nat) : fX (some off) h (.ptr id o ext) = (cA h[id]? ext).map fun _ => .ptr id (o + off) ext := by
  simp only [fX, cellsAt_eq]; cases cA h[id]? ext <;> rfl
def agT (P : Program) (t : Nat) : Option (Bool × Nat) := (tyI P t).map fun T => (T.agg, T.size)
def pX (o : Option (Bool × Nat)) (cs : List AVal) : Option AVal := match o with
  | some (g, n) => if g then (if n ≤ cs.length then some (.agg (cs.take n)) else none) else cs[0]?
  | none => none
theorem aPart_eq (t : Nat) (cs : List AVal) : aPart P t cs = pX (agT P t) cs := by
  unfold aPart pX agT
  cases tyI P t <;> rfl
theorem pX_one (n : Nat) (cs : List AVal) : pX (some (false, n)) cs = cs[0]? := _root_.id rfl
theorem pX_agg (n : Nat) (cs : List AVal) : pX (some (true, n)) cs = if n ≤ cs.length then some (.agg (cs.take n)) else none := _root_.id rfl
theorem get_ints {l : List Int} {k : Nat} (hk : k < l.length) : ((ints l).drop k)[0]? = some (I (l.getD k 0)) := by
  rw [List.getElem?_drop, Nat.add_zero, ints_get]; simp [hk]
theorem get_ints0 {l : List Int} (hk : 0 < l.length) : (ints l)[0]? = some (I (l.getD 0 0)) := get_ints hk
theorem get_bools {l : List Bool} {k : Nat} (hk : k < l.length) : ((bools l).drop k)[0]? = some (B (l.getD k false)) := by
  rw [List.getElem?_drop, Nat.add_zero, bools_get]; simp [hk]
theorem get_bools0 {l : List Bool} (hk : 0 < l.length) : (bools l)[0]? = some (B (l.getD 0 false)) := get_bools hk
def sX (o : Option (Bool × Nat)) (h : List AObj) (id off ext : Nat) (ob : Option AObj) (ps : Option (List AVal)) : Option (List AObj) := match o, ps with
  | some (_, n), some vs => match ob with
    | some o => if o.ty ≠ FZ ∧ o.cells.length = ext ∧ vs.length = n ∧ off + vs.length ≤ ext ∧ vs.all AVal.one = true then some (h.set id ⟨o.ty, o.es, splice o.cells off vs⟩) else none
    | none => none
  | _, _ => none
theorem aStore_eq (t id off ext : Nat) (v : AVal) : aStore P t h (.ptr id off ext) v = sX (agT P t) h id off ext h[id]? v.parts := by
  unfold aStore sX agT
  cases tyI P t with
  | none => rfl
  | some T =>
    cases v.parts with
    | none => rfl
    | some vs =>
      simp only [Option.map_some]
      cases h[id]? <;> rfl
theorem sX_mk {g : Bool} {n id off ext ty es : Nat} {cs vs : List AVal} (hty : ty ≠ 1000003) : sX (some (g, n)) h id off ext (some ⟨ty, es, cs⟩) (some vs) = if cs.length = ext ∧ vs.length = n ∧ off + vs.length ≤ ext ∧ vs.all AVal.one = true then some (h.set id ⟨ty, es, splice cs off vs⟩) else none := by simp [sX, hty]
theorem sX_cons {g : Bool} {n id off ext ty es : Nat} {a : AVal} {r vs : List AVal} (hty : ty ≠ 1000003) : sX (some (g, n)) h id off ext (some ⟨ty, es, a :: r⟩) (some vs) = if (a :: r).length = ext ∧ vs.length = n ∧ off + vs.length ≤ ext ∧ vs.all AVal.one = true then some (h.set id ⟨ty, es, splice (a :: r) off vs⟩) else none := sX_mk hty
theorem ints_set (l : List Int) (k : Nat) (x : Int) : (ints l).set k (I x) = ints (l.set k x) := by simp [ints, List.map_set]
theorem bools_set (l : List Bool) (k : Nat) (x : Bool) : (bools l).set k (B x) = bools (l.set k x) := by simp [bools, List.map_set]
theorem sX_int {g : Bool} {id k ext ty es : Nat} {l : List Int} {x : Int} (hty : ty ≠ 1000003) (hl : l.length = ext) (hk : k < ext) : sX (some (g, 1)) h id k ext (some ⟨ty, es, ints l⟩) (some [.val (.int .i64 x)]) = some (h.set id ⟨ty, es, ints (l.set k x)⟩) := by
  rw [sX_mk hty, if_pos ⟨by rw [ints_length]; exact hl, by simp, by simp; omega, by simp [AVal.one, Value.oneCell']⟩]
  simp only [splice]; rw [← ints_set]
theorem sX_bool {g : Bool} {id k ext ty es : Nat} {l : List Bool} {x : Bool} (hty : ty ≠ 1000003) (hl : l.length = ext) (hk : k < ext) : sX (some (g, 1)) h id k ext (some ⟨ty, es, bools l⟩) (some [.val (.bool x)]) = some (h.set id ⟨ty, es, bools (l.set k x)⟩) := by
  rw [sX_mk hty, if_pos ⟨by rw [bools_length]; exact hl, by simp, by simp; omega, by simp [AVal.one, Value.oneCell']⟩]
  simp only [splice]; rw [← bools_set]
theorem splice_1 (cs : List AVal) (off : Nat) (v : AVal) : splice cs off [v] = cs.set off v := _root_.id rfl
theorem splice_2 (cs : List AVal) (off : Nat) (a b : AVal) (r : List AVal) : splice cs off (a :: b :: r) = cs.take off ++ (a :: b :: r) ++ cs.drop (off + (r.length + 2)) := _root_.id rfl
theorem parts_int (k : IntKind) (n : Int) : AVal.parts (.val (.int k n)) = some [.val (.int k n)] := _root_.id rfl
theorem parts_bool (b : Bool) : AVal.parts (.val (.bool b)) = some [.val (.bool b)] := _root_.id rfl
theorem parts_str (s : ByteArray) : AVal.parts (.val (.string s)) = some [.val (.string s)] := _root_.id rfl
theorem parts_agg (cs : List AVal) : AVal.parts (.agg cs) = some cs := _root_.id rfl
theorem parts_list (p b : Bool) (n : Nat) (cs : List AVal) : AVal.parts (.list p b n cs) = some [.list p b n cs] := _root_.id rfl
theorem parts_ref (id off n ext : Nat) : AVal.parts (.ref id off n ext) = some [.ref id off n ext] := _root_.id rfl
theorem parts_ptr (id off ext : Nat) : AVal.parts (.ptr id off ext) = some [.ptr id off ext] := _root_.id rfl
theorem parts_cap0 (b : Bool) : AVal.parts (.cap0 b) = some [.cap0 b] := _root_.id rfl
theorem parts_res (k : Nat) : AVal.parts (.res k) = some [.res k] := _root_.id rfl
theorem parts_lit (n : Nat) (cs : List AVal) : AVal.parts (.lit n cs) = some [.lit n cs] := _root_.id rfl
theorem parts_spot (p : Bool) (cs : List AVal) : AVal.parts (.spot p cs) = some [.spot p cs] := _root_.id rfl
theorem parts_func (fn : Fn) (fs cs : List AVal) : AVal.parts (.func fn fs cs) = some [.func fn fs cs] := _root_.id rfl
theorem one_int (k : IntKind) (n : Int) : AVal.one (.val (.int k n)) = true := _root_.id rfl
theorem one_bool (b : Bool) : AVal.one (.val (.bool b)) = true := _root_.id rfl
theorem one_str (s : ByteArray) : AVal.one (.val (.string s)) = true := _root_.id rfl
theorem one_list (p b : Bool) (n : Nat) (cs : List AVal) : AVal.one (.list p b n cs) = true := _root_.id rfl
theorem one_ref (id off n ext : Nat) : AVal.one (.ref id off n ext) = true := _root_.id rfl
theorem one_ptr (id off ext : Nat) : AVal.one (.ptr id off ext) = true := _root_.id rfl
theorem one_cap0 (b : Bool) : AVal.one (.cap0 b) = true := _root_.id rfl
theorem one_res (k : Nat) : AVal.one (.res k) = true := _root_.id rfl
theorem one_lit (n : Nat) (cs : List AVal) : AVal.one (.lit n cs) = true := _root_.id rfl
theorem one_spot (p : Bool) (cs : List AVal) : AVal.one (.spot p cs) = true := _root_.id rfl
theorem one_func (fn : Fn) (fs cs : List AVal) : AVal.one (.func fn fs cs) = true := _root_.id rfl
def flT (P : Program) (t : Nat) : Option (List (Nat × Nat) × List AVal) := match tyI P t with
  | some T => match T.arr with
    | some (n, e) => (sizeAt P e).map fun s => ((List.range n).map fun i => (i * s, s), T.zero.map ofCell)
    | none => if T.fields = [] ∨ T.fields.all (fun f => (sizeAt P f.2).isSome) = false then none else some (T.fields.map (fun f => (f.1, (sizeAt P f.2).getD 0)), T.zero.map ofCell)
  | none => none
def bX (o : Option (List (Nat × Nat) × List AVal)) (parts : List (Nat × AVal)) : Option AVal := match o with
  | some (fl, z) => (aFill (fun i => fl[i]?) z parts).map .agg
  | none => none
theorem aFill_congr {p q : Nat → Option (Nat × Nat)} (h : ∀ i, p i = q i) : aFill p = aFill q := by rw [funext h]
theorem aBuild_eq (t : Nat) (parts : List (Nat × AVal)) : aBuild P t parts = bX (flT P t) parts := by
  unfold aBuild bX flT
  cases tyI P t with
  | none => rfl
  | some T =>
    cases harr : T.arr with
    | some ne =>
      obtain ⟨n, e⟩ := ne
      cases hs : sizeAt P e with
      | none => simp only [harr, hs]; rfl
      | some s =>
        simp only [harr, hs, Option.map_some]
        congr 1
        refine congrFun (congrFun (aFill_congr fun i => ?_) _) _
        rw [List.getElem?_map]
        by_cases hi : i < n
        · rw [if_pos hi, List.getElem?_range hi]; rfl
        · rw [if_neg hi, List.getElem?_eq_none (by simpa using hi)]; rfl
    | none =>
      simp only [harr]
      by_cases hc : T.fields = [] ∨ (T.fields.all fun f => (sizeAt P f.2).isSome) = false
      · rw [if_pos hc, if_pos hc]
      · rw [if_neg hc, if_neg hc]
        simp only [not_or, Bool.not_eq_false, List.all_eq_true] at hc
        simp only
        congr 1
        refine congrFun (congrFun (aFill_congr fun i => ?_) _) _
        rw [List.getElem?_map]
        cases hf : T.fields[i]? with
        | none => rfl
        | some f =>
          have := hc.2 f (List.mem_of_getElem? hf)
          obtain ⟨s, hs⟩ := Option.isSome_iff_exists.1 this
          simp [hs]
def litT (P : Program) (t n : Nat) : Option (List (Nat × Nat) × List AVal) := match tyI P t with
  | some T => match T.elem with
    | some e => match tyI P e with
      | some E => if n * E.size ≤ 16777216 ∧ 0 < E.zero.length ∧ 1 < E.size ∧ n ≠ 0 then some ((List.range n).map fun i => (i * E.size, E.size), zeros E.zero (n * E.size)) else none
      | none => none
    | none => none
  | none => none
class LitT (P : Program) (t n : Nat) (fl : outParam (List (Nat × Nat))) (z : outParam (List AVal)) : Prop where
  h : litT P t n = some (fl, z)
theorem aFill_lt {n s : Nat} (hs : 0 < s) : ∀ (parts : List (Nat × AVal)) (cells : List AVal), cells.length = n * s → aFill (fun i => some (i * s, s)) cells parts = aFill (fun i => ((List.range n).map fun i => (i * s, s))[i]?) cells parts
  | [], _, _ => rfl
  | (i, v) :: rest, cells, hl => by
    simp only [aFill]
    cases hp : v.parts with
    | none => cases ((List.range n).map fun i => (i * s, s))[i]? <;> rfl
    | some vs =>
      by_cases hi : i < n
      · rw [List.getElem?_map, List.getElem?_range hi]
        simp only [Option.map_some]
        split
        · rename_i hc
          exact aFill_lt hs rest _ (by rw [splice_length _ _ _ hc.2]; exact hl)
        · rfl
      · rw [List.getElem?_eq_none (by simpa using hi)]
        simp only
        rw [if_neg]
        rintro ⟨h1, h2⟩
        rw [hl, h1] at h2
        have : n * s ≤ i * s := Nat.mul_le_mul_right _ (by omega)
        omega
theorem zeros_len (z : List Value) (n : Nat) : (zeros z n).length = n := by simp [zeros]
theorem opK_litM {n : Nat} {fls : List (Nat × Nat)} {zc : List AVal} [L : LitT P t n fls zc] (ps : Array (Nat × Operand)) :
    @opK P ⟨fb, fn, ff, fl, fD, fz, fy⟩ ⟨dst, .buildSlice t n ps, ty, pos, after, g⟩ ρ h K = @bindK _ (aFill (fun i => fls[i]?) zc (ps.toList.map fun p => (p.1, ρ p.2))) ⟨fun l => K (.lit n l) h⟩ := by
  obtain ⟨hl⟩ := L
  unfold litT at hl
  rw [opK_buildSlice]
  split at hl
  · rename_i T hT
    split at hl
    · rename_i e hTe
      split at hl
      · rename_i E hE
        split at hl
        · rename_i hc
          simp only [Option.some.injEq, Prod.mk.injEq] at hl
          obtain ⟨rfl, rfl⟩ := hl
          simp only [aEff, hT, hTe, hE]
          rw [if_pos ⟨hc.1, hc.2.1, by omega, by omega⟩, aFill_lt (n := n) (by omega) _ _ (zeros_len _ _)]
          simp only [if_neg hc.2.2.2]
          cases aFill (fun i => ((List.range n).map fun i => (i * E.size, E.size))[i]?) (zeros E.zero (n * E.size)) (ps.toList.map fun p => (p.1, ρ p.2)) <;> rfl
        · cases hl
      · cases hl
    · cases hl
  · cases hl
class SlM (P : Program) (t : Nat) (s : outParam Nat) : Prop where
  h : ((tyI P t).bind fun T => T.elem).bind (fun e => (tyI P e).map fun E => E.size) = some s
theorem SlM.ex {n : Nat} [S : SlM P t n] : ∃ T e E, tyI P t = some T ∧ T.elem = some e ∧ tyI P e = some E ∧ E.size = n := by
  obtain ⟨hs⟩ := S
  cases hT : tyI P t with
  | none => simp [hT] at hs
  | some T =>
    cases he : T.elem with
    | none => simp [hT, he] at hs
    | some e =>
      cases hE : tyI P e with
      | none => simp [hT, he, hE] at hs
      | some E => simp [hT, he, hE] at hs; exact ⟨T, e, E, rfl, he, hE, hs⟩
theorem idxM_list {s : Nat} [S : SlM P t s] {p b : Bool} {m : Nat} {cs : List AVal} {k : IntKind} {n : Int} (h0 : 0 ≤ n) (h1 : n < m) : aIdx P t h (.list p b m cs) (.val (.int k n)) = some (.spot p (cs.drop (n.toNat * s))) := by
  obtain ⟨T, e, E, hT, he, hE, hs⟩ := S.ex
  simp only [aIdx, hT, he, hE]
  rw [if_pos ⟨h0, h1⟩, hs]
theorem idxM_lit {s : Nat} [S : SlM P t s] {m : Nat} {cs : List AVal} {k : IntKind} {n : Int} (h0 : 0 ≤ n) (h1 : n < m) : aIdx P t h (.lit m cs) (.val (.int k n)) = some (.spot true (cs.drop (n.toNat * s))) := by
  obtain ⟨T, e, E, hT, he, hE, hs⟩ := S.ex
  simp only [aIdx, hT, he, hE]
  rw [if_pos ⟨h0, h1⟩, hs]
theorem lenM {s : Nat} [S : SlM P t s] (x : Operand) : @opK P ⟨fb, fn, ff, fl, fD, fz, fy⟩ ⟨dst, .call ⟨.builtin .len, #[x], #[t]⟩, ty, pos, after, g⟩ ρ h K = @bindK _ (lnF (fl x) (ρ x) (sview h (ρ x))) ⟨fun r => K (.val (.int .i64 r.1)) h⟩ := by
  obtain ⟨T, e, E, hT, he, hE, hs⟩ := S.ex
  rw [opK_len]
  unfold lnF
  split
  · rfl
  cases sview h (ρ x) with
  | none => rfl
  | some r => simp [hT, he, bindK]
class NumT (P : Program) (t : Nat) (n : outParam Nat) : Prop where
  h : numCells P t = some n
theorem eqlAgg {n : Nat} [S : NumT P t n] (xs ys : List AVal) : aBin P t .eql (.agg xs) (.agg ys) = if n = xs.length then (eqInts xs ys).map (fun e => .val (.bool e)) else none := by
  obtain ⟨hs⟩ := S
  simp only [aBin, hs, Option.some.injEq]
  split
  · cases eqInts xs ys <;> rfl
  · rw [if_pos (.inl rfl)]
theorem neqAgg {n : Nat} [S : NumT P t n] (xs ys : List AVal) : aBin P t .neq (.agg xs) (.agg ys) = if n = xs.length then (eqInts xs ys).map (fun e => .val (.bool (!e))) else none := by
  obtain ⟨hs⟩ := S
  simp only [aBin, hs, Option.some.injEq]
  split
  · cases eqInts xs ys <;> rfl
  · rw [if_pos (.inl rfl)]
class KT (P : Program) (t : Nat) (ks : outParam (List Bool)) : Prop where
  n : numCells P t = none
  g : P.eqGuardType P.depth t = false
  u : (match P.underlying t with | some (.struct _) | some (.array _ _) => true | _ => false) = true
  k : cellKs P 5 t = some ks
theorem neqKT {ks : List Bool} [S : KT P t ks] (xs ys : List AVal) : aBin P t .neq (.agg xs) (.agg ys) = (eqK ks xs ys).map fun e => .val (.bool (!e)) := by
  obtain ⟨h1, h2, h3, h4⟩ := S
  simp only [aBin, h1, h2, h4, Option.isSome_none, Bool.false_eq_true, or_self, if_false, reduceCtorEq]
  split at h3
  · rename_i hu; rw [hu]; cases eqK ks xs ys <;> rfl
  · rename_i hu; rw [hu]; cases eqK ks xs ys <;> rfl
  · cases h3
theorem eqK_nil : eqK [] [] [] = some true := _root_.id rfl
theorem eqK_bool (ks : List Bool) (a b : Bool) (r r' : List AVal) : eqK (true :: ks) (.val (.bool a) :: r) (.val (.bool b) :: r') = (eqK ks r r').map fun e => (a == b) && e := _root_.id rfl
theorem eqK_int (ks : List Bool) (k : IntKind) (a b : Int) (r r' : List AVal) : eqK (false :: ks) (.val (.int k a) :: r) (.val (.int k b) :: r') = (eqK ks r r').map fun e => (a == b) && e := by simp [eqK]
theorem eqInts_nil : eqInts [] [] = some true := _root_.id rfl
theorem eqInts_cons (k : IntKind) (a b : Int) (r r' : List AVal) : eqInts (.val (.int k a) :: r) (.val (.int k b) :: r') = (eqInts r r').map fun e => (a == b) && e := by simp [eqInts]
theorem bX_mk (fl : List (Nat × Nat)) (z : List AVal) (parts : List (Nat × AVal)) : bX (some (fl, z)) parts = (aFill (fun i => fl[i]?) z parts).map .agg := _root_.id rfl
def fiX (p : Option (Nat × Nat)) (vs : Option (List AVal)) (fl : List (Nat × Nat)) (cells : List AVal) (rest : List (Nat × AVal)) : Option (List AVal) := match p, vs with
  | some (off, size), some vs => if vs.length = size ∧ off + vs.length ≤ cells.length then aFill (fun i => fl[i]?) (splice cells off vs) rest else none
  | _, _ => none
theorem aFill_nil (fl : List (Nat × Nat)) (cells : List AVal) : aFill (fun i => fl[i]?) cells [] = some cells := _root_.id rfl
theorem aFill_cons (fl : List (Nat × Nat)) (cells : List AVal) (i : Nat) (v : AVal) (rest : List (Nat × AVal)) : aFill (fun i => fl[i]?) cells ((i, v) :: rest) = fiX fl[i]? v.parts fl cells rest := by
  simp only [aFill, fiX]; rfl
theorem fiX_mk (off size : Nat) (vs : List AVal) (fl : List (Nat × Nat)) (cells : List AVal) (rest : List (Nat × AVal)) : fiX (some (off, size)) (some vs) fl cells rest = if vs.length = size ∧ off + vs.length ≤ cells.length then aFill (fun i => fl[i]?) (splice cells off vs) rest else none := _root_.id rfl
def zT (P : Program) (t : Nat) : Option (List AVal × Nat) := match tyI P t with
  | some T => if T.zero.length = T.size ∧ T.size ≠ 0 then some (T.zero.map ofCell, T.size) else none
  | none => none
def alX (o : Option (List AVal × Nat)) (t : Nat) (h : List AObj) : Option (AVal × List AObj) := match o with
  | some (z, n) => some (.ptr h.length 0 n, h ++ [⟨t, n, z⟩])
  | none => none
theorem alX_mk (z : List AVal) (n t : Nat) : alX (some (z, n)) t h = some (.ptr h.length 0 n, h ++ [⟨t, n, z⟩]) := _root_.id rfl
def boX (o : Option (Bool × Nat)) (ps : Option (List AVal)) (t : Nat) (h : List AObj) : Option (AVal × List AObj) := match o, ps with
  | some (_, n), some vs => if vs.length = n ∧ n ≠ 0 then some (.ptr h.length 0 n, h ++ [⟨t, n, vs⟩]) else none
  | _, _ => none
theorem boX_mk (g : Bool) (n t : Nat) (vs : List AVal) : boX (some (g, n)) (some vs) t h = if vs.length = n ∧ n ≠ 0 then some (.ptr h.length 0 n, h ++ [⟨t, n, vs⟩]) else none := _root_.id rfl
theorem opK_alloc (t : TypeId) : @opK P ⟨fb, fn, ff, fl, fD, fz, fy⟩ ⟨dst, .alloc t, ty, pos, after, g⟩ ρ h K = @bindK _ (alX (zT P t) t h) ⟨fun r => K r.1 r.2⟩ := by
  rw [opK_eff rfl rfl rfl rfl rfl rfl]
  congr 1
  simp only [aEff, zT]
  cases tyI P t with
  | none => rfl
  | some T => simp only; split <;> rfl
def boF (b : Bool) (o : Option (Bool × Nat)) (ps : Option (List AVal)) (t : Nat) (h : List AObj) : Option (AVal × List AObj) := match b with
  | false => boX o ps t h
  | true => match o, ps with
    | some (_, n), some vs => if vs.length = n ∧ n ≠ 0 then some (.spot true vs, h) else none
    | _, _ => none
theorem boF_false (o : Option (Bool × Nat)) (ps : Option (List AVal)) (t : Nat) (h : List AObj) : boF false o ps t h = boX o ps t h := _root_.id rfl
theorem boF_mk (g : Bool) (n t : Nat) (vs : List AVal) (h : List AObj) : boF true (some (g, n)) (some vs) t h = if vs.length = n ∧ n ≠ 0 then some (.spot true vs, h) else none := _root_.id rfl
theorem opK_box (t : TypeId) (x : Operand) : @opK P ⟨fb, fn, ff, fl, fD, fz, fy⟩ ⟨dst, .box t x, ty, pos, after, g⟩ ρ h K = @bindK _ (boF (ff x) (agT P t) (ρ x).parts t h) ⟨fun r => K r.1 r.2⟩ := by
  have h4 : frzOp ⟨fb, fn, ff, fl, fD, fz, fy⟩ (.box t x) = ff x := rfl
  cases hf : ff x with
  | false =>
    rw [opK_eff rfl rfl rfl (h4.trans hf) rfl rfl]
    congr 1
    simp only [aEff, agT, boF]
    cases tyI P t with
    | none => rfl
    | some T => cases (ρ x).parts with
      | none => rfl
      | some vs => simp only [Option.map_some, boX]
  | true =>
    unfold opK
    simp only [zOp, Bool.false_eq_true, if_false, h4, hf, if_true, aFrzO, boF, agT]
    cases tyI P t with
    | none => simp [bindK]
    | some T => cases (ρ x).parts with
      | none => simp [bindK]
      | some vs =>
        simp only [Option.map_some]
        by_cases hc : vs.length = T.size ∧ T.size ≠ 0
        · rw [if_pos hc, if_pos hc]; simp [bindK]
        · rw [if_neg hc, if_neg hc]; simp [bindK]
theorem opK_build (t : TypeId) (ps : Array (Nat × Operand)) : @opK P ⟨fb, fn, ff, fl, fD, fz, fy⟩ ⟨dst, .build t ps, ty, pos, after, g⟩ ρ h K = @bindK _ (bX (flT P t) (ps.toList.map fun p => (p.1, ρ p.2))) ⟨fun v => K v h⟩ := by
  rw [opK_eff rfl rfl rfl rfl rfl rfl]
  simp only [aEff, ← aBuild_eq]
  show @bindK _ ((aBuild P t (ps.toList.map fun p => (p.1, ρ p.2))).map fun x => (x, h)) ⟨fun r => K r.1 r.2⟩ = _
  cases aBuild P t (ps.toList.map fun p => (p.1, ρ p.2)) <;> rfl
theorem opK_fieldAddr (s : TypeId) (x : Operand) (f : Nat) : @opK P ⟨fb, fn, ff, fl, fD, fz, fy⟩ ⟨dst, .fieldAddr s x f, ty, pos, after, g⟩ ρ h K = @bindK _ (spF (fn x) (ρ x) (ldF (fl x) fD (ρ x) (fX (fOff P s f) h (ρ x)))) ⟨fun v => K v h⟩ := by
  rw [opK_fieldAddr0, ← aField_eq]
def fOT (P : Program) (s f : Nat) : Option (Nat × Nat) := match tyI P s with
  | some T => T.fields[f]?
  | none => none
def faX (P : Program) (o : Option (Nat × Nat)) (x : AVal) : Option AVal := match o, x with
  | some (off, ft), .agg cs => pX (agT P ft) (cs.drop off)
  | _, _ => none
theorem opK_field (s : TypeId) (x : Operand) (f : Nat) : @opK P ⟨fb, fn, ff, fl, fD, fz, fy⟩ ⟨dst, .field s x f, ty, pos, after, g⟩ ρ h K = @bindK _ (faX P (fOT P s f) (ρ x)) ⟨fun v => K v h⟩ := by
  rw [opK_pure rfl rfl rfl rfl]
  congr 1
  simp only [aPure, fOT, faX]
  cases tyI P s with
  | none => rfl
  | some T =>
    cases hf : T.fields[f]? with
    | none => cases ρ x <;> simp [hf]
    | some p => cases ρ x <;> simp [hf, aPart_eq]
theorem faX_mk (off ft : Nat) (cs : List AVal) : faX P (some (off, ft)) (.agg cs) = pX (agT P ft) (cs.drop off) := _root_.id rfl
theorem opK_makeFunc (fu : Fn) (a c : Array Operand) : @opK P ⟨fb, fn, ff, fl, fD, fz, fy⟩ ⟨dst, .makeFunc fu a c, ty, pos, after, g⟩ ρ h K = @bindK _ (some (.func fu (a.toList.map ρ) (c.toList.map ρ))) ⟨fun v => K v h⟩ := _root_.id rfl
def ncX (h : List AObj) (x : AVal) : Option AVal := match x with
  | .spot p cs => some (.spot p cs)
  | .ptr id off ext => if (cellsAt h id ext).isSome then some (.ptr id off ext) else none
  | .func (.func f) a b => some (.func (.func f) a b)
  | _ => none
theorem opK_nilCheck (x : Operand) : @opK P ⟨fb, fn, ff, fl, fD, fz, fy⟩ ⟨dst, .nilCheck x, ty, pos, after, g⟩ ρ h K = @bindK _ (ncX h (ρ x)) ⟨fun v => K v h⟩ := opK_pure rfl rfl rfl rfl
theorem ncX_spot (p : Bool) (cs : List AVal) : ncX h (.spot p cs) = some (.spot p cs) := _root_.id rfl
theorem ncX_func (f : FuncId) (a b : List AVal) : ncX h (.func (.func f) a b) = some (.func (.func f) a b) := _root_.id rfl
theorem ncX_ptr (id off ext : Nat) : ncX h (.ptr id off ext) = (cA h[id]? ext).map fun _ => .ptr id off ext := by
  simp only [ncX, cellsAt_eq]; cases cA h[id]? ext <;> rfl
def isB (P : Program) (t : Nat) : Bool := match tyI P t with
  | some T => T.isBool
  | none => false
class BoT (P : Program) (t : Nat) : Prop where
  is : isB P t = true
theorem aBin_beq {t : Nat} [S : BoT P t] (a b : Bool) : aBin P t .eql (.val (.bool a)) (.val (.bool b)) = some (.val (.bool (a == b))) := by
  have ht := S.is
  unfold isB at ht
  simp only [aBin]
  split at ht
  · rename_i T hT; simp [hT, ht]
  · cases ht
theorem aBin_bne {t : Nat} [S : BoT P t] (a b : Bool) : aBin P t .neq (.val (.bool a)) (.val (.bool b)) = some (.val (.bool (!(a == b)))) := by
  have ht := S.is
  unfold isB at ht
  simp only [aBin]
  split at ht
  · rename_i T hT; simp [hT, ht]
  · cases ht
def gw (b : Bool) (k : Nat) (xs : List AVal) : AVal := match xs with
  | [] => if b then .res k else .cap0 false
  | _ :: _ => .ref k 0 xs.length xs.length
def go (e : TypeId) (xs : List AVal) : AObj := match xs with
  | [] => ⟨0, 0, []⟩
  | _ :: _ => ⟨e, 1, xs⟩
theorem parts_gw (b : Bool) (k : Nat) (xs : List AVal) : AVal.parts (gw b k xs) = some [gw b k xs] := by cases xs <;> cases b <;> rfl
theorem one_gw (b : Bool) (k : Nat) (xs : List AVal) : AVal.one (gw b k xs) = true := by cases xs <;> cases b <;> rfl
theorem nilB_gw (b : Bool) (k : Nat) (xs : List AVal) : nilB (gw b k xs) = some (b && xs.isEmpty) := by cases xs <;> cases b <;> rfl
theorem go_cells (e : TypeId) (xs : List AVal) : (go e xs).cells = xs := by cases xs <;> rfl
def gS (o : Option AObj) (xs : List AVal) : Option (Nat × List AVal) := match xs with
  | [] => some (0, [])
  | _ :: _ => (cA o xs.length).map fun cs => (xs.length, cs)
theorem sview_gw (b : Bool) (k : Nat) (xs : List AVal) : sview h (gw b k xs) = gS h[k]? xs := by
  cases xs <;> cases b <;> first | rfl | (simp [gw, gS, sview_ref])
theorem gS_go (e : TypeId) (xs : List AVal) : gS (some (go e xs)) xs = some (xs.length, xs) := by
  cases xs <;> simp [gS, go, cA]
theorem cA_go {e : TypeId} {xs : List AVal} {n : Nat} (hn : xs.length = n) : cA (some (go e xs)) n = some xs := by
  simp [cA, go_cells, hn]
theorem idx_gw [S : SlT P t e nb z] {b : Bool} {j : Nat} {xs : List AVal} {k : IntKind} {n : Int} (h0 : 0 ≤ n) (h1 : n < xs.length) : aIdx P t h (gw b j xs) (.val (.int k n)) = (cA h[j]? xs.length).map fun _ => .ptr j n.toNat xs.length := by
  cases xs with
  | nil => simp at h1; omega
  | cons x xr =>
    simp only [gw]
    rw [idx_ref (S := S)]
    simp only [cellsAt_eq]
    cases hc : cA h[j]? (x :: xr).length with
    | none => simp
    | some cs => rw [if_pos ⟨h0, h1, rfl⟩]; simp
theorem idx_own [S : SlT P t e nb z] {id off m ext : Nat} {k : IntKind} {n : Int} (h0 : 0 ≤ n) (h1 : n < m) : aIdx P t h (.ref id off m ext) (.val (.int k n)) = (cA h[id]? ext).map fun _ => .ptr id (off + n.toNat) ext := by
  rw [idx_ref (S := S)]
  simp only [cellsAt_eq]
  cases hc : cA h[id]? ext with
  | none => simp
  | some cs => simp [h0, h1]
theorem append_gw [S : SlT P t e nb z] {b : Bool} {k m : Nat} {xs ys : List AVal} {y : AVal} (ho : h[k]? = some (go e xs)) (hv : sview h y = some (m, ys)) (hm : m = ys.length) (c5 : ys.all AVal.one = true) (c6 : (xs.length + m) * nb ≤ 140737488355328) (c7 : xs.length + m ≤ 140737488355328) (hbt : b = true ∨ xs ≠ []) :
    aAppend P t h (gw b k xs) y = some (gw b k (xs ++ ys), h.set k (go e (xs ++ ys))) := by
  obtain ⟨⟨T, hT, hTe⟩, E, hE, g1, g2, g3, g4⟩ := S
  subst hm
  have hz : E.zero.length = E.size := by rw [g4, g1]; rfl
  have ht : ys.take ys.length = ys := List.take_of_length_le (Nat.le_refl _)
  have hk : k < h.length := (List.getElem?_eq_some_iff.1 ho).1
  simp only [aAppend, hT, hTe, hE, hv, g1, Nat.mul_one, ht]
  rw [if_pos ⟨trivial, c5, by omega, by rw [hz, g1]⟩]
  cases xs with
  | nil =>
    obtain rfl : b = true := hbt.resolve_right (fun h => h rfl)
    simp only [gw, if_true, List.nil_append]
    cases ys with
    | nil =>
      simp only [List.length_nil, if_true, gw, go]
      congr 2
      have := (List.getElem?_eq_some_iff.1 ho).2
      simp only [go] at this
      rw [← this]; simp
    | cons y0 yr =>
      rw [if_neg (by simp)]
      simp only [ho]
      rw [if_pos ⟨rfl, by rw [g3]; simpa using c6, by simpa using c7⟩]
      rfl
  | cons x xr =>
    simp only [gw, ho, List.cons_append, go]
    rw [if_pos ⟨trivial, by simp, trivial, trivial, by rw [g3]; exact c6, c7⟩]
    have e1 : (x :: (xr ++ ys)).length = (x :: xr).length + ys.length := by simp; omega
    simp only [e1, List.cons_append, g1, Nat.mul_one]
theorem append_int [S : SlT P t e 8 z] {k : Nat} {l : List Int} {x : Int} (ho : h[k]? = some (go e (ints l))) (hl : l.length ≤ 1000000000) :
    aAppend P t h (gw true k (ints l)) (.lit 1 [.val (.int .i64 x)]) = some (gw true k (ints (l ++ [x])), h.set k (go e (ints (l ++ [x])))) := by
  rw [append_gw (S := S) ho (sview_lit _ _) (by simp) (by simp [AVal.one, Value.oneCell']) (by rw [ints_length]; omega) (by rw [ints_length]; omega) (.inl rfl), ← ints_append]; rfl
theorem append_refI [S : SlT P t e 8 z] {id n : Nat} {l : List Int} {x : Int} (ho : h[id]? = some ⟨e, 1, ints l⟩) (hn : l.length = n) (hl : n ≤ 1000000000) :
    aAppend P t h (.ref id 0 n n) (.lit 1 [.val (.int .i64 x)]) = some (.ref id 0 (n + 1) (n + 1), h.set id ⟨e, 1, ints (l ++ [x])⟩) := by
  obtain ⟨⟨T, hT, hTe⟩, E, hE, g1, g2, g3, g4⟩ := S
  have hz : E.zero.length = 1 := by rw [g4]; rfl
  have hli : (ints l).length = n := by rw [ints_length, hn]
  simp only [aAppend, hT, hTe, hE, sview_lit, g1, Nat.mul_one, ho]
  rw [if_pos ⟨rfl, rfl, by omega, hz⟩, if_pos ⟨hli, trivial, trivial, trivial, by rw [g3]; omega, by omega⟩]
  simp [ints]
def apRI (h : List AObj) (id n e : Nat) (x : Int) : Option AObj → Option (AVal × List AObj)
  | some o => if o.cells.length = n ∧ o.ty = e ∧ o.es = 1 then some (.ref id 0 (n + 1) (n + 1), h.set id ⟨e, 1, o.cells ++ [.val (.int .i64 x)]⟩) else none
  | none => none
theorem append_ref1 [S : SlT P t e 8 z] {id n : Nat} {x : Int} (hl : n ≤ 1000000000) : aAppend P t h (.ref id 0 n n) (.lit 1 [.val (.int .i64 x)]) = apRI h id n e x h[id]? := by
  obtain ⟨⟨T, hT, hTe⟩, E, hE, g1, g2, g3, g4⟩ := S
  have hz : E.zero.length = 1 := by rw [g4]; rfl
  simp only [aAppend, hT, hTe, hE, sview_lit, g1, Nat.mul_one]
  rw [if_pos ⟨rfl, rfl, by omega, hz⟩]
  cases ho : h[id]? with
  | none => rfl
  | some o =>
    simp only [apRI]
    by_cases hc : o.cells.length = n ∧ o.ty = e ∧ o.es = 1
    · rw [if_pos hc, if_pos ⟨hc.1, trivial, hc.2.1, hc.2.2, by rw [g3]; omega, by omega⟩, hc.2.1, hc.2.2]; rfl
    · rw [if_neg hc, if_neg (fun h => hc ⟨h.1, h.2.2.1, h.2.2.2.1⟩), if_neg (fun h => by omega)]
theorem apRI_ints {id n e : Nat} {x : Int} {l : List Int} (hn : l.length = n) : apRI h id n e x (some ⟨e, 1, ints l⟩) = some (.ref id 0 (n + 1) (n + 1), h.set id ⟨e, 1, ints (l ++ [x])⟩) := by
  simp only [apRI]
  rw [if_pos (by simp [ints, hn])]
  simp [ints]
def apRX (h : List AObj) (id n e : Nat) (x : AVal) : Option AObj → Option (AVal × List AObj)
  | some o => if o.cells.length = n ∧ o.ty = e ∧ o.es = 1 then some (.ref id 0 (n + 1) (n + 1), h.set id ⟨e, 1, o.cells ++ [x]⟩) else none
  | none => none
theorem append_refX [S : SlT P t e nb z] {id n : Nat} {x : AVal} (hnb : nb ≤ 24) (hx : x.one = true) (hl : n ≤ 1000000000) : aAppend P t h (.ref id 0 n n) (.lit 1 [x]) = apRX h id n e x h[id]? := by
  obtain ⟨⟨T, hT, hTe⟩, E, hE, g1, g2, g3, g4⟩ := S
  have hz : E.zero.length = 1 := by rw [g4]; rfl
  have hb : (n + 1) * E.bytes ≤ 140737488355328 := by
    have : (n + 1) * E.bytes ≤ 1000000001 * 24 := Nat.mul_le_mul (by omega) (by omega)
    omega
  simp only [aAppend, hT, hTe, hE, sview_lit, g1, Nat.mul_one]
  rw [if_pos ⟨rfl, by simp [hx], by omega, hz⟩]
  cases ho : h[id]? with
  | none => rfl
  | some o =>
    simp only [apRX]
    by_cases hc : o.cells.length = n ∧ o.ty = e ∧ o.es = 1
    · rw [if_pos hc, if_pos ⟨hc.1, trivial, hc.2.1, hc.2.2, hb, by omega⟩, hc.2.1, hc.2.2]; rfl
    · rw [if_neg hc, if_neg (fun h => hc ⟨h.1, h.2.2.1, h.2.2.2.1⟩), if_neg (fun h => by omega)]
theorem append_refB [S : SlT P t e 1 z] {id n : Nat} {x : Bool} (hl : n ≤ 1000000000) : aAppend P t h (.ref id 0 n n) (.lit 1 [.val (.bool x)]) = apRX h id n e (.val (.bool x)) h[id]? := append_refX (S := S) (by omega) rfl hl
theorem apRX_bools {id n e : Nat} {x : Bool} {l : List Bool} (hn : l.length = n) : apRX h id n e (.val (.bool x)) (some ⟨e, 1, bools l⟩) = some (.ref id 0 (n + 1) (n + 1), h.set id ⟨e, 1, bools (l ++ [x])⟩) := by
  simp only [apRX]
  rw [if_pos (by simp [bools, hn])]
  simp [bools]
theorem append_bool [S : SlT P t e 1 z] {k : Nat} {l : List Bool} {x : Bool} (ho : h[k]? = some (go e (bools l))) (hl : l.length ≤ 1000000000) :
    aAppend P t h (gw true k (bools l)) (.lit 1 [.val (.bool x)]) = some (gw true k (bools (l ++ [x])), h.set k (go e (bools (l ++ [x])))) := by
  rw [append_gw (S := S) ho (sview_lit _ _) (by simp) (by simp [AVal.one, Value.oneCell']) (by rw [bools_length]; omega) (by rw [bools_length]; omega) (.inl rfl), ← bools_append]; rfl
theorem append_one [S : SlT P t e nb z] {k : Nat} {xs : List AVal} {x : AVal} (ho : h[k]? = some (go e xs)) (hx : x.one = true) (hl : xs.length ≤ 1000000000) (hnb : nb ≤ 24) :
    aAppend P t h (gw true k xs) (.lit 1 [x]) = some (gw true k (xs ++ [x]), h.set k (go e (xs ++ [x]))) := by
  have : (xs.length + 1) * nb ≤ 1000000001 * 24 := Nat.mul_le_mul (by omega) hnb
  rw [append_gw (S := S) ho (sview_lit _ _) (by simp) (by simp [hx]) (by omega) (by omega) (.inl rfl)]
theorem append_list [S : SlT P t e 24 z] {k : Nat} {xs : List AVal} {p b : Bool} {n : Nat} {cs : List AVal} (ho : h[k]? = some (go e xs)) (hl : xs.length ≤ 1000000000) :
    aAppend P t h (gw true k xs) (.lit 1 [.list p b n cs]) = some (gw true k (xs ++ [.list p b n cs]), h.set k (go e (xs ++ [.list p b n cs]))) := append_one (S := S) ho rfl hl (by omega)
theorem make_one [S : SlT P t e nb z] {k k' : IntKind} {a b : Int} (h0 : 0 ≤ a) (h1 : a ≤ b) (h2 : b ≤ 1000000000000) (hnb : nb ≤ 24) :
    aMake P t h (.val (.int k a)) (.val (.int k' b)) = some (.ref h.length 0 a.toNat a.toNat, h ++ [⟨e, 1, List.replicate a.toNat (ofCell z)⟩]) := by
  obtain ⟨⟨T, hT, hTe⟩, E, hE, g1, g2, g3, g4⟩ := S
  simp only [aMake, hT, hTe, hE, g4, g1]
  have : (nb : Int) * b ≤ 24 * 1000000000000 := Int.mul_le_mul (by omega) h2 (by omega) (by omega)
  rw [if_pos ⟨by rfl, by omega, h0, h1, by rw [g3]; omega, by omega⟩, Nat.mul_one]
  rfl
theorem make_int [S : SlT P t e 8 (.int .i64 0)] {k k' : IntKind} {a b : Int} (h0 : 0 ≤ a) (h1 : a ≤ b) (h2 : b ≤ 1000000000000) :
    aMake P t h (.val (.int k a)) (.val (.int k' b)) = some (.ref h.length 0 a.toNat a.toNat, h ++ [⟨e, 1, ints (List.replicate a.toNat 0)⟩]) := by
  rw [make_one (S := S) h0 h1 h2 (by omega)]; simp [ints, ofCell]
theorem make_bool [S : SlT P t e 1 (.bool false)] {k k' : IntKind} {a b : Int} (h0 : 0 ≤ a) (h1 : a ≤ b) (h2 : b ≤ 1000000000000) :
    aMake P t h (.val (.int k a)) (.val (.int k' b)) = some (.ref h.length 0 a.toNat a.toNat, h ++ [⟨e, 1, bools (List.replicate a.toNat false)⟩]) := by
  rw [make_one (S := S) h0 h1 h2 (by omega)]; simp [bools, ofCell]
def aX (h : List AObj) (n off k ext : Nat) (o : Option AObj) : AVal := match o with
  | some o => if o.cells.length = ext then .list false false k (((o.cells.drop off).take (k * o.es)).map (argOf h n)) else .undef
  | none => .undef
theorem argOf_ref (n id off k ext : Nat) : argOf h (n + 1) (.ref id off k ext) = aX h n off k ext h[id]? := by
  simp only [argOf, aX]; cases h[id]? <;> rfl
def rX (h : List AObj) (n off k ext : Nat) (o : Option AObj) : AVal := match o with
  | some o => if o.cells.length = ext then .list true false k (((o.cells.drop off).take (k * o.es)).map (resOf h n)) else .undef
  | none => .undef
theorem resOf_ref (n id off k ext : Nat) : resOf h (n + 1) (.ref id off k ext) = rX h n off k ext h[id]? := by
  simp only [resOf, rX]; cases h[id]? <;> rfl
theorem aX_ints {n k ext ty : Nat} {l : List Int} (hk : k = l.length) (he : ext = l.length) : aX h (n + 1) 0 k ext (some ⟨ty, 1, ints l⟩) = .list false false l.length (ints l) := by
  subst hk; subst he
  simp [aX, ints_length, ints_arg, List.take_of_length_le]
theorem rX_ints {n k ext ty : Nat} {l : List Int} (hk : k = l.length) (he : ext = l.length) : rX h (n + 1) 0 k ext (some ⟨ty, 1, ints l⟩) = .list true false l.length (ints l) := by
  subst hk; subst he
  simp [rX, ints_length, ints_res, List.take_of_length_le]
theorem aX_bools {n k ext ty : Nat} {l : List Bool} (hk : k = l.length) (he : ext = l.length) : aX h (n + 1) 0 k ext (some ⟨ty, 1, bools l⟩) = .list false false l.length (bools l) := by
  subst hk; subst he
  simp [aX, bools_length, bools_arg, List.take_of_length_le]
theorem rX_bools {n k ext ty : Nat} {l : List Bool} (hk : k = l.length) (he : ext = l.length) : rX h (n + 1) 0 k ext (some ⟨ty, 1, bools l⟩) = .list true false l.length (bools l) := by
  subst hk; subst he
  simp [rX, bools_length, bools_res, List.take_of_length_le]
def gaA (h : List AObj) (n : Nat) (b : Bool) (xs : List AVal) (o : Option AObj) : AVal := match xs with
  | [] => .list false b 0 []
  | _ :: _ => aX h n 0 xs.length xs.length o
theorem argOf_gw (n k : Nat) (b : Bool) (xs : List AVal) : argOf h (n + 1) (gw b k xs) = gaA h n b xs h[k]? := by
  cases xs <;> cases b <;> first | rfl | (simp only [gw, argOf_ref, gaA])
theorem gaA_go (n : Nat) (b : Bool) (e : TypeId) (xs : List AVal) : gaA h n b xs (some (go e xs)) = .list false (b && xs.isEmpty) xs.length (xs.map (argOf h n)) := by
  cases xs <;> simp [gaA, go, aX]
def gaR (h : List AObj) (n : Nat) (b : Bool) (xs : List AVal) (o : Option AObj) : AVal := match xs with
  | [] => .list true b 0 []
  | _ :: _ => rX h n 0 xs.length xs.length o
theorem resOf_gw (n k : Nat) (b : Bool) (xs : List AVal) : resOf h (n + 1) (gw b k xs) = gaR h n b xs h[k]? := by
  cases xs <;> cases b <;> first | rfl | (simp only [gw, resOf_ref, gaR])
theorem gaR_go (n : Nat) (b : Bool) (e : TypeId) (xs : List AVal) : gaR h n b xs (some (go e xs)) = .list true (b && xs.isEmpty) xs.length (xs.map (resOf h n)) := by
  cases xs <;> simp [gaR, go, rX]
def apX (h : List AObj) (n off ext : Nat) (o : Option AObj) : AVal := match o with
  | some o => if o.cells.length = ext then .spot false ((o.cells.drop off).map (argOf h n)) else .undef
  | none => .undef
theorem argOf_ptr (n id off ext : Nat) : argOf h (n + 1) (.ptr id off ext) = apX h n off ext h[id]? := by
  simp only [argOf, apX]; cases h[id]? <;> rfl
theorem apX_mk (n off ext ty es : Nat) (cs : List AVal) : apX h n off ext (some ⟨ty, es, cs⟩) = if cs.length = ext then .spot false ((cs.drop off).map (argOf h n)) else .undef := _root_.id rfl
theorem argOf_int (n : Nat) (k : IntKind) (x : Int) : argOf h (n + 1) (.val (.int k x)) = .val (.int k x) := _root_.id rfl
theorem argOf_val (n : Nat) (x : Value) : argOf h (n + 1) (.val x) = .val x := _root_.id rfl
theorem argOf_cap0 (n : Nat) (b : Bool) : argOf h (n + 1) (.cap0 b) = .list false b 0 [] := _root_.id rfl
theorem argOf_res (n k : Nat) : argOf h (n + 1) (.res k) = .list false true 0 [] := _root_.id rfl
theorem argOf_lit (n k : Nat) (cs : List AVal) : argOf h (n + 1) (.lit k cs) = .list false false k (cs.map (argOf h n)) := _root_.id rfl
theorem argOf_list (n : Nat) (p b : Bool) (k : Nat) (cs : List AVal) : argOf h (n + 1) (.list p b k cs) = .list false b k (cs.map (argOf h n)) := _root_.id rfl
theorem argOf_spot (n : Nat) (p : Bool) (cs : List AVal) : argOf h (n + 1) (.spot p cs) = .spot false (cs.map (argOf h n)) := _root_.id rfl
theorem argOf_agg (n : Nat) (cs : List AVal) : argOf h (n + 1) (.agg cs) = .agg (cs.map (argOf h n)) := _root_.id rfl
theorem argOf_func (n : Nat) (fn : Fn) (fs cs : List AVal) : argOf h (n + 1) (.func fn fs cs) = .func fn (fs.map (argOf h n)) (cs.map (argOf h n)) := _root_.id rfl
theorem resOf_val (n : Nat) (x : Value) : resOf h (n + 1) (.val x) = .val x := _root_.id rfl
theorem resOf_cap0 (n : Nat) (b : Bool) : resOf h (n + 1) (.cap0 b) = .list true b 0 [] := _root_.id rfl
theorem resOf_res (n k : Nat) : resOf h (n + 1) (.res k) = .list true true 0 [] := _root_.id rfl
theorem resOf_lit (n k : Nat) (cs : List AVal) : resOf h (n + 1) (.lit k cs) = .list true false k (cs.map (resOf h n)) := _root_.id rfl
theorem resOf_list (n : Nat) (p b : Bool) (k : Nat) (cs : List AVal) : resOf h (n + 1) (.list p b k cs) = .list p b k (cs.map (resOf h n)) := _root_.id rfl
theorem resOf_agg (n : Nat) (cs : List AVal) : resOf h (n + 1) (.agg cs) = .agg (cs.map (resOf h n)) := _root_.id rfl
theorem resOf_tuple (n : Nat) (cs : List AVal) : resOf h (n + 1) (.tuple cs) = .tuple (cs.map (resOf h n)) := _root_.id rfl
theorem resOf_func (n : Nat) (fn : Fn) (fs cs : List AVal) : resOf h (n + 1) (.func fn fs cs) = .func fn (fs.map (resOf h n)) (cs.map (resOf h n)) := _root_.id rfl
def rvX (l : List (Option AVal)) : Option AVal := match l with
  | [some x] => some x
  | [some x, some y] => some (.tuple [x, y])
  | [some x, some y, some u] => some (.tuple [x, y, u])
  | [some x, some y, some u, some v] => some (.tuple [x, y, u, v])
  | [some x, some y, some u, some v, some q] => some (.tuple [x, y, u, v, q])
  | [] => some (.tuple [])
  | _ => none
theorem rvX_0 : rvX [] = some (.tuple []) := _root_.id rfl
theorem rvX_1 (x : AVal) : rvX [some x] = some x := _root_.id rfl
theorem rvX_2 (x y : AVal) : rvX [some x, some y] = some (.tuple [x, y]) := _root_.id rfl
theorem rvX_3 (x y u : AVal) : rvX [some x, some y, some u] = some (.tuple [x, y, u]) := _root_.id rfl
theorem rvX_4 (x y u v : AVal) : rvX [some x, some y, some u, some v] = some (.tuple [x, y, u, v]) := _root_.id rfl
theorem rvX_5 (x y u v q : AVal) : rvX [some x, some y, some u, some v, some q] = some (.tuple [x, y, u, v, q]) := _root_.id rfl
def raX (P : Program) (s : ASt) : ResultVar → Option AVal
  | .tmp t => some (look s.env t)
  | .cell a t => (pview s.heap (look s.env a)).bind fun cs => pX (agT P t) cs
theorem raX_eq (s : ASt) (r : ResultVar) : resAt P s r = raX P s r := by
  cases r with
  | tmp t => rfl
  | cell a t =>
    simp only [resAt, raX]
    cases pview s.heap (look s.env a) with
    | none => rfl
    | some cs => simp only [aPart_eq, Option.bind_some]
theorem raX_tmp (s : ASt) (t : Nat) : raX P s (.tmp t) = some (look s.env t) := _root_.id rfl
theorem raX_cell (s : ASt) (a t : Nat) : raX P s (.cell a t) = (pview s.heap (look s.env a)).bind fun cs => pX (agT P t) cs := _root_.id rfl
theorem resVal_0 {fn : Func} {s : ASt} (hf : fn.results = #[]) : resVal P fn s = rvX [] := by simp [resVal, hf, rvX]
theorem resVal_1 {fn : Func} {s : ASt} {a : ResultVar} (hf : fn.results = #[a]) : resVal P fn s = rvX [raX P s a] := by
  simp only [resVal, hf, List.mapM_cons, List.mapM_nil, raX_eq]
  cases raX P s a <;> rfl
theorem resVal_2 {fn : Func} {s : ASt} {a b : ResultVar} (hf : fn.results = #[a, b]) : resVal P fn s = rvX [raX P s a, raX P s b] := by
  simp only [resVal, hf, List.mapM_cons, List.mapM_nil, raX_eq]
  cases raX P s a <;> cases raX P s b <;> rfl
theorem resVal_3 {fn : Func} {s : ASt} {a b c : ResultVar} (hf : fn.results = #[a, b, c]) : resVal P fn s = rvX [raX P s a, raX P s b, raX P s c] := by
  simp only [resVal, hf, List.mapM_cons, List.mapM_nil, raX_eq]
  cases raX P s a <;> cases raX P s b <;> cases raX P s c <;> rfl
theorem args0_0 : args0 [] = [] := _root_.id rfl
theorem args0_1 (a : AVal) : args0 [a] = [(0, a)] := _root_.id rfl
theorem args0_2 (a b : AVal) : args0 [a, b] = [(0, a), (1, b)] := _root_.id rfl
theorem args0_3 (a b c : AVal) : args0 [a, b, c] = [(0, a), (1, b), (2, c)] := _root_.id rfl
theorem args0_4 (a b c d : AVal) : args0 [a, b, c, d] = [(0, a), (1, b), (2, c), (3, d)] := _root_.id rfl
theorem args0_5 (a b c d f : AVal) : args0 [a, b, c, d, f] = [(0, a), (1, b), (2, c), (3, d), (4, f)] := _root_.id rfl
theorem args0_6 (a b c d f g : AVal) : args0 [a, b, c, d, f, g] = [(0, a), (1, b), (2, c), (3, d), (4, f), (5, g)] := _root_.id rfl
theorem eql_nil [S : SlT P t e nb z] (x : AVal) : aBin P t .eql x (.cap0 true) = (nilB x).map B := by
  obtain ⟨⟨T, hT, hTe⟩, _⟩ := S
  cases x <;> simp [aBin, hT, hTe, nilB]
theorem neq_nil [S : SlT P t e nb z] (x : AVal) : aBin P t .neq x (.cap0 true) = (nilB x).map fun b => B (!b) := by
  obtain ⟨⟨T, hT, hTe⟩, _⟩ := S
  cases x <;> simp [aBin, hT, hTe, nilB]
theorem nilB_list (p b : Bool) (n : Nat) (cs : List AVal) : nilB (.list p b n cs) = some b := _root_.id rfl
theorem nilB_cap0 (b : Bool) : nilB (.cap0 b) = some b := _root_.id rfl
theorem nilB_res (k : Nat) : nilB (.res k) = some true := _root_.id rfl
theorem nilB_ref (id off n ext : Nat) : nilB (.ref id off n ext) = some false := _root_.id rfl
theorem nilB_lit (n : Nat) (cs : List AVal) : nilB (.lit n cs) = some false := _root_.id rfl
theorem slice_hi [S : SlT P t e nb z] {p b : Bool} {l : List Int} {n : Nat} {k : IntKind} {c : Int} (hn : n = l.length) (h0 : 0 ≤ c) (h1 : c ≤ n) :
    aSlice P t h (.list p b n (ints l)) none (some (.val (.int k c))) none = some (.list p b (l.take c.toNat).length (ints (l.take c.toNat))) := by
  obtain ⟨⟨T, hT, hTe⟩, E, hE, g1, g2, g3, g4⟩ := S
  subst hn
  simp only [aSlice, hT, hTe, hE, sview_list, optInt]
  rw [if_pos ⟨by omega, h0, h1, by omega⟩]
  simp [g1, ints, List.map_take]
  omega
theorem slice_lo [S : SlT P t e nb z] {p b : Bool} {l : List Int} {n : Nat} {k : IntKind} {c : Int} (hn : n = l.length) (h0 : 0 ≤ c) (h1 : c ≤ n) :
    aSlice P t h (.list p b n (ints l)) (some (.val (.int k c))) none none = some (.list p b (l.drop c.toNat).length (ints (l.drop c.toNat))) := by
  obtain ⟨⟨T, hT, hTe⟩, E, hE, g1, g2, g3, g4⟩ := S
  subst hn
  simp only [aSlice, hT, hTe, hE, sview_list, optInt]
  rw [if_pos ⟨h0, h1, by omega, by omega⟩]
  have : ((l.length : Int) - c).toNat = (l.drop c.toNat).length := by simp; omega
  rw [this, g1]
  simp [ints, List.map_drop]
  rw [List.take_of_length_le (by simp)]
theorem sl_ref_lo [S : SlT P t e nb z] {id off n ext : Nat} {k : IntKind} {c : Int} (h0 : 0 ≤ c) (h1 : c < n) :
    aSlice P t h (.ref id off n ext) (some (.val (.int k c))) none none = (cA h[id]? ext).map fun _ => .ref id (off + c.toNat) (n - c.toNat) ext := by
  obtain ⟨⟨T, hT, hTe⟩, E, hE, g1, g2, g3, g4⟩ := S
  simp only [aSlice, hT, hTe, hE, sview, optInt, g1, cellsAt_eq]
  cases hc : cA h[id]? ext with
  | none => simp
  | some cs =>
    simp only [Option.map_some, Nat.mul_one]
    rw [if_pos ⟨h0, by omega, Int.le_refl _, by rw [g1]; decide⟩, if_neg (by omega)]
    rw [show ((n : Int) - c).toNat = n - c.toNat by omega, g1, Nat.mul_one]
theorem sl_ref_hi [S : SlT P t e nb z] {id off n ext : Nat} {k : IntKind} {c : Int} (h0 : 0 < c) (h1 : c ≤ n) :
    aSlice P t h (.ref id off n ext) none (some (.val (.int k c))) none = (cA h[id]? ext).map fun _ => .ref id off c.toNat ext := by
  obtain ⟨⟨T, hT, hTe⟩, E, hE, g1, g2, g3, g4⟩ := S
  simp only [aSlice, hT, hTe, hE, sview, optInt, g1, cellsAt_eq]
  cases hc : cA h[id]? ext with
  | none => simp
  | some cs =>
    simp only [Option.map_some, Nat.mul_one]
    rw [if_pos ⟨Int.le_refl _, by omega, h1, by rw [g1]; decide⟩, if_neg (by omega)]
    simp
theorem splice_eq (cells : List AVal) (off : Nat) (vs : List AVal) (hl : off + vs.length ≤ cells.length) : splice cells off vs = cells.take off ++ vs ++ cells.drop (off + vs.length) := by
  unfold splice
  split
  · rename_i v
    simp only [List.length_singleton] at hl ⊢
    rw [List.set_eq_take_append_cons_drop, if_pos (by omega)]
    simp
  · rfl
def over (l : List Int) (off : Nat) (v : List Int) : List Int := l.take off ++ v ++ l.drop (off + v.length)
theorem copy_ints_at [S : SlT P t e nb z] {id off n ext m : Nat} {x : AVal} {ty es : Nat} {l l' : List Int} (ho : h[id]? = some ⟨ty, es, ints l'⟩) (hty : ty ≠ 1000003) (hl : l'.length = ext) (hx : sview h x = some (m, ints l)) (hm : m ≤ l.length) (h0 : Nat.min m n ≠ 0) (hfit : off + Nat.min m n ≤ ext) :
    aCopy P t h (.ref id off n ext) x = some (.val (.int .i64 (Nat.min m n)), h.set id ⟨ty, es, ints (over l' off (l.take (Nat.min m n)))⟩) := by
  obtain ⟨⟨T, hT, hTe⟩, E, hE, g1, g2, g3, g4⟩ := S
  have hk : Nat.min m n ≤ l.length := Nat.le_trans (Nat.min_le_left _ _) hm
  have hd : sview h (.ref id off n ext) = some (n, (ints l').drop off) := by
    simp [sview, cellsAt, ho, ints_length, hl]
  have e1 : ((ints l).take (Nat.min m n)).length = Nat.min m n := by rw [List.length_take, ints_length]; omega
  have e2 : ((ints l).take (Nat.min m n)).all AVal.one = true := by rw [ints_take]; exact ints_one _
  simp only [aCopy, hT, hTe, hE, hd, hx, g1, Nat.mul_one, ho]
  rw [if_neg h0, if_pos ⟨hty, by rw [ints_length]; exact hl, e1, hfit, e2⟩]
  rw [splice_eq _ _ _ (by rw [e1, ints_length, hl]; exact hfit), e1]
  congr 4
  simp only [over, ← ints_append, ints_take, ints_drop, List.length_take, Nat.min_eq_left hk]
theorem min_int (k : IntKind) (a b : Int) : aMinMax false [.val (.int k a), .val (.int k b)] = some (.val (.int k (min a b))) := by
  simp only [aMinMax]; rw [Int.min_def]; simp; omega
theorem max_int (k : IntKind) (a b : Int) : aMinMax true [.val (.int k a), .val (.int k b)] = some (.val (.int k (max a b))) := by
  simp only [aMinMax]; rw [Int.max_def]; simp; omega
theorem rem_int (k : IntKind) {a b : Int} (h0 : 0 ≤ a) (h1 : 0 < b) : aInt .rem k a b = some (.val (.int k ((a.toNat % b.toNat : Nat) : Int))) := by
  rw [aInt_rem k a b (by omega), Int.tmod_eq_emod_of_nonneg h0]
  congr 3
  rw [Int.natCast_emod, Int.toNat_of_nonneg h0, Int.toNat_of_nonneg (by omega)]
theorem quo_int {a b : Int} (h0 : 0 ≤ a) (h1 : 0 < b) (h2 : a ≤ 9223372036854775807) : aInt .quo .i64 a b = some (.val (.int .i64 ((a.toNat / b.toNat : Nat) : Int))) := by
  have e : a.tdiv b = ((a.toNat / b.toNat : Nat) : Int) := by
    rw [Int.natCast_ediv, Int.toNat_of_nonneg h0, Int.toNat_of_nonneg (by omega), Int.tdiv_eq_ediv_of_nonneg h0]
  have hle : a.toNat / b.toNat ≤ a.toNat := Nat.div_le_self _ _
  simp only [aInt]
  rw [if_neg (by omega), e]
  generalize a.toNat / b.toNat = q at *
  rw [wrap_id (by omega) (by omega)]
theorem map_ren_bools {f : Nat → Option Nat} {n : Nat} (l : List Bool) : (bools l).map (ren f (n + 1)) = bools l := by simp [bools, ren]
theorem map_ren_ints {f : Nat → Option Nat} {n : Nat} (l : List Int) : (ints l).map (ren f (n + 1)) = ints l := by simp [ints, ren]
theorem ren_val {f : Nat → Option Nat} {n : Nat} (v : Value) : ren f (n + 1) (.val v) = .val v := _root_.id rfl
theorem ren_agg {f : Nat → Option Nat} {n : Nat} (cs : List AVal) : ren f (n + 1) (.agg cs) = .agg (cs.map (ren f n)) := _root_.id rfl
theorem ren_tuple {f : Nat → Option Nat} {n : Nat} (cs : List AVal) : ren f (n + 1) (.tuple cs) = .tuple (cs.map (ren f n)) := _root_.id rfl
theorem ren_list {f : Nat → Option Nat} {n : Nat} (p b : Bool) (k : Nat) (cs : List AVal) : ren f (n + 1) (.list p b k cs) = .list p b k (cs.map (ren f n)) := _root_.id rfl
theorem ren_cap0 {f : Nat → Option Nat} {n : Nat} (b : Bool) : ren f (n + 1) (.cap0 b) = .cap0 b := _root_.id rfl
def rnX (x : Option Nat) (off k ext : Nat) : AVal := match x with | some id => .ref id off k ext | none => .undef
theorem ren_ref {f : Nat → Option Nat} {n : Nat} (id off k ext : Nat) : ren f (n + 1) (.ref id off k ext) = rnX (f id) off k ext := by simp only [ren, rnX] <;> cases f id <;> rfl
theorem rnX_some (id off k ext : Nat) : rnX (some id) off k ext = .ref id off k ext := _root_.id rfl
def rgX (x : Option Nat) (b : Bool) (xs : List AVal) : AVal := match x with | some id => gw b id xs | none => match xs with | [] => .cap0 b | _ :: _ => .undef
theorem ren_gw {f : Nat → Option Nat} {n k : Nat} {b : Bool} (xs : List AVal) : ren f (n + 1) (gw b k xs) = rgX (f k) b xs := by
  cases xs with
  | nil =>
    cases b with
    | true =>
      show ren f (n + 1) (.res k) = _
      simp only [ren, rgX, gw] <;> cases f k <;> rfl
    | false =>
      show ren f (n + 1) (.cap0 false) = _
      simp only [ren, rgX, gw] <;> cases f k <;> rfl
  | cons x xr =>
    simp only [gw, ren, rgX] <;> cases f k <;> rfl
theorem rgX_some (id : Nat) (b : Bool) (xs : List AVal) : rgX (some id) b xs = gw b id xs := _root_.id rfl
theorem ren_spot {f : Nat → Option Nat} {n : Nat} (p : Bool) (cs : List AVal) : ren f (n + 1) (.spot p cs) = .spot p (cs.map (ren f n)) := _root_.id rfl
theorem ren_func {f : Nat → Option Nat} {n : Nat} (fn : Fn) (fs cs : List AVal) : ren f (n + 1) (.func fn fs cs) = .func fn (fs.map (ren f n)) (cs.map (ren f n)) := _root_.id rfl
def rpX (x : Option Nat) (off ext : Nat) : AVal := match x with | some id => .ptr id off ext | none => .undef
theorem ren_ptr {f : Nat → Option Nat} {n : Nat} (id off ext : Nat) : ren f (n + 1) (.ptr id off ext) = rpX (f id) off ext := by simp only [ren, rpX] <;> cases f id <;> rfl
theorem rpX_some (id off ext : Nat) : rpX (some id) off ext = .ptr id off ext := _root_.id rfl
theorem renO_mk {f : Nat → Option Nat} {n ty es : Nat} {cs : List AVal} : renO f n ⟨ty, es, cs⟩ = ⟨ty, es, cs.map (ren f n)⟩ := _root_.id rfl
theorem renO_go {f : Nat → Option Nat} {n e : Nat} {xs : List AVal} : renO f n (go e xs) = go e (xs.map (ren f n)) := by cases xs <;> rfl
theorem gw_pos {b : Bool} {k : Nat} {xs : List AVal} (hx : 0 < xs.length) : gw b k xs = .ref k 0 xs.length xs.length := by
  cases xs with
  | nil => simp at hx
  | cons x xr => rfl
theorem go_pos {e : TypeId} {xs : List AVal} (hx : 0 < xs.length) : go e xs = ⟨e, 1, xs⟩ := by
  cases xs with
  | nil => simp at hx
  | cons x xr => rfl
theorem okT {p : Prop} [Decidable p] (h : p) : some (B true) = some (B (decide p)) := by simp [h]
theorem okF {p : Prop} [Decidable p] (h : ¬ p) : some (B false) = some (B (decide p)) := by simp [h]
end
theorem RP : type_of% @awp_skip ∧ type_of% @awp_scope ∧ type_of% @awp_label ∧ type_of% @awp_rangeK ∧ type_of% @awp_region_n ∧ type_of% @awp_region_d ∧ type_of% @awp_seq ∧ type_of% @awp_loopK ∧ type_of% @opK_callK ∧ type_of% @awp_cond ∧ type_of% @awp_block ∧ type_of% @awp_exit ∧ type_of% @awp_ret ∧ type_of% @awpList_nil ∧ type_of% @awpList_plain ∧ type_of% @awpList_none ∧ type_of% @awpList_guard ∧ type_of% @awpList_guardN ∧ type_of% @dstAt_zero ∧ type_of% @dstAt_succ ∧ type_of% @opK_move ∧ type_of% @opK_assign ∧ type_of% @opK_binOp ∧ type_of% @opK_pick ∧ type_of% @opK_not ∧ type_of% @opK_convert ∧ type_of% @opK_load ∧ type_of% @opK_indexAddr ∧ type_of% @opK_extract ∧ type_of% @opK_min ∧ type_of% @opK_max ∧ type_of% @opK_append ∧ type_of% @opK_makeSlice ∧ type_of% @opK_store ∧ type_of% @opK_slice ∧ type_of% @opK_slice3 ∧ type_of% @opK_alloc ∧ type_of% @opK_box ∧ type_of% @opK_build ∧ type_of% @opK_fieldAddr ∧ type_of% @opK_field ∧ type_of% @opK_makeFunc ∧ type_of% @opK_nilCheck ∧ type_of% @ev_tmp ∧ type_of% @ev_const ∧ type_of% @ev_func ∧ type_of% @look_cons ∧ type_of% @keep_def ∧ type_of% @keepEnv_cons ∧ type_of% @keepEnv_nil ∧ type_of% @opK_len1 ∧ type_of% @opK_lit0 ∧ type_of% @opK_lit1 ∧ type_of% @opK_lit2 ∧ type_of% @opK_lit3 ∧ type_of% @opK_lit4 ∧ type_of% @opK_lit5 ∧ type_of% @opK_lit6 ∧ type_of% @opK_lit7 ∧ type_of% @opK_litM ∧ type_of% @lenM :=
  ⟨@awp_skip, @awp_scope, @awp_label, @awp_rangeK, @awp_region_n, @awp_region_d, @awp_seq, @awp_loopK, @opK_callK, @awp_cond, @awp_block, @awp_exit, @awp_ret, @awpList_nil, @awpList_plain, @awpList_none, @awpList_guard, @awpList_guardN, @dstAt_zero, @dstAt_succ, @opK_move, @opK_assign, @opK_binOp, @opK_pick, @opK_not, @opK_convert, @opK_load, @opK_indexAddr, @opK_extract, @opK_min, @opK_max, @opK_append, @opK_makeSlice, @opK_store, @opK_slice, @opK_slice3, @opK_alloc, @opK_box, @opK_build, @opK_fieldAddr, @opK_field, @opK_makeFunc, @opK_nilCheck, @ev_tmp, @ev_const, @ev_func, @look_cons, @keep_def, @keepEnv_cons, @keepEnv_nil, @opK_len1, @opK_lit0, @opK_lit1, @opK_lit2, @opK_lit3, @opK_lit4, @opK_lit5, @opK_lit6, @opK_lit7, @opK_litM, @lenM⟩
theorem RG : type_of% @bindK_some ∧ type_of% @condK_t ∧ type_of% @condK_f ∧ type_of% @guardK_tt ∧ type_of% @guardK_tf ∧ type_of% @guardK_ft ∧ type_of% @guardK_ff ∧ type_of% @guardK_undef ∧ type_of% @beq_t ∧ type_of% @beq_f ∧ type_of% @bne_t ∧ type_of% @bne_f ∧ type_of% @allOne_nil ∧ type_of% @allOne_int ∧ type_of% @allOne_bool ∧ type_of% @allOne_list ∧ type_of% @ofConst_int ∧ type_of% @ofConst_bool ∧ type_of% @ofConst_nil ∧ type_of% @aBin_int ∧ type_of% @aInt_lss ∧ type_of% @aInt_leq ∧ type_of% @aInt_gtr ∧ type_of% @aInt_geq ∧ type_of% @aInt_eql ∧ type_of% @aInt_neq ∧ type_of% @aInt_add ∧ type_of% @aInt_mul ∧ type_of% @aInt_sub ∧ type_of% @min_int ∧ type_of% @max_int ∧ type_of% @rem_int ∧ type_of% @spF_false ∧ type_of% @spF_spot ∧ type_of% @ldF_false ∧ type_of% @lnF_false ∧ type_of% @lnF_list ∧ type_of% @ldF_spot ∧ type_of% @ldF_ptr ∧ type_of% @stF_ptr ∧ type_of% @effS_l ∧ type_of% @effS_D ∧ type_of% @apF_false ∧ type_of% @apF_true ∧ type_of% @effS_f ∧ type_of% @apN_false ∧ type_of% @apN_cap0 ∧ type_of% @apN_lit ∧ type_of% @effS_n ∧ type_of% @cellsAt_eq ∧ type_of% @cA_ints ∧ type_of% @cA_bools ∧ type_of% @cA_1 ∧ type_of% @cA_2 ∧ type_of% @cA_3 ∧ type_of% @cA_4 ∧ type_of% @cA_5 ∧ type_of% @cA_6 ∧ type_of% @cA_7 ∧ type_of% @hAt_app ∧ type_of% @hAt_app0 ∧ type_of% @hSet_app ∧ type_of% @hSet_app0 ∧ type_of% @sview_list ∧ type_of% @sview_lit ∧ type_of% @sview_cap0 ∧ type_of% @sview_ref ∧ type_of% @sview_res ∧ type_of% @sview_gw ∧ type_of% @gS_go ∧ type_of% @cA_go ∧ type_of% @pview_ptr ∧ type_of% @pview_spot ∧ type_of% @fX_spot ∧ type_of% @fX_ptr ∧ type_of% @aPart_eq ∧ type_of% @pX_one ∧ type_of% @pX_agg ∧ type_of% @get_ints ∧ type_of% @get_ints0 ∧ type_of% @get_bools ∧ type_of% @get_bools0 ∧ type_of% @aStore_eq ∧ type_of% @sX_int ∧ type_of% @sX_bool ∧ type_of% @sX_cons ∧ type_of% @splice_1 ∧ type_of% @splice_2 ∧ type_of% @parts_int ∧ type_of% @parts_bool ∧ type_of% @parts_str ∧ type_of% @parts_agg ∧ type_of% @parts_list ∧ type_of% @parts_ref ∧ type_of% @parts_ptr ∧ type_of% @parts_cap0 ∧ type_of% @parts_res ∧ type_of% @parts_lit ∧ type_of% @parts_spot ∧ type_of% @parts_func ∧ type_of% @parts_gw ∧ type_of% @one_int ∧ type_of% @one_bool ∧ type_of% @one_str ∧ type_of% @one_list ∧ type_of% @one_ref ∧ type_of% @one_ptr ∧ type_of% @one_cap0 ∧ type_of% @one_res ∧ type_of% @one_lit ∧ type_of% @one_spot ∧ type_of% @one_func ∧ type_of% @one_gw ∧ type_of% @bX_mk ∧ type_of% @aFill_nil ∧ type_of% @aFill_cons ∧ type_of% @fiX_mk ∧ type_of% @alX_mk ∧ type_of% @boX_mk ∧ type_of% @boF_false ∧ type_of% @boF_mk ∧ type_of% @faX_mk ∧ type_of% @ncX_spot ∧ type_of% @ncX_func ∧ type_of% @ncX_ptr ∧ type_of% @nilB_list ∧ type_of% @nilB_cap0 ∧ type_of% @nilB_res ∧ type_of% @nilB_ref ∧ type_of% @nilB_lit ∧ type_of% @nilB_gw ∧ type_of% @bools_length ∧ type_of% @ints_length ∧ type_of% @wrap_id ∧ type_of% @idx_list_ok ∧ type_of% @idx_lit_ok ∧ type_of% @idx_own ∧ type_of% @idx_gw ∧ type_of% @eql_nil ∧ type_of% @neq_nil ∧ type_of% @slice_hi ∧ type_of% @slice_lo ∧ type_of% @aBin_beq ∧ type_of% @aBin_bne ∧ type_of% @idxM_list ∧ type_of% @idxM_lit ∧ type_of% @eqlAgg ∧ type_of% @neqAgg ∧ type_of% @eqInts_nil ∧ type_of% @eqInts_cons ∧ type_of% @effS_z ∧ type_of% @effS_zc ∧ type_of% @effS_zf ∧ type_of% @slF_false ∧ type_of% @slF_list ∧ type_of% @cutB_none ∧ type_of% @aCut_zero ∧ type_of% @stZ_l ∧ type_of% @apZ_false ∧ type_of% @apZ_ref ∧ type_of% @apZ_res ∧ type_of% @stZ_false ∧ type_of% @stZ_true ∧ type_of% @zB_false ∧ type_of% @zB_true :=
  ⟨@bindK_some, @condK_t, @condK_f, @guardK_tt, @guardK_tf, @guardK_ft, @guardK_ff, @guardK_undef, @beq_t, @beq_f, @bne_t, @bne_f, @allOne_nil, @allOne_int, @allOne_bool, @allOne_list, @ofConst_int, @ofConst_bool, @ofConst_nil, @aBin_int, @aInt_lss, @aInt_leq, @aInt_gtr, @aInt_geq, @aInt_eql, @aInt_neq, @aInt_add, @aInt_mul, @aInt_sub, @min_int, @max_int, @rem_int, @spF_false, @spF_spot, @ldF_false, @lnF_false, @lnF_list, @ldF_spot, @ldF_ptr, @stF_ptr, @effS_l, @effS_D, @apF_false, @apF_true, @effS_f, @apN_false, @apN_cap0, @apN_lit, @effS_n, @cellsAt_eq, @cA_ints, @cA_bools, @cA_1, @cA_2, @cA_3, @cA_4, @cA_5, @cA_6, @cA_7, @hAt_app, @hAt_app0, @hSet_app, @hSet_app0, @sview_list, @sview_lit, @sview_cap0, @sview_ref, @sview_res, @sview_gw, @gS_go, @cA_go, @pview_ptr, @pview_spot, @fX_spot, @fX_ptr, @aPart_eq, @pX_one, @pX_agg, @get_ints, @get_ints0, @get_bools, @get_bools0, @aStore_eq, @sX_int, @sX_bool, @sX_cons, @splice_1, @splice_2, @parts_int, @parts_bool, @parts_str, @parts_agg, @parts_list, @parts_ref, @parts_ptr, @parts_cap0, @parts_res, @parts_lit, @parts_spot, @parts_func, @parts_gw, @one_int, @one_bool, @one_str, @one_list, @one_ref, @one_ptr, @one_cap0, @one_res, @one_lit, @one_spot, @one_func, @one_gw, @bX_mk, @aFill_nil, @aFill_cons, @fiX_mk, @alX_mk, @boX_mk, @boF_false, @boF_mk, @faX_mk, @ncX_spot, @ncX_func, @ncX_ptr, @nilB_list, @nilB_cap0, @nilB_res, @nilB_ref, @nilB_lit, @nilB_gw, @bools_length, @ints_length, @wrap_id, @idx_list_ok, @idx_lit_ok, @idx_own, @idx_gw, @eql_nil, @neq_nil, @slice_hi, @slice_lo, @aBin_beq, @aBin_bne, @idxM_list, @idxM_lit, @eqlAgg, @neqAgg, @eqInts_nil, @eqInts_cons, @effS_z, @effS_zc, @effS_zf, @slF_false, @slF_list, @cutB_none, @aCut_zero, @stZ_l, @apZ_false, @apZ_ref, @apZ_res, @stZ_false, @stZ_true, @zB_false, @zB_true⟩
theorem RA : type_of% @argOf_gw ∧ type_of% @gaA_go ∧ type_of% @argOf_ref ∧ type_of% @aX_ints ∧ type_of% @aX_bools ∧ type_of% @argOf_ptr ∧ type_of% @apX_mk ∧ type_of% @argOf_int ∧ type_of% @argOf_val ∧ type_of% @argOf_cap0 ∧ type_of% @argOf_res ∧ type_of% @argOf_lit ∧ type_of% @argOf_list ∧ type_of% @argOf_spot ∧ type_of% @argOf_agg ∧ type_of% @argOf_func ∧ type_of% @ints_arg ∧ type_of% @bools_arg :=
  ⟨@argOf_gw, @gaA_go, @argOf_ref, @aX_ints, @aX_bools, @argOf_ptr, @apX_mk, @argOf_int, @argOf_val, @argOf_cap0, @argOf_res, @argOf_lit, @argOf_list, @argOf_spot, @argOf_agg, @argOf_func, @ints_arg, @bools_arg⟩
theorem RS : type_of% @raX_tmp ∧ type_of% @raX_cell ∧ type_of% @rvX_0 ∧ type_of% @rvX_1 ∧ type_of% @rvX_2 ∧ type_of% @rvX_3 ∧ type_of% @rvX_4 ∧ type_of% @rvX_5 ∧ type_of% @resOf_gw ∧ type_of% @gaR_go ∧ type_of% @resOf_ref ∧ type_of% @rX_ints ∧ type_of% @rX_bools ∧ type_of% @resOf_val ∧ type_of% @resOf_cap0 ∧ type_of% @resOf_res ∧ type_of% @resOf_lit ∧ type_of% @resOf_list ∧ type_of% @resOf_agg ∧ type_of% @resOf_tuple ∧ type_of% @resOf_func ∧ type_of% @ints_res ∧ type_of% @bools_res :=
  ⟨@raX_tmp, @raX_cell, @rvX_0, @rvX_1, @rvX_2, @rvX_3, @rvX_4, @rvX_5, @resOf_gw, @gaR_go, @resOf_ref, @rX_ints, @rX_bools, @resOf_val, @resOf_cap0, @resOf_res, @resOf_lit, @resOf_list, @resOf_agg, @resOf_tuple, @resOf_func, @ints_res, @bools_res⟩
theorem RK : type_of% @ren_val ∧ type_of% @ren_agg ∧ type_of% @ren_tuple ∧ type_of% @ren_list ∧ type_of% @ren_cap0 ∧ type_of% @ren_ref ∧ type_of% @rnX_some ∧ type_of% @ren_gw ∧ type_of% @rgX_some ∧ type_of% @renO_mk ∧ type_of% @renO_go ∧ type_of% @map_ren_bools ∧ type_of% @map_ren_ints ∧ type_of% @ren_spot ∧ type_of% @ren_func ∧ type_of% @ren_ptr ∧ type_of% @rpX_some ∧ type_of% @keepF_at ∧ type_of% @keepF_at0 ∧ type_of% @keepF_lo :=
  ⟨@ren_val, @ren_agg, @ren_tuple, @ren_list, @ren_cap0, @ren_ref, @rnX_some, @ren_gw, @rgX_some, @renO_mk, @renO_go, @map_ren_bools, @map_ren_ints, @ren_spot, @ren_func, @ren_ptr, @rpX_some, @keepF_at, @keepF_at0, @keepF_lo⟩
theorem RQ : type_of% @decide_eq_true ∧ type_of% @decide_eq_false ∧ type_of% @Bool.not_true ∧ type_of% @Bool.not_false ∧ type_of% @Option.map_some.{0, 0} ∧ type_of% @List.map_cons.{0, 0} ∧ type_of% @List.map_nil.{0, 0} ∧ type_of% @List.getElem?_cons_zero.{0} ∧ type_of% @List.getElem?_cons_succ.{0} ∧ type_of% @decide_eq_true_eq ∧ type_of% @decide_eq_false_iff_not ∧ type_of% @Option.map_none.{0, 0} ∧ type_of% @Option.bind_some.{0, 0} ∧ type_of% @List.contains_nil.{0} ∧ type_of% @List.contains_cons.{0} ∧ type_of% @Bool.or_false ∧ type_of% @Bool.false_or ∧ type_of% @Bool.or_self ∧ type_of% @List.set_cons_zero.{0} ∧ type_of% @List.set_cons_succ.{0} ∧ type_of% @List.take_succ_cons.{0} ∧ type_of% @List.take_zero.{0} ∧ type_of% @List.drop_succ_cons.{0} ∧ type_of% @List.drop_zero.{0} ∧ type_of% @List.length_cons.{0} ∧ type_of% @List.length_nil.{0} ∧ type_of% @List.length_append.{0} ∧ type_of% @List.all_cons.{0} ∧ type_of% @List.all_nil.{0} ∧ type_of% @Bool.and_true ∧ type_of% @and_true ∧ type_of% @true_and ∧ type_of% @and_self ∧ type_of% @ne_eq.{1} ∧ type_of% @not_false_eq_true ∧ type_of% @List.cons_append.{0} ∧ type_of% @List.nil_append.{0} ∧ type_of% @List.append_nil.{0} ∧ type_of% @List.append_assoc.{0} ∧ type_of% @Nat.zero_add ∧ type_of% @Nat.add_zero ∧ type_of% @Int.toNat_natCast :=
  ⟨@decide_eq_true, @decide_eq_false, @Bool.not_true, @Bool.not_false, @Option.map_some.{0, 0}, @List.map_cons.{0, 0}, @List.map_nil.{0, 0}, @List.getElem?_cons_zero.{0}, @List.getElem?_cons_succ.{0}, @decide_eq_true_eq, @decide_eq_false_iff_not, @Option.map_none.{0, 0}, @Option.bind_some.{0, 0}, @List.contains_nil.{0}, @List.contains_cons.{0}, @Bool.or_false, @Bool.false_or, @Bool.or_self, @List.set_cons_zero.{0}, @List.set_cons_succ.{0}, @List.take_succ_cons.{0}, @List.take_zero.{0}, @List.drop_succ_cons.{0}, @List.drop_zero.{0}, @List.length_cons.{0}, @List.length_nil.{0}, @List.length_append.{0}, @List.all_cons.{0}, @List.all_nil.{0}, @Bool.and_true, @and_true, @true_and, @and_self, @ne_eq.{1}, @not_false_eq_true, @List.cons_append.{0}, @List.nil_append.{0}, @List.append_nil.{0}, @List.append_assoc.{0}, @Nat.zero_add, @Nat.add_zero, @Int.toNat_natCast⟩
theorem RH : type_of% @hAt_app ∧ type_of% @hAt_app0 ∧ type_of% @List.getElem?_cons_zero.{0} ∧ type_of% @List.getElem?_cons_succ.{0} :=
  ⟨@hAt_app, @hAt_app0, @List.getElem?_cons_zero.{0}, @List.getElem?_cons_succ.{0}⟩
end Go.AW
namespace Go.AW
open Go Go.RowKit
theorem Contract.law {P : Program} {f : FuncId} {args : List AVal} (h : Contract P f args (B true)) (vs : Array Value) (w : World) (hs : vs.size = args.length)
    (hv : ∀ j (hj : j < args.length), VRel (fun b => b < w.heap.size) (fun _ => False) w (fun _ => (0, 0)) (fun _ => none) args[j] (vs.getD j undef)) (ht : ∀ p ∈ tabs, p.1 < w.heap.size ∧ TabRow w p := by simp [tabs]) :
    Calls P f vs w fun e w' => e = .returned (.bool true) ∧ Below w.heap.size w w' := by
  refine (h.2 w (fun b => b < w.heap.size) vs (fun _ h => h) ht hs hv).mono ?_
  rintro e w' ⟨v, rfl, hv, hb⟩
  cases hv
  exact ⟨rfl, hb⟩
def ArgB (w : World) (v : Value) (b : Bool) (l : List Bool) : Prop :=
  (l = [] ∨ b = false) ∧ l.length ≤ 9223372036854775807 ∧
  VRel (fun b => b < w.heap.size) (fun _ => False) w (fun _ => (0, 0)) (fun _ => none) (.list false b l.length (bools l)) v
theorem argB {P : Program} {w : World} {b0 len cap : Nat} {t e : TypeId} {a : Option Addr} {Z : Nat → Bool} (ht : P.underlying t = some (.slice e)) (hok : Cell.okWide P w .any b0 t (.slice a len cap))
    (h : (a = none ∧ len = 0 ∧ cap = 0) ∨ ∃ x, a = some x ∧ len ≤ cap ∧ cap ≤ maxLen ∧ ∀ i, i < cap → w.cell? (x.add i) = some (.bool (Z i))) :
    ∃ b l, ArgB w (.slice a len cap) b l := by
  rcases h with ⟨rfl, rfl, rfl⟩ | ⟨x, rfl, h1, h2, h3⟩
  · exact ⟨true, [], .inl rfl, by simp, .nil _⟩
  · have hs : x.spot = none := by
      simp only [Cell.okWide, ht, Cell.ok] at hok
      exact hok.2.2.2.1
    obtain ⟨xb, xo, xs⟩ := x
    simp only at hs
    subst hs
    have hcell : ∀ j, j < len → w.cell? ⟨xb, xo + j, none⟩ = some (.bool (Z j)) := fun j hj => by
      have := h3 j (by omega)
      unfold Addr.add at this
      split at this
      · rename_i h0; subst h0; exact this
      · exact this
    have hlen : ((List.range len).map Z).length = len := by simp
    refine ⟨false, (List.range len).map Z, .inr rfl, by rw [hlen]; have : maxLen = 9223372036854775807 := rfl; omega, ?_⟩
    rw [hlen]
    refine .list false xb xo len cap _ (fun j => .bool (Z j)) (fun hne => ?_) (fun h => by cases h) h1 (fun j hj => hcell j (by rw [bools_length, hlen] at hj; exact hj)) (fun j hj => ?_)
    · have hl0 : 0 < len := by
        rcases Nat.eq_zero_or_pos len with h0 | h0
        · subst h0; exact absurd rfl hne
        · exact h0
      have := hcell 0 hl0
      unfold World.cell? at this
      split at this
      · rename_i heq
        exact (Array.getElem?_eq_some_iff.1 heq).1
      · cases this
    · rw [bools_length, hlen] at hj
      have : (bools ((List.range len).map Z))[j]'(by rw [bools_length, hlen]; exact hj) = B (Z j) := by simp [bools]
      rw [this]
      exact .val _
section
variable {H : Type} {enc : TypeId × Value → H} {P : Program} {w : World} {base b0 : Nat} {held : Bool}
def isInt (P : Program) (t : TypeId) : Bool := match P.underlying t with | some (.int .i64) => true | _ => false
def isBoo (P : Program) (t : TypeId) : Bool := match P.underlying t with | some .bool => true | _ => false
def slBB (P : Program) (t : TypeId) : Bool := match P.underlying t with | some (.slice e) => isBoo P e && P.cellsOf e == 1 | _ => false
theorem isInt_some {t : TypeId} (h : isInt P t = true) : P.underlying t = some (.int .i64) := by
  unfold isInt at h; split at h
  · assumption
  · cases h
theorem isBoo_some {t : TypeId} (h : isBoo P t = true) : P.underlying t = some .bool := by
  unfold isBoo at h; split at h
  · assumption
  · cases h
def inI (n : Int) : Prop := -9223372036854775808 ≤ n ∧ n ≤ 9223372036854775807
theorem cell_int {t : TypeId} {c : Value} (ht : isInt P t = true) (hc : Cell.okWide P w .any b0 t c) : ∃ n, c = .int .i64 n ∧ inI n := by
  have hu := isInt_some ht
  unfold Cell.okWide at hc
  rw [hu] at hc
  simp only [Cell.ok, hu] at hc
  cases c <;> simp at hc
  case int k n =>
    obtain ⟨rfl, h1, h2⟩ := hc
    exact ⟨n, rfl, h1, h2⟩
theorem cell_slB {t : TypeId} {c : Value} {n : Nat} {y : DataW H × List MemPlace} (ht : slBB P t = true) (hc : Cell.okWide P w .any b0 t c) (hr : DataW.trod enc P w base (fun _ => true) held n t [c] = some y) : ∃ b l, ArgB w c b l := by
  unfold slBB at ht
  split at ht
  · rename_i e hu
    simp only [Bool.and_eq_true, beq_iff_eq] at ht
    rcases Go.Deep.open_bools hu (isBoo_some ht.1) ht.2 hr with ⟨hcs, _⟩ | ⟨x, l, cp, Z, hcs, _, hl, hm, _, hcell⟩
    · simp at hcs; subst hcs
      exact argB (Z := fun _ => false) hu hc (.inl ⟨rfl, rfl, rfl⟩)
    · simp at hcs; subst hcs
      exact argB (Z := Z) hu hc (.inr ⟨_, rfl, hl, hm, hcell⟩)
  · cases ht
theorem st_open {t : TypeId} {fs : Array Field} {ts : List TypeId} {v : Value} (hu : P.underlying t = some (.struct fs)) (hct : P.cellTypes P.depth t = some ts) (hv : Value.okWide P w .any b0 t v) :
    ∃ cs, v = .agg cs ∧ cs.size = P.cellsOf t ∧ ∀ (i : Nat) (u : TypeId) (c : Value), ts[i]? = some u → cs[i]? = some c → Cell.okWide P w .any b0 u c := by
  unfold Value.okWide at hv
  rw [hu] at hv
  obtain ⟨cs, rfl, hs, ts', h1, _, h3⟩ := hv
  rw [hct] at h1; cases h1
  refine ⟨cs, rfl, hs, fun i u c hi hc => ?_⟩
  have hlt := (List.getElem?_eq_some_iff.1 hi).1
  obtain ⟨u', h4, h5⟩ := h3 i c hc
  rw [Nat.mod_eq_of_lt hlt, hi] at h4; cases h4
  exact h5
def gridB (P : Program) (t : TypeId) : Bool := match P.underlying t with
  | some (.struct fs) => match fs.toList with
    | [f0, f1, f2] => isInt P f0.type && isInt P f1.type && slBB P f2.type && f2.offset == 2 && P.cellsOf f2.type == 1 && P.cellsOf t == 3 && decide (P.cellTypes P.depth t = some [f0.type, f1.type, f2.type])
    | _ => false
  | _ => false
def ArgG (w : World) (v : Value) (wd hg : Int) (b : Bool) (l : List Bool) : Prop :=
  inI wd ∧ inI hg ∧ l.length ≤ 9223372036854775807 ∧ VRel (fun b => b < w.heap.size) (fun _ => False) w (fun _ => (0, 0)) (fun _ => none) (.agg [I wd, I hg, .list false b l.length (bools l)]) v
theorem grid_read {t : TypeId} (ht : gridB P t = true) : ∃ f0 f1 f2, P.underlying t = some (.struct #[f0, f1, f2]) ∧ isInt P f0.type = true ∧ isInt P f1.type = true ∧ slBB P f2.type = true ∧ f2.offset = 2 ∧ P.cellsOf f2.type = 1 ∧ P.cellsOf t = 3 ∧ P.cellTypes P.depth t = some [f0.type, f1.type, f2.type] := by
  unfold gridB at ht
  split at ht
  · rename_i fs hu
    split at ht
    · rename_i f0 f1 f2 hl
      simp only [Bool.and_eq_true, beq_iff_eq, decide_eq_true_eq] at ht
      obtain ⟨⟨⟨⟨⟨⟨a1, a2⟩, a3⟩, a4⟩, a5⟩, a6⟩, a7⟩ := ht
      refine ⟨f0, f1, f2, ?_, a1, a2, a3, a4, a5, a6, a7⟩
      rw [hu]; congr 2
      rw [← Array.toArray_toList (xs := fs), hl]
    · cases ht
  · cases ht
theorem arr3 {cs : Array Value} (h : cs.size = 3) : ∃ a b c, cs = #[a, b, c] := by
  obtain ⟨l⟩ := cs
  match l, h with
  | [a, b, c], _ => exact ⟨a, b, c, rfl⟩
theorem grid_open {t : TypeId} {v : Value} {d : DataW H} {ps : List MemPlace} (ht : gridB P t = true) (hv : Value.okWide P w .any b0 t v) (hr : DataW.Trod enc P w base (fun _ => true) held t v d ps) : ∃ wd hg b l, ArgG w v wd hg b l := by
  obtain ⟨f0, f1, f2, hu, a1, a2, a3, a4, a5, a6, a7⟩ := grid_read ht
  obtain ⟨cs, rfl, hs, hc⟩ := st_open hu a7 hv
  obtain ⟨c0, c1, c2, rfl⟩ := arr3 (hs.trans a6)
  obtain ⟨n0, rfl, i0⟩ := cell_int a1 (hc 0 _ _ rfl rfl)
  obtain ⟨n1, rfl, i1⟩ := cell_int a2 (hc 1 _ _ rfl rfl)
  obtain ⟨fuel, hf⟩ := hr
  obtain ⟨xs, n, _, _, _, _, hfl⟩ := DataW.trod_struct hu hf
  have h2 := hfl 2 f2 rfl
  simp only [Value.cells, a4, a5] at h2
  have hxs : ∃ y, xs[2]? = some y := by
    rename_i hlen
    exact ⟨xs[2]'(by rw [hlen]; simp), by simp⟩
  obtain ⟨y, hy⟩ := hxs
  rw [hy] at h2
  obtain ⟨b, l, hb, hl, hrel⟩ := cell_slB a3 (hc 2 _ _ rfl rfl) (by simpa using h2)
  refine ⟨n0, n1, b, l, i0, i1, hl, .agg _ _ rfl fun j hj => ?_⟩
  match j, hj with
  | 0, _ => exact .val _
  | 1, _ => exact .val _
  | 2, _ => exact hrel
end
end Go.AW
namespace Go.AW
open Go Go.RowKit
section
variable {P : Program} {ok fr : Nat → Prop} {w : World} {β : Nat → Nat × Nat} {len : Nat → Option Nat}
inductive Fits : AVal → Prop → Prop
  | nil (p b : Bool) (n : Nat) (cs : List AVal) : Fits (.list p b n cs) (b = true → n = 0 ∧ cs = [])
  | any (x : AVal) : Fits x True
  | agg (cs : List AVal) (j : Nat) (x : AVal) (C : Prop) (hj : cs[j]? = some x) (h : Fits x C) : Fits (.agg cs) C
  | and (x : AVal) (C D : Prop) (h1 : Fits x C) (h2 : Fits x D) : Fits x (C ∧ D)
theorem Fits.rel {x : AVal} {C : Prop} (hf : Fits x C) : ∀ {v : Value}, VRel ok fr w β len x v → C := by
  induction hf with
  | nil p b n cs =>
    intro v h hb
    cases h with
    | nil => exact ⟨rfl, rfl⟩
    | list => cases hb
  | any x => intro v _; trivial
  | agg cs j x C hj _ ih =>
    intro v h
    cases h with
    | agg _ vs hs hr =>
      obtain ⟨h1, h2⟩ := List.getElem?_eq_some_iff.1 hj
      have h3 := hr j h1
      rw [h2] at h3
      exact ih h3
  | and x C D _ _ ih1 ih2 => intro v h; exact ⟨ih1 h, ih2 h⟩
end
section
variable {P : Program} {fb fn ff fl fz : Operand → Bool} {fD : Nat → Bool} {fy : Option (Value × (List AVal → List AObj → List AObj → Prop))} {dst : Option Tmp} {ty : TypeId} {pos : String} {after : Array Edge} {g : Option (Nat × Bool)} {ρ : Operand → AVal} {h : List AObj} {K : AVal → List AObj → Prop}
theorem opK_copy (x y : Operand) (t u : TypeId) : @opK P ⟨fb, fn, ff, fl, fD, fz, fy⟩ ⟨dst, .call ⟨.builtin .copy, #[x, y], #[t, u]⟩, ty, pos, after, g⟩ ρ h K = @bindK _ (aCopy P t h (ρ x) (ρ y)) ⟨fun r => K r.1 r.2⟩ := by
  rw [opK_eff rfl rfl rfl rfl rfl rfl]
  rfl
end
def stepsY (xs : List AVal) (hs : Nat → List AObj) (args : List AVal) (h1 h2 : List AObj) : Prop := ∃ i, i < xs.length ∧ args = [xs.getD i .undef] ∧ h1 = hs i ∧ h2 = hs (i + 1)
theorem stepsY_at {xs : List AVal} {hs : Nat → List AObj} {x : AVal} (i : Nat) (hi : i < xs.length) (hx : xs.getD i .undef = x) : stepsY xs hs [x] (hs i) (hs (i + 1)) := ⟨i, hi, by rw [hx], rfl, rfl⟩
section
variable {P : Program} {E : EffF}
theorem rangeK_S {hb : List AObj} {g : Operand} {f : FuncId} {cs : List AVal} {p : Tmp} {s0 s : ASt} {x c : Code} {Q : Exit → ASt → Prop} (ks : List Nat) (xs : List AVal) (hs : Nat → List AObj) (hw : Wk hb (s0.keep ks) s) (h0 : s.heap = hs 0) (hg : ev s.env g = .func (.func f) [] cs) (hspec : SpecY P f (stepsY xs hs) cs (hs 0) (hs xs.length))
    (hround : ∀ i, i < xs.length → awp P E (hs i) x (fun e s1 => e = .normal ∧ awp P E s1.heap c (fun e s2 => e = .normal ∧ Wk s1.heap ⟨[], s2.heap⟩ ⟨[], hs (i + 1)⟩) s1) ⟨(p, xs.getD i .undef) :: s.env, hs i⟩)
    (hQ : Q .normal ⟨s.env, hs xs.length⟩) : @rangeK P E hb g #[p] s0 ⟨x, c, Q⟩ := by
  refine .inl ⟨s, (Wk.keep hb s0 ks).trans hw, f, cs, stepsY xs hs, hs xs.length, hg, by rw [h0]; exact hspec, fun args h1 h2 hy => ?_, hQ⟩
  obtain ⟨i, hi, rfl, rfl, rfl⟩ := hy
  exact ⟨rfl, hround i hi⟩
def Gives (P : Program) (f : FuncId) (cs : List AVal) (xs : List AVal) : Prop := ∀ hs : Nat → List AObj, SpecY P f (stepsY xs hs) cs (hs 0) (hs xs.length)
end
end Go.AW
namespace Go.AW
open Go Go.RowKit
section
variable {H : Type} {enc : TypeId × Value → H} {P : Program} {w : World} {base b0 : Nat} {held : Bool}
end
section
variable {P : Program} {h : List AObj} {t : TypeId}
end
section
variable {P : Program} {h : List AObj} {t e nb : Nat} {z : Value}
end
section
variable {P : Program} {t e s nb : Nat} {h : List AObj}
def slW (P : Program) (t : Nat) : Option (Nat × Nat × Nat) := match tyI P t with
  | some T => match T.elem with
    | some e => match tyI P e with
      | some E => if E.zero.length = E.size ∧ E.size ≠ 0 then some (e, E.size, E.bytes) else none
      | none => none
    | none => none
  | none => none
class SlW (P : Program) (t : Nat) (e s nb : outParam Nat) : Prop where
  h : slW P t = some (e, s, nb)
theorem SlW.ex [S : SlW P t e s nb] : ∃ T E, tyI P t = some T ∧ T.elem = some e ∧ tyI P e = some E ∧ E.size = s ∧ E.bytes = nb ∧ E.zero.length = s ∧ s ≠ 0 := by
  obtain ⟨hs⟩ := S
  unfold slW at hs
  split at hs
  · rename_i T hT
    split at hs
    · rename_i e' he
      split at hs
      · rename_i E hE
        split at hs
        · rename_i hc
          simp only [Option.some.injEq, Prod.mk.injEq] at hs
          obtain ⟨rfl, rfl, rfl⟩ := hs
          exact ⟨T, E, hT, he, hE, rfl, rfl, hc.1, hc.2⟩
        · cases hs
      · cases hs
    · cases hs
  · cases hs
def gwW (s k n : Nat) : AVal := if n = 0 then .res k else .ref k 0 n (n * s)
def goW (e s : Nat) (xs : List AVal) : AObj := match xs with
  | [] => ⟨0, 0, []⟩
  | _ :: _ => ⟨e, s, xs⟩
theorem goW_cells (e s : Nat) (xs : List AVal) : (goW e s xs).cells = xs := by cases xs <;> rfl
theorem parts_gwW (s k n : Nat) : AVal.parts (gwW s k n) = some [gwW s k n] := by unfold gwW; split <;> rfl
theorem one_gwW (s k n : Nat) : AVal.one (gwW s k n) = true := by unfold gwW; split <;> rfl
theorem idxW_ref [S : SlW P t e s nb] {id off m ext : Nat} {k : IntKind} {n : Int} (h0 : 0 ≤ n) (h1 : n < m) : aIdx P t h (.ref id off m ext) (.val (.int k n)) = (cA h[id]? ext).map fun _ => .ptr id (off + n.toNat * s) ext := by
  obtain ⟨T, E, hT, he, hE, hs, _, _, _⟩ := S.ex
  simp only [aIdx, hT, he, hE, cellsAt_eq, hs]
  cases hc : cA h[id]? ext with
  | none => simp
  | some cs => simp [h0, h1]
theorem append_W [S : SlW P t e s nb] {k n : Nat} {xs ys : List AVal} (ho : h[k]? = some (goW e s xs)) (hx : xs.length = n * s) (hy : ys.length = s) (c5 : ys.all AVal.one = true) (c6 : (n + 1) * nb ≤ 140737488355328) (c7 : n + 1 ≤ 140737488355328) :
    aAppend P t h (gwW s k n) (.lit 1 ys) = some (gwW s k (n + 1), h.set k (goW e s (xs ++ ys))) := by
  obtain ⟨T, E, hT, he, hE, hs, hb, hz, h0⟩ := S.ex
  have ht : ys.take s = ys := List.take_of_length_le (by omega)
  simp only [aAppend, hT, he, hE, sview_lit, hs, hb, Nat.one_mul, ht]
  rw [if_pos ⟨hy, c5, by omega, hz⟩]
  unfold gwW
  rw [if_neg (by omega : ¬ n + 1 = 0)]
  by_cases hn : n = 0
  · subst hn
    have hx0 : xs = [] := List.eq_nil_of_length_eq_zero (by simpa using hx)
    subst hx0
    rw [if_pos rfl]
    simp only [if_neg (show ¬ (1 : Nat) = 0 by omega), ho, goW]
    rw [if_pos ⟨trivial, by omega, by omega⟩, List.nil_append]
    cases ys with
    | nil => simp at hy; omega
    | cons y yr => simp
  · rw [if_neg hn]
    cases xs with
    | nil =>
      exfalso
      have : 0 < n * s := Nat.mul_pos (by omega) (by omega)
      simp at hx; omega
    | cons x xr =>
      simp only [ho, goW, List.cons_append]
      rw [if_pos ⟨hx, trivial, trivial, trivial, c6, c7⟩]
class ArT (P : Program) (t : Nat) (n : outParam Nat) : Prop where
  h : (tyI P t).bind (fun T => if T.elem = none then T.arr.bind fun r => (tyI P r.2).map fun _ => r.1 else none) = some n
class ArE (P : Program) (t : Nat) (n : outParam Nat) : Prop where
  h : (tyI P t).bind (fun T => if T.elem = none then T.arr.bind fun r => (tyI P r.2).bind fun E => if E.size = 1 ∧ E.agg = false then some r.1 else none else none) = some n
theorem ArE.ex {n : Nat} [S : ArE P t n] : ∃ T e E, tyI P t = some T ∧ T.elem = none ∧ T.arr = some (n, e) ∧ tyI P e = some E ∧ E.size = 1 ∧ E.agg = false := by
  obtain ⟨hs⟩ := S
  obtain ⟨T, hT, hs⟩ := Option.bind_eq_some_iff.1 hs
  split at hs
  · rename_i he
    obtain ⟨⟨m, e⟩, hr, hs⟩ := Option.bind_eq_some_iff.1 hs
    obtain ⟨E, hE, hs⟩ := Option.bind_eq_some_iff.1 hs
    split at hs
    · rename_i hc
      cases hs
      exact ⟨T, e, E, hT, he, hr, hE, hc.1, hc.2⟩
    · cases hs
  · cases hs
section
variable {fb fn ff fl fz : Operand → Bool} {fD : Nat → Bool} {fy : Option (Value × (List AVal → List AObj → List AObj → Prop))} {dst : Option Tmp} {ty : TypeId} {pos : String} {after : Array Edge} {g : Option (Nat × Bool)} {ρ : Operand → AVal} {K : AVal → List AObj → Prop}
end
section
variable {fb fn ff fl fz : Operand → Bool} {fD : Nat → Bool} {fy : Option (Value × (List AVal → List AObj → List AObj → Prop))} {dst : Option Tmp} {ty : TypeId} {pos : String} {after : Array Edge} {g : Option (Nat × Bool)} {ρ : Operand → AVal} {K : AVal → List AObj → Prop}
end
theorem slice_hiL {z : Value} [S : SlT P t e nb z] {p b : Bool} {n : Nat} {cs : List AVal} {k : IntKind} {c : Int} (h0 : 0 ≤ c) (h1 : c ≤ n) :
    aSlice P t h (.list p b n cs) none (some (.val (.int k c))) none = some (.list p b c.toNat (cs.take c.toNat)) := by
  obtain ⟨⟨T, hT, hTe⟩, E, hE, g1, g2, g3, g4⟩ := S
  simp only [aSlice, hT, hTe, hE, sview, optInt, g1, Nat.mul_one]
  rw [if_pos ⟨by omega, h0, h1, by omega⟩]
  simp
theorem slice_loL {z : Value} [S : SlT P t e nb z] {p b : Bool} {n : Nat} {cs : List AVal} {k : IntKind} {c : Int} (h0 : 0 ≤ c) (h1 : c ≤ n) :
    aSlice P t h (.list p b n cs) (some (.val (.int k c))) none none = some (.list p b (n - c).toNat ((cs.drop c.toNat).take (n - c).toNat)) := by
  obtain ⟨⟨T, hT, hTe⟩, E, hE, g1, g2, g3, g4⟩ := S
  simp only [aSlice, hT, hTe, hE, sview, optInt, g1, Nat.mul_one]
  rw [if_pos ⟨h0, h1, by omega, by omega⟩]
end
end Go.AW
namespace Go.AW
open Go Go.RowKit
def stepsO (N : Nat) (hs own ex : Nat → List AObj) (av : Nat → AVal) (args : List AVal) (h1 h2 : List AObj) : Prop := ∃ i, i < N ∧ args = [av i] ∧ h1 = hs i ++ own i ∧ h2 = hs (i + 1) ++ (own i ++ ex i)
theorem stepsO_at {N : Nat} {hs own ex : Nat → List AObj} {av : Nat → AVal} (i : Nat) (hi : i < N) {x : AVal} {h1 h2 : List AObj} (hx : x = av i) (e1 : h1 = hs i ++ own i) (e2 : h2 = hs (i + 1) ++ (own i ++ ex i)) : stepsO N hs own ex av [x] h1 h2 := ⟨i, hi, by rw [hx], e1, e2⟩
def Shut (m : Nat) (h : List AObj) : Prop := h.length = m ∧ ∀ o ∈ h, ∀ x ∈ o.cells, ren (keepF m []) 8 x = x
section
variable {P : Program} {E : EffF}
theorem rangeK_O {hb : List AObj} {g : Operand} {f : FuncId} {cs : List AVal} {p : Tmp} {s0 s : ASt} {x c : Code} {Q : Exit → ASt → Prop} (ks : List Nat) (N : Nat) (hs own ex : Nat → List AObj) (av : Nat → AVal) (hw : Wk hb (s0.keep ks) s) (h0 : s.heap = hs 0) (hg : ev s.env g = .func (.func f) [] cs) (hspec : SpecY P f (stepsO N hs own ex av) cs (hs 0) (hs N))
    (hround : ∀ i, i < N → awp P E (hs i ++ own i) x (fun e s1 => e = .normal ∧ awp P E s1.heap c (fun e s2 => e = .normal ∧ Wk s1.heap ⟨[], s2.heap⟩ ⟨[], hs (i + 1) ++ (own i ++ ex i)⟩) s1) ⟨(p, av i) :: s.env, hs i ++ own i⟩)
    (hQ : Q .normal ⟨s.env, hs N⟩) : @rangeK P E hb g #[p] s0 ⟨x, c, Q⟩ := by
  refine .inl ⟨s, (Wk.keep hb s0 ks).trans hw, f, cs, stepsO N hs own ex av, hs N, hg, by rw [h0]; exact hspec, fun args h1 h2 hy => ?_, hQ⟩
  obtain ⟨i, hi, rfl, rfl, rfl⟩ := hy
  exact ⟨rfl, hround i hi⟩
theorem Wk.shut {hb h1 gs : List AObj} {env : List (Nat × AVal)} (hl : h1.length = hb.length) (hs : Shut hb.length h1) : Wk hb ⟨env, h1 ++ gs⟩ ⟨env.map fun p => (p.1, ren (keepF hb.length []) 8 p.2), h1⟩ := by
  have := Wk.drop (hb := hb) (h1 := h1) (gs := gs) (env := env) 8 [] hl List.nodup_nil (fun k hk => by cases hk) (fun i o ho => .inr (hs.2 o (List.mem_of_getElem? ho)))
  simpa using this
end
section
variable (E : EffF) (yv : Value) (y : List AVal → List AObj → List AObj → Prop)
theorem effY_b (x : Operand) : @EffF.b (effY E yv y) x = @EffF.b E x := rfl
theorem effY_n (x : Operand) : @EffF.n (effY E yv y) x = @EffF.n E x := rfl
theorem effY_f (x : Operand) : @EffF.f (effY E yv y) x = @EffF.f E x := rfl
theorem effY_l (x : Operand) : @EffF.l (effY E yv y) x = @EffF.l E x := rfl
theorem effY_z (x : Operand) : @EffF.z (effY E yv y) x = @EffF.z E x := rfl
theorem effY_D (x : Nat) : @EffF.D (effY E yv y) x = @EffF.D E x := rfl
end
end Go.AW
namespace Go.AW
open Go Go.RowKit
def headZ (u : Nat) : Code → Bool
  | .cond (.tmp t) .ret _ => t == u
  | .seq a _ => headZ u a
  | _ => false
section
variable {P : Program}
def stopAt (P : Program) [E : EffF] (yv : Value) (yS : List AVal → List AObj → Prop) (ops : List Oper) (b : Code) (s : ASt) : Prop :=
  ∃ pre yo no t u fo args ty xt, ops = pre ++ [yo, no] ∧ yo.guard = none ∧ no.guard = none ∧ yo.dst = some t ∧ yo.op = .call { callee := .value fo, args := args, argTypes := ty } ∧ no.dst = some u ∧ no.op = .unOp .not xt (.tmp t) ∧ headZ u b = true ∧
    awpList P ops (fun s' => ev s'.env fo = .val yv ∧ yS (args.toList.map (ev s'.env)) s'.heap) pre s
def awpX (P : Program) (E : EffF) (hb : List AObj) (yv : Value) (yS : List AVal → List AObj → Prop) : Code → (Exit → ASt → Prop) → ASt → Prop
  | .seq a b, Q, s => awp P E hb a (fun e s' => match e with | .normal => awpX P E hb yv yS b Q s' | e => Q e s') s ∨ awpX P E hb yv yS a (fun e s' => match e with | .normal => awpX P E hb yv yS b Q s' | e => Q e s') s ∨
      (∃ id ops, a = .region id ops false ∧ @stopAt P (effIn E) yv yS ops.toList b s)
  | .block id c, Q, s => awpX P E hb yv yS c (fun e s' => match e with | .exit id' => if id' = id then Q .normal s' else Q (.exit id') s' | e => Q e s') s
  | .loop c, Q, s => ∃ (I : Nat → ASt → Prop) (n : Nat), (∃ s1, Wk hb s s1 ∧ I n s1) ∧ ∀ n s, I n s → awpX P E hb yv yS c (fun e s' => match e with | .normal => ∃ m s1, m < n ∧ Wk hb s' s1 ∧ I m s1 | e => Q e s') s
  | c, Q, s => awp P E hb c Q s
theorem headZ_wp {F : Fence} {n : Nat} {Q : Exit → Act → World → Prop} {a : Act} {w : World} {u : Nat} (hu : a.tmps.getD u undef = .bool true) (hQ : Q .ret a w) : ∀ (b : Code), headZ u b = true → b.wpIn F n P Q a w := by
  intro b
  induction b generalizing Q with
  | cond c x y _ _ =>
    intro h
    cases c with
    | tmp t =>
      cases x <;> simp [headZ] at h
      subst h
      exact wpIn_cond_true hu (wpIn_ret hQ)
    | _ => simp [headZ] at h
  | seq x y ihx _ =>
    intro h
    exact wpIn_seq (ihx (Q := Exit.then _ Q) hQ h)
  | _ => intro h; simp [headZ] at h
variable {E : EffF} {W0 : World} {ok0 A : Nat → Prop} {N : Nat} {B : Bs}
theorem YStop.at {hS : List AObj} {yv : Value} {yS : List AVal → List AObj → Prop} {Zw : World → World → Prop} (hyS : YStop P W0 ok0 A B Zw hS yv yS) {β : Nat → Nat × Nat} {h : List AObj} {w : World} {a : Act} {args : List AVal} {vs : Array Value} (hk : Kp W0 ok0 B β h w a) (hr : HR W0 ok0 A β h w) (hyy : yS args h) (har : AR W0 ok0 β h w args vs) :
    ∃ l fn tmps x c, yv = .func (.yield l) #[] #[] ∧ (Instr.yield l vs).run P w = .ok (.round l fn tmps x c) w ∧
      ∀ n, RoundIn Fence.wide n P l fn tmps x c w (fun e w' => ∃ β' ws, e = .returned (.bool false) ∧ Step W0 ok0 A β h w β' hS ws ∧ Zw ws w') :=
  hyS args h hyy β w vs hr hk.base hk.ok har
theorem stop_list {hS : List AObj} {yv : Value} {yS : List AVal → List AObj → Prop} {Zw : World → World → Prop} (hyS : YStop P W0 ok0 A B Zw hS yv yS) (n : Nat) (hBv : B.v0.isSome = true → E.y.isSome = true) {ops : Array Oper} {Q : Exit → Act → World → Prop} {yo no : Oper} {t u : Nat} {fo : Operand} {args : Array Operand} {ty : Array TypeId} {xt : TypeId}
    (h1 : yo.guard = none) (h2 : no.guard = none) (h3 : yo.dst = some t) (h4 : yo.op = .call { callee := .value fo, args := args, argTypes := ty }) (h5 : no.dst = some u) (h6 : no.op = .unOp .not xt (.tmp t)) (ho1 : opOk N yo = true) (ho2 : opOk N no = true) (hy1 : opY E yo = true) (hy2 : opY E no = true)
    {s : ASt} {a : Act} {w : World} (hfo : ev s.env fo = .val yv) (hy : yS (args.toList.map (ev s.env)) s.heap) (hf : FR W0 ok0 A N B s a w)
    (hQ : ∀ a' ws w', a'.tmps.getD u undef = .bool true → FR W0 ok0 A N B ⟨[], hS⟩ a' ws → Zw ws w' → Q .normal a' w') : wpListIn (Fd B.rd) n P ops Q [yo, no] a w := by
  obtain ⟨β, hr, henv, hs, hk⟩ := hf
  have hρ := ev_rel hr.tab henv
  have har : AR W0 ok0 β s.heap w (args.toList.map (ev s.env)) (args.map a.eval) := ⟨by simp, fun j hj => by
    have hj' : j < args.size := by simpa using hj
    simpa [hj'] using hρ args[j]⟩
  obtain ⟨l, fn, tmps, x, cc, rfl, g2, g3⟩ := hyS.at hk hr hy har
  unfold wpListIn
  rw [if_pos (by simp [Region.wanted, h1])]
  refine ⟨fun _ _ => trivial, ?_⟩
  rw [semAt_fd (opOk_def ho1)]
  have hev : a.eval fo = .func (.yield l) #[] #[] := by
    have h0 := hρ fo
    rw [hfo] at h0
    generalize a.eval fo = v at h0
    cases h0; rfl
  have hrun : (execOp a.eval yo).run P w = .ok (.round l fn tmps x cc) w := by
    simp only [execOp, h4, resolve, hev]
    simp [Deferred.ofValue, invoke, g2]
  rw [hrun, Oper.uponIn_round]
  refine ⟨(fun hd => by cases hd), (g3 _).mono fun e w' he => ?_⟩
  obtain ⟨β', ws, rfl, hst, hz⟩ := he
  have ht : t < a.tmps.size := by rw [hs]; exact opOk_dst ho1 t h3
  have hat : (a.put yo.dst (.bool false)).eval (.tmp t) = .bool false := by
    show (a.put yo.dst (.bool false)).tmps.getD t undef = _
    rw [put_getD _ _ _ _ (fun d hd => by rw [hs]; exact opOk_dst ho1 d hd), if_pos h3]
  show wpListIn (Fd B.rd) n P ops Q [no] (a.put yo.dst (.bool false)) w'
  unfold wpListIn
  rw [if_pos (by simp [Region.wanted, h2])]
  refine ⟨fun _ _ => trivial, ?_⟩
  rw [semAt_fd (opOk_def ho2)]
  have hrun2 : (execOp (a.put yo.dst (.bool false)).eval no).run P w' = .ok (.value (.bool true)) w' := by
    simp [execOp, h6, hat, Op.unary]
  rw [hrun2, Oper.uponIn_value]
  show Q .normal ((a.put yo.dst (.bool false)).put no.dst (.bool true)) w'
  have hoy1 := opY_dst hy1 hBv
  have hoy2 := opY_dst hy2 hBv
  refine hQ _ ws w' ?_ ⟨β', hst.hr, fun t => .undef _, by rw [put_size, put_size, hs], ((hk.step hst).put _ _ hoy1).put _ _ hoy2⟩ hz
  rw [put_getD _ _ _ _ (fun d hd => by rw [put_size, hs]; exact opOk_dst ho2 d hd), if_pos h5]
theorem awpList_ahead [cE : EffF] (n : Nat) (hB : BOk P cE W0 ok0 A B) {ops tl : List Oper} {Qs : ASt → Prop} {Q : Exit → Act → World → Prop} (hQ : ∀ s a w, Qs s → FR W0 ok0 A N B s a w → wpListIn (Fd B.rd) n P ops.toArray Q tl a w) :
    ∀ (l : List Oper) (s : ASt) (a : Act) (w : World), l.all (opOk N) = true → l.all (opY cE) = true → awpList P ops Qs l s → FR W0 ok0 A N B s a w → wpListIn (Fd B.rd) n P ops.toArray Q (l ++ tl) a w := by
  intro l
  induction l with
  | nil => intro s a w _ _ h hf; exact hQ _ _ _ h hf
  | cons o rest ih =>
    intro s a w hall hally h hf
    simp only [List.all_cons, Bool.and_eq_true] at hall hally
    obtain ⟨ho, hrest⟩ := hall
    obtain ⟨hoy, hresty⟩ := hally
    have hoy := opY_dst hoy hB.v0
    obtain ⟨β, hr, henv, hs, hd⟩ := hf
    have run : opK P o (ev s.env) s.heap (fun v h' => awpList P ops Qs rest ⟨putA o.dst v s.env, h'⟩) → o.wpIn (Fd B.rd) n P a w (wpListIn (Fd B.rd) n P ops.toArray Q (rest ++ tl)) Q := fun hk => by
      obtain ⟨v, h', hR, hK⟩ := opK_R hk
      exact opR_wp B.rd n hr (ev_rel hr.tab henv) ho hR (fun yv y hy args h' vs hyy har => hd.yield hB hr hy hyy har) fun u β' w' hst hv => ih _ _ _ hrest hresty hK (FR.put henv hs hd ho hoy hst hv)
    have skip : awpList P ops Qs rest ⟨putA o.dst (.val undef) s.env, s.heap⟩ → wpListIn (Fd B.rd) n P ops.toArray Q (rest ++ tl) (a.put o.dst undef) w := fun hk =>
      ih _ _ _ hrest hresty hk (FR.put henv hs hd ho hoy (Step.refl hr) (.val _))
    simp only [awpList] at h
    rw [List.cons_append]
    unfold wpListIn
    split at h
    · rename_i hg
      rw [if_pos (by simp [Region.wanted, hg])]
      exact run h
    · rename_i j want hg
      split at h
      · rename_i t ht
        split at h
        · rename_i b hb
          have hy := yielded_bool (ops := ops) ht (by have := henv t; rw [hb] at this; exact this)
          by_cases hbw : b = want
          · rw [if_pos (by simp [Region.wanted, hg, hy, hbw])]
            exact run (h.1 hbw)
          · rw [if_neg (by simp [Region.wanted, hg, hy, hbw])]
            exact ⟨fun _ _ => trivial, skip (h.2 hbw)⟩
        · rename_i us hb
          have hy := yielded_tuple (ops := ops) ht (by have := henv t; rw [hb] at this; exact this)
          rw [if_neg (by simp [Region.wanted, hg, hy])]
          exact ⟨fun _ _ => trivial, skip h⟩
        · exact h.elim
      · exact h.elim
theorem awpX_sound (hm : P.follows .mixedOrders = true) {hS : List AObj} {yv : Value} {yS : List AVal → List AObj → Prop} {Zw : World → World → Prop} : ∀ (c : Code) (n : Nat) (B : Bs) (hb : List AObj) (Qa : Exit → ASt → Prop) (Q : Exit → Act → World → Prop) (s : ASt) (a : Act) (w : World), B.h = hb → BOk P E W0 ok0 A B → YStop P W0 ok0 A B Zw hS yv yS → codeOk N E c = true → (∀ e s a w, Qa e s → FR W0 ok0 A N B s a w → Q e a w) →
    (∀ a ws w, FR W0 ok0 A N B ⟨[], hS⟩ a ws → Zw ws w → Q .ret a w) → awpX P E hb yv yS c Qa s → FR W0 ok0 A N B s a w → c.wpIn (Fd B.rd) n P Q a w := by
  intro c
  induction c with
  | seq x y ihx ihy =>
    intro n B hb Qa Q s a w hBh hB hyS hok hq hz h hf
    have hok0 := hok
    simp only [codeOk, Bool.and_eq_true] at hok
    have hcont : ∀ e s' a' w', (match e with | .normal => awpX P E hb yv yS y Qa s' | e => Qa e s') → FR W0 ok0 A N B s' a' w' → Exit.then (y.wpIn (Fd B.rd) n P Q) Q e a' w' := fun e s' a' w' he hf' => by
      cases e with
      | normal => exact ihy _ _ _ _ _ s' a' w' hBh hB hyS hok.2 hq hz he hf'
      | _ => exact hq _ _ _ _ he hf'
    rcases h with h | h | ⟨id, ops, rfl, h⟩
    · exact wpIn_seq (awp_sound hm _ _ _ _ _ _ s a w hBh hB hok.1 hcont h hf)
    · exact wpIn_seq (ihx _ _ _ _ _ s a w hBh hB hyS hok.1 hcont hz h hf)
    · obtain ⟨pre, yo, no, t, u, fo, args, ty, xt, e0, h1, h2, h3, h4, h5, h6, hhd, hw⟩ := h
      refine wpIn_seq (wpIn_region_list ?_)
      have hcl := hok.1
      simp only [codeOk, Bool.and_eq_true] at hcl
      obtain ⟨⟨g1, g1y⟩, _⟩ := hcl
      have hall : ops.toList.all (opOk N) = true := g1
      have hally : ops.toList.all (@opY (effIn E)) = true := opY_in g1y
      rw [e0] at hall hally
      simp only [List.all_append, List.all_cons, List.all_nil, Bool.and_true, Bool.and_eq_true] at hall hally
      have := @awpList_ahead P W0 ok0 A N B (effIn E) n hB.effIn ops.toList [yo, no] _ (Exit.then (y.wpIn (Fd B.rd) n P Q) Q) (fun s' a' w' hs' hf' => by
        refine @stop_list P (effIn E) W0 ok0 A N B hS yv yS Zw hyS n hB.effIn.v0 _ _ yo no t u fo args ty xt h1 h2 h3 h4 h5 h6 hall.2.1 hall.2.2 hally.2.1 hally.2.2 s' a' w' hs'.1 hs'.2 hf' (fun a2 ws w2 hu hf2 hz2 => ?_)
        exact headZ_wp hu (hz a2 ws w2 hf2 hz2) y hhd) pre s a w hall.1 hally.1 hw hf
      rw [← e0] at this
      simpa using this
  | block id c ih =>
    intro n B hb Qa Q s a w hBh hB hyS hok hq hz h hf
    refine wpIn_block (ih _ _ _ _ _ s a w hBh hB hyS hok (fun e s a w he hf => ?_) hz h hf)
    cases e with
    | exit id' =>
      simp only [Exit.inBlock] at he ⊢
      split
      · rename_i hid; rw [if_pos hid] at he; exact hq _ _ _ _ he hf
      · rename_i hid; rw [if_neg hid] at he; exact hq _ _ _ _ he hf
    | _ => exact hq _ _ _ _ he hf
  | loop c ih =>
    intro nn B hb Qa Q s a w hBh hB hyS hok hq hz h hf
    obtain ⟨I, n, ⟨s1, hw1, h0⟩, hr⟩ := h
    have hnb : B.h = hb ∧ HR W0 ok0 A B.β B.h B.w := ⟨hBh, hB.hr⟩
    refine wp_loop_fuel (fun n a w => ∃ s, I n s ∧ FR W0 ok0 A N B s a w) (fun n a w ⟨s, hs, hf⟩ => ?_) (n := n) ⟨_, h0, hw1 _ _ _ _ _ _ _ hnb hf⟩
    refine ih _ _ _ _ _ s a w hBh hB hyS hok (fun e s a w he hf => ?_) hz (hr n s hs) hf
    cases e with
    | normal =>
      obtain ⟨m, s1, hlt, hw1, hm⟩ := he
      exact ⟨m, hlt, _, hm, hw1 _ _ _ _ _ _ _ hnb hf⟩
    | _ => exact hq _ _ _ _ he hf
  | _ =>
    intro n B hb Qa Q s a w hBh hB hyS hok hq hz h hf
    exact awp_sound hm _ _ _ _ _ _ s a w hBh hB hok hq h hf
theorem fr_leaveZ {Zw : World → World → Prop} (hZ : ZOk Zw) {fn : Func} {R : Ending → World → Prop} {s : ASt} (hW : W0.heap.size ≤ B.w.heap.size) : ∀ (Ds : List Nat) (a : Act) (ws w : World), a.defers = Ds.map markD → FR W0 ok0 A N B s a ws → Zw ws w →
    (∀ ws2 w2, FR W0 ok0 A N B s { a with defers := [] } ws2 → Zw ws2 w2 → ∃ v, (results fn a.tmps).run P w2 = .ok v w2 ∧ R (.returned v) w2) → LeavesInM (Fd none) 0 P fn a.tmps R a.defers .returning w := by
  intro Ds
  induction Ds with
  | nil =>
    intro a ws w hd hf hz h
    rw [hd]
    have ha : a = { a with defers := [] } := by cases a; simp_all
    exact h ws w (by rw [← ha]; exact hf) hz
  | cons D Ds ih =>
    intro a ws w hd hf hz h
    obtain ⟨β, hr, henv, hs, hk⟩ := hf
    obtain ⟨Ds', g1, g2, g3, g4⟩ := hk.marks
    have hinj : ∀ (l l' : List Nat), l.map markD = l'.map markD → l = l' := by
      intro l
      induction l with
      | nil => intro l' h; cases l' with | nil => rfl | cons _ _ => cases h
      | cons x l ih =>
        intro l' h
        cases l' with
        | nil => cases h
        | cons y l' =>
          simp only [List.map_cons, List.cons.injEq] at h
          have h1 : x = y := by have := h.1; simp only [markD, Deferred.mk.injEq, Target.collected.injEq] at this; exact this.1
          rw [h1, ih _ h.2]
    obtain rfl : Ds' = D :: Ds := hinj _ _ (g1.symm.trans hd)
    obtain ⟨k1, k2, k3⟩ := g4 D (by simp)
    obtain ⟨k4, k5⟩ := hZ.put ws w D hz k3
    rw [hd, List.map_cons]
    refine ⟨by simp, .inl ⟨D, _, rfl, run_takeDeferred k4, ?_⟩⟩
    rw [List.nodup_cons] at g3
    have := fr_obj (o' := .deferred none) (ds := Ds.map markD) hr henv hs hk k3 (fun c t f h => by cases h) k1 hW ⟨Ds, rfl, (fun hrd => by have := g2 hrd; cases this), g3.2, fun D' hD' => by
      obtain ⟨q1, q2, q3⟩ := g4 D' (by simp [hD'])
      exact ⟨q1, q2, (World.putObj_heap_other (by rintro rfl; exact g3.1 hD')).trans q3⟩⟩
    exact ih { a with defers := Ds.map markD } _ _ rfl this k5 h
theorem SpecX.intro {f : FuncId} {fn : Func} {c : Code} {args : List AVal} {h hS : List AObj} {y : List AVal → List AObj → List AObj → Prop} {yS : List AVal → List AObj → Prop} (E : EffF) (hm : P.follows .mixedOrders = true) (hf : P.funcs[f]? = some fn) (hname : (fn.name == "runtime.NumGoroutine") = false) (hb : fn.body = some c) (hok : codeOk fn.ntmps (effY E undef (fun _ _ _ => False)) c = true) (hargs : args.length + 1 ≤ fn.ntmps) (hres : fn.results = #[])
    (hw : ∀ yv, awpX P (effY E yv y) h yv yS c (fun _ _ => False) ⟨args0 (.val yv :: args), h⟩) : SpecX P f y yS args h hS := by
  refine ⟨by simp [callable, hf, hname, hb], fun W0 ok0 A β w vs yv Zw hZ hr har hy hyS => ?_⟩
  refine callsIn_wide.1 (callsIn_of_wp_marks (n := 0) hf hb trivial ?_)
  have hB : BOk P (effY E yv y) W0 ok0 A ⟨β, h, w, none, none⟩ := ⟨hr, fun yv' y' h => by cases h; exact hy, (fun h => by cases h), (fun l h => by cases h)⟩
  have hW : W0.heap.size ≤ w.heap.size := hr.wsize
  have hsz : (#[yv] ++ vs).size ≤ fn.ntmps := by have := har.1; simp; omega
  have henv : ∀ t, VR W0 ok0 β h w (look (args0 (.val yv :: args)) t) (((#[yv] ++ vs) ++ Array.replicate (fn.ntmps - (#[yv] ++ vs).size) undef).getD t undef) := args0_rel (fun v => .undef v) _ (by simp [har.1]; omega) (fun t ht => by
    cases t with
    | zero =>
      have e0 : (#[yv] ++ vs).getD 0 undef = yv := by simp [Array.getElem?_append]
      rw [e0]; exact .val _
    | succ t =>
      have h1 := har.2 t (by simpa using ht)
      have e2 : (#[yv] ++ vs).getD (t + 1) undef = vs.getD t undef := by
        simp only [Array.getD_eq_getD_getElem?]
        rw [Array.getElem?_append_right (by simp)]; simp
      rw [e2]; simpa using h1)
  have hinit : FR W0 ok0 A fn.ntmps ⟨β, h, w, none, none⟩ ⟨args0 (.val yv :: args), h⟩ { tmps := (#[yv] ++ vs) ++ Array.replicate (fn.ntmps - (#[yv] ++ vs).size) undef, defers := [] } w :=
    ⟨β, hr, henv, by simp at hsz ⊢; omega, kp_refl (fun v hv' => by cases hv') rfl⟩
  refine awpX_sound (N := fn.ntmps) hm c 0 ⟨β, h, w, none, none⟩ h (fun _ _ => False) _ _ _ _ rfl hB hyS (by rw [codeOk_y E yv undef y (fun _ _ _ => False)]; exact hok) (fun e s a w' he _ => he.elim) (fun a ws w' hf' hz => ?_) (hw yv) hinit
  have hf0 := hf'
  obtain ⟨_, _, _, _, hk⟩ := hf0
  obtain ⟨Ds, g1, _⟩ := hk.marks
  refine fr_leaveZ hZ hW Ds a ws w' g1 hf' hz (fun ws2 w2 hf2 hz2 => ⟨.tuple #[], by simp [results, hres], .tuple #[], ?_⟩)
  obtain ⟨β2, hr2, _, _, hk2⟩ := hf2
  exact ⟨β2, ws2, rfl, ⟨hr2, hk2.base, hk2.len, hk2.ok, hk2.wsz⟩, hz2⟩
end
end Go.AW
