/- An abstract machine over the model: what it says of a function's code, the model does. -/
import Derived.Orders
import Derived.Laws.AppendOwn
import Derived.Laws.MakeOwn
import Derived.WalkKit
import Derived.ChangeKeysEq
import Derived.Lib.UnsafeStr
import Derived.ChangeMaps3
import Derived.Lib.AppendZeros
import Derived.RangeFuncIn
import Derived.RangeFuncRecord
import Derived.RangeFuncNested
import Derived.OrdersIn
import Derived.TacticsIn
namespace Go.AW
open Go
def tabs : List (Nat × List Value) := []
end Go.AW
namespace Go.AW
open Go
inductive AVal where
  | undef
  | val (v : Value)
  | cap0 (b : Bool)
  | res (k : Nat)
  | lit (n : Nat) (cells : List AVal)
  | list (p : Bool) (b : Bool) (n : Nat) (cells : List AVal)
  | spot (p : Bool) (cells : List AVal)
  | agg (cells : List AVal)
  | tuple (vs : List AVal)
  | func (fn : Fn) (first captured : List AVal)
  | ref (id off n ext : Nat)
  | ptr (id off ext : Nat)
  | part (id off n ext : Nat)
  deriving Inhabited
structure AObj where
  ty : TypeId
  es : Nat
  cells : List AVal
structure ASt where
  env : List (Nat × AVal)
  heap : List AObj
def lens (h : List AObj) (i : Nat) : Option Nat := (h[i]?).bind fun o => if o.es = 0 then none else some o.cells.length
def live (h : List AObj) (i : Nat) : Prop := ∃ o, h[i]? = some o ∧ o.es ≠ 0
theorem lens_live {h : List AObj} {i l : Nat} (hl : lens h i = some l) : ∃ o, h[i]? = some o ∧ o.es ≠ 0 ∧ o.cells.length = l := by
  unfold lens at hl
  cases ho : h[i]? with
  | none => simp [ho] at hl
  | some o =>
    simp only [ho, Option.bind_some] at hl
    split at hl
    · cases hl
    · rename_i hes; cases hl; exact ⟨o, rfl, hes, rfl⟩
theorem lens_some {h : List AObj} {id : Nat} {o : AObj} (ho : h[id]? = some o) (hes : o.es ≠ 0) : lens h id = some o.cells.length := by simp [lens, ho, hes]
inductive VRel (ok fr : Nat → Prop) (w : World) (β : Nat → Nat × Nat) (len : Nat → Option Nat) : AVal → Value → Prop
  | undef (v : Value) : VRel ok fr w β len .undef v
  | val (v : Value) : VRel ok fr w β len (.val v) v
  | cap0 (b : Bool) (a : Option Addr) (h : b = a.isNone) (hs : ∀ q, a = some q → q.spot = none) : VRel ok fr w β len (.cap0 b) (.slice a 0 0)
  | res (k : Nat) : VRel ok fr w β len (.res k) (.slice none 0 0)
  | lit (b off n : Nat) (cs : List AVal) (cv : Nat → Value) (hok : cs ≠ [] → ok b) (hp : cs ≠ [] → fr b)
      (hc : ∀ j, j < cs.length → w.cell? ⟨b, off + j, none⟩ = some (cv j)) (hr : ∀ j (h : j < cs.length), VRel ok fr w β len cs[j] (cv j)) :
      VRel ok fr w β len (.lit n cs) (.slice (some ⟨b, off, none⟩) n n)
  | nil (p : Bool) : VRel ok fr w β len (.list p true 0 []) (.slice none 0 0)
  | list (p : Bool) (b off n cap : Nat) (cs : List AVal) (cv : Nat → Value) (hok : cs ≠ [] → ok b) (hp : p = true → cs ≠ [] → fr b) (hn : n ≤ cap)
      (hc : ∀ j, j < cs.length → w.cell? ⟨b, off + j, none⟩ = some (cv j)) (hr : ∀ j (h : j < cs.length), VRel ok fr w β len cs[j] (cv j)) :
      VRel ok fr w β len (.list p false n cs) (.slice (some ⟨b, off, none⟩) n cap)
  | spot (p : Bool) (b off : Nat) (cs : List AVal) (cv : Nat → Value) (hok : cs ≠ [] → ok b) (hp : p = true → cs ≠ [] → fr b)
      (hc : ∀ j, j < cs.length → w.cell? ⟨b, off + j, none⟩ = some (cv j)) (hr : ∀ j (h : j < cs.length), VRel ok fr w β len cs[j] (cv j)) :
      VRel ok fr w β len (.spot p cs) (.pointer (some ⟨b, off, none⟩))
  | agg (cs : List AVal) (vs : Array Value) (hs : vs.size = cs.length) (hr : ∀ j (h : j < cs.length), VRel ok fr w β len cs[j] (vs.getD j undef)) :
      VRel ok fr w β len (.agg cs) (.agg vs)
  | tuple (cs : List AVal) (vs : Array Value) (hs : vs.size = cs.length) (hr : ∀ j (h : j < cs.length), VRel ok fr w β len cs[j] (vs.getD j undef)) :
      VRel ok fr w β len (.tuple cs) (.tuple vs)
  | func (fn : Fn) (fs cs : List AVal) (fv cv : Array Value) (hfs : fv.size = fs.length) (hcs : cv.size = cs.length)
      (hf : ∀ j (h : j < fs.length), VRel ok fr w β len fs[j] (fv.getD j undef)) (hc : ∀ j (h : j < cs.length), VRel ok fr w β len cs[j] (cv.getD j undef)) :
      VRel ok fr w β len (.func fn fs cs) (.func fn fv cv)
  | ref (id off n ext l cap : Nat) (a : Option Addr) (hl : len id = some l) (he : ext ≤ l) (hn : n ≤ cap) (ha : a.isSome = true)
      (live : ext = l → a = some ⟨(β id).1, off, none⟩ ∧ (off = 0 → cap = (β id).2)) : VRel ok fr w β len (.ref id off n ext) (.slice a n cap)
  | ptr (id off ext l : Nat) (a : Option Addr) (hl : len id = some l) (he : ext ≤ l) (live : ext = l → a = some ⟨(β id).1, off, none⟩) :
      VRel ok fr w β len (.ptr id off ext) (.pointer a)
  | part (id off n ext l cap : Nat) (a : Option Addr) (hl : len id = some l) (he : ext ≤ l) (hn : n ≤ cap)
      (live : ext = l → a = some ⟨(β id).1, off, none⟩) : VRel ok fr w β len (.part id off n ext) (.slice a n cap)
theorem VRel.mono {ok fr ok' fr' : Nat → Prop} {w w' : World} {β β' : Nat → Nat × Nat} {len len' : Nat → Option Nat}
    (hok : ∀ b, ok b → ok' b) (hfr : ∀ b, ok b → fr b → fr' b) (hcell : ∀ b, ok b → w'.heap[b]? = w.heap[b]?)
    (hlen : ∀ id l, len id = some l → ∃ l', len' id = some l' ∧ l ≤ l' ∧ (l = l' → β' id = β id))
    {x : AVal} {v : Value} (h : VRel ok fr w β len x v) : VRel ok' fr' w' β' len' x v := by
  induction h with
  | undef v => exact .undef v
  | val v => exact .val v
  | cap0 b a h hs => exact .cap0 b a h hs
  | res k => exact .res k
  | lit b off n cs cv hok1 hp hc hr ih =>
    refine .lit b off n cs cv (fun h => hok _ (hok1 h)) (fun h2 => hfr _ (hok1 h2) (hp h2)) (fun j hj => ?_) ih
    have hne : cs ≠ [] := by intro h; simp [h] at hj
    rw [World.cell?_of_block (w := w) (hcell b (hok1 hne))]; exact hc j hj
  | nil p => exact .nil p
  | list p b off n cap cs cv hok1 hp hn hc hr ih =>
    refine .list p b off n cap cs cv (fun h => hok _ (hok1 h)) (fun h1 h2 => hfr _ (hok1 h2) (hp h1 h2)) hn (fun j hj => ?_) ih
    have hne : cs ≠ [] := by intro h; simp [h] at hj
    rw [World.cell?_of_block (w := w) (hcell b (hok1 hne))]; exact hc j hj
  | spot p b off cs cv hok1 hp hc hr ih =>
    refine .spot p b off cs cv (fun h => hok _ (hok1 h)) (fun h1 h2 => hfr _ (hok1 h2) (hp h1 h2)) (fun j hj => ?_) ih
    have hne : cs ≠ [] := by intro h; simp [h] at hj
    rw [World.cell?_of_block (w := w) (hcell b (hok1 hne))]; exact hc j hj
  | agg cs vs hs hr ih => exact .agg cs vs hs ih
  | tuple cs vs hs hr ih => exact .tuple cs vs hs ih
  | func fn fs cs fv cv hfs hcs hf hc ihf ihc => exact .func fn fs cs fv cv hfs hcs ihf ihc
  | ref id off n ext l cap a hl he hn ha live =>
    obtain ⟨l', hl', hle, hβ⟩ := hlen id l hl
    refine .ref id off n ext l' cap a hl' (by omega) hn ha fun h => ?_
    have h1 : l = l' := by omega
    rw [hβ h1]; exact live (by omega)
  | ptr id off ext l a hl he live =>
    obtain ⟨l', hl', hle, hβ⟩ := hlen id l hl
    refine .ptr id off ext l' a hl' (by omega) fun h => ?_
    have h1 : l = l' := by omega
    rw [hβ h1]; exact live (by omega)
  | part id off n ext l cap a hl he hn live =>
    obtain ⟨l', hl', hle, hβ⟩ := hlen id l hl
    refine .part id off n ext l' cap a hl' (by omega) hn fun h => ?_
    have h1 : l = l' := by omega
    rw [hβ h1]; exact live (by omega)
def AVal.one : AVal → Bool
  | .undef | .agg _ | .tuple _ => false
  | .val v => v.oneCell'
  | _ => true
theorem VRel.oneCell {ok fr : Nat → Prop} {w : World} {β : Nat → Nat × Nat} {len : Nat → Option Nat} {x : AVal} {v : Value} (h : VRel ok fr w β len x v) (h1 : x.one = true) : v.oneCell' = true := by
  cases h <;> first | exact h1 | rfl | simp [AVal.one] at h1
def CRel (ok fr : Nat → Prop) (w : World) (β : Nat → Nat × Nat) (len : Nat → Option Nat) (cs : List AVal) (vs : List Value) : Prop :=
  vs.length = cs.length ∧ ∀ j (h : j < cs.length), VRel ok fr w β len cs[j] (vs.getD j undef)
theorem CRel.mono {ok fr ok' fr' : Nat → Prop} {w w' : World} {β β' : Nat → Nat × Nat} {len len' : Nat → Option Nat}
    (hok : ∀ b, ok b → ok' b) (hfr : ∀ b, ok b → fr b → fr' b) (hcell : ∀ b, ok b → w'.heap[b]? = w.heap[b]?)
    (hlen : ∀ id l, len id = some l → ∃ l', len' id = some l' ∧ l ≤ l' ∧ (l = l' → β' id = β id))
    {cs : List AVal} {vs : List Value} (h : CRel ok fr w β len cs vs) : CRel ok' fr' w' β' len' cs vs :=
  ⟨h.1, fun j hj => (h.2 j hj).mono hok hfr hcell hlen⟩
abbrev FZ : Nat := 1000003
def RowAt (w : World) (b : Nat) (t : TypeId) (cur : Array Value) : Prop := ∃ ty fz, w.heap[b]? = some (.cells cur ty fz) ∧ (t ≠ FZ → ty = t ∧ fz = (0, 0))
theorem RowAt.of {w : World} {b : Nat} {t : TypeId} {cur : Array Value} (h : w.heap[b]? = some (.cells cur t (0, 0))) : RowAt w b t cur := ⟨_, _, h, fun _ => ⟨rfl, rfl⟩⟩
theorem RowAt.mono {w w' : World} {b : Nat} {t : TypeId} {cur : Array Value} (h : RowAt w b t cur) (he : w'.heap[b]? = w.heap[b]?) : RowAt w' b t cur := by
  obtain ⟨ty, fz, h1, h2⟩ := h; exact ⟨ty, fz, he.trans h1, h2⟩
theorem RowAt.lt {w : World} {b : Nat} {t : TypeId} {cur : Array Value} (h : RowAt w b t cur) : b < w.heap.size := by
  obtain ⟨ty, fz, h1, _⟩ := h; exact (Array.getElem?_eq_some_iff.1 h1).1
theorem RowAt.ty {w : World} {b : Nat} {t : TypeId} {cur : Array Value} (h : RowAt w b t cur) (hz : t ≠ FZ) : w.heap[b]? = some (.cells cur t (0, 0)) := by
  obtain ⟨ty, fz, h1, h2⟩ := h; obtain ⟨rfl, rfl⟩ := h2 hz; exact h1
def ORel (ok fr : Nat → Prop) (w : World) (β : Nat → Nat × Nat) (len : Nat → Option Nat) (i : Nat) (o : AObj) : Prop :=
  ∃ cur : Array Value, RowAt w (β i).1 o.ty cur ∧ cur.size = (β i).2 * o.es ∧ (β i).2 ≤ maxLen ∧ o.cells.length ≤ cur.size ∧
    CRel ok fr w β len o.cells (cur.toList.take o.cells.length)
def liveW (h : List AObj) (i : Nat) : Prop := ∃ o, h[i]? = some o ∧ o.es ≠ 0 ∧ o.ty ≠ FZ
theorem liveW.live {h : List AObj} {i : Nat} (hl : liveW h i) : live h i := by obtain ⟨o, h1, h2, _⟩ := hl; exact ⟨o, h1, h2⟩
def okIn (W0 : World) (ok0 : Nat → Prop) (w : World) (β : Nat → Nat × Nat) (h : List AObj) (b : Nat) : Prop :=
  b < w.heap.size ∧ (∀ i, liveW h i → (β i).1 ≠ b) ∧ (W0.heap.size ≤ b ∨ ok0 b)
def lookT : List (Nat × List Value) → Nat → Option (List Value)
  | [], _ => none
  | (k, cs) :: r, g => if k = g then some cs else lookT r g
theorem lookT_mem : ∀ (l : List (Nat × List Value)) (g : Nat) (cs : List Value), lookT l g = some cs → (g, cs) ∈ l
  | [], g, cs, h => by cases h
  | (k, cs') :: r, g, cs, h => by
    simp only [lookT] at h
    split at h
    · rename_i hk
      cases h
      rw [hk]; exact List.mem_cons_self
    · exact List.mem_cons_of_mem _ (lookT_mem r g cs h)
def TabRow (w : World) (p : Nat × List Value) : Prop := ∀ j (hj : j < p.2.length), w.cell? ⟨p.1, j, none⟩ = some p.2[j]
theorem TabRow.mono {w w' : World} {p : Nat × List Value} (h : TabRow w p) (he : w'.heap[p.1]? = w.heap[p.1]?) : TabRow w' p := fun j hj => by
  rw [World.cell?_of_block (w := w) he]; exact h j hj
end Go.AW
namespace Go.AW
open Go Go.RowKit
def VR (W0 : World) (ok0 : Nat → Prop) (β : Nat → Nat × Nat) (h : List AObj) (w : World) (x : AVal) (v : Value) : Prop :=
  VRel (okIn W0 ok0 w β h) (fun b => W0.heap.size ≤ b) w β (lens h) x v
def CR (W0 : World) (ok0 : Nat → Prop) (β : Nat → Nat × Nat) (h : List AObj) (w : World) (x : List AVal) (v : List Value) : Prop :=
  CRel (okIn W0 ok0 w β h) (fun b => W0.heap.size ≤ b) w β (lens h) x v
structure HR (W0 : World) (ok0 A : Nat → Prop) (β : Nat → Nat × Nat) (h : List AObj) (w : World) : Prop where
  heap : ∀ i o, h[i]? = some o → o.es ≠ 0 → ORel (okIn W0 ok0 w β h) (fun b => W0.heap.size ≤ b) w β (lens h) i o
  inj : ∀ i j, live h i → live h j → (β i).1 = (β j).1 → i = j
  own : ∀ i, live h i → W0.heap.size ≤ (β i).1
  os : w.os = W0.os
  tape : w.tape = W0.tape
  output : w.output = W0.output
  wsize : W0.heap.size ≤ w.heap.size
  block : ∀ k, k < W0.heap.size → ¬ A k → w.heap[k]? = W0.heap[k]?
  tab : ∀ p ∈ tabs, okIn W0 ok0 w β h p.1 ∧ TabRow w p
structure Step (W0 : World) (ok0 A : Nat → Prop) (β : Nat → Nat × Nat) (h : List AObj) (w : World) (β' : Nat → Nat × Nat) (h' : List AObj) (w' : World) : Prop where
  hr : HR W0 ok0 A β' h' w'
  vr : ∀ x v, VR W0 ok0 β h w x v → VR W0 ok0 β' h' w' x v
  len : h.length ≤ h'.length
  ok : ∀ b, okIn W0 ok0 w β h b → okIn W0 ok0 w' β' h' b ∧ w'.heap[b]? = w.heap[b]?
  sz : w.heap.size ≤ w'.heap.size
theorem Step.refl {W0 : World} {ok0 A : Nat → Prop} {β : Nat → Nat × Nat} {h : List AObj} {w : World} (hr : HR W0 ok0 A β h w) : Step W0 ok0 A β h w β h w := ⟨hr, fun _ _ h => h, Nat.le_refl _, fun _ h => ⟨h, rfl⟩, Nat.le_refl _⟩
def putObj (h : List AObj) (id : Nat) (o : AObj) : List AObj := if id < h.length then h.set id o else h ++ [o]
theorem putObj_length (h : List AObj) (id : Nat) (o : AObj) : (putObj h id o).length = if id < h.length then h.length else h.length + 1 := by
  unfold putObj; split <;> simp
theorem putObj_get_ne (h : List AObj) (id : Nat) (o : AObj) (hid : id ≤ h.length) (j : Nat) (hj : j ≠ id) : (putObj h id o)[j]? = h[j]? := by
  unfold putObj
  split
  · rw [List.getElem?_set_ne (by omega)]
  · have : id = h.length := by omega
    rw [List.getElem?_append]
    split
    · rfl
    · rw [List.getElem?_eq_none (by simp; omega), List.getElem?_eq_none (by omega)]
theorem putObj_get (h : List AObj) (id : Nat) (o : AObj) (hid : id ≤ h.length) : (putObj h id o)[id]? = some o := by
  unfold putObj
  split
  · rename_i hlt; rw [List.getElem?_set_self hlt]
  · have : id = h.length := by omega
    subst this; simp
theorem live_lt {h : List AObj} {i : Nat} (hl : live h i) : i < h.length := by
  obtain ⟨o, ho, _⟩ := hl
  exact (List.getElem?_eq_some_iff.1 ho).1
theorem HR.lt {W0 : World} {ok0 A : Nat → Prop} {β : Nat → Nat × Nat} {h : List AObj} {w : World} (hr : HR W0 ok0 A β h w) {i : Nat} (hi : live h i) : (β i).1 < w.heap.size := by
  obtain ⟨o, ho, hes⟩ := hi
  obtain ⟨cur, hc, _⟩ := hr.heap i o ho hes
  exact hc.lt
theorem live_put {h : List AObj} {id : Nat} {o : AObj} (hid : id ≤ h.length) {i : Nat} (hi : live (putObj h id o) i) (hne : i ≠ id) : live h i := by
  obtain ⟨o', ho', hes⟩ := hi
  rw [putObj_get_ne _ _ _ hid _ hne] at ho'
  exact ⟨o', ho', hes⟩
theorem live_putW {h : List AObj} {id : Nat} {o : AObj} (hid : id ≤ h.length) {i : Nat} (hi : liveW (putObj h id o) i) (hne : i ≠ id) : liveW h i := by
  obtain ⟨o', ho', hes⟩ := hi
  rw [putObj_get_ne _ _ _ hid _ hne] at ho'
  exact ⟨o', ho', hes⟩
theorem step_put {W0 : World} {ok0 A : Nat → Prop} {β : Nat → Nat × Nat} {h : List AObj} {w w' : World} (hr : HR W0 ok0 A β h w)
    (id : Nat) (o : AObj) (g cap : Nat) (cur : Array Value) (hid : id ≤ h.length)
    (hg : (liveW h id ∧ g = (β id).1) ∨ g = w.heap.size) (hes : o.es ≠ 0)
    (hold : ∀ l0, lens h id = some l0 → l0 ≤ o.cells.length ∧ (l0 = o.cells.length → g = (β id).1 ∧ cap = (β id).2))
    (hw : ∀ k, k < w.heap.size → k ≠ g → w'.heap[k]? = w.heap[k]?) (hwg : RowAt w' g o.ty cur)
    (hos : w'.os = w.os) (htape : w'.tape = w.tape) (hout : w'.output = w.output) (hsz : w.heap.size ≤ w'.heap.size)
    (hc1 : cur.size = cap * o.es) (hc2 : cap ≤ maxLen) (hc3 : o.cells.length ≤ cur.size) (hcr : CR W0 ok0 β h w o.cells (cur.toList.take o.cells.length)) :
    Step W0 ok0 A β h w (fun i => if i = id then (g, cap) else β i) (putObj h id o) w' := by
  have hgne : ∀ b, okIn W0 ok0 w β h b → b ≠ g := by
    rintro b ⟨h1, h2, _⟩ rfl
    rcases hg with ⟨hlt, he⟩ | he
    · exact h2 id hlt he.symm
    · omega
  have hok : ∀ b, okIn W0 ok0 w β h b → okIn W0 ok0 w' (fun i => if i = id then (g, cap) else β i) (putObj h id o) b := by
    intro b hb
    have hb0 := hb
    obtain ⟨h1, h2, h3⟩ := hb0
    refine ⟨by omega, fun i hi => ?_, h3⟩
    simp only
    split
    · exact fun e => hgne b hb e.symm
    · rename_i hne
      exact h2 i (live_putW hid hi hne)
  have hcell : ∀ b, okIn W0 ok0 w β h b → w'.heap[b]? = w.heap[b]? := fun b hb => hw b hb.1 (hgne b hb)
  have hlen : ∀ j l, lens h j = some l → ∃ l', lens (putObj h id o) j = some l' ∧ l ≤ l' ∧ (l = l' → (if j = id then (g, cap) else β j) = β j) := by
    intro j l hl
    by_cases hj : j = id
    · subst hj
      obtain ⟨a, b⟩ := hold l hl
      refine ⟨o.cells.length, lens_some (putObj_get _ _ _ hid) hes, a, fun e => ?_⟩
      obtain ⟨b1, b2⟩ := b e
      simp [b1, b2]
    · refine ⟨l, ?_, Nat.le_refl _, fun _ => by simp [hj]⟩
      unfold lens at hl ⊢
      rw [putObj_get_ne _ _ _ hid _ hj]; exact hl
  have hmono : ∀ x v, VR W0 ok0 β h w x v → VR W0 ok0 (fun i => if i = id then (g, cap) else β i) (putObj h id o) w' x v := fun x v hx =>
    VRel.mono hok (fun _ _ h => h) hcell hlen hx
  refine ⟨⟨?_, ?_, ?_, hos.trans hr.os, htape.trans hr.tape, hout.trans hr.output, Nat.le_trans hr.wsize hsz, ?_, fun p hp => ⟨hok _ (hr.tab p hp).1, (hr.tab p hp).2.mono (hcell _ (hr.tab p hp).1)⟩⟩, hmono, ?_, fun b hb => ⟨hok b hb, hcell b hb⟩, hsz⟩
  · intro i oi hi hoe
    by_cases hj : i = id
    · subst hj
      rw [putObj_get _ _ _ hid] at hi
      obtain rfl : o = oi := by simpa using hi
      refine ⟨cur, by simpa using hwg, by simpa using hc1, by simpa using hc2, hc3, ?_⟩
      exact CRel.mono hok (fun _ _ h => h) hcell hlen hcr
    · rw [putObj_get_ne _ _ _ hid _ hj] at hi
      have hil : live h i := ⟨oi, hi, hoe⟩
      obtain ⟨c, h1, h2, h3, h4, h5⟩ := hr.heap i oi hi hoe
      refine ⟨c, ?_, by simpa [hj] using h2, by simpa [hj] using h3, h4, CRel.mono hok (fun _ _ h => h) hcell hlen h5⟩
      simp only [hj, if_false]
      refine h1.mono (hw _ (hr.lt hil) ?_)
      rcases hg with ⟨hlt, he⟩ | he
      · exact fun e => hj (hr.inj i id hil hlt.live (e.trans he))
      · have := hr.lt hil; omega
  · intro i j hi hj he
    by_cases h1 : i = id <;> by_cases h2 : j = id
    · omega
    · have hjl := live_put hid hj h2
      simp only [h1, h2, if_true, if_false] at he
      rcases hg with ⟨hlt, he'⟩ | he'
      · exact absurd (hr.inj j id hjl hlt.live (he.symm.trans he')) h2
      · have := hr.lt hjl; omega
    · have hil := live_put hid hi h1
      simp only [h1, h2, if_true, if_false] at he
      rcases hg with ⟨hlt, he'⟩ | he'
      · exact absurd (hr.inj i id hil hlt.live (he.trans he')) h1
      · have := hr.lt hil; omega
    · simp only [h1, h2, if_false] at he
      exact hr.inj i j (live_put hid hi h1) (live_put hid hj h2) he
  · intro i hi
    split
    · rcases hg with ⟨hlt, he⟩ | he
      · have := hr.own id hlt.live; simpa [he] using this
      · have := hr.wsize; simp only; omega
    · rename_i hne; exact hr.own i (live_put hid hi hne)
  · intro k hk hA
    rw [hw k (by have := hr.wsize; omega) ?_]
    · exact hr.block k hk hA
    · rintro rfl
      rcases hg with ⟨hlt, he⟩ | he
      · have h1 := hr.own id hlt.live
        omega
      · have := hr.wsize; omega
  · rw [putObj_length]; split <;> omega
theorem step_world {W0 : World} {ok0 A : Nat → Prop} {β : Nat → Nat × Nat} {h : List AObj} {w w' : World} (hr : HR W0 ok0 A β h w)
    (hw : Below w.heap.size w w') : Step W0 ok0 A β h w β h w' := by
  have hsz := hw.size
  have hok : ∀ b, okIn W0 ok0 w β h b → okIn W0 ok0 w' β h b := fun b ⟨h1, h2, h3⟩ => ⟨by omega, h2, h3⟩
  have hcell : ∀ b, okIn W0 ok0 w β h b → w'.heap[b]? = w.heap[b]? := fun b hb => hw.block b hb.1
  have hlen : ∀ j l, lens h j = some l → ∃ l', lens h j = some l' ∧ l ≤ l' ∧ (l = l' → β j = β j) := fun j l hl => ⟨l, hl, Nat.le_refl _, fun _ => rfl⟩
  refine ⟨⟨?_, hr.inj, hr.own, hw.os.trans hr.os, hw.tape.trans hr.tape, hw.output.trans hr.output, Nat.le_trans hr.wsize hsz, ?_, fun p hp => ⟨hok _ (hr.tab p hp).1, (hr.tab p hp).2.mono (hcell _ (hr.tab p hp).1)⟩⟩, fun x v hx => VRel.mono hok (fun _ _ h => h) hcell hlen hx, Nat.le_refl _, fun b hb => ⟨hok b hb, hcell b hb⟩, hsz⟩
  · intro i oi hi hoe
    obtain ⟨c, h1, h2, h3, h4, h5⟩ := hr.heap i oi hi hoe
    exact ⟨c, h1.mono (hw.block _ (hr.lt ⟨oi, hi, hoe⟩)), h2, h3, h4, CRel.mono hok (fun _ _ h => h) hcell hlen h5⟩
  · intro k hk hA
    rw [hw.block k (by have := hr.wsize; omega)]; exact hr.block k hk hA
theorem Step.trans {W0 : World} {ok0 A : Nat → Prop} {β β1 β2 : Nat → Nat × Nat} {h h1 h2 : List AObj} {w w1 w2 : World} (s1 : Step W0 ok0 A β h w β1 h1 w1) (s2 : Step W0 ok0 A β1 h1 w1 β2 h2 w2) :
    Step W0 ok0 A β h w β2 h2 w2 := ⟨s2.hr, fun x v hx => s2.vr x v (s1.vr x v hx), Nat.le_trans s1.len s2.len, fun b hb => ⟨(s2.ok b (s1.ok b hb).1).1, (s2.ok b (s1.ok b hb).1).2.trans (s1.ok b hb).2⟩, Nat.le_trans s1.sz s2.sz⟩
end Go.AW
namespace Go.AW
open Go Go.RowKit
structure TyI where
  agg : Bool
  size : Nat
  bytes : Nat
  elem : Option Nat
  kind : Option IntKind
  isBool : Bool
  zero : List Value
  fields : List (Nat × Nat)
  arr : Option (Nat × Nat)
  ptr : Option Nat
  isStr : Bool
  isUp : Bool
abbrev tyOf (d : TypeDesc) (i : TypeInfo) (z : Value) : TyI := { agg := (match d with | .struct _ | .array _ _ => true | _ => false), size := i.size, bytes := i.bytes, elem := (match d with | .slice e => some e | _ => none), kind := (match d with | .int k => some k | _ => none), isBool := (match d with | .bool => true | _ => false), zero := z.cells.toList, fields := (match d with | .struct fs => fs.toList.map (fun f => (f.offset, f.type)) | _ => []), arr := (match d with | .array n e => some (n, e) | _ => none), ptr := (match d with | .pointer e => some e | _ => none), isStr := (match d with | .string => true | _ => false), isUp := (match d with | .unsafePointer => true | _ => false) }
def tyI (P : Program) (t : TypeId) : Option TyI :=
  if t = FZ then none else
  match P.underlying t, P.info? t with
  | some d, some i => match i.zero with
    | some z => some (tyOf d i z)
    | none => none
  | _, _ => none
def ofCell : Value → AVal
  | .slice none 0 0 => .cap0 true
  | v => .val v
def ofConst : Value → AVal
  | .agg cs => .agg (cs.toList.map ofCell)
  | .tuple vs => .tuple (vs.toList.map ofCell)
  | v => ofCell v
def look (env : List (Nat × AVal)) (t : Nat) : AVal :=
  match env with
  | [] => .undef
  | (k, v) :: r => if k = t then v else look r t
def ev (env : List (Nat × AVal)) : Operand → AVal
  | .tmp t => look env t
  | .const v => ofConst v
  | .global g => match lookT tabs g with
    | some cs => .spot false (cs.map .val)
    | none => .val (.pointer (some ⟨g, 0, none⟩))
  | .func f => .func (.func f) [] []
def cellsAt (h : List AObj) (id ext : Nat) : Option (List AVal) :=
  match h[id]? with
  | some o => if o.cells.length = ext then some o.cells else none
  | none => none
def sview (h : List AObj) : AVal → Option (Nat × List AVal)
  | .cap0 _ => some (0, [])
  | .res _ => some (0, [])
  | .lit n cs => some (n, cs)
  | .list _ _ n cs => some (n, cs)
  | .ref id off n ext => (cellsAt h id ext).map fun cs => (n, cs.drop off)
  | .part id off n ext => (cellsAt h id ext).map fun cs => (n, cs.drop off)
  | _ => none
def pview (h : List AObj) : AVal → Option (List AVal)
  | .spot _ cs => some cs
  | .ptr id off ext => (cellsAt h id ext).map (·.drop off)
  | _ => none
def AVal.parts : AVal → Option (List AVal)
  | .undef => none
  | .val (.agg cs) => some (cs.toList.map ofCell)
  | .val (.tuple _) => none
  | .agg cs => some cs
  | .tuple _ => none
  | x => some [x]
def aInt (op : BinOp) (k : IntKind) (a b : Int) : Option AVal :=
  match op with
  | .add => some (.val (.int k (k.wrap (a + b))))
  | .sub => some (.val (.int k (k.wrap (a - b))))
  | .mul => some (.val (.int k (k.wrap (a * b))))
  | .quo => if b = 0 then none else some (.val (.int k (k.wrap (a.tdiv b))))
  | .rem => if b = 0 then none else some (.val (.int k (a.tmod b)))
  | .and => some (.val (.int k (k.wrap ((BitVec.ofInt k.bits a &&& BitVec.ofInt k.bits b).toNat))))
  | .or => some (.val (.int k (k.wrap ((BitVec.ofInt k.bits a ||| BitVec.ofInt k.bits b).toNat))))
  | .xor => some (.val (.int k (k.wrap ((BitVec.ofInt k.bits a ^^^ BitVec.ofInt k.bits b).toNat))))
  | .andNot => some (.val (.int k (k.wrap ((BitVec.ofInt k.bits a &&& ~~~ BitVec.ofInt k.bits b).toNat))))
  | .eql => some (.val (.bool (a == b)))
  | .neq => some (.val (.bool (a != b)))
  | .lss => some (.val (.bool (decide (a < b))))
  | .leq => some (.val (.bool (decide (a ≤ b))))
  | .gtr => some (.val (.bool (decide (a > b))))
  | .geq => some (.val (.bool (decide (a ≥ b))))
  | .shl => if b < 0 then none else some (.val (.int k (k.wrap (a * 2 ^ (min b.toNat k.bits)))))
  | .shr => if b < 0 then none else some (.val (.int k (a.fdiv (2 ^ (min b.toNat k.bits)))))
def isShift : BinOp → Bool
  | .shl | .shr => true
  | _ => false
def nilB : AVal → Option Bool
  | .cap0 b => some b
  | .res _ => some true
  | .lit _ _ => some false
  | .list _ b _ _ => some b
  | .ref .. => some false
  | _ => none
def eqInts : List AVal → List AVal → Option Bool
  | [], [] => some true
  | .val (.int k a) :: r, .val (.int k' b) :: r' => if k = k' then (eqInts r r').map fun e => (a == b) && e else none
  | _, _ => none
def isIntT (P : Program) (t : TypeId) : Bool := P.plainKey t && P.cellsOf t == 1 && (P.info? t).isSome && (match P.underlying t with | some (.int _) => true | _ => false)
def numCells (P : Program) (t : TypeId) : Option Nat :=
  if P.eqGuardType P.depth t then none else
  match P.underlying t with
  | some (.array n e) => if isIntT P e then some n else none
  | some (.struct fs) => if !P.stoodInHeld t && fs.toList.zipIdx.all (fun f => f.1.offset == f.2 && f.1.name != "_" && isIntT P f.1.type) then some fs.size else none
  | _ => none
def eqK : List Bool → List AVal → List AVal → Option Bool
  | [], [], [] => some true
  | true :: ks, .val (.bool a) :: r, .val (.bool b) :: r' => (eqK ks r r').map fun e => (a == b) && e
  | false :: ks, .val (.int k a) :: r, .val (.int k' b) :: r' => if k = k' then (eqK ks r r').map fun e => (a == b) && e else none
  | _, _, _ => none
def fieldKs (P : Program) (g : TypeId → Option (List Bool)) : List Field → Nat → Option (List Bool)
  | [], _ => some []
  | f :: fs, o => match g f.type with
    | some ks => if f.offset = o ∧ f.name ≠ "_" ∧ ks.length = P.cellsOf f.type then (fieldKs P g fs (o + ks.length)).map (ks ++ ·) else none
    | none => none
def cellKs (P : Program) : Nat → TypeId → Option (List Bool)
  | 0, _ => none
  | d + 1, t => match P.underlying t with
    | some .bool => if P.cellsOf t = 1 ∧ (P.info? t).isSome = true then some [true] else none
    | some (.int _) => if P.cellsOf t = 1 ∧ (P.info? t).isSome = true then some [false] else none
    | some (.array n e) => match cellKs P d e with
      | some ks => if ks.length = P.cellsOf e ∧ P.cellsOf t = n * ks.length ∧ (P.info? t).isSome = true ∧ (P.info? e).isSome = true then some (List.replicate n ks).flatten else none
      | none => none
    | some (.struct fs) => match fieldKs P (cellKs P d) fs.toList 0 with
      | some ks => if P.stoodInHeld t = false ∧ ks.length = P.cellsOf t ∧ (P.info? t).isSome = true then some ks else none
      | none => none
    | _ => none
def aBin (P : Program) (t : TypeId) (op : BinOp) (x y : AVal) : Option AVal :=
  match x, y with
  | .val (.int k a), .val (.int k' b) => if k = k' ∨ isShift op = true then aInt op k a b else none
  | .val (.bool a), .val (.bool b) => match tyI P t with
    | some T => if T.isBool then (match op with | .eql => some (.val (.bool (a == b))) | .neq => some (.val (.bool (!(a == b)))) | _ => none) else none
    | none => none
  | .val (.string a), .val (.string b) => match op with
    | .eql => some (.val (.bool (a.toList == b.toList)))
    | .neq => some (.val (.bool (!(a.toList == b.toList))))
    | _ => none
  | .agg xs, .agg ys => if numCells P t = some xs.length then (match eqInts xs ys, op with | some e, .eql => some (.val (.bool e)) | some e, .neq => some (.val (.bool (!e))) | _, _ => none) else
    if (numCells P t).isSome = true ∨ P.eqGuardType P.depth t = true then none else (match P.underlying t with
      | some (.struct _) | some (.array _ _) => (match cellKs P 5 t with
        | some ks => (match eqK ks xs ys, op with | some e, .eql => some (.val (.bool e)) | some e, .neq => some (.val (.bool (!e))) | _, _ => none)
        | none => none)
      | _ => none)
  | x, .cap0 true => match tyI P t with
    | some T => if T.elem.isSome then (match nilB x, op with | some b, .eql => some (.val (.bool b)) | some b, .neq => some (.val (.bool (!b))) | _, _ => none) else none
    | none => none
  | _, _ => none
def aPart (P : Program) (t : TypeId) (cs : List AVal) : Option AVal :=
  match tyI P t with
  | some T => if T.agg then (if T.size ≤ cs.length then some (.agg (cs.take T.size)) else none) else cs[0]?
  | none => none
def aIdx (P : Program) (t : TypeId) (h : List AObj) (x i : AVal) : Option AVal :=
  match tyI P t with
  | some T => match T.elem with
    | some e => match tyI P e, i with
      | some E, .val (.int _ n) => match x with
        | .list p _ m cs => if 0 ≤ n ∧ n < m then some (.spot p (cs.drop (n.toNat * E.size))) else none
        | .lit m cs => if 0 ≤ n ∧ n < m then some (.spot true (cs.drop (n.toNat * E.size))) else none
        | .ref id off m ext => if 0 ≤ n ∧ n < m ∧ (cellsAt h id ext).isSome then some (.ptr id (off + n.toNat * E.size) ext) else none
        | _ => none
      | _, _ => none
    | none => match T.arr, i with
      | some (len, e), .val (.int _ n) => match tyI P e, x with
        | some E, .spot p cs => if 0 ≤ n ∧ n < len then some (.spot p (cs.drop (n.toNat * E.size))) else none
        | some E, .ptr id off ext => if 0 ≤ n ∧ n < len ∧ (cellsAt h id ext).isSome then some (.ptr id (off + n.toNat * E.size) ext) else none
        | _, _ => none
      | _, _ => none
  | none => none
def aField (P : Program) (s : TypeId) (x : AVal) (f : Nat) (h : List AObj) : Option AVal :=
  match tyI P s with
  | some T => match T.fields[f]? with
    | some (off, ft) => match tyI P ft with
      | some F => if F.size = 0 then none else match x with
        | .spot p cs => some (.spot p (cs.drop off))
        | .ptr id o ext => if (cellsAt h id ext).isSome then some (.ptr id (o + off) ext) else none
        | _ => none
      | none => none
    | none => none
  | none => none
def aMinMax (mx : Bool) (args : List AVal) : Option AVal :=
  match args with
  | [.val (.int k x), .val (.int k' y)] => if k = k' then some (.val (.int k (if mx then (if y > x then y else x) else (if y < x then y else x)))) else none
  | _ => none
def aIndex (P : Program) (t : TypeId) (x i : AVal) : Option AVal :=
  match tyI P t, i with
  | some T, .val (.int _ n) => match x with
    | .val (.string s) => if T.isStr = true ∧ 0 ≤ n then (s[n.toNat]?).map fun b => .val (.int .u8 b.toNat) else none
    | .agg cs => match T.arr with
      | some (len, e) => match tyI P e with
        | some E => if 0 ≤ n ∧ n < len then aPart P e (cs.drop (n.toNat * E.size)) else none
        | none => none
      | none => none
    | _ => none
  | _, _ => none
def aData (h : List AObj) : AVal → Option AVal
  | .cap0 true => some (.val (.pointer none))
  | .res _ => some (.val (.pointer none))
  | .list _ true _ _ => some (.val (.pointer none))
  | .list p false n cs => if 0 < n then some (.spot p cs) else none
  | .lit n cs => if 0 < n then some (.spot true cs) else none
  | .ref id off n ext => if 0 < n ∧ (cellsAt h id ext).isSome then some (.ptr id off ext) else none
  | _ => none
def isNil : AVal → Bool
  | .cap0 true => true
  | .list _ true 0 [] => true
  | _ => false
def aPure (P : Program) (o : Oper) (ρ : Operand → AVal) (h : List AObj) : Option AVal :=
  match o.op with
  | .move x | .assign x => some (ρ x)
  | .pick c a b => match ρ c with
    | .val (.bool t) => some (if t then ρ a else ρ b)
    | _ => none
  | .load t a => match pview h (ρ a) with
    | some cs => aPart P t cs
    | none => none
  | .nilCheck x => match ρ x with
    | .spot p cs => some (.spot p cs)
    | .ptr id off ext => if (cellsAt h id ext).isSome then some (.ptr id off ext) else none
    | .func (.func f) a b => some (.func (.func f) a b)
    | _ => none
  | .binOp op t x y _ => aBin P t op (ρ x) (ρ y)
  | .unOp op _ x => match op, ρ x with
    | .not, .val (.bool b) => some (.val (.bool (!b)))
    | .neg, .val (.int k n) => some (.val (.int k (k.wrap (0 - n))))
    | _, _ => none
  | .convert s d x => match tyI P s, tyI P d, ρ x with
    | some _, some D, .val (.int _ n) => match D.kind with
      | some k => some (.val (.int k (k.wrap n)))
      | none => none
    | _, _, _ => none
  | .makeFunc fn first captured => some (.func fn (first.toList.map ρ) (captured.toList.map ρ))
  | .fieldAddr s x f => aField P s (ρ x) f h
  | .field t x f => match tyI P t, ρ x with
    | some T, .agg cs => match T.fields[f]? with
      | some (off, ft) => aPart P ft (cs.drop off)
      | none => none
    | _, _ => none
  | .indexAddr t x i => aIdx P t h (ρ x) (ρ i)
  | .index t x i => aIndex P t (ρ x) (ρ i)
  | .extract t i => match ρ t with
    | .tuple vs => vs[i]?
    | _ => none
  | .call { callee := .builtin b, args, argTypes } => match b, args.toList.map ρ with
    | .len, [x] => match sview h x, argTypes[0]? with
      | some (n, _), some t => match tyI P t with
        | some T => if T.elem.isSome then some (.val (.int .i64 n)) else none
        | none => none
      | _, _ => none
    | .min, l => aMinMax false l
    | .max, l => aMinMax true l
    | .unsafeSliceData, [x] => aData h x
    | .cap, [x] => match argTypes[0]? with
      | some t => match tyI P t with
        | some T => if T.elem.isSome && isNil x then some (.val (.int .i64 0)) else none
        | none => none
      | none => none
    | _, _ => none
  | _ => none
end Go.AW
namespace Go.AW
open Go Go.RowKit
section
variable {P : Program} {W0 : World} {ok0 A : Nat → Prop} {β : Nat → Nat × Nat} {h : List AObj} {w : World}
theorem ofCell_rel {ok fr : Nat → Prop} {len : Nat → Option Nat} (v : Value) : VRel ok fr w β len (ofCell v) v := by
  unfold ofCell
  split
  · exact .cap0 true none rfl (fun _ h => by cases h)
  · exact .val _
theorem ofCells_rel {ok fr : Nat → Prop} {len : Nat → Option Nat} (cs : Array Value) (j : Nat) (hj : j < (cs.toList.map ofCell).length) : VRel ok fr w β len (cs.toList.map ofCell)[j] (cs.getD j undef) := by
  simp only [List.getElem_map, Array.getElem_toList]
  have : j < cs.size := by simpa using hj
  simpa [this] using ofCell_rel (cs[j])
theorem ofConst_rel {ok fr : Nat → Prop} {len : Nat → Option Nat} (v : Value) : VRel ok fr w β len (ofConst v) v := by
  unfold ofConst
  split
  · rename_i cs; exact .agg _ _ (by simp) (fun j hj => ofCells_rel cs j hj)
  · rename_i cs; exact .tuple _ _ (by simp) (fun j hj => ofCells_rel cs j hj)
  · exact ofCell_rel _
theorem global_rel (hT : ∀ p ∈ tabs, okIn W0 ok0 w β h p.1 ∧ TabRow w p) (g : Nat) : VR W0 ok0 β h w (match lookT tabs g with | some cs => AVal.spot false (cs.map .val) | none => .val (.pointer (some ⟨g, 0, none⟩))) (.pointer (some ⟨g, 0, none⟩)) := by
  cases hl : lookT tabs g with
  | none => exact .val _
  | some cs =>
    obtain ⟨h1, h2⟩ := hT _ (lookT_mem _ _ _ hl)
    refine .spot false g 0 _ (fun j => cs.getD j undef) (fun _ => h1) (fun h => by cases h) (fun j hj => ?_) (fun j hj => ?_)
    · have hj' : j < cs.length := by simpa using hj
      rw [Nat.zero_add, h2 j hj']; simp [hj']
    · have hj' : j < cs.length := by simpa using hj
      simp only [List.getElem_map, List.getD_eq_getElem?_getD, List.getElem?_eq_getElem hj', Option.getD_some]
      exact .val _
theorem ev_rel {env : List (Nat × AVal)} {a : Act} (hT : ∀ p ∈ tabs, okIn W0 ok0 w β h p.1 ∧ TabRow w p) (he : ∀ t, VR W0 ok0 β h w (look env t) (a.tmps.getD t undef)) (x : Operand) : VR W0 ok0 β h w (ev env x) (a.eval x) := by
  cases x with
  | tmp t => exact he t
  | const v => exact ofConst_rel v
  | global g => exact global_rel hT g
  | func f => exact .func _ _ _ _ _ rfl rfl (fun j hj => by simp at hj) (fun j hj => by simp at hj)
theorem cellsAt_some {id ext : Nat} {cs : List AVal} (hc : cellsAt h id ext = some cs) : ∃ o, h[id]? = some o ∧ o.cells = cs ∧ cs.length = ext := by
  unfold cellsAt at hc
  split at hc
  · rename_i o ho
    split at hc
    · rename_i hl; simp at hc; subst hc; exact ⟨o, ho, rfl, hl⟩
    · cases hc
  · cases hc
theorem HR.cell (hr : HR W0 ok0 A β h w) {id : Nat} {o : AObj} (ho : h[id]? = some o) (hes : o.es ≠ 0) (j : Nat) (hj : j < o.cells.length) :
    ∃ u, w.cell? ⟨(β id).1, j, none⟩ = some u ∧ VR W0 ok0 β h w o.cells[j] u := by
  obtain ⟨cur, ⟨ty, fz, h1, _⟩, h2, h3, h4, h5, h6⟩ := hr.heap id o ho hes
  have hjc : j < cur.size := by omega
  refine ⟨cur[j], ?_, ?_⟩
  · rw [cell_of_row w _ j cur ty fz h1]; simp [hjc]
  · have := h6 j hj
    simpa [VR, hj, hjc] using this
theorem lens_at {id l : Nat} {o : AObj} (ho : h[id]? = some o) (hl : lens h id = some l) : o.es ≠ 0 ∧ l = o.cells.length := by
  obtain ⟨o', ho', hes, rfl⟩ := lens_live hl
  rw [ho] at ho'; cases ho'
  exact ⟨hes, rfl⟩
theorem VR.ptr_es {id off ext : Nat} {v : Value} {o : AObj} (hx : VR W0 ok0 β h w (.ptr id off ext) v) (ho : h[id]? = some o) : o.es ≠ 0 := by
  cases hx with
  | ptr _ _ _ l a hl' he live => exact (lens_at ho hl').1
theorem VR.ref_es {id off n ext : Nat} {v : Value} {o : AObj} (hx : VR W0 ok0 β h w (.ref id off n ext) v) (ho : h[id]? = some o) : o.es ≠ 0 := by
  cases hx with
  | ref _ _ _ _ l cap a hl' he hn ha live => exact (lens_at ho hl').1
theorem VR.ptr_live {id off ext : Nat} {v : Value} {cs : List AVal} (hx : VR W0 ok0 β h w (.ptr id off ext) v) (hc : cellsAt h id ext = some cs) : v = .pointer (some ⟨(β id).1, off, none⟩) := by
  obtain ⟨o, ho, rfl, hl⟩ := cellsAt_some hc
  cases hx with
  | ptr _ _ _ l a hl' he live =>
    have hl2 := (lens_at ho hl').2
    rw [live (by omega)]
theorem VR.ref_live {id off n ext : Nat} {v : Value} {cs : List AVal} (hx : VR W0 ok0 β h w (.ref id off n ext) v) (hc : cellsAt h id ext = some cs) : ∃ cap, n ≤ cap ∧ (off = 0 → cap = (β id).2) ∧ v = .slice (some ⟨(β id).1, off, none⟩) n cap := by
  obtain ⟨o, ho, rfl, hl⟩ := cellsAt_some hc
  cases hx with
  | ref _ _ _ _ l cap a hl' he hn ha live =>
    have hl2 := (lens_at ho hl').2
    obtain ⟨h1, h2⟩ := live (by omega)
    exact ⟨cap, hn, h2, by rw [h1]⟩
theorem VR.part_es {id off n ext : Nat} {v : Value} {o : AObj} (hx : VR W0 ok0 β h w (.part id off n ext) v) (ho : h[id]? = some o) : o.es ≠ 0 := by
  cases hx with
  | part _ _ _ _ l cap a hl' he hn live => exact (lens_at ho hl').1
theorem VR.part_live {id off n ext : Nat} {v : Value} {cs : List AVal} (hx : VR W0 ok0 β h w (.part id off n ext) v) (hc : cellsAt h id ext = some cs) : ∃ cap, n ≤ cap ∧ v = .slice (some ⟨(β id).1, off, none⟩) n cap := by
  obtain ⟨o, ho, rfl, hl⟩ := cellsAt_some hc
  cases hx with
  | part _ _ _ _ l cap a hl' he hn live =>
    have hl2 := (lens_at ho hl').2
    exact ⟨cap, hn, by rw [live (by omega)]⟩
def Cells (W0 : World) (ok0 : Nat → Prop) (β : Nat → Nat × Nat) (h : List AObj) (w : World) (b off : Nat) (cs : List AVal) : Prop :=
  ∀ j (hj : j < cs.length), ∃ u, w.cell? ⟨b, off + j, none⟩ = some u ∧ VR W0 ok0 β h w cs[j] u
theorem Cells.drop {b off : Nat} {cs : List AVal} (hc : Cells W0 ok0 β h w b off cs) (k : Nat) : Cells W0 ok0 β h w b (off + k) (cs.drop k) := by
  intro j hj
  obtain ⟨u, h1, h2⟩ := hc (k + j) (by simp at hj; omega)
  exact ⟨u, by rw [Nat.add_assoc]; exact h1, by simpa using h2⟩
theorem Cells.take {b off : Nat} {cs : List AVal} (hc : Cells W0 ok0 β h w b off cs) (k : Nat) : Cells W0 ok0 β h w b off (cs.take k) := by
  intro j hj
  obtain ⟨u, h1, h2⟩ := hc j (by simp at hj; omega)
  exact ⟨u, h1, by simpa using h2⟩
theorem HR.cells (hr : HR W0 ok0 A β h w) {id : Nat} {o : AObj} (ho : h[id]? = some o) (hes : o.es ≠ 0) (off : Nat) : Cells W0 ok0 β h w (β id).1 off (o.cells.drop off) := by
  have h0 : Cells W0 ok0 β h w (β id).1 0 o.cells := fun j hj => by simpa using hr.cell ho hes j hj
  simpa using h0.drop off
theorem pview_rel (hr : HR W0 ok0 A β h w) {x : AVal} {v : Value} {cs : List AVal} (hx : VR W0 ok0 β h w x v) (hp : pview h x = some cs) :
    ∃ b off, v = .pointer (some ⟨b, off, none⟩) ∧ Cells W0 ok0 β h w b off cs := by
  unfold pview at hp
  split at hp
  · rename_i p cs'
    simp at hp; subst hp
    cases hx with
    | spot _ b off _ cv hok hp hc hr' => exact ⟨b, off, rfl, fun j hj => ⟨cv j, hc j hj, hr' j hj⟩⟩
  · rename_i id off ext
    obtain ⟨cs', hcs, rfl⟩ := Option.map_eq_some_iff.1 hp
    have hv := hx.ptr_live hcs
    obtain ⟨o, ho, rfl, hl⟩ := cellsAt_some hcs
    exact ⟨_, _, hv, hr.cells ho (hx.ptr_es ho) off⟩
  · cases hp
theorem sview_rel (hr : HR W0 ok0 A β h w) {x : AVal} {v : Value} {n : Nat} {cs : List AVal} (hx : VR W0 ok0 β h w x v) (hp : sview h x = some (n, cs)) :
    ∃ a cap, v = .slice a n cap ∧ n ≤ cap ∧ ((a = none ∧ n = 0 ∧ cap = 0 ∧ cs = []) ∨ (n = 0 ∧ cs = []) ∨ ∃ b off, a = some ⟨b, off, none⟩ ∧ Cells W0 ok0 β h w b off cs) := by
  unfold sview at hp
  split at hp
  · rename_i b
    simp at hp; obtain ⟨rfl, rfl⟩ := hp
    cases hx with
    | cap0 b a hb _ => exact ⟨a, 0, rfl, Nat.le_refl _, .inr (.inl ⟨rfl, rfl⟩)⟩
  · simp at hp; obtain ⟨rfl, rfl⟩ := hp
    cases hx with
    | res k => exact ⟨none, 0, rfl, Nat.le_refl _, .inr (.inl ⟨rfl, rfl⟩)⟩
  · rename_i n' cs'
    simp at hp; obtain ⟨rfl, rfl⟩ := hp
    cases hx with
    | lit b off n cs cv hok hp hc hr' => exact ⟨_, _, rfl, Nat.le_refl _, .inr (.inr ⟨b, off, rfl, fun j hj => ⟨cv j, hc j hj, hr' j hj⟩⟩)⟩
  · rename_i p b n' cs'
    simp at hp; obtain ⟨rfl, rfl⟩ := hp
    cases hx with
    | nil p => exact ⟨none, 0, rfl, Nat.le_refl _, .inl ⟨rfl, rfl, rfl, rfl⟩⟩
    | list p b off n cap cs cv hok hp hn hc hr' => exact ⟨_, cap, rfl, hn, .inr (.inr ⟨b, off, rfl, fun j hj => ⟨cv j, hc j hj, hr' j hj⟩⟩)⟩
  · rename_i id off n' ext
    obtain ⟨cs', hcs, h1⟩ := Option.map_eq_some_iff.1 hp
    simp at h1; obtain ⟨rfl, rfl⟩ := h1
    obtain ⟨cap, hn, _, rfl⟩ := hx.ref_live hcs
    obtain ⟨o, ho, rfl, hl⟩ := cellsAt_some hcs
    exact ⟨_, cap, rfl, hn, .inr (.inr ⟨_, _, rfl, hr.cells ho (hx.ref_es ho) off⟩)⟩
  · rename_i id off n' ext
    obtain ⟨cs', hcs, h1⟩ := Option.map_eq_some_iff.1 hp
    simp at h1; obtain ⟨rfl, rfl⟩ := h1
    obtain ⟨cap, hn, rfl⟩ := hx.part_live hcs
    obtain ⟨o, ho, rfl, hl⟩ := cellsAt_some hcs
    exact ⟨_, cap, rfl, hn, .inr (.inr ⟨_, _, rfl, hr.cells ho (hx.part_es ho) off⟩)⟩
  · cases hp
theorem tyI_some {t : TypeId} {T : TyI} (ht : tyI P t = some T) : ∃ d i z, P.underlying t = some d ∧ P.info? t = some i ∧ i.zero = some z ∧ T = tyOf d i z := by
  unfold tyI at ht
  split at ht
  · cases ht
  split at ht
  · rename_i d i hd hi
    split at ht
    · rename_i z hz
      simp only [Option.some.injEq] at ht
      exact ⟨d, i, z, hd, hi, hz, ht.symm⟩
    · cases ht
  · cases ht
theorem tyI_ne {t : TypeId} {T : TyI} (ht : tyI P t = some T) : t ≠ FZ := by
  rintro rfl
  simp [tyI] at ht
theorem run_isAgg' {t : TypeId} {T : TyI} (ht : tyI P t = some T) : (isAgg t).run P w = .ok T.agg w := by
  obtain ⟨d, i, z, hd, hi, hz, rfl⟩ := tyI_some ht
  simp only [isAgg, Sem.run_bind, run_underlying hd, Result.andThen_ok]
  cases d <;> rfl
theorem run_sizeOf' {t : TypeId} {T : TyI} (ht : tyI P t = some T) : (sizeOf t).run P w = .ok T.size w := by
  obtain ⟨d, i, z, hd, hi, hz, rfl⟩ := tyI_some ht
  simp [sizeOf, typeInfo, hi]
theorem elem_slice {t e : TypeId} {T : TyI} (ht : tyI P t = some T) (he : T.elem = some e) : P.underlying t = some (.slice e) := by
  obtain ⟨d, i, z, hd, hi, hz, rfl⟩ := tyI_some ht
  rw [hd]
  cases d <;> simp at he
  subst he; rfl
theorem loadVar_rel {t : TypeId} {cs : List AVal} {x : AVal} {b off : Nat} (hx : aPart P t cs = some x) (hc : Cells W0 ok0 β h w b off cs) :
    ∃ v, (loadVar t ⟨b, off, none⟩).run P w = .ok v w ∧ VR W0 ok0 β h w x v := by
  unfold aPart at hx
  split at hx
  · rename_i T ht
    split at hx
    · rename_i hagg
      split at hx
      · rename_i hsz
        simp at hx; subst hx
        have hrun : ∀ j, j < T.size → w.cell? ((⟨b, off, none⟩ : Addr).add j) = some ((w.cell? ⟨b, off + j, none⟩).getD undef) := fun j hj => by
          obtain ⟨u, h1, _⟩ := hc j (by omega)
          rw [Addr.add_lit]; simp [h1]
        refine ⟨.agg ((List.range T.size).map fun j => (w.cell? ⟨b, off + j, none⟩).getD undef).toArray, ?_, ?_⟩
        · simp only [loadVar, Sem.run_bind, run_isAgg' ht, Result.andThen_ok, hagg, if_true, run_sizeOf' ht]
          rw [run_loadCells _ _ _ _ hrun]
          rfl
        · refine .agg _ _ (by simp; omega) fun j hj => ?_
          have hj' : j < T.size := by simp at hj; omega
          obtain ⟨u, h1, h2⟩ := hc j (by omega)
          show VR W0 ok0 β h w _ _
          simp only [List.getElem_take]
          simpa [hj', h1] using h2
      · cases hx
    · rename_i hagg
      have hlt : 0 < cs.length := by
        rcases Nat.eq_zero_or_pos cs.length with h0 | h0
        · rw [List.getElem?_eq_none (by omega)] at hx; cases hx
        · exact h0
      obtain ⟨u, h1, h2⟩ := hc 0 hlt
      have hx0 : cs[0] = x := by simpa [hlt] using hx
      refine ⟨u, ?_, hx0 ▸ h2⟩
      simp only [loadVar, Sem.run_bind, run_isAgg' ht, Result.andThen_ok, hagg]
      simp only [Nat.add_zero] at h1
      simp [h1]
  · cases hx
end
end Go.AW
namespace Go.AW
open Go Go.RowKit
section
variable {P : Program} {W0 : World} {ok0 A : Nat → Prop} {β : Nat → Nat × Nat} {h : List AObj} {w : World}
theorem equalIn_bool (d : Nat) {t : TypeId} (hd : P.underlying t = some .bool) (a b : Bool) : (Op.equalIn (d + 1) t (.bool a) (.bool b)).run P w = .ok (a == b) w := by
  simp [Op.equalIn, run_underlying hd]
theorem equal_bool {t : TypeId} (hd : P.underlying t = some .bool) (a b : Bool) : (Op.equal t (.bool a) (.bool b)).run P w = .ok (a == b) w := equalIn_bool 9999 hd a b
theorem equalIn_nil (d : Nat) {t e : TypeId} (hd : P.underlying t = some (.slice e)) (a : Option Addr) (n c : Nat) : (Op.equalIn (d + 1) t (.slice a n c) (.slice none 0 0)).run P w = .ok a.isNone w := by
  cases a <;> simp [Op.equalIn, run_underlying hd]
theorem equal_nil {t e : TypeId} (hd : P.underlying t = some (.slice e)) (a : Option Addr) (n c : Nat) : (Op.equal t (.slice a n c) (.slice none 0 0)).run P w = .ok a.isNone w := equalIn_nil 9999 hd a n c
theorem equalIn_int (d : Nat) {t : TypeId} (hd : isIntT P t = true) (k : IntKind) (a b : Int) : (Op.equalIn (d + 1) t (.int k a) (.int k b)).run P w = .ok (a == b) w := by
  unfold isIntT at hd
  simp only [Bool.and_eq_true] at hd
  cases hu : P.underlying t with
  | none => simp [hu] at hd
  | some x => cases x <;> simp [hu] at hd; simp [Op.equalIn, run_underlying hu]
theorem val_eq {v u : Value} (hx : VR W0 ok0 β h w (.val v) u) : u = v := by cases hx; rfl
theorem eqItems_ints (d : Nat) {e : TypeId} (he : isIntT P e = true) (xs ys : Array Value) : ∀ (cs ds : List AVal) (o : Nat) (r : Bool), eqInts cs ds = some r → xs.size = o + cs.length → ys.size = o + ds.length →
    (∀ j (hj : j < cs.length), VR W0 ok0 β h w cs[j] (xs.getD (o + j) undef)) → (∀ j (hj : j < ds.length), VR W0 ok0 β h w ds[j] (ys.getD (o + j) undef)) →
    (Op.eqItems (d + 1) e (P.cellsOf e) xs ys (List.range' o cs.length)).run P w = .ok r w := by
  have h1 : P.cellsOf e = 1 := by unfold isIntT at he; simp only [Bool.and_eq_true, beq_iff_eq] at he; exact he.1.1.2
  have hp : P.plainKey e = true := by unfold isIntT at he; simp only [Bool.and_eq_true, beq_iff_eq] at he; exact he.1.1.1
  intro cs
  induction cs with
  | nil =>
    intro ds o r hr _ _ _ _
    cases ds with
    | nil => simp [eqInts] at hr; subst hr; simp [Op.eqItems]
    | cons => simp [eqInts] at hr
  | cons c cs ih =>
    intro ds o r hr hx hy hc hd
    cases ds with
    | nil => simp [eqInts] at hr
    | cons c' ds =>
      unfold eqInts at hr
      split at hr
      · cases ‹_ :: _ = []›
      · rename_i k a r1 k' b r2 e1 e2
        cases e1; cases e2
        split at hr
        · rename_i hk; subst hk
          obtain ⟨r', hr', rfl⟩ := Option.map_eq_some_iff.1 hr
          have q1 := hc 0 (by simp)
          have q2 := hd 0 (by simp)
          simp only [List.getElem_cons_zero, Nat.add_zero] at q1 q2
          have ho : o < xs.size := by simp at hx; omega
          have ho' : o < ys.size := by simp at hy; omega
          have e1 : xs[o]? = some (.int k a) := by
            rw [Array.getElem?_eq_getElem ho]
            simp only [Array.getD_eq_getD_getElem?, Array.getElem?_eq_getElem ho, Option.getD_some] at q1
            rw [val_eq q1]
          have e2 : ys[o]? = some (.int k b) := by
            rw [Array.getElem?_eq_getElem ho']
            simp only [Array.getD_eq_getD_getElem?, Array.getElem?_eq_getElem ho', Option.getD_some] at q2
            rw [val_eq q2]
          have hrest := ih ds (o + 1) r' hr' (by simp at hx; omega) (by simp at hy; omega) (fun j hj => by have := hc (j + 1) (by simp; omega); simpa [Nat.add_assoc, Nat.add_comm 1] using this) (fun j hj => by have := hd (j + 1) (by simp; omega); simpa [Nat.add_assoc, Nat.add_comm 1] using this)
          simp only [List.length_cons, List.range'_succ, Op.eqItems, Sem.run_bind, h1, Nat.mul_one, run_part_plain w hp e1, run_part_plain w hp e2, equalIn_int d he, Result.andThen_ok]
          rw [h1] at hrest
          by_cases hab : a = b
          · subst hab; simpa using hrest
          · have : (a == b) = false := by simpa using hab
            simp [this]
        · cases hr
      · cases hr
theorem eqFields_ints (d : Nat) (xs ys : Array Value) : ∀ (fs : List Field) (cs ds : List AVal) (o : Nat) (r : Bool), (fs.zipIdx o).all (fun f => f.1.offset == f.2 && f.1.name != "_" && isIntT P f.1.type) = true → fs.length = cs.length → eqInts cs ds = some r → xs.size = o + cs.length → ys.size = o + ds.length →
    (∀ j (hj : j < cs.length), VR W0 ok0 β h w cs[j] (xs.getD (o + j) undef)) → (∀ j (hj : j < ds.length), VR W0 ok0 β h w ds[j] (ys.getD (o + j) undef)) →
    (Op.eqFields (d + 1) xs ys fs).run P w = .ok r w := by
  intro fs
  induction fs with
  | nil =>
    intro cs ds o r _ hl hr _ _ _ _
    cases cs with
    | nil => cases ds with
      | nil => simp [eqInts] at hr; subst hr; simp [Op.eqFields]
      | cons => simp [eqInts] at hr
    | cons => simp at hl
  | cons f fs ih =>
    intro cs ds o r hf hl hr hx hy hc hd
    cases cs with
    | nil => simp at hl
    | cons c cs =>
      cases ds with
      | nil => simp [eqInts] at hr
      | cons c' ds =>
        simp only [List.zipIdx_cons, List.all_cons, Bool.and_eq_true, beq_iff_eq, bne_iff_ne, ne_eq] at hf
        obtain ⟨⟨⟨f1, f2⟩, f3⟩, f4⟩ := hf
        have hp : P.plainKey f.type = true := by unfold isIntT at f3; simp only [Bool.and_eq_true, beq_iff_eq] at f3; exact f3.1.1.1
        unfold eqInts at hr
        split at hr
        · cases ‹_ :: _ = []›
        · rename_i k a r1 k' b r2 e1 e2
          cases e1; cases e2
          split at hr
          · rename_i hk; subst hk
            obtain ⟨r', hr', rfl⟩ := Option.map_eq_some_iff.1 hr
            have q1 := hc 0 (by simp)
            have q2 := hd 0 (by simp)
            simp only [List.getElem_cons_zero, Nat.add_zero] at q1 q2
            have ho : o < xs.size := by simp at hx; omega
            have ho' : o < ys.size := by simp at hy; omega
            have e1 : xs[o]? = some (.int k a) := by
              rw [Array.getElem?_eq_getElem ho]
              simp only [Array.getD_eq_getD_getElem?, Array.getElem?_eq_getElem ho, Option.getD_some] at q1
              rw [val_eq q1]
            have e2 : ys[o]? = some (.int k b) := by
              rw [Array.getElem?_eq_getElem ho']
              simp only [Array.getD_eq_getD_getElem?, Array.getElem?_eq_getElem ho', Option.getD_some] at q2
              rw [val_eq q2]
            have hrest := ih cs ds (o + 1) r' (by simpa using f4) (by simpa using hl) hr' (by simp at hx; omega) (by simp at hy; omega) (fun j hj => by have := hc (j + 1) (by simp; omega); simpa [Nat.add_assoc, Nat.add_comm 1] using this) (fun j hj => by have := hd (j + 1) (by simp; omega); simpa [Nat.add_assoc, Nat.add_comm 1] using this)
            simp only [Op.eqFields, ne_eq, f2, not_false_eq_true, if_true, Sem.run_bind, f1, run_part_plain w hp e1, run_part_plain w hp e2, equalIn_int d f3, Result.andThen_ok]
            by_cases hab : a = b
            · subst hab; simpa using hrest
            · have : (a == b) = false := by simpa using hab
              simp [this]
          · cases hr
        · cases hr
theorem eqInts_len : ∀ (cs ds : List AVal) (r : Bool), eqInts cs ds = some r → cs.length = ds.length
  | [], [], _, _ => rfl
  | [], _ :: _, _, h => by simp [eqInts] at h
  | _ :: _, [], _, h => by simp [eqInts] at h
  | c :: cs, d :: ds, r, h => by
    unfold eqInts at h
    split at h
    · cases ‹_ :: _ = []›
    · rename_i k a r1 k' b r2 e1 e2
      cases e1; cases e2
      split at h
      · obtain ⟨r', hr', _⟩ := Option.map_eq_some_iff.1 h
        simp [eqInts_len _ _ _ hr']
      · cases h
    · cases h
theorem equal_ints {t : TypeId} {cs ds : List AVal} {vs us : Array Value} {r : Bool} (hn : numCells P t = some cs.length) (hr : eqInts cs ds = some r) (hx : VR W0 ok0 β h w (.agg cs) (.agg vs)) (hy : VR W0 ok0 β h w (.agg ds) (.agg us)) :
    (Op.equal t (.agg vs) (.agg us)).run P w = .ok r w := by
  have hlen := eqInts_len _ _ _ hr
  cases hx with
  | agg _ _ hs1 hr1 =>
    cases hy with
    | agg _ _ hs2 hr2 =>
      unfold numCells at hn
      split at hn
      · cases hn
      split at hn
      · rename_i n e hu
        split at hn
        · rename_i he
          simp only [Option.some.injEq] at hn
          have hi : (P.info? e).isSome = true := by unfold isIntT at he; simp only [Bool.and_eq_true, beq_iff_eq] at he; exact he.1.2
          obtain ⟨i, hi⟩ := Option.isSome_iff_exists.1 hi
          have := eqItems_ints (W0 := W0) (ok0 := ok0) (β := β) (h := h) (w := w) 9998 he vs us cs ds 0 r hr (by omega) (by omega) (fun j hj => by rw [Nat.zero_add]; exact hr1 j hj) (fun j hj => by rw [Nat.zero_add]; exact hr2 j hj)
          rw [Op.equal, show Op.maxDepth = 9999 + 1 from rfl, run_equalIn_array w 9999 vs us hu hi, hn, List.range_eq_range']
          exact this
        · cases hn
      · rename_i fs hu
        split at hn
        · rename_i hc
          simp only [Bool.and_eq_true, Bool.not_eq_true'] at hc
          simp only [Option.some.injEq] at hn
          have hf : P.fieldsOf t = fs := by simp [Program.fieldsOf, hu]
          have := eqFields_ints (W0 := W0) (ok0 := ok0) (β := β) (h := h) (w := w) 9998 vs us fs.toList cs ds 0 r hc.2 (by simpa using hn) hr (by omega) (by omega) (fun j hj => by rw [Nat.zero_add]; exact hr1 j hj) (fun j hj => by rw [Nat.zero_add]; exact hr2 j hj)
          rw [Op.equal, show Op.maxDepth = 9999 + 1 from rfl, run_equalIn_struct w 9999 t vs us (by rw [hf]; exact hu) hc.1, hf]
          exact this
        · cases hn
      · cases hn
def eqW : List Bool → List Value → List Value → Option Bool
  | [], [], [] => some true
  | true :: ks, .bool a :: r, .bool b :: r' => (eqW ks r r').map fun e => (a == b) && e
  | false :: ks, .int k a :: r, .int k' b :: r' => if k = k' then (eqW ks r r').map fun e => (a == b) && e else none
  | _, _, _ => none
def fitW : List Bool → List Value → Bool
  | [], [] => true
  | true :: ks, .bool _ :: r => fitW ks r
  | false :: ks, .int _ _ :: r => fitW ks r
  | _, _ => false
theorem eqW_fit : ∀ (ks : List Bool) (vs us : List Value) (r : Bool), eqW ks vs us = some r → fitW ks vs = true ∧ fitW ks us = true := by
  intro ks
  induction ks with
  | nil =>
    intro vs us r h
    unfold eqW at h
    split at h <;> first | exact ⟨rfl, rfl⟩ | (cases h; done) | simp_all
  | cons k ks ih =>
    intro vs us r h
    unfold eqW at h
    split at h
    · simp_all
    · rename_i e1
      cases e1
      obtain ⟨r', hr', _⟩ := Option.map_eq_some_iff.1 h
      exact ih _ _ _ hr'
    · rename_i e1
      cases e1
      split at h
      · obtain ⟨r', hr', _⟩ := Option.map_eq_some_iff.1 h
        exact ih _ _ _ hr'
      · cases h
    · cases h
theorem fitW_len : ∀ (ks : List Bool) (vs : List Value), fitW ks vs = true → vs.length = ks.length := by
  intro ks
  induction ks with
  | nil => intro vs h; cases vs <;> simp_all [fitW]
  | cons k ks ih =>
    intro vs h
    unfold fitW at h
    split at h
    · simp_all
    · rename_i e1; cases e1; simp [ih _ h]
    · rename_i e1; cases e1; simp [ih _ h]
    · cases h
theorem eqW_append : ∀ (k1 k2 : List Bool) (vs us : List Value) (r : Bool), eqW (k1 ++ k2) vs us = some r →
    ∃ r1 r2, eqW k1 (vs.take k1.length) (us.take k1.length) = some r1 ∧ eqW k2 (vs.drop k1.length) (us.drop k1.length) = some r2 ∧ r = (r1 && r2) := by
  intro k1
  induction k1 with
  | nil => intro k2 vs us r h; exact ⟨true, r, by simp [eqW], by simpa using h, by simp⟩
  | cons k ks ih =>
    intro k2 vs us r h
    rw [List.cons_append] at h
    unfold eqW at h
    split at h
    · simp_all
    · rename_i e1
      simp only [List.cons.injEq] at e1
      obtain ⟨rfl, rfl⟩ := e1
      obtain ⟨r', hr', rfl⟩ := Option.map_eq_some_iff.1 h
      obtain ⟨r1, r2, h1, h2, rfl⟩ := ih _ _ _ _ hr'
      exact ⟨_, r2, by simp only [List.length_cons, List.take_succ_cons, eqW, h1, Option.map_some]; rfl, by simpa using h2, by rw [Bool.and_assoc]⟩
    · rename_i e1
      simp only [List.cons.injEq] at e1
      obtain ⟨rfl, rfl⟩ := e1
      split at h
      · rename_i hk
        obtain ⟨r', hr', rfl⟩ := Option.map_eq_some_iff.1 h
        obtain ⟨r1, r2, h1, h2, rfl⟩ := ih _ _ _ _ hr'
        exact ⟨_, r2, by simp only [List.length_cons, List.take_succ_cons, eqW, if_pos hk, h1, Option.map_some]; rfl, by simpa using h2, by rw [Bool.and_assoc]⟩
      · cases h
    · cases h
theorem eqK_W : ∀ (ks : List Bool) (cs ds : List AVal) (vs us : List Value) (r : Bool), eqK ks cs ds = some r → vs.length = cs.length → us.length = ds.length →
    (∀ j (hj : j < cs.length), VR W0 ok0 β h w cs[j] (vs.getD j undef)) → (∀ j (hj : j < ds.length), VR W0 ok0 β h w ds[j] (us.getD j undef)) → eqW ks vs us = some r := by
  intro ks
  induction ks with
  | nil =>
    intro cs ds vs us r hr h1 h2 _ _
    unfold eqK at hr
    split at hr
    · cases vs <;> cases us <;> simp_all [eqW]
    · simp_all
    · simp_all
    · cases hr
  | cons k ks ih =>
    intro cs ds vs us r hr h1 h2 h3 h4
    unfold eqK at hr
    split at hr
    · simp_all
    · rename_i a b e1
      cases e1
      obtain ⟨r', hr', rfl⟩ := Option.map_eq_some_iff.1 hr
      cases vs with
      | nil => simp at h1
      | cons v vs =>
        cases us with
        | nil => simp at h2
        | cons u us =>
          have q1 := val_eq (h3 0 (by simp))
          have q2 := val_eq (h4 0 (by simp))
          simp only [List.getD_cons_zero] at q1 q2
          subst q1; subst q2
          have := ih _ _ vs us r' hr' (by simpa using h1) (by simpa using h2) (fun j hj => by have := h3 (j + 1) (by simpa using hj); simp only [List.getElem_cons_succ, List.getD_cons_succ] at this; exact this) (fun j hj => by have := h4 (j + 1) (by simpa using hj); simp only [List.getElem_cons_succ, List.getD_cons_succ] at this; exact this)
          simp [eqW, this]
    · rename_i a b e1
      cases e1
      split at hr
      · rename_i hk
        obtain ⟨r', hr', rfl⟩ := Option.map_eq_some_iff.1 hr
        cases vs with
        | nil => simp at h1
        | cons v vs =>
          cases us with
          | nil => simp at h2
          | cons u us =>
            have q1 := val_eq (h3 0 (by simp))
            have q2 := val_eq (h4 0 (by simp))
            simp only [List.getD_cons_zero] at q1 q2
            subst q1; subst q2
            have := ih _ _ vs us r' hr' (by simpa using h1) (by simpa using h2) (fun j hj => by have := h3 (j + 1) (by simpa using hj); simp only [List.getElem_cons_succ, List.getD_cons_succ] at this; exact this) (fun j hj => by have := h4 (j + 1) (by simpa using hj); simp only [List.getElem_cons_succ, List.getD_cons_succ] at this; exact this)
            simp [eqW, this, hk]
      · cases hr
    · cases hr
theorem cellKs_len : ∀ (d : Nat) (t : TypeId) (ks : List Bool), cellKs P d t = some ks → ks.length = P.cellsOf t ∧ (P.info? t).isSome = true := by
  intro d t ks hk
  cases d with
  | zero => cases hk
  | succ d =>
    unfold cellKs at hk
    split at hk
    · split at hk
      · rename_i hc; cases hk; exact ⟨hc.1.symm, hc.2⟩
      · cases hk
    · split at hk
      · rename_i hc; cases hk; exact ⟨hc.1.symm, hc.2⟩
      · cases hk
    · split at hk
      · split at hk
        · rename_i hc; cases hk
          refine ⟨?_, hc.2.2.1⟩
          rw [hc.2.1]; simp
        · cases hk
      · cases hk
    · split at hk
      · split at hk
        · rename_i hc; cases hk; exact ⟨hc.2.1, hc.2.2⟩
        · cases hk
      · cases hk
    · cases hk
theorem part_ks {d : Nat} {e : TypeId} {ks : List Bool} (hk : cellKs P d e = some ks) {xs : Array Value} {off : Nat} (hf : fitW ks ((xs.toList.drop off).take ks.length) = true) :
    ∃ a, (part e xs off).run P w = .ok a w ∧ a.formed P e = true ∧ a.cells.toList = (xs.toList.drop off).take ks.length := by
  obtain ⟨hl, hi⟩ := cellKs_len d e ks hk
  obtain ⟨i, hi⟩ := Option.isSome_iff_exists.1 hi
  have hlen := fitW_len _ _ hf
  have hx : (xs.extract off (off + P.cellsOf e)).toList = (xs.toList.drop off).take ks.length := by rw [Array.toList_extract, ← hl]; simp [List.extract]
  have one : ks.length = 1 → ∃ v, (xs.toList.drop off).take ks.length = [v] ∧ xs[off]? = some v := by
    intro h1
    rw [h1] at hlen ⊢
    cases hd : xs.toList.drop off with
    | nil => rw [hd] at hlen; simp at hlen
    | cons v r =>
      refine ⟨v, by simp, ?_⟩
      have : (xs.toList.drop off)[0]? = some v := by rw [hd]; rfl
      simpa using this
  cases d with
  | zero => cases hk
  | succ d =>
    unfold cellKs at hk
    split at hk
    · rename_i hu
      split at hk
      · cases hk
        obtain ⟨v, hv, hv2⟩ := one rfl
        rw [hv] at hf
        refine ⟨v, ?_, ?_, ?_⟩
        · simp [part, isAgg, run_underlying hu, hv2]
        · cases v <;> simp [fitW] at hf ⊢; simp [Value.formed, hu]
        · rw [hv]; cases v <;> simp [fitW] at hf ⊢; simp [Value.cells]
      · cases hk
    · rename_i hu
      split at hk
      · cases hk
        obtain ⟨v, hv, hv2⟩ := one rfl
        rw [hv] at hf
        refine ⟨v, ?_, ?_, ?_⟩
        · simp [part, isAgg, run_underlying hu, hv2]
        · cases v <;> simp [fitW] at hf ⊢; simp [Value.formed, hu]
        · rw [hv]; cases v <;> simp [fitW] at hf ⊢; simp [Value.cells]
      · cases hk
    · rename_i hu
      refine ⟨.agg (xs.extract off (off + P.cellsOf e)), by simp [part, isAgg, run_underlying hu, run_sizeOf w hi], ?_, hx⟩
      have : (xs.extract off (off + P.cellsOf e)).size = P.cellsOf e := by rw [← Array.length_toList, hx, hlen, hl]
      simp [Value.formed, hu, this]
    · rename_i hu
      refine ⟨.agg (xs.extract off (off + P.cellsOf e)), by simp [part, isAgg, run_underlying hu, run_sizeOf w hi], ?_, hx⟩
      have : (xs.extract off (off + P.cellsOf e)).size = P.cellsOf e := by rw [← Array.length_toList, hx, hlen, hl]
      simp [Value.formed, hu, this]
    · cases hk
def EqK (P : Program) (dd : Nat) (t : TypeId) (ks : List Bool) : Prop :=
  ∀ (w : World) (x y : Value) (r : Bool), x.formed P t = true → y.formed P t = true → eqW ks x.cells.toList y.cells.toList = some r → (Op.equalIn dd t x y).run P w = .ok r w
theorem eqItems_ks {d dd : Nat} {e : TypeId} {ks : List Bool} (hk : cellKs P d e = some ks) (hE : EqK P dd e ks) (xs ys : Array Value) : ∀ (m o : Nat) (r : Bool),
    eqW (List.replicate m ks).flatten (xs.toList.drop (o * ks.length)) (ys.toList.drop (o * ks.length)) = some r → (Op.eqItems dd e (P.cellsOf e) xs ys (List.range' o m)).run P w = .ok r w := by
  have hl := (cellKs_len d e ks hk).1
  intro m
  induction m with
  | zero =>
    intro o r h
    simp only [List.replicate_zero, List.flatten_nil] at h
    unfold eqW at h
    split at h <;> first | (cases h; simp [Op.eqItems]; done) | simp_all
  | succ m ih =>
    intro o r h
    rw [List.replicate_succ, List.flatten_cons] at h
    obtain ⟨r1, r2, h1, h2, rfl⟩ := eqW_append _ _ _ _ _ h
    obtain ⟨f1, f2⟩ := eqW_fit _ _ _ _ h1
    obtain ⟨a, pa, fa, ca⟩ := part_ks (w := w) hk f1
    obtain ⟨b, pb, fb, cb⟩ := part_ks (w := w) hk f2
    have he := hE w a b r1 fa fb (by rw [ca, cb]; exact h1)
    rw [List.drop_drop, List.drop_drop, show o * ks.length + ks.length = (o + 1) * ks.length by rw [Nat.add_mul, Nat.one_mul]] at h2
    have hrest := ih (o + 1) r2 h2
    rw [hl] at pa pb
    simp only [List.range'_succ, Op.eqItems, Sem.run_bind, pa, pb, he, Result.andThen_ok]
    cases r1
    · simp
    · simpa using hrest
theorem eqFields_ks {d dd : Nat} (hE : ∀ t ks, cellKs P d t = some ks → EqK P dd t ks) (xs ys : Array Value) : ∀ (fs : List Field) (o : Nat) (ks : List Bool) (r : Bool), fieldKs P (cellKs P d) fs o = some ks →
    eqW ks (xs.toList.drop o) (ys.toList.drop o) = some r → (Op.eqFields dd xs ys fs).run P w = .ok r w := by
  intro fs
  induction fs with
  | nil =>
    intro o ks r hk h
    cases hk
    unfold eqW at h
    split at h <;> first | (cases h; simp [Op.eqFields]; done) | simp_all
  | cons f fs ih =>
    intro o ks r hk h
    unfold fieldKs at hk
    split at hk
    · rename_i k1 hk1
      split at hk
      · rename_i hc
        obtain ⟨c1, c2, c3⟩ := hc
        obtain ⟨k2, hk2, rfl⟩ := Option.map_eq_some_iff.1 hk
        obtain ⟨r1, r2, h1, h2, rfl⟩ := eqW_append _ _ _ _ _ h
        obtain ⟨f1, f2⟩ := eqW_fit _ _ _ _ h1
        obtain ⟨a, pa, fa, ca⟩ := part_ks (w := w) hk1 f1
        obtain ⟨b, pb, fb, cb⟩ := part_ks (w := w) hk1 f2
        have he := hE f.type k1 hk1 w a b r1 fa fb (by rw [ca, cb]; exact h1)
        rw [List.drop_drop, List.drop_drop] at h2
        have hrest := ih (o + k1.length) k2 r2 hk2 h2
        simp only [Op.eqFields, ne_eq, c2, not_false_eq_true, if_true, Sem.run_bind, c1, pa, pb, he, Result.andThen_ok]
        cases r1
        · simp
        · simpa using hrest
      · cases hk
    · cases hk
theorem cellW_bool {v : Value} {t : TypeId} (hv : fitW [true] v.cells.toList = true) (hf : v.formed P t = true) (hu : P.underlying t = some .bool) : ∃ a, v = .bool a := by
  cases v <;> first | exact ⟨_, rfl⟩ | (simp [Value.formed, hu] at hf; done) | (cases hv; done)
theorem cellW_int {v : Value} {t : TypeId} {q : IntKind} (hv : fitW [false] v.cells.toList = true) (hf : v.formed P t = true) (hu : P.underlying t = some (.int q)) : ∃ k a, v = .int k a := by
  cases v <;> first | exact ⟨_, _, rfl⟩ | (simp [Value.formed, hu] at hf; done) | (cases hv; done)
theorem eqK_run (dd : Nat) : ∀ (d : Nat) (t : TypeId) (ks : List Bool), cellKs P d t = some ks → EqK P (dd + d) t ks := by
  intro d
  induction d with
  | zero => intro t ks hk; cases hk
  | succ d ih =>
    intro t ks hk w x y r fx fy h
    unfold cellKs at hk
    split at hk
    · rename_i hu
      split at hk
      · cases hk
        obtain ⟨f1, f2⟩ := eqW_fit _ _ _ _ h
        obtain ⟨a, rfl⟩ := cellW_bool f1 fx hu
        obtain ⟨b, rfl⟩ := cellW_bool f2 fy hu
        have h' : eqW [true] [.bool a] [.bool b] = some r := h
        simp [eqW] at h'
        subst h'
        exact equalIn_bool (dd + d) hu _ _
      · cases hk
    · rename_i hu
      split at hk
      · cases hk
        obtain ⟨f1, f2⟩ := eqW_fit _ _ _ _ h
        obtain ⟨k, a, rfl⟩ := cellW_int f1 fx hu
        obtain ⟨k', b, rfl⟩ := cellW_int f2 fy hu
        have h' : eqW [false] [.int k a] [.int k' b] = some r := h
        simp [eqW] at h'
        obtain ⟨rfl, rfl⟩ := h'
        simp [Op.equalIn, run_underlying hu]
      · cases hk
    · rename_i n e hu
      split at hk
      · rename_i k1 hk1
        split at hk
        · rename_i hc
          cases hk
          cases x <;> simp only [Value.formed, hu, Bool.false_eq_true] at fx
          cases y <;> simp only [Value.formed, hu, Bool.false_eq_true] at fy
          rename_i xs ys
          obtain ⟨i, hi⟩ := Option.isSome_iff_exists.1 hc.2.2.2
          rw [show dd + (d + 1) = (dd + d) + 1 from rfl, run_equalIn_array w (dd + d) xs ys hu hi, List.range_eq_range']
          exact eqItems_ks hk1 (ih e k1 hk1) xs ys n 0 r (by simpa [Value.cells] using h)
        · cases hk
      · cases hk
    · rename_i fs hu
      split at hk
      · rename_i k1 hk1
        split at hk
        · rename_i hc
          cases hk
          cases x <;> simp only [Value.formed, hu, Bool.false_eq_true] at fx
          cases y <;> simp only [Value.formed, hu, Bool.false_eq_true] at fy
          rename_i xs ys
          have hf : P.fieldsOf t = fs := by simp [Program.fieldsOf, hu]
          rw [show dd + (d + 1) = (dd + d) + 1 from rfl, run_equalIn_struct w (dd + d) t xs ys (by rw [hf]; exact hu) hc.1, hf]
          exact eqFields_ks ih xs ys fs.toList 0 _ r hk1 (by simpa [Value.cells] using h)
        · cases hk
      · cases hk
    · cases hk
theorem equal_ks {t : TypeId} {ks : List Bool} {cs ds : List AVal} {vs us : Array Value} {r : Bool} (hw : (match P.underlying t with | some (.struct _) | some (.array _ _) => true | _ => false) = true) (hk : cellKs P 5 t = some ks) (hr : eqK ks cs ds = some r) (hx : VR W0 ok0 β h w (.agg cs) (.agg vs)) (hy : VR W0 ok0 β h w (.agg ds) (.agg us)) :
    (Op.equal t (.agg vs) (.agg us)).run P w = .ok r w := by
  cases hx with
  | agg _ _ hs1 hr1 =>
    cases hy with
    | agg _ _ hs2 hr2 =>
      have hW := eqK_W (W0 := W0) (ok0 := ok0) (β := β) (h := h) (w := w) ks cs ds vs.toList us.toList r hr (by simpa using hs1) (by simpa using hs2) (fun j hj => by have := hr1 j hj; simpa [VR, Array.getD_eq_getD_getElem?, List.getD_eq_getElem?_getD] using this) (fun j hj => by have := hr2 j hj; simpa [VR, Array.getD_eq_getD_getElem?, List.getD_eq_getElem?_getD] using this)
      obtain ⟨f1, f2⟩ := eqW_fit _ _ _ _ hW
      have l1 := fitW_len _ _ f1
      have l2 := fitW_len _ _ f2
      have hl := (cellKs_len 5 t ks hk).1
      rw [Array.length_toList] at l1 l2
      have fo : ∀ (zs : Array Value), zs.size = P.cellsOf t → (Value.agg zs).formed P t = true := fun zs hz => by
        unfold Value.formed
        split at hw
        · rename_i hu; rw [hu]; simpa using hz
        · rename_i hu; rw [hu]; simpa using hz
        · cases hw
      exact eqK_run 9995 5 t ks hk w _ _ r (fo vs (by omega)) (fo us (by omega)) hW
theorem aInt_rel {op : BinOp} {k : IntKind} {a b : Int} {x : AVal} {t : TypeId} (hx : aInt op k a b = some x) :
    ∃ v, (binOp op t (.int k a) (.int k b)).run P w = .ok v w ∧ VR W0 ok0 β h w x v := by
  cases op <;> simp only [aInt] at hx <;> try (cases hx)
  case quo =>
    split at hx
    · cases hx
    · rename_i hb; cases hx; exact ⟨_, by simp [binOp, Op.intDiv, hb], .val _⟩
  case rem =>
    split at hx
    · cases hx
    · rename_i hb; cases hx; exact ⟨_, by simp [binOp, Op.intDiv, hb], .val _⟩
  case shl =>
    split at hx
    · cases hx
    · rename_i hb; cases hx; exact ⟨_, by simp [binOp, Op.shift, hb], .val _⟩
  case shr =>
    split at hx
    · cases hx
    · rename_i hb; cases hx; exact ⟨_, by simp [binOp, Op.shift, hb], .val _⟩
  all_goals exact ⟨_, by simp [binOp, Op.intArith, Op.intCmp, Op.intBits], .val _⟩
theorem aShift_rel {op : BinOp} {k k' : IntKind} {a b : Int} {x : AVal} {t : TypeId} (hs : isShift op = true) (hx : aInt op k a b = some x) :
    ∃ v, (binOp op t (.int k a) (.int k' b)).run P w = .ok v w ∧ VR W0 ok0 β h w x v := by
  cases op <;> simp only [isShift, reduceCtorEq] at hs <;> simp only [aInt] at hx
  · split at hx
    · cases hx
    · rename_i hb; cases hx; exact ⟨_, by simp [binOp, Op.shift, hb], .val _⟩
  · split at hx
    · cases hx
    · rename_i hb; cases hx; exact ⟨_, by simp [binOp, Op.shift, hb], .val _⟩
theorem nilB_rel {x : AVal} {v : Value} {b : Bool} (hx : VR W0 ok0 β h w x v) (hb : nilB x = some b) : ∃ a n c, v = .slice a n c ∧ b = a.isNone := by
  cases hx <;> simp [nilB] at hb
  case cap0 b' a he _ => subst hb; exact ⟨a, 0, 0, rfl, he⟩
  case res => subst hb; exact ⟨none, 0, 0, rfl, rfl⟩
  case lit => subst hb; exact ⟨_, _, _, rfl, rfl⟩
  case nil => subst hb; exact ⟨none, 0, 0, rfl, rfl⟩
  case list => subst hb; exact ⟨_, _, _, rfl, rfl⟩
  case ref ha _ => subst hb; exact ⟨_, _, _, rfl, (Option.isNone_eq_false_iff.2 ha).symm⟩
theorem aggK_rel {op : BinOp} {z : AVal} {t : TypeId} {xs ys : List AVal} {vs us : Array Value} (hw : (match P.underlying t with | some (.struct _) | some (.array _ _) => true | _ => false) = true)
    (hz : (match cellKs P 5 t with
      | some ks => (match eqK ks xs ys, op with | some e, .eql => some (AVal.val (.bool e)) | some e, .neq => some (.val (.bool (!e))) | _, _ => none)
      | none => none) = some z)
    (hs1 : vs.size = xs.length) (hs2 : us.size = ys.length) (hr1 : ∀ j (hj : j < xs.length), VR W0 ok0 β h w xs[j] (vs.getD j undef)) (hr2 : ∀ j (hj : j < ys.length), VR W0 ok0 β h w ys[j] (us.getD j undef)) :
    ∃ r, (binOp op t (.agg vs) (.agg us)).run P w = .ok r w ∧ VR W0 ok0 β h w z r := by
  split at hz
  · rename_i ks hks
    cases he : eqK ks xs ys with
    | none => simp [he] at hz
    | some e =>
      rw [he] at hz
      have heq := equal_ks (W0 := W0) (ok0 := ok0) (β := β) (h := h) (w := w) hw hks he (.agg _ _ hs1 hr1) (.agg _ _ hs2 hr2)
      cases op <;> simp only [Option.some.injEq, reduceCtorEq] at hz
      · subst hz; exact ⟨.bool e, by simp only [binOp, Sem.run_bind, heq, Result.andThen_ok, Sem.run_pure], .val _⟩
      · subst hz; exact ⟨.bool (!e), by simp only [binOp, Sem.run_bind, heq, Result.andThen_ok, Sem.run_pure], .val _⟩
  · cases hz
theorem aBin_rel {op : BinOp} {x y z : AVal} {u v : Value} {t : TypeId} (hz : aBin P t op x y = some z) (hx : VR W0 ok0 β h w x u) (hy : VR W0 ok0 β h w y v) :
    ∃ r, (binOp op t u v).run P w = .ok r w ∧ VR W0 ok0 β h w z r := by
  unfold aBin at hz
  split at hz
  · rename_i k a k' b
    split at hz
    · rename_i hk
      cases hx; cases hy
      rcases hk with rfl | hs
      · exact aInt_rel hz
      · exact aShift_rel hs hz
    · cases hz
  · rename_i a b
    cases hx; cases hy
    split at hz
    · rename_i T ht
      split at hz
      · rename_i hB
        obtain ⟨d, i, zz, hd, hi, hz0, rfl⟩ := tyI_some ht
        have hd' : d = .bool := by cases d <;> simp at hB ⊢
        subst hd'
        cases op <;> simp only [Option.some.injEq, reduceCtorEq] at hz
        · subst hz; exact ⟨.bool (a == b), by simp only [binOp, Sem.run_bind, equal_bool hd, Result.andThen_ok, Sem.run_pure], .val _⟩
        · subst hz; exact ⟨.bool (!(a == b)), by simp only [binOp, Sem.run_bind, equal_bool hd, Result.andThen_ok, Sem.run_pure], .val _⟩
      · cases hz
    · cases hz
  · rename_i a b
    cases hx; cases hy
    cases op <;> simp only [Option.some.injEq, reduceCtorEq] at hz
    · subst hz; exact ⟨.bool (a.toList == b.toList), by simp [binOp, Op.stringOp], .val _⟩
    · subst hz; exact ⟨.bool (!(a.toList == b.toList)), by simp [binOp, Op.stringOp], .val _⟩
  · rename_i xs ys
    cases hx with
    | agg _ vs hs1 hr1 =>
      cases hy with
      | agg _ us hs2 hr2 =>
        split at hz
        · rename_i hn
          split at hz
          · rename_i e he
            cases hz
            exact ⟨.bool e, by simp only [binOp, Sem.run_bind, equal_ints hn he (.agg _ _ hs1 hr1) (.agg _ _ hs2 hr2), Result.andThen_ok, Sem.run_pure], .val _⟩
          · rename_i e he
            cases hz
            exact ⟨.bool (!e), by simp only [binOp, Sem.run_bind, equal_ints hn he (.agg _ _ hs1 hr1) (.agg _ _ hs2 hr2), Result.andThen_ok, Sem.run_pure], .val _⟩
          · cases hz
        · split at hz
          · cases hz
          split at hz
          · rename_i hu; exact aggK_rel (by rw [hu]) hz hs1 hs2 hr1 hr2
          · rename_i hu; exact aggK_rel (by rw [hu]) hz hs1 hs2 hr1 hr2
          · cases hz
  · split at hz
    · rename_i T ht
      split at hz
      · rename_i hE
        obtain ⟨e, he⟩ := Option.isSome_iff_exists.1 hE
        have hu := elem_slice ht he
        have hy' : v = .slice none 0 0 := by
          cases hy with
          | cap0 b a hb _ => simp at hb; subst hb; rfl
        subst hy'
        cases hn : nilB x with
        | none => simp [hn] at hz
        | some b =>
          obtain ⟨a, n, c, rfl, hb⟩ := nilB_rel hx hn
          cases op <;> simp [hn] at hz <;> subst hz
          · refine ⟨.bool b, ?_, .val _⟩
            subst hb; simp [binOp, equal_nil hu]
          · refine ⟨.bool (!b), ?_, .val _⟩
            subst hb; simp [binOp, equal_nil hu]
      · cases hz
    · cases hz
  · cases hz
theorem aIdx_rel {x i z : AVal} {u v : Value} {t : TypeId} (hz : aIdx P t h x i = some z) (hx : VR W0 ok0 β h w x u) (hi : VR W0 ok0 β h w i v) :
    ∃ r, (Instr.indexAt t u v).run P w = .ok r w ∧ VR W0 ok0 β h w z r := by
  unfold aIdx at hz
  split at hz
  · rename_i T ht
    split at hz
    · rename_i e he
      have hu := elem_slice ht he
      split at hz
      · rename_i E k n hE
        cases hi
        split at hz
        · rename_i p b m cs
          split at hz
          · rename_i hn
            simp at hz; subst hz
            cases hx with
            | nil p => simp at hn; omega
            | list p b off n' cap cs cv hok hp hn' hc hr' =>
              refine ⟨.pointer (some ⟨b, off + n.toNat * E.size, none⟩), ?_, ?_⟩
              · simp [Instr.indexAt, asIntOf, run_underlying hu, hn.1, hn.2, run_sizeOf' hE, Addr.add_lit]
              · refine .spot _ _ _ _ (fun j => cv (n.toNat * E.size + j)) (fun hne => hok (by rintro rfl; simp at hne)) (fun h1 hne => hp h1 (by rintro rfl; simp at hne)) (fun j hj => ?_) (fun j hj => ?_)
                · rw [Nat.add_assoc]; exact hc _ (by simp at hj; omega)
                · simp only [List.getElem_drop]; exact hr' _ _
          · cases hz
        · rename_i m cs
          split at hz
          · rename_i hn
            simp at hz; subst hz
            cases hx with
            | lit b off n' cs cv hok hp hc hr' =>
              refine ⟨.pointer (some ⟨b, off + n.toNat * E.size, none⟩), ?_, ?_⟩
              · simp [Instr.indexAt, asIntOf, run_underlying hu, hn.1, hn.2, run_sizeOf' hE, Addr.add_lit]
              · refine .spot _ _ _ _ (fun j => cv (n.toNat * E.size + j)) (fun hne => hok (by rintro rfl; simp at hne)) (fun _ hne => hp (by rintro rfl; simp at hne)) (fun j hj => ?_) (fun j hj => ?_)
                · rw [Nat.add_assoc]; exact hc _ (by simp at hj; omega)
                · simp only [List.getElem_drop]; exact hr' _ _
          · cases hz
        · rename_i id off m ext
          split at hz
          · rename_i hn
            simp at hz; subst hz
            obtain ⟨h1, h2, h3⟩ := hn
            obtain ⟨cs, hcs⟩ := Option.isSome_iff_exists.1 h3
            obtain ⟨cap, hn', _, rfl⟩ := hx.ref_live hcs
            obtain ⟨o, ho, rfl, hl⟩ := cellsAt_some hcs
            have hes := hx.ref_es ho
            refine ⟨.pointer (some ⟨(β id).1, off + n.toNat * E.size, none⟩), ?_, .ptr _ _ _ _ _ (lens_some ho hes) (by omega) (fun _ => rfl)⟩
            simp [Instr.indexAt, asIntOf, run_underlying hu, h1, h2, run_sizeOf' hE, Addr.add_lit]
          · cases hz
        · cases hz
      · cases hz
    · split at hz
      · rename_i len e kk n harr
        cases hi
        split at hz
        · rename_i E p cs hE
          split at hz
          · rename_i hk
            cases hz
            obtain ⟨d, i, z0, hd, hi, hz0, hTT⟩ := tyI_some ht
            have hd' : d = .array len e := by rw [hTT] at harr; cases d <;> simp at harr ⊢; exact harr
            subst hd'
            cases hx with
            | spot p b off cs cv hok hp hc hr' =>
              refine ⟨.pointer (some ⟨b, off + n.toNat * E.size, none⟩), ?_, ?_⟩
              · simp [Instr.indexAt, asIntOf, run_underlying hd, Instr.sureAddr, hk.1, hk.2, run_sizeOf' hE, Addr.add_lit]
              · refine .spot _ _ _ _ (fun j => cv (n.toNat * E.size + j)) (fun hne => hok (by rintro rfl; simp at hne)) (fun h1 hne => hp h1 (by rintro rfl; simp at hne)) (fun j hj => ?_) (fun j hj => ?_)
                · rw [Nat.add_assoc]; exact hc _ (by simp at hj; omega)
                · simp only [List.getElem_drop]; exact hr' _ _
          · cases hz
        · rename_i E id off ext hE
          split at hz
          · rename_i hk
            cases hz
            obtain ⟨h1, h2, h3⟩ := hk
            obtain ⟨cs, hcs⟩ := Option.isSome_iff_exists.1 h3
            obtain rfl := hx.ptr_live hcs
            obtain ⟨o, ho, rfl, hl⟩ := cellsAt_some hcs
            have hes := hx.ptr_es ho
            obtain ⟨d, i, z0, hd, hi, hz0, hTT⟩ := tyI_some ht
            have hd' : d = .array len e := by rw [hTT] at harr; cases d <;> simp at harr ⊢; exact harr
            subst hd'
            refine ⟨.pointer (some ⟨(β id).1, off + n.toNat * E.size, none⟩), ?_, .ptr _ _ _ _ _ (lens_some ho hes) (by omega) (fun _ => rfl)⟩
            simp [Instr.indexAt, asIntOf, run_underlying hd, Instr.sureAddr, h1, h2, run_sizeOf' hE, Addr.add_lit]
          · cases hz
        · cases hz
      · cases hz
  · cases hz
theorem aData_rel {x z : AVal} {u : Value} (ts : Array TypeId) (ty : TypeId) (hz : aData h x = some z) (hx : VR W0 ok0 β h w x u) :
    ∃ r, (Builtin.unsafeSliceData_ ts ty #[u]).run P w = .ok r w ∧ VR W0 ok0 β h w z r := by
  unfold aData at hz
  split at hz
  · cases hz
    cases hx with
    | cap0 b a hb _ => simp at hb; subst hb; exact ⟨_, rfl, .val _⟩
  · cases hz; cases hx; exact ⟨_, rfl, .val _⟩
  · cases hz; cases hx; exact ⟨_, rfl, .val _⟩
  · split at hz
    · rename_i hn
      cases hz
      cases hx with
      | list p b off n cap cs cv hok hp hn' hc hr' => exact ⟨_, Lib.run_unsafeSliceData_row _ _ _ _ _ _ (by omega), .spot _ _ _ _ cv hok hp hc hr'⟩
    · cases hz
  · split at hz
    · rename_i hn
      cases hz
      cases hx with
      | lit b off n cs cv hok hp hc hr' => exact ⟨_, Lib.run_unsafeSliceData_row _ _ _ _ _ _ (by omega), .spot _ _ _ _ cv hok (fun _ => hp) hc hr'⟩
    · cases hz
  · split at hz
    · rename_i hn
      cases hz
      obtain ⟨cs, hcs⟩ := Option.isSome_iff_exists.1 hn.2
      obtain ⟨cap, h1, _, rfl⟩ := hx.ref_live hcs
      cases hx with
      | ref id off n ext l cap a hl he hn' ha live =>
        refine ⟨_, Lib.run_unsafeSliceData_row _ _ _ _ _ _ (by omega), .ptr _ _ _ l _ hl he fun e => (live e).1⟩
    · cases hz
  · cases hz
theorem struct_fields {s : TypeId} {T : TyI} {f off ft : Nat} (ht : tyI P s = some T) (hf : T.fields[f]? = some (off, ft)) : ∃ fs : Array Field, ∃ fd : Field, P.underlying s = some (.struct fs) ∧ fs[f]? = some fd ∧ fd.offset = off ∧ fd.type = ft := by
  obtain ⟨d, i, zz, hd, hi, hz0, rfl⟩ := tyI_some ht
  cases d <;> simp at hf
  rename_i fs
  obtain ⟨fd, h1, h2, h3⟩ := hf
  exact ⟨fs, fd, hd, h1, h2, h3⟩
theorem aField_rel {x z : AVal} {u : Value} {s : TypeId} {f : Nat} (hz : aField P s x f h = some z) (hx : VR W0 ok0 β h w x u) :
    ∃ r, (Instr.fieldAt s u f).run P w = .ok r w ∧ VR W0 ok0 β h w z r := by
  unfold aField at hz
  split at hz
  · rename_i T ht
    split at hz
    · rename_i off ft hf
      obtain ⟨fs, fd, hu, hfd, rfl, rfl⟩ := struct_fields ht hf
      split at hz
      · rename_i F hF
        split at hz
        · cases hz
        · rename_i hsz
          split at hz
          · rename_i p cs
            simp at hz; subst hz
            cases hx with
            | spot p b o cs cv hok hp hc hr' =>
              refine ⟨.pointer (some ⟨b, o + fd.offset, none⟩), ?_, ?_⟩
              · simp [Instr.fieldAt, run_underlying hu, hfd, Instr.sureAddr, fieldPlace, run_sizeOf' hF, hsz, Addr.add_lit]
              · refine .spot _ _ _ _ (fun j => cv (fd.offset + j)) (fun hne => hok (by rintro rfl; simp at hne)) (fun h1 hne => hp h1 (by rintro rfl; simp at hne)) (fun j hj => ?_) (fun j hj => ?_)
                · rw [Nat.add_assoc]; exact hc _ (by simp at hj; omega)
                · simp only [List.getElem_drop]; exact hr' _ _
          · rename_i id o ext
            split at hz
            · rename_i h3
              simp at hz; subst hz
              obtain ⟨cs, hcs⟩ := Option.isSome_iff_exists.1 h3
              have := hx.ptr_live hcs
              subst this
              obtain ⟨ob, ho, rfl, hl⟩ := cellsAt_some hcs
              have hes := hx.ptr_es ho
              refine ⟨.pointer (some ⟨(β id).1, o + fd.offset, none⟩), ?_, .ptr _ _ _ _ _ (lens_some ho hes) (by omega) (fun _ => rfl)⟩
              simp [Instr.fieldAt, run_underlying hu, hfd, Instr.sureAddr, fieldPlace, run_sizeOf' hF, hsz, Addr.add_lit]
            · cases hz
          · cases hz
      · cases hz
    · cases hz
  · cases hz
theorem aPart_agg {t : TypeId} {cs : List AVal} {vs : Array Value} {off : Nat} {x : AVal} (hx : aPart P t (cs.drop off) = some x) (hc : VR W0 ok0 β h w (.agg cs) (.agg vs)) :
    ∃ r, (part t vs off).run P w = .ok r w ∧ VR W0 ok0 β h w x r := by
  cases hc with
  | agg _ _ hs hr' =>
  unfold aPart at hx
  split at hx
  · rename_i T ht
    split at hx
    · rename_i hagg
      split at hx
      · rename_i hsz
        simp at hx; subst hx
        refine ⟨.agg (vs.extract off (off + T.size)), ?_, ?_⟩
        · simp [part, run_isAgg' ht, hagg, run_sizeOf' ht]
        · simp at hsz
          refine .agg _ _ (by simp; omega) fun j hj => ?_
          have hj' : j < T.size := by simp at hj; omega
          have h1 : off + j < vs.size := by omega
          have h2 : j < min (off + T.size) vs.size - off := by omega
          have := hr' (off + j) (by omega)
          simpa [h1, h2] using this
      · cases hx
    · rename_i hagg
      have hlt : off < cs.length := by
        rcases Nat.lt_or_ge off cs.length with h0 | h0
        · exact h0
        · rw [List.getElem?_eq_none (by simp; omega)] at hx; cases hx
      have hx0 : cs[off] = x := by simpa [hlt] using hx
      have h1 : off < vs.size := by omega
      refine ⟨vs[off], ?_, ?_⟩
      · simp [part, run_isAgg' ht, hagg, h1]
      · have := hr' off hlt
        rw [hx0] at this
        simpa [VR, h1] using this
  · cases hx
theorem aIndex_rel {x i z : AVal} {u v : Value} {t : TypeId} (hz : aIndex P t x i = some z) (hx : VR W0 ok0 β h w x u) (hi : VR W0 ok0 β h w i v) :
    ∃ r, (Instr.index t u v).run P w = .ok r w ∧ VR W0 ok0 β h w z r := by
  unfold aIndex at hz
  split at hz
  · rename_i T k n ht
    cases hi
    obtain ⟨d, inf, zz, hd, hinf, hz0, hT⟩ := tyI_some ht
    split at hz
    · rename_i s
      cases hx
      split at hz
      · rename_i hc
        obtain ⟨h1, h2⟩ := hc
        have hd' : d = .string := by rw [hT] at h1; cases d <;> simp at h1 ⊢
        subst hd'
        obtain ⟨b, hb, rfl⟩ := Option.map_eq_some_iff.1 hz
        exact ⟨_, by simp [Instr.index, asIntOf, run_underlying hd, h2, hb], .val _⟩
      · cases hz
    · rename_i cs
      split at hz
      · rename_i len e harr
        split at hz
        · rename_i E hE
          split at hz
          · rename_i hc
            cases hx with
            | agg _ vs hs hr' =>
              obtain ⟨r, h1, h2⟩ := aPart_agg (h := h) (W0 := W0) (ok0 := ok0) (β := β) (w := w) hz (.agg cs vs hs hr')
              have hd' : d = .array len e := by rw [hT] at harr; cases d <;> simp at harr ⊢; exact harr
              subst hd'
              exact ⟨r, by simp [Instr.index, asIntOf, run_underlying hd, hc, run_sizeOf' hE, h1], h2⟩
          · cases hz
        · cases hz
      · cases hz
    · cases hz
  · cases hz
end
end Go.AW
namespace Go.AW
open Go Go.RowKit
section
variable {P : Program} {W0 : World} {ok0 A : Nat → Prop} {β : Nat → Nat × Nat} {h : List AObj} {w : World}
theorem aMinMax_rel {mx : Bool} {l : List AVal} {vs : List Value} {x : AVal} (hx : aMinMax mx l = some x) (hl : vs.length = l.length) (hv : ∀ j (hj : j < l.length), VR W0 ok0 β h w l[j] (vs.getD j undef)) (ts : Array TypeId) (t : TypeId) :
    ∃ r, (if mx then Builtin.max_ ts t vs.toArray else Builtin.min_ ts t vs.toArray).run P w = .ok r w ∧ VR W0 ok0 β h w x r := by
  unfold aMinMax at hx
  split at hx
  · rename_i k x0 k' y0
    split at hx
    · rename_i hk; subst hk
      match vs, hl with
      | [v0, v1], _ =>
        have h0 := hv 0 (by simp)
        have h1 := hv 1 (by simp)
        simp at h0 h1
        cases h0; cases h1
        simp at hx; subst hx
        cases mx
        · exact ⟨_, by simp [Builtin.min_, Builtin.min2], .val _⟩
        · exact ⟨_, by simp [Builtin.max_, Builtin.max2], .val _⟩
    · cases hx
  · cases hx
theorem aPure_rel (hr : HR W0 ok0 A β h w) {o : Oper} {ρ : Operand → AVal} {ρv : Operand → Value} (hρ : ∀ x, VR W0 ok0 β h w (ρ x) (ρv x)) {x : AVal} (hx : aPure P o ρ h = some x) :
    ∃ v, (execOp ρv o).run P w = .ok (.value v) w ∧ VR W0 ok0 β h w x v := by
  obtain ⟨dst, op, type, pos, after, guard⟩ := o
  cases op <;> simp only [aPure] at hx <;> try (cases hx; done)
  case move y => cases hx; exact ⟨_, rfl, hρ y⟩
  case assign y => cases hx; exact ⟨_, rfl, hρ y⟩
  case pick c a b =>
    have hc := hρ c
    split at hx
    · rename_i t ht
      rw [ht] at hc
      cases hx
      generalize hu : ρv c = u at hc
      cases hc
      refine ⟨if t then ρv a else ρv b, by simp [execOp, hu, asBool], ?_⟩
      cases t
      · exact hρ b
      · exact hρ a
    · cases hx
  case load t a =>
    split at hx
    · rename_i cs hp
      obtain ⟨b, off, hv, hc⟩ := pview_rel hr (hρ a) hp
      obtain ⟨v, h1, h2⟩ := loadVar_rel hx hc
      exact ⟨v, by simp [execOp, Instr.loadAt, hv, Instr.sureAddr, h1], h2⟩
    · cases hx
  case nilCheck y =>
    have hy := hρ y
    split at hx
    · rename_i p cs he
      rw [he] at hy
      obtain ⟨b, off, hv, hc⟩ := pview_rel hr hy (cs := cs) rfl
      cases hx
      exact ⟨_, by simp [execOp, hv], hv ▸ hy⟩
    · rename_i id off ext he
      rw [he] at hy
      split at hx
      · rename_i hs
        cases hx
        obtain ⟨cs, hcs⟩ := Option.isSome_iff_exists.1 hs
        have hv := hy.ptr_live hcs
        exact ⟨_, by simp [execOp, hv], hv ▸ hy⟩
      · cases hx
    · rename_i f a b he
      rw [he] at hy
      cases hx
      generalize hu : ρv y = u at hy
      cases hy with
      | func fn fs cs fv cv h1 h2 h3 h4 => exact ⟨_, by simp [execOp, hu], .func _ _ _ _ _ h1 h2 h3 h4⟩
    · cases hx
  case binOp op t y z u =>
    obtain ⟨r, h1, h2⟩ := aBin_rel hx (hρ y) (hρ z)
    refine ⟨r, ?_, h2⟩
    have hg : (eqGuard op t y z (ρv y) (ρv z)).run P w = .ok () w := by
      have hy := hρ y
      have hz := hρ z
      unfold aBin at hx
      split at hx
      · rename_i e1 e2; rw [e1] at hy; rw [e2] at hz
        generalize ρv y = v1 at hy; generalize ρv z = v2 at hz
        cases hy; cases hz; simp [eqGuard]
      · rename_i e1 e2; rw [e1] at hy; rw [e2] at hz
        generalize ρv y = v1 at hy; generalize ρv z = v2 at hz
        cases hy; cases hz; simp [eqGuard]
      · rename_i e1 e2; rw [e1] at hy; rw [e2] at hz
        generalize ρv y = v1 at hy; generalize ρv z = v2 at hz
        cases hy; cases hz; simp [eqGuard]
      · rename_i e1 e2; rw [e1] at hy; rw [e2] at hz
        generalize ρv y = v1 at hy; generalize ρv z = v2 at hz
        cases hy; cases hz
        split at hx
        · rename_i hn
          refine run_eqGuard_agg w op t y z _ _ ?_
          unfold numCells at hn
          split at hn
          · cases hn
          · rename_i hm; simpa using hm
        · split at hx
          · cases hx
          · rename_i hm
            exact run_eqGuard_agg w op t y z _ _ (by simpa using fun h => hm (.inr h))
      · rename_i e2; rw [e2] at hz
        generalize ρv y = v1 at *; generalize ρv z = v2 at *
        cases hz; simp [eqGuard]
      · cases hx
    simp [execOp, hg, h1]
  case unOp op t y =>
    have hy := hρ y
    split at hx
    · rename_i b he
      rw [he] at hy; cases hx
      generalize hu : ρv y = u at hy
      cases hy
      exact ⟨_, by simp [execOp, hu, Op.unary], .val _⟩
    · rename_i k n he
      rw [he] at hy; cases hx
      generalize hu : ρv y = u at hy
      cases hy
      exact ⟨_, by simp [execOp, hu, Op.unary, Op.intArith], .val _⟩
    · cases hx
  case convert s d y =>
    have hy := hρ y
    split at hx
    · rename_i S D k n hS hD he
      rw [he] at hy
      generalize hu : ρv y = u at hy
      cases hy
      split at hx
      · rename_i k' hk
        cases hx
        obtain ⟨d1, i1, z1, hd1, _, _, _⟩ := tyI_some hS
        obtain ⟨d2, i2, z2, hd2, _, _, rfl⟩ := tyI_some hD
        have hd2' : d2 = .int k' := by cases d2 <;> simp at hk; subst hk; rfl
        subst hd2'
        refine ⟨.int k' (k'.wrap n), ?_, .val _⟩
        simp [execOp, hu, convert, run_underlying hd1, run_underlying hd2, Conv.intToInt]
      · cases hx
    · cases hx
  case makeFunc fn first captured =>
    cases hx
    refine ⟨.func fn (first.map ρv) (captured.map ρv), by simp [execOp, Instr.makeFunc], .func _ _ _ _ _ (by simp) (by simp) (fun j hj => ?_) (fun j hj => ?_)⟩
    · have hj' : j < first.size := by simpa using hj
      simpa [VR, hj'] using hρ first[j]
    · have hj' : j < captured.size := by simpa using hj
      simpa [VR, hj'] using hρ captured[j]
  case fieldAddr s y f =>
    obtain ⟨r, h1, h2⟩ := aField_rel hx (hρ y)
    exact ⟨r, by simp [execOp, h1], h2⟩
  case field t y f =>
    have hy := hρ y
    split at hx
    · rename_i T cs hT he
      rw [he] at hy
      split at hx
      · rename_i off ft hf
        obtain ⟨fs, fd, hu, hfd, rfl, rfl⟩ := struct_fields hT hf
        generalize hv : ρv y = u at hy
        cases hy with
        | agg _ vs hs hr' =>
          obtain ⟨r, h1, h2⟩ := aPart_agg (h := h) (W0 := W0) (ok0 := ok0) (β := β) (w := w) hx (.agg cs vs hs hr')
          exact ⟨r, by simp [execOp, Instr.field, run_underlying hu, hfd, hv, asAgg, h1], h2⟩
      · cases hx
    · cases hx
  case indexAddr t y i =>
    obtain ⟨r, h1, h2⟩ := aIdx_rel hx (hρ y) (hρ i)
    exact ⟨r, by simp [execOp, h1], h2⟩
  case index t y i =>
    obtain ⟨r, h1, h2⟩ := aIndex_rel hx (hρ y) (hρ i)
    exact ⟨r, by simp [execOp, h1], h2⟩
  case extract t i =>
    have ht := hρ t
    split at hx
    · rename_i vs he
      rw [he] at ht
      generalize hv : ρv t = u at ht
      cases ht with
      | tuple _ us hs hr' =>
        obtain ⟨hi, rfl⟩ := List.getElem?_eq_some_iff.1 hx
        have hi' : i < us.size := by omega
        refine ⟨us[i], by simp [execOp, Instr.extract, hv, hi'], ?_⟩
        have := hr' i hi
        simpa [VR, hi'] using this
    · cases hx
  case call c =>
    obtain ⟨callee, args, argTypes⟩ := c
    cases callee with
    | value f => simp at hx
    | invoke r m => simp at hx
    | builtin b =>
      simp only at hx
      have hargs : ∀ j (hj : j < (args.toList.map ρ).length), VR W0 ok0 β h w (args.toList.map ρ)[j] ((args.toList.map ρv).getD j undef) := fun j hj => by
        have hj' : j < args.size := by simpa using hj
        simpa [hj'] using hρ args[j]
      split at hx
      · rename_i b' l x0 hl
        split at hx
        · rename_i n cs t hn ht
          split at hx
          · rename_i T hT
            split at hx
            · rename_i hE
              obtain ⟨e, he⟩ := Option.isSome_iff_exists.1 hE
              have hu := elem_slice hT he
              cases hx
              have h0 := hargs 0 (by rw [hl]; simp)
              simp only [hl, List.getElem_cons_zero] at h0
              obtain ⟨a, cap, hv, _, _⟩ := sview_rel hr h0 hn
              have hlen : args.toList.length = 1 := by have := congrArg List.length hl; simpa using this
              obtain ⟨a0, ha0⟩ : ∃ a0, args.toList = [a0] := by
                match hal : args.toList, hlen with
                | [a0], _ => exact ⟨a0, rfl⟩
              have harr : args = #[a0] := by rw [← Array.toArray_toList (xs := args), ha0]
              subst harr
              simp at hv
              exact ⟨.int .i64 n, by simp [execOp, resolve, invoke, builtin, Builtin.len_, ht, hv, run_underlying hu, goInt], .val _⟩
            · cases hx
          · cases hx
        · cases hx
      · obtain ⟨r, h1, h2⟩ := aMinMax_rel (P := P) (vs := args.toList.map ρv) hx (by simp) hargs argTypes type
        exact ⟨r, by
          have h1' : (Builtin.min_ argTypes type (args.map ρv)).run P w = .ok r w := by rw [show args.map ρv = (args.toList.map ρv).toArray by rw [← Array.toList_map, Array.toArray_toList]]; simpa using h1
          simp [execOp, resolve, invoke, builtin, h1'], h2⟩
      · obtain ⟨r, h1, h2⟩ := aMinMax_rel (P := P) (vs := args.toList.map ρv) hx (by simp) hargs argTypes type
        exact ⟨r, by
          have h1' : (Builtin.max_ argTypes type (args.map ρv)).run P w = .ok r w := by rw [show args.map ρv = (args.toList.map ρv).toArray by rw [← Array.toList_map, Array.toArray_toList]]; simpa using h1
          simp [execOp, resolve, invoke, builtin, h1'], h2⟩
      · rename_i x0 hl
        have h0 := hargs 0 (by rw [hl]; simp)
        simp only [hl, List.getElem_cons_zero] at h0
        have hlen : args.toList.length = 1 := by have := congrArg List.length hl; simpa using this
        obtain ⟨a0, ha0⟩ : ∃ a0, args.toList = [a0] := by
          match hal : args.toList, hlen with
          | [a0], _ => exact ⟨a0, rfl⟩
        have harr : args = #[a0] := by rw [← Array.toArray_toList (xs := args), ha0]
        subst harr
        obtain ⟨r, h1, h2⟩ := aData_rel (P := P) argTypes type hx h0
        exact ⟨r, by simp at h1; simp [execOp, resolve, invoke, builtin, h1], h2⟩
      · rename_i x0 hl
        split at hx
        · rename_i t ht
          split at hx
          · rename_i T hT
            split at hx
            · rename_i hE
              rw [Bool.and_eq_true] at hE
              obtain ⟨e, he⟩ := Option.isSome_iff_exists.1 hE.1
              have hu := elem_slice hT he
              cases hx
              have h0 := hargs 0 (by rw [hl]; simp)
              simp only [hl, List.getElem_cons_zero] at h0
              have hlen : args.toList.length = 1 := by have := congrArg List.length hl; simpa using this
              obtain ⟨a0, ha0⟩ : ∃ a0, args.toList = [a0] := by
                match hal : args.toList, hlen with
                | [a0], _ => exact ⟨a0, rfl⟩
              have harr : args = #[a0] := by rw [← Array.toArray_toList (xs := args), ha0]
              subst harr
              have hv : ρv a0 = .slice none 0 0 := by
                have hn := hE.2
                simp at h0
                unfold isNil at hn
                split at hn
                · generalize ρv a0 = y at h0
                  cases h0 with
                  | cap0 b a hb _ => cases a with
                    | none => rfl
                    | some a => simp at hb
                · generalize ρv a0 = y at h0
                  cases h0 with
                  | nil => rfl
                · cases hn
              exact ⟨.int .i64 0, by simp [execOp, resolve, invoke, builtin, Builtin.cap_, ht, hv, run_underlying hu, goInt], .val _⟩
            · cases hx
          · cases hx
        · cases hx
      · cases hx
end
end Go.AW
namespace Go.AW
open Go Go.RowKit
def splice (cells : List AVal) (off : Nat) : List AVal → List AVal
  | [v] => cells.set off v
  | vs => cells.take off ++ vs ++ cells.drop (off + vs.length)
def aFill (place : Nat → Option (Nat × Nat)) (cells : List AVal) : List (Nat × AVal) → Option (List AVal)
  | [] => some cells
  | (i, v) :: rest => match place i, v.parts with
    | some (off, size), some vs => if vs.length = size ∧ off + vs.length ≤ cells.length then aFill place (splice cells off vs) rest else none
    | _, _ => none
def optInt (d : Int) : Option AVal → Option Int
  | none => some d
  | some (.val (.int _ n)) => some n
  | _ => none
def sizeAt (P : Program) (t : TypeId) : Option Nat := (tyI P t).map (·.size)
def aBuild (P : Program) (t : TypeId) (parts : List (Nat × AVal)) : Option AVal :=
  match tyI P t with
  | some T => match T.arr with
    | some (n, e) => match sizeAt P e with
      | some s => (aFill (fun i => if i < n then some (i * s, s) else none) (T.zero.map ofCell) parts).map .agg
      | none => none
    | none => if T.fields = [] ∨ T.fields.all (fun f => (sizeAt P f.2).isSome) = false then none else (aFill (fun i => match T.fields[i]? with
      | some (off, ft) => (sizeAt P ft).map fun s => (off, s)
      | none => none) (T.zero.map ofCell) parts).map .agg
  | none => none
def zeros (zero : List Value) (n : Nat) : List AVal := (List.range n).map fun i => ofCell (zero.getD (i % zero.length) undef)
def mkZ (zero : List Value) (n : Nat) : List AVal := match zero with
  | [z] => List.replicate n (ofCell z)
  | _ => zeros zero (n * zero.length)
def aSlice (P : Program) (t : TypeId) (h : List AObj) (x : AVal) (lo hi mx : Option AVal) : Option AVal :=
  match tyI P t with
  | some T => match T.elem with
    | some e => match tyI P e, sview h x with
      | some E, some (n, _) => match optInt 0 lo, optInt n hi, mx with
        | some l, some hh, none =>
          if 0 ≤ l ∧ l ≤ hh ∧ hh ≤ n ∧ E.size ≠ 0 then match x with
            | .cap0 b => some (.cap0 b)
            | .res k => some (.res k)
            | .lit _ cs => some (.list true false (hh - l).toNat ((cs.drop (l.toNat * E.size)).take ((hh - l).toNat * E.size)))
            | .list p b _ cs => some (.list p b (hh - l).toNat ((cs.drop (l.toNat * E.size)).take ((hh - l).toNat * E.size)))
            | .ref id off _ ext => some (if l = hh then (if l = 0 ∧ 0 < n then .ref id off 0 ext else .list true false 0 []) else .ref id (off + l.toNat * E.size) (hh - l).toNat ext)
            | _ => none
          else none
        | some l, some hh, some (.val (.int _ m)) =>
          if 0 ≤ l ∧ l ≤ hh ∧ hh ≤ m ∧ m ≤ n then
            if m = 0 then match x with
              | .cap0 b => some (.cap0 b)
              | .res k => some (.res k)
              | .lit _ _ => some (.cap0 false)
              | .list _ b _ _ => some (.cap0 b)
              | .ref .. => some (.cap0 false)
              | _ => none
            else match x with
              | .lit _ cs => some (.list true false (hh - l).toNat ((cs.drop (l.toNat * E.size)).take ((hh - l).toNat * E.size)))
              | .list p b _ cs => some (.list p b (hh - l).toNat ((cs.drop (l.toNat * E.size)).take ((hh - l).toNat * E.size)))
              | _ => none
          else none
        | _, _, _ => none
      | _, _ => none
    | none => match T.arr, x, lo, hi, mx with
      | some (len, e), .ptr id off ext, none, none, none => match tyI P e with
        | some _ => if (cellsAt h id ext).isSome = true then some (.part id off len ext) else none
        | none => none
      | _, _, _, _, _ => none
  | none => none
def aAppend (P : Program) (t : TypeId) (h : List AObj) (s x : AVal) : Option (AVal × List AObj) :=
  match tyI P t with
  | some T => match T.elem with
    | some e => match tyI P e, sview h x with
      | some E, some (m, cs) =>
        if (cs.take (m * E.size)).length = m * E.size ∧ (cs.take (m * E.size)).all AVal.one = true ∧ 0 < E.size ∧ E.zero.length = E.size then match s with
          | .cap0 b => if m = 0 then some (if b then .res h.length else .cap0 false, h ++ [⟨0, 0, []⟩]) else if m * E.bytes ≤ 140737488355328 ∧ m ≤ 140737488355328 then some (.ref h.length 0 m (m * E.size), h ++ [⟨e, E.size, cs.take (m * E.size)⟩]) else none
          | .res k => if m = 0 then some (.res k, h) else match h[k]? with
            | some o => if o.es = 0 ∧ m * E.bytes ≤ 140737488355328 ∧ m ≤ 140737488355328 then some (.ref k 0 m (m * E.size), h.set k ⟨e, E.size, cs.take (m * E.size)⟩) else none
            | none => none
          | .lit n cs0 => if m = 0 then some (.lit n cs0, h) else if cs0.length = n * E.size ∧ (n + m) * E.bytes ≤ 140737488355328 ∧ n + m ≤ 140737488355328 then some (.ref h.length 0 (n + m) ((n + m) * E.size), h ++ [⟨e, E.size, cs0 ++ cs.take (m * E.size)⟩]) else none
          | .ref id 0 n ext => match h[id]? with
            | some o => if o.cells.length = ext ∧ ext = n * E.size ∧ o.ty = e ∧ o.es = E.size ∧ (n + m) * E.bytes ≤ 140737488355328 ∧ n + m ≤ 140737488355328 then
                some (.ref id 0 (n + m) ((n + m) * E.size), h.set id ⟨o.ty, o.es, o.cells ++ cs.take (m * E.size)⟩)
              else if o.cells.length = ext ∧ (n + m) * E.size ≤ ext ∧ o.ty = e ∧ o.es = E.size ∧ m ≠ 0 then some (.ref id 0 (n + m) ext, h.set id ⟨o.ty, o.es, splice o.cells (n * E.size) (cs.take (m * E.size))⟩) else none
            | none => none
          | _ => none
        else none
      | _, _ => none
    | none => none
  | none => none
def aCut (P : Program) (t : TypeId) (h : List AObj) (x : AVal) (lo hi mx : Option AVal) : Option (AVal × List AObj) :=
  match tyI P t with
  | some T => match T.elem with
    | some e => match tyI P e, sview h x with
      | some E, some (n, _) => match optInt 0 lo, optInt n hi, mx with
        | some l, some hh, some (.val (.int _ m)) =>
          if 0 ≤ l ∧ l ≤ hh ∧ hh = m ∧ m ≤ n ∧ m ≠ 0 ∧ E.size = 1 then match x with
            | .lit _ cs => some (.lit (hh - l).toNat ((cs.drop l.toNat).take (hh - l).toNat), h)
            | .ref id off _ ext => match h[id]? with
              | some o => if o.ty ≠ FZ ∧ o.cells.length = ext then some (.lit (hh - l).toNat ((o.cells.drop (off + l.toNat)).take (hh - l).toNat), h.set id ⟨FZ, o.es, o.cells⟩) else none
              | none => none
            | _ => none
          else none
        | _, _, _ => none
      | _, _ => none
    | none => none
  | none => none
def aFrz (P : Program) (t : TypeId) (h : List AObj) (s x : AVal) : Option AVal :=
  match tyI P t with
  | some T => match T.elem with
    | some e => match tyI P e, sview h x with
      | some E, some (m, cs) =>
        if (cs.take (m * E.size)).length = m * E.size ∧ (cs.take (m * E.size)).all AVal.one = true ∧ 0 < E.size ∧ E.zero.length = E.size then match s with
          | .cap0 b => if m = 0 then some (.list true b 0 []) else if m * E.bytes ≤ 140737488355328 ∧ m ≤ 140737488355328 then some (.list true false m (cs.take (m * E.size))) else none
          | .lit n cs0 => if m = 0 then some (.list true false n cs0) else if cs0.length = n * E.size ∧ (n + m) * E.bytes ≤ 140737488355328 ∧ n + m ≤ 140737488355328 then some (.list true false (n + m) (cs0 ++ cs.take (m * E.size))) else none
          | _ => none
        else none
      | _, _ => none
    | none => none
  | none => none
def aMake (P : Program) (t : TypeId) (h : List AObj) (l c : AVal) : Option (AVal × List AObj) :=
  match tyI P t, l, c with
  | some T, .val (.int _ a), .val (.int _ b) => match T.elem with
    | some e => match tyI P e with
      | some E => if E.zero.length = E.size ∧ E.size ≠ 0 ∧ 0 ≤ a ∧ a ≤ b ∧ (E.bytes : Int) * b ≤ 140737488355328 ∧ b ≤ 140737488355328 then some (.ref h.length 0 a.toNat (a.toNat * E.size), h ++ [⟨e, E.size, mkZ E.zero a.toNat⟩]) else none
      | none => none
    | none => none
  | _, _, _ => none
def aStore (P : Program) (t : TypeId) (h : List AObj) (p v : AVal) : Option (List AObj) :=
  match tyI P t, p, v.parts with
  | some T, .ptr id off ext, some vs => match h[id]? with
    | some o => if o.ty ≠ FZ ∧ o.cells.length = ext ∧ vs.length = T.size ∧ off + vs.length ≤ ext ∧ vs.all AVal.one = true then some (h.set id ⟨o.ty, o.es, splice o.cells off vs⟩) else none
    | none => none
  | _, _, _ => none
def bytesOf : List AVal → Option (List UInt8)
  | [] => some []
  | .val (.int .u8 n) :: r => if 0 ≤ n ∧ n < 256 then (bytesOf r).map (UInt8.ofNat n.toNat :: ·) else none
  | _ => none
def aUstr (P : Program) (pt : TypeId) (h : List AObj) (p l : AVal) : Option (AVal × List AObj) :=
  match p, l with
  | .val (.pointer none), .val (.int .i64 n) => if n = 0 then some (.val (.string .empty), h) else none
  | .ptr id 0 ext, .val (.int .i64 n) => match h[id]?, tyI P pt with
    | some o, some T => match T.ptr with
      | some e => match bytesOf (o.cells.take n.toNat) with
        | some bs => if o.ty = e ∧ o.ty ≠ FZ ∧ o.es = 1 ∧ P.cellsOf e = 1 ∧ o.cells.length = ext ∧ 0 < n ∧ n ≤ ext ∧ n ≤ 9223372036854775807 then some (.val (.string ⟨bs.toArray⟩), h.set id ⟨FZ, o.es, o.cells⟩) else none
        | none => none
      | none => none
    | _, _ => none
  | _, _ => none
def aCopy (P : Program) (t : TypeId) (h : List AObj) (d s : AVal) : Option (AVal × List AObj) :=
  match tyI P t with
  | some T => match T.elem with
    | some e => match tyI P e, sview h d, sview h s with
      | some E, some (n, _), some (m, cs) => if Nat.min m n = 0 then some (.val (.int .i64 0), h) else match d with
        | .ref id off _ ext => match h[id]? with
          | some o => if o.ty ≠ FZ ∧ o.cells.length = ext ∧ (cs.take (Nat.min m n * E.size)).length = Nat.min m n * E.size ∧ off + Nat.min m n * E.size ≤ ext ∧ (cs.take (Nat.min m n * E.size)).all AVal.one = true then
              some (.val (.int .i64 (Nat.min m n)), h.set id ⟨o.ty, o.es, splice o.cells off (cs.take (Nat.min m n * E.size))⟩) else none
          | none => none
        | .part id off _ ext => match h[id]? with
          | some o => if o.ty ≠ FZ ∧ o.cells.length = ext ∧ (cs.take (Nat.min m n * E.size)).length = Nat.min m n * E.size ∧ off + Nat.min m n * E.size ≤ ext ∧ (cs.take (Nat.min m n * E.size)).all AVal.one = true then
              some (.val (.int .i64 (Nat.min m n)), h.set id ⟨o.ty, o.es, splice o.cells off (cs.take (Nat.min m n * E.size))⟩) else none
          | none => none
        | _ => none
      | _, _, _ => none
    | none => none
  | none => none
def aApZ (P : Program) (t t' : TypeId) (h : List AObj) (s x : AVal) : Option (AVal × List AObj) :=
  match tyI P t, tyI P t', x with
  | some T, some T', .val (.int _ n) => match T.elem, T'.kind with
    | some e, some _ => match tyI P e with
      | some E => match E.zero with
        | [z] => if isNil s = true ∧ E.size = 1 ∧ 0 < n ∧ n * (E.bytes : Int) ≤ 140737488355328 ∧ n ≤ 140737488355328 then some (.ref h.length 0 n.toNat n.toNat, h ++ [⟨e, 1, List.replicate n.toNat (ofCell z)⟩]) else none
        | _ => none
      | none => none
    | _, _ => none
  | _, _, _ => none
def aClear (P : Program) (t : TypeId) (h : List AObj) (d : AVal) : Option (AVal × List AObj) :=
  match tyI P t with
  | some T => match T.elem with
    | some e => match tyI P e, d with
      | some E, .ref id off n ext => if n = 0 then some (.tuple [], h) else match E.zero, h[id]? with
        | [z], some o => if o.ty ≠ FZ ∧ o.cells.length = ext ∧ off + n ≤ ext ∧ z.oneCell' = true then some (.tuple [], h.set id ⟨o.ty, o.es, splice o.cells off (List.replicate n (ofCell z))⟩) else none
        | _, _ => none
      | _, _ => none
    | none => none
  | none => none
def aEff (P : Program) (o : Oper) (ρ : Operand → AVal) (h : List AObj) : Option (AVal × List AObj) :=
  match o.op with
  | .alloc e => match tyI P e with
    | some T => if T.zero.length = T.size ∧ T.size ≠ 0 then some (.ptr h.length 0 T.size, h ++ [⟨e, T.size, T.zero.map ofCell⟩]) else none
    | none => none
  | .box e x => match tyI P e, (ρ x).parts with
    | some T, some vs => if vs.length = T.size ∧ T.size ≠ 0 then some (.ptr h.length 0 T.size, h ++ [⟨e, T.size, vs⟩]) else none
    | _, _ => none
  | .build t parts => (aBuild P t (parts.toList.map fun (i, x) => (i, ρ x))).map fun x => (x, h)
  | .buildSlice t len parts => match tyI P t with
    | some T => match T.elem with
      | some e => match tyI P e with
        | some E => if len * E.size ≤ 16777216 ∧ 0 < E.zero.length ∧ 0 < E.size ∧ (E.size = 1 → (parts.toList.all fun p => (ρ p.2).one) = true) then (aFill (fun i => some (i * E.size, E.size)) (zeros E.zero (len * E.size)) (parts.toList.map fun (i, x) => (i, ρ x))).map fun cs => (if len = 0 then .cap0 false else .lit len cs, h) else none
        | none => none
      | none => none
    | none => none
  | .makeSlice t l c => aMake P t h (ρ l) (ρ c)
  | .slice t x lo hi none => (aSlice P t h (ρ x) (lo.map ρ) (hi.map ρ) none).map fun x => (x, h)
  | .slice t x lo hi (some mx) => match aCut P t h (ρ x) (lo.map ρ) (hi.map ρ) (some (ρ mx)) with
    | some r => some r
    | none => (aSlice P t h (ρ x) (lo.map ρ) (hi.map ρ) (some (ρ mx))).map fun x => (x, h)
  | .store t p v => (aStore P t h (ρ p) (ρ v)).map fun h' => (.undef, h')
  | .call { callee := .builtin .append, args, argTypes } => match args.toList.map ρ, argTypes.toList with
    | [s, x], [t, t'] => if t = t' then aAppend P t h s x else aApZ P t t' h s x
    | _, _ => none
  | .call { callee := .builtin .unsafeString, args, argTypes } => match args.toList.map ρ, argTypes.toList with
    | [p, l], [pt, _] => aUstr P pt h p l
    | _, _ => none
  | .call { callee := .builtin .clear, args, argTypes } => match args.toList.map ρ, argTypes[0]? with
    | [d], some t => aClear P t h d
    | _, _ => none
  | .call { callee := .builtin .copy, args, argTypes } => match args.toList.map ρ, argTypes[0]? with
    | [d, s], some t => aCopy P t h d s
    | _, _ => none
  | _ => none
end Go.AW
namespace Go.AW
open Go Go.RowKit
section
variable {P : Program} {W0 : World} {ok0 A : Nat → Prop} {β : Nat → Nat × Nat} {h : List AObj} {w : World}
def AR (W0 : World) (ok0 : Nat → Prop) (β : Nat → Nat × Nat) (h : List AObj) (w : World) (cs : List AVal) (vs : Array Value) : Prop :=
  vs.size = cs.length ∧ ∀ j (hj : j < cs.length), VR W0 ok0 β h w cs[j] (vs.getD j undef)
theorem parts_rel {x : AVal} {v : Value} {vs : List AVal} (hx : VR W0 ok0 β h w x v) (hp : x.parts = some vs) : AR W0 ok0 β h w vs v.cells := by
  unfold AVal.parts at hp
  split at hp
  · cases hp
  · cases hp; cases hx
    exact ⟨by simp [Value.cells], fun j hj => ofCells_rel _ j hj⟩
  · cases hp
  · cases hp
    cases hx with
    | agg cs vs hs hr' => exact ⟨by simp [Value.cells, hs], fun j hj => hr' j hj⟩
  · cases hp
  · rename_i h1 h2 h3 h4 h5
    cases hp
    have hc : v.cells = #[v] := by
      cases hx <;> first | rfl | skip
      case undef => exact absurd rfl h1
      case val =>
        cases v <;> first | rfl | skip
        case agg cs => exact absurd rfl (h2 cs)
      case agg cs vs _ _ => exact absurd rfl (h4 cs)
    rw [hc]
    refine ⟨rfl, fun j hj => ?_⟩
    have : j = 0 := by simp at hj; omega
    subst this
    simpa using hx
theorem fold_get (off : Nat) (l : List Value) : ∀ (s : Nat) (arr : Array Value) (k : Nat),
    ((l.zipIdx s).foldl (fun (cs : Array Value) (p : Value × Nat) => cs.setIfInBounds (off + p.2) p.1) arr).size = arr.size ∧
    ((l.zipIdx s).foldl (fun (cs : Array Value) (p : Value × Nat) => cs.setIfInBounds (off + p.2) p.1) arr)[k]? = if off + s ≤ k ∧ k < off + s + l.length ∧ k < arr.size then l[k - (off + s)]? else arr[k]? := by
  induction l with
  | nil => intro s arr k; simp; intro h1 h2; omega
  | cons v l ih =>
    intro s arr k
    simp only [List.zipIdx_cons, List.foldl_cons]
    obtain ⟨h1, h2⟩ := ih (s + 1) (arr.setIfInBounds (off + s) v) k
    refine ⟨by rw [h1]; simp, ?_⟩
    rw [h2]
    simp only [Array.size_setIfInBounds, List.length_cons]
    by_cases hk : k = off + s
    · subst hk
      by_cases hk2 : off + s < arr.size
      · simp [hk2]
        omega
      · rw [if_neg (by omega), if_neg (by omega)]
        simp [hk2]
    · by_cases hc : off + (s + 1) ≤ k ∧ k < off + (s + 1) + l.length ∧ k < arr.size
      · rw [if_pos hc, if_pos (by omega)]
        have : k - (off + s) = (k - (off + (s + 1))) + 1 := by omega
        rw [this, List.getElem?_cons_succ]
      · rw [if_neg hc, if_neg (by omega)]
        rw [Array.getElem?_setIfInBounds_ne (by omega)]
theorem splice_length (cells : List AVal) (off : Nat) (vs : List AVal) (hl : off + vs.length ≤ cells.length) : (splice cells off vs).length = cells.length := by
  unfold splice
  split
  · simp
  · simp; omega
theorem splice_get (cells : List AVal) (off : Nat) (vs : List AVal) (hl : off + vs.length ≤ cells.length) (k : Nat) (hk : k < (splice cells off vs).length) :
    (splice cells off vs)[k] = if h : off ≤ k ∧ k < off + vs.length then vs[k - off]'(by omega) else cells[k]'(by rw [splice_length _ _ _ hl] at hk; exact hk) := by
  have hk' : k < cells.length := by rw [splice_length _ _ _ hl] at hk; exact hk
  apply Option.some.inj
  rw [← List.getElem?_eq_getElem]
  by_cases h1 : off ≤ k ∧ k < off + vs.length
  · rw [dif_pos h1, ← List.getElem?_eq_getElem]
    unfold splice
    split
    · rename_i v
      have : off = k := by simp at h1; omega
      subst this
      simp [hk']
    · rw [List.getElem?_append_left (by simp; omega), List.getElem?_append_right (by simp; omega)]
      congr 1
      simp
      omega
  · rw [dif_neg h1, ← List.getElem?_eq_getElem]
    unfold splice
    split
    · rename_i v
      rw [List.getElem?_set_ne (by simp at h1; omega)]
    · rcases Nat.lt_or_ge k off with h2 | h2
      · rw [List.getElem?_append_left (by simp; omega), List.getElem?_append_left (by simp; omega), List.getElem?_take_of_lt h2]
      · rw [List.getElem?_append_right (by simp; omega)]
        simp only [List.length_append, List.length_take, List.getElem?_drop]
        congr 1
        omega
theorem fill_rel {pa pc : Nat → Option (Nat × Nat)} (hpl : ∀ i r, pa i = some r → pc i = some r) {ρ : Operand → AVal} {ρv : Operand → Value} (hρ : ∀ x, VR W0 ok0 β h w (ρ x) (ρv x)) :
    ∀ (L : List (Nat × Operand)) (cells : List AVal) (arr : Array Value) (cs' : List AVal), AR W0 ok0 β h w cells arr → aFill pa cells (L.map fun (i, x) => (i, ρ x)) = some cs' →
      ∃ arr', Instr.fill pc arr (L.map fun (i, x) => (i, ρv x)) = some arr' ∧ AR W0 ok0 β h w cs' arr' := by
  intro L
  induction L with
  | nil => intro cells arr cs' har hf; simp [aFill] at hf; subst hf; exact ⟨arr, rfl, har⟩
  | cons p L ih =>
    intro cells arr cs' har hf
    obtain ⟨i, x⟩ := p
    simp only [List.map_cons, aFill] at hf
    split at hf
    · rename_i off size vs hpa hps
      split at hf
      · rename_i hsz
        obtain ⟨h1, h2⟩ := hsz
        obtain ⟨hs, hrel⟩ := parts_rel (hρ x) hps
        have hc : ¬ ((ρv x).cells.size ≠ size ∨ off + (ρv x).cells.size > arr.size) := by rw [hs, har.1]; omega
        obtain ⟨h3, h4⟩ := har
        have hAR : AR W0 ok0 β h w (splice cells off vs) ((ρv x).cells.zipIdx.foldl (fun cs (p : Value × Nat) => cs.setIfInBounds (off + p.2) p.1) arr) := by
          rw [← Array.foldl_toList, Array.toList_zipIdx]
          refine ⟨by rw [(fold_get off _ 0 arr 0).1, splice_length _ _ _ h2, h3], fun j hj => ?_⟩
          rw [splice_get _ _ _ h2 _ hj]
          rw [splice_length _ _ _ h2] at hj
          have hg := (fold_get off (ρv x).cells.toList 0 arr j).2
          rw [show (List.foldl (fun cs (p : Value × Nat) => cs.setIfInBounds (off + p.2) p.1) arr ((ρv x).cells.toList.zipIdx)).getD j undef = ((List.foldl (fun cs (p : Value × Nat) => cs.setIfInBounds (off + p.2) p.1) arr ((ρv x).cells.toList.zipIdx))[j]?).getD undef by simp]
          rw [hg]
          simp only [Nat.add_zero, Array.length_toList, hs]
          split
          · rename_i hin
            rw [if_pos (by omega)]
            have := hrel (j - off) (by omega)
            simpa using this
          · rename_i hin
            rw [if_neg (by omega)]
            have := h4 j hj
            simpa using this
        obtain ⟨arr', h5, h6⟩ := ih _ _ _ hAR hf
        refine ⟨arr', ?_, h6⟩
        simp only [List.map_cons, Instr.fill, hpl _ _ hpa]
        rw [if_neg (by simpa using hc)]
        exact h5
      · cases hf
    · cases hf
theorem aBuild_rel {ρ : Operand → AVal} {ρv : Operand → Value} (hρ : ∀ x, VR W0 ok0 β h w (ρ x) (ρv x)) {t : TypeId} {parts : Array (Nat × Operand)} {x : AVal}
    (hx : aBuild P t (parts.toList.map fun (i, x) => (i, ρ x)) = some x) :
    ∃ v, (Instr.build t (parts.map fun (i, x) => (i, ρv x))).run P w = .ok v w ∧ VR W0 ok0 β h w x v := by
  unfold aBuild at hx
  split at hx
  · rename_i T ht
    split at hx
    · rename_i n e harr
      split at hx
      · rename_i s hs
        obtain ⟨cs, hcs, rfl⟩ := Option.map_eq_some_iff.1 hx
        obtain ⟨T', hT', rfl⟩ := Option.map_eq_some_iff.1 hs
        obtain ⟨d, i, z, hd, hi, hz, rfl⟩ := tyI_some ht
        obtain ⟨_, i', _, _, hi', _, rfl⟩ := tyI_some hT'
        cases d <;> simp only [reduceCtorEq, Option.some.injEq, Prod.mk.injEq] at harr
        obtain ⟨rfl, rfl⟩ := harr
        simp only at hcs
        obtain ⟨arr', h1, h2⟩ := fill_rel (pc := fun j => some (j * i'.size, i'.size)) (fun j r hj => by split at hj; exact hj; cases hj) hρ parts.toList (z.cells.toList.map ofCell) z.cells cs ⟨by simp, fun j hj => ofCells_rel _ j hj⟩ hcs
        refine ⟨.agg arr', ?_, .agg _ _ h2.1 h2.2⟩
        refine run_build w t _ _ ?_
        unfold Program.built
        simp only [hi, hd, hz, hi']
        simpa using h1
      · cases hx
    · rename_i harr
      split at hx
      · cases hx
      · rename_i hne
        simp only [not_or, Bool.not_eq_false] at hne
        obtain ⟨hne1, hne2⟩ := hne
        obtain ⟨cs, hcs, rfl⟩ := Option.map_eq_some_iff.1 hx
        obtain ⟨d, i, z, hd, hi, hz, rfl⟩ := tyI_some ht
        cases d <;> simp only [not_true_eq_false] at hne1
        rename_i fields
        simp only at hcs hne2
        have hsz : ∀ f ∈ fields.toList, ∃ y, (fun (f : Field) => (P.info? f.type).map fun i => (f.offset, i.size)) f = some y := fun f hf => by
          rw [List.all_eq_true] at hne2
          have := hne2 (f.offset, f.type) (List.mem_map.2 ⟨f, hf, rfl⟩)
          simp only [sizeAt, Option.isSome_map] at this
          obtain ⟨T', hT'⟩ := Option.isSome_iff_exists.1 this
          obtain ⟨_, i', _, _, hi', _, _⟩ := tyI_some hT'
          exact ⟨(f.offset, i'.size), by simp [hi']⟩
        have hplaces := ChangeMaps.mapM_total (0, 0) hsz
        obtain ⟨arr', h1, h2⟩ := fill_rel (pc := fun j => ((fields.toList.map fun (f : Field) => (((P.info? f.type).map fun i => (f.offset, i.size)).getD (0, 0))).toArray)[j]?) (by
          intro j r hj
          split at hj
          · rename_i off ft hf
            simp only [List.getElem?_map, Option.map_eq_some_iff] at hf
            obtain ⟨f, hf1, hf2⟩ := hf
            simp only [Prod.mk.injEq] at hf2
            obtain ⟨rfl, rfl⟩ := hf2
            obtain ⟨sz, hs1, hs2⟩ := Option.map_eq_some_iff.1 hj
            subst hs2
            obtain ⟨T', hT', hs3⟩ := Option.map_eq_some_iff.1 hs1
            obtain ⟨_, i', _, _, hi', _, hTe⟩ := tyI_some hT'
            subst hTe
            simp only at hs3
            subst hs3
            simp [hf1, hi']
          · cases hj) hρ parts.toList (z.cells.toList.map ofCell) z.cells cs ⟨by simp, fun j hj => ofCells_rel _ j hj⟩ hcs
        refine ⟨.agg arr', ?_, .agg _ _ h2.1 h2.2⟩
        refine run_build w t _ _ ?_
        unfold Program.built
        simp only [hi, hd, hz, hplaces]
        simpa using h1
  · cases hx
end
end Go.AW
namespace Go.AW
open Go Go.RowKit
section
variable {P : Program} {W0 : World} {ok0 A : Nat → Prop} {β : Nat → Nat × Nat} {h : List AObj} {w : World}
theorem CR_of {cs : List AVal} {cur : Array Value} (hl : cs.length ≤ cur.size) (har : ∀ j (hj : j < cs.length), VR W0 ok0 β h w cs[j] (cur.getD j undef)) : CR W0 ok0 β h w cs (cur.toList.take cs.length) := by
  refine ⟨by simp; omega, fun j hj => ?_⟩
  have := har j hj
  have hj' : j < cur.size := by omega
  simpa [VR, hj, hj'] using this
theorem step_new (hr : HR W0 ok0 A β h w) (o : AObj) (hes : o.es ≠ 0) (cur : Array Value) (cap : Nat) {w' : World} (hw : w'.heap = w.heap.push (.cells cur o.ty)) (hos : w'.os = w.os) (htape : w'.tape = w.tape) (hout : w'.output = w.output)
    (hc1 : cur.size = cap * o.es) (hc2 : cap ≤ maxLen) (hc3 : o.cells.length ≤ cur.size) (har : ∀ j (hj : j < o.cells.length), VR W0 ok0 β h w o.cells[j] (cur.getD j undef)) :
    Step W0 ok0 A β h w (fun i => if i = h.length then (w.heap.size, cap) else β i) (h ++ [o]) w' := by
  have := step_put hr (w' := w') h.length o w.heap.size cap cur (Nat.le_refl _) (.inr rfl) hes (fun l0 h0 => by simp [lens] at h0)
    (fun k hk _ => by rw [hw, Array.getElem?_push, if_neg (by omega)]) (RowAt.of (by rw [hw]; simp)) hos htape hout (by rw [hw]; simp) hc1 hc2 hc3 (CR_of hc3 har)
  simpa [putObj] using this
theorem step_hole (hr : HR W0 ok0 A β h w) : Step W0 ok0 A β h w β (h ++ [⟨0, 0, []⟩]) w := by
  have hat : ∀ (i : Nat) (o : AObj), (h ++ [(⟨0, 0, []⟩ : AObj)])[i]? = some o → o.es ≠ 0 → h[i]? = some o := by
    intro i o hi hes
    rcases Nat.lt_or_ge i h.length with h1 | h1
    · rw [List.getElem?_append_left h1] at hi; exact hi
    · rw [List.getElem?_append_right h1] at hi
      cases hk : i - h.length with
      | zero => rw [hk] at hi; simp at hi; subst hi; exact absurd rfl hes
      | succ k => rw [hk] at hi; simp at hi
  have hlive : ∀ i, live (h ++ [⟨0, 0, []⟩]) i → live h i := fun i ⟨o, ho, hes⟩ => ⟨o, hat i o ho hes, hes⟩
  have hlens : ∀ i l, lens h i = some l → lens (h ++ [⟨0, 0, []⟩]) i = some l := by
    intro i l hl
    obtain ⟨o, ho, hes, rfl⟩ := lens_live hl
    exact lens_some (by rw [List.getElem?_append_left (List.getElem?_eq_some_iff.1 ho).1]; exact ho) hes
  have hok : ∀ b, okIn W0 ok0 w β h b → okIn W0 ok0 w β (h ++ [⟨0, 0, []⟩]) b := fun b hb => ⟨hb.1, fun i ⟨o, ho, hes, hz⟩ => hb.2.1 i ⟨o, hat i o ho hes, hes, hz⟩, hb.2.2⟩
  have hm : ∀ x v, VR W0 ok0 β h w x v → VR W0 ok0 β (h ++ [⟨0, 0, []⟩]) w x v := fun x v hx => VRel.mono hok (fun _ _ h => h) (fun _ _ => rfl) (fun id l hl => ⟨l, hlens id l hl, Nat.le_refl _, fun _ => rfl⟩) hx
  refine ⟨⟨fun i o hi hes => ?_, fun i j hi hj => hr.inj i j (hlive i hi) (hlive j hj), fun i hi => hr.own i (hlive i hi), hr.os, hr.tape, hr.output, hr.wsize, hr.block, fun p hp => ⟨hok _ (hr.tab p hp).1, (hr.tab p hp).2⟩⟩, hm, by simp, fun b hb => ⟨hok b hb, rfl⟩, Nat.le_refl _⟩
  obtain ⟨cur, c1, c2, c3, c4, c5, c6⟩ := hr.heap i o (hat i o hi hes) hes
  exact ⟨cur, c1, c2, c3, c4, c5, fun j hj => hm _ _ (c6 j hj)⟩
theorem step_fill (hr : HR W0 ok0 A β h w) (id : Nat) (o0 o : AObj) (ho : h[id]? = some o0) (h0 : o0.es = 0) (hes : o.es ≠ 0) (cur : Array Value) (cap : Nat) {w' : World} (hw : w'.heap = w.heap.push (.cells cur o.ty)) (hos : w'.os = w.os) (htape : w'.tape = w.tape) (hout : w'.output = w.output)
    (hc1 : cur.size = cap * o.es) (hc2 : cap ≤ maxLen) (hc3 : o.cells.length ≤ cur.size) (har : ∀ j (hj : j < o.cells.length), VR W0 ok0 β h w o.cells[j] (cur.getD j undef)) :
    Step W0 ok0 A β h w (fun i => if i = id then (w.heap.size, cap) else β i) (h.set id o) w' := by
  have hid : id < h.length := (List.getElem?_eq_some_iff.1 ho).1
  have := step_put hr (w' := w') id o w.heap.size cap cur (by omega) (.inr rfl) hes (fun l0 hl => by simp [lens, ho, h0] at hl)
    (fun k hk _ => by rw [hw, Array.getElem?_push, if_neg (by omega)]) (RowAt.of (by rw [hw]; simp)) hos htape hout (by rw [hw]; simp) hc1 hc2 hc3 (CR_of hc3 har)
  simpa [putObj, hid] using this
theorem step_move (hr : HR W0 ok0 A β h w) (id : Nat) (o0 o : AObj) (ho : h[id]? = some o0) (hes0 : o0.es ≠ 0) (hes : o.es ≠ 0) (hlt : o0.cells.length < o.cells.length) (cur : Array Value) (cap : Nat) {w' : World} (hw : w'.heap = w.heap.push (.cells cur o.ty)) (hos : w'.os = w.os) (htape : w'.tape = w.tape) (hout : w'.output = w.output)
    (hc1 : cur.size = cap * o.es) (hc2 : cap ≤ maxLen) (hc3 : o.cells.length ≤ cur.size) (har : ∀ j (hj : j < o.cells.length), VR W0 ok0 β h w o.cells[j] (cur.getD j undef)) :
    Step W0 ok0 A β h w (fun i => if i = id then (w.heap.size, cap) else β i) (h.set id o) w' := by
  have hid : id < h.length := by
    rcases Nat.lt_or_ge id h.length with h' | h'
    · exact h'
    · rw [List.getElem?_eq_none h'] at ho; cases ho
  have := step_put hr (w' := w') id o w.heap.size cap cur (by omega) (.inr rfl) hes (fun l0 h0 => by rw [lens_some ho hes0] at h0; cases h0; exact ⟨by omega, fun e => by omega⟩)
    (fun k hk _ => by rw [hw, Array.getElem?_push, if_neg (by omega)]) (RowAt.of (by rw [hw]; simp)) hos htape hout (by rw [hw]; simp) hc1 hc2 hc3 (CR_of hc3 har)
  simpa [putObj, hid] using this
theorem step_here (hr : HR W0 ok0 A β h w) (id : Nat) (o0 o : AObj) (ho : h[id]? = some o0) (hes0 : o0.es ≠ 0) (hz0 : o0.ty ≠ FZ) (hle : o0.cells.length ≤ o.cells.length) (hty : o.ty = o0.ty) (hes : o.es = o0.es) (cur0 cur : Array Value) (h0 : w.heap[(β id).1]? = some (.cells cur0 o0.ty (0, 0))) (hcs : cur.size = cur0.size)
    (hc1 : cur0.size = (β id).2 * o0.es) (hc2 : (β id).2 ≤ maxLen) (hc3 : o.cells.length ≤ cur.size) (har : ∀ j (hj : j < o.cells.length), VR W0 ok0 β h w o.cells[j] (cur.getD j undef)) :
    Step W0 ok0 A β h w β (h.set id o) (w.setRow (β id).1 cur) := by
  have hid : id < h.length := by
    rcases Nat.lt_or_ge id h.length with h' | h'
    · exact h'
    · rw [List.getElem?_eq_none h'] at ho; cases ho
  have hβ : (fun i => if i = id then ((β id).1, (β id).2) else β i) = β := by
    funext i; split
    · rename_i e; subst e; rfl
    · rfl
  have := step_put hr (w' := w.setRow (β id).1 cur) id o (β id).1 (β id).2 cur (by omega) (.inl ⟨⟨o0, ho, hes0, hz0⟩, rfl⟩) (by rw [hes]; exact hes0) (fun l0 h0 => by rw [lens_some ho hes0] at h0; cases h0; exact ⟨hle, fun _ => ⟨rfl, rfl⟩⟩)
    (fun k hk hne => setRow_other w _ k _ hne) (RowAt.of (by rw [hty]; exact setRow_heap w _ cur0 cur _ _ h0)) rfl rfl rfl (by simp) (by rw [hcs, hc1, hes]) hc2 hc3 (CR_of hc3 har)
  rw [hβ] at this
  simpa [putObj, hid] using this
theorem HR.row (hr : HR W0 ok0 A β h w) {id : Nat} {o : AObj} (ho : h[id]? = some o) (hes : o.es ≠ 0) (hfz : o.ty ≠ FZ) : ∃ cur : Array Value, w.heap[(β id).1]? = some (.cells cur o.ty (0, 0)) ∧ cur.size = (β id).2 * o.es ∧ (β id).2 ≤ maxLen ∧ o.cells.length ≤ cur.size ∧
    ∀ j (hj : j < o.cells.length), VR W0 ok0 β h w o.cells[j] (cur.getD j undef) := by
  obtain ⟨cur, h1, h2, h3, h4, h5, h6⟩ := hr.heap id o ho hes
  refine ⟨cur, h1.ty hfz, h2, h3, h4, fun j hj => ?_⟩
  have := h6 j hj
  have hj' : j < cur.size := by omega
  simpa [VR, hj, hj'] using this
theorem VR.cells_one {cs : List AVal} {vs : Array Value} (h1 : cs.all AVal.one = true) (har : AR W0 ok0 β h w cs vs) : ∀ v ∈ vs.toList, v.oneCell' = true := by
  intro v hv
  obtain ⟨j, hj, rfl⟩ := List.mem_iff_getElem.1 hv
  have hj' : j < vs.size := by simpa using hj
  have hjc : j < cs.length := by rw [← har.1]; exact hj'
  have := har.2 j hjc
  simp only [List.all_eq_true] at h1
  have h2 := VRel.oneCell this (h1 _ (List.getElem_mem hjc))
  simpa [hj'] using h2
theorem aStore_rel (hr : HR W0 ok0 A β h w) {t : TypeId} {p x : AVal} {pv v : Value} {h' : List AObj} (hp : VR W0 ok0 β h w p pv) (hv : VR W0 ok0 β h w x v) (hx : aStore P t h p x = some h') :
    ∃ w', (Instr.storeAt t pv v).run P w = .ok () w' ∧ Step W0 ok0 A β h w β h' w' := by
  unfold aStore at hx
  split at hx
  · rename_i T id off ext vs ht hps
    split at hx
    · rename_i o ho
      split at hx
      · rename_i hc
        obtain ⟨h0, h1, h2, h3, h4⟩ := hc
        cases hx
        have hes := hp.ptr_es ho
        have hpv := hp.ptr_live (cs := o.cells) (by simp [cellsAt, ho, h1])
        have har := parts_rel hv hps
        obtain ⟨cur, hb, hs, hm, hl, hcr⟩ := hr.row ho hes h0
        have hone := VR.cells_one h4 har
        have hrun := run_storeCells_at P (β id).1 off o.ty v.cells.toList 0 cur w hb (by simp [har.1]; omega) hone
        refine ⟨_, ?_, step_here hr id o ⟨o.ty, o.es, splice o.cells off vs⟩ ho hes h0 (by rw [splice_length _ _ _ (by omega)]; exact Nat.le_refl _) rfl rfl cur (cur.toList.take (off + 0) ++ v.cells.toList ++ cur.toList.drop (off + 0 + v.cells.toList.length)).toArray hb ?_ hs hm ?_ ?_⟩
        · simp only [Instr.storeAt, hpv, Instr.sureAddr, Sem.run_bind, Sem.run_pure, Result.andThen_ok, storeVar, run_sizeOf' ht]
          have : v.cells.size = T.size := by rw [har.1, h2]
          simp [this, hrun]
        · simp [har.1]; omega
        · simp only [splice_length _ _ _ (show off + vs.length ≤ o.cells.length by omega)]
          simp [har.1]; omega
        · intro j hj
          rw [splice_get _ _ _ (by omega) _ hj]
          rw [splice_length _ _ _ (by omega)] at hj
          have hjc : j < cur.size := by omega
          simp only [Nat.add_zero]
          have hA := har.1
          split
          · rename_i hin
            have h5 := har.2 (j - off) (by omega)
            have h6 : j - off < v.cells.size := by omega
            have e : (cur.toList.take off ++ v.cells.toList ++ cur.toList.drop (off + v.cells.toList.length)).toArray.getD j undef = v.cells.getD (j - off) undef := by
              simp only [Array.getD_eq_getD_getElem?, List.getElem?_toArray]
              rw [List.getElem?_append_left (by simp; omega), List.getElem?_append_right (by simp; omega)]
              have e2 : j - (cur.toList.take off).length = j - off := by simp; omega
              rw [e2]
              simp [h6]
            rw [e]; exact h5
          · rename_i hin
            have h5 := hcr j hj
            have e : (cur.toList.take off ++ v.cells.toList ++ cur.toList.drop (off + v.cells.toList.length)).toArray.getD j undef = cur.getD j undef := by
              simp only [Array.getD_eq_getD_getElem?, List.getElem?_toArray]
              rcases Nat.lt_or_ge j off with h7 | h7
              · rw [List.getElem?_append_left (by simp; omega), List.getElem?_append_left (by simp; omega), List.getElem?_take_of_lt h7]
                simp [hjc]
              · rw [List.getElem?_append_right (by simp; omega), List.getElem?_drop]
                have e2 : off + v.cells.toList.length + (j - (cur.toList.take off ++ v.cells.toList).length) = j := by simp; omega
                rw [e2]
                simp [hjc]
            rw [e]; exact h5
      · cases hx
    · cases hx
  · cases hx
end
end Go.AW
namespace Go.AW
open Go Go.RowKit
section
variable {P : Program} {W0 : World} {ok0 A : Nat → Prop} {β : Nat → Nat × Nat} {h : List AObj} {w : World}
theorem run_append_zero {t ty e : TypeId} {i : TypeInfo} (ht : P.underlying t = some (.slice e)) (hi : P.info? e = some i) (base src : Option Addr) (n cap c : Nat) (hn : n ≤ cap) :
    (Builtin.append_ #[t, t] ty #[.slice base n cap, .slice src 0 c]).run P w = .ok (.slice base n cap) w := by
  cases base <;> cases src <;> simp [Builtin.append_, run_underlying ht, sizeOf, typeInfo, hi, Builtin.lenOf, hn, Builtin.firstCells, loadCells, loadCellsFrom, storeCells]
theorem ref_new {o : AObj} {cap n ext : Nat} {w' : World} (hes : o.es ≠ 0) (hn : n ≤ cap) (hext : ext = o.cells.length) :
    VR W0 ok0 (fun i => if i = h.length then (w.heap.size, cap) else β i) (h ++ [o]) w' (.ref h.length 0 n ext) (.slice (some ⟨w.heap.size, 0, none⟩) n cap) := by
  refine .ref _ _ _ _ o.cells.length _ _ (by simp [lens, hes]) (by omega) hn rfl (fun _ => by simp)
theorem ptr_new {o : AObj} {cap ext : Nat} {w' : World} (hes : o.es ≠ 0) (hext : ext = o.cells.length) :
    VR W0 ok0 (fun i => if i = h.length then (w.heap.size, cap) else β i) (h ++ [o]) w' (.ptr h.length 0 ext) (.pointer (some ⟨w.heap.size, 0, none⟩)) := by
  refine .ptr _ _ _ o.cells.length _ (by simp [lens, hes]) (by omega) (fun _ => by simp)
theorem zero_AR {t : TypeId} {T : TyI} (ht : tyI P t = some T) : ∃ z : Value, (zeroValue t).run P w = .ok z w ∧ z.cells.toList = T.zero ∧ AR W0 ok0 β h w (T.zero.map ofCell) z.cells := by
  obtain ⟨d, i, z, hd, hi, hz, rfl⟩ := tyI_some ht
  exact ⟨z, by simp [zeroValue, typeInfo, hi, hz], rfl, by simp, fun j hj => ofCells_rel _ j hj⟩
theorem zerosV_len (zero : List Value) (n : Nat) : (zeros zero n).length = n := by simp [zeros]
theorem mkZ_len (zero : List Value) (n : Nat) : (mkZ zero n).length = n * zero.length := by
  unfold mkZ
  split
  · simp
  · exact zerosV_len _ _
theorem mkZ_get (zero : List Value) (n : Nat) {j : Nat} (hj : j < (mkZ zero n).length) : (mkZ zero n)[j] = ofCell (zero.getD (j % zero.length) undef) := by
  unfold mkZ at hj ⊢
  split at hj
  · simp [Nat.mod_one]
  · simp [zeros]
theorem mkZ_made {z0 : Value} {zero : List Value} (hz : z0.cells.toList = zero) (h0 : zero.length ≠ 0) {a b j : Nat} (hab : a ≤ b) (hj : j < (mkZ zero a).length) : VR W0 ok0 β h w ((mkZ zero a)[j]) ((madeCells z0.cells (b * zero.length)).getD j undef) := by
  have hj' := hj
  rw [mkZ_len] at hj'
  have hle : a * zero.length ≤ b * zero.length := Nat.mul_le_mul_right _ hab
  have hsz : z0.cells.size = zero.length := by rw [← hz]; simp
  have e1 : (madeCells z0.cells (b * zero.length)).getD j undef = zero.getD (j % zero.length) undef := by
    have hjb : j < b * zero.length := by omega
    have hm : j % zero.length < zero.length := Nat.mod_lt _ (by omega)
    subst hz
    rw [Array.length_toList] at hm hjb ⊢
    simp [madeCells, hjb, hm]
  rw [e1, mkZ_get]
  exact ofCell_rel _
theorem aMake_rel (hr : HR W0 ok0 A β h w) {t : TypeId} {l c : AVal} {lv cv : Value} {x : AVal} {h' : List AObj} (hl : VR W0 ok0 β h w l lv) (hc : VR W0 ok0 β h w c cv) (hx : aMake P t h l c = some (x, h')) :
    ∃ v β' w', (Instr.makeSlice t lv cv).run P w = .ok v w' ∧ Step W0 ok0 A β h w β' h' w' ∧ VR W0 ok0 β' h' w' x v := by
  unfold aMake at hx
  split at hx
  · rename_i T k1 a k2 b ht
    split at hx
    · rename_i e he
      split at hx
      · rename_i E hE
        split at hx
        · rename_i hc'
          obtain ⟨h1, h1', h2, h3, h4, h5⟩ := hc'
          simp only [Option.some.injEq, Prod.mk.injEq] at hx
          obtain ⟨rfl, rfl⟩ := hx
          cases hl; cases hc
          have hu := elem_slice ht he
          obtain ⟨d, i, z0, hd, hi, hz0, hT⟩ := tyI_some hE
          subst hT
          simp only at h1 h1' h4
          have hrun := run_make (P := P) w t e i z0 hu hi hz0 k1 k2 a b h2 h3 (by omega) (by omega)
          have hsz : (madeCells z0.cells (b.toNat * i.size)).size = b.toNat * i.size := by rw [size_madeCells]
          have hab : a.toNat ≤ b.toNat := by omega
          have hle : a.toNat * i.size ≤ b.toNat * i.size := Nat.mul_le_mul_right _ hab
          have hml : (mkZ z0.cells.toList a.toNat).length = a.toNat * i.size := by rw [mkZ_len, h1]
          refine ⟨_, _, _, hrun, step_new hr ⟨e, i.size, mkZ z0.cells.toList a.toNat⟩ h1' _ b.toNat rfl rfl rfl rfl hsz (by simp only [maxLen]; omega) (by rw [hsz]; exact hml ▸ hle) (fun j hj => ?_), ref_new h1' (by omega) hml.symm⟩
          have := mkZ_made (W0 := W0) (ok0 := ok0) (β := β) (h := h) (w := w) (z0 := z0) rfl (by rw [h1]; exact h1') hab hj
          rw [h1] at this
          exact this
        · cases hx
      · cases hx
    · cases hx
  · cases hx
theorem cells_of_view {cs : List AVal} {b off : Nat} (hc : Cells W0 ok0 β h w b off cs) : ∃ news : List Value, news.length = cs.length ∧ (∀ j u, news[j]? = some u → w.cell? ((⟨b, off, none⟩ : Addr).add j) = some u) ∧
    ∀ j (hj : j < cs.length), VR W0 ok0 β h w cs[j] (news.getD j undef) := by
  refine ⟨(List.range cs.length).map fun j => (w.cell? ⟨b, off + j, none⟩).getD undef, by simp, fun j u hu => ?_, fun j hj => ?_⟩
  · simp only [List.getElem?_map, Option.map_eq_some_iff] at hu
    obtain ⟨j', hj1, hj2⟩ := hu
    obtain ⟨hlt, he⟩ := List.getElem?_eq_some_iff.1 hj1
    simp at hlt he
    subst he
    obtain ⟨u', h1, _⟩ := hc j (by simpa using hlt)
    rw [Addr.add_lit, ← hj2, h1]; rfl
  · obtain ⟨u, h1, h2⟩ := hc j hj
    simpa [hj, h1] using h2
theorem aAppend_rel (hr : HR W0 ok0 A β h w) {t ty : TypeId} {s y : AVal} {sv yv : Value} {x : AVal} {h' : List AObj} (hs : VR W0 ok0 β h w s sv) (hy : VR W0 ok0 β h w y yv) (hx : aAppend P t h s y = some (x, h')) :
    ∃ v β' w', (Builtin.append_ #[t, t] ty #[sv, yv]).run P w = .ok v w' ∧ Step W0 ok0 A β h w β' h' w' ∧ VR W0 ok0 β' h' w' x v := by
  unfold aAppend at hx
  split at hx
  · rename_i T ht
    split at hx
    · rename_i e he
      have hu := elem_slice ht he
      split at hx
      · rename_i E m cs hE hview
        split at hx
        · rename_i hcond
          obtain ⟨hlen, hone, hpos, hzl⟩ := hcond
          obtain ⟨d, i, z0, hd, hi, hz0, hT⟩ := tyI_some hE
          have hEs : E.size = i.size := by rw [hT]
          have hEb : E.bytes = i.bytes := by rw [hT]
          have hEs0 : E.size ≠ 0 := by omega
          have hzs : z0.cells.size = i.size := by rw [← hEs, ← hzl, hT]; simp
          obtain ⟨ya, yc, rfl, hyc, hyr⟩ := sview_rel hr hy hview
          by_cases hm : m = 0
          · -- nothing is appended
            subst hm
            split at hx
            · rename_i b
              simp only [if_true, Option.some.injEq, Prod.mk.injEq] at hx
              obtain ⟨rfl, rfl⟩ := hx
              cases hs with
              | cap0 b a hb hsp =>
                refine ⟨_, β, w, run_append_zero hu hi a ya 0 0 yc (Nat.le_refl _), step_hole hr, ?_⟩
                cases b with
                | true =>
                  cases a with
                  | none => exact .res _
                  | some a => simp at hb
                | false => exact .cap0 false a hb hsp
            · rename_i k
              simp only [if_true, Option.some.injEq, Prod.mk.injEq] at hx
              obtain ⟨rfl, rfl⟩ := hx
              cases hs with
              | res k => exact ⟨_, β, w, run_append_zero hu hi none ya 0 0 yc (Nat.le_refl _), Step.refl hr, .res k⟩
            · rename_i n cs0
              simp only [if_true, Option.some.injEq, Prod.mk.injEq] at hx
              obtain ⟨rfl, rfl⟩ := hx
              cases hs with
              | lit b off _ _ cv hok hp hc hr' => exact ⟨_, β, w, run_append_zero hu hi _ ya _ _ yc (Nat.le_refl _), Step.refl hr, .lit b off _ _ cv hok hp hc hr'⟩
            · rename_i id n ext
              split at hx
              · rename_i o ho
                split at hx
                · rename_i hc
                  obtain ⟨h1, h2, h3, h4, h5, h6⟩ := hc
                  simp only [Nat.add_zero, Nat.zero_mul, List.take_zero, List.append_nil, Option.some.injEq, Prod.mk.injEq] at hx
                  obtain ⟨rfl, rfl⟩ := hx
                  have hes := hs.ref_es ho
                  have hset : h.set id ⟨o.ty, o.es, o.cells⟩ = h := by
                    obtain ⟨hid, he0⟩ := List.getElem?_eq_some_iff.1 ho
                    rw [show (⟨o.ty, o.es, o.cells⟩ : AObj) = h[id] from he0.symm]; simp
                  rw [hset]
                  obtain ⟨cap, hn, hcap, rfl⟩ := hs.ref_live (cs := o.cells) (by simp [cellsAt, ho, h1])
                  exact ⟨_, β, w, run_append_zero hu hi _ ya n cap yc hn, Step.refl hr, by rw [← h2]; exact hs⟩
                · rw [if_neg (fun h => h.2.2.2.2 rfl)] at hx
                  cases hx
              · cases hx
            · cases hx
          · -- something is
            have hmpos : 0 < m := Nat.pos_of_ne_zero hm
            obtain ⟨b, off, rfl, hcells⟩ : ∃ b off, ya = some ⟨b, off, none⟩ ∧ Cells W0 ok0 β h w b off cs := by
              rcases hyr with ⟨_, h0, _, _⟩ | ⟨h0, _⟩ | hyr
              · exact absurd h0 hm
              · exact absurd h0 hm
              · exact hyr
            obtain ⟨news, hnl, hnews, hnrel⟩ := cells_of_view (hcells.take (m * E.size))
            have hnl' : news.length = m * i.size := by rw [hnl, hlen, hEs]
            have hnone : ∀ u ∈ news, u.oneCell' = true := fun u hu => by
              obtain ⟨j, hj, rfl⟩ := List.mem_iff_getElem.1 hu
              have hj' : j < (cs.take (m * E.size)).length := by omega
              have h1 := hnrel j hj'
              simp only [List.all_eq_true] at hone
              have h2 := VRel.oneCell h1 (hone _ (List.getElem_mem hj'))
              simpa [hj] using h2
            split at hx
            · rename_i b'
              rw [if_neg hm] at hx
              split at hx
              · rename_i hbnd
                obtain ⟨hb1, hb2⟩ := hbnd
                simp only [Option.some.injEq, Prod.mk.injEq] at hx
                obtain ⟨rfl, rfl⟩ := hx
                cases hs with
                | cap0 b' a hb _ =>
                have hge := grownCap_ge w m 0 e
                have hcm : grownCap w m 0 e ≤ maxLen := grownCap_le_maxLen w m 0 e (by simp only [maxLen]; omega)
                have hstep : ∀ w' : World, w'.heap = w.heap.push (.cells (news.toArray ++ Builtin.zeroCells z0.cells (grownCap w m 0 e - m)) e) → w'.os = w.os → w'.tape = w.tape → w'.output = w.output →
                    Step W0 ok0 A β h w (fun i => if i = h.length then (w.heap.size, grownCap w m 0 e) else β i) (h ++ [⟨e, E.size, cs.take (m * E.size)⟩]) w' := fun w' a1 a2 a3 a4 => by
                  refine step_new hr ⟨e, E.size, cs.take (m * E.size)⟩ hEs0 _ (grownCap w m 0 e) a1 a2 a3 a4 ?_ hcm ?_ ?_
                  · simp only [Array.size_append, List.size_toArray, size_zeroCells, hzs, hnl', ← Nat.add_mul, hEs]
                    congr 1; omega
                  · simp only [Array.size_append, List.size_toArray]; omega
                  · intro j hj
                    have h1 := hnrel j hj
                    have hj' : j < news.length := by simp only at hj; omega
                    have e1 : (news.toArray ++ Builtin.zeroCells z0.cells (grownCap w m 0 e - m)).getD j undef = news.getD j undef := by
                      simp only [Array.getD_eq_getD_getElem?, List.getD_eq_getElem?_getD]
                      rw [Array.getElem?_append_left (by simpa using hj')]
                      simp
                    rw [e1]; exact h1
                cases a with
                | none =>
                  have hrun := run_append_nil (P := P) w t ty e i z0 hu hi hz0 ⟨b, off, none⟩ m yc news hnl' hnews hmpos (by omega) (by rw [← hEb]; omega)
                  exact ⟨_, _, _, hrun, hstep _ rfl rfl rfl rfl, ref_new hEs0 hge (by simp [hlen])⟩
                | some a =>
                  have hrun := run_append_grow (P := P) w t ty e i z0 hu hi hz0 a 0 0 [] (by simp) (fun j u hu => by simp at hu) ⟨b, off, none⟩ m yc news hnl' hnews (by omega) (by omega) (growslice_fits (by omega) (by rw [← hEb]; simpa using hb1))
                  simp only [Nat.zero_add, Array.empty_append] at hrun
                  exact ⟨_, _, _, hrun, hstep _ rfl rfl rfl rfl, ref_new hEs0 hge (by simp [hlen])⟩
              · cases hx
            · rename_i k
              rw [if_neg hm] at hx
              split at hx
              · rename_i o ho
                split at hx
                · rename_i hbnd
                  obtain ⟨hh0, hb1, hb2⟩ := hbnd
                  simp only [Option.some.injEq, Prod.mk.injEq] at hx
                  obtain ⟨rfl, rfl⟩ := hx
                  cases hs with
                  | res k =>
                  have hge := grownCap_ge w m 0 e
                  have hcm : grownCap w m 0 e ≤ maxLen := grownCap_le_maxLen w m 0 e (by simp only [maxLen]; omega)
                  have hk : k < h.length := (List.getElem?_eq_some_iff.1 ho).1
                  have hrun := run_append_nil (P := P) w t ty e i z0 hu hi hz0 ⟨b, off, none⟩ m yc news hnl' hnews hmpos (by omega) (by rw [← hEb]; omega)
                  refine ⟨_, _, _, hrun, step_fill hr k o ⟨e, E.size, cs.take (m * E.size)⟩ ho hh0 hEs0 _ (grownCap w m 0 e) rfl rfl rfl rfl ?_ hcm ?_ ?_, ?_⟩
                  · simp only [Array.size_append, List.size_toArray, size_zeroCells, hzs, hnl', ← Nat.add_mul, hEs]
                    congr 1; omega
                  · simp only [Array.size_append, List.size_toArray]; omega
                  · intro j hj
                    have h1 := hnrel j hj
                    have hj' : j < news.length := by simp only at hj; omega
                    have e1 : (news.toArray ++ Builtin.zeroCells z0.cells (grownCap w m 0 e - m)).getD j undef = news.getD j undef := by
                      simp only [Array.getD_eq_getD_getElem?, List.getD_eq_getElem?_getD]
                      rw [Array.getElem?_append_left (by simpa using hj')]
                      simp
                    rw [e1]; exact h1
                  · refine .ref _ _ _ _ (m * E.size) _ _ ?_ (Nat.le_refl _) hge rfl (fun _ => by simp)
                    simp [lens, hk, hlen, hEs0]
                · cases hx
              · cases hx
            · rename_i n cs0
              rw [if_neg hm] at hx
              split at hx
              · rename_i hbnd
                obtain ⟨hb0, hb1, hb2⟩ := hbnd
                simp only [Option.some.injEq, Prod.mk.injEq] at hx
                obtain ⟨rfl, rfl⟩ := hx
                cases hs with
                | lit sb soff _ _ scv sok sp shc shr =>
                have holds : ∃ olds : List Value, olds.length = cs0.length ∧ (∀ j u, olds[j]? = some u → w.cell? ((⟨sb, soff, none⟩ : Addr).add j) = some u) ∧ ∀ j (hj : j < cs0.length), VR W0 ok0 β h w cs0[j] (olds.getD j undef) :=
                  cells_of_view (fun j hj => ⟨scv j, shc j hj, shr j hj⟩)
                obtain ⟨olds, ho1, ho2, ho3⟩ := holds
                have hol : cs0.length = n * i.size := by rw [hb0, hEs]
                have hnewlen : (cs0 ++ cs.take (m * E.size)).length = (n + m) * E.size := by
                  rw [List.length_append, hlen, hb0, Nat.add_mul]
                have hge := grownCap_ge w (n + m) n e
                have hcm : grownCap w (n + m) n e ≤ maxLen := grownCap_le_maxLen w (n + m) n e (by simp only [maxLen]; omega)
                have hrun := run_append_grow (P := P) w t ty e i z0 hu hi hz0 ⟨sb, soff, none⟩ n n olds (by omega) ho2 ⟨b, off, none⟩ m yc news hnl' hnews (by omega) (by omega) (growslice_fits (by omega) (by rw [← hEb]; exact hb1))
                refine ⟨_, _, _, hrun, step_new hr ⟨e, E.size, cs0 ++ cs.take (m * E.size)⟩ hEs0 _ (grownCap w (n + m) n e) rfl rfl rfl rfl ?_ hcm ?_ ?_, ref_new hEs0 hge (by rw [hnewlen])⟩
                · simp only [Array.size_append, List.size_toArray, size_zeroCells, hzs, ho1, hol, hnl', ← Nat.add_mul, hEs]
                  congr 1; omega
                · simp only [Array.size_append, List.size_toArray, List.length_append, ho1, hnl]; omega
                · intro j hj
                  simp only [hnewlen] at hj
                  have hjn : j < olds.length + news.length := by rw [ho1, hol, hnl', ← Nat.add_mul, ← hEs]; exact hj
                  have e0 : (olds.toArray ++ news.toArray ++ Builtin.zeroCells z0.cells (grownCap w (n + m) n e - (n + m))).getD j undef = ((olds ++ news)[j]?).getD undef := by
                    simp only [Array.getD_eq_getD_getElem?]
                    rw [Array.getElem?_append_left (by simpa using hjn)]
                    simp
                  rw [e0]
                  rcases Nat.lt_or_ge j cs0.length with hjo | hjo
                  · simp only [List.getElem_append_left hjo]
                    have h7 := ho3 j hjo
                    rw [List.getElem?_append_left (by omega), ← List.getD_eq_getElem?_getD]
                    exact h7
                  · simp only [List.getElem_append_right hjo]
                    have hj2 : j - cs0.length < (cs.take (m * E.size)).length := by rw [hlen]; rw [Nat.add_mul] at hj; omega
                    have h7 := hnrel (j - cs0.length) hj2
                    rw [List.getElem?_append_right (by omega), ho1, ← List.getD_eq_getElem?_getD]
                    exact h7
              · cases hx
            · rename_i id n ext
              split at hx
              · rename_i o ho
                split at hx
                · rename_i hc
                  obtain ⟨h1, h2, h3, h4, h5, h6⟩ := hc
                  simp only [Option.some.injEq, Prod.mk.injEq] at hx
                  obtain ⟨rfl, rfl⟩ := hx
                  obtain ⟨cap, hn, hcap, rfl⟩ := hs.ref_live (cs := o.cells) (by simp [cellsAt, ho, h1])
                  have hes := hs.ref_es ho
                  have hcap' := hcap rfl
                  obtain ⟨cur, hb, hcs, hmx, hl, hcr⟩ := hr.row ho hes (by rw [h3]; exact tyI_ne hE)
                  have hol : o.cells.length = n * i.size := by rw [h1, h2, hEs]
                  have hnewlen : (o.cells ++ cs.take (m * E.size)).length = (n + m) * E.size := by
                    rw [List.length_append, hlen, h1, h2, Nat.add_mul]
                  have hid : id < h.length := (List.getElem?_eq_some_iff.1 ho).1
                  by_cases hroom : n + m ≤ cap
                  · -- there is room
                    have hfit : n * i.size + news.length ≤ cur.size := by
                      rw [hnl', hcs, h4, hEs, ← hcap', ← Nat.add_mul]; exact Nat.mul_le_mul_right _ hroom
                    rw [h3] at hb
                    have hrun := run_append_room (P := P) w t ty e i hu hi (β id).1 n cap cur hb ⟨b, off, none⟩ m yc news hnl' hnews hnone hroom hfit
                    refine ⟨_, β, _, hrun, step_here hr id o ⟨o.ty, o.es, o.cells ++ cs.take (m * E.size)⟩ ho hes (by rw [h3]; exact tyI_ne hE) (by simp) rfl rfl cur _ (by rw [h3]; exact hb) ?_ hcs hmx ?_ ?_, ?_⟩
                    · simp only [List.size_toArray, List.length_append, List.length_take, List.length_drop, Array.length_toList]; omega
                    · simp only [List.size_toArray, List.length_append, List.length_take, List.length_drop, Array.length_toList, hol]; omega
                    · intro j hj
                      simp only [hnewlen] at hj
                      rcases Nat.lt_or_ge j o.cells.length with hjo | hjo
                      · simp only [List.getElem_append_left hjo]
                        have h7 := hcr j hjo
                        have e1 : (cur.toList.take (n * i.size) ++ news ++ cur.toList.drop (n * i.size + news.length)).toArray.getD j undef = cur.getD j undef := by
                          simp only [Array.getD_eq_getD_getElem?, List.getElem?_toArray]
                          rw [List.getElem?_append_left (by simp; omega), List.getElem?_append_left (by simp; omega), List.getElem?_take_of_lt (by omega)]
                          simp
                        rw [e1]; exact h7
                      · simp only [List.getElem_append_right hjo]
                        have hj2 : j - o.cells.length < (cs.take (m * E.size)).length := by rw [hlen]; rw [Nat.add_mul] at hj; omega
                        have h7 := hnrel (j - o.cells.length) hj2
                        have e1 : (cur.toList.take (n * i.size) ++ news ++ cur.toList.drop (n * i.size + news.length)).toArray.getD j undef = news.getD (j - o.cells.length) undef := by
                          simp only [Array.getD_eq_getD_getElem?, List.getElem?_toArray, List.getD_eq_getElem?_getD]
                          rw [List.getElem?_append_left (by simp; omega), List.getElem?_append_right (by simp; omega)]
                          congr 2
                          simp; omega
                        rw [e1]; exact h7
                    · refine .ref _ _ _ _ ((n + m) * E.size) _ _ ?_ (Nat.le_refl _) hroom rfl (fun _ => ⟨rfl, fun _ => hcap'⟩)
                      simp [lens, hid, hlen, h1, h2, Nat.add_mul, hes]
                  · -- it moves
                    have holds : ∃ olds : List Value, olds.length = o.cells.length ∧ (∀ j u, olds[j]? = some u → w.cell? ((⟨(β id).1, 0, none⟩ : Addr).add j) = some u) ∧ ∀ j (hj : j < o.cells.length), VR W0 ok0 β h w o.cells[j] (olds.getD j undef) := by
                      have := hr.cells ho hes 0
                      simp only [List.drop_zero] at this
                      exact cells_of_view this
                    obtain ⟨olds, ho1, ho2, ho3⟩ := holds
                    have hge := grownCap_ge w (n + m) cap e
                    have hcm : grownCap w (n + m) cap e ≤ maxLen := grownCap_le_maxLen w (n + m) cap e (by simp only [maxLen]; omega)
                    have hrun := run_append_grow (P := P) w t ty e i z0 hu hi hz0 ⟨(β id).1, 0, none⟩ n cap olds (by omega) ho2 ⟨b, off, none⟩ m yc news hnl' hnews (by omega) (by omega) (growslice_fits (by omega) (by rw [← hEb]; exact h5))
                    refine ⟨_, _, _, hrun, step_move hr id o ⟨o.ty, o.es, o.cells ++ cs.take (m * E.size)⟩ ho hes hes ?_ _ (grownCap w (n + m) cap e) (by simp only [h3]; rfl) rfl rfl rfl ?_ hcm ?_ ?_, ?_⟩
                    · simp only [List.length_append, hlen]
                      have := Nat.mul_pos hmpos hpos
                      omega
                    · simp only [Array.size_append, List.size_toArray, size_zeroCells, hzs, ho1, hol, hnl', ← Nat.add_mul, h4, hEs]
                      congr 1; omega
                    · simp only [Array.size_append, List.size_toArray, List.length_append, ho1, hnl]; omega
                    · intro j hj
                      simp only [hnewlen] at hj
                      have hjn : j < olds.length + news.length := by rw [ho1, hol, hnl', ← Nat.add_mul, ← hEs]; exact hj
                      have e0 : (olds.toArray ++ news.toArray ++ Builtin.zeroCells z0.cells (grownCap w (n + m) cap e - (n + m))).getD j undef = ((olds ++ news)[j]?).getD undef := by
                        simp only [Array.getD_eq_getD_getElem?]
                        rw [Array.getElem?_append_left (by simpa using hjn)]
                        simp
                      rw [e0]
                      rcases Nat.lt_or_ge j o.cells.length with hjo | hjo
                      · simp only [List.getElem_append_left hjo]
                        have h7 := ho3 j hjo
                        rw [List.getElem?_append_left (by omega), ← List.getD_eq_getElem?_getD]
                        exact h7
                      · simp only [List.getElem_append_right hjo]
                        have hj2 : j - o.cells.length < (cs.take (m * E.size)).length := by rw [hlen]; rw [Nat.add_mul] at hj; omega
                        have h7 := hnrel (j - o.cells.length) hj2
                        rw [List.getElem?_append_right (by omega), ho1, ← List.getD_eq_getElem?_getD]
                        exact h7
                    · refine .ref _ _ _ _ ((n + m) * E.size) _ _ ?_ (Nat.le_refl _) hge rfl (fun _ => by simp)
                      simp [lens, hid, hlen, h1, h2, Nat.add_mul, hes]
                · split at hx
                  · rename_i hc
                    obtain ⟨h1, h2, h3, h4, _⟩ := hc
                    simp only [Option.some.injEq, Prod.mk.injEq] at hx
                    obtain ⟨rfl, rfl⟩ := hx
                    obtain ⟨cap, hn, hcap, rfl⟩ := hs.ref_live (cs := o.cells) (by simp [cellsAt, ho, h1])
                    have hes := hs.ref_es ho
                    have hcap' := hcap rfl
                    obtain ⟨cur, hb, hcs, hmx, hl, hcr⟩ := hr.row ho hes (by rw [h3]; exact tyI_ne hE)
                    have hid : id < h.length := (List.getElem?_eq_some_iff.1 ho).1
                    have hroom : n + m ≤ cap := by
                      rw [h4, ← hcap'] at hcs
                      exact Nat.le_of_mul_le_mul_right (by omega) hpos
                    have hfit : n * i.size + news.length ≤ cur.size := by
                      rw [hnl', hcs, h4, hEs, ← hcap', ← Nat.add_mul]; exact Nat.mul_le_mul_right _ hroom
                    have hni : n * E.size = n * i.size := by rw [hEs]
                    have hsl : n * E.size + (cs.take (m * E.size)).length ≤ o.cells.length := by rw [hlen, h1, ← Nat.add_mul]; exact h2
                    rw [h3] at hb
                    have hrun := run_append_room (P := P) w t ty e i hu hi (β id).1 n cap cur hb ⟨b, off, none⟩ m yc news hnl' hnews hnone hroom hfit
                    refine ⟨_, β, _, hrun, step_here hr id o ⟨o.ty, o.es, splice o.cells (n * E.size) (cs.take (m * E.size))⟩ ho hes (by rw [h3]; exact tyI_ne hE) (by rw [splice_length _ _ _ hsl]; exact Nat.le_refl _) rfl rfl cur _ (by rw [h3]; exact hb) ?_ hcs hmx ?_ ?_, ?_⟩
                    · simp only [List.size_toArray, List.length_append, List.length_take, List.length_drop, Array.length_toList]; omega
                    · simp only [splice_length _ _ _ hsl, List.size_toArray, List.length_append, List.length_take, List.length_drop, Array.length_toList]; omega
                    · intro j hj
                      rw [splice_get _ _ _ hsl _ hj]
                      rw [splice_length _ _ _ hsl] at hj
                      have hjc : j < cur.size := by omega
                      split
                      · rename_i hin
                        have h5 := hnrel (j - n * E.size) (by omega)
                        have e1 : (cur.toList.take (n * i.size) ++ news ++ cur.toList.drop (n * i.size + news.length)).toArray.getD j undef = news.getD (j - n * E.size) undef := by
                          simp only [Array.getD_eq_getD_getElem?, List.getElem?_toArray, List.getD_eq_getElem?_getD]
                          rw [List.getElem?_append_left (by simp; omega), List.getElem?_append_right (by simp; omega)]
                          congr 2
                          simp; omega
                        rw [e1]; exact h5
                      · rename_i hin
                        have h5 := hcr j hj
                        have e1 : (cur.toList.take (n * i.size) ++ news ++ cur.toList.drop (n * i.size + news.length)).toArray.getD j undef = cur.getD j undef := by
                          simp only [Array.getD_eq_getD_getElem?, List.getElem?_toArray]
                          rcases Nat.lt_or_ge j (n * i.size) with h7 | h7
                          · rw [List.getElem?_append_left (by simp; omega), List.getElem?_append_left (by simp; omega), List.getElem?_take_of_lt h7]
                            simp [hjc]
                          · rw [List.getElem?_append_right (by simp; omega), List.getElem?_drop]
                            have e2 : n * i.size + news.length + (j - (cur.toList.take (n * i.size) ++ news).length) = j := by simp; omega
                            rw [e2]
                            simp [hjc]
                        rw [e1]; exact h5
                    · refine .ref _ _ _ _ o.cells.length _ _ ?_ (by omega) hroom rfl (fun _ => ⟨rfl, fun _ => hcap'⟩)
                      simp [lens, hid, splice_length _ _ _ hsl, hes]
                  · cases hx
              · cases hx
            · cases hx
        · cases hx
      · cases hx
    · cases hx
  · cases hx
end
end Go.AW
namespace Go.AW
open Go Go.RowKit
section
variable {P : Program} {W0 : World} {ok0 A : Nat → Prop} {β : Nat → Nat × Nat} {h : List AObj} {w : World}
def optRel (W0 : World) (ok0 : Nat → Prop) (β : Nat → Nat × Nat) (h : List AObj) (w : World) : Option AVal → Option Value → Prop
  | none, none => True
  | some x, some v => VR W0 ok0 β h w x v
  | _, _ => False
theorem optRel_map {ρ : Operand → AVal} {ρv : Operand → Value} (hρ : ∀ x, VR W0 ok0 β h w (ρ x) (ρv x)) (o : Option Operand) : optRel W0 ok0 β h w (o.map ρ) (o.map ρv) := by
  cases o with
  | none => trivial
  | some x => exact hρ x
theorem optInt_rel {d n : Int} {x : Option AVal} {v : Option Value} (hr : optRel W0 ok0 β h w x v) (hx : optInt d x = some n) : (x = none ∧ v = none ∧ n = d) ∨ ∃ k, x = some (.val (.int k n)) ∧ v = some (.int k n) := by
  cases x with
  | none => cases v with
    | none => left; simp [optInt] at hx; exact ⟨rfl, rfl, hx.symm⟩
    | some v => exact hr.elim
  | some x => cases v with
    | none => exact hr.elim
    | some v =>
      right
      unfold optInt at hx
      split at hx
      · rename_i he; cases he
      · rename_i k m he
        simp at hx he; subst hx; subst he
        have : VR W0 ok0 β h w (.val (.int k m)) v := hr
        cases this
        exact ⟨k, rfl, rfl⟩
      · cases hx
theorem run_sliceBound' {k : IntKind} {n : Int} {y : Nat} {code : BoundsCode} (h0 : 0 ≤ n) (h1 : n ≤ y) : (Instr.sliceBound (.int k n) y code).run P w = .ok n.toNat w := by
  simp [Instr.sliceBound, asIntOf, h0, h1]
theorem run_bounds2 {lo hi : Option AVal} {lov hiv : Option Value} {l hh : Int} {n cap : Nat} (hlo : optRel W0 ok0 β h w lo lov) (hhi : optRel W0 ok0 β h w hi hiv) (hl : optInt 0 lo = some l) (hh' : optInt n hi = some hh)
    (h0 : 0 ≤ l) (h1 : l ≤ hh) (h2 : hh ≤ n) (hn : n ≤ cap) : (Instr.sliceBounds true n cap lov hiv none).run P w = .ok (l.toNat, hh.toNat, cap) w := by
  rcases optInt_rel hlo hl with ⟨rfl, rfl, rfl⟩ | ⟨k, rfl, rfl⟩ <;> rcases optInt_rel hhi hh' with ⟨rfl, rfl, rfl⟩ | ⟨k', rfl, rfl⟩
  · simp [Instr.sliceBounds]
  · simp [Instr.sliceBounds, run_sliceBound' (w := w) (P := P) (k := k') (n := hh) (y := cap) (code := .sliceAcap) (by omega) (by omega)]
  · simp [Instr.sliceBounds, run_sliceBound' (w := w) (P := P) (k := k) (n := l) (y := n) (code := .sliceB) (by omega) (by omega)]
  · simp [Instr.sliceBounds, run_sliceBound' (w := w) (P := P) (k := k') (n := hh) (y := cap) (code := .sliceAcap) (by omega) (by omega), run_sliceBound' (w := w) (P := P) (k := k) (n := l) (y := hh.toNat) (code := .sliceB) (by omega) (by omega)]
theorem run_bounds3 {lo hi : Option AVal} {lov hiv : Option Value} {l hh m : Int} {n cap : Nat} {km : IntKind} (hlo : optRel W0 ok0 β h w lo lov) (hhi : optRel W0 ok0 β h w hi hiv) (hne : hi ≠ none) (hl : optInt 0 lo = some l) (hh' : optInt n hi = some hh)
    (h0 : 0 ≤ l) (h1 : l ≤ hh) (h2 : hh ≤ m) (h3 : m ≤ n) (hn : n ≤ cap) : (Instr.sliceBounds true n cap lov hiv (some (.int km m))).run P w = .ok (l.toNat, hh.toNat, m.toNat) w := by
  rcases optInt_rel hlo hl with ⟨rfl, rfl, rfl⟩ | ⟨k, rfl, rfl⟩ <;> rcases optInt_rel hhi hh' with ⟨rfl, rfl, rfl⟩ | ⟨k', rfl, rfl⟩
  · exact absurd rfl hne
  · simp [Instr.sliceBounds, run_sliceBound' (w := w) (P := P) (k := km) (n := m) (y := cap) (code := .slice3Acap) (by omega) (by omega), run_sliceBound' (w := w) (P := P) (k := k') (n := hh) (y := m.toNat) (code := .slice3B) (by omega) (by omega)]
  · exact absurd rfl hne
  · simp [Instr.sliceBounds, run_sliceBound' (w := w) (P := P) (k := km) (n := m) (y := cap) (code := .slice3Acap) (by omega) (by omega), run_sliceBound' (w := w) (P := P) (k := k') (n := hh) (y := m.toNat) (code := .slice3B) (by omega) (by omega), run_sliceBound' (w := w) (P := P) (k := k) (n := l) (y := hh.toNat) (code := .slice3C) (by omega) (by omega)]
theorem run_sliceAt' {t e : TypeId} {E : TyI} (hu : P.underlying t = some (.slice e)) (hE : tyI P e = some E) {a : Option Addr} {n cap l hh m : Nat} {lov hiv mv : Option Value}
    (hb : (Instr.sliceBounds true n cap lov hiv mv).run P w = .ok (l, hh, m) w) :
    (Instr.sliceAt t (.slice a n cap) lov hiv mv).run P w = .ok (.slice (if m = l then a else a.map (·.add (l * E.size))) (hh - l) (m - l)) w := by
  simp [Instr.sliceAt, Instr.slice, run_underlying hu, hb, run_sizeOf' hE]
theorem list_cut {p b : Bool} {n : Nat} {cs : List AVal} {v : Value} {es l hh m cap : Nat} {a : Option Addr} (hx : VR W0 ok0 β h w (.list p b n cs) (.slice a n cap)) (h1 : l ≤ hh) (h2 : hh ≤ n) (h3 : hh ≤ m) (hm : m ≤ cap)
    (hv : v = .slice (if m = l then a else a.map (·.add (l * es))) (hh - l) (m - l)) : VR W0 ok0 β h w (.list p b (hh - l) ((cs.drop (l * es)).take ((hh - l) * es))) v := by
  subst hv
  cases hx with
  | nil =>
    have : l = 0 := by omega
    have : hh = 0 := by omega
    have : m = 0 := by omega
    subst_vars
    simp only [Nat.sub_self, Nat.zero_mul, List.take_zero]
    simpa [VR] using VRel.nil p
  | list _ b off _ _ _ cv hok hp hn hc hr' =>
    by_cases hml : m = l
    · have : hh = l := by omega
      subst hml; subst this
      simp only [Nat.sub_self, Nat.zero_mul, List.take_zero, if_true]
      exact .list p b off 0 0 [] (fun _ => undef) (fun h => absurd rfl h) (fun _ h => absurd rfl h) (Nat.le_refl _) (fun j hj => by simp at hj) (fun j hj => by simp at hj)
    · rw [if_neg hml]
      simp only [Option.map_some, Addr.add_lit]
      refine .list p b (off + l * es) (hh - l) (m - l) _ (fun j => cv (l * es + j)) (fun hne => hok (by rintro rfl; simp at hne)) (fun q hne => hp q (by rintro rfl; simp at hne)) (by omega) (fun j hj => ?_) (fun j hj => ?_)
      · rw [Nat.add_assoc]; exact hc _ (by simp at hj; omega)
      · simp only [List.getElem_take, List.getElem_drop]; exact hr' _ _
theorem lit_list {n : Nat} {cs : List AVal} {v : Value} (hx : VR W0 ok0 β h w (.lit n cs) v) : VR W0 ok0 β h w (.list true false n cs) v := by
  cases hx with
  | lit b off n cs cv hok hp hc hr' => exact .list true b off n n cs cv hok (fun _ => hp) (Nat.le_refl _) hc hr'
theorem list_new {w' : World} {cur : Array Value} {e : TypeId} (hr : HR W0 ok0 A β h w) (hw : w'.heap = w.heap.push (.cells cur e)) (hb : Below w.heap.size w w') {n cap : Nat} {cs : List AVal} (hn : n ≤ cap) (hl : cs.length ≤ cur.size)
    (har : ∀ j (hj : j < cs.length), VR W0 ok0 β h w cs[j] (cur.getD j undef)) : VR W0 ok0 β h w' (.list true false n cs) (.slice (some ⟨w.heap.size, 0, none⟩) n cap) := by
  have hst := step_world hr hb
  refine .list true _ _ _ _ cs (fun j => cur.getD j undef) (fun _ => ⟨by rw [hw]; simp, fun i hi => ?_, .inl hr.wsize⟩) (fun _ _ => hr.wsize) hn (fun j hj => ?_) (fun j hj => hst.vr _ _ (har j hj))
  · have := hr.lt hi.live; omega
  · rw [cell_of_row _ _ _ cur e (0, 0) (by rw [hw]; simp)]
    have : j < cur.size := by omega
    simp [this]
theorem aFrz_rel (hr : HR W0 ok0 A β h w) {t ty : TypeId} {s y : AVal} {sv yv : Value} {x : AVal} (hs : VR W0 ok0 β h w s sv) (hy : VR W0 ok0 β h w y yv) (hx : aFrz P t h s y = some x) :
    ∃ v w', (Builtin.append_ #[t, t] ty #[sv, yv]).run P w = .ok v w' ∧ Step W0 ok0 A β h w β h w' ∧ VR W0 ok0 β h w' x v := by
  unfold aFrz at hx
  split at hx
  · rename_i T ht
    split at hx
    · rename_i e he
      have hu := elem_slice ht he
      split at hx
      · rename_i E m cs hE hview
        split at hx
        · rename_i hcond
          obtain ⟨hlen, hone, hpos, hzl⟩ := hcond
          obtain ⟨d, i, z0, hd, hi, hz0, hT⟩ := tyI_some hE
          have hEs : E.size = i.size := by rw [hT]
          have hEb : E.bytes = i.bytes := by rw [hT]
          have hzs : z0.cells.size = i.size := by rw [← hEs, ← hzl, hT]; simp
          obtain ⟨ya, yc, rfl, hyc, hyr⟩ := sview_rel hr hy hview
          by_cases hm : m = 0
          · subst hm
            split at hx
            · rename_i b
              simp only [if_true, Option.some.injEq] at hx
              subst hx
              cases hs with
              | cap0 b a hb hsp =>
                refine ⟨_, w, run_append_zero hu hi a ya 0 0 yc (Nat.le_refl _), Step.refl hr, ?_⟩
                cases a with
                | none => simp at hb; subst hb; exact .nil true
                | some q =>
                  simp at hb; subst hb
                  have := hsp q rfl
                  obtain ⟨qb, qo, qs⟩ := q
                  simp at this; subst this
                  exact .list true qb qo 0 0 [] (fun _ => undef) (fun h => absurd rfl h) (fun _ h => absurd rfl h) (Nat.le_refl _) (fun j hj => by simp at hj) (fun j hj => by simp at hj)
            · rename_i n cs0
              simp only [if_true, Option.some.injEq] at hx
              subst hx
              cases hs with
              | lit b off _ _ cv hok hp hc hr' => exact ⟨_, w, run_append_zero hu hi _ ya _ _ yc (Nat.le_refl _), Step.refl hr, .list true b off _ _ _ cv hok (fun _ => hp) (Nat.le_refl _) hc hr'⟩
            · cases hx
          · have hmpos : 0 < m := Nat.pos_of_ne_zero hm
            obtain ⟨b, off, rfl, hcells⟩ : ∃ b off, ya = some ⟨b, off, none⟩ ∧ Cells W0 ok0 β h w b off cs := by
              rcases hyr with ⟨_, h0, _, _⟩ | ⟨h0, _⟩ | hyr
              · exact absurd h0 hm
              · exact absurd h0 hm
              · exact hyr
            obtain ⟨news, hnl, hnews, hnrel⟩ := cells_of_view (hcells.take (m * E.size))
            have hnl' : news.length = m * i.size := by rw [hnl, hlen, hEs]
            split at hx
            · rename_i b'
              rw [if_neg hm] at hx
              split at hx
              · rename_i hbnd
                obtain ⟨hb1, hb2⟩ := hbnd
                simp only [Option.some.injEq] at hx
                subst hx
                cases hs with
                | cap0 b' a hb _ =>
                have hge := grownCap_ge w m 0 e
                have hrel : ∀ j (hj : j < (cs.take (m * E.size)).length), VR W0 ok0 β h w (cs.take (m * E.size))[j] ((news.toArray ++ Builtin.zeroCells z0.cells (grownCap w m 0 e - m)).getD j undef) := fun j hj => by
                  have h1 := hnrel j hj
                  have hj' : j < news.length := by omega
                  have e1 : (news.toArray ++ Builtin.zeroCells z0.cells (grownCap w m 0 e - m)).getD j undef = news.getD j undef := by
                    simp only [Array.getD_eq_getD_getElem?, List.getD_eq_getElem?_getD]
                    rw [Array.getElem?_append_left (by simpa using hj')]
                    simp
                  rw [e1]; exact h1
                cases a with
                | none =>
                  have hrun := run_append_nil (P := P) w t ty e i z0 hu hi hz0 ⟨b, off, none⟩ m yc news hnl' hnews hmpos (by omega) (by rw [← hEb]; omega)
                  have hbw := ((Below.refl w.heap.size w).drew).alloc (Nat.le_refl _) (.cells (news.toArray ++ Builtin.zeroCells z0.cells (grownCap w m 0 e - m)) e)
                  exact ⟨_, _, hrun, step_world hr hbw, list_new hr rfl hbw hge (by simp only [Array.size_append, List.size_toArray]; omega) hrel⟩
                | some a =>
                  have hrun := run_append_grow (P := P) w t ty e i z0 hu hi hz0 a 0 0 [] (by simp) (fun j u hu => by simp at hu) ⟨b, off, none⟩ m yc news hnl' hnews (by omega) (by omega) (growslice_fits (by omega) (by rw [← hEb]; simpa using hb1))
                  simp only [Nat.zero_add, Array.empty_append] at hrun
                  have hbw := ((Below.refl w.heap.size w).drew).alloc (Nat.le_refl _) (.cells (news.toArray ++ Builtin.zeroCells z0.cells (grownCap w m 0 e - m)) e)
                  exact ⟨_, _, hrun, step_world hr hbw, list_new hr rfl hbw hge (by simp only [Array.size_append, List.size_toArray]; omega) hrel⟩
              · cases hx
            · rename_i n cs0
              rw [if_neg hm] at hx
              split at hx
              · rename_i hbnd
                obtain ⟨hb0, hb1, hb2⟩ := hbnd
                simp only [Option.some.injEq] at hx
                subst hx
                cases hs with
                | lit sb soff _ _ scv sok sp shc shr =>
                have holds : ∃ olds : List Value, olds.length = cs0.length ∧ (∀ j u, olds[j]? = some u → w.cell? ((⟨sb, soff, none⟩ : Addr).add j) = some u) ∧ ∀ j (hj : j < cs0.length), VR W0 ok0 β h w cs0[j] (olds.getD j undef) :=
                  cells_of_view (fun j hj => ⟨scv j, shc j hj, shr j hj⟩)
                obtain ⟨olds, ho1, ho2, ho3⟩ := holds
                have hol : cs0.length = n * i.size := by rw [hb0, hEs]
                have hge := grownCap_ge w (n + m) n e
                have hrun := run_append_grow (P := P) w t ty e i z0 hu hi hz0 ⟨sb, soff, none⟩ n n olds (by omega) ho2 ⟨b, off, none⟩ m yc news hnl' hnews (by omega) (by omega) (growslice_fits (by omega) (by rw [← hEb]; exact hb1))
                have hbw := ((Below.refl w.heap.size w).drew).alloc (Nat.le_refl _) (.cells (olds.toArray ++ news.toArray ++ Builtin.zeroCells z0.cells (grownCap w (n + m) n e - (n + m))) e)
                refine ⟨_, _, hrun, step_world hr hbw, list_new hr rfl hbw hge ?_ ?_⟩
                · simp only [Array.size_append, List.size_toArray, List.length_append, ho1, hnl]; omega
                · intro j hj
                  simp only [List.length_append] at hj
                  have e0 : (olds.toArray ++ news.toArray ++ Builtin.zeroCells z0.cells (grownCap w (n + m) n e - (n + m))).getD j undef = ((olds ++ news)[j]?).getD undef := by
                    simp only [Array.getD_eq_getD_getElem?]
                    rw [Array.getElem?_append_left (by simp; omega)]
                    simp
                  rw [e0]
                  rcases Nat.lt_or_ge j cs0.length with hjo | hjo
                  · simp only [List.getElem_append_left hjo]
                    have h7 := ho3 j hjo
                    rw [List.getElem?_append_left (by omega), ← List.getD_eq_getElem?_getD]
                    exact h7
                  · simp only [List.getElem_append_right hjo]
                    have h7 := hnrel (j - cs0.length) (by omega)
                    rw [List.getElem?_append_right (by omega), ho1, ← List.getD_eq_getElem?_getD]
                    exact h7
              · cases hx
            · cases hx
        · cases hx
      · cases hx
    · cases hx
  · cases hx
theorem aSlice_rel (hr : HR W0 ok0 A β h w) {t : TypeId} {y x : AVal} {yv : Value} {lo hi mx : Option AVal} {lov hiv mv : Option Value} (hy : VR W0 ok0 β h w y yv) (hlo : optRel W0 ok0 β h w lo lov) (hhi : optRel W0 ok0 β h w hi hiv) (hmx : optRel W0 ok0 β h w mx mv) (hne : mx ≠ none → hi ≠ none)
    (hx : aSlice P t h y lo hi mx = some x) : ∃ v, (Instr.sliceAt t yv lov hiv mv).run P w = .ok v w ∧ VR W0 ok0 β h w x v := by
  unfold aSlice at hx
  split at hx
  · rename_i T ht
    split at hx
    · rename_i e he
      have hu := elem_slice ht he
      split at hx
      · rename_i E n cs0 hE hview
        obtain ⟨a, cap, rfl, hcap, _⟩ := sview_rel hr hy hview
        split at hx
        · rename_i l hh hl hh'
          cases mv with
          | some m => exact hmx.elim
          | none =>
          split at hx
          · rename_i hc
            obtain ⟨c1, c2, c3, c4⟩ := hc
            have hb := run_bounds2 (P := P) (cap := cap) hlo hhi hl hh' c1 c2 c3 hcap
            have hrun := run_sliceAt' (a := a) hu hE hb
            refine ⟨_, hrun, ?_⟩
            split at hx
            · rename_i b
              simp [sview] at hview
              obtain ⟨rfl, _⟩ := hview
              simp at hx; subst hx
              have e1 : l.toNat = 0 := by omega
              have e2 : hh.toNat = 0 := by omega
              cases hy with
              | cap0 b a hb' hsp => simpa [VR, e1, e2] using VRel.cap0 b a hb' hsp
            · rename_i k
              simp [sview] at hview
              obtain ⟨rfl, _⟩ := hview
              simp at hx; subst hx
              have e1 : l.toNat = 0 := by omega
              have e2 : hh.toNat = 0 := by omega
              cases hy with
              | res k => simpa [VR, e1, e2] using VRel.res k
            · rename_i n' cs
              simp [sview] at hview
              obtain ⟨rfl, rfl⟩ := hview
              simp at hx; subst hx
              have e1 : (hh - l).toNat = hh.toNat - l.toNat := by omega
              rw [e1]
              exact list_cut (lit_list hy) (by omega) (by omega) (by omega) (Nat.le_refl _) rfl
            · rename_i p b n' cs
              simp [sview] at hview
              obtain ⟨rfl, rfl⟩ := hview
              simp at hx; subst hx
              have e1 : (hh - l).toNat = hh.toNat - l.toNat := by omega
              rw [e1]
              exact list_cut hy (by omega) (by omega) (by omega) (Nat.le_refl _) rfl
            · rename_i id off n' ext
              simp [sview] at hview
              obtain ⟨cs1, hcs1, rfl, _⟩ := hview
              obtain ⟨cap', hn', hcap', hv⟩ := hy.ref_live hcs1
              simp only [Value.slice.injEq, true_and] at hv
              obtain ⟨rfl, rfl⟩ := hv
              simp at hx; subst hx
              split
              · rename_i hlh
                subst hlh
                split
                · rename_i hl0
                  obtain ⟨rfl, hn0⟩ := hl0
                  obtain ⟨o, ho, rfl, hol⟩ := cellsAt_some hcs1
                  have hes := hy.ref_es ho
                  rw [if_neg (show cap ≠ (0 : Int).toNat by simp; omega)]
                  simp only [Int.toNat_zero, Nat.zero_mul, Nat.sub_zero, Option.map_some, Addr.add_lit, Nat.add_zero, Nat.sub_self]
                  exact .ref _ _ _ _ o.cells.length _ _ (lens_some ho hes) (by omega) (Nat.zero_le _) rfl (fun _ => ⟨rfl, hcap'⟩)
                have e1 : ∃ a' c', (if cap = l.toNat then some (⟨(β id).1, off, none⟩ : Addr) else Option.map (fun (q : Addr) => q.add (l.toNat * E.size)) (some ⟨(β id).1, off, none⟩)) = some a' ∧ a' = ⟨(β id).1, c', none⟩ := by
                  split
                  · exact ⟨_, _, rfl, rfl⟩
                  · exact ⟨_, off + l.toNat * E.size, rfl, Addr.add_lit _ _ _⟩
                obtain ⟨a', c', e2, e3⟩ := e1
                rw [e2, e3, Nat.sub_self]
                exact .list true _ _ 0 _ [] (fun _ => undef) (fun h => absurd rfl h) (fun _ h => absurd rfl h) (Nat.zero_le _) (fun j hj => by simp at hj) (fun j hj => by simp at hj)
              · rename_i hlh
                have hcl : cap ≠ l.toNat := by omega
                rw [if_neg hcl]
                simp only [Option.map_some, Addr.add_lit]
                obtain ⟨o, ho, rfl, hol⟩ := cellsAt_some hcs1
                have hes := hy.ref_es ho
                have e1 : (hh - l).toNat = hh.toNat - l.toNat := by omega
                rw [e1]
                refine .ref _ _ _ _ o.cells.length _ _ (lens_some ho hes) (by omega) (by omega) rfl (fun _ => ⟨rfl, fun h0 => ?_⟩)
                have h1 : off = 0 := by omega
                have h2 : l.toNat * E.size = 0 := by omega
                have h3 : l.toNat = 0 := (Nat.mul_eq_zero.1 h2).resolve_right c4
                rw [hcap' h1, h3]; rfl
            · cases hx
          · cases hx
        · rename_i l hh km m hl hh'
          cases mv with
          | none => exact hmx.elim
          | some mv =>
          have hmv : mv = .int km m := by
            have : VR W0 ok0 β h w (.val (.int km m)) mv := hmx
            cases this; rfl
          subst hmv
          split at hx
          · rename_i hc
            obtain ⟨c1, c2, c3, c4⟩ := hc
            have hb := run_bounds3 (P := P) (cap := cap) (km := km) hlo hhi (hne (by simp)) hl hh' c1 c2 c3 c4 hcap
            have hrun := run_sliceAt' (a := a) hu hE hb
            refine ⟨_, hrun, ?_⟩
            split at hx
            · rename_i hm0
              subst hm0
              have e1 : l.toNat = 0 := by omega
              have e2 : hh.toNat = 0 := by omega
              simp only [e1, e2, Int.toNat_zero, if_true, Nat.sub_self]
              split at hx
              · simp at hx; subst hx
                cases hy with
                | cap0 _ _ hb' hsp => exact .cap0 _ _ hb' hsp
              · simp at hx; subst hx
                cases hy with
                | res => exact .res _
              · simp at hx; subst hx
                cases hy with
                | lit => exact .cap0 false _ rfl (fun _ h => by cases h; rfl)
              · simp at hx; subst hx
                cases hy with
                | nil => exact .cap0 true none rfl (fun _ h => by cases h)
                | list => exact .cap0 false _ rfl (fun _ h => by cases h; rfl)
              · rename_i id off n' ext
                simp at hx; subst hx
                simp [sview] at hview
                obtain ⟨cs1, hcs1, _, _⟩ := hview
                obtain ⟨cap', _, _, hv⟩ := hy.ref_live hcs1
                simp only [Value.slice.injEq] at hv
                rw [hv.1]
                exact .cap0 false _ rfl (fun _ h => by cases h; rfl)
              · cases hx
            · rename_i hm0
              split at hx
              · rename_i n' cs
                simp [sview] at hview
                obtain ⟨rfl, rfl⟩ := hview
                simp at hx; subst hx
                have e1 : (hh - l).toNat = hh.toNat - l.toNat := by omega
                rw [e1]
                exact list_cut (lit_list hy) (by omega) (by omega) (by omega) (by omega) rfl
              · rename_i p b n' cs
                simp [sview] at hview
                obtain ⟨rfl, rfl⟩ := hview
                simp at hx; subst hx
                have e1 : (hh - l).toNat = hh.toNat - l.toNat := by omega
                rw [e1]
                exact list_cut hy (by omega) (by omega) (by omega) (by omega) rfl
              · cases hx
          · cases hx
        · cases hx
      · cases hx
    · split at hx
      · rename_i len e id off ext harr
        split at hx
        · rename_i E hE
          split at hx
          · rename_i hc
            cases hx
            obtain ⟨cs, hcs⟩ := Option.isSome_iff_exists.1 hc
            obtain ⟨o, ho, rfl, hl⟩ := cellsAt_some hcs
            have hv := hy.ptr_live hcs
            have hes := hy.ptr_es ho
            subst hv
            have hu : P.underlying t = some (.array len e) := by
              obtain ⟨d, i, z, hd, hi, hz, rfl⟩ := tyI_some ht
              rw [hd]
              cases d <;> simp at harr
              obtain ⟨rfl, rfl⟩ := harr; rfl
            cases lov with
            | some _ => exact hlo.elim
            | none =>
              cases hiv with
              | some _ => exact hhi.elim
              | none =>
                cases mv with
                | some _ => exact hmx.elim
                | none =>
                  refine ⟨.slice (some ⟨(β id).1, off, none⟩) len len, ?_, .part _ _ _ _ o.cells.length _ _ (lens_some ho hes) (by omega) (Nat.le_refl _) (fun _ => rfl)⟩
                  simp [Instr.sliceAt, run_underlying hu, Instr.sureAddr, Instr.sliceBounds, run_sizeOf' hE, Addr.add_lit]
          · cases hx
        · cases hx
      · cases hx
  · cases hx
end
end Go.AW
namespace Go.AW
open Go Go.RowKit
section
variable {P : Program} {W0 : World} {ok0 A : Nat → Prop} {β : Nat → Nat × Nat} {h : List AObj} {w : World}
theorem zeros_AR {E : TyI} {z : Value} (hz : z.cells.toList = E.zero) (n : Nat) (hp : 0 < E.zero.length) : AR W0 ok0 β h w (zeros E.zero n) ((Array.range n).map (z.cells[· % z.cells.size]!)) := by
  refine ⟨by simp [zeros], fun j hj => ?_⟩
  have hj' : j < n := by simpa [zeros] using hj
  have hsz : z.cells.size = E.zero.length := by rw [← hz]; simp
  have hm : j % E.zero.length < z.cells.size := by rw [hsz]; exact Nat.mod_lt _ hp
  simp only [zeros, List.getElem_map, List.getElem_range]
  have e1 : ((Array.range n).map (z.cells[· % z.cells.size]!)).getD j undef = E.zero.getD (j % E.zero.length) undef := by
    rw [← hz]
    have hm' : j % z.cells.size < z.cells.size := by rw [hsz]; rw [hsz] at hm; exact hm
    simp [hj', hm']
  rw [e1]
  exact ofCell_rel _
theorem bytesOf_get : ∀ (cs : List AVal) (bs : List UInt8), bytesOf cs = some bs → bs.length = cs.length ∧ ∀ j (hj : j < cs.length) (hb : j < bs.length), cs[j] = .val (.int .u8 bs[j].toNat)
  | [], bs, h => by cases h; exact ⟨rfl, fun j hj => by simp at hj⟩
  | x :: r, bs, h => by
    unfold bytesOf at h
    split at h
    · rename_i h0; cases h0
    · rename_i n r' h0
      cases h0
      split at h
      · rename_i hn
        obtain ⟨b', hb', rfl⟩ := Option.map_eq_some_iff.1 h
        obtain ⟨h1, h2⟩ := bytesOf_get r b' hb'
        refine ⟨by simp [h1], fun j hj hb => ?_⟩
        cases j with
        | zero =>
          have e : (UInt8.ofNat n.toNat).toNat = n.toNat := by simp; omega
          simp only [List.getElem_cons_zero, e]
          rw [Int.toNat_of_nonneg hn.1]
        | succ j => simpa using h2 j (by simpa using hj) (by simpa using hb)
      · cases h
    · cases h
theorem aUstr_rel (hr : HR W0 ok0 A β h w) {p l x : AVal} {pv lv : Value} {pt it ty : TypeId} {h' : List AObj} (hp : VR W0 ok0 β h w p pv) (hl : VR W0 ok0 β h w l lv) (hx : aUstr P pt h p l = some (x, h')) :
    ∃ v β' w', (Builtin.unsafeString_ #[pt, it] ty #[pv, lv]).run P w = .ok v w' ∧ Step W0 ok0 A β h w β' h' w' ∧ VR W0 ok0 β' h' w' x v := by
  unfold aUstr at hx
  split at hx
  · rename_i n
    cases hp; cases hl
    split at hx
    · rename_i hn
      subst hn
      cases hx
      exact ⟨_, β, w, Lib.run_unsafeString_none w pt it ty none, Step.refl hr, .val _⟩
    · cases hx
  · rename_i id ext n
    cases hl
    split at hx
    · rename_i o T ho hT
      split at hx
      · rename_i e he
        split at hx
        · rename_i bs hbs
          split at hx
          · rename_i hc
            obtain ⟨h1, h2, h3, h4, h5, h6, h7, h8⟩ := hc
            cases hx
            have hes : o.es ≠ 0 := by omega
            obtain ⟨d, i, z, hd, hi, hz, hTT⟩ := tyI_some hT
            have hd' : d = .pointer e := by rw [hTT] at he; cases d <;> simp at he ⊢; exact he
            subst hd'
            have hpv := hp.ptr_live (cs := o.cells) (by simp [cellsAt, ho, h5])
            obtain ⟨cur, hb, hcs, hmx, hl, hcr⟩ := hr.row ho hes h2
            obtain ⟨g1, g2⟩ := bytesOf_get _ _ hbs
            have hbl : bs.length = n.toNat := by rw [g1, List.length_take]; omega
            have hne : bs ≠ [] := by intro h0; rw [h0] at hbl; simp at hbl; omega
            have hn : (n : Int) = (bs.length : Int) := by omega
            have hrun := Lib.run_unsafeString_row (P := P) w pt it ty e hd (h4) (β id).1 cur.size (by rw [World.shape?, hb]; simp [h1]) bs hne (by omega) (by omega) (fun j b hj => by
              have hj' : j < bs.length := (List.getElem?_eq_some_iff.1 hj).1
              have hjb : bs[j] = b := (List.getElem?_eq_some_iff.1 hj).2
              have hjc : j < o.cells.length := by omega
              have h9 := g2 j (by rw [List.length_take]; omega) hj'
              have h10 := hcr j hjc
              rw [List.getElem_take] at h9
              rw [h9, hjb] at h10
              have h11 := val_eq h10
              have hjs : j < cur.size := by omega
              have hadd : (⟨(β id).1, 0, none⟩ : Addr).add j = ⟨(β id).1, j, none⟩ := by
                cases j <;> simp [Addr.add]
              rw [hadd, cell_of_row w _ j cur o.ty (0, 0) hb]
              simp only [Array.getD_eq_getD_getElem?, hjs, Array.getElem?_eq_getElem, Option.getD_some] at h11
              simp [hjs, h11])
            rw [hpv, hn]
            refine ⟨_, β, w.freeze ⟨(β id).1, 0, none⟩ bs.length, hrun, ?_, .val _⟩
            have hfz : (w.freeze ⟨(β id).1, 0, none⟩ bs.length).heap = w.heap.modify (β id).1 (fun | .cells c elem (lo, hi) => .cells c elem (if lo == hi then (0, 0 + bs.length) else (min lo 0, max hi (0 + bs.length))) | o => o) := by
              unfold World.freeze
              rw [if_neg (by omega)]
              rfl
            have hβ : (fun i => if i = id then ((β id).1, (β id).2) else β i) = β := by
              funext i; split
              · rename_i e; subst e; rfl
              · rfl
            have hid : id < h.length := (List.getElem?_eq_some_iff.1 ho).1
            have hlt := hr.lt ⟨o, ho, hes⟩
            have := step_put hr (w' := w.freeze ⟨(β id).1, 0, none⟩ bs.length) id ⟨FZ, o.es, o.cells⟩ (β id).1 (β id).2 cur (by omega) (.inl ⟨⟨o, ho, hes, h2⟩, rfl⟩) hes (fun l0 h0 => by rw [lens_some ho hes] at h0; cases h0; exact ⟨Nat.le_refl _, fun _ => ⟨rfl, rfl⟩⟩)
              (fun k hk hne => by rw [hfz, Array.getElem?_modify, if_neg (fun e => hne e.symm)])
              ⟨o.ty, (0, 0 + bs.length), by rw [hfz, Array.getElem?_modify, if_pos rfl, hb]; rfl, fun h0 => absurd rfl h0⟩
              (by unfold World.freeze; split <;> rfl) (by unfold World.freeze; split <;> rfl) (by unfold World.freeze; split <;> rfl) (by rw [hfz]; simp) (by rw [hcs]) hmx hl (CR_of hl hcr)
            rw [hβ] at this
            simpa [putObj, hid] using this
          · cases hx
        · cases hx
      · cases hx
    · cases hx
  · cases hx
theorem put_rel (hr : HR W0 ok0 A β h w) {id off : Nat} {o : AObj} (ho : h[id]? = some o) (hes : o.es ≠ 0) (hz : o.ty ≠ FZ) {vs : List AVal} {news : List Value} (hl1 : news.length = vs.length) (hfit : off + vs.length ≤ o.cells.length) (hone : ∀ v ∈ news, v.oneCell' = true)
    (har : ∀ j (hj : j < vs.length), VR W0 ok0 β h w vs[j] (news.getD j undef)) : ∃ w', (storeCells ⟨(β id).1, off, none⟩ news).run P w = .ok () w' ∧ Step W0 ok0 A β h w β (h.set id ⟨o.ty, o.es, splice o.cells off vs⟩) w' := by
  obtain ⟨cur, hb, hs, hm, hl, hcr⟩ := hr.row ho hes hz
  have hrun := run_storeCells_at P (β id).1 off o.ty news 0 cur w hb (by simp; omega) hone
  refine ⟨_, hrun, step_here hr id o ⟨o.ty, o.es, splice o.cells off vs⟩ ho hes hz (by rw [splice_length _ _ _ (by omega)]; exact Nat.le_refl _) rfl rfl cur (cur.toList.take (off + 0) ++ news ++ cur.toList.drop (off + 0 + news.length)).toArray hb ?_ hs hm ?_ ?_⟩
  · simp; omega
  · simp only [splice_length _ _ _ (show off + vs.length ≤ o.cells.length by omega)]
    simp; omega
  · intro j hj
    rw [splice_get _ _ _ (by omega) _ hj]
    rw [splice_length _ _ _ (by omega)] at hj
    have hjc : j < cur.size := by omega
    simp only [Nat.add_zero]
    split
    · rename_i hin
      have h5 := har (j - off) (by omega)
      have h6 : j - off < news.length := by omega
      have e : (cur.toList.take off ++ news ++ cur.toList.drop (off + news.length)).toArray.getD j undef = news.getD (j - off) undef := by
        simp only [Array.getD_eq_getD_getElem?, List.getElem?_toArray, List.getD_eq_getElem?_getD]
        rw [List.getElem?_append_left (by simp; omega), List.getElem?_append_right (by simp; omega)]
        have e2 : j - (cur.toList.take off).length = j - off := by simp; omega
        rw [e2]
      rw [e]; exact h5
    · rename_i hin
      have h5 := hcr j hj
      have e : (cur.toList.take off ++ news ++ cur.toList.drop (off + news.length)).toArray.getD j undef = cur.getD j undef := by
        simp only [Array.getD_eq_getD_getElem?, List.getElem?_toArray]
        rcases Nat.lt_or_ge j off with h7 | h7
        · rw [List.getElem?_append_left (by simp; omega), List.getElem?_append_left (by simp; omega), List.getElem?_take_of_lt h7]
          simp [hjc]
        · rw [List.getElem?_append_right (by simp; omega), List.getElem?_drop]
          have e2 : off + news.length + (j - (cur.toList.take off ++ news).length) = j := by simp; omega
          rw [e2]
          simp [hjc]
      rw [e]; exact h5
theorem aApZ_rel (hr : HR W0 ok0 A β h w) {t t' ty : TypeId} {s y x : AVal} {sv yv : Value} {h' : List AObj} (hs : VR W0 ok0 β h w s sv) (hy : VR W0 ok0 β h w y yv) (hx : aApZ P t t' h s y = some (x, h')) :
    ∃ v β' w', (Builtin.append_ #[t, t'] ty #[sv, yv]).run P w = .ok v w' ∧ Step W0 ok0 A β h w β' h' w' ∧ VR W0 ok0 β' h' w' x v := by
  unfold aApZ at hx
  split at hx
  · rename_i T T' kn n ht ht'
    split at hx
    · rename_i e kk he hk
      split at hx
      · rename_i E hE
        split at hx
        · rename_i z hz
          split at hx
          · rename_i hc
            obtain ⟨c0, c1, c2, c3, c4⟩ := hc
            cases hx
            have hsn : sv = .slice none 0 0 := by
              unfold isNil at c0
              split at c0
              · cases hs with
                | cap0 b a hb _ => cases a with
                  | none => rfl
                  | some a => simp at hb
              · cases hs with
                | nil => rfl
              · cases c0
            subst hsn
            have hyv := val_eq hy
            subst hyv
            have hu := elem_slice ht he
            obtain ⟨d', i', z', hd', hi', hz', hT'⟩ := tyI_some ht'
            have hd2 : d' = .int kk := by rw [hT'] at hk; cases d' <;> simp at hk ⊢; exact hk
            subst hd2
            obtain ⟨d, i, z0, hd, hi, hz0, hT⟩ := tyI_some hE
            subst hT
            simp only at hz c1 c3
            obtain ⟨m, rfl⟩ : ∃ m : Nat, n = m := ⟨n.toNat, by omega⟩
            have hrun := Lib.run_append_nil_zeros (P := P) w t t' ty e i z0 kn kk hu hd' hi hz0 m (by omega) (by omega) (by omega) (by rw [← Int.natCast_mul] at c3; omega)
            have hz1 : z0.cells.size = 1 := by have := congrArg List.length hz; simpa using this
            have hge := grownCap_ge w m 0 e
            have hsz : (Builtin.zeroCells z0.cells m ++ Builtin.zeroCells z0.cells (grownCap w m 0 e - m)).size = grownCap w m 0 e * 1 := by
              simp only [Array.size_append, size_zeroCells, hz1]; omega
            refine ⟨_, _, _, hrun, step_new hr ⟨e, 1, List.replicate m (ofCell z)⟩ (by simp) _ (grownCap w m 0 e) rfl rfl rfl rfl hsz (grownCap_le_maxLen w m 0 e (by simp only [maxLen]; omega)) (by rw [hsz]; simp; omega) (fun j hj => ?_), ref_new (by simp) (by omega) (by simp)⟩
            have hj' : j < m := by simpa using hj
            have hz2 : z0.cells[0]? = some z := by rw [← Array.getElem?_toList, hz]; rfl
            have hz3 : z0.cells[0] = z := (Array.getElem?_eq_some_iff.1 hz2).2
            have e1 : (Builtin.zeroCells z0.cells m ++ Builtin.zeroCells z0.cells (grownCap w m 0 e - m)).getD j undef = z := by
              simp only [Array.getD_eq_getD_getElem?]
              rw [Array.getElem?_append_left (by simp [size_zeroCells, hz1]; exact hj')]
              simp [Builtin.zeroCells, hj', hz1, Nat.mod_one, hz3]
            rw [e1]
            simp only [List.getElem_replicate]
            exact ofCell_rel z
          · cases hx
        · cases hx
      · cases hx
    · cases hx
  · cases hx
theorem lit_cut {β : Nat → Nat × Nat} {h : List AObj} {w : World} {b off : Nat} {cs : List AVal} {cv : Nat → Value} (hok : cs ≠ [] → okIn W0 ok0 w β h b) (hp : cs ≠ [] → W0.heap.size ≤ b) (hc : ∀ j, j < cs.length → w.cell? ⟨b, off + j, none⟩ = some (cv j)) (hr : ∀ j (hj : j < cs.length), VR W0 ok0 β h w cs[j] (cv j))
    (l k : Nat) {a' : Option Addr} (ha : (k = 0 ∧ ∃ off', a' = some ⟨b, off', none⟩) ∨ a' = some ⟨b, off + l, none⟩) : VR W0 ok0 β h w (.lit k ((cs.drop l).take k)) (.slice a' k k) := by
  have hne : (cs.drop l).take k ≠ [] → cs ≠ [] := fun h1 h2 => h1 (by rw [h2]; simp)
  rcases ha with ⟨rfl, off', rfl⟩ | rfl
  · exact .lit b off' 0 _ cv (fun h => absurd (List.take_zero) h) (fun h => absurd (List.take_zero) h) (fun j hj => by simp at hj) (fun j hj => by simp at hj)
  · refine .lit b (off + l) k _ (fun j => cv (l + j)) (fun h => hok (hne h)) (fun h => hp (hne h)) (fun j hj => ?_) (fun j hj => ?_)
    · have : l + j < cs.length := by simp at hj; omega
      rw [Nat.add_assoc]; exact hc _ this
    · have : l + j < cs.length := by simp at hj; omega
      simp only [List.getElem_take, List.getElem_drop]
      exact hr _ this
theorem aCut_rel (hr : HR W0 ok0 A β h w) {t : TypeId} {y x : AVal} {h' : List AObj} {yv : Value} {lo hi mx : Option AVal} {lov hiv mv : Option Value} (hy : VR W0 ok0 β h w y yv) (hlo : optRel W0 ok0 β h w lo lov) (hhi : optRel W0 ok0 β h w hi hiv) (hmx : optRel W0 ok0 β h w mx mv) (hne : mx ≠ none → hi ≠ none)
    (hx : aCut P t h y lo hi mx = some (x, h')) : ∃ v, (Instr.sliceAt t yv lov hiv mv).run P w = .ok v w ∧ Step W0 ok0 A β h w β h' w ∧ VR W0 ok0 β h' w x v := by
  unfold aCut at hx
  split at hx
  · rename_i T ht
    split at hx
    · rename_i e he
      have hu := elem_slice ht he
      split at hx
      · rename_i E n cs0 hE hview
        obtain ⟨a, cap, rfl, hcap, _⟩ := sview_rel hr hy hview
        split at hx
        · rename_i l hh km m hl hh'
          cases mv with
          | none => exact hmx.elim
          | some mv =>
          have hmv : mv = .int km m := by
            have : VR W0 ok0 β h w (.val (.int km m)) mv := hmx
            cases this; rfl
          subst hmv
          split at hx
          · rename_i hc
            obtain ⟨c1, c2, c3, c4, c5, c6⟩ := hc
            have hb := run_bounds3 (P := P) (cap := cap) (km := km) hlo hhi (hne (by simp)) hl hh' c1 c2 (by omega) c4 hcap
            have hrun := run_sliceAt' (a := a) hu hE hb
            have k1 : hh.toNat - l.toNat = (hh - l).toNat := by omega
            have k2 : m.toNat - l.toNat = (hh - l).toNat := by omega
            rw [k1, k2, c6, Nat.mul_one] at hrun
            have hadr : ∀ b off, a = some ⟨b, off, none⟩ → ((hh - l).toNat = 0 ∧ ∃ off', (if m.toNat = l.toNat then a else a.map (·.add l.toNat)) = some ⟨b, off', none⟩) ∨ (if m.toNat = l.toNat then a else a.map (·.add l.toNat)) = some ⟨b, off + l.toNat, none⟩ := by
              rintro b off rfl
              by_cases hml : m.toNat = l.toNat
              · exact .inl ⟨by omega, off, by rw [if_pos hml]⟩
              · right
                rw [if_neg hml]
                simp only [Option.map_some, Addr.add_lit]
            split at hx
            · rename_i n' cs
              simp [sview] at hview
              obtain ⟨rfl, rfl⟩ := hview
              cases hx
              refine ⟨_, hrun, Step.refl hr, ?_⟩
              cases hy with
              | lit b off _ _ cv hok hp hcl hrr => exact lit_cut hok hp hcl hrr _ _ (hadr b off rfl)
            · rename_i id off n' ext
              split at hx
              · rename_i o ho
                split at hx
                · rename_i hz
                  obtain ⟨hz, hle⟩ := hz
                  cases hx
                  have hes := hy.ref_es ho
                  obtain ⟨cap', hn', hcap', hv⟩ := hy.ref_live (cs := o.cells) (by simp [cellsAt, ho, hle])
                  simp only [Value.slice.injEq] at hv
                  obtain ⟨ha, _, rfl⟩ := hv
                  obtain ⟨cur, hb0, hcs, hmx', hl0, hcr⟩ := hr.row ho hes hz
                  have hid : id < h.length := (List.getElem?_eq_some_iff.1 ho).1
                  have hβ : (fun i => if i = id then ((β id).1, (β id).2) else β i) = β := by
                    funext i; split
                    · rename_i e; subst e; rfl
                    · rfl
                  have hst := step_put hr (w' := w) id ⟨FZ, o.es, o.cells⟩ (β id).1 (β id).2 cur (by omega) (.inl ⟨⟨o, ho, hes, hz⟩, rfl⟩) hes (fun l0 h0 => by rw [lens_some ho hes] at h0; cases h0; exact ⟨Nat.le_refl _, fun _ => ⟨rfl, rfl⟩⟩)
                    (fun k _ _ => rfl) ⟨o.ty, (0, 0), hb0, fun h0 => absurd rfl h0⟩ rfl rfl rfl (Nat.le_refl _) hcs hmx' hl0 (CR_of hl0 hcr)
                  rw [hβ] at hst
                  simp only [putObj, hid, if_true] at hst
                  refine ⟨_, hrun, hst, ?_⟩
                  have hok : okIn W0 ok0 w β (h.set id ⟨FZ, o.es, o.cells⟩) (β id).1 := by
                    refine ⟨hr.lt ⟨o, ho, hes⟩, ?_, .inl (hr.own id ⟨o, ho, hes⟩)⟩
                    rintro i ⟨oi, hi, hes', hz'⟩ he
                    by_cases hii : id = i
                    · subst hii
                      rw [List.getElem?_set_self hid] at hi
                      cases hi
                      exact hz' rfl
                    · rw [List.getElem?_set_ne hii] at hi
                      exact hii (hr.inj i id ⟨oi, hi, hes'⟩ ⟨o, ho, hes⟩ he).symm
                  have := lit_cut (off := 0) (cs := o.cells) (cv := fun j => cur.getD j undef) (fun _ => hok) (fun _ => hr.own id ⟨o, ho, hes⟩) (fun j hj => by
                    rw [cell_of_row w _ _ cur o.ty (0, 0) hb0]
                    have : j < cur.size := by omega
                    simp [this]) (fun j hj => hst.vr _ _ (hcr j hj)) (off + l.toNat) (hh - l).toNat (a' := if m.toNat = l.toNat then a else a.map (·.add l.toNat)) (by
                      rw [Nat.zero_add]; exact hadr _ _ ha)
                  exact this
                · cases hx
              · cases hx
            · cases hx
          · cases hx
        · cases hx
      · cases hx
    · cases hx
  · cases hx
theorem aClear_rel (hr : HR W0 ok0 A β h w) {t ty : TypeId} {d x : AVal} {dv : Value} {h' : List AObj} (hd : VR W0 ok0 β h w d dv) (hx : aClear P t h d = some (x, h')) :
    ∃ v w', (Builtin.clear_ #[t] ty #[dv]).run P w = .ok v w' ∧ Step W0 ok0 A β h w β h' w' ∧ VR W0 ok0 β h' w' x v := by
  unfold aClear at hx
  split at hx
  · rename_i T hT
    split at hx
    · rename_i e he
      have hu := elem_slice hT he
      split at hx
      · rename_i E id off n ext hE
        split at hx
        · rename_i h0
          cases hx
          subst h0
          cases hd with
          | ref _ _ _ _ l cap a hl he hn ha live =>
            refine ⟨.tuple #[], w, ?_, Step.refl hr, .tuple _ _ rfl fun j hj => by simp at hj⟩
            cases a <;> simp [Builtin.clear_, run_underlying hu]
        · rename_i h0
          split at hx
          · rename_i z o hzl ho
            split at hx
            · rename_i hc
              obtain ⟨c1, c2, c3, c4⟩ := hc
              cases hx
              have hes := hd.ref_es ho
              obtain ⟨cap, hn, _, hdd⟩ := hd.ref_live (cs := o.cells) (by simp [cellsAt, ho, c2])
              subst hdd
              obtain ⟨z0, hz1, hz2, hz3⟩ := zero_AR (P := P) (W0 := W0) (ok0 := ok0) (β := β) (h := h) (w := w) hE
              rw [hzl] at hz2
              have hz4 : z0.cells = #[z] := by rw [← Array.toArray_toList (xs := z0.cells), hz2]
              have hzc : (Builtin.zeroCells z0.cells n).toList = List.replicate n z := by
                rw [hz4]
                apply List.ext_getElem
                · simp [Builtin.zeroCells]
                · intro j h1 h2
                  simp [Builtin.zeroCells, Nat.mod_one]
              obtain ⟨w', hst, hstep⟩ := put_rel (P := P) hr ho hes c1 (vs := List.replicate n (ofCell z)) (news := List.replicate n z) (off := off) (by simp) (by rw [c2]; simpa using c3) (fun v hv => by rw [(List.mem_replicate.1 hv).2]; exact c4) (fun j hj => by
                have hj' : j < n := by simpa using hj
                simp only [List.getElem_replicate]
                have : (List.replicate n z).getD j undef = z := by simp [hj']
                rw [this]; exact ofCell_rel z)
              refine ⟨.tuple #[], w', ?_, hstep, .tuple _ _ rfl fun j hj => by simp at hj⟩
              match n, h0 with
              | k + 1, _ => simp [Builtin.clear_, run_underlying hu, hz1, hzc, hst]
            · cases hx
          · cases hx
      · cases hx
    · cases hx
  · cases hx
theorem aCopy_rel (hr : HR W0 ok0 A β h w) {t t' ty : TypeId} {d s x : AVal} {dv sv : Value} {h' : List AObj} (hd : VR W0 ok0 β h w d dv) (hs : VR W0 ok0 β h w s sv) (hx : aCopy P t h d s = some (x, h')) :
    ∃ v w', (Builtin.copy_ #[t, t'] ty #[dv, sv]).run P w = .ok v w' ∧ Step W0 ok0 A β h w β h' w' ∧ VR W0 ok0 β h' w' x v := by
  unfold aCopy at hx
  split at hx
  · rename_i T hT
    split at hx
    · rename_i e he
      have hu := elem_slice hT he
      split at hx
      · rename_i E n dcs m cs hE hdv hsv
        obtain ⟨da, dcap, rfl, _, _⟩ := sview_rel hr hd hdv
        obtain ⟨sa, scap, rfl, _, hsr⟩ := sview_rel hr hs hsv
        split at hx
        · rename_i h0
          cases hx
          have hfc : ∃ c : Array Value, (Builtin.firstCells E.size 0 (.slice sa m scap)).run P w = .ok c w ∧ c.toList = [] := by
            cases sa with
            | none => exact ⟨#[], by simp [Builtin.firstCells], rfl⟩
            | some a => exact ⟨#[], run_firstCells_some (P := P) w E.size 0 a m scap [] (by simp) (fun j v hj => by simp at hj), rfl⟩
          obtain ⟨c, hc1, hc2⟩ := hfc
          refine ⟨.int .i64 0, w, ?_, Step.refl hr, .val _⟩
          cases da <;> simp [Builtin.copy_, run_underlying hu, Builtin.lenOf, h0, run_sizeOf' hE, hc1, hc2, storeCells, goInt]
        · rename_i h0
          split at hx
          · rename_i id off n' ext
            split at hx
            · rename_i o ho
              split at hx
              · rename_i hc
                obtain ⟨c1, c2, c3, c4, c5⟩ := hc
                cases hx
                have hes := hd.ref_es ho
                obtain ⟨cap, hn, _, hdd⟩ := hd.ref_live (cs := o.cells) (by simp [cellsAt, ho, c2])
                simp only [Value.slice.injEq] at hdd
                obtain ⟨rfl, rfl, rfl⟩ := hdd
                have hm0 : m ≠ 0 := by intro hm; subst hm; simp at h0
                have hcs0 : cs.take (Nat.min m n * E.size) ≠ [] ∨ Nat.min m n * E.size = 0 := by
                  rcases Nat.eq_zero_or_pos (Nat.min m n * E.size) with hz | hz
                  · exact .inr hz
                  · left; intro hnil; rw [hnil] at c3; simp at c3; omega
                obtain ⟨sb, soff, rfl, hcells⟩ : ∃ b off, sa = some ⟨b, off, none⟩ ∧ Cells W0 ok0 β h w b off cs := by
                  rcases hsr with ⟨_, hz, _, _⟩ | ⟨hz, _⟩ | hh
                  · omega
                  · omega
                  · exact hh
                obtain ⟨news, n1, n2, n3⟩ := cells_of_view (hcells.take (Nat.min m n * E.size))
                have hnone : ∀ v ∈ news, v.oneCell' = true := by
                  intro v hv
                  obtain ⟨j, hj, rfl⟩ := List.mem_iff_getElem.1 hv
                  have h5 := n3 j (by omega)
                  have h6 := VRel.oneCell h5 (List.all_eq_true.1 c5 _ (List.getElem_mem (by omega)))
                  simpa [List.getD_eq_getElem?_getD, hj] using h6
                have hfc := run_firstCells_some (P := P) w E.size (Nat.min m n) ⟨sb, soff, none⟩ m scap news (by rw [n1, c3]) n2
                obtain ⟨w', hst, hstep⟩ := put_rel (P := P) hr ho hes c1 (vs := cs.take (Nat.min m n * E.size)) n1 (by rw [c3, c2]; exact c4) hnone n3
                exact ⟨_, w', by simp [Builtin.copy_, run_underlying hu, Builtin.lenOf, run_sizeOf' hE, hfc, hst, goInt], hstep, .val _⟩
              · cases hx
            · cases hx
          · rename_i id off n' ext
            split at hx
            · rename_i o ho
              split at hx
              · rename_i hc
                obtain ⟨c1, c2, c3, c4, c5⟩ := hc
                cases hx
                have hes := hd.part_es ho
                obtain ⟨cap, hn, hdd⟩ := hd.part_live (cs := o.cells) (by simp [cellsAt, ho, c2])
                simp only [Value.slice.injEq] at hdd
                obtain ⟨rfl, rfl, rfl⟩ := hdd
                have hm0 : m ≠ 0 := by intro hm; subst hm; simp at h0
                have hcs0 : cs.take (Nat.min m n * E.size) ≠ [] ∨ Nat.min m n * E.size = 0 := by
                  rcases Nat.eq_zero_or_pos (Nat.min m n * E.size) with hz | hz
                  · exact .inr hz
                  · left; intro hnil; rw [hnil] at c3; simp at c3; omega
                obtain ⟨sb, soff, rfl, hcells⟩ : ∃ b off, sa = some ⟨b, off, none⟩ ∧ Cells W0 ok0 β h w b off cs := by
                  rcases hsr with ⟨_, hz, _, _⟩ | ⟨hz, _⟩ | hh
                  · omega
                  · omega
                  · exact hh
                obtain ⟨news, n1, n2, n3⟩ := cells_of_view (hcells.take (Nat.min m n * E.size))
                have hnone : ∀ v ∈ news, v.oneCell' = true := by
                  intro v hv
                  obtain ⟨j, hj, rfl⟩ := List.mem_iff_getElem.1 hv
                  have h5 := n3 j (by omega)
                  have h6 := VRel.oneCell h5 (List.all_eq_true.1 c5 _ (List.getElem_mem (by omega)))
                  simpa [List.getD_eq_getElem?_getD, hj] using h6
                have hfc := run_firstCells_some (P := P) w E.size (Nat.min m n) ⟨sb, soff, none⟩ m scap news (by rw [n1, c3]) n2
                obtain ⟨w', hst, hstep⟩ := put_rel (P := P) hr ho hes c1 (vs := cs.take (Nat.min m n * E.size)) n1 (by rw [c3, c2]; exact c4) hnone n3
                exact ⟨_, w', by simp [Builtin.copy_, run_underlying hu, Builtin.lenOf, run_sizeOf' hE, hfc, hst, goInt], hstep, .val _⟩
              · cases hx
            · cases hx
          · cases hx
      · cases hx
    · cases hx
  · cases hx
theorem aEff_rel (hr : HR W0 ok0 A β h w) {o : Oper} {ρ : Operand → AVal} {ρv : Operand → Value} (hρ : ∀ x, VR W0 ok0 β h w (ρ x) (ρv x)) (hsl : ∀ t x lo hi mx, o.op = .slice t x lo hi mx → mx ≠ none → hi ≠ none) {x : AVal} {h' : List AObj} (hx : aEff P o ρ h = some (x, h')) :
    ∃ nx v β' w', (execOp ρv o).run P w = .ok nx w' ∧ (nx = .value v ∨ (nx = .skip ∧ v = undef)) ∧ Step W0 ok0 A β h w β' h' w' ∧ VR W0 ok0 β' h' w' x v := by
  obtain ⟨dst, op, type, pos, after, guard⟩ := o
  cases op <;> simp only [aEff] at hx <;> try (cases hx; done)
  case alloc e =>
    split at hx
    · rename_i T ht
      split at hx
      · rename_i hl
        simp only [Option.some.injEq, Prod.mk.injEq] at hx
        obtain ⟨rfl, rfl⟩ := hx
        obtain ⟨z, hz1, hz2, hz3⟩ := zero_AR (P := P) (W0 := W0) (ok0 := ok0) (β := β) (h := h) (w := w) ht
        refine ⟨.value (.pointer (some ⟨w.heap.size, 0, none⟩)), _, _, w.alloc (.cells z.cells e), ?_, .inl rfl, step_new hr ⟨e, T.size, T.zero.map ofCell⟩ hl.2 z.cells 1 rfl rfl rfl rfl ?_ (by simp [maxLen]) ?_ hz3.2, ptr_new hl.2 (by simp [hl])⟩
        · simp [execOp, Instr.alloc, hz1, newVar, newRow]
        · rw [hz3.1]; simp [hl]
        · rw [hz3.1]; exact Nat.le_refl _
      · cases hx
    · cases hx
  case box e y =>
    split at hx
    · rename_i T vs ht hps
      split at hx
      · rename_i hl
        simp only [Option.some.injEq, Prod.mk.injEq] at hx
        obtain ⟨rfl, rfl⟩ := hx
        have har := parts_rel (hρ y) hps
        refine ⟨.value (.pointer (some ⟨w.heap.size, 0, none⟩)), _, _, w.alloc (.cells (ρv y).cells e), ?_, .inl rfl, step_new hr ⟨e, T.size, vs⟩ hl.2 (ρv y).cells 1 rfl rfl rfl rfl ?_ (by simp [maxLen]) ?_ har.2, ptr_new hl.2 (by simp [hl])⟩
        · simp [execOp, Instr.box, newVar, newRow]
        · rw [har.1]; simp [hl]
        · rw [har.1]; exact Nat.le_refl _
      · cases hx
    · cases hx
  case build t parts =>
    obtain ⟨x0, hx0, hx1⟩ := Option.map_eq_some_iff.1 hx
    simp only [Prod.mk.injEq] at hx1
    obtain ⟨rfl, rfl⟩ := hx1
    obtain ⟨v, h1, h2⟩ := aBuild_rel hρ hx0
    exact ⟨.value v, v, β, w, by simp [execOp, h1], .inl rfl, Step.refl hr, h2⟩
  case buildSlice t len parts =>
    split at hx
    · rename_i T ht
      split at hx
      · rename_i e he
        split at hx
        · rename_i E hE
          split at hx
          · rename_i hl
            obtain ⟨hl1, hl2, hl3, _⟩ := hl
            obtain ⟨cs, hcs, hx1⟩ := Option.map_eq_some_iff.1 hx
            simp only [Prod.mk.injEq] at hx1
            obtain ⟨rfl, rfl⟩ := hx1
            have hu := elem_slice ht he
            obtain ⟨z, hz1, hz2, _⟩ := zero_AR (P := P) (W0 := W0) (ok0 := ok0) (β := β) (h := h) (w := w) hE
            have hzar := zeros_AR (W0 := W0) (ok0 := ok0) (β := β) (h := h) (w := w) hz2 (len * E.size) hl2
            obtain ⟨arr, ha1, ha2⟩ := fill_rel (pc := fun i => some (i * E.size, E.size)) (fun i r hi => hi) hρ parts.toList _ _ cs hzar hcs
            have hcl : cs.length = len * E.size := by
              rw [← ha2.1]
              have : ∀ (L : List (Nat × Value)) (pl : Nat → Option (Nat × Nat)) (c0 c1 : Array Value), Instr.fill pl c0 L = some c1 → c1.size = c0.size := by
                intro L pl
                induction L with
                | nil => intro c0 c1 hf; simp [Instr.fill] at hf; rw [hf]
                | cons q L ih =>
                  intro c0 c1 hf
                  simp only [Instr.fill] at hf
                  split at hf
                  · cases hf
                  · split at hf
                    · cases hf
                    · rw [ih _ _ hf, ← Array.foldl_toList, Array.toList_zipIdx]
                      exact (fold_get _ _ 0 c0 0).1
              rw [this _ _ _ _ ha1]; simp
            have hst : Step W0 ok0 A β h w β h (w.alloc (.cells arr e)) := step_world hr ((Below.refl _ _).alloc (Nat.le_refl _) _)
            refine ⟨.value (.slice (some ⟨w.heap.size, 0, none⟩) len len), _, _, w.alloc (.cells arr e), ?_, .inl rfl, hst, ?_⟩
            · have hn : ¬ len * E.size > 2 ^ 24 := by omega
              have ha1' : Instr.fill (fun i => some (i * E.size, E.size)) ((Array.range (len * E.size)).map (z.cells[· % z.cells.size]!)) (parts.map fun (i, x) => (i, ρv x)).toList = some arr := by simpa using ha1
              by_cases h0 : len * E.size = 0
              · have e0 : ∀ z' : Array Value, ((Array.range (len * E.size)).map (z'[· % z'.size]!)) = (#[] : Array Value) := fun z' => by rw [h0]; simp
                rw [e0] at ha1'
                simp only [execOp, Instr.buildSlice, Sem.run_bind, run_underlying hu, Result.andThen_ok, run_sizeOf' hE, if_neg hn, if_pos h0, Sem.run_pure, e0, ha1']
                simp [newRow]
              · simp only [execOp, Instr.buildSlice, Sem.run_bind, run_underlying hu, Result.andThen_ok, run_sizeOf' hE, if_neg hn, if_neg h0, hz1, Sem.run_pure, ha1']
                simp [newRow]
            · split
              · rename_i hl0
                subst hl0
                exact .cap0 false _ rfl (fun _ h => by cases h; rfl)
              · refine .lit w.heap.size 0 len cs (fun j => arr.getD j undef) (fun _ => ⟨by simp, fun i hi => ?_, .inl hr.wsize⟩) (fun _ => hr.wsize) (fun j hj => ?_) (fun j hj => hst.vr _ _ (ha2.2 j hj))
                · have hlt := hr.lt hi.live
                  omega
                · rw [cell_of_row _ _ _ arr e (0, 0) (heap_alloc_new w _)]
                  have : 0 + j < arr.size := by rw [ha2.1]; omega
                  simp only [Nat.zero_add] at this ⊢
                  simp [this]
          · cases hx
        · cases hx
      · cases hx
    · cases hx
  case makeSlice t l c =>
    obtain ⟨v, β', w', h1, h2, h3⟩ := aMake_rel hr (hρ l) (hρ c) hx
    exact ⟨.value v, v, β', w', by simp [execOp, h1], .inl rfl, h2, h3⟩
  case slice t y lo hi mx =>
    have hne : mx.map ρ ≠ none → hi.map ρ ≠ none := fun hm => by
      have := hsl t y lo hi mx rfl (by intro h0; simp [h0] at hm)
      intro h0; simp at h0; exact this h0
    have old : ∀ r, (aSlice P t h (ρ y) (lo.map ρ) (hi.map ρ) (mx.map ρ)).map (fun x => (x, h)) = some r → ∃ nx u β' w', (execOp ρv ⟨dst, .slice t y lo hi mx, type, pos, after, guard⟩).run P w = .ok nx w' ∧ (nx = .value u ∨ (nx = .skip ∧ u = undef)) ∧ Step W0 ok0 A β h w β' r.2 w' ∧ VR W0 ok0 β' r.2 w' r.1 u := fun r hx => by
      obtain ⟨x0, hx0, hx1⟩ := Option.map_eq_some_iff.1 hx
      subst hx1
      obtain ⟨v, h1, h2⟩ := aSlice_rel hr (hρ y) (optRel_map hρ lo) (optRel_map hρ hi) (optRel_map hρ mx) hne hx0
      exact ⟨.value v, v, β, w, by simp [execOp, h1], .inl rfl, Step.refl hr, h2⟩
    cases mx with
    | none => exact old _ hx
    | some m =>
      simp only at hx
      split at hx
      · rename_i r hc
        cases hx
        obtain ⟨v, h1, h2, h3⟩ := aCut_rel hr (hρ y) (optRel_map hρ lo) (optRel_map hρ hi) (optRel_map hρ (some m)) hne hc
        exact ⟨.value v, v, β, w, by simp [execOp] at h1 ⊢; simp [h1], .inl rfl, h2, h3⟩
      · exact old _ hx
  case store t p v =>
    obtain ⟨h0, hx0, hx1⟩ := Option.map_eq_some_iff.1 hx
    simp only [Prod.mk.injEq] at hx1
    obtain ⟨rfl, rfl⟩ := hx1
    obtain ⟨w', h1, h2⟩ := aStore_rel hr (hρ p) (hρ v) hx0
    exact ⟨.skip, undef, β, w', by simp [execOp, h1], .inr ⟨rfl, rfl⟩, h2, .undef _⟩
  case call c =>
    obtain ⟨callee, args, argTypes⟩ := c
    cases callee with
    | value f => simp at hx
    | invoke r m => simp at hx
    | builtin b =>
      cases b <;> try (simp at hx; done)
      case unsafeString =>
        simp only at hx
        split at hx
        · rename_i p l pt it hl ht
          obtain ⟨a0, a1, rfl⟩ : ∃ a0 a1, args = #[a0, a1] := by
            have hlen : args.toList.length = 2 := by have := congrArg List.length hl; simpa using this
            match hal : args.toList, hlen with
            | [a0, a1], _ => exact ⟨a0, a1, by rw [← Array.toArray_toList (xs := args), hal]⟩
          obtain rfl : argTypes = #[pt, it] := by rw [← Array.toArray_toList (xs := argTypes), ht]
          simp at hl
          obtain ⟨rfl, rfl⟩ := hl
          obtain ⟨v, β', w', h1, h2, h3⟩ := aUstr_rel (it := it) (ty := type) hr (hρ a0) (hρ a1) hx
          exact ⟨.value v, v, β', w', by simp [execOp, resolve, invoke, builtin, h1], .inl rfl, h2, h3⟩
        · cases hx
      case clear =>
        simp only at hx
        split at hx
        · rename_i d t hl ht
          obtain ⟨a0, rfl⟩ : ∃ a0, args = #[a0] := by
            have hlen : args.toList.length = 1 := by have := congrArg List.length hl; simpa using this
            match hal : args.toList, hlen with
            | [a0], _ => exact ⟨a0, by rw [← Array.toArray_toList (xs := args), hal]⟩
          simp at hl
          subst hl
          obtain ⟨v, w', h1, h2, h3⟩ := aClear_rel (ty := type) hr (hρ a0) hx
          have h4 : Builtin.clear_ argTypes type #[ρv a0] = Builtin.clear_ #[t] type #[ρv a0] := by
            simp [Builtin.clear_, ht]
          exact ⟨.value v, v, β, w', by simp [execOp, resolve, invoke, builtin, h4, h1], .inl rfl, h2, h3⟩
        · cases hx
      case copy =>
        simp only at hx
        split at hx
        · rename_i d s t hl ht
          obtain ⟨a0, a1, rfl⟩ : ∃ a0 a1, args = #[a0, a1] := by
            have hlen : args.toList.length = 2 := by have := congrArg List.length hl; simpa using this
            match hal : args.toList, hlen with
            | [a0, a1], _ => exact ⟨a0, a1, by rw [← Array.toArray_toList (xs := args), hal]⟩
          simp at hl
          obtain ⟨rfl, rfl⟩ := hl
          obtain ⟨v, w', h1, h2, h3⟩ := aCopy_rel (t' := 0) (ty := type) hr (hρ a0) (hρ a1) hx
          have h4 : Builtin.copy_ argTypes type #[ρv a0, ρv a1] = Builtin.copy_ #[t, 0] type #[ρv a0, ρv a1] := by
            simp [Builtin.copy_, ht]
          exact ⟨.value v, v, β, w', by simp [execOp, resolve, invoke, builtin, h4, h1], .inl rfl, h2, h3⟩
        · cases hx
      case append =>
      simp only at hx
      split at hx
      · rename_i s y t t' hl ht
        split at hx
        · rename_i htt
          subst htt
          obtain ⟨a0, a1, rfl⟩ : ∃ a0 a1, args = #[a0, a1] := by
            have hlen : args.toList.length = 2 := by have := congrArg List.length hl; simpa using this
            match hal : args.toList, hlen with
            | [a0, a1], _ => exact ⟨a0, a1, by rw [← Array.toArray_toList (xs := args), hal]⟩
          obtain rfl : argTypes = #[t, t] := by rw [← Array.toArray_toList (xs := argTypes), ht]
          simp at hl
          obtain ⟨rfl, rfl⟩ := hl
          obtain ⟨v, β', w', h1, h2, h3⟩ := aAppend_rel (ty := type) hr (hρ a0) (hρ a1) hx
          exact ⟨.value v, v, β', w', by simp [execOp, resolve, invoke, builtin, h1], .inl rfl, h2, h3⟩
        · obtain ⟨a0, a1, rfl⟩ : ∃ a0 a1, args = #[a0, a1] := by
            have hlen : args.toList.length = 2 := by have := congrArg List.length hl; simpa using this
            match hal : args.toList, hlen with
            | [a0, a1], _ => exact ⟨a0, a1, by rw [← Array.toArray_toList (xs := args), hal]⟩
          obtain rfl : argTypes = #[t, t'] := by rw [← Array.toArray_toList (xs := argTypes), ht]
          simp at hl
          obtain ⟨rfl, rfl⟩ := hl
          obtain ⟨v, β', w', h1, h2, h3⟩ := aApZ_rel (ty := type) hr (hρ a0) (hρ a1) hx
          exact ⟨.value v, v, β', w', by simp [execOp, resolve, invoke, builtin, h1], .inl rfl, h2, h3⟩
      · cases hx
end
end Go.AW
namespace Go.AW
open Go Go.RowKit
def argOf (h : List AObj) : Nat → AVal → AVal
  | 0, _ => .undef
  | _ + 1, .undef => .undef
  | _ + 1, .val v => .val v
  | _ + 1, .cap0 b => .list false b 0 []
  | _ + 1, .res _ => .list false true 0 []
  | n + 1, .lit k cs => .list false false k (cs.map (argOf h n))
  | n + 1, .list _ b k cs => .list false b k (cs.map (argOf h n))
  | n + 1, .spot _ cs => .spot false (cs.map (argOf h n))
  | n + 1, .agg cs => .agg (cs.map (argOf h n))
  | _ + 1, .tuple _ => .undef
  | n + 1, .func fn fs cs => .func fn (fs.map (argOf h n)) (cs.map (argOf h n))
  | n + 1, .ref id off k ext => match h[id]? with
    | some o => if o.cells.length = ext then .list false false k (((o.cells.drop off).take (k * o.es)).map (argOf h n)) else .undef
    | none => .undef
  | n + 1, .ptr id off ext => match h[id]? with
    | some o => if o.cells.length = ext then .spot false ((o.cells.drop off).map (argOf h n)) else .undef
    | none => .undef
  | _ + 1, .part .. => .undef
def resOf (h : List AObj) : Nat → AVal → AVal
  | 0, _ => .undef
  | _ + 1, .undef => .undef
  | _ + 1, .val v => .val v
  | _ + 1, .cap0 b => .list true b 0 []
  | _ + 1, .res _ => .list true true 0 []
  | n + 1, .lit k cs => .list true false k (cs.map (resOf h n))
  | n + 1, .list p b k cs => .list p b k (cs.map (resOf h n))
  | n + 1, .spot p cs => .spot p (cs.map (resOf h n))
  | n + 1, .agg cs => .agg (cs.map (resOf h n))
  | n + 1, .tuple cs => .tuple (cs.map (resOf h n))
  | n + 1, .func fn fs cs => .func fn (fs.map (resOf h n)) (cs.map (resOf h n))
  | n + 1, .ref id off k ext => match h[id]? with
    | some o => if o.cells.length = ext then .list true false k (((o.cells.drop off).take (k * o.es)).map (resOf h n)) else .undef
    | none => .undef
  | n + 1, .ptr id off ext => match h[id]? with
    | some o => if o.cells.length = ext then .spot true ((o.cells.drop off).map (resOf h n)) else .undef
    | none => .undef
  | _ + 1, .part .. => .undef
def allFresh : Nat → AVal → Bool
  | 0, _ => false
  | _ + 1, .undef => true
  | _ + 1, .val _ => true
  | _ + 1, .cap0 _ => true
  | _ + 1, .res _ => true
  | n + 1, .lit _ cs => cs.all (allFresh n)
  | n + 1, .list p _ _ cs => (p || cs.isEmpty) && cs.all (allFresh n)
  | n + 1, .spot p cs => (p || cs.isEmpty) && cs.all (allFresh n)
  | n + 1, .agg cs => cs.all (allFresh n)
  | n + 1, .tuple cs => cs.all (allFresh n)
  | n + 1, .func _ fs cs => fs.all (allFresh n) && cs.all (allFresh n)
  | _ + 1, .ref .. => false
  | _ + 1, .ptr .. => false
  | _ + 1, .part .. => false
def noRef : Nat → AVal → Bool
  | 0, _ => false
  | _ + 1, .undef => true
  | _ + 1, .val _ => true
  | _ + 1, .cap0 _ => true
  | _ + 1, .res _ => true
  | n + 1, .lit _ cs => cs.all (noRef n)
  | n + 1, .list _ _ _ cs => cs.all (noRef n)
  | n + 1, .spot _ cs => cs.all (noRef n)
  | n + 1, .agg cs => cs.all (noRef n)
  | n + 1, .tuple cs => cs.all (noRef n)
  | n + 1, .func _ fs cs => fs.all (noRef n) && cs.all (noRef n)
  | _ + 1, .ref .. => false
  | _ + 1, .ptr .. => false
  | _ + 1, .part .. => false
def callable (P : Program) (f : FuncId) : Bool :=
  match P.funcs[f]? with
  | some fn => !(fn.name == "runtime.NumGoroutine") && fn.body.isSome
  | none => false
def Contract (P : Program) (f : FuncId) (args : List AVal) (res : AVal) : Prop :=
  callable P f = true ∧ ∀ (w : World) (ok : Nat → Prop) (vs : Array Value), (∀ b, ok b → b < w.heap.size) → (∀ p ∈ tabs, ok p.1 ∧ TabRow w p) → vs.size = args.length →
    (∀ j (hj : j < args.length), VRel ok (fun _ => False) w (fun _ => (0, 0)) (fun _ => none) args[j] (vs.getD j undef)) →
    Calls P f vs w (fun e w' => ∃ v, e = .returned v ∧ VRel (fun b => ok b ∨ (w.heap.size ≤ b ∧ b < w'.heap.size)) (fun b => w.heap.size ≤ b) w' (fun _ => (0, 0)) (fun _ => none) res v ∧ Below w.heap.size w w')
section
variable {P : Program} {W0 : World} {ok0 A : Nat → Prop} {β : Nat → Nat × Nat} {h : List AObj} {w : World}
def Pre (h1 h : List AObj) : Prop := ∀ (i : Nat) (o : AObj), h1[i]? = some o → h[i]? = some o
theorem Pre.refl (h : List AObj) : Pre h h := fun _ _ h => h
theorem argOf_rel (hr : HR W0 ok0 A β h w) {h1 : List AObj} (hpre : Pre h1 h) {okc frc : Nat → Prop} {β' : Nat → Nat × Nat} {len' : Nat → Option Nat} (hok : ∀ b, okIn W0 ok0 w β h b → okc b) : ∀ (n : Nat) (x : AVal) (v : Value), VR W0 ok0 β h w x v → (noRef n x = true ∨ ∀ i, live h i → okc (β i).1) → VRel okc frc w β' len' (argOf h1 n x) v := by
  intro n
  induction n with
  | zero => intro x v _ _; exact .undef _
  | succ n ih =>
    have cells : ∀ (cs : List AVal) (b off : Nat), okc b → Cells W0 ok0 β h w b off cs → (cs.all (noRef n) = true ∨ ∀ i, live h i → okc (β i).1) → ∀ k p, k ≤ cs.length ∨ True → ∀ cap, k ≤ cap → VRel okc frc w β' len' (.list false false k (cs.map (argOf h1 n))) (.slice (some ⟨b, off, none⟩) k cap) ∧ (p = () → VRel okc frc w β' len' (.spot false (cs.map (argOf h1 n))) (.pointer (some ⟨b, off, none⟩))) := by
      intro cs b off hb hc hn k p _ cap hcap
      have h1' : ∀ j, j < (cs.map (argOf h1 n)).length → w.cell? ⟨b, off + j, none⟩ = some ((w.cell? ⟨b, off + j, none⟩).getD undef) := fun j hj => by
        obtain ⟨u, h3, _⟩ := hc j (by simpa using hj); simp [h3]
      have h2 : ∀ j (hj : j < (cs.map (argOf h1 n)).length), VRel okc frc w β' len' (cs.map (argOf h1 n))[j] ((w.cell? ⟨b, off + j, none⟩).getD undef) := fun j hj => by
        have hj' : j < cs.length := by simpa using hj
        obtain ⟨u, h3, h4⟩ := hc j hj'
        simp only [List.getElem_map, h3, Option.getD_some]
        exact ih _ _ h4 (hn.imp (fun h => List.all_eq_true.1 h _ (List.getElem_mem hj')) id)
      exact ⟨.list false b off k cap _ _ (fun _ => hb) (fun hp => by cases hp) hcap h1' h2, fun _ => .spot false b off _ _ (fun _ => hb) (fun hp => by cases hp) h1' h2⟩
    intro x v hx hn
    cases hx with
    | undef v => exact .undef _
    | val v => exact .val _
    | cap0 b a ha hs =>
      simp only [argOf]
      cases a with
      | none => simp at ha; subst ha; exact .nil false
      | some q =>
        simp at ha; subst ha
        have := hs q rfl
        obtain ⟨qb, qo, qs⟩ := q
        simp at this; subst this
        exact .list false qb qo 0 0 [] (fun _ => undef) (fun h => absurd rfl h) (fun _ h => absurd rfl h) (Nat.le_refl _) (fun j hj => by simp at hj) (fun j hj => by simp at hj)
    | res k => simp only [argOf]; exact .nil false
    | lit b off k cs cv hok1 hp hc hr' =>
      simp only [argOf]
      refine .list false b off k k _ cv (fun hne => hok _ (hok1 (by rintro rfl; exact hne rfl))) (fun hp => by cases hp) (Nat.le_refl _) (fun j hj => hc j (by simpa using hj)) (fun j hj => ?_)
      have hj' : j < cs.length := by simpa using hj
      simp only [List.getElem_map]
      exact ih _ _ (hr' j hj') (hn.imp (fun h => List.all_eq_true.1 (by simpa [noRef] using h) _ (List.getElem_mem hj')) id)
    | nil p => simp only [argOf, List.map_nil]; exact .nil false
    | list p b off k cap cs cv hok1 hp hn1 hc hr' =>
      simp only [argOf]
      refine .list false b off k cap _ cv (fun hne => hok _ (hok1 (by rintro rfl; exact hne rfl))) (fun hp => by cases hp) hn1 (fun j hj => hc j (by simpa using hj)) (fun j hj => ?_)
      have hj' : j < cs.length := by simpa using hj
      simp only [List.getElem_map]
      exact ih _ _ (hr' j hj') (hn.imp (fun h => List.all_eq_true.1 (by simpa [noRef] using h) _ (List.getElem_mem hj')) id)
    | spot p b off cs cv hok1 hp hc hr' =>
      simp only [argOf]
      refine .spot false b off _ cv (fun hne => hok _ (hok1 (by rintro rfl; exact hne rfl))) (fun hp => by cases hp) (fun j hj => hc j (by simpa using hj)) (fun j hj => ?_)
      have hj' : j < cs.length := by simpa using hj
      simp only [List.getElem_map]
      exact ih _ _ (hr' j hj') (hn.imp (fun h => List.all_eq_true.1 (by simpa [noRef] using h) _ (List.getElem_mem hj')) id)
    | agg cs vs hs hr' =>
      simp only [argOf]
      refine .agg _ _ (by simpa using hs) (fun j hj => ?_)
      have hj' : j < cs.length := by simpa using hj
      simp only [List.getElem_map]
      exact ih _ _ (hr' j hj') (hn.imp (fun h => List.all_eq_true.1 (by simpa [noRef] using h) _ (List.getElem_mem hj')) id)
    | tuple cs vs hs hr' => exact .undef _
    | func fn fs cs fv cv hfs hcs hf hc =>
      simp only [argOf]
      refine .func _ _ _ _ _ (by simpa using hfs) (by simpa using hcs) (fun j hj => ?_) (fun j hj => ?_)
      · have hj' : j < fs.length := by simpa using hj
        simp only [List.getElem_map]
        exact ih _ _ (hf j hj') (hn.imp (fun h => by
          simp only [noRef, Bool.and_eq_true] at h
          exact List.all_eq_true.1 h.1 _ (List.getElem_mem hj')) id)
      · have hj' : j < cs.length := by simpa using hj
        simp only [List.getElem_map]
        exact ih _ _ (hc j hj') (hn.imp (fun h => by
          simp only [noRef, Bool.and_eq_true] at h
          exact List.all_eq_true.1 h.2 _ (List.getElem_mem hj')) id)
    | ref id off k ext l cap a hl he hn1 ha live =>
      have hn' : ∀ i, Go.AW.live h i → okc (β i).1 := hn.resolve_left (by simp [noRef])
      simp only [argOf]
      split
      · rename_i o ho
        split
        · rename_i hol
          obtain ⟨hes, hl2⟩ := lens_at (hpre _ _ ho) hl
          obtain ⟨h3, h2⟩ := live (by omega)
          subst h3
          exact (cells _ _ _ (hn' id ⟨o, hpre _ _ ho, hes⟩) ((hr.cells (hpre _ _ ho) hes off).take _) (.inr hn') k () (.inr trivial) cap hn1).1
        · exact .undef _
      · exact .undef _
    | ptr id off ext l a hl he live =>
      have hn' : ∀ i, Go.AW.live h i → okc (β i).1 := hn.resolve_left (by simp [noRef])
      simp only [argOf]
      split
      · rename_i o ho
        split
        · rename_i hol
          obtain ⟨hes, hl2⟩ := lens_at (hpre _ _ ho) hl
          have h3 := live (by omega)
          subst h3
          exact (cells _ _ _ (hn' id ⟨o, hpre _ _ ho, hes⟩) (hr.cells (hpre _ _ ho) hes off) (.inr hn') 0 () (.inr trivial) 0 (Nat.le_refl _)).2 rfl
        · exact .undef _
      · exact .undef _
    | part id off k ext l cap a hl he hn1 live => exact .undef _
theorem resOf_rel (hr : HR W0 ok0 (fun _ => False) β h w) {β' : Nat → Nat × Nat} {len' : Nat → Option Nat} : ∀ (n : Nat) (x : AVal) (v : Value), VR W0 ok0 β h w x v →
    VRel (fun b => ok0 b ∨ (W0.heap.size ≤ b ∧ b < w.heap.size)) (fun b => W0.heap.size ≤ b) w β' len' (resOf h n x) v := by
  have hokm : ∀ b, okIn W0 ok0 w β h b → ok0 b ∨ (W0.heap.size ≤ b ∧ b < w.heap.size) := fun b ⟨h1, h2, h3⟩ => by
    rcases h3 with h3 | h3
    · exact .inr ⟨h3, h1⟩
    · exact .inl h3
  intro n
  induction n with
  | zero => intro x v _; exact .undef _
  | succ n ih =>
    have cells : ∀ (cs : List AVal) (b off : Nat), W0.heap.size ≤ b → b < w.heap.size → Cells W0 ok0 β h w b off cs → ∀ k cap, k ≤ cap →
        VRel (fun b => ok0 b ∨ (W0.heap.size ≤ b ∧ b < w.heap.size)) (fun b => W0.heap.size ≤ b) w β' len' (.list true false k (cs.map (resOf h n))) (.slice (some ⟨b, off, none⟩) k cap) ∧
        VRel (fun b => ok0 b ∨ (W0.heap.size ≤ b ∧ b < w.heap.size)) (fun b => W0.heap.size ≤ b) w β' len' (.spot true (cs.map (resOf h n))) (.pointer (some ⟨b, off, none⟩)) := by
      intro cs b off hb1 hb2 hc k cap hcap
      have h1 : ∀ j, j < (cs.map (resOf h n)).length → w.cell? ⟨b, off + j, none⟩ = some ((w.cell? ⟨b, off + j, none⟩).getD undef) := fun j hj => by
        obtain ⟨u, h1, _⟩ := hc j (by simpa using hj); simp [h1]
      have h2 : ∀ j (hj : j < (cs.map (resOf h n)).length), VRel (fun b => ok0 b ∨ (W0.heap.size ≤ b ∧ b < w.heap.size)) (fun b => W0.heap.size ≤ b) w β' len' (cs.map (resOf h n))[j] ((w.cell? ⟨b, off + j, none⟩).getD undef) := fun j hj => by
        have hj' : j < cs.length := by simpa using hj
        obtain ⟨u, h1, h2⟩ := hc j hj'
        simp only [List.getElem_map, h1, Option.getD_some]
        exact ih _ _ h2
      exact ⟨.list true b off k cap _ _ (fun _ => .inr ⟨hb1, hb2⟩) (fun _ _ => hb1) hcap h1 h2, .spot true b off _ _ (fun _ => .inr ⟨hb1, hb2⟩) (fun _ _ => hb1) h1 h2⟩
    have hblk : ∀ i o, h[i]? = some o → o.es ≠ 0 → W0.heap.size ≤ (β i).1 ∧ (β i).1 < w.heap.size := fun i o hi hes =>
      ⟨hr.own i ⟨o, hi, hes⟩, hr.lt ⟨o, hi, hes⟩⟩
    intro x v hx
    cases hx with
    | undef v => exact .undef _
    | val v => exact .val _
    | cap0 b a ha hs =>
      simp only [resOf]
      cases a with
      | none => simp at ha; subst ha; exact .nil true
      | some q =>
        simp at ha; subst ha
        have := hs q rfl
        obtain ⟨qb, qo, qs⟩ := q
        simp at this; subst this
        exact .list true qb qo 0 0 [] (fun _ => undef) (fun h => absurd rfl h) (fun _ h => absurd rfl h) (Nat.le_refl _) (fun j hj => by simp at hj) (fun j hj => by simp at hj)
    | res k => simp only [resOf]; exact .nil true
    | lit b off k cs cv hok1 hp hc hr' =>
      simp only [resOf]
      refine .list true b off k k _ cv (fun hne => hokm _ (hok1 (by rintro rfl; exact hne rfl))) (fun _ hne => hp (by rintro rfl; exact hne rfl)) (Nat.le_refl _) (fun j hj => hc j (by simpa using hj)) (fun j hj => ?_)
      have hj' : j < cs.length := by simpa using hj
      simp only [List.getElem_map]
      exact ih _ _ (hr' j hj')
    | nil p => simp only [resOf, List.map_nil]; exact .nil p
    | list p b off k cap cs cv hok1 hp hn1 hc hr' =>
      simp only [resOf]
      refine .list p b off k cap _ cv (fun hne => hokm _ (hok1 (by rintro rfl; exact hne rfl))) (fun hp1 hne => hp hp1 (by rintro rfl; exact hne rfl)) hn1 (fun j hj => hc j (by simpa using hj)) (fun j hj => ?_)
      have hj' : j < cs.length := by simpa using hj
      simp only [List.getElem_map]
      exact ih _ _ (hr' j hj')
    | spot p b off cs cv hok1 hp hc hr' =>
      simp only [resOf]
      refine .spot p b off _ cv (fun hne => hokm _ (hok1 (by rintro rfl; exact hne rfl))) (fun hp1 hne => hp hp1 (by rintro rfl; exact hne rfl)) (fun j hj => hc j (by simpa using hj)) (fun j hj => ?_)
      have hj' : j < cs.length := by simpa using hj
      simp only [List.getElem_map]
      exact ih _ _ (hr' j hj')
    | agg cs vs hs hr' =>
      simp only [resOf]
      refine .agg _ _ (by simpa using hs) (fun j hj => ?_)
      have hj' : j < cs.length := by simpa using hj
      simp only [List.getElem_map]
      exact ih _ _ (hr' j hj')
    | tuple cs vs hs hr' =>
      simp only [resOf]
      refine .tuple _ _ (by simpa using hs) (fun j hj => ?_)
      have hj' : j < cs.length := by simpa using hj
      simp only [List.getElem_map]
      exact ih _ _ (hr' j hj')
    | func fn fs cs fv cv hfs hcs hf hc =>
      simp only [resOf]
      refine .func _ _ _ _ _ (by simpa using hfs) (by simpa using hcs) (fun j hj => ?_) (fun j hj => ?_)
      · have hj' : j < fs.length := by simpa using hj
        simp only [List.getElem_map]
        exact ih _ _ (hf j hj')
      · have hj' : j < cs.length := by simpa using hj
        simp only [List.getElem_map]
        exact ih _ _ (hc j hj')
    | ref id off k ext l cap a hl he hn1 ha live =>
      simp only [resOf]
      split
      · rename_i o ho
        split
        · rename_i hol
          obtain ⟨hes, hl2⟩ := lens_at ho hl
          obtain ⟨h1, h2⟩ := live (by omega)
          subst h1
          obtain ⟨b1, b2⟩ := hblk id o ho hes
          exact (cells _ _ _ b1 b2 ((hr.cells ho hes off).take _) k cap hn1).1
        · exact .undef _
      · exact .undef _
    | ptr id off ext l a hl he live =>
      simp only [resOf]
      split
      · rename_i o ho
        split
        · rename_i hol
          obtain ⟨hes, hl2⟩ := lens_at ho hl
          have h1 := live (by omega)
          subst h1
          obtain ⟨b1, b2⟩ := hblk id o ho hes
          exact (cells _ _ _ b1 b2 (hr.cells ho hes off) 0 0 (Nat.le_refl _)).2
        · exact .undef _
      · exact .undef _
    | part id off k ext l cap a hl he hn1 live => exact .undef _
theorem allFresh_rel {ok fr ok' fr' : Nat → Prop} {β' : Nat → Nat × Nat} {len len' : Nat → Option Nat} (hof : ∀ b, ok b → fr b → ok' b) (hfr : ∀ b, ok b → fr b → fr' b) : ∀ (n : Nat) (x : AVal) (v : Value), VRel ok fr w β len x v → allFresh n x = true → VRel ok' fr' w β' len' x v := by
  intro n
  induction n with
  | zero => intro x v _ hf; cases hf
  | succ n ih =>
    intro x v hx hf
    cases hx with
    | undef v => exact .undef _
    | val v => exact .val _
    | cap0 b a ha hs => exact .cap0 _ _ ha hs
    | nil p => exact .nil p
    | res k => exact .res k
    | lit b off k cs cv hok1 hp hc hr' =>
      simp only [allFresh] at hf
      exact .lit b off k cs cv (fun hne => hof _ (hok1 hne) (hp hne)) (fun hne => hfr _ (hok1 hne) (hp hne)) hc (fun j hj => ih _ _ (hr' j hj) (List.all_eq_true.1 hf _ (List.getElem_mem hj)))
    | list p b off k cap cs cv hok1 hp hn1 hc hr' =>
      simp only [allFresh, Bool.and_eq_true, Bool.or_eq_true] at hf
      have hp' : cs ≠ [] → p = true := fun hne => hf.1.resolve_right (by simpa using hne)
      exact .list p b off k cap cs cv (fun hne => hof _ (hok1 hne) (hp (hp' hne) hne)) (fun hp1 hne => hfr _ (hok1 hne) (hp hp1 hne)) hn1 hc (fun j hj => ih _ _ (hr' j hj) (List.all_eq_true.1 hf.2 _ (List.getElem_mem hj)))
    | spot p b off cs cv hok1 hp hc hr' =>
      simp only [allFresh, Bool.and_eq_true, Bool.or_eq_true] at hf
      have hp' : cs ≠ [] → p = true := fun hne => hf.1.resolve_right (by simpa using hne)
      exact .spot p b off cs cv (fun hne => hof _ (hok1 hne) (hp (hp' hne) hne)) (fun hp1 hne => hfr _ (hok1 hne) (hp hp1 hne)) hc (fun j hj => ih _ _ (hr' j hj) (List.all_eq_true.1 hf.2 _ (List.getElem_mem hj)))
    | agg cs vs hs hr' => exact .agg _ _ hs (fun j hj => ih _ _ (hr' j hj) (List.all_eq_true.1 (by simpa [allFresh] using hf) _ (List.getElem_mem hj)))
    | tuple cs vs hs hr' => exact .tuple _ _ hs (fun j hj => ih _ _ (hr' j hj) (List.all_eq_true.1 (by simpa [allFresh] using hf) _ (List.getElem_mem hj)))
    | func fn fs cs fv cv hfs hcs hf1 hc =>
      simp only [allFresh, Bool.and_eq_true] at hf
      exact .func _ _ _ _ _ hfs hcs (fun j hj => ih _ _ (hf1 j hj) (List.all_eq_true.1 hf.1 _ (List.getElem_mem hj))) (fun j hj => ih _ _ (hc j hj) (List.all_eq_true.1 hf.2 _ (List.getElem_mem hj)))
    | ref => cases hf
    | ptr => cases hf
    | part => cases hf
def CallOk (P : Program) (fv : AVal) (avs : List AVal) (h : List AObj) (res : AVal) : Prop :=
  ∃ f fs cs n, fv = .func (.func f) fs cs ∧ Contract P f ((fs ++ avs ++ cs).map (argOf h n)) res ∧ (allFresh n res = true ∨ (fs ++ avs ++ cs).all (noRef n) = true)
theorem func_enter {f : FuncId} (hcall : callable P f = true) (fv avv cv : Array Value) (w : World) : (do let d ← Deferred.ofValue (.func (.func f) fv cv) avv; invoke d.target d.args : Sem Next).run P w = .ok (.enter f (fv ++ avv ++ cv)) w := by
  unfold callable at hcall
  split at hcall
  · rename_i fn hfn
    simp only [Bool.and_eq_true, Bool.not_eq_true', beq_eq_false_iff_ne] at hcall
    obtain ⟨c1, c2⟩ := hcall
    obtain ⟨bd, c3⟩ := Option.isSome_iff_exists.1 c2
    simp [Deferred.ofValue, invoke, callFunc, hfn, c1, c3]
  · cases hcall
theorem args_rel {fs avs cs : List AVal} {fv avv cv : Array Value} (hf : AR W0 ok0 β h w fs fv) (ha : AR W0 ok0 β h w avs avv) (hc : AR W0 ok0 β h w cs cv) : AR W0 ok0 β h w (fs ++ avs ++ cs) (fv ++ avv ++ cv) := by
  obtain ⟨hfs, hf⟩ := hf
  obtain ⟨hcs, hc⟩ := hc
  refine ⟨by simp [hfs, hcs, ha.1], fun j hj => ?_⟩
  simp only [List.length_append] at hj
  have hsz := ha.1
  rcases Nat.lt_or_ge j fs.length with h1 | h1
  · have := hf j h1
    have e1 : j < fv.size := by omega
    simpa [VR, List.getElem_append, Array.getElem_append, h1, e1, List.append_assoc, Nat.lt_add_right] using this
  · rcases Nat.lt_or_ge j (fs.length + avs.length) with h2 | h2
    · have := ha.2 (j - fs.length) (by omega)
      have e1 : (fs ++ avs ++ cs)[j]'(by simp; omega) = avs[j - fs.length]'(by omega) := by
        rw [List.getElem_append_left (by simp; omega), List.getElem_append_right (by omega)]
      have e2 : (fv ++ avv ++ cv).getD j undef = avv.getD (j - fs.length) undef := by
        simp only [Array.getD_eq_getD_getElem?]
        rw [Array.getElem?_append_left (by simp; omega), Array.getElem?_append_right (by omega), hfs]
      rw [e1, e2]; exact this
    · have := hc (j - (fs.length + avs.length)) (by omega)
      have e1 : (fs ++ avs ++ cs)[j]'(by simp; omega) = cs[j - (fs.length + avs.length)]'(by omega) := by
        rw [List.getElem_append_right (by simp; omega)]; simp
      have e2 : (fv ++ avv ++ cv).getD j undef = cv.getD (j - (fs.length + avs.length)) undef := by
        simp only [Array.getD_eq_getD_getElem?]
        rw [Array.getElem?_append_right (by simp; omega)]
        simp [hfs, hsz]
      rw [e1, e2]; exact this
theorem callOk_rel (hr : HR W0 ok0 A β h w) {h1 : List AObj} (hpre : Pre h1 h) {fv res : AVal} {avs : List AVal} {fvv : Value} {avv : Array Value} (hc : CallOk P fv avs h1 res) (hf : VR W0 ok0 β h w fv fvv) (ha : AR W0 ok0 β h w avs avv) :
    ∃ f vs, (∀ w, (do let d ← Deferred.ofValue fvv avv; invoke d.target d.args : Sem Next).run P w = .ok (.enter f vs) w) ∧
      Calls P f vs w (fun e w' => ∃ v, e = .returned v ∧ Step W0 ok0 A β h w β h w' ∧ VR W0 ok0 β h w' res v) := by
  obtain ⟨f, fs, cs, n, rfl, ⟨hcall, hcon⟩, hfresh⟩ := hc
  cases hf with
  | func fn _ _ fv cv hfs hcs hf hc =>
  refine ⟨f, fv ++ avv ++ cv, func_enter hcall fv avv cv, ?_⟩
  have hsize : ∀ i, live h i → (β i).1 < w.heap.size := fun i hi => hr.lt hi
  have hargs := (args_rel ⟨hfs, hf⟩ ha ⟨hcs, hc⟩).2
  have hvs : (fv ++ avv ++ cv).size = ((fs ++ avs ++ cs).map (argOf h1 n)).length := by simp [hfs, hcs, ha.1]
  rcases hfresh with hfresh | hfresh
  · refine (hcon w (fun b => b < w.heap.size) (fv ++ avv ++ cv) (fun b hb => hb) (fun p hp => ⟨(hr.tab p hp).1.1, (hr.tab p hp).2⟩) hvs (fun j hj => ?_)).mono ?_
    · have hj' : j < (fs ++ avs ++ cs).length := by simpa using hj
      simp only [List.getElem_map]
      exact argOf_rel hr hpre (fun b hb => hb.1) n _ _ (hargs j hj') (.inr hsize)
    · rintro e w' ⟨v, rfl, hv, hb⟩
      have hst := step_world hr hb
      refine ⟨v, rfl, hst, allFresh_rel (fun b hb1 hb2 => ?_) (fun b hb1 hb2 => ?_) n _ _ hv hfresh⟩
      · have hlt : b < w'.heap.size := by
          rcases hb1 with h1 | h1
          · have := hb.size; omega
          · exact h1.2
        exact ⟨hlt, fun i hi => by have := hsize i hi.live; omega, .inl (by have := hr.wsize; omega)⟩
      · have := hr.wsize; omega
  · refine (hcon w (okIn W0 ok0 w β h) (fv ++ avv ++ cv) (fun b hb => hb.1) hr.tab hvs (fun j hj => ?_)).mono ?_
    · have hj' : j < (fs ++ avs ++ cs).length := by simpa using hj
      simp only [List.getElem_map]
      exact argOf_rel hr hpre (fun b hb => hb) n _ _ (hargs j hj') (.inl (List.all_eq_true.1 hfresh _ (List.getElem_mem hj')))
    · rintro e w' ⟨v, rfl, hv, hb⟩
      have hst := step_world hr hb
      have hsz := hb.size
      refine ⟨v, rfl, hst, VRel.mono (fun b hb1 => ?_) (fun b hb1 hb2 => ?_) (fun b hb1 => rfl) (fun id l hl => by cases hl) hv⟩
      · rcases hb1 with h1 | h1
        · exact ⟨by have := h1.1; omega, h1.2.1, h1.2.2⟩
        · exact ⟨h1.2, fun i hi => by have := hsize i hi.live; omega, .inl (by have := hr.wsize; omega)⟩
      · have := hr.wsize; omega
def SpecTo (P : Program) (f : FuncId) (args : List AVal) (h : List AObj) (res : AVal) (h' : List AObj) : Prop :=
  callable P f = true ∧ ∀ (W0 : World) (ok0 A : Nat → Prop) (β : Nat → Nat × Nat) (w : World) (vs : Array Value), HR W0 ok0 A β h w → AR W0 ok0 β h w args vs →
    Calls P f vs w (fun e w' => ∃ v β', e = .returned v ∧ Step W0 ok0 A β h w β' h' w' ∧ VR W0 ok0 β' h' w' res v)
def CallTo (P : Program) (fv : AVal) (avs : List AVal) (h : List AObj) (res : AVal) (h' : List AObj) : Prop :=
  ∃ f fs cs, fv = .func (.func f) fs cs ∧ SpecTo P f (fs ++ avs ++ cs) h res h'
theorem callTo_rel (hr : HR W0 ok0 A β h w) {fv res : AVal} {avs : List AVal} {h' : List AObj} {fvv : Value} {avv : Array Value} (hc : CallTo P fv avs h res h') (hf : VR W0 ok0 β h w fv fvv) (ha : AR W0 ok0 β h w avs avv) :
    ∃ f vs, (∀ w, (do let d ← Deferred.ofValue fvv avv; invoke d.target d.args : Sem Next).run P w = .ok (.enter f vs) w) ∧
      Calls P f vs w (fun e w' => ∃ v β', e = .returned v ∧ Step W0 ok0 A β h w β' h' w' ∧ VR W0 ok0 β' h' w' res v) := by
  obtain ⟨f, fs, cs, rfl, hcall, hspec⟩ := hc
  cases hf with
  | func fn _ _ fv cv hfs hcs hf hc =>
  exact ⟨f, fv ++ avv ++ cv, func_enter hcall fv avv cv, hspec W0 ok0 A β w _ hr (args_rel ⟨hfs, hf⟩ ha ⟨hcs, hc⟩)⟩
end
end Go.AW
namespace Go.AW
open Go Go.RowKit
abbrev Fd (r : Option Nat) : Fence := { Fence.wide with round := r }
theorem calls_fd {P : Program} {f : FuncId} {vs : Array Value} {w : World} {R : Ending → World → Prop} (r : Option Nat) (n : Nat) (h : Calls P f vs w R) : CallsIn (Fd r) n P f vs w R :=
  (callsIn_wide (n := n)).2 h
def noDefer : Op → Bool
  | .defer _ => false
  | _ => true
theorem semAt_fd {o : Oper} (hnd : noDefer o.op = true) (r : Option Nat) (ρ : Operand → Value) : o.semAt r ρ = execOp ρ o := by
  cases r with
  | none => exact Oper.semAt_none _ _
  | some l =>
    unfold Oper.semAt
    split
    · rename_i h1 h2; rw [h2] at hnd; cases hnd
    · rfl
theorem wpIn_of_wp {P : Program} {o : Oper} {a : Act} {w : World} {next : Act → World → Prop} {Q : Exit → Act → World → Prop} (r : Option Nat) (n : Nat) (hnd : noDefer o.op = true) (h : o.wp P a w next Q) : o.wpIn (Fd r) n P a w next Q := by
  refine ⟨fun _ _ => trivial, ?_⟩
  rw [semAt_fd hnd]
  unfold Oper.wp at h
  cases hx : (execOp a.eval o).run P w with
  | halt x w' =>
    rw [hx] at h
    cases x <;> first | exact h | exact h.elim
  | ok x w' =>
    rw [hx] at h
    cases x with
    | value v => exact h
    | skip => exact h
    | defer d => exact h
    | enter f args => exact ⟨(fun hd => by cases hd), calls_fd r _ h⟩
    | row row args =>
      refine ⟨(fun hd => by cases hd), fun c cs _ => ?_⟩
      obtain ⟨v, w'', g1, g2⟩ := h c cs
      exact ⟨v, w'', g1, stepsIn_wide.2 g2⟩
    | _ => exact h.elim
theorem cell_putObj {w : World} {D : Nat} {o o' : Obj} (hold : w.heap[D]? = some o) (hnc : ∀ c t f, o ≠ .cells c t f) {a : Addr} {v : Value} (h : w.cell? a = some v) : (w.putObj D o').cell? a = some v := by
  by_cases hb : a.block = D
  · exfalso
    unfold World.cell? at h
    rw [hb, hold] at h
    cases o with
    | cells c t f => exact hnc c t f rfl
    | _ => simp at h
  · unfold World.cell? at h ⊢
    rw [World.putObj_heap_other hb]; exact h
theorem VRel.mono_cell {ok fr : Nat → Prop} {w w' : World} {β : Nat → Nat × Nat} {len : Nat → Option Nat} (hcell : ∀ a v, w.cell? a = some v → w'.cell? a = some v)
    {x : AVal} {v : Value} (h : VRel ok fr w β len x v) : VRel ok fr w' β len x v := by
  induction h with
  | undef v => exact .undef _
  | val v => exact .val _
  | cap0 b a h hs => exact .cap0 b a h hs
  | res k => exact .res k
  | lit b off n cs cv hok1 hp hc hr ih => exact .lit b off n cs cv hok1 hp (fun j hj => hcell _ _ (hc j hj)) ih
  | nil p => exact .nil p
  | list p b off n cap cs cv hok1 hp hn hc hr ih => exact .list p b off n cap cs cv hok1 hp hn (fun j hj => hcell _ _ (hc j hj)) ih
  | spot p b off cs cv hok1 hp hc hr ih => exact .spot p b off cs cv hok1 hp (fun j hj => hcell _ _ (hc j hj)) ih
  | agg cs vs hs hr ih => exact .agg cs vs hs ih
  | tuple cs vs hs hr ih => exact .tuple cs vs hs ih
  | func fn fs cs fv cv hfs hcs hf hc ihf ihc => exact .func fn fs cs fv cv hfs hcs ihf ihc
  | ref id off n ext l cap a hl he hn ha live => exact .ref id off n ext l cap a hl he hn ha live
  | ptr id off ext l a hl he live => exact .ptr id off ext l a hl he live
  | part id off n ext l cap a hl he hn live => exact .part id off n ext l cap a hl he hn live
section
variable {P : Program} {W0 : World} {ok0 A : Nat → Prop} {β : Nat → Nat × Nat} {h : List AObj} {w : World}
theorem okIn_putObj {D : Nat} {o : Obj} {b : Nat} : okIn W0 ok0 (w.putObj D o) β h b ↔ okIn W0 ok0 w β h b := by
  unfold okIn; rw [World.putObj_size]
theorem vr_obj {D : Nat} {o o' : Obj} (hold : w.heap[D]? = some o) (hnc : ∀ c t f, o ≠ .cells c t f) {x : AVal} {v : Value} (hx : VR W0 ok0 β h w x v) : VR W0 ok0 β h (w.putObj D o') x v := by
  have h1 := VRel.mono_cell (w' := w.putObj D o') (fun a v => cell_putObj hold hnc) hx
  exact VRel.mono (fun b hb => okIn_putObj.2 hb) (fun _ _ h => h) (fun _ _ => rfl) (fun id l hl => ⟨l, hl, Nat.le_refl _, fun _ => rfl⟩) h1
theorem hr_obj (hr : HR W0 ok0 A β h w) {D : Nat} {o o' : Obj} (hold : w.heap[D]? = some o) (hnc : ∀ c t f, o ≠ .cells c t f) (hD : D < W0.heap.size → A D ∨ some o' = W0.heap[D]?) : HR W0 ok0 A β h (w.putObj D o') := by
  refine ⟨fun i ob hi hes => ?_, hr.inj, hr.own, hr.os, hr.tape, hr.output, by rw [World.putObj_size]; exact hr.wsize, fun k hk hA => ?_, fun p hp => ⟨okIn_putObj.2 (hr.tab p hp).1, fun j hj => cell_putObj hold hnc ((hr.tab p hp).2 j hj)⟩⟩
  · obtain ⟨cur, c1, c2, c3, c4, c5, c6⟩ := hr.heap i ob hi hes
    have hne : (β i).1 ≠ D := by
      rintro rfl
      obtain ⟨ty, fz, h1, _⟩ := c1
      rw [hold] at h1
      exact hnc _ _ _ (Option.some.inj h1)
    exact ⟨cur, c1.mono (World.putObj_heap_other hne), c2, c3, c4, c5, fun j hj => vr_obj hold hnc (c6 j hj)⟩
  · by_cases hkD : k = D
    · subst hkD
      rcases hD hk with h1 | h1
      · exact absurd h1 hA
      · rw [World.putObj_heap_same (by have := hr.wsize; omega), h1]
    · rw [World.putObj_heap_other hkD]; exact hr.block k hk hA
end
end Go.AW
namespace Go.AW
open Go Go.RowKit
section
variable {P : Program} {W0 : World} {ok0 A : Nat → Prop} {β β' : Nat → Nat × Nat} {H : List AObj} {w w' : World} {o o0 : AObj} {k : Nat}
end
theorem VRel.both {ok fr ok2 fr2 : Nat → Prop} {w w2 : World} {β β2 : Nat → Nat × Nat} {len len2 : Nat → Option Nat} {x : AVal} {v : Value} (h : VRel ok fr w β len x v) :
    ∀ {u : Value}, VRel ok2 fr2 w2 β2 len2 x u → VRel ok fr w β (fun id => if (len2 id).isSome = true then len id else none) x v := by
  induction h with
  | undef v => intro _ _; exact .undef _
  | val v => intro _ _; exact .val _
  | cap0 b a h hs => intro _ _; exact .cap0 b a h hs
  | res k => intro _ _; exact .res k
  | lit b off n cs cv hok1 hp hc hr ih =>
    intro u hu
    cases hu with
    | lit _ _ _ _ cv2 _ _ _ hr2 => exact .lit b off n cs cv hok1 hp hc fun j hj => ih j hj (hr2 j hj)
  | nil p => intro _ _; exact .nil p
  | list p b off n cap cs cv hok1 hp hn hc hr ih =>
    intro u hu
    cases hu with
    | list _ _ _ _ _ _ cv2 _ _ _ _ hr2 => exact .list p b off n cap cs cv hok1 hp hn hc fun j hj => ih j hj (hr2 j hj)
  | spot p b off cs cv hok1 hp hc hr ih =>
    intro u hu
    cases hu with
    | spot _ _ _ _ cv2 _ _ _ hr2 => exact .spot p b off cs cv hok1 hp hc fun j hj => ih j hj (hr2 j hj)
  | agg cs vs hs hr ih =>
    intro u hu
    cases hu with
    | agg _ vs2 _ hr2 => exact .agg cs vs hs fun j hj => ih j hj (hr2 j hj)
  | tuple cs vs hs hr ih =>
    intro u hu
    cases hu with
    | tuple _ vs2 _ hr2 => exact .tuple cs vs hs fun j hj => ih j hj (hr2 j hj)
  | func fn fs cs fv cv hfs hcs hf hc ihf ihc =>
    intro u hu
    cases hu with
    | func _ _ _ fv2 cv2 _ _ hf2 hc2 => exact .func fn fs cs fv cv hfs hcs (fun j hj => ihf j hj (hf2 j hj)) fun j hj => ihc j hj (hc2 j hj)
  | ref id off n ext l cap a hl he hn ha live =>
    intro u hu
    cases hu with
    | ref _ _ _ _ l2 _ _ hl2 _ _ _ _ => exact .ref id off n ext l cap a (by simp [hl2, hl]) he hn ha live
  | ptr id off ext l a hl he live =>
    intro u hu
    cases hu with
    | ptr _ _ _ l2 _ hl2 _ _ => exact .ptr id off ext l a (by simp [hl2, hl]) he live
  | part id off n ext l cap a hl he hn live =>
    intro u hu
    cases hu with
    | part _ _ _ _ l2 _ _ hl2 _ _ _ => exact .part id off n ext l cap a (by simp [hl2, hl]) he hn live
section
variable {P : Program} {W0 : World} {ok0 A : Nat → Prop} {β β' : Nat → Nat × Nat} {H : List AObj} {w w' : World} {o o0 : AObj} {k : Nat}
theorem Step.into_hole (hr : HR W0 ok0 A β H w) (hst : Step W0 ok0 A β H w β' (H ++ [o]) w') (hk : H[k]? = some o0) (h0 : o0.es = 0) (hoc : ∀ x ∈ o.cells, ∃ v, x = .val v) :
    Step W0 ok0 A β H w (fun i => if i = k then β' H.length else β' i) (H.set k o) w' := by
  have hkl : k < H.length := (List.getElem?_eq_some_iff.1 hk).1
  have hget : ∀ i oi, (H.set k o)[i]? = some oi → (H ++ [o])[if i = k then H.length else i]? = some oi ∧ i < H.length := by
    intro i oi hi
    have hil : i < H.length := by have := (List.getElem?_eq_some_iff.1 hi).1; simpa using this
    refine ⟨?_, hil⟩
    by_cases h : i = k
    · subst h; rw [List.getElem?_set_self hkl] at hi; simp [← hi]
    · rw [List.getElem?_set_ne (Ne.symm h)] at hi; rw [if_neg h, List.getElem?_append_left hil]; exact hi
  have hlive : ∀ i, live (H.set k o) i → live (H ++ [o]) (if i = k then H.length else i) ∧ i < H.length := fun i ⟨oi, h1, h2⟩ => ⟨⟨oi, (hget i oi h1).1, h2⟩, (hget i oi h1).2⟩
  have hbe : ∀ i, (if i = k then β' H.length else β' i) = β' (if i = k then H.length else i) := fun i => by split <;> rfl
  have hok : ∀ b, okIn W0 ok0 w' β' (H ++ [o]) b → okIn W0 ok0 w' (fun i => if i = k then β' H.length else β' i) (H.set k o) b := fun b hb =>
    ⟨hb.1, fun i ⟨oi, h1, h2, h3⟩ => by simp only [hbe]; exact hb.2.1 _ ⟨oi, (hget i oi h1).1, h2, h3⟩, hb.2.2⟩
  have hmono : ∀ x v u, VR W0 ok0 β H w x u → VR W0 ok0 β' (H ++ [o]) w' x v → VR W0 ok0 (fun i => if i = k then β' H.length else β' i) (H.set k o) w' x v := by
    intro x v u hu hv
    refine VRel.mono hok (fun _ _ h => h) (fun _ _ => rfl) (fun id l hl => ?_) (VRel.both hv hu)
    split at hl
    · rename_i hs
      obtain ⟨l0, hl0⟩ := Option.isSome_iff_exists.1 hs
      obtain ⟨ob, h1, h2, h3⟩ := lens_live hl0
      have hid : id < H.length := (List.getElem?_eq_some_iff.1 h1).1
      have hne : id ≠ k := by rintro rfl; rw [hk] at h1; cases h1; exact h2 h0
      have h4 : lens (H ++ [o]) id = some l0 := by rw [← h3]; exact lens_some (by rw [List.getElem?_append_left hid]; exact h1) h2
      rw [h4] at hl
      refine ⟨l, ?_, Nat.le_refl _, fun _ => by simp [hne]⟩
      rw [← hl, ← h3]
      exact lens_some (by rw [List.getElem?_set_ne (Ne.symm hne)]; exact h1) h2
    · cases hl
  refine ⟨⟨fun i oi hi hes => ?_, fun i j hi hj he => ?_, fun i hi => ?_, hst.hr.os, hst.hr.tape, hst.hr.output, hst.hr.wsize, hst.hr.block, fun p hp => ⟨hok _ (hst.hr.tab p hp).1, (hst.hr.tab p hp).2⟩⟩, fun x v hx => hmono x v v hx (hst.vr x v hx), by simp, fun b hb => ⟨hok b (hst.ok b hb).1, (hst.ok b hb).2⟩, hst.sz⟩
  · obtain ⟨cur, c1, c2, c3, c4, c5, c6⟩ := hst.hr.heap _ oi (hget i oi hi).1 hes
    refine ⟨cur, by simp only [hbe]; exact c1, by simp only [hbe]; exact c2, by simp only [hbe]; exact c3, c4, c5, fun j hj => ?_⟩
    by_cases h : i = k
    · subst h
      rw [List.getElem?_set_self hkl] at hi
      cases hi
      obtain ⟨v, hv⟩ := hoc _ (List.getElem_mem hj)
      have := c6 j hj
      rw [hv] at this ⊢
      generalize (cur.toList.take o.cells.length).getD j undef = q at this
      cases this
      exact .val _
    · rw [List.getElem?_set_ne (Ne.symm h)] at hi
      obtain ⟨cur0, _, _, _, _, _, b6⟩ := hr.heap i oi hi hes
      exact hmono _ _ _ (b6 j hj) (c6 j hj)
  · have h1 := hlive i hi
    have h2 := hlive j hj
    simp only [hbe] at he
    have := hst.hr.inj _ _ h1.1 h2.1 he
    have g1 := h1.2
    have g2 := h2.2
    split at this <;> split at this <;> omega
  · have h1 := hlive i hi
    simp only [hbe]
    exact hst.hr.own _ h1.1
theorem ref_into_hole (hk : k < H.length) (hes : o.es ≠ 0) {off n ext : Nat} {u : Value} (h : VR W0 ok0 β' (H ++ [o]) w' (.ref H.length off n ext) u) :
    VR W0 ok0 (fun i => if i = k then β' H.length else β' i) (H.set k o) w' (.ref k off n ext) u := by
  cases h with
  | ref _ _ _ _ l cap a hl he hn ha live =>
    have hl' : lens (H ++ [o]) H.length = some l := hl
    rw [lens_some (o := o) (by simp) hes] at hl'
    have hl2 := Option.some.inj hl'
    subst hl2
    exact .ref _ _ _ _ o.cells.length cap a (lens_some (by rw [List.getElem?_set_self hk]) hes) he hn ha (fun e => by simpa using live e)
end
end Go.AW
