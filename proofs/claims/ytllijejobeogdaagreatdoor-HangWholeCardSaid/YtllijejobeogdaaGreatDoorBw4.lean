/- An abstract machine over the model: what it says of a function's code, the model does. -/
import Derived.Lib.Builder
import Derived.Test.YtllijejobeogdaaGreatDoorBw3
/- A call that makes one object in an empty frame makes it in every frame. -/
namespace Go.AW
open Go Go.RowKit

theorem rn_at_end {W0 : World} {ok0 : Nat → Prop} {W1 : World} {ok1 : Nat → Prop} {β β' : Nat → Nat × Nat} {h : List AObj} {w' : World} {o : AObj} {rn : Nat → AVal} (hrn : Rn rn) (hes : o.es ≠ 0) {u : Value} (hv : VR W1 ok1 β' [o] w' (rn 0) u) :
    VR W0 ok0 (fun i => if i = h.length then β' 0 else β i) (h ++ [o]) w' (rn h.length) u := by
  have key : ∀ off n ext u, VR W1 ok1 β' [o] w' (.ref 0 off n ext) u → VR W0 ok0 (fun i => if i = h.length then β' 0 else β i) (h ++ [o]) w' (.ref h.length off n ext) u := by
    intro off n ext u hv
    cases hv with
    | ref _ _ _ _ l cap a hl he hn ha live =>
      have hl' : lens [o] 0 = some l := hl
      rw [lens_some (o := o) (by simp) hes] at hl'
      obtain rfl := Option.some.inj hl'
      exact .ref _ _ _ _ o.cells.length cap a (lens_some (by simp) hes) he hn ha (fun e => by simpa using live e)
  cases hrn with
  | ref off n ext => exact key _ _ _ _ hv
  | agg a b off n ext =>
    cases hv with
    | agg cs vs hs hr =>
      refine .agg _ vs (by simpa using hs) fun j hj => ?_
      match j, hj with
      | 0, _ => have := hr 0 (by simp); simp only [List.getElem_cons_zero] at this ⊢; generalize vs.getD 0 undef = q at this ⊢; cases this; exact .val _
      | 1, _ => have := hr 1 (by simp); simp only [List.getElem_cons_succ, List.getElem_cons_zero] at this ⊢; generalize vs.getD 1 undef = q at this ⊢; cases this; exact .val _
      | 2, _ => exact key _ _ _ _ (hr 2 (by simp))

theorem SpecTo.lift {P : Program} {f : FuncId} {args : List AVal} {rn : Nat → AVal} {o : AObj} {n : Nat} {h0 : List AObj} (hs : SpecTo P f (args.map (argOf h0 n)) [] (rn 0) [o]) (hes : o.es ≠ 0) (hoc : ∀ x ∈ o.cells, ∃ u, x = .val u) (hnr : args.all (noRef n) = true) (hrn : Rn rn) (h2 : List AObj) :
    SpecTo P f args h2 (rn h2.length) (h2 ++ [o]) := by
  refine ⟨hs.1, fun W0 ok0 A β w vs hr har => ?_⟩
  have hr0 : HR w (okIn W0 ok0 w β h2) (fun _ => False) (fun _ => (0, 0)) [] w := ⟨fun i o hi => by simp at hi, fun i j hi => by have := live_lt hi; simp at this, fun i hi => by have := live_lt hi; simp at this, rfl, rfl, rfl, Nat.le_refl _, fun _ _ _ => rfl, fun p hp => ⟨⟨(hr.tab p hp).1.1, fun i hi => by have := live_lt hi.live; simp at this, .inr (hr.tab p hp).1⟩, (hr.tab p hp).2⟩⟩
  refine (hs.2 w (okIn W0 ok0 w β h2) (fun _ => False) (fun _ => (0, 0)) w vs hr0 ⟨by simp [har.1], fun j hj => ?_⟩).mono ?_
  · have hj' : j < args.length := by simpa using hj
    have hn := List.all_eq_true.1 hnr _ (List.getElem_mem hj')
    simp only [List.getElem_map]
    rw [argOf_noRef n _ hn n h0 h2]
    exact argOf_rel hr (Pre.refl h2) (fun b hb => ⟨hb.1, fun i hi => by have := live_lt hi.live; simp at this, .inr hb⟩) n _ _ (har.2 j hj') (.inl hn)
  · rintro e w' ⟨v, β', rfl, hst, hv⟩
    have hlo : live [o] 0 := ⟨o, by simp, hes⟩
    have hge : w.heap.size ≤ (β' 0).1 := hst.hr.own 0 hlo
    have hsz : w.heap.size ≤ w'.heap.size := hst.hr.wsize
    have hblk : ∀ k, k < w.heap.size → w'.heap[k]? = w.heap[k]? := fun k hk => hst.hr.block k hk id
    have hget : ∀ i oi, (h2 ++ [o])[i]? = some oi → (i < h2.length ∧ h2[i]? = some oi) ∨ (i = h2.length ∧ oi = o) := by
      intro i oi hi
      rcases Nat.lt_or_ge i h2.length with h1 | h1
      · rw [List.getElem?_append_left h1] at hi; exact .inl ⟨h1, hi⟩
      · rw [List.getElem?_append_right h1] at hi
        have : i - h2.length = 0 := by
          have := (List.getElem?_eq_some_iff.1 hi).1
          simp at this; omega
        rw [this] at hi
        simp at hi
        exact .inr ⟨by omega, hi.symm⟩
    have hok : ∀ b, okIn W0 ok0 w β h2 b → okIn W0 ok0 w' (fun i => if i = h2.length then β' 0 else β i) (h2 ++ [o]) b := by
      intro b hb
      refine ⟨by have := hb.1; omega, ?_, hb.2.2⟩
      rintro i ⟨oi, hi, hes', hz⟩
      rcases hget i oi hi with ⟨h1, h3⟩ | ⟨rfl, rfl⟩
      · simp only [if_neg (show i ≠ h2.length by omega)]
        exact hb.2.1 i ⟨oi, h3, hes', hz⟩
      · simp only [if_true]
        have := hb.1; omega
    have hcell : ∀ b, okIn W0 ok0 w β h2 b → w'.heap[b]? = w.heap[b]? := fun b hb => hblk b hb.1
    have hlen : ∀ id l, lens h2 id = some l → ∃ l', lens (h2 ++ [o]) id = some l' ∧ l ≤ l' ∧ (l = l' → (if id = h2.length then β' 0 else β id) = β id) := by
      intro id l hl
      obtain ⟨oi, h1, h3, rfl⟩ := lens_live hl
      have hid := (List.getElem?_eq_some_iff.1 h1).1
      exact ⟨_, lens_some (by rw [List.getElem?_append_left hid]; exact h1) h3, Nat.le_refl _, fun _ => by rw [if_neg (by omega)]⟩
    have hmono : ∀ x v, VR W0 ok0 β h2 w x v → VR W0 ok0 (fun i => if i = h2.length then β' 0 else β i) (h2 ++ [o]) w' x v := fun x v hx => VRel.mono hok (fun _ _ h => h) hcell hlen hx
    have hws := hr.wsize
    refine ⟨v, _, rfl, ⟨⟨fun i oi hi hes' => ?_, fun i j hi hj he => ?_, fun i hi => ?_, hst.hr.os.trans hr.os, hst.hr.tape.trans hr.tape, hst.hr.output.trans hr.output, Nat.le_trans hws hsz, fun k hk hA => by rw [hblk k (by omega)]; exact hr.block k hk hA, fun p hp => ⟨hok _ (hr.tab p hp).1, (hr.tab p hp).2.mono (hcell _ (hr.tab p hp).1)⟩⟩, hmono, by simp, fun b hb => ⟨hok b hb, hcell b hb⟩, hsz⟩, rn_at_end hrn hes hv⟩
    · rcases hget i oi hi with ⟨h1, h3⟩ | ⟨rfl, rfl⟩
      · obtain ⟨c, c1, c2, c3, c4, c5⟩ := hr.heap i oi h3 hes'
        have hne : i ≠ h2.length := by omega
        exact ⟨c, by simp only [if_neg hne]; exact c1.mono (hblk _ (hr.lt ⟨oi, h3, hes'⟩)), by simp only [if_neg hne]; exact c2, by simp only [if_neg hne]; exact c3, c4, CRel.mono hok (fun _ _ h => h) hcell hlen c5⟩
      · obtain ⟨c, c1, c2, c3, c4, c5⟩ := hst.hr.heap 0 oi (by simp) hes'
        refine ⟨c, by simpa using c1, by simpa using c2, by simpa using c3, c4, c5.1, fun j hj => ?_⟩
        obtain ⟨u, hu⟩ := hoc _ (List.getElem_mem hj)
        have := c5.2 j hj
        rw [hu] at this ⊢
        generalize (c.toList.take oi.cells.length).getD j undef = q at this ⊢
        cases this; exact .val _
    · obtain ⟨oi, hi, hesi⟩ := hi
      obtain ⟨oj, hj, hesj⟩ := hj
      rcases hget i oi hi with ⟨h1, h3⟩ | ⟨rfl, rfl⟩ <;> rcases hget j oj hj with ⟨h4, h5⟩ | ⟨rfl, rfl⟩
      · simp only [if_neg (show i ≠ h2.length by omega), if_neg (show j ≠ h2.length by omega)] at he
        exact hr.inj i j ⟨oi, h3, hesi⟩ ⟨oj, h5, hesj⟩ he
      · simp only [if_neg (show i ≠ h2.length by omega), if_true] at he
        have := hr.lt ⟨oi, h3, hesi⟩; omega
      · simp only [if_neg (show j ≠ h2.length by omega), if_true] at he
        have := hr.lt ⟨oj, h5, hesj⟩; omega
      · rfl
    · obtain ⟨oi, hi, hesi⟩ := hi
      rcases hget i oi hi with ⟨h1, h3⟩ | ⟨rfl, rfl⟩
      · simp only [if_neg (show i ≠ h2.length by omega)]; exact hr.own i ⟨oi, h3, hesi⟩
      · simp only [if_true]; omega

/-- Such a call, by what it does in an empty frame. -/
theorem MkTo.of {P : Program} {f : FuncId} {fs cs avs : List AVal} {rn : Nat → AVal} {o : AObj} {n : Nat} {h : List AObj} (hs : SpecTo P f ((fs ++ avs ++ cs).map (argOf h n)) [] (rn 0) [o]) (hes : o.es ≠ 0) (hoc : ∀ x ∈ o.cells, ∃ u, x = .val u) (hnr : (fs ++ avs ++ cs).all (noRef n) = true) (hrn : Rn rn) :
    MkTo P (.func (.func f) fs cs) avs h (rn h.length) (h ++ [o]) :=
  .inl ⟨o, rn, hes, hoc, hrn, rfl, rfl, fun h2 => ⟨f, fs, cs, rfl, hs.lift hes hoc hnr hrn h2⟩⟩

/-- What a contract says, in a frame. -/
theorem SpecTo.ofContract {P : Program} {f : FuncId} {args : List AVal} {res : AVal} {h : List AObj} {n : Nat} (hcon : Contract P f (args.map (argOf h n)) res) (hfr : allFresh n res = true ∨ args.all (noRef n) = true) : SpecTo P f args h res h := by
  refine ⟨hcon.1, fun W0 ok0 A β w vs hr har => ?_⟩
  obtain ⟨f', vs', h1, h2⟩ := callOk_rel hr (Pre.refl h) (fv := .func (.func f) [] []) (avs := args) ⟨f, [], [], n, rfl, by simpa using hcon, by simpa using hfr⟩ (.func (.func f) [] [] #[] #[] rfl rfl (fun j hj => by simp at hj) (fun j hj => by simp at hj)) har
  have h3 := h1 w
  rw [func_enter hcon.1] at h3
  simp at h3
  obtain ⟨rfl, rfl⟩ := h3
  exact h2.mono fun e w' ⟨v, he, hst, hv⟩ => ⟨v, β, he, hst, hv⟩

/-- A maker's call that makes none. -/
theorem MkTo.none {P : Program} {f : FuncId} {fs cs avs : List AVal} {v : AVal} {n : Nat} {h : List AObj} (hc : Contract P f ((fs ++ avs ++ cs).map (argOf h n)) v) (hnr : (fs ++ avs ++ cs).all (noRef n) = true) : MkTo P (.func (.func f) fs cs) avs h v (h ++ [⟨0, 0, []⟩]) := by
  refine .inr ⟨rfl, fun h2 => ⟨f, fs, cs, rfl, SpecTo.ofContract (n := n) ?_ (.inr hnr)⟩⟩
  have e : (fs ++ avs ++ cs).map (argOf h2 n) = (fs ++ avs ++ cs).map (argOf h n) := List.map_congr_left fun y hy => argOf_noRef _ _ (List.all_eq_true.1 hnr y hy) _ _ _
  rw [e]; exact hc

/-- The form of a value with one reference, to object 0. -/
def unRn : AVal → Option (Nat → AVal)
  | .ref 0 off n ext => some fun k => .ref k off n ext
  | .agg [.val a, .val b, .ref 0 off n ext] => some fun k => .agg [.val a, .val b, .ref k off n ext]
  | _ => none
theorem unRn_ok {x : AVal} {rn : Nat → AVal} (h : unRn x = some rn) : Rn rn ∧ x = rn 0 := by
  unfold unRn at h
  split at h
  · cases h; exact ⟨.ref _ _ _, rfl⟩
  · cases h; exact ⟨.agg _ _ _ _ _, rfl⟩
  · cases h
def allVal : List AVal → Bool
  | [] => true
  | .val _ :: r => allVal r
  | _ => false
theorem allVal_ok : ∀ (l : List AVal), allVal l = true → ∀ x ∈ l, ∃ u, x = .val u
  | [], _, x, hx => by simp at hx
  | .val v :: r, h, x, hx => by
    rcases List.mem_cons.1 hx with rfl | hx
    · exact ⟨v, rfl⟩
    · exact allVal_ok r h x hx
  | .undef :: r, h, _, _ => by cases h
  | .cap0 _ :: r, h, _, _ => by cases h
  | .res _ :: r, h, _, _ => by cases h
  | .lit .. :: r, h, _, _ => by cases h
  | .list .. :: r, h, _, _ => by cases h
  | .spot .. :: r, h, _, _ => by cases h
  | .agg _ :: r, h, _, _ => by cases h
  | .tuple _ :: r, h, _, _ => by cases h
  | .func .. :: r, h, _, _ => by cases h
  | .ref .. :: r, h, _, _ => by cases h
  | .ptr .. :: r, h, _, _ => by cases h
  | .part .. :: r, h, _, _ => by cases h
end Go.AW

/- What closed code meets besides: strings, addresses held against each other, arrays behind addresses. -/
namespace Go.AW
open Go Go.RowKit

/-- What asks nothing of the world. -/
def static (P : Program) {α : Type} : Sem α → Option α
  | .pure a => some a
  | .program k => static P (k P)
  | .mark _ k => static P k
  | _ => none

theorem static_run {P : Program} {α : Type} (w : World) : ∀ (e : Sem α) (a : α), static P e = some a → e.run P w = .ok a w := by
  intro e
  induction e with
  | pure b => intro a h; simp only [static, Option.some.injEq] at h; subst h; rfl
  | program k ih => intro a h; exact ih P a h
  | mark m k ih => intro a h; exact ih a h
  | _ => intro a h; simp [static] at h

def valOf : AVal → Option Value
  | .val v => some v
  | _ => none
def optVal (ρ : Operand → AVal) : Option Operand → Option (Option Value)
  | none => some none
  | some x => (valOf (ρ x)).map some

def sameB (op : BinOp) (b : Bool) : Option AVal := match op with
  | .eql => some (.val (.bool b))
  | .neq => some (.val (.bool (!b)))
  | _ => none

/-- Addresses held against each other. -/
def aPtrEq (P : Program) (t : TypeId) (op : BinOp) (h : List AObj) (x y : AVal) : Option AVal :=
  match tyI P t with
  | some T => match T.ptr with
    | some e => match tyI P e with
      | some E => match x, y with
        | .val (.pointer none), .val (.pointer none) => sameB op true
        | .ptr id _ ext, .val (.pointer none) => if (cellsAt h id ext).isSome then sameB op false else none
        | .ptr id off ext, .ptr id' off' ext' => if id = id' ∧ off = off' ∧ (cellsAt h id ext).isSome ∧ (cellsAt h id' ext').isSome ∧ E.size ≠ 0 then sameB op true else none
        | _, _ => none
      | none => none
    | none => none
  | none => none

/-- An address seen as another. -/
def aPtrTo (P : Program) (s d : TypeId) (h : List AObj) (x : AVal) : Option AVal :=
  match tyI P s, tyI P d, x with
  | some S, some D, .ptr id off ext => match h[id]? with
    | some o => if o.cells.length ≠ ext then none else match S.ptr with
      | some e => match tyI P e with
        | some E => if D.isUp = true ∧ E.size ≠ 0 ∧ off < ext then some (.ptr id off ext) else none
        | none => none
      | none => match D.ptr with
        | some u => if S.isUp = true ∧ o.ty = u ∧ o.ty ≠ FZ ∧ off = 0 ∧ P.cellsOf u ≠ 0 ∧ P.cellsOf u ≤ ext ∧ (P.info? u).isSome then some (.ptr id off ext) else none
        | none => none
    | none => none
  | _, _, _ => none

/-- A cell of an array behind an address. -/
def aArrAt (P : Program) (t : TypeId) (h : List AObj) (x i : AVal) : Option AVal :=
  match tyI P t, i with
  | some T, .val (.int _ k) => match T.arr with
    | some (n, e) => match tyI P e with
      | some E => if 0 ≤ k ∧ k < n then match x with
        | .ptr id off ext => if (cellsAt h id ext).isSome then some (.ptr id (off + k.toNat * E.size) ext) else none
        | .spot p cs => some (.spot p (cs.drop (k.toNat * E.size)))
        | _ => none
        else none
      | none => none
    | none => none
  | _, _ => none

/-- A row cut to nothing keeps its object. -/
def aPop (P : Program) (t : TypeId) (h : List AObj) (x : AVal) (lo hi mx : Option AVal) : Option AVal := match lo, hi, mx, x with
  | none, some (.val (.int _ z)), none, .ref id 0 n ext => match tyI P t with
    | some T => match T.elem with
      | some e => if z = 0 ∧ n ≠ 0 ∧ (cellsAt h id ext).isSome = true ∧ (tyI P e).isSome = true then some (.ref id 0 0 ext) else none
      | none => none
    | none => none
  | _, _, _, _ => none
def isPop (ρ : Operand → AVal) : Op → Bool
  | .slice _ x none (some hi) none => match ρ x, ρ hi with
    | .ref _ 0 (_ + 1) _, .val (.int _ z) => decide (z = 0)
    | _, _ => false
  | _ => false

/-- What operations in the order of the text do besides. -/
def aMore (P : Program) (o : Oper) (ρ : Operand → AVal) (h : List AObj) : Option AVal :=
  match o.op with
  | .binOp op t x y _ => match ρ x, ρ y with
    | .val (.string a), .val (.string b) => (static P (Op.stringOp op a b)).map .val
    | x, y => aPtrEq P t op h x y
  | .convert s d x => match ρ x with
    | .val (.string a) => (static P (convert s d (.string a))).map .val
    | x => aPtrTo P s d h x
  | .slice t x lo hi mx => match aPop P t h (ρ x) (lo.map ρ) (hi.map ρ) (mx.map ρ) with
    | some r => some r
    | none => match valOf (ρ x), optVal ρ lo, optVal ρ hi, optVal ρ mx with
      | some v, some l, some r, some m => (static P (Instr.sliceAt t v l r m)).map .val
      | _, _, _, _ => none
  | .indexAddr t x i => aArrAt P t h (ρ x) (ρ i)
  | .call { callee := .builtin .len, args, argTypes } => match args.toList.map ρ with
    | [.val v] => (static P (Builtin.len_ argTypes o.type #[v])).map .val
    | _ => none
  | .call { callee := .builtin .cap, args, argTypes } => match args.toList.map ρ with
    | [.val v] => (static P (Builtin.cap_ argTypes o.type #[v])).map .val
    | [.cap0 _] => (static P (Builtin.cap_ argTypes o.type #[.slice none 0 0])).map .val
    | [.list _ true 0 []] => (static P (Builtin.cap_ argTypes o.type #[.slice none 0 0])).map .val
    | _ => none
  | _ => none

section
variable {P : Program} {W0 : World} {ok0 A : Nat → Prop} {β : Nat → Nat × Nat} {h : List AObj} {w : World}

theorem valOf_rel {x : AVal} {u v : Value} (hv : valOf x = some v) (hx : VR W0 ok0 β h w x u) : u = v := by
  unfold valOf at hv
  split at hv
  · cases hv; exact val_eq hx
  · cases hv

theorem optVal_rel {ρ : Operand → AVal} {ρv : Operand → Value} (hρ : ∀ x, VR W0 ok0 β h w (ρ x) (ρv x)) {o : Option Operand} {v : Option Value} (hv : optVal ρ o = some v) : o.map ρv = v := by
  cases o with
  | none => cases hv; rfl
  | some x =>
    obtain ⟨u, hu, rfl⟩ := Option.map_eq_some_iff.1 hv
    simp [valOf_rel hu (hρ x)]

theorem liesAt_one {e : TypeId} (hc : P.cellsOf e ≠ 0) (count : Nat) (hn : 1 ≤ count) : liesAt P P.depth e count 0 e 1 = true := by
  have hd : P.depth = (2 * (P.types.size + Made.depth) + 1) + 1 := rfl
  rw [hd]
  simp only [liesAt, Bool.or_eq_true]
  left
  rw [hd]
  simp [rowAt, hc, hn, sameLayout]

theorem sameB_rel {op : BinOp} {b : Bool} {z : AVal} (hz : sameB op b = some z) : (op = .eql ∧ z = .val (.bool b)) ∨ (op = .neq ∧ z = .val (.bool (!b))) := by
  cases op <;> simp [sameB] at hz <;> simp [← hz]

theorem equalIn_pnn (d : Nat) {t e : TypeId} (hd : P.underlying t = some (.pointer e)) : (Op.equalIn (d + 1) t (.pointer none) (.pointer none)).run P w = .ok true w := by
  simp [Op.equalIn, run_underlying hd]
theorem equalIn_pn (d : Nat) {t e : TypeId} (hd : P.underlying t = some (.pointer e)) (a : Addr) : (Op.equalIn (d + 1) t (.pointer (some a)) (.pointer none)).run P w = .ok false w := by
  simp [Op.equalIn, run_underlying hd]
theorem equal_pnn {t e : TypeId} (hd : P.underlying t = some (.pointer e)) : (Op.equal t (.pointer none) (.pointer none)).run P w = .ok true w := equalIn_pnn 9999 hd
theorem equal_pn {t e : TypeId} (hd : P.underlying t = some (.pointer e)) (a : Addr) : (Op.equal t (.pointer (some a)) (.pointer none)).run P w = .ok false w := equalIn_pn 9999 hd a

theorem aPtrEq_rel {t : TypeId} {op : BinOp} {x y z : AVal} {u v : Value} (hz : aPtrEq P t op h x y = some z) (hx : VR W0 ok0 β h w x u) (hy : VR W0 ok0 β h w y v) :
    (∃ a, u = .pointer a) ∧ ∃ r, (binOp op t u v).run P w = .ok r w ∧ VR W0 ok0 β h w z r := by
  unfold aPtrEq at hz
  split at hz
  · rename_i T hT
    split at hz
    · rename_i e he
      obtain ⟨d, i, z0, hd, hi, hz0, hTT⟩ := tyI_some hT
      have hd' : d = .pointer e := by rw [hTT] at he; cases d <;> simp at he ⊢; exact he
      subst hd'
      split at hz
      · rename_i E hE
        obtain ⟨d2, i2, z2, hd2, hi2, hz2, hEE⟩ := tyI_some hE
        split at hz
        · cases hx; cases hy
          refine ⟨⟨_, rfl⟩, ?_⟩
          rcases sameB_rel hz with ⟨rfl, rfl⟩ | ⟨rfl, rfl⟩
          · exact ⟨.bool true, by simp only [binOp, Sem.run_bind, equal_pnn hd, Result.andThen_ok, Sem.run_pure], .val _⟩
          · exact ⟨.bool false, by simp only [binOp, Sem.run_bind, equal_pnn hd, Result.andThen_ok, Sem.run_pure, Bool.not_true], .val _⟩
        · rename_i id off ext
          split at hz
          · rename_i hs
            obtain ⟨cs, hcs⟩ := Option.isSome_iff_exists.1 hs
            have hu := hx.ptr_live hcs
            subst hu
            cases hy
            refine ⟨⟨_, rfl⟩, ?_⟩
            rcases sameB_rel hz with ⟨rfl, rfl⟩ | ⟨rfl, rfl⟩
            · exact ⟨.bool false, by simp only [binOp, Sem.run_bind, equal_pn hd, Result.andThen_ok, Sem.run_pure], .val _⟩
            · exact ⟨.bool true, by simp only [binOp, Sem.run_bind, equal_pn hd, Result.andThen_ok, Sem.run_pure, Bool.not_false], .val _⟩
          · cases hz
        · rename_i id off ext id' off' ext'
          split at hz
          · rename_i hs
            obtain ⟨rfl, rfl, h1, h2, h3⟩ := hs
            obtain ⟨cs, hcs⟩ := Option.isSome_iff_exists.1 h1
            obtain ⟨cs', hcs'⟩ := Option.isSome_iff_exists.1 h2
            have hu := hx.ptr_live hcs
            have hv := hy.ptr_live hcs'
            subst hu; subst hv
            refine ⟨⟨_, rfl⟩, ?_⟩
            rcases sameB_rel hz with ⟨rfl, rfl⟩ | ⟨rfl, rfl⟩
            · exact ⟨.bool true, run_eql_ptr_same w _ hd hi2, .val _⟩
            · exact ⟨.bool false, Lib.run_neq_ptr_same w _ hd hi2, .val _⟩
          · cases hz
        · cases hz
      · cases hz
    · cases hz
  · cases hz

theorem aPtrTo_rel (hr : HR W0 ok0 A β h w) {s d : TypeId} {x z : AVal} {u : Value} (hz : aPtrTo P s d h x = some z) (hx : VR W0 ok0 β h w x u) :
    ∃ r, (convert s d u).run P w = .ok r w ∧ VR W0 ok0 β h w z r := by
  unfold aPtrTo at hz
  split at hz
  · rename_i S D id off ext hS hD
    split at hz
    · rename_i o ho
      split at hz
      · cases hz
      · rename_i hext
        have hext' : o.cells.length = ext := by simpa using hext
        have hes := hx.ptr_es ho
        have hu := hx.ptr_live (cs := o.cells) (by simp [cellsAt, ho, hext'])
        subst hu
        obtain ⟨cur, ⟨ty, fz, hb, hty⟩, hcs, hmx, hl, hcr⟩ := hr.heap id o ho hes
        have hsh : w.shape? (β id).1 = some (ty, cur.size) := by rw [World.shape?, hb]
        obtain ⟨d1, i1, z1, hd1, hi1, hz1, hSS⟩ := tyI_some hS
        obtain ⟨d2, i2, z2, hd2, hi2, hz2, hDD⟩ := tyI_some hD
        split at hz
        · rename_i e he
          have hd' : d1 = .pointer e := by rw [hSS] at he; cases d1 <;> simp at he ⊢; exact he
          subst hd'
          split at hz
          · rename_i E hE
            split at hz
            · rename_i hc
              obtain ⟨c1, c2, c3⟩ := hc
              cases hz
              have hd' : d2 = .unsafePointer := by rw [hDD] at c1; cases d2 <;> simp at c1 ⊢
              subst hd'
              obtain ⟨d3, i3, z3, hd3, hi3, hz3, hEE⟩ := tyI_some hE
              exact ⟨_, Lib.run_to_unsafe w ⟨(β id).1, off, none⟩ hd1 hd2 hi3 (by rw [hEE] at c2; exact c2) hsh (by simp only; omega), hx⟩
            · cases hz
          · cases hz
        · rename_i he
          split at hz
          · rename_i u hu
            split at hz
            · rename_i hc
              obtain ⟨c1, c2, c3, c4, c5, c6, c7⟩ := hc
              cases hz
              subst c4
              have hd' : d2 = .pointer u := by rw [hDD] at hu; cases d2 <;> simp at hu ⊢; exact hu
              subst hd'
              have hd' : d1 = .unsafePointer := by rw [hSS] at c1; cases d1 <;> simp at c1 ⊢
              subst hd'
              obtain ⟨rfl, _⟩ := hty c3
              obtain ⟨j, hj⟩ := Option.isSome_iff_exists.1 c7
              refine ⟨_, Lib.run_from_unsafe w ⟨(β id).1, 0, none⟩ hd1 hd2 hj hsh ?_, hx⟩
              rw [c2]
              exact liesAt_one c5 _ ((Nat.one_le_div_iff (by omega)).2 (by omega))
            · cases hz
          · cases hz
    · cases hz
  · cases hz

theorem aArrAt_rel {t : TypeId} {x i z : AVal} {u v : Value} (hz : aArrAt P t h x i = some z) (hx : VR W0 ok0 β h w x u) (hi : VR W0 ok0 β h w i v) :
    ∃ r, (Instr.indexAt t u v).run P w = .ok r w ∧ VR W0 ok0 β h w z r := by
  unfold aArrAt at hz
  split at hz
  · rename_i T kk k hT
    cases hi
    split at hz
    · rename_i n e harr
      obtain ⟨d, i, z0, hd, hi, hz0, hTT⟩ := tyI_some hT
      have hd' : d = .array n e := by rw [hTT] at harr; cases d <;> simp at harr ⊢; exact harr
      subst hd'
      split at hz
      · rename_i E hE
        split at hz
        · rename_i hk
          split at hz
          · rename_i id off ext
            split at hz
            · rename_i hs
              cases hz
              obtain ⟨cs, hcs⟩ := Option.isSome_iff_exists.1 hs
              have hu := hx.ptr_live hcs
              subst hu
              obtain ⟨o, ho, rfl, hl⟩ := cellsAt_some hcs
              have hes := hx.ptr_es ho
              refine ⟨.pointer (some ⟨(β id).1, off + k.toNat * E.size, none⟩), ?_, .ptr _ _ _ _ _ (lens_some ho hes) (by omega) (fun _ => rfl)⟩
              simp [Instr.indexAt, asIntOf, run_underlying hd, Instr.sureAddr, hk.1, hk.2, run_sizeOf' hE, Addr.add_lit]
            · cases hz
          · rename_i p cs
            cases hz
            cases hx with
            | spot p b off cs cv hok hp hc hr' =>
              refine ⟨.pointer (some ⟨b, off + k.toNat * E.size, none⟩), ?_, ?_⟩
              · simp [Instr.indexAt, asIntOf, run_underlying hd, Instr.sureAddr, hk.1, hk.2, run_sizeOf' hE, Addr.add_lit]
              · refine .spot _ _ _ _ (fun j => cv (k.toNat * E.size + j)) (fun hne => hok (by rintro rfl; simp at hne)) (fun h1 hne => hp h1 (by rintro rfl; simp at hne)) (fun j hj => ?_) (fun j hj => ?_)
                · rw [Nat.add_assoc]; exact hc _ (by simp at hj; omega)
                · simp only [List.getElem_drop]; exact hr' _ _
          · cases hz
        · cases hz
      · cases hz
    · cases hz
  · cases hz

theorem aPop_rel {t : TypeId} {y x : AVal} {yv : Value} {lo hi mx : Option AVal} {lov hiv mv : Option Value} (hx : aPop P t h y lo hi mx = some x) (hy : VR W0 ok0 β h w y yv) (hlo : optRel W0 ok0 β h w lo lov) (hhi : optRel W0 ok0 β h w hi hiv) (hmx : optRel W0 ok0 β h w mx mv) :
    ∃ v, (Instr.sliceAt t yv lov hiv mv).run P w = .ok v w ∧ VR W0 ok0 β h w x v := by
  unfold aPop at hx
  split at hx
  · rename_i kz z id n ext
    split at hx
    · rename_i T ht
      split at hx
      · rename_i e he
        split at hx
        · rename_i hc
          obtain ⟨c1, c2, c3, c4⟩ := hc
          cases hx
          subst c1
          have hu := elem_slice ht he
          obtain ⟨E, hE⟩ := Option.isSome_iff_exists.1 c4
          obtain ⟨cs, hcs⟩ := Option.isSome_iff_exists.1 c3
          obtain rfl : lov = none := by cases lov with | none => rfl | some _ => exact hlo.elim
          obtain rfl : mv = none := by cases mv with | none => rfl | some _ => exact hmx.elim
          have hy' := hy
          cases hy with
          | ref _ _ _ _ l cap a hl hle hn ha live =>
          obtain ⟨cap', hn', hcap', hv⟩ := hy'.ref_live hcs
          simp only [Value.slice.injEq, true_and] at hv
          obtain ⟨rfl, rfl⟩ := hv
          have hb := run_bounds2 (P := P) (n := n) (cap := cap) (l := 0) (hh := 0) (lo := none) (lov := none) hlo hhi rfl rfl (by omega) (by omega) (by omega) hn'
          have hrun := run_sliceAt' (a := some ⟨(β id).1, 0, none⟩) hu hE hb
          refine ⟨_, hrun, ?_⟩
          have hne : cap ≠ (0 : Int).toNat := by simp; omega
          rw [if_neg hne]
          simp only [Int.toNat_zero, Nat.zero_mul, Nat.sub_zero, Option.map_some, Addr.add_lit, Nat.add_zero]
          exact .ref id 0 0 ext l cap _ hl hle (Nat.zero_le _) ha live
        · cases hx
      · cases hx
    · cases hx
  · cases hx

theorem aMore_rel (hr : HR W0 ok0 A β h w) {o : Oper} {ρ : Operand → AVal} {ρv : Operand → Value} (hρ : ∀ x, VR W0 ok0 β h w (ρ x) (ρv x)) {x : AVal} (hx : aMore P o ρ h = some x) :
    ∃ v, (execOp ρv o).run P w = .ok (.value v) w ∧ VR W0 ok0 β h w x v := by
  obtain ⟨dst, op, type, pos, after, guard⟩ := o
  cases op <;> simp only [aMore] at hx <;> try (cases hx; done)
  case binOp op t y z u =>
    have hy := hρ y
    have hz := hρ z
    split at hx
    · rename_i a b ha hb
      rw [ha] at hy; rw [hb] at hz
      have ey := val_eq hy
      have ez := val_eq hz
      obtain ⟨v, hv, rfl⟩ := Option.map_eq_some_iff.1 hx
      have h1 := static_run w _ _ hv
      refine ⟨v, ?_, .val _⟩
      have h2 : binOp op t (.string a) (.string b) = Op.stringOp op a b := by cases op <;> rfl
      simp [execOp, ey, ez, eqGuard, h2, h1]
    · obtain ⟨⟨a, hu⟩, r, h1, h2⟩ := aPtrEq_rel hx hy hz
      refine ⟨r, ?_, h2⟩
      have hg : (eqGuard op t y z (ρv y) (ρv z)).run P w = .ok () w := by
        rw [hu]; simp [eqGuard]
      simp [execOp, hg, h1]
  case convert s d y =>
    have hy := hρ y
    split at hx
    · rename_i a ha
      rw [ha] at hy
      obtain ⟨v, hv, rfl⟩ := Option.map_eq_some_iff.1 hx
      have h1 := static_run w _ _ hv
      exact ⟨v, by simp [execOp, val_eq hy, h1], .val _⟩
    · obtain ⟨r, h1, h2⟩ := aPtrTo_rel hr hx hy
      exact ⟨r, by simp [execOp, h1], h2⟩
  case slice t y lo hi mx =>
    split at hx
    · rename_i r hp
      cases hx
      obtain ⟨v, h1, h2⟩ := aPop_rel hp (hρ y) (optRel_map hρ lo) (optRel_map hρ hi) (optRel_map hρ mx)
      exact ⟨v, by simp [execOp, h1], h2⟩
    split at hx
    · rename_i v l r m h1 h2 h3 h4
      obtain ⟨u, hu, rfl⟩ := Option.map_eq_some_iff.1 hx
      have h5 := static_run w _ _ hu
      refine ⟨u, ?_, .val _⟩
      simp [execOp, valOf_rel h1 (hρ y), optVal_rel hρ h2, optVal_rel hρ h3, optVal_rel hρ h4, h5]
    · cases hx
  case indexAddr t y i =>
    obtain ⟨r, h1, h2⟩ := aArrAt_rel hx (hρ y) (hρ i)
    exact ⟨r, by simp [execOp, h1], h2⟩
  case call c =>
    obtain ⟨callee, args, argTypes⟩ := c
    cases callee with
    | value f => simp at hx
    | invoke r m => simp at hx
    | builtin b =>
      cases b <;> try (simp at hx; done)
      case len =>
        simp only at hx
        split at hx
        · rename_i v hl
          have hlen : args.toList.length = 1 := by have := congrArg List.length hl; simpa using this
          obtain ⟨a0, ha0⟩ : ∃ a0, args.toList = [a0] := by
            match hal : args.toList, hlen with
            | [a0], _ => exact ⟨a0, rfl⟩
          have harr : args = #[a0] := by rw [← Array.toArray_toList (xs := args), ha0]
          subst harr
          simp at hl
          obtain ⟨u, hu, rfl⟩ := Option.map_eq_some_iff.1 hx
          have h5 := static_run w _ _ hu
          have h6 := hρ a0
          rw [hl] at h6
          exact ⟨u, by simp [execOp, resolve, invoke, builtin, val_eq h6, h5], .val _⟩
        · cases hx
      case cap =>
        simp only at hx
        have one : ∀ y, args.toList.map ρ = [y] → ∃ a0, args = #[a0] ∧ ρ a0 = y := fun y hl => by
          have hlen : args.toList.length = 1 := by have := congrArg List.length hl; simpa using this
          obtain ⟨a0, ha0⟩ : ∃ a0, args.toList = [a0] := by
            match hal : args.toList, hlen with
            | [a0], _ => exact ⟨a0, rfl⟩
          have harr : args = #[a0] := by rw [← Array.toArray_toList (xs := args), ha0]
          subst harr
          exact ⟨a0, rfl, by simpa using hl⟩
        split at hx
        · rename_i v hl
          obtain ⟨a0, rfl, h6⟩ := one _ hl
          obtain ⟨u, hu, rfl⟩ := Option.map_eq_some_iff.1 hx
          have h5 := static_run w _ _ hu
          have h7 := hρ a0
          rw [h6] at h7
          exact ⟨u, by simp [execOp, resolve, invoke, builtin, val_eq h7, h5], .val _⟩
        · rename_i b hl
          obtain ⟨a0, rfl, h6⟩ := one _ hl
          obtain ⟨u, hu, rfl⟩ := Option.map_eq_some_iff.1 hx
          have h5 := static_run w _ _ hu
          have h7 := hρ a0
          rw [h6] at h7
          generalize hq : ρv a0 = q at h7
          refine ⟨u, ?_, .val _⟩
          cases h7 with
          | cap0 b a _ _ =>
            have h8 : Builtin.cap_ argTypes type #[.slice a 0 0] = Builtin.cap_ argTypes type #[.slice none 0 0] := by
              unfold Builtin.cap_
              cases argTypes[0]? with
              | none => rfl
              | some t =>
                show (underlying t >>= _) = (underlying t >>= _)
                congr 1
                funext d
                cases d <;> rfl
            simp [execOp, resolve, invoke, builtin, hq, h8, h5]
        · rename_i p hl
          obtain ⟨a0, rfl, h6⟩ := one _ hl
          obtain ⟨u, hu, rfl⟩ := Option.map_eq_some_iff.1 hx
          have h5 := static_run w _ _ hu
          have h7 := hρ a0
          rw [h6] at h7
          generalize hq : ρv a0 = q at h7
          refine ⟨u, ?_, .val _⟩
          cases h7 with
          | nil p => simp [execOp, resolve, invoke, builtin, hq, h5]
        · cases hx

/-- A function without a text, called with values that stand to these, gives one that stands to v. -/
def ExtOk (P : Program) (f : FuncId) (avs : List AVal) (v : AVal) : Prop :=
  ∀ (W0 : World) (ok0 A : Nat → Prop) (β : Nat → Nat × Nat) (h : List AObj) (w : World) (vs : Array Value), HR W0 ok0 A β h w → AR W0 ok0 β h w avs vs →
    ∃ u, (callFunc f vs).run P w = .ok (.value u) w ∧ VR W0 ok0 β h w v u

/-- It gives what it is given. -/
theorem ExtOk.ident {f : FuncId} {fn : Func} (hf : P.funcs[f]? = some fn) (hn : (fn.name == "runtime.NumGoroutine") = false) (hb : fn.body.isNone = true) (h1 : (Extern.findNext fn).isNone = true) (h2 : Extern.find fn = some Extern.AbiNoEscape.same) (x : AVal) : ExtOk P f [x] x := by
  intro W0 ok0 A β h w vs hr ⟨hs, hv⟩
  obtain ⟨u, rfl⟩ : ∃ u, vs = #[u] := by
    match vs, hs with
    | ⟨[u]⟩, _ => exact ⟨u, rfl⟩
  have h3 := hv 0 (by simp)
  simp at h3
  have h4 : Extern.findNext fn = none := by simpa using h1
  have hn' : fn.name ≠ "runtime.NumGoroutine" := by simpa using hn
  have hb' : fn.body = none := by simpa using hb
  have h5 := Lib.run_noEscape (P := P) w u
  refine ⟨u, ?_, h3⟩
  simp [callFunc, hf, hn', hb', h4, h2, mark, Sem.run, h5]

/-- What it gives for these values asks nothing of the world. -/
theorem ExtOk.stat {f : FuncId} {fn : Func} {e : Array Value → Sem Value} (hf : P.funcs[f]? = some fn) (hn : (fn.name == "runtime.NumGoroutine") = false) (hb : fn.body.isNone = true) (h1 : (Extern.findNext fn).isNone = true) (h2 : Extern.find fn = some e)
    {l : List Value} {v : Value} (hv : static P (e l.toArray) = some v) : ExtOk P f (l.map .val) (.val v) := by
  intro W0 ok0 A β h w vs hr ⟨hs, hv'⟩
  obtain rfl : vs = l.toArray := by
    apply Array.ext
    · simpa using hs
    · intro j hj1 hj2
      have h3 := hv' j (by simpa using hj2)
      simp only [List.getElem_map] at h3
      have h4 := val_eq h3
      simpa [Array.getD_eq_getD_getElem?, hj1] using h4
  have h4 : Extern.findNext fn = none := by simpa using h1
  refine ⟨v, ?_, .val _⟩
  have hn' : fn.name ≠ "runtime.NumGoroutine" := by simpa using hn
  have hb' : fn.body = none := by simpa using hb
  have h5 := static_run w _ _ hv
  simp [callFunc, hf, hn', hb', h4, h2, mark, Sem.run, h5]

end
end Go.AW

/- Closed code is run: what the run gives, the model gives, in every order that Go leaves open. -/
namespace Go.AW
open Go Go.RowKit
set_option linter.unusedSimpArgs false

/-- Slots and what is in them. -/
inductive Tr where
  | nil
  | node (v : AVal) (l r : Tr)

def Tr.get : Tr → Nat → AVal
  | .nil, _ => .undef
  | .node v l r, n => if n = 0 then v else if n % 2 = 1 then l.get (n / 2) else r.get (n / 2 - 1)

def Tr.put : Nat → Tr → Nat → AVal → Tr
  | 0, t, _, _ => t
  | k + 1, .nil, n, v => if n = 0 then .node v .nil .nil else if n % 2 = 1 then .node .undef (Tr.put k .nil (n / 2) v) .nil else .node .undef .nil (Tr.put k .nil (n / 2 - 1) v)
  | k + 1, .node x l r, n, v => if n = 0 then .node v l r else if n % 2 = 1 then .node x (Tr.put k l (n / 2) v) r else .node x l (Tr.put k r (n / 2 - 1) v)

theorem Tr.get_nil (n : Nat) : Tr.nil.get n = .undef := rfl

theorem Tr.get_put : ∀ (k : Nat) (t : Tr) (n : Nat) (v : AVal) (m : Nat), n + 1 < 2 ^ k → (Tr.put k t n v).get m = if m = n then v else t.get m := by
  intro k
  induction k with
  | zero => intro t n v m h; simp at h
  | succ k ih =>
    intro t n v m h
    have hp : 2 ^ (k + 1) = 2 ^ k * 2 := Nat.pow_succ ..
    cases t with
    | nil =>
      simp only [Tr.put, Tr.get_nil]
      by_cases hn : n = 0
      · subst hn
        simp only [if_true, Tr.get, Tr.get_nil, ite_self]
      · rw [if_neg hn]
        by_cases h1 : n % 2 = 1
        · rw [if_pos h1]
          simp only [Tr.get, Tr.get_nil]
          by_cases hm : m = 0
          · rw [if_pos hm, if_neg (by omega)]
          · rw [if_neg hm]
            by_cases h2 : m % 2 = 1
            · rw [if_pos h2, ih _ _ _ _ (by omega), Tr.get_nil]
              by_cases h3 : m = n
              · rw [if_pos (by omega), if_pos h3]
              · rw [if_neg (by omega), if_neg h3]
            · rw [if_neg h2, if_neg (by omega)]
        · rw [if_neg h1]
          simp only [Tr.get, Tr.get_nil]
          by_cases hm : m = 0
          · rw [if_pos hm, if_neg (by omega)]
          · rw [if_neg hm]
            by_cases h2 : m % 2 = 1
            · rw [if_pos h2, if_neg (by omega)]
            · rw [if_neg h2, ih _ _ _ _ (by omega), Tr.get_nil]
              by_cases h3 : m = n
              · rw [if_pos (by omega), if_pos h3]
              · rw [if_neg (by omega), if_neg h3]
    | node x l r =>
      simp only [Tr.put]
      by_cases hn : n = 0
      · subst hn
        simp only [if_true, Tr.get]
        by_cases hm : m = 0
        · rw [if_pos hm, if_pos hm]
        · simp only [if_neg hm]
      · rw [if_neg hn]
        by_cases h1 : n % 2 = 1
        · rw [if_pos h1]
          simp only [Tr.get]
          by_cases hm : m = 0
          · rw [if_pos hm, if_neg (by omega), if_pos hm]
          · simp only [if_neg hm]
            by_cases h2 : m % 2 = 1
            · simp only [if_pos h2]
              rw [ih _ _ _ _ (by omega)]
              by_cases h3 : m = n
              · rw [if_pos (by omega), if_pos h3]
              · rw [if_neg (by omega), if_neg h3]
            · simp only [if_neg h2]
              rw [if_neg (by omega)]
        · rw [if_neg h1]
          simp only [Tr.get]
          by_cases hm : m = 0
          · rw [if_pos hm, if_neg (by omega), if_pos hm]
          · simp only [if_neg hm]
            by_cases h2 : m % 2 = 1
            · simp only [if_pos h2]
              rw [if_neg (by omega)]
            · simp only [if_neg h2]
              rw [ih _ _ _ _ (by omega)]
              by_cases h3 : m = n
              · rw [if_pos (by omega), if_pos h3]
              · rw [if_neg (by omega), if_neg h3]

/-- Slots from k on. -/
def Tr.fill : Nat → List AVal → Tr → Tr
  | _, [], t => t
  | k, v :: r, t => Tr.fill (k + 1) r (Tr.put 16 t k v)

theorem Tr.get_fill : ∀ (l : List AVal) (k : Nat) (t : Tr) (j : Nat), k + l.length < 60000 → (Tr.fill k l t).get j = if k ≤ j ∧ j < k + l.length then (l[j - k]?).getD .undef else t.get j := by
  intro l
  induction l with
  | nil => intro k t j _; simp only [Tr.fill, List.length_nil]; rw [if_neg (by omega)]
  | cons v r ih =>
    intro k t j h
    simp only [List.length_cons] at h
    simp only [Tr.fill, List.length_cons]
    rw [ih _ _ _ (by omega), Tr.get_put _ _ _ _ _ (by simp; omega)]
    by_cases h1 : j = k
    · subst h1
      rw [if_neg (by omega), if_pos rfl, if_pos ⟨by omega, by omega⟩]
      simp
    · by_cases h2 : k ≤ j ∧ j < k + (r.length + 1)
      · rw [if_pos (by omega), if_pos h2]
        have : j - k = (j - (k + 1)) + 1 := by omega
        rw [this, List.getElem?_cons_succ]
      · rw [if_neg (by omega), if_neg h1, if_neg h2]

/-- What is known of the program's functions: which flags their regions are run by; which calls change the caller's objects; what functions without a text give; contracts. -/
structure XT where
  E : FuncId → Option EffF
  chg : FuncId → Bool
  ext : FuncId → List AVal → Option AVal
  orc : FuncId → List AVal → Option AVal

structure XT.Good (P : Program) (X : XT) : Prop where
  mixed : P.follows .mixedOrders = true
  code : ∀ f e fn c, X.E f = some e → P.funcs[f]? = some fn → fn.body = some c → (fn.name == "runtime.NumGoroutine") = false ∧ codeOk fn.ntmps e c = true
  ext : ∀ f avs v, X.ext f avs = some v → ExtOk P f avs v
  orc : ∀ f args r, X.orc f args = some r → Contract P f args r

/-- A nil slice that is handed to a call, as one that an append may take. -/
def nrm0 : AVal → AVal
  | .list _ true 0 [] => .cap0 true
  | x => x
def nrmA : AVal → AVal
  | .agg cs => .agg (cs.map nrm0)
  | x => nrm0 x
theorem nrm0_rel {ok fr : Nat → Prop} {w : World} {β : Nat → Nat × Nat} {len : Nat → Option Nat} {x : AVal} {v : Value} (h : VRel ok fr w β len x v) : VRel ok fr w β len (nrm0 x) v := by
  unfold nrm0
  split
  · cases h with
    | nil p => exact .cap0 true none rfl (fun q h => by cases h)
  · exact h
theorem nrmA_rel {ok fr : Nat → Prop} {w : World} {β : Nat → Nat × Nat} {len : Nat → Option Nat} {x : AVal} {v : Value} (h : VRel ok fr w β len x v) : VRel ok fr w β len (nrmA x) v := by
  unfold nrmA
  split
  · cases h with
    | agg cs vs hs hr => exact .agg _ _ (by simpa using hs) (fun j hj => by simp only [List.getElem_map]; exact nrm0_rel (hr j (by simpa using hj)))
  · exact nrm0_rel h

/-- The rounds of a loop over a function: the flags of its function, its slots at the loop's beginning, its parameters, its code. -/
structure Yd where
  E : EffF
  m : Tr
  ps : Array Tmp
  x : Code
  c : Code

inductive Job where
  | code (E : EffF) (Y : Option Yd) (c : Code) (m : Tr) (h : List AObj)
  | call (f : FuncId) (args : List AVal) (h : List AObj)
  | ycall (f : FuncId) (yd : Yd) (args : List AVal) (h : List AObj)

abbrev Res := Exit × Tr × List AObj

/-- Alike, as far as the eye can tell. -/
def eqL (g : AVal → AVal → Bool) : List AVal → List AVal → Bool
  | [], [] => true
  | x :: r, y :: s => bif g x y then eqL g r s else false
  | _, _ => false
theorem eqL_ok {g : AVal → AVal → Bool} (hg : ∀ x y, g x y = true → x = y) : ∀ l m, eqL g l m = true → l = m := by
  intro l
  induction l with
  | nil => intro m h; cases m with | nil => rfl | cons _ _ => cases h
  | cons x r ih =>
    intro m h
    cases m with
    | nil => cases h
    | cons y s =>
      simp only [eqL] at h
      cases hb : g x y with
      | true => rw [hb] at h; rw [hg _ _ hb, ih _ h]
      | false => rw [hb] at h; cases h
def eqV : Nat → AVal → AVal → Bool
  | 0, _, _ => false
  | f + 1, x, y => match x, y with
    | .val (.int k n), .val (.int k' n') => decide (k = k') && decide (n = n')
    | .val (.bool b), .val (.bool b') => decide (b = b')
    | .val (.slice none a b), .val (.slice none a' b') => decide (a = a') && decide (b = b')
    | .list p b n cs, .list p' b' n' cs' => decide (p = p') && decide (b = b') && decide (n = n') && eqL (eqV f) cs cs'
    | .agg cs, .agg cs' => eqL (eqV f) cs cs'
    | .spot p cs, .spot p' cs' => decide (p = p') && eqL (eqV f) cs cs'
    | .cap0 b, .cap0 b' => decide (b = b')
    | .res b, .res b' => decide (b = b')
    | .ref a b c d, .ref a' b' c' d' => decide (a = a') && decide (b = b') && decide (c = c') && decide (d = d')
    | .ptr a b c, .ptr a' b' c' => decide (a = a') && decide (b = b') && decide (c = c')
    | _, _ => false
theorem eqV_ok : ∀ f x y, eqV f x y = true → x = y := by
  intro f
  induction f with
  | zero => intro x y h; cases h
  | succ f ih =>
    intro x y h
    unfold eqV at h
    split at h
    · simp only [Bool.and_eq_true, decide_eq_true_eq] at h; rw [h.1, h.2]
    · simp only [decide_eq_true_eq] at h; rw [h]
    · simp only [Bool.and_eq_true, decide_eq_true_eq] at h; rw [h.1, h.2]
    · simp only [Bool.and_eq_true, decide_eq_true_eq] at h; rw [h.1.1.1, h.1.1.2, h.1.2, eqL_ok ih _ _ h.2]
    · rw [eqL_ok ih _ _ h]
    · simp only [Bool.and_eq_true, decide_eq_true_eq] at h; rw [h.1, eqL_ok ih _ _ h.2]
    · simp only [decide_eq_true_eq] at h; rw [h]
    · simp only [decide_eq_true_eq] at h; rw [h]
    · simp only [Bool.and_eq_true, decide_eq_true_eq] at h; rw [h.1.1.1, h.1.1.2, h.1.2, h.2]
    · simp only [Bool.and_eq_true, decide_eq_true_eq] at h; rw [h.1.1, h.1.2, h.2]
    · cases h
def eqH : List AObj → List AObj → Bool
  | [], [] => true
  | ⟨t, e, cs⟩ :: r, ⟨t', e', cs'⟩ :: s => decide (t = t') && decide (e = e') && eqL (eqV 4) cs cs' && eqH r s
  | _, _ => false
theorem eqH_ok : ∀ h h' : List AObj, eqH h h' = true → h = h' := by
  intro h
  induction h with
  | nil => intro m h; cases m with | nil => rfl | cons _ _ => cases h
  | cons o r ih =>
    intro m h
    cases m with
    | nil => cases h
    | cons o' s =>
      simp only [eqH, Bool.and_eq_true, decide_eq_true_eq] at h
      rw [ih _ h.2]
      obtain ⟨t, e, cs⟩ := o
      obtain ⟨t', e', cs'⟩ := o'
      simp only at h
      rw [h.1.1.1, h.1.1.2, eqL_ok (eqV_ok 4) _ _ h.1.2]

def Tr.fillP : List Nat → List AVal → Tr → Tr
  | p :: ps, v :: vs, m => Tr.put 16 (Tr.fillP ps vs m) p v
  | _, _, m => m

/-- A round. -/
def xRound (rec : Job → Option Res) (yd : Yd) (args : List AVal) (h : List AObj) : Option (List AObj) :=
  if args.length = yd.ps.size then match rec (.code yd.E none yd.x (Tr.fillP yd.ps.toList args yd.m) h) with
    | some (.normal, m1, h1) => match rec (.code yd.E none yd.c m1 h1) with
      | some (.normal, _, h2) => some h2
      | _ => none
    | _ => none
  else none

/-- One operation. -/
def xOp (P : Program) (X : XT) (rec : Job → Option Res) (c : EffF) (d : Bool) (o : Oper) (ρ : Operand → AVal) (h : List AObj) : Option (AVal × List AObj) :=
  match o.op with
  | .call { callee := .value fo, args, .. } => match ρ fo with
    | .func (.func f) fs cs => match (if d then none else X.ext f (fs ++ args.toList.map ρ ++ cs)) with
      | some v => some (v, h)
      | none => if X.chg f && c.b fo && !c.n fo then
          match rec (.call f (fs ++ args.toList.map ρ ++ cs) h) with
          | some (_, m, h') => some (m.get 0, h')
          | none => none
        else if c.n fo && c.b fo then
          match rec (.call f ((fs ++ args.toList.map ρ ++ cs).map (argOf h 8)) []) with
          | some (_, m, [ob]) => match unRn (m.get 0) with
            | some rn => if ob.es ≠ 0 ∧ allVal ob.cells = true ∧ (fs ++ args.toList.map ρ ++ cs).all (noRef 8) = true then some (rn h.length, h ++ [ob]) else none
            | none => if (fs ++ args.toList.map ρ ++ cs).all (noRef 8) = true then some (resOf [ob] 8 (m.get 0), h ++ [⟨0, 0, []⟩]) else none
          | some (_, m, h') => if (fs ++ args.toList.map ρ ++ cs).all (noRef 8) = true then some (resOf h' 8 (m.get 0), h ++ [⟨0, 0, []⟩]) else none
          | none => none
        else if c.n fo && !(!c.b fo && (noRef 8 (ρ fo) && (args.toList.map ρ).all (noRef 8))) then none else match X.orc f ((fs ++ args.toList.map ρ ++ cs).map (argOf h 8)) with
          | some r => if allFresh 8 r || (fs ++ args.toList.map ρ ++ cs).all (noRef 8) then some (r, h) else none
          | none => match rec (.call f ((fs ++ args.toList.map ρ ++ cs).map (argOf h 8)) []) with
            | some (_, m, h') => if allFresh 8 (resOf h' 8 (m.get 0)) || (fs ++ args.toList.map ρ ++ cs).all (noRef 8) then some (resOf h' 8 (m.get 0), h) else none
            | none => none
    | _ => none
  | _ => if !d && isPop ρ o.op then (aMore P o ρ h).map fun v => (v, h)
    else if zOp c o.op then (match aEff P o ρ h with | some (v, h') => bif eqH h h' then some (v, h) else none | none => none)
    else if frzOp c o.op then (aFrzO P o ρ h).map fun v => (v, h)
    else if isEff o.op then match (if appNew c o ρ = true ∧ stOk c o ρ = true then aEff P o ρ h else none) with
      | some r => some r
      | none => if d then none else (aMore P o ρ h).map fun v => (v, h)
    else match (if ldOk c o ρ = true then aPure P o ρ h else none) with
      | some v => some (v, h)
      | none => if d then none else (aMore P o ρ h).map fun v => (v, h)

/-- The stand-in of a yield in a run. -/
def isD : AVal → Bool
  | .val (.func (.yield _) _ _) => true
  | _ => false
abbrev dumY : AVal := .val (.func (.yield 0) #[] #[])
/-- What a slot holds, where the run has the stand-in. -/
def sg (Y : Option Yd) (yv : Value) (x : AVal) : AVal := match Y with
  | none => x
  | some _ => if isD x then .val yv else x
def zr (Y : Option Yd) (ρ : Operand → AVal) (x : Operand) : AVal := match Y with
  | none => ρ x
  | some _ => if isD (ρ x) then .undef else ρ x

/-- One operation of a function that was called with a yield. -/
def xOpY (P : Program) (X : XT) (rec : Job → Option Res) (c : EffF) (Y : Option Yd) (d : Bool) (o : Oper) (ρ : Operand → AVal) (h : List AObj) : Option (AVal × List AObj) :=
  match Y with
  | none => xOp P X rec c d o ρ h
  | some yd => match o.op with
    | .move (.tmp t) => if isD (ρ (.tmp t)) then some (ρ (.tmp t), h) else xOp P X rec c d o ρ h
    | op =>
      let yc := match op with
        | .call { callee := .value (.tmp t), args, .. } => if isD (ρ (.tmp t)) then some (t, args) else none
        | _ => none
      match yc with
      | some (t, args) => if c.b (.tmp t) && !c.n (.tmp t) && args.toList.all (fun x => !isD (ρ x)) then (xRound rec yd (args.toList.map ρ) h).map fun h' => (.val (.bool true), h') else none
      | none => if d && !(op.operands.toList.all fun x => !isD (ρ x)) then none else match xOp P X rec c d o (zr Y ρ) h with
        | some (v, h') => if isD v then none else some (v, h')
        | none => none

/-- Is the operation wanted? -/
def xWant (ops : List Oper) (o : Oper) (m : Tr) : Option Bool :=
  match o.guard with
  | none => some true
  | some (j, want) => match (ops[j]?).bind (·.dst) with
    | some t => match m.get t with
      | .val (.bool b) => some (b == want)
      | .val (.tuple _) => some false
      | _ => none
    | none => none

def xPut (dst : Option Nat) (v : AVal) (m : Tr) : Tr :=
  match dst with
  | some d => Tr.put 16 m d v
  | none => m

def xList (P : Program) (X : XT) (rec : Job → Option Res) (c : EffF) (Y : Option Yd) (d : Bool) (ops : List Oper) : List Oper → Tr → List AObj → Option Res
  | [], m, h => some (.normal, m, h)
  | o :: rest, m, h => match xWant ops o m with
    | some true => match xOpY P X rec c Y d o (evF m.get) h with
      | some (v, h') => xList P X rec c Y d ops rest (xPut o.dst v m) h'
      | none => none
    | some false => xList P X rec c Y d ops rest (xPut o.dst (.val undef) m) h
    | none => none

/-- A function's result. -/
def xRes (P : Program) (m : Tr) (h : List AObj) : ResultVar → Option AVal
  | .tmp t => some (m.get t)
  | .cell a t => match pview h (m.get a) with
    | some cs => aPart P t cs
    | none => none

def xVal (P : Program) (fn : Func) (m : Tr) (h : List AObj) : Option AVal :=
  match fn.results.toList.mapM (xRes P m h) with
  | some [x] => some x
  | some l => some (.tuple l)
  | none => none

def xStep (P : Program) (X : XT) (rec : Job → Option Res) : Job → Option Res
  | .code _ _ .skip m h => some (.normal, m, h)
  | .code E Y (.region _ ops d) m h => xList P X rec (if d then E else effIn E) Y d ops.toList ops.toList m h
  | .code E Y (.seq a b) m h => match rec (.code E Y a m h) with
    | some (.normal, m', h') => rec (.code E Y b m' h')
    | r => r
  | .code E Y (.cond c x y) m h => match evF m.get c with
    | .val (.bool true) => rec (.code E Y x m h)
    | .val (.bool false) => rec (.code E Y y m h)
    | _ => none
  | .code E Y (.block id c) m h => match rec (.code E Y c m h) with
    | some (.exit id', m', h') => if id' = id then some (.normal, m', h') else some (.exit id', m', h')
    | r => r
  | .code E Y (.loop c) m h => match rec (.code E Y c m h) with
    | some (.normal, m', h') => rec (.code E Y (.loop c) m' h')
    | r => r
  | .code _ _ (.exit id) m h => some (.exit id, m, h)
  | .code _ _ .ret m h => some (.ret, m, h)
  | .code E none (.rangeFunc g ps x c) m h => match evF m.get g with
    | .func (.func f) [] cs => match rec (.ycall f ⟨E, m, ps, x, c⟩ cs h) with
      | some (_, _, h') => some (.normal, m, h')
      | none => none
    | _ => none
  | .call f args h => match X.E f, P.funcs[f]? with
    | some e, some fn => match fn.body with
      | some c => if args.length ≤ fn.ntmps ∧ fn.ntmps < 50000 ∧ e.y.isNone = true then match rec (.code e none c (Tr.fill 0 (args.map nrmA) .nil) h) with
          | some (.ret, m, h') => (xVal P fn m h').map fun x => (.ret, .node x .nil .nil, h')
          | some (.normal, m, h') => (xVal P fn m h').map fun x => (.ret, .node x .nil .nil, h')
          | _ => none
        else none
      | none => none
    | _, _ => none
  | .ycall f yd args h => match X.E f, P.funcs[f]? with
    | some e, some fn => match fn.body with
      | some c => if args.length + 1 ≤ fn.ntmps ∧ fn.ntmps < 50000 ∧ fn.results.isEmpty = true ∧ e.y.isSome = true ∧ args.all (fun x => !isD x) = true then match rec (.code e (some yd) c (Tr.fill 0 (dumY :: args) .nil) h) with
          | some (.ret, m, h') => some (.ret, m, h')
          | some (.normal, m, h') => some (.ret, m, h')
          | _ => none
        else none
      | none => none
    | _, _ => none
  | _ => none

noncomputable def xRun (P : Program) (X : XT) (n : Nat) : Job → Option Res :=
  Nat.rec (motive := fun _ => Job → Option Res) (fun _ => none) (fun _ ih => xStep P X ih) n

theorem xRun_succ (P : Program) (X : XT) (n : Nat) : xRun P X (n + 1) = xStep P X (xRun P X n) := rfl

section
variable {P : Program} {X : XT}

/-- What a run of a call says. -/
def CallsOk (P : Program) (rec : Job → Option Res) : Prop := ∀ f args h e m h', rec (.call f args h) = some (e, m, h') → SpecTo P f args h (m.get 0) h'

/-- The flags with what a yield does. -/
abbrev yE (yv : Value) (y : List AVal → List AObj → List AObj → Prop) (c : EffF) (Y : Option Yd) : EffF := ⟨c.b, c.n, c.f, c.l, c.D, c.z, match Y with | none => c.y | some _ => some (yv, y)⟩

/-- What a run of code says, where the yield does what y says. -/
def CodesOk (P : Program) (rec : Job → Option Res) (yo : Yd → List AVal → List AObj → List AObj → Prop) : Prop := ∀ E Y c m h e m' h', rec (.code E Y c m h) = some (e, m', h') → ∀ yv y, (∀ yd, Y = some yd → ∀ args h1 h2, yo yd args h1 h2 → y args h1 h2) → ∀ N, codeOk N (yE yv y E Y) c = true → N < 50000 →
  ∀ (n : Nat) (W0 : World) (ok0 A : Nat → Prop) (B : Bs) (s : ASt) (a : Act) (w : World) (Q : Exit → Act → World → Prop), BOk P (yE yv y E Y) W0 ok0 A B → (∀ t, look s.env t = sg Y yv (m.get t)) → s.heap = h → FR W0 ok0 A N B s a w →
    (∀ s' a' w', (∀ t, look s'.env t = sg Y yv (m'.get t)) → s'.heap = h' → FR W0 ok0 A N B s' a' w' → Q e a' w') → c.wpIn (Fd B.rd) n P Q a w

theorem ext_wp {W0 : World} {ok0 A : Nat → Prop} {β : Nat → Nat × Nat} {h : List AObj} {w : World} (hr : HR W0 ok0 A β h w) {o : Oper} {a : Act} {ρ : Operand → AVal} (hρ : ∀ x, VR W0 ok0 β h w (ρ x) (a.eval x))
    {f : FuncId} {fs cs : List AVal} {fo : Operand} {args : Array Operand} {ty : Array TypeId} {v : AVal} (hop : o.op = .call { callee := .value fo, args := args, argTypes := ty }) (hfo : ρ fo = .func (.func f) fs cs) (hx : ExtOk P f (fs ++ args.toList.map ρ ++ cs) v)
    {next : Act → World → Prop} {Q : Exit → Act → World → Prop} (hn : ∀ u, VR W0 ok0 β h w v u → next (a.put o.dst u) w) : o.wp P a w next Q := by
  have har : AR W0 ok0 β h w (args.toList.map ρ) (args.map a.eval) := ⟨by simp, fun j hj => by
    have hj' : j < args.size := by simpa using hj
    simpa [hj'] using hρ args[j]⟩
  have hf := hρ fo
  rw [hfo] at hf
  generalize hfv : a.eval fo = fvv at hf
  cases hf with
  | func fn _ _ fv cv hfs hcs hf hc =>
  obtain ⟨u, h1, h2⟩ := hx W0 ok0 A β h w _ hr (args_rel ⟨hfs, hf⟩ har ⟨hcs, hc⟩)
  unfold Oper.wp
  have hrun : (execOp a.eval o).run P w = .ok (.value u) w := by
    simp only [execOp, hop, resolve, hfv]
    simpa [Deferred.ofValue, invoke] using h1
  rw [hrun]
  exact hn u h2

theorem xOp_ext {rec : Job → Option Res} {c : EffF} {Y : Option Yd} (yv : Value) (y : List AVal → List AObj → List AObj → Prop) {o : Oper} {ρ : Operand → AVal} {h h' : List AObj} {v : AVal} {d : Bool} (hC : CallsOk P rec) (hX : X.Good P) (hx : xOp P X rec c d o ρ h = some (v, h')) :
    (d = false ∧ h' = h ∧ ∃ f fs cs fo args ty, o.op = .call { callee := .value fo, args := args, argTypes := ty } ∧ ρ fo = .func (.func f) fs cs ∧ ExtOk P f (fs ++ args.toList.map ρ ++ cs) v) ∨
    (d = false ∧ h' = h ∧ aMore P o ρ h = some v) ∨ OpR P (yE yv y c Y) o ρ h v h' := by
  unfold xOp at hx
  split at hx
  · rename_i fo args ty hop
    split at hx
    · rename_i f fs cs hfo
      split at hx
      · rename_i v' hv
        cases hx
        cases d with
        | true => cases hv
        | false => exact .inl ⟨rfl, rfl, f, fs, cs, fo, args, ty, hop, hfo, hX.ext _ _ _ hv⟩
      · split at hx
        · rename_i hm
          simp only [Bool.and_eq_true, Bool.not_eq_true'] at hm
          split at hx
          · rename_i e m h2 hr
            cases hx
            exact .inr (.inr (.callTo _ _ fo args ty hop hm.1.2 ⟨f, fs, cs, hfo, hC _ _ _ _ _ _ hr⟩ hm.2))
          · cases hx
        · by_cases hmk : (c.n fo && c.b fo) = true
          · rw [if_pos hmk] at hx
            simp only [Bool.and_eq_true] at hmk
            split at hx
            · rename_i e m ob hr
              split at hx
              · rename_i rn hrn
                obtain ⟨g1, g2⟩ := unRn_ok hrn
                split at hx
                · rename_i hc
                  cases hx
                  have hsp := hC _ _ _ _ _ _ hr
                  rw [g2] at hsp
                  refine .inr (.inr (.mk _ _ fo args ty hop hmk.2 ?_ hmk.1))
                  rw [hfo]
                  exact MkTo.of hsp hc.1 (allVal_ok _ hc.2.1) hc.2.2 g1
                · cases hx
              · split at hx
                · rename_i hc
                  cases hx
                  refine .inr (.inr (.mk _ _ fo args ty hop hmk.2 ?_ hmk.1))
                  rw [hfo]
                  exact MkTo.none (Contract.ofSpec 8 (hC _ _ _ _ _ _ hr)) hc
                · cases hx
            · rename_i e m h' _ hr
              split at hx
              · rename_i hc
                cases hx
                refine .inr (.inr (.mk _ _ fo args ty hop hmk.2 ?_ hmk.1))
                rw [hfo]
                exact MkTo.none (Contract.ofSpec 8 (hC _ _ _ _ _ _ hr)) hc
              · cases hx
            · cases hx
          rw [if_neg hmk] at hx
          by_cases hcn : (c.n fo && !(!c.b fo && (noRef 8 (ρ fo) && (args.toList.map ρ).all (noRef 8)))) = true
          · rw [if_pos hcn] at hx; cases hx
          rw [if_neg hcn] at hx
          have hcn : (yE yv y c Y).n fo = false ∨ (yE yv y c Y).b fo = false ∧ (noRef 8 (ρ fo) && (args.toList.map ρ).all (noRef 8)) = true := by
            show c.n fo = false ∨ c.b fo = false ∧ _
            cases h1 : c.n fo with
            | false => exact .inl rfl
            | true =>
              right
              simp only [h1, Bool.true_and, Bool.not_eq_true', Bool.not_eq_false, Bool.and_eq_true] at hcn ⊢
              exact hcn
          split at hx
          · rename_i r hr
            split at hx
            · rename_i hfr
              cases hx
              simp only [Bool.or_eq_true] at hfr
              exact .inr (.inr (.call _ fo args ty hop ⟨f, fs, cs, 8, hfo, hX.orc _ _ _ hr, hfr⟩ hcn))
            · cases hx
          · split at hx
            · rename_i e m h2 hr
              split at hx
              · rename_i hfr
                cases hx
                simp only [Bool.or_eq_true] at hfr
                exact .inr (.inr (.call _ fo args ty hop ⟨f, fs, cs, 8, hfo, Contract.ofSpec 8 (hC _ _ _ _ _ _ hr), hfr⟩ hcn))
              · cases hx
            · cases hx
    · cases hx
  · split at hx
    · rename_i hp
      simp only [Bool.and_eq_true, Bool.not_eq_true'] at hp
      obtain ⟨v', hv, he⟩ := Option.map_eq_some_iff.1 hx
      cases he
      exact .inr (.inl ⟨hp.1, rfl, hv⟩)
    split at hx
    · rename_i hz
      split at hx
      · rename_i v' h2 he
        cases hq : eqH h h2 with
        | false => rw [hq] at hx; cases hx
        | true =>
          rw [hq] at hx
          cases hx
          rw [← eqH_ok _ _ hq] at he
          exact .inr (.inr (.same _ he hz))
      · cases hx
    · rename_i hz
      split at hx
      · rename_i hf
        obtain ⟨v', hv, he⟩ := Option.map_eq_some_iff.1 hx
        cases he
        exact .inr (.inr (.frz _ hv hf))
      · rename_i hf
        split at hx
        · split at hx
          · rename_i r hr
            cases hx
            split at hr
            · rename_i hn
              exact .inr (.inr (.eff _ _ hr hn.1 (show frzOp c o.op = false by simpa using hf) hn.2 (show zOp c o.op = false by simpa using hz)))
            · cases hr
          · split at hx
            · cases hx
            · rename_i hd
              obtain ⟨v', hv, he⟩ := Option.map_eq_some_iff.1 hx
              cases he
              exact .inr (.inl ⟨by simpa using hd, rfl, hv⟩)
        · split at hx
          · rename_i r hr
            cases hx
            split at hr
            · rename_i hn
              exact .inr (.inr (.pure _ hr hn))
            · cases hr
          · split at hx
            · cases hx
            · rename_i hd
              obtain ⟨v', hv, he⟩ := Option.map_eq_some_iff.1 hx
              cases he
              exact .inr (.inl ⟨by simpa using hd, rfl, hv⟩)

/-- One operation, with the stand-in of a yield. -/
theorem xOpY_ext {rec : Job → Option Res} {c : EffF} {Y : Option Yd} {yv : Value} {y : List AVal → List AObj → List AObj → Prop} (hYy : ∀ yd, Y = some yd → ∀ args h1 h2, xRound rec yd args h1 = some h2 → y args h1 h2) {o : Oper} {m : Tr} {env : List (Nat × AVal)} (hs : ∀ t, look env t = sg Y yv (m.get t)) {h h' : List AObj} {v : AVal} {d : Bool} (hC : CallsOk P rec) (hX : X.Good P) (hx : xOpY P X rec c Y d o (evF m.get) h = some (v, h')) :
    (d = false ∧ sg Y yv v = v ∧ ((h' = h ∧ ∃ f fs cs fo args ty, o.op = .call { callee := .value fo, args := args, argTypes := ty } ∧ zr Y (evF m.get) fo = .func (.func f) fs cs ∧ ExtOk P f (fs ++ args.toList.map (zr Y (evF m.get)) ++ cs) v) ∨
      (h' = h ∧ aMore P o (zr Y (evF m.get)) h = some v) ∨ OpR P (yE yv y c Y) o (zr Y (evF m.get)) h v h')) ∨ OpR P (yE yv y c Y) o (ev env) h (sg Y yv v) h' := by
  cases Y with
  | none =>
    have hev : ev env = evF m.get := by rw [ev_evF]; congr 1; funext t; exact hs t
    have hz : zr none (evF m.get) = evF m.get := rfl
    rw [hz, hev]
    rcases xOp_ext (Y := none) yv y hC hX hx with ⟨h1, h2, h3⟩ | ⟨h1, h2, h3⟩ | h1
    · exact .inl ⟨h1, rfl, .inl ⟨h2, h3⟩⟩
    · exact .inl ⟨h1, rfl, .inr (.inl ⟨h2, h3⟩)⟩
    · exact .inr h1
  | some yd =>
    have hev : ∀ x, isD (evF m.get x) = false → ev env x = zr (some yd) (evF m.get) x := by
      intro x hx
      simp only [zr, hx]
      cases x with
      | tmp t =>
        simp only [ev, evF] at hx ⊢
        rw [hs t]; simp only [sg, hx]; rfl
      | _ => rfl
    have hevD : ∀ t, isD (evF m.get (.tmp t)) = true → ev env (.tmp t) = .val yv := by
      intro t hx
      simp only [ev, evF] at hx ⊢
      rw [hs t]; simp only [sg, hx]; rfl
    have old : ∀ v h', (d = true → ∀ x ∈ o.op.operands, isD (evF m.get x) = false) → isD v = false → xOp P X rec c d o (zr (some yd) (evF m.get)) h = some (v, h') →
      (d = false ∧ sg (some yd) yv v = v ∧ ((h' = h ∧ ∃ f fs cs fo args ty, o.op = .call { callee := .value fo, args := args, argTypes := ty } ∧ zr (some yd) (evF m.get) fo = .func (.func f) fs cs ∧ ExtOk P f (fs ++ args.toList.map (zr (some yd) (evF m.get)) ++ cs) v) ∨
        (h' = h ∧ aMore P o (zr (some yd) (evF m.get)) h = some v) ∨ OpR P (yE yv y c (some yd)) o (zr (some yd) (evF m.get)) h v h')) ∨ OpR P (yE yv y c (some yd)) o (ev env) h (sg (some yd) yv v) h' := by
      intro v h' hop hv hx
      have hsv : sg (some yd) yv v = v := by simp [sg, hv]
      rw [hsv]
      rcases xOp_ext (Y := some yd) yv y hC hX hx with ⟨h1, h2, h3⟩ | ⟨h1, h2, h3⟩ | h1
      · exact .inl ⟨h1, rfl, .inl ⟨h2, h3⟩⟩
      · exact .inl ⟨h1, rfl, .inr (.inl ⟨h2, h3⟩)⟩
      · cases d with
        | false => exact .inl ⟨rfl, rfl, .inr (.inr h1)⟩
        | true => exact .inr (h1.congr fun x hx => (hev x (hop rfl x hx)).symm)
    unfold xOpY at hx
    simp only at hx
    split at hx
    · rename_i t hop
      split at hx
      · rename_i hd
        cases hx
        right
        have he := hevD t hd
        have h2 : sg (some yd) yv (evF m.get (.tmp t)) = .val yv := by simp only [sg, hd]; rfl
        rw [h2]
        obtain ⟨dst, op, type, pos, after, guard⟩ := o
        simp only at hop
        subst hop
        exact .pure _ (by simp [aPure, he]) rfl
      · rename_i hd
        have hd' : isD (evF m.get (.tmp t)) = false := by simpa using hd
        obtain ⟨dst, op, type, pos, after, guard⟩ := o
        simp only at hop
        subst hop
        have hx2 : xOp P X rec c d ⟨dst, .move (.tmp t), type, pos, after, guard⟩ (zr (some yd) (evF m.get)) h = some (v, h') := by
          have hz : zr (some yd) (evF m.get) (.tmp t) = evF m.get (.tmp t) := by simp [zr, hd']
          unfold xOp at hx ⊢
          simp only [isPop, Bool.and_false, zOp, frzOp, isEff, Bool.false_eq_true, if_false, aPure, aMore, ldOk, hz] at hx ⊢
          exact hx
        refine old v h' (fun _ x hx => ?_) ?_ hx2
        · simp [Op.operands] at hx; subst hx; exact hd'
        · unfold xOp at hx
          simp only [isPop, Bool.and_false, zOp, frzOp, isEff, Bool.false_eq_true, if_false, aPure, ldOk, if_true, Option.some.injEq, Prod.mk.injEq] at hx
          rw [← hx.1]; exact hd'
    · split at hx
      · rename_i t args hyc
        split at hyc
        · rename_i t' args' ty' hop
          split at hyc
          · rename_i hd
            cases hyc
            split at hx
            · rename_i hb
              simp only [Bool.and_eq_true] at hb
              obtain ⟨h2, hr, he⟩ := Option.map_eq_some_iff.1 hx
              cases he
              right
              have hargs : args.toList.map (evF m.get) = args.toList.map (ev env) := List.map_congr_left fun x hx => by
                have h3 := List.all_eq_true.1 hb.2 x hx
                have h4 : isD (evF m.get x) = false := by simpa using h3
                rw [hev x h4]; simp [zr, h4]
              rw [hargs] at hr
              exact .yield _ _ (.tmp t) args ty' yv y hop (hevD t hd) hb.1.1 rfl (hYy yd rfl _ _ _ hr) rfl ((Bool.not_eq_true' _).mp hb.1.2)
            · cases hx
          · cases hyc
        · cases hyc
      · split at hx
        · cases hx
        · rename_i hcond
          split at hx
          · rename_i v' h2 hxx
            split at hx
            · cases hx
            · rename_i hv
              cases hx
              refine old _ _ (fun hd x hxm => ?_) (by simpa using hv) hxx
              subst hd
              simp only [Bool.true_and, Bool.not_eq_true', Bool.not_eq_false] at hcond
              have := List.all_eq_true.1 hcond x (by simpa using hxm)
              simpa using this
          · cases hx

/-- One operation in the order of the text. -/
theorem xOp_wp {rec : Job → Option Res} {c : EffF} {Y : Option Yd} {yv : Value} {y : List AVal → List AObj → List AObj → Prop} (hYy : ∀ yd, Y = some yd → ∀ args h1 h2, xRound rec yd args h1 = some h2 → y args h1 h2) {o : Oper} {h h' : List AObj} {v : AVal} (hC : CallsOk P rec) (hX : X.Good P) {W0 : World} {ok0 A : Nat → Prop} {β : Nat → Nat × Nat} {w : World} {N : Nat} (r : Option Nat) (n : Nat) (hr : HR W0 ok0 A β h w) {a : Act} {m : Tr} {env : List (Nat × AVal)} (hs : ∀ t, look env t = sg Y yv (m.get t)) (henv : ∀ t, VR W0 ok0 β h w (look env t) (a.tmps.getD t undef)) (ho : opOk N o = true)
    (hyn : ∀ yv' y', (yE yv y c Y).y = some (yv', y') → ∀ args h' vs, y' args h h' → AR W0 ok0 β h w args vs → YNow P W0 ok0 A β h w h' vs yv')
    (hx : xOpY P X rec c Y false o (evF m.get) h = some (v, h')) {next : Act → World → Prop} {Q : Exit → Act → World → Prop} (hn : ∀ u β' w', Step W0 ok0 A β h w β' h' w' → VR W0 ok0 β' h' w' (sg Y yv v) u → next (a.put o.dst u) w') : o.wpIn (Fd r) n P a w next Q := by
  have hρ' := ev_rel hr.tab henv
  have hρ : ∀ x, VR W0 ok0 β h w (zr Y (evF m.get) x) (a.eval x) := by
    intro x
    have h1 := hρ' x
    cases Y with
    | none =>
      have : ev env = evF m.get := by rw [ev_evF]; congr 1; funext t; exact hs t
      rw [this] at h1; exact h1
    | some yd =>
      simp only [zr]
      cases hd : isD (evF m.get x) with
      | true => exact .undef _
      | false =>
        simp only [Bool.false_eq_true, if_false]
        cases x with
        | tmp t =>
          simp only [ev, evF] at h1 hd ⊢
          rw [hs t] at h1
          simpa [sg, hd] using h1
        | _ => exact h1
  rcases xOpY_ext hYy hs hC hX hx with ⟨_, hsv, ⟨rfl, f, fs, cs, fo, args, ty, h1, h2, h3⟩ | ⟨rfl, h1⟩ | h1⟩ | h1
  · exact wpIn_of_wp r n (opOk_def ho) (ext_wp hr hρ h1 h2 h3 fun u hu => hn u β w (Step.refl hr) (by rw [hsv]; exact hu))
  · refine wpIn_of_wp r n (opOk_def ho) ?_
    obtain ⟨u, g1, g2⟩ := aMore_rel hr hρ h1
    unfold Oper.wp
    rw [g1]
    exact hn u β w (Step.refl hr) (by rw [hsv]; exact g2)
  · exact opR_wp r n hr hρ ho h1 hyn (by rw [hsv] at hn; exact hn)
  · exact opR_wp r n hr hρ' ho h1 hyn hn

theorem opK_of {c : EffF} {o : Oper} {ρ : Operand → AVal} {h h' : List AObj} {v : AVal} {K : AVal → List AObj → Prop} (hR : OpR P c o ρ h v h') (hK : K v h') : opK P o ρ h K := by
  unfold opK
  cases hR with
  | pure hx hl =>
    have hz : zOp c o.op = false := by
      obtain ⟨dst, op, type, pos, after, guard⟩ := o
      cases op <;> first | rfl | (simp [aPure] at hx; done)
    split
    · rename_i fo args ty hop
      exfalso
      obtain ⟨dst, op, type, pos, after, guard⟩ := o
      simp only at hop
      subst hop
      simp [aPure] at hx
    · rw [if_neg (by simp [hz])]
      by_cases hf : frzOp c o.op = true
      · exfalso
        obtain ⟨dst, op, type, pos, after, guard⟩ := o
        unfold frzOp at hf
        split at hf
        · rename_i hop
          simp only at hop
          subst hop
          simp [aPure] at hx
        · rename_i hop
          simp only at hop
          subst hop
          simp [aPure] at hx
        · cases hf
      · rw [if_neg hf]
        by_cases he : isEff o.op = true
        · exfalso
          obtain ⟨dst, op, type, pos, after, guard⟩ := o
          unfold isEff at he
          split at he <;> first | (cases he; done) | skip
          all_goals (rename_i hop; simp only at hop; subst hop; simp [aPure] at hx)
        · rw [if_neg he, if_pos hl, hx]
          exact hK
  | eff h2 hx hn hf hs hz =>
    split
    · rename_i fo args ty hop
      exfalso
      obtain ⟨dst, op, type, pos, after, guard⟩ := o
      simp only at hop
      subst hop
      simp [aEff] at hx
    · rw [if_neg (by simp [hz]), if_neg (by simp [hf])]
      by_cases he : isEff o.op = true
      · rw [if_pos he, if_pos ⟨hn, hs⟩, hx]
        exact hK
      · exfalso
        obtain ⟨dst, op, type, pos, after, guard⟩ := o
        apply he
        unfold aEff at hx
        split at hx <;> first | (cases hx; done) | skip
        all_goals (rename_i hop; simp only at hop; subst hop; rfl)
  | same hx hz =>
    split
    · rename_i fo args ty hop
      rw [hop] at hz
      cases hz
    · rw [if_pos hz]
      exact ⟨_, hx, hK⟩
  | call fo args ty hop hc hn =>
    rw [hop]
    exact .inl ⟨hn, _, hc, hK⟩
  | frz hx hf =>
    have hz : zOp c o.op = false := by
      obtain ⟨dst, op, type, pos, after, guard⟩ := o
      cases op <;> first | rfl | (simp [frzOp] at hf; done)
    split
    · rename_i fo args ty hop
      rw [hop] at hf
      cases hf
    · rw [if_neg (by simp [hz]), if_pos hf, hx]
      exact hK
  | callTo h2 fo args ty hop hb hc hn =>
    rw [hop]
    exact .inr (.inl ⟨hn, hb, _, _, hc, hK⟩)
  | mk h2 fo args ty hop hb hc hn =>
    rw [hop]
    exact .inr (.inr (.inr ⟨hn, hb, _, _, hc, hK⟩))
  | yield h2 fo args ty yv y hop hfo hb hy hc hv hn =>
    rw [hop]
    subst hv
    exact .inr (.inr (.inl ⟨hn, yv, y, _, hy, hfo, hb, hc, hK⟩))

end
end Go.AW

/- The run of closed code is sound. -/
namespace Go.AW
open Go Go.RowKit
set_option linter.unusedSimpArgs false

section
variable {P : Program} {X : XT}

theorem xPut_get {N : Nat} {o : Oper} {m : Tr} {Y : Option Yd} {yv : Value} {env : List (Nat × AVal)} (ho : opOk N o = true) (hN : N < 50000) (he : ∀ t, look env t = sg Y yv (m.get t)) (v : AVal) : ∀ t, look (putA o.dst (sg Y yv v) env) t = sg Y yv ((xPut o.dst v m).get t) := by
  intro t
  rw [look_putA]
  unfold xPut
  cases hd : o.dst with
  | none => simp [he]
  | some d =>
    have hdN : d < N := opOk_dst ho d hd
    simp only [Option.some.injEq]
    rw [Tr.get_put _ _ _ _ _ (Nat.lt_trans (Nat.succ_lt_succ hdN) (by simp; omega))]
    by_cases h1 : t = d
    · subst h1; simp
    · rw [if_neg (fun e => h1 e.symm), if_neg h1, he]

theorem sg_bool {Y : Option Yd} {yv : Value} {b : Bool} : sg Y yv (.val (.bool b)) = .val (.bool b) := by cases Y <;> rfl
theorem sg_tuple {Y : Option Yd} {yv : Value} {us : Array Value} : sg Y yv (.val (.tuple us)) = .val (.tuple us) := by cases Y <;> rfl
theorem sg_undef {Y : Option Yd} {yv : Value} : sg Y yv (.val undef) = .val undef := by cases Y <;> rfl

theorem evF_congr {env : List (Nat × AVal)} {m : Tr} (he : ∀ t, look env t = m.get t) : ev env = evF m.get := by
  rw [ev_evF]
  congr 1
  funext t; exact he t

theorem xList_seq {rec : Job → Option Res} {Y : Option Yd} {yv : Value} {y : List AVal → List AObj → List AObj → Prop} (hYy : ∀ yd, Y = some yd → ∀ args h1 h2, xRound rec yd args h1 = some h2 → y args h1 h2) (n : Nat) (hC : CallsOk P rec) (hX : X.Good P) {W0 : World} {ok0 A : Nat → Prop} {N : Nat} {B : Bs} (hN : N < 50000) {ops : List Oper} {c : EffF} (hB : BOk P (yE yv y c Y) W0 ok0 A B) {Q : Exit → Act → World → Prop} {e : Exit} {m' : Tr} {h' : List AObj} :
    ∀ (l : List Oper) (m : Tr) (h : List AObj) (s : ASt) (a : Act) (w : World), l.all (opOk N) = true → l.all (opY (yE yv y c Y)) = true → xList P X rec c Y false ops l m h = some (e, m', h') → (∀ t, look s.env t = sg Y yv (m.get t)) → s.heap = h → FR W0 ok0 A N B s a w →
      (∀ s' a' w', (∀ t, look s'.env t = sg Y yv (m'.get t)) → s'.heap = h' → FR W0 ok0 A N B s' a' w' → Q .normal a' w') → e = .normal ∧ wpListIn (Fd B.rd) n P ops.toArray Q l a w := by
  intro l
  induction l with
  | nil =>
    intro m h s a w _ _ hx hs hh hf hQ
    simp only [xList, Option.some.injEq, Prod.mk.injEq] at hx
    obtain ⟨rfl, rfl, rfl⟩ := hx
    exact ⟨rfl, hQ s a w hs hh hf⟩
  | cons o rest ih =>
    intro m h s a w hall hally hx hs hh hf hQ
    subst hh
    simp only [List.all_cons, Bool.and_eq_true] at hall hally
    obtain ⟨ho, hrest⟩ := hall
    obtain ⟨hoy, hresty⟩ := hally
    replace hoy := opY_dst hoy hB.v0
    obtain ⟨β, hr, henv, hsz, hd⟩ := hf
    have skip : xList P X rec c Y false ops rest (xPut o.dst (.val undef) m) s.heap = some (e, m', h') → e = .normal ∧ wpListIn (Fd B.rd) n P ops.toArray Q rest (a.put o.dst undef) w := fun hk =>
      ih _ _ ⟨putA o.dst (sg Y yv (.val undef)) s.env, s.heap⟩ _ _ hrest hresty hk (xPut_get ho hN hs _) rfl (by rw [sg_undef]; exact FR.put henv hsz hd ho hoy (Step.refl hr) (.val _)) hQ
    have run : ∀ v h2, xOpY P X rec c Y false o (evF m.get) s.heap = some (v, h2) → xList P X rec c Y false ops rest (xPut o.dst v m) h2 = some (e, m', h') → e = .normal ∧ o.wpIn (Fd B.rd) n P a w (wpListIn (Fd B.rd) n P ops.toArray Q rest) Q := fun v h2 hv hk => by
      have key : ∀ u β' w', Step W0 ok0 A β s.heap w β' h2 w' → VR W0 ok0 β' h2 w' (sg Y yv v) u → e = .normal ∧ wpListIn (Fd B.rd) n P ops.toArray Q rest (a.put o.dst u) w' := fun u β' w' hst hvu =>
        ih _ _ ⟨putA o.dst (sg Y yv v) s.env, h2⟩ _ _ hrest hresty hk (xPut_get ho hN hs _) rfl (FR.put henv hsz hd ho hoy hst hvu) hQ
      by_cases he : e = .normal
      · exact ⟨he, xOp_wp hYy hC hX B.rd n hr hs henv ho (fun yv' y' hy args h' vs hyy har => hd.yield hB hr hy hyy har) hv fun u β' w' hst hvu => (key u β' w' hst hvu).2⟩
      · exfalso
        have hno : ∀ (l : List Oper) (m : Tr) (h : List AObj), xList P X rec c Y false ops l m h = some (e, m', h') → e = .normal := by
          intro l
          induction l with
          | nil => intro m h hx; simp only [xList, Option.some.injEq, Prod.mk.injEq] at hx; exact hx.1.symm
          | cons o r ih =>
            intro m h hx
            simp only [xList] at hx
            split at hx
            · split at hx
              · exact ih _ _ hx
              · cases hx
            · exact ih _ _ hx
            · cases hx
        exact he (hno _ _ _ hk)
    simp only [xList] at hx
    unfold wpListIn
    cases hw : xWant ops o m with
    | none => rw [hw] at hx; cases hx
    | some b =>
      rw [hw] at hx
      have hg : Region.wanted o (yielded ops.toArray a.tmps) = b := by
        unfold xWant at hw
        split at hw
        · rename_i hg; cases hw; simp [Region.wanted, hg]
        · rename_i j want hg
          split at hw
          · rename_i t ht
            split at hw
            · rename_i b' hb
              cases hw
              have hy := yielded_bool (ops := ops) ht (by have := henv t; rw [hs, hb, sg_bool] at this; exact this)
              by_cases hbw : b' = want
              · simp [Region.wanted, hg, hy, hbw]
              · simp [Region.wanted, hg, hy, hbw]
            · rename_i us hb
              cases hw
              have hy := yielded_tuple (ops := ops) ht (by have := henv t; rw [hs, hb, sg_tuple] at this; exact this)
              simp [Region.wanted, hg, hy]
            · cases hw
          · cases hw
      cases b with
      | true =>
        simp only at hx
        rw [if_pos hg]
        cases hv : xOpY P X rec c Y false o (evF m.get) s.heap with
        | none => rw [hv] at hx; cases hx
        | some r =>
          obtain ⟨v, h2⟩ := r
          rw [hv] at hx
          obtain ⟨g1, g2⟩ := run v h2 hv hx
          exact ⟨g1, g2⟩
      | false =>
        simp only at hx
        rw [if_neg (by simp [hg])]
        exact ⟨(skip hx).1, fun _ _ => trivial, (skip hx).2⟩

theorem xList_normal {rec : Job → Option Res} {c : EffF} {Y : Option Yd} {d : Bool} {ops : List Oper} {e : Exit} {m' : Tr} {h' : List AObj} : ∀ (l : List Oper) (m : Tr) (h : List AObj), xList P X rec c Y d ops l m h = some (e, m', h') → e = .normal := by
  intro l
  induction l with
  | nil => intro m h hx; simp only [xList, Option.some.injEq, Prod.mk.injEq] at hx; exact hx.1.symm
  | cons o r ih =>
    intro m h hx
    simp only [xList] at hx
    split at hx
    · split at hx
      · exact ih _ _ hx
      · cases hx
    · exact ih _ _ hx
    · cases hx

/-- In a region that draws its order: as the abstract machine asks. -/
theorem xList_draw {rec : Job → Option Res} {Y : Option Yd} {yv : Value} {y : List AVal → List AObj → List AObj → Prop} (hYy : ∀ yd, Y = some yd → ∀ args h1 h2, xRound rec yd args h1 = some h2 → y args h1 h2) (hC : CallsOk P rec) (hX : X.Good P) {N : Nat} (hN : N < 50000) {ops : List Oper} {c : EffF} {e : Exit} {m' : Tr} {h' : List AObj} :
    ∀ (l : List Oper) (m : Tr) (h : List AObj) (s : ASt), l.all (opOk N) = true → xList P X rec c Y true ops l m h = some (e, m', h') → (∀ t, look s.env t = sg Y yv (m.get t)) → s.heap = h →
      @awpList P (yE yv y c Y) ops (fun s' => (∀ t, look s'.env t = sg Y yv (m'.get t)) ∧ s'.heap = h') l s := by
  intro l
  induction l with
  | nil =>
    intro m h s _ hx hs hh
    simp only [xList, Option.some.injEq, Prod.mk.injEq] at hx
    obtain ⟨_, rfl, rfl⟩ := hx
    exact ⟨hs, hh⟩
  | cons o rest ih =>
    intro m h s hall hx hs hh
    subst hh
    simp only [List.all_cons, Bool.and_eq_true] at hall
    obtain ⟨ho, hrest⟩ := hall
    have run : ∀ v h2, xOpY P X rec c Y true o (evF m.get) s.heap = some (v, h2) → xList P X rec c Y true ops rest (xPut o.dst v m) h2 = some (e, m', h') →
        @opK P (yE yv y c Y) o (ev s.env) s.heap (fun v h' => @awpList P (yE yv y c Y) ops (fun s' => (∀ t, look s'.env t = sg Y yv (m'.get t)) ∧ s'.heap = _) rest ⟨putA o.dst v s.env, h'⟩) := fun v h2 hv hk => by
      rcases xOpY_ext hYy hs hC hX hv with ⟨h1, _⟩ | h1
      · cases h1
      · exact opK_of h1 (ih _ _ ⟨putA o.dst (sg Y yv v) s.env, h2⟩ hrest hk (xPut_get ho hN hs _) rfl)
    have skip : xList P X rec c Y true ops rest (xPut o.dst (.val undef) m) s.heap = some (e, m', h') → @awpList P (yE yv y c Y) ops (fun s' => (∀ t, look s'.env t = sg Y yv (m'.get t)) ∧ s'.heap = _) rest ⟨putA o.dst (.val undef) s.env, s.heap⟩ := fun hk => by
      have := ih _ _ ⟨putA o.dst (sg Y yv (.val undef)) s.env, s.heap⟩ hrest hk (xPut_get ho hN hs _) rfl
      rw [sg_undef] at this; exact this
    simp only [xList] at hx
    simp only [awpList]
    cases hw : xWant ops o m with
    | none => rw [hw] at hx; cases hx
    | some b =>
      rw [hw] at hx
      have go : ∀ bb, bb = b → (bb = true → ∃ v h2, xOpY P X rec c Y true o (evF m.get) s.heap = some (v, h2) ∧ xList P X rec c Y true ops rest (xPut o.dst v m) h2 = some (e, m', h')) ∧ (bb = false → xList P X rec c Y true ops rest (xPut o.dst (.val undef) m) s.heap = some (e, m', h')) := by
        rintro bb rfl
        cases bb with
        | true =>
          refine ⟨fun _ => ?_, fun h => by cases h⟩
          simp only at hx
          split at hx
          · rename_i v h2 hv; exact ⟨v, h2, hv, hx⟩
          · cases hx
        | false => exact ⟨fun h => (by cases h), fun _ => hx⟩
      unfold xWant at hw
      split at hw
      · rename_i hg
        cases hw
        simp only [hg]
        obtain ⟨v, h2, g1, g2⟩ := (go true rfl).1 rfl
        exact run v h2 g1 g2
      · rename_i j want hg
        simp only [hg]
        split at hw
        · rename_i t ht
          simp only [ht]
          split at hw
          · rename_i b' hb
            cases hw
            rw [hs, hb, sg_bool]
            simp only
            refine ⟨fun hbw => ?_, fun hbw => ?_⟩
            · obtain ⟨v, h2, g1, g2⟩ := (go true (by simp [hbw])).1 rfl
              exact run v h2 g1 g2
            · exact skip ((go false (by simp [hbw])).2 rfl)
          · rename_i us hb
            cases hw
            rw [hs, hb, sg_tuple]
            exact skip ((go false rfl).2 rfl)
          · cases hw
        · cases hw

theorem xRes_eq {m : Tr} {s : ASt} (hs : ∀ t, look s.env t = m.get t) (r : ResultVar) : resAt P s r = xRes P m s.heap r := by
  cases r
  · simp [resAt, xRes, hs]
  · simp only [resAt, xRes, hs]; rfl

theorem xVal_eq {fn : Func} {m : Tr} {s : ASt} (hs : ∀ t, look s.env t = m.get t) : resVal P fn s = xVal P fn m s.heap := by
  unfold resVal xVal
  rw [show (resAt P s) = (xRes P m s.heap) from funext fun r => xRes_eq hs r]
  rfl

theorem fill_look {args : List AVal} {N : Nat} (h : args.length ≤ N) (hN : N < 50000) (t : Nat) : look (args0 args) t = (Tr.fill 0 args .nil).get t := by
  rw [Tr.get_fill _ _ _ _ (by omega), look_args0]
  simp only [Nat.zero_le, true_and, Nat.zero_add, Nat.sub_zero, Tr.get_nil]
  split
  · rfl
  · rename_i hh; rw [List.getElem?_eq_none (by omega)]; rfl

theorem fillP_look : ∀ (ps : List Nat) (args : List AVal) (m : Tr) (env : List (Nat × AVal)), (∀ p ∈ ps, p < 50000) → (∀ t, look env t = m.get t) → ∀ t, look (ps.zip args ++ env) t = (Tr.fillP ps args m).get t := by
  intro ps
  induction ps with
  | nil => intro args m env _ he t; simpa [Tr.fillP] using he t
  | cons p ps ih =>
    intro args m env hp he t
    cases args with
    | nil => simpa [Tr.fillP] using he t
    | cons v vs =>
      simp only [List.zip_cons_cons, List.cons_append, look, Tr.fillP]
      rw [Tr.get_put _ _ _ _ _ (by have := hp p (by simp); simp; omega)]
      have := ih vs m env (fun q hq => hp q (by simp [hq])) he t
      by_cases h1 : p = t
      · rw [if_pos h1, if_pos h1.symm]
      · rw [if_neg h1, if_neg (fun e => h1 e.symm)]; exact this

/-- Where code runs right, so do calls. -/
theorem xStep_calls {rec : Job → Option Res} {yo : Yd → List AVal → List AObj → List AObj → Prop} (hX : X.Good P) (hS : CodesOk P rec yo) : CallsOk P (xStep P X rec) := by
  intro f args h e m h' hx
  simp only [xStep] at hx
  split at hx
  · rename_i E fn hE hf
    split at hx
    · rename_i c hb
      obtain ⟨hname, hok⟩ := hX.code f E fn c hE hf hb
      split at hx
      · rename_i hargs
        obtain ⟨hargs, hN, hEy⟩ := hargs
        replace hEy : E.y = none := by simpa using hEy
        have key : ∀ e1 m1 h1 x, (e1 = .ret ∨ e1 = .normal) → rec (.code E none c (Tr.fill 0 (args.map nrmA) .nil) h) = some (e1, m1, h1) → xVal P fn m1 h1 = some x → SpecTo P f args h x h1 := by
          intro e1 m1 h1 x he hrun hv
          refine ⟨by simp [callable, hf, hname, hb], fun W0 ok0 A β w vs hr har => ?_⟩
          refine callsIn_wide.1 (callsIn_of_wp_marks (n := 0) hf hb trivial ?_)
          have hsz : vs.size = (args.map nrmA).length := by simp [har.1]
          have hBo : BOk P E W0 ok0 A ⟨β, h, w, none, none⟩ := bok_plain hr hEy rfl rfl
          have hinit : FR W0 ok0 A fn.ntmps ⟨β, h, w, none, none⟩ ⟨args0 (args.map nrmA), h⟩ { tmps := vs ++ Array.replicate (fn.ntmps - vs.size) undef, defers := [] } w :=
            ⟨β, hr, args0_rel (fun v => .undef v) _ hsz (fun t ht => by simp only [List.getElem_map]; exact nrmA_rel (har.2 t (by simpa using ht))), by have h3 := har.1; simp; omega, kp_refl (fun v hv => by cases hv) rfl⟩
          refine hS _ none _ _ _ _ _ _ hrun undef (fun _ _ _ => False) (fun yd h => by cases h) fn.ntmps hok hN 0 W0 ok0 A ⟨β, h, w, none, none⟩ _ _ _ _ hBo (fill_look (by simpa using hargs) hN) rfl hinit (fun s' a w' hs' hh' hfr => ?_)
          subst hh'
          have hfin : LeavesInM (Fd none) 0 P fn a.tmps (fun e w' => ∃ v β', e = .returned v ∧ Step W0 ok0 A β h w β' s'.heap w' ∧ VR W0 ok0 β' s'.heap w' x v) a.defers .returning w' := by
            have hfr0 := hfr
            obtain ⟨_, _, _, _, hk⟩ := hfr0
            obtain ⟨Ds, g1, _⟩ := hk.marks
            refine fr_leave hr.wsize Ds a w' g1 hfr (fun w2 hf2 => ?_)
            obtain ⟨β1, hr1, henv, hs, hk1⟩ := hf2
            obtain ⟨v, q1, q2⟩ := resVal_rel (a := a) hr1 henv (show resVal P fn s' = some x by rw [xVal_eq hs']; exact hv)
            exact ⟨v, q1, v, β1, rfl, ⟨hr1, hk1.base, hk1.len, hk1.ok, hk1.wsz⟩, q2⟩
          rcases he with rfl | rfl
          · exact hfin
          · exact hfin
        split at hx
        · rename_i m1 h1 hrun
          obtain ⟨x, hv, he⟩ := Option.map_eq_some_iff.1 hx
          cases he
          exact key _ _ _ _ (.inl rfl) hrun hv
        · rename_i m1 h1 hrun
          obtain ⟨x, hv, he⟩ := Option.map_eq_some_iff.1 hx
          cases he
          exact key _ _ _ _ (.inr rfl) hrun hv
        · cases hx
      · cases hx
    · cases hx
  · cases hx

theorem yfill_sg {args : List AVal} {yv : Value} {yd : Yd} (hay : args.all (fun x => !isD x) = true) (t : Nat) : look (args0 (.val yv :: args)) t = sg (some yd) yv (look (args0 (dumY :: args)) t) := by
  rw [look_args0, look_args0]
  cases t with
  | zero => rfl
  | succ t =>
    simp only [List.getElem?_cons_succ]
    cases ha : args[t]? with
    | none => rfl
    | some x =>
      have := List.all_eq_true.1 hay x (List.mem_of_getElem? ha)
      simp only [Option.getD_some]
      have h2 : isD x = false := by simpa using this
      simp [sg, h2]

/-- Where code runs right, so do functions that are called with a yield. -/
theorem xStep_ycalls {rec : Job → Option Res} {yo : Yd → List AVal → List AObj → List AObj → Prop} (hX : X.Good P) (hS : CodesOk P rec yo) {f : FuncId} {yd : Yd} {args : List AVal} {h h' : List AObj} {e : Exit} {m : Tr} (hx : xStep P X rec (.ycall f yd args h) = some (e, m, h')) {y : List AVal → List AObj → List AObj → Prop} (hy : ∀ args h1 h2, yo yd args h1 h2 → y args h1 h2) : SpecY P f y args h h' := by
  simp only [xStep] at hx
  split at hx
  · rename_i E fn hE hf
    split at hx
    · rename_i c hb
      obtain ⟨hname, hok⟩ := hX.code f E fn c hE hf hb
      split at hx
      · rename_i hargs
        obtain ⟨hargs, hN, hres, hEy, hay⟩ := hargs
        obtain ⟨⟨yv0, y0⟩, hy0⟩ := Option.isSome_iff_exists.1 hEy
        have hE0 : E = effY E yv0 y0 := by cases E; simp only at hy0; subst hy0; rfl
        rw [hE0] at hok
        have hres' : fn.results = #[] := by simpa using hres
        have key : ∀ e1 m1 h1, (e1 = .ret ∨ e1 = .normal) → rec (.code E (some yd) c (Tr.fill 0 (dumY :: args) .nil) h) = some (e1, m1, h1) → SpecY P f y args h h1 := by
          intro e1 m1 h1 he hrun
          refine ⟨by simp [callable, hf, hname, hb], fun W0 ok0 A β w vs yv hr har hyk => ?_⟩
          refine callsIn_wide.1 (callsIn_of_wp_marks (n := 0) hf hb trivial ?_)
          have hsz : (#[yv] ++ vs).size = (AVal.val yv :: args).length := by simp [har.1]; omega
          have hBo : BOk P (yE yv y E (some yd)) W0 ok0 A ⟨β, h, w, none, none⟩ := ⟨hr, fun yv' y' h => by cases h; exact hyk, (fun h => by cases h), (fun l h => by cases h)⟩
          have hinit : FR W0 ok0 A fn.ntmps ⟨β, h, w, none, none⟩ ⟨args0 (.val yv :: args), h⟩ { tmps := (#[yv] ++ vs) ++ Array.replicate (fn.ntmps - (#[yv] ++ vs).size) undef, defers := [] } w := by
            refine ⟨β, hr, args0_rel (fun v => .undef v) _ hsz (fun t ht => ?_), by simp; have := har.1; omega, kp_refl (fun v hv => ?_) rfl⟩
            · cases t with
              | zero =>
                have e0 : (#[yv] ++ vs).getD 0 undef = yv := by simp [Array.getElem?_append]
                rw [e0]; exact .val _
              | succ t =>
                have h1 := har.2 t (by simpa using ht)
                have e2 : (#[yv] ++ vs).getD (t + 1) undef = vs.getD t undef := by
                  simp only [Array.getD_eq_getD_getElem?]
                  rw [Array.getElem?_append_right (by simp)]; simp
                rw [e2]; simpa using h1
            · cases hv
          refine hS _ (some yd) _ _ _ _ _ _ hrun yv y (fun yd' h => by cases h; exact hy) fn.ntmps (by rw [show yE yv y E (some yd) = effY E yv y from rfl, codeOk_y E yv yv0 y y0]; exact hok) hN 0 W0 ok0 A ⟨β, h, w, none, none⟩ _ _ _ _ hBo (fun t => ?_) rfl hinit (fun s' a w' hs' hh' hfr => ?_)
          · rw [yfill_sg (yd := yd) hay t, fill_look (args := dumY :: args) (by simpa using hargs) hN]
          subst hh'
          have hfin : LeavesInM (Fd none) 0 P fn a.tmps (fun e w' => ∃ v β', e = .returned v ∧ Step W0 ok0 A β h w β' s'.heap w') a.defers .returning w' := by
            have hfr0 := hfr
            obtain ⟨_, _, _, _, hk⟩ := hfr0
            obtain ⟨Ds, g1, _⟩ := hk.marks
            refine fr_leave hr.wsize Ds a w' g1 hfr (fun w2 hf2 => ?_)
            obtain ⟨β1, hr1, henv, hs, hk1⟩ := hf2
            exact ⟨.tuple #[], by simp [results, hres'], .tuple #[], β1, rfl, ⟨hr1, hk1.base, hk1.len, hk1.ok, hk1.wsz⟩⟩
          rcases he with rfl | rfl
          · exact hfin
          · exact hfin
        split at hx
        · rename_i m1 h1 hrun
          cases hx
          exact key _ _ _ (.inl rfl) hrun
        · rename_i m1 h1 hrun
          cases hx
          exact key _ _ _ (.inr rfl) hrun
        · cases hx
      · cases hx
    · cases hx
  · cases hx

/-- What the rounds do, by a run with less than n. -/
def yX (P : Program) (X : XT) (n : Nat) (yd : Yd) (args : List AVal) (h1 h2 : List AObj) : Prop := ∃ k, k < n ∧ xRound (xRun P X k) yd args h1 = some h2

theorem xRun_ok (hX : X.Good P) : ∀ n, CallsOk P (xRun P X n) ∧ CodesOk P (xRun P X n) (yX P X n) := by
  intro n
  induction n using Nat.strongRecOn with
  | _ n ih =>
  cases n with
  | zero => exact ⟨fun f args h e m h' hx => by simp [xRun] at hx, fun E Y c m h e m' h' hx => by simp [xRun] at hx⟩
  | succ n =>
    obtain ⟨hC, hS⟩ := ih n (Nat.lt_succ_self n)
    rw [xRun_succ]
    refine ⟨xStep_calls hX hS, ?_⟩
    intro E Y c m h e m' h' hx yv y hY N hok hN nn W0 ok0 A B s a w Q hB hs hh hf hQ
    have hYy : ∀ yd, Y = some yd → ∀ args h1 h2, xRound (xRun P X n) yd args h1 = some h2 → y args h1 h2 := fun yd h args h1 h2 hr => hY yd h _ _ _ ⟨n, Nat.lt_succ_self n, hr⟩
    have hYl : ∀ yd, Y = some yd → ∀ args h1 h2, yX P X n yd args h1 h2 → y args h1 h2 := fun yd h args h1 h2 ⟨k, hk, hr⟩ => hY yd h _ _ _ ⟨k, by omega, hr⟩
    cases c with
    | skip =>
      simp only [xStep, Option.some.injEq, Prod.mk.injEq] at hx
      obtain ⟨rfl, rfl, rfl⟩ := hx
      exact wpIn_skip (hQ s a w hs hh hf)
    | region id ops d =>
      simp only [xStep] at hx
      simp only [codeOk, Bool.and_eq_true, Bool.or_eq_true, Bool.not_eq_true'] at hok
      obtain ⟨⟨h1, h1y⟩, h2⟩ := hok
      have he := xList_normal _ _ _ hx
      subst he
      cases d with
      | true =>
        have := xList_draw (c := E) (yv := yv) (y := y) hYy hC hX hN ops.toList m h s h1 (by simpa using hx) hs hh
        exact draw_sound nn hB hX.mixed (h2.resolve_left (by simp)) h1 h1y (fun s' a' w' hq => hQ s' a' w' hq.1 hq.2) this hf
      | false =>
        have := (xList_seq (Q := Q) (c := effIn E) (yv := yv) (y := y) hYy nn hC hX hN hB.effIn ops.toList m h s a w h1 (opY_in h1y) (by simpa using hx) hs hh hf hQ).2
        simp only [Array.toArray_toList] at this
        exact wpIn_region_list this
    | seq x z =>
      simp only [codeOk, Bool.and_eq_true] at hok
      simp only [xStep] at hx
      split at hx
      · rename_i m1 h1 hrun
        refine wpIn_seq (hS _ Y _ _ _ _ _ _ hrun yv y hYl N hok.1 hN nn W0 ok0 A B s a w _ hB hs hh hf (fun s' a' w' hs' hh' hf' => ?_))
        exact hS _ Y _ _ _ _ _ _ hx yv y hYl N hok.2 hN nn W0 ok0 A B s' a' w' Q hB hs' hh' hf' hQ
      · rename_i r hne
        refine wpIn_seq (hS _ Y _ _ _ _ _ _ hx yv y hYl N hok.1 hN nn W0 ok0 A B s a w _ hB hs hh hf (fun s' a' w' hs' hh' hf' => ?_))
        have := hQ s' a' w' hs' hh' hf'
        cases e with
        | normal => exact absurd hx (hne _ _)
        | _ => exact this
    | cond c x z =>
      simp only [codeOk, Bool.and_eq_true] at hok
      simp only [xStep] at hx
      obtain ⟨β, hr, henv, hsz, hd⟩ := hf
      have hcc : ∀ b, evF m.get c = .val (.bool b) → a.eval c = .bool b := fun b hb => by
        have hc := ev_rel hr.tab henv c
        have : ev s.env c = .val (.bool b) := by
          cases c with
          | tmp t => simp only [evF] at hb; simp only [ev, hs t, hb, sg_bool]
          | _ => exact hb
        rw [this] at hc
        generalize a.eval c = u at hc
        cases hc; rfl
      split at hx
      · rename_i hb
        have hcb := hcc _ hb
        exact wpIn_cond hcb (hS _ Y _ _ _ _ _ _ hx yv y hYl N hok.1 hN nn W0 ok0 A B s a w Q hB hs hh ⟨β, hr, henv, hsz, hd⟩ hQ)
      · rename_i hb
        have hcb := hcc _ hb
        exact wpIn_cond hcb (hS _ Y _ _ _ _ _ _ hx yv y hYl N hok.2 hN nn W0 ok0 A B s a w Q hB hs hh ⟨β, hr, henv, hsz, hd⟩ hQ)
      · cases hx
    | block id c =>
      simp only [xStep] at hx
      simp only [codeOk] at hok
      split at hx
      · rename_i id' m1 h1 hrun
        refine wpIn_block (hS _ Y _ _ _ _ _ _ hrun yv y hYl N hok hN nn W0 ok0 A B s a w _ hB hs hh hf (fun s' a' w' hs' hh' hf' => ?_))
        simp only [Exit.inBlock]
        split at hx
        · rename_i hid
          cases hx
          rw [if_pos hid]
          exact hQ s' a' w' hs' hh' hf'
        · rename_i hid
          cases hx
          rw [if_neg hid]
          exact hQ s' a' w' hs' hh' hf'
      · rename_i r hne
        refine wpIn_block (hS _ Y _ _ _ _ _ _ hx yv y hYl N hok hN nn W0 ok0 A B s a w _ hB hs hh hf (fun s' a' w' hs' hh' hf' => ?_))
        have := hQ s' a' w' hs' hh' hf'
        cases e with
        | exit id' => exact absurd hx (hne _ _ _)
        | _ => exact this
    | loop c =>
      simp only [codeOk] at hok
      refine wp_loop_fuel (fun k a w => k ≤ n + 1 ∧ ∃ m h s, xRun P X k (.code E Y (.loop c) m h) = some (e, m', h') ∧ (∀ t, look s.env t = sg Y yv (m.get t)) ∧ s.heap = h ∧ FR W0 ok0 A N B s a w) ?_ (n := n + 1) ⟨Nat.le_refl _, m, h, s, by rw [xRun_succ]; exact hx, hs, hh, hf⟩
      rintro k a w ⟨hk, m, h, s, hx, hs, hh, hf⟩
      cases k with
      | zero => simp [xRun] at hx
      | succ k =>
        obtain ⟨_, hSk⟩ := ih k (by omega)
        have hYk : ∀ yd, Y = some yd → ∀ args h1 h2, yX P X k yd args h1 h2 → y args h1 h2 := fun yd h args h1 h2 ⟨j, hj, hr⟩ => hY yd h _ _ _ ⟨j, by omega, hr⟩
        rw [xRun_succ] at hx
        simp only [xStep] at hx
        split at hx
        · rename_i m1 h1 hrun
          refine hSk _ Y _ _ _ _ _ _ hrun yv y hYk N hok hN nn W0 ok0 A B s a w _ hB hs hh hf (fun s' a' w' hs' hh' hf' => ?_)
          exact ⟨k, Nat.lt_succ_self k, by omega, m1, h1, s', hx, hs', hh', hf'⟩
        · rename_i r hne
          refine hSk _ Y _ _ _ _ _ _ hx yv y hYk N hok hN nn W0 ok0 A B s a w _ hB hs hh hf (fun s' a' w' hs' hh' hf' => ?_)
          have := hQ s' a' w' hs' hh' hf'
          cases e with
          | normal => exact absurd hx (hne _ _)
          | _ => exact this
    | rangeFunc g ps x c =>
      cases Y with
      | some yd => simp [xStep] at hx
      | none =>
        simp only [codeOk, Bool.and_eq_true] at hok
        obtain ⟨⟨⟨hokx, hokc⟩, hps⟩, hnd⟩ := hok
        simp only [xStep] at hx
        split at hx
        · rename_i f cs hg
          split at hx
          · rename_i e1 m1 h1 hrun
            cases hx
            subst hh
            have hg' : ev s.env g = .func (.func f) [] cs := by rw [evF_congr hs]; exact hg
            have hps' : ∀ p ∈ ps.toList, p < 50000 := fun p hp => by
              have := List.all_eq_true.1 hps p hp
              simp only [Bool.and_eq_true, decide_eq_true_eq] at this
              exact Nat.lt_trans this.1 hN
            cases n with
            | zero => simp [xRun] at hrun
            | succ n =>
              obtain ⟨_, hSn⟩ := ih n (by omega)
              rw [xRun_succ] at hrun
              refine range_sound hB hps hnd hg' (xStep_ycalls hX hSn hrun (fun _ _ _ h => h)) (fun args h2 h3 hy => ?_) hf (fun a w hf' => hQ ⟨s.env, h'⟩ a w hs rfl hf')
              obtain ⟨k, hk, hr⟩ := hy
              obtain ⟨_, hSk⟩ := ih k (by omega)
              unfold xRound at hr
              split at hr
              · rename_i hlen
                refine ⟨hlen, ?_⟩
                split at hr
                · rename_i m2 h4 hr1
                  split at hr
                  · rename_i m3 h5 hr2
                    cases hr
                    refine ⟨fun s1 => (∀ t, look s1.env t = m2.get t) ∧ s1.heap = h4, fun n' B' s0 a w Q hBh hB' hs0 hh0 hf0 hQ0 => ?_, fun s1 ⟨hs1, hh1⟩ n' B' a w Q hBh hB' hf1 hQ1 => ?_⟩
                    · exact hSk E none x _ _ _ _ _ hr1 yv y (fun yd h => by cases h) N hokx hN n' W0 ok0 A B' s0 a w Q hB' (fun t => by rw [hs0 t]; exact fillP_look _ _ _ _ hps' hs t) hh0 hf0 (fun s' a' w' h1 h2 h3 => hQ0 s' a' w' ⟨h1, h2⟩ h3)
                    · refine hSk E none c _ _ _ _ _ hr2 yv y (fun yd h => by cases h) N hokc hN n' W0 ok0 A B' s1 a w Q hB' hs1 hh1 hf1 (fun s' a' w' h1 h2 h3 => hQ1 s' a' w' ?_ h3)
                      rw [h2]; exact Wk.refl _ _
                  · cases hr
                · cases hr
              · cases hr
          · cases hx
        · cases hx
    | exit id =>
      simp only [xStep, Option.some.injEq, Prod.mk.injEq] at hx
      obtain ⟨rfl, rfl, rfl⟩ := hx
      exact wpIn_exit (hQ s a w hs hh hf)
    | ret =>
      simp only [xStep, Option.some.injEq, Prod.mk.injEq] at hx
      obtain ⟨rfl, rfl, rfl⟩ := hx
      exact wpIn_ret (hQ s a w hs hh hf)
    | _ => simp [xStep] at hx

/-- What a function gives for closed arguments. -/
noncomputable def xCall (P : Program) (X : XT) (n : Nat) (f : FuncId) (args : List AVal) : Option AVal :=
  match xRun P X n (.call f args []) with
  | some (_, m, h') => some (resOf h' 8 (m.get 0))
  | none => none

theorem Contract.run (hX : X.Good P) (n : Nat) {f : FuncId} {args : List AVal} {r : AVal} (h : xCall P X n f args = some r) : Contract P f args r := by
  unfold xCall at h
  split at h
  · rename_i e m h' hx
    cases h
    exact Contract.ofSpec 8 ((xRun_ok hX n).1 _ _ _ _ _ _ hx)
  · cases h

end
end Go.AW

/- Tables for the run of closed code. -/
namespace Go.AW
open Go Go.RowKit
set_option linter.unusedSimpArgs false

def lookE : List (Nat × EffF) → Nat → Option EffF
  | [], _ => none
  | (k, e) :: r, f => bif Nat.beq k f then some e else lookE r f

theorem lookE_mem : ∀ (l : List (Nat × EffF)) (f : Nat) (e : EffF), lookE l f = some e → (f, e) ∈ l
  | [], f, e, h => by cases h
  | (k, e') :: r, f, e, h => by
    simp only [lookE] at h
    cases hk : Nat.beq k f with
    | true =>
      rw [hk] at h
      simp only [cond_true, Option.some.injEq] at h
      subst h
      have : k = f := Nat.eq_of_beq_eq_true hk
      subst this
      exact List.mem_cons_self
    | false =>
      rw [hk] at h
      exact List.mem_cons_of_mem _ (lookE_mem r f e h)

/-- A function may be run by these flags. -/
def chkE (P : Program) (p : Nat × EffF) : Bool :=
  match P.funcs[p.1]? with
  | some fn => match fn.body with
    | some c => !(fn.name == "runtime.NumGoroutine") && codeOk fn.ntmps p.2 c
    | none => true
  | none => true

theorem chkE_code {P : Program} {l : List (Nat × EffF)} (h : l.all (chkE P) = true) : ∀ f e fn c, lookE l f = some e → P.funcs[f]? = some fn → fn.body = some c → (fn.name == "runtime.NumGoroutine") = false ∧ codeOk fn.ntmps e c = true := by
  intro f e fn c he hf hb
  have h1 := List.all_eq_true.1 h _ (lookE_mem l f e he)
  simp only [chkE, hf, hb, Bool.and_eq_true, Bool.not_eq_true'] at h1
  exact h1

def lookS : List (Nat × (Array Value → Sem Value)) → Nat → Option (Array Value → Sem Value)
  | [], _ => none
  | (k, e) :: r, f => bif Nat.beq k f then some e else lookS r f

theorem lookS_mem : ∀ (l : List (Nat × (Array Value → Sem Value))) (f : Nat) (e : Array Value → Sem Value), lookS l f = some e → (f, e) ∈ l
  | [], f, e, h => by cases h
  | (k, e') :: r, f, e, h => by
    simp only [lookS] at h
    cases hk : Nat.beq k f with
    | true =>
      rw [hk] at h
      simp only [cond_true, Option.some.injEq] at h
      subst h
      have : k = f := Nat.eq_of_beq_eq_true hk
      subst this
      exact List.mem_cons_self
    | false =>
      rw [hk] at h
      exact List.mem_cons_of_mem _ (lookS_mem r f e h)

def hasN : List Nat → Nat → Bool
  | [], _ => false
  | k :: r, f => bif Nat.beq k f then true else hasN r f
theorem hasN_mem : ∀ (l : List Nat) (f : Nat), hasN l f = true → f ∈ l
  | [], f, h => by cases h
  | k :: r, f, h => by
    simp only [hasN] at h
    cases hk : Nat.beq k f with
    | true =>
      have : k = f := Nat.eq_of_beq_eq_true hk
      subst this
      exact List.mem_cons_self
    | false => rw [hk] at h; exact List.mem_cons_of_mem _ (hasN_mem r f h)

def valsOf : List AVal → Option (List Value)
  | [] => some []
  | .val v :: r => (valsOf r).map (v :: ·)
  | _ => none
theorem valsOf_eq : ∀ (l : List AVal) (m : List Value), valsOf l = some m → l = m.map .val
  | [], m, h => by cases h; rfl
  | x :: r, m, h => by
    unfold valsOf at h
    split at h
    · rename_i h0; cases h0
    · rename_i v r' h0
      cases h0
      obtain ⟨m', h1, rfl⟩ := Option.map_eq_some_iff.1 h
      rw [valsOf_eq r m' h1]; rfl
    · cases h

/-- Functions without a text: those that give what they are given, and those that ask nothing of the world. -/
def extE (P : Program) (ids : List Nat) (st : List (Nat × (Array Value → Sem Value))) (f : FuncId) (avs : List AVal) : Option AVal :=
  bif hasN ids f then (match avs with | [x] => some x | _ => none) else match lookS st f with
    | some e => match valsOf avs with
      | some l => (static P (e l.toArray)).map .val
      | none => none
    | none => none

/-- It has no text, and this row. -/
def NoText (P : Program) (f : FuncId) (e : Array Value → Sem Value) : Prop :=
  ∃ fn, P.funcs[f]? = some fn ∧ (fn.name == "runtime.NumGoroutine") = false ∧ fn.body.isNone = true ∧ (Extern.findNext fn).isNone = true ∧ Extern.find fn = some e

theorem extE_ok {P : Program} {ids : List Nat} {st : List (Nat × (Array Value → Sem Value))} (h1 : ∀ f ∈ ids, NoText P f Extern.AbiNoEscape.same) (h2 : ∀ p ∈ st, NoText P p.1 p.2) : ∀ f avs v, extE P ids st f avs = some v → ExtOk P f avs v := by
  intro f avs v h
  unfold extE at h
  cases hi : hasN ids f with
  | true =>
    rw [hi] at h
    simp only [cond_true] at h
    split at h
    · cases h
      obtain ⟨fn, a, b, c, d, e⟩ := h1 f (hasN_mem _ _ hi)
      exact ExtOk.ident a b c d e _
    · cases h
  | false =>
    rw [hi] at h
    simp only [cond_false] at h
    split at h
    · rename_i e he
      split at h
      · rename_i l hl
        obtain ⟨u, hu, rfl⟩ := Option.map_eq_some_iff.1 h
        obtain ⟨fn, a, b, c, d, g⟩ := h2 _ (lookS_mem _ _ _ he)
        rw [valsOf_eq _ _ hl]
        exact ExtOk.stat a b c d g hu
      · cases h
    · cases h

def noOrc : FuncId → List AVal → Option AVal := fun _ _ => none
theorem noOrc_ok {P : Program} : ∀ f args r, noOrc f args = some r → Contract P f args r := fun _ _ _ h => by cases h

theorem XT.good {P : Program} {l : List (Nat × EffF)} {chg : FuncId → Bool} {ids : List Nat} {st : List (Nat × (Array Value → Sem Value))} {orc : FuncId → List AVal → Option AVal} (hm : P.follows .mixedOrders = true) (h1 : l.all (chkE P) = true)
    (h2 : ∀ f avs v, extE P ids st f avs = some v → ExtOk P f avs v) (h3 : ∀ f args r, orc f args = some r → Contract P f args r) : XT.Good P ⟨lookE l, chg, extE P ids st, orc⟩ := ⟨hm, chkE_code h1, h2, h3⟩

end Go.AW
