/- An abstract machine over the model: what it says of a function's code, the model does. -/
import Derived.ProofKit
import Derived.OpenShut
import Derived.Deep.Grids
import Derived.Test.YtcconjlcjinfkaaDoorBw1
/- Code: what an abstract state must meet ahead of it. -/
namespace Go.AW
open Go Go.RowKit

/-- b: which calls may change the heap here? n: which appends, by their first operand, are to slices that have no object? f: which of these give a slice that nothing writes any more? l: which loads, by their address, are from no object of D? D: which objects may stores write? -/
class EffF where
  b : Operand → Bool
  n : Operand → Bool
  f : Operand → Bool
  l : Operand → Bool
  D : Nat → Bool
  z : Operand → Bool
/-- Calls of these functions, and (t) of function values; appends to these slots that make an object (ns), or a slice that nothing writes any more (fs). -/
abbrev effS (l : List Nat) (t : Bool) (ns : List Nat := []) (fs : List Nat := []) (ls : List Nat := []) (D : Nat → Bool := fun _ => true) (zs : List Nat := []) : EffF := ⟨fun o => match o with | .func f => l.contains f | .tmp _ => t | _ => false, fun o => match o with | .tmp k => ns.contains k | _ => false, fun o => match o with | .tmp k => fs.contains k | _ => false, fun o => match o with | .tmp k => ls.contains k | _ => false, D, fun o => match o with | .tmp k => zs.contains k | _ => false⟩
/-- In a region in the text's order. -/
abbrev effIn (E : EffF) : EffF := ⟨fun _ => true, fun _ => false, E.f, fun _ => false, fun _ => true, fun _ => false⟩

/-- It changes the abstract heap; c: so may these calls. -/
def effOp (c : EffF) : Op → Bool
  | .alloc _ | .makeSlice .. => true
  | .box _ x => !c.f x
  | .call { callee := .builtin .unsafeString, .. } | .call { callee := .builtin .copy, .. } => true
  | .store _ _ v => !c.z v
  | .call { callee := .builtin .append, args, .. } => match args[0]? with
    | some x => !c.f x
    | none => true
  | .call { callee := .value f, .. } => c.b f
  | _ => false

/-- It makes an object and changes none. -/
def alOp (c : EffF) : Op → Bool
  | .alloc _ | .box .. | .makeSlice .. => true
  | .call { callee := .builtin .append, args, .. } => match args[0]? with
    | some x => c.n x
    | none => false
  | _ => false

/-- It does not look at the abstract heap. -/
def nOp : Op → Bool
  | .move _ | .assign _ | .pick .. | .binOp .. | .unOp .. | .convert .. | .makeFunc .. | .field .. | .extract .. | .build .. | .buildSlice .. => true
  | .call { callee := .builtin .min, .. } | .call { callee := .builtin .max, .. } => true
  | _ => false

/-- It looks at no cells of objects that stores may write, but at their lengths. -/
def sOp (c : EffF) : Op → Bool
  | .load _ a => c.l a
  | .indexAddr .. | .fieldAddr .. | .nilCheck _ | .slice .. => true
  | .call { callee := .builtin .len, .. } => true
  | _ => false
/-- It changes cells and no lengths. -/
def stOp : Op → Bool
  | .store .. => true
  | _ => false

/-- One of them writes what the other names. -/
def confl (ops : Array Oper) (x y : Oper) : Bool :=
  (match x.dst with | some d => (y.looksAt ops).contains d || y.dst == some d | none => false) || (match y.dst with | some d => (x.looksAt ops).contains d | none => false)

/-- Their order matters to the abstract heap; x is ahead of y in the text. -/
def effConfl (c : EffF) (x y : Oper) : Bool :=
  if effOp c x.op then !nOp y.op && !(stOp x.op && sOp c y.op) else (effOp c y.op && !nOp x.op && !alOp c y.op && !(stOp y.op && sOp c x.op))

/-- It makes a variable of its type's zero value. -/
def isAl (o : Oper) : Bool := match o.op with
  | .alloc _ => o.guard.isNone
  | _ => false
/-- Two of them, with nothing but their like ahead of the later one and behind the earlier one that changes the abstract heap. -/
def alPair (c : EffF) (ops : Array Oper) (i j : Nat) (x y : Oper) : Bool :=
  isAl x && isAl y && (List.range j).all fun k => decide (k ≤ i) || (match ops[k]? with | some z => !effOp c z.op || isAl z | none => true)

def orB (B : Array Nat) (after : List Edge) : Nat :=
  after.foldl (fun s e => if Region.binds .any e then s ||| (2 ^ e.on ||| B.getD e.on 0) else s) 0

def drawAt (c : EffF) (ops : Array Oper) (B : Array Nat) (j : Nat) (y : Oper) : Bool :=
  (y.after.toList.all fun e => !Region.binds .any e || decide (e.on < j)) && (B.getD j 0 == orB B y.after.toList) &&
    (List.range j).all fun i => match ops[i]? with
      | some x => !(confl ops x y || (effConfl c x y && !alPair c ops i j x y)) || (B.getD j 0).testBit i
      | none => true

def notSelect : Op → Bool
  | .select .. => false
  | _ => true

def drawOk (c : EffF) (ops : Array Oper) : Bool :=
  let B := Region.before ops
  (List.range ops.size).all fun j => match ops[j]? with
    | some y => drawAt c ops B j y && notSelect y.op
    | none => true

/-- A state from which a frame has come. -/
structure Bs where
  β : Nat → Nat × Nat
  h : List AObj
  w : World

/-- A frame and a world stand to an abstract state; what stood in the state B stands. -/
def FR (W0 : World) (ok0 A : Nat → Prop) (N : Nat) (B : Bs) (s : ASt) (a : Act) (w : World) : Prop :=
  ∃ β, HR W0 ok0 A β s.heap w ∧ (∀ t, VR W0 ok0 β s.heap w (look s.env t) (a.tmps.getD t undef)) ∧ a.tmps.size = N ∧ a.defers = [] ∧
    (∀ x v, VR W0 ok0 B.β B.h B.w x v → VR W0 ok0 β s.heap w x v) ∧ B.h.length ≤ s.heap.length

/-- Whatever stands to s stands to s'. -/
def Wk (hb : List AObj) (s s' : ASt) : Prop := ∀ (W0 : World) (ok0 A : Nat → Prop) (N : Nat) (B : Bs) (a : Act) (w : World), B.h = hb ∧ HR W0 ok0 A B.β B.h B.w → FR W0 ok0 A N B s a w → FR W0 ok0 A N B s' a w

theorem Wk.refl (hb : List AObj) (s : ASt) : Wk hb s s := fun _ _ _ _ _ _ _ _ h => h
theorem Wk.trans {hb : List AObj} {s s' s'' : ASt} (h1 : Wk hb s s') (h2 : Wk hb s' s'') : Wk hb s s'' := fun _ _ _ _ _ _ _ hb h => h2 _ _ _ _ _ _ _ hb (h1 _ _ _ _ _ _ _ hb h)
theorem Wk.of_eq {hb : List AObj} {s s' : ASt} (h : s = s') : Wk hb s s' := h ▸ Wk.refl hb s

def isNew : AVal → Bool
  | .cap0 _ | .lit .. => true
  | _ => false
/-- An append that is said to make an object does. -/
def appNew (c : EffF) (o : Oper) (ρ : Operand → AVal) : Bool := match o.op with
  | .call { callee := .builtin .append, args, .. } => match args[0]? with
    | some x => !c.n x || isNew (ρ x)
    | none => true
  | _ => true

def okL (D : Nat → Bool) : AVal → Bool
  | .spot .. => true
  | .ptr id _ _ => !D id
  | _ => false
/-- A load that is said to be from no object of D is. -/
def ldOk (c : EffF) (o : Oper) (ρ : Operand → AVal) : Bool := match o.op with
  | .load _ a => !c.l a || okL c.D (ρ a)
  | _ => true
def okS (D : Nat → Bool) : AVal → Bool
  | .ptr id _ _ => D id
  | _ => false
/-- A store writes an object of D. -/
def stOk (c : EffF) (o : Oper) (ρ : Operand → AVal) : Bool := match o.op with
  | .store _ p _ => okS c.D (ρ p)
  | _ => true

/-- Is it an append whose result nothing writes any more? -/
def frzOp (c : EffF) : Op → Bool
  | .box _ x => c.f x
  | .call { callee := .builtin .append, args, .. } => match args[0]? with
    | some x => c.f x
    | none => false
  | _ => false
def aFrzO (P : Program) (o : Oper) (ρ : Operand → AVal) (h : List AObj) : Option AVal := match o.op with
  | .box e x => match tyI P e, (ρ x).parts with
    | some T, some vs => if vs.length = T.size ∧ T.size ≠ 0 then some (.spot true vs) else none
    | _, _ => none
  | .call { callee := .builtin .append, args, argTypes } => match args.toList.map ρ, argTypes.toList with
    | [s, x], [t, t'] => if t = t' then aFrz P t h s x else none
    | _, _ => none
  | _ => none

/-- A store that is said to change nothing. -/
def zOp (c : EffF) : Op → Bool
  | .store _ _ v => c.z v
  | _ => false

/-- An operation as a relation. -/
inductive OpR (P : Program) (c : EffF) (o : Oper) (ρ : Operand → AVal) (h : List AObj) : AVal → List AObj → Prop
  | pure (v : AVal) (hx : aPure P o ρ h = some v) (hl : ldOk c o ρ = true) : OpR P c o ρ h v h
  | eff (v : AVal) (h' : List AObj) (hx : aEff P o ρ h = some (v, h')) (hn : appNew c o ρ = true) (hz : frzOp c o.op = false) (hs : stOk c o ρ = true) (hnz : zOp c o.op = false) : OpR P c o ρ h v h'
  | same (v : AVal) (hx : aEff P o ρ h = some (v, h)) (hz : zOp c o.op = true) : OpR P c o ρ h v h
  | call (v : AVal) (fo : Operand) (args : Array Operand) (ty : Array TypeId) (ho : o.op = .call { callee := .value fo, args := args, argTypes := ty }) (hc : CallOk P (ρ fo) (args.toList.map ρ) h v) : OpR P c o ρ h v h
  | frz (v : AVal) (hx : aFrzO P o ρ h = some v) (hz : frzOp c o.op = true) : OpR P c o ρ h v h
  | callTo (v : AVal) (h' : List AObj) (fo : Operand) (args : Array Operand) (ty : Array TypeId) (ho : o.op = .call { callee := .value fo, args := args, argTypes := ty }) (he : c.b fo = true) (hc : CallTo P (ρ fo) (args.toList.map ρ) h v h') : OpR P c o ρ h v h'

def isEff : Op → Bool
  | .alloc _ | .box .. | .build .. | .buildSlice .. | .makeSlice .. | .slice .. | .store .. => true
  | .call { callee := .builtin .append, .. } | .call { callee := .builtin .unsafeString, .. } | .call { callee := .builtin .copy, .. } => true
  | _ => false

/-- An operation, and what must be met behind it. -/
def opK (P : Program) [c : EffF] (o : Oper) (ρ : Operand → AVal) (h : List AObj) (K : AVal → List AObj → Prop) : Prop :=
  match o.op with
  | .call { callee := .value fo, args, .. } => (∃ v, CallOk P (ρ fo) (args.toList.map ρ) h v ∧ K v h) ∨ (c.b fo = true ∧ ∃ v h', CallTo P (ρ fo) (args.toList.map ρ) h v h' ∧ K v h')
  | _ => if zOp c o.op = true then (∃ v, aEff P o ρ h = some (v, h) ∧ K v h) else if frzOp c o.op = true then (match aFrzO P o ρ h with | some v => K v h | none => False) else if isEff o.op then (match (if appNew c o ρ = true ∧ stOk c o ρ = true then aEff P o ρ h else none) with | some (v, h') => K v h' | none => False) else (match (if ldOk c o ρ = true then aPure P o ρ h else none) with | some v => K v h | none => False)

theorem opK_R {P : Program} [c : EffF] {o : Oper} {ρ : Operand → AVal} {h : List AObj} {K : AVal → List AObj → Prop} (hk : opK P o ρ h K) : ∃ v h', OpR P c o ρ h v h' ∧ K v h' := by
  unfold opK at hk
  split at hk
  · rename_i fo args ty ho
    rcases hk with ⟨v, h1, h2⟩ | ⟨hc, v, h', h1, h2⟩
    · exact ⟨v, h, .call v fo args ty ho h1, h2⟩
    · exact ⟨v, h', .callTo v h' fo args ty ho hc h1, h2⟩
  · split at hk
    · rename_i hzz
      obtain ⟨v, h1, h2⟩ := hk
      exact ⟨v, h, .same v h1 hzz, h2⟩
    rename_i hzz
    split at hk
    · rename_i hz
      split at hk
      · rename_i v hx
        exact ⟨v, h, .frz v hx hz, hk⟩
      · exact hk.elim
    · rename_i hz
      split at hk
      · split at hk
        · rename_i v h' hx
          split at hx
          · rename_i hn
            exact ⟨v, h', .eff v h' hx hn.1 (by simpa using hz) hn.2 (by simpa using hzz), hk⟩
          · cases hx
        · exact hk.elim
      · split at hk
        · rename_i v hx
          split at hx
          · rename_i hl
            exact ⟨v, h, .pure v hx hl, hk⟩
          · cases hx
        · exact hk.elim

def putA (dst : Option Nat) (v : AVal) (env : List (Nat × AVal)) : List (Nat × AVal) :=
  match dst with
  | some d => (d, v) :: env
  | none => env

def awpList (P : Program) [EffF] (ops : List Oper) (Q : ASt → Prop) : List Oper → ASt → Prop
  | [], s => Q s
  | o :: rest, s => match o.guard with
    | none => opK P o (ev s.env) s.heap (fun v h' => awpList P ops Q rest ⟨putA o.dst v s.env, h'⟩)
    | some (j, want) => match (ops[j]?).bind (·.dst) with
      | some t => match look s.env t with
        | .val (.bool b) => (b = want → opK P o (ev s.env) s.heap (fun v h' => awpList P ops Q rest ⟨putA o.dst v s.env, h'⟩)) ∧ (b ≠ want → awpList P ops Q rest ⟨putA o.dst (.val undef) s.env, s.heap⟩)
        | .val (.tuple _) => awpList P ops Q rest ⟨putA o.dst (.val undef) s.env, s.heap⟩
        | _ => False
      | none => False

/-- Only these slots are kept. -/
def keepEnv (ks : List Nat) (env : List (Nat × AVal)) : List (Nat × AVal) := ks.map fun k => (k, look env k)

def ASt.keep (ks : List Nat) (s : ASt) : ASt := ⟨keepEnv ks s.env, s.heap⟩

def awp (P : Program) (E : EffF) (hb : List AObj) : Code → (Exit → ASt → Prop) → ASt → Prop
  | .skip, Q, s => Q .normal s
  | .region _ ops d, Q, s => @awpList P (if d then E else effIn E) ops.toList (Q .normal) ops.toList s
  | .seq a b, Q, s => awp P E hb a (fun e s' => match e with | .normal => awp P E hb b Q s' | e => Q e s') s
  | .cond c x y, Q, s => match ev s.env c with
    | .val (.bool b) => (b = true → awp P E hb x Q s) ∧ (b = false → awp P E hb y Q s)
    | _ => False
  | .block id c, Q, s => awp P E hb c (fun e s' => match e with | .exit id' => if id' = id then Q .normal s' else Q (.exit id') s' | e => Q e s') s
  | .loop c, Q, s => ∃ (I : Nat → ASt → Prop) (n : Nat), (∃ s1, Wk hb s s1 ∧ I n s1) ∧ ∀ n s, I n s → awp P E hb c (fun e s' => match e with | .normal => ∃ m s1, m < n ∧ Wk hb s' s1 ∧ I m s1 | e => Q e s') s
  | .exit id, Q, s => Q (.exit id) s
  | .ret, Q, s => Q .ret s
  | _, _, _ => False

theorem opK_mono {P : Program} [EffF] {o : Oper} {ρ : Operand → AVal} {h : List AObj} {K K' : AVal → List AObj → Prop} (hK : ∀ v h', K v h' → K' v h') (hk : opK P o ρ h K) : opK P o ρ h K' := by
  unfold opK at hk ⊢
  split at hk
  · rcases hk with ⟨v, h1, h2⟩ | ⟨hc, v, h', h1, h2⟩
    · exact .inl ⟨v, h1, hK _ _ h2⟩
    · exact .inr ⟨hc, v, h', h1, hK _ _ h2⟩
  · split at hk
    · rename_i hzz
      rw [if_pos hzz]
      obtain ⟨v, h1, h2⟩ := hk
      exact ⟨v, h1, hK _ _ h2⟩
    rename_i hzz
    rw [if_neg hzz]
    split at hk
    · rename_i hz
      rw [if_pos hz]
      split at hk
      · exact hK _ _ hk
      · exact hk.elim
    · rename_i hz
      rw [if_neg hz]
      split at hk
      · rename_i hE
        rw [if_pos hE]
        split at hk
        · exact hK _ _ hk
        · exact hk.elim
      · rename_i hE
        rw [if_neg hE]
        split at hk
        · exact hK _ _ hk
        · exact hk.elim

theorem awpList_mono {P : Program} [EffF] {ops : List Oper} {Q Q' : ASt → Prop} (hQ : ∀ s, Q s → Q' s) : ∀ (l : List Oper) (s : ASt), awpList P ops Q l s → awpList P ops Q' l s := by
  intro l
  induction l with
  | nil => intro s h; exact hQ _ h
  | cons o rest ih =>
    intro s h
    simp only [awpList] at h ⊢
    split at h
    · exact opK_mono (fun _ _ => ih _) h
    · split at h
      · split at h
        · exact ⟨fun hb => opK_mono (fun _ _ => ih _) (h.1 hb), fun hb => ih _ (h.2 hb)⟩
        · exact ih _ h
        · exact h.elim
      · exact h.elim

theorem awp_mono {P : Program} {E : EffF} {hb : List AObj} : ∀ (c : Code) (Q Q' : Exit → ASt → Prop) (s : ASt), (∀ e s, Q e s → Q' e s) → awp P E hb c Q s → awp P E hb c Q' s := by
  intro c
  induction c with
  | skip => intro Q Q' s hq h; exact hq _ _ h
  | region id ops d => intro Q Q' s hq h; exact @awpList_mono P (if d then E else effIn E) _ _ _ (fun s => hq _ s) _ _ h
  | seq a b iha ihb =>
    intro Q Q' s hq h
    refine iha _ _ _ (fun e s' he => ?_) h
    cases e with
    | normal => exact ihb _ _ _ hq he
    | _ => exact hq _ _ he
  | cond c x y ihx ihy =>
    intro Q Q' s hq h
    simp only [awp] at h ⊢
    split at h
    · exact ⟨fun hb => ihx _ _ _ hq (h.1 hb), fun hb => ihy _ _ _ hq (h.2 hb)⟩
    · exact h.elim
  | block id c ih =>
    intro Q Q' s hq h
    refine ih _ _ _ (fun e s' he => ?_) h
    cases e with
    | exit id' =>
      simp only at he ⊢
      split
      · rename_i hid; rw [if_pos hid] at he; exact hq _ _ he
      · rename_i hid; rw [if_neg hid] at he; exact hq _ _ he
    | _ => exact hq _ _ he
  | loop c ih =>
    intro Q Q' s hq h
    obtain ⟨I, n, h0, hr⟩ := h
    refine ⟨I, n, h0, fun n s hs => ih _ _ _ (fun e s' he => ?_) (hr n s hs)⟩
    cases e with
    | normal => exact he
    | _ => exact hq _ _ he
  | exit id => intro Q Q' s hq h; exact hq _ _ h
  | ret => intro Q Q' s hq h; exact hq _ _ h
  | _ => intros; first | assumption | (rename_i h; exact h.elim)

/-- A loop, by what its states are, with a condition on them; what lies ahead of a round may be weakened. -/
theorem awp_loopW {P : Program} {E : EffF} {hb : List AObj} {c : Code} {Q : Exit → ASt → Prop} {s : ASt} {σ : Type} (J : σ → Prop) (F : σ → ASt) (μ : σ → Nat) (x : σ) (hJ : J x) (h0 : Wk hb s (F x))
    (round : ∀ x, J x → awp P E hb c (fun e s' => match e with | .normal => ∃ y, J y ∧ Wk hb s' (F y) ∧ μ y < μ x | e => Q e s') (F x)) : awp P E hb (.loop c) Q s := by
  refine ⟨fun n s => ∃ x, J x ∧ s = F x ∧ μ x = n, μ x, ⟨_, h0, x, hJ, rfl, rfl⟩, ?_⟩
  rintro n s ⟨x, hx, rfl, rfl⟩
  refine awp_mono _ _ _ _ (fun e s' he => ?_) (round x hx)
  cases e with
  | normal =>
    obtain ⟨y, hy, hy', hlt⟩ := he
    exact ⟨μ y, F y, hlt, hy', y, hy, rfl, rfl⟩
  | _ => exact he

end Go.AW

/- An operation, and a region in the order of the text, do in the model what the abstract machine says. -/
namespace Go.AW
open Go Go.RowKit

def opOk (N : Nat) (o : Oper) : Bool :=
  (match o.dst with | some d => decide (d < N) | none => true) && (match o.op with | .slice _ _ _ hi mx => mx.isNone || hi.isSome | _ => true)

section
variable {P : Program} {B : Bs} {W0 : World} {ok0 A : Nat → Prop} {β : Nat → Nat × Nat} {h : List AObj} {w : World} {N : Nat}

theorem put_getD (a : Act) (dst : Option Tmp) (v : Value) (t : Nat) (hd : ∀ d, dst = some d → d < a.tmps.size) : (a.put dst v).tmps.getD t undef = if dst = some t then v else a.tmps.getD t undef := by
  cases dst with
  | none => simp [Act.put]
  | some d =>
    have := hd d rfl
    simp only [Act.put, Array.getD_eq_getD_getElem?, Option.some.injEq]
    by_cases hdt : d = t
    · subst hdt; simp [this]
    · rw [if_neg hdt, Array.getElem?_setIfInBounds_ne hdt]

theorem put_size (a : Act) (dst : Option Tmp) (v : Value) : (a.put dst v).tmps.size = a.tmps.size := by cases dst <;> simp [Act.put]
theorem put_defers (a : Act) (dst : Option Tmp) (v : Value) : (a.put dst v).defers = a.defers := by cases dst <;> rfl

theorem look_putA (dst : Option Nat) (v : AVal) (env : List (Nat × AVal)) (t : Nat) : look (putA dst v env) t = if dst = some t then v else look env t := by
  cases dst with
  | none => simp [putA]
  | some d => simp [putA, look]

theorem opOk_dst {o : Oper} (ho : opOk N o = true) : ∀ d, o.dst = some d → d < N := by
  intro d hd
  simp only [opOk, hd, Bool.and_eq_true, decide_eq_true_eq] at ho
  exact ho.1

theorem opOk_slice {o : Oper} (ho : opOk N o = true) : ∀ t x lo hi mx, o.op = .slice t x lo hi mx → mx ≠ none → hi ≠ none := by
  intro t x lo hi mx he hm hh
  simp only [opOk, he, Bool.and_eq_true, Bool.or_eq_true] at ho
  rcases ho.2 with h1 | h1
  · exact hm (by simpa using h1)
  · simp [hh] at h1

/-- One operation. -/
theorem opR_wp (hr : HR W0 ok0 A β h w) {o : Oper} {a : Act} {ρ : Operand → AVal} (hρ : ∀ x, VR W0 ok0 β h w (ρ x) (a.eval x)) (ho : opOk N o = true) {v : AVal} {h' : List AObj} {c : EffF} (hR : OpR P c o ρ h v h')
    {next : Act → World → Prop} {Q : Exit → Act → World → Prop} (hn : ∀ u β' w', Step W0 ok0 A β h w β' h' w' → VR W0 ok0 β' h' w' v u → next (a.put o.dst u) w') : o.wp P a w next Q := by
  cases hR with
  | pure hx _ =>
    obtain ⟨u, h1, h2⟩ := aPure_rel hr hρ hx
    unfold Oper.wp
    rw [h1]
    exact hn u β w (Step.refl hr) h2
  | same hx _ =>
    obtain ⟨nx, u, β', w', h1, h2, h3, h4⟩ := aEff_rel hr hρ (opOk_slice ho) hx
    unfold Oper.wp
    rw [h1]
    rcases h2 with rfl | ⟨rfl, rfl⟩
    · exact hn u β' w' h3 h4
    · exact hn _ β' w' h3 h4
  | eff _ hx _ _ _ _ =>
    obtain ⟨nx, u, β', w', h1, h2, h3, h4⟩ := aEff_rel hr hρ (opOk_slice ho) hx
    unfold Oper.wp
    rw [h1]
    rcases h2 with rfl | ⟨rfl, rfl⟩
    · exact hn u β' w' h3 h4
    · exact hn _ β' w' h3 h4
  | call fo args ty hop hc =>
    have har : AR W0 ok0 β h w (args.toList.map ρ) (args.map a.eval) := ⟨by simp, fun j hj => by
      have hj' : j < args.size := by simpa using hj
      simpa [hj'] using hρ args[j]⟩
    obtain ⟨f, vs, h1, h2⟩ := callOk_rel hr (Pre.refl h) hc (hρ fo) har
    unfold Oper.wp
    have hrun : (execOp a.eval o).run P w = .ok (.enter f vs) w := by
      simp only [execOp, hop, resolve]
      exact h1 w
    rw [hrun, Oper.upon_enter]
    refine h2.mono fun e w' he => ?_
    obtain ⟨u, rfl, hst, hv⟩ := he
    exact hn u β w' hst hv
  | frz hx hz =>
    obtain ⟨dst, op, type, pos, after, guard⟩ := o
    unfold aFrzO at hx
    split at hx
    · rename_i e y hop
      simp only at hop
      subst hop
      split at hx
      · rename_i T vs ht hps
        split at hx
        · rename_i hl
          cases hx
          have har := parts_rel (hρ y) hps
          have hst := step_world hr ((Below.refl w.heap.size w).alloc (Nat.le_refl _) (.cells (a.eval y).cells e))
          unfold Oper.wp
          have hrun : (execOp a.eval ⟨dst, .box e y, type, pos, after, guard⟩).run P w = .ok (.value (.pointer (some ⟨w.heap.size, 0, none⟩))) (w.alloc (.cells (a.eval y).cells e)) := by simp [execOp, Instr.box, newVar, newRow]
          rw [hrun]
          refine hn _ β _ hst (.spot true _ _ vs (fun j => (a.eval y).cells.getD j undef) (fun _ => ⟨by simp, fun i hi => ?_, .inl hr.wsize⟩) (fun _ _ => hr.wsize) (fun j hj => ?_) (fun j hj => hst.vr _ _ (har.2 j hj)))
          · have := hr.lt hi; omega
          · rw [cell_of_row _ _ _ (a.eval y).cells e (0, 0) (heap_alloc_new w _)]
            have : j < (a.eval y).cells.size := by rw [har.1]; exact hj
            simp [this]
        · cases hx
      · cases hx
    · rename_i args argTypes hop
      simp only at hop
      subst hop
      split at hx
      · rename_i s y t t' hl ht
        split at hx
        · rename_i htt
          subst htt
          obtain ⟨a0, a1, rfl⟩ : ∃ a0 a1, args = #[a0, a1] := by
            have hlen : args.toList.length = 2 := by have := congrArg List.length hl; simpa using this
            match hal : args.toList, hlen with
            | [a0, a1], _ => exact ⟨a0, a1, by rw [← Array.toArray_toList (xs := args), hal]⟩
          obtain rfl : argTypes = #[t, t] := by rw [← Array.toArray_toList (xs := argTypes), ht]
          simp at hl
          obtain ⟨rfl, rfl⟩ := hl
          obtain ⟨u, w', h1, h2, h3⟩ := aFrz_rel (ty := type) hr (hρ a0) (hρ a1) hx
          have hrun : (execOp a.eval ⟨dst, .call ⟨.builtin .append, #[a0, a1], #[t, t]⟩, type, pos, after, guard⟩).run P w = .ok (.value u) w' := by simp [execOp, resolve, invoke, builtin, h1]
          unfold Oper.wp
          rw [hrun]
          exact hn u β w' h2 h3
        · cases hx
      · cases hx
    · cases hx
  | callTo _ fo args ty hop _ hc =>
    have har : AR W0 ok0 β h w (args.toList.map ρ) (args.map a.eval) := ⟨by simp, fun j hj => by
      have hj' : j < args.size := by simpa using hj
      simpa [hj'] using hρ args[j]⟩
    obtain ⟨f, vs, h1, h2⟩ := callTo_rel hr hc (hρ fo) har
    unfold Oper.wp
    have hrun : (execOp a.eval o).run P w = .ok (.enter f vs) w := by
      simp only [execOp, hop, resolve]
      exact h1 w
    rw [hrun, Oper.upon_enter]
    refine h2.mono fun e w' he => ?_
    obtain ⟨u, β', rfl, hst, hv⟩ := he
    exact hn u β' w' hst hv

theorem yielded_bool {ops : List Oper} {a : Act} {j t : Nat} {b : Bool} (ht : (ops[j]?).bind (·.dst) = some t) (hv : VR W0 ok0 β h w (.val (.bool b)) (a.tmps.getD t undef)) : yielded ops.toArray a.tmps j = some b := by
  have hb : a.tmps.getD t undef = .bool b := by
    generalize a.tmps.getD t undef = u at hv
    cases hv; rfl
  have hs : a.tmps[t]? = some (.bool b) := by
    simp only [Array.getD_eq_getD_getElem?] at hb
    cases hs : a.tmps[t]? with
    | none => rw [hs] at hb; simp [undef] at hb
    | some u => rw [hs] at hb; simp at hb; rw [hb]
  simp [yielded, ht, hs]

theorem yielded_tuple {ops : List Oper} {a : Act} {j t : Nat} {us : Array Value} (ht : (ops[j]?).bind (·.dst) = some t) (hv : VR W0 ok0 β h w (.val (.tuple us)) (a.tmps.getD t undef)) : yielded ops.toArray a.tmps j = none := by
  have hb : a.tmps.getD t undef = .tuple us := by
    generalize a.tmps.getD t undef = u at hv
    cases hv; rfl
  simp only [Array.getD_eq_getD_getElem?] at hb
  cases hs : a.tmps[t]? with
  | none => simp [yielded, ht, hs]
  | some u => rw [hs] at hb; simp at hb; subst hb; simp [yielded, ht, hs]

theorem FR.put {s : ASt} {a : Act} {o : Oper} {v : AVal} {u : Value} {h' : List AObj} {β' : Nat → Nat × Nat} {w' : World} (henv : ∀ t, VR W0 ok0 β s.heap w (look s.env t) (a.tmps.getD t undef)) (hs : a.tmps.size = N) (hd : a.defers = [] ∧ (∀ x v, VR W0 ok0 B.β B.h B.w x v → VR W0 ok0 β s.heap w x v) ∧ B.h.length ≤ s.heap.length)
    (ho : opOk N o = true) (hst : Step W0 ok0 A β s.heap w β' h' w') (hv : VR W0 ok0 β' h' w' v u) : FR W0 ok0 A N B ⟨putA o.dst v s.env, h'⟩ (a.put o.dst u) w' := by
  refine ⟨β', hst.hr, fun t => ?_, by rw [put_size, hs], by rw [put_defers, hd.1], fun x v hx => hst.vr _ _ (hd.2.1 x v hx), Nat.le_trans hd.2.2 hst.len⟩
  rw [look_putA, put_getD _ _ _ _ (fun d hd => by rw [hs]; exact opOk_dst ho d hd)]
  split
  · exact hv
  · exact hst.vr _ _ (henv t)

theorem awpList_sound [EffF] {ops : List Oper} {Qs : ASt → Prop} {Q : Exit → Act → World → Prop} (hQ : ∀ s a w, Qs s → FR W0 ok0 A N B s a w → Q .normal a w) :
    ∀ (l : List Oper) (s : ASt) (a : Act) (w : World), l.all (opOk N) = true → awpList P ops Qs l s → FR W0 ok0 A N B s a w → wpList P ops.toArray Q l a w := by
  intro l
  induction l with
  | nil => intro s a w _ h hf; exact hQ _ _ _ h hf
  | cons o rest ih =>
    intro s a w hall h hf
    simp only [List.all_cons, Bool.and_eq_true] at hall
    obtain ⟨ho, hrest⟩ := hall
    obtain ⟨β, hr, henv, hs, hd⟩ := hf
    have run : opK P o (ev s.env) s.heap (fun v h' => awpList P ops Qs rest ⟨putA o.dst v s.env, h'⟩) → o.wp P a w (wpList P ops.toArray Q rest) Q := fun hk => by
      obtain ⟨v, h', hR, hK⟩ := opK_R hk
      exact opR_wp hr (ev_rel henv) ho hR fun u β' w' hst hv => ih _ _ _ hrest hK (FR.put henv hs hd ho hst hv)
    have skip : awpList P ops Qs rest ⟨putA o.dst (.val undef) s.env, s.heap⟩ → wpList P ops.toArray Q rest (a.put o.dst undef) w := fun hk =>
      ih _ _ _ hrest hk (FR.put henv hs hd ho (Step.refl hr) (.val _))
    simp only [awpList] at h
    unfold wpList
    split at h
    · rename_i hg
      rw [if_pos (by simp [Region.wanted, hg])]
      exact .inl (run h)
    · rename_i j want hg
      split at h
      · rename_i t ht
        split at h
        · rename_i b hb
          have hy := yielded_bool (ops := ops) ht (by have := henv t; rw [hb] at this; exact this)
          by_cases hbw : b = want
          · rw [if_pos (by simp [Region.wanted, hg, hy, hbw])]
            exact .inl (run (h.1 hbw))
          · rw [if_neg (by simp [Region.wanted, hg, hy, hbw])]
            exact skip (h.2 hbw)
        · rename_i us hb
          have hy := yielded_tuple (ops := ops) ht (by have := henv t; rw [hb] at this; exact this)
          rw [if_neg (by simp [Region.wanted, hg, hy])]
          exact skip h
        · exact h.elim
      · exact h.elim

/-- A loop, by a number that falls. -/
theorem wp_loop_fuel {c : Code} {Q : Exit → Act → World → Prop} (J : Nat → Act → World → Prop)
    (round : ∀ n a w, J n a w → c.wp P (Exit.then (fun a' w' => ∃ m, m < n ∧ J m a' w') Q) a w) {n : Nat} {a : Act} {w : World} (h0 : J n a w) : (Code.loop c).wp P Q a w := by
  intro b k cs
  have key : ∀ n a w, J n a w → ∃ e a' w', Q e a' w' ∧ Arrives P (lone (b.at a (.code c :: .inLoop c :: k)) cs w) b k cs e a' w' := by
    intro n
    induction n using Nat.strongRecOn with
    | _ n ih =>
      intro a w hJ
      obtain ⟨e, a₁, w₁, hq, harr⟩ := round n a w hJ b (.inLoop c :: k) cs
      cases e with
      | normal =>
        obtain ⟨m, hlt, hJ₁⟩ := hq
        obtain ⟨e₂, a₂, w₂, hq₂, harr₂⟩ := ih m hlt a₁ w₁ hJ₁
        exact ⟨e₂, a₂, w₂, hq₂, .of_steps (Steps.trans harr (.one step_inLoop)) harr₂⟩
      | _ => exact ⟨_, a₁, w₁, hq, .pass (x := .inLoop c) rfl (fun _ _ => .inl (by simp)) harr⟩
  obtain ⟨e, a', w', hq, harr⟩ := key n a w h0
  exact ⟨e, a', w', hq, .of_steps (.one step_loop) harr⟩

theorem look_keep (ks : List Nat) (env : List (Nat × AVal)) (t : Nat) : look (keepEnv ks env) t = if t ∈ ks then look env t else .undef := by
  induction ks with
  | nil => simp [keepEnv, look]
  | cons k ks ih =>
    simp only [keepEnv, List.map_cons, look]
    by_cases hk : k = t
    · subst hk; simp
    · rw [if_neg hk]
      have := ih
      simp only [keepEnv] at this
      rw [this]
      simp [Ne.symm hk]

theorem FR.keep {s : ASt} {a : Act} (ks : List Nat) (hf : FR W0 ok0 A N B s a w) : FR W0 ok0 A N B (s.keep ks) a w := by
  obtain ⟨β, hr, henv, hs, hd⟩ := hf
  refine ⟨β, hr, fun t => ?_, hs, hd⟩
  simp only [ASt.keep, look_keep]
  split
  · exact henv t
  · exact .undef _

theorem Wk.keep (hb : List AObj) (s : ASt) (ks : List Nat) : Wk hb s (s.keep ks) := fun _ _ _ _ _ _ _ _ h => h.keep ks

end
end Go.AW

/- Operations that do not hang on the abstract heap's growth. -/
namespace Go.AW
open Go Go.RowKit

section
variable {P : Program} {c : EffF} {W0 : World} {ok0 A : Nat → Prop} {β : Nat → Nat × Nat} {h h2 : List AObj} {w : World} {N : Nat}

theorem cellsAt_mono (hp : Pre h h2) {id ext : Nat} {cs : List AVal} (hc : cellsAt h id ext = some cs) : cellsAt h2 id ext = some cs := by
  obtain ⟨o, ho, rfl, hl⟩ := cellsAt_some hc
  simp [cellsAt, hp _ _ ho, hl]

theorem sview_mono (hp : Pre h h2) {x : AVal} {r : Nat × List AVal} (hc : sview h x = some r) : sview h2 x = some r := by
  unfold sview at hc ⊢
  split at hc
  · exact hc
  · exact hc
  · exact hc
  · exact hc
  · obtain ⟨cs, h1, h2'⟩ := Option.map_eq_some_iff.1 hc
    simp only [cellsAt_mono hp h1, Option.map_some, h2']
  · cases hc

theorem pview_mono (hp : Pre h h2) {x : AVal} {r : List AVal} (hc : pview h x = some r) : pview h2 x = some r := by
  unfold pview at hc ⊢
  split at hc
  · exact hc
  · obtain ⟨cs, h1, h2'⟩ := Option.map_eq_some_iff.1 hc
    simp only [cellsAt_mono hp h1, Option.map_some, h2']
  · cases hc

theorem aData_mono (live : ∀ {id ext : Nat}, (cellsAt h id ext).isSome = true → (cellsAt h2 id ext).isSome = true) {x v : AVal} (hx : aData h x = some v) : aData h2 x = some v := by
  unfold aData at hx ⊢
  split at hx
  all_goals first | exact hx | skip
  · split at hx
    · rename_i hs; rw [if_pos ⟨hs.1, live hs.2⟩]; exact hx
    · cases hx

theorem aPure_mono (hp : Pre h h2) {o : Oper} {ρ : Operand → AVal} {v : AVal} (hx : aPure P o ρ h = some v) : aPure P o ρ h2 = some v := by
  obtain ⟨dst, op, type, pos, after, guard⟩ := o
  have live : ∀ {id ext : Nat}, (cellsAt h id ext).isSome = true → (cellsAt h2 id ext).isSome = true := fun hs => by
    obtain ⟨cs, hcs⟩ := Option.isSome_iff_exists.1 hs
    simp [cellsAt_mono hp hcs]
  cases op <;> simp only [aPure] at hx ⊢ <;> try (exact hx)
  case load t a =>
    split at hx
    · rename_i cs hpv; rw [pview_mono hp hpv]; exact hx
    · cases hx
  case nilCheck y =>
    split at hx
    · exact hx
    · split at hx
      · rename_i hs; rw [if_pos (live hs)]; exact hx
      · cases hx
    · exact hx
    · cases hx
  case fieldAddr s y f =>
    unfold aField at hx ⊢
    split at hx
    · split at hx
      · split at hx
        · split at hx
          · cases hx
          · rename_i hsz
            rw [if_neg hsz]
            split at hx
            · exact hx
            · split at hx
              · rename_i hs; rw [if_pos (live hs)]; exact hx
              · cases hx
            · cases hx
        · cases hx
      · cases hx
    · cases hx
  case indexAddr t y i =>
    unfold aIdx at hx ⊢
    split at hx
    · split at hx
      · split at hx
        · split at hx
          · exact hx
          · exact hx
          · split at hx
            · rename_i hs; rw [if_pos ⟨hs.1, hs.2.1, live hs.2.2⟩]; exact hx
            · cases hx
          · cases hx
        · cases hx
      · cases hx
    · cases hx
  case call c =>
    obtain ⟨callee, args, argTypes⟩ := c
    cases callee with
    | value f => exact hx
    | invoke r m => exact hx
    | builtin b =>
      cases b <;> try (exact hx)
      case len =>
        simp only at hx ⊢
        split at hx
        · split at hx
          · rename_i n cs t hv ht; rw [sview_mono hp hv, ht]; exact hx
          · cases hx
        all_goals first | (rename_i h1; cases h1; done) | exact hx | (rename_i h1 _; cases h1; done)
      case unsafeSliceData =>
        simp only at hx ⊢
        split at hx
        all_goals first | (rename_i h1; cases h1; done) | exact aData_mono live hx | exact hx | (rename_i h1 _; cases h1; done)

theorem aEff_idle (hp : Pre h h2) {o : Oper} {ρ : Operand → AVal} {v : AVal} {h' : List AObj} (he : effOp c o.op = false) (hz : frzOp c o.op = false) (hnz : zOp c o.op = false) (hx : aEff P o ρ h = some (v, h')) : h' = h ∧ aEff P o ρ h2 = some (v, h2) := by
  obtain ⟨dst, op, type, pos, after, guard⟩ := o
  cases op <;> simp only [aEff] at hx ⊢ <;> try (first | (cases hx; done) | (simp [effOp] at he; done) | (simp only [effOp, zOp] at he hnz; rw [hnz] at he; cases he; done))
  case box e y => simp [effOp] at he; simp [frzOp, he] at hz
  case build t parts =>
    obtain ⟨x0, hx0, hx1⟩ := Option.map_eq_some_iff.1 hx
    simp only [Prod.mk.injEq] at hx1
    obtain ⟨rfl, rfl⟩ := hx1
    exact ⟨rfl, by rw [hx0]; rfl⟩
  case buildSlice t len parts =>
    split at hx
    · split at hx
      · split at hx
        · split at hx
          · rename_i hl
            obtain ⟨cs, hcs, hx1⟩ := Option.map_eq_some_iff.1 hx
            simp only [Prod.mk.injEq] at hx1
            obtain ⟨rfl, rfl⟩ := hx1
            exact ⟨rfl, by rw [if_pos hl, hcs]; rfl⟩
          · cases hx
        · cases hx
      · cases hx
    · cases hx
  case slice t y lo hi mx =>
    obtain ⟨x0, hx0, hx1⟩ := Option.map_eq_some_iff.1 hx
    simp only [Prod.mk.injEq] at hx1
    obtain ⟨rfl, rfl⟩ := hx1
    refine ⟨rfl, ?_⟩
    have : aSlice P t h2 (ρ y) (lo.map ρ) (hi.map ρ) (mx.map ρ) = some x0 := by
      unfold aSlice at hx0 ⊢
      split at hx0
      · split at hx0
        · split at hx0
          · rename_i E n cs hE hv
            rw [sview_mono hp hv]
            simp only [*]
          · cases hx0
        · cases hx0
      · cases hx0
    rw [this]; rfl
  case call c =>
    obtain ⟨callee, args, argTypes⟩ := c
    cases callee with
    | value f => simp at hx
    | invoke r m => simp at hx
    | builtin b => cases b <;> first | (simp at hx; done) | (simp [effOp] at he; done) | (simp only [effOp, frzOp] at he hz; split at he <;> simp_all)

theorem aFrzO_mono (hp : Pre h h2) {o : Oper} {ρ : Operand → AVal} {v : AVal} (hx : aFrzO P o ρ h = some v) : aFrzO P o ρ h2 = some v := by
  unfold aFrzO at hx ⊢
  split at hx
  · exact hx
  · split at hx
    · split at hx
      · rename_i h1
        rw [if_pos h1]
        unfold aFrz at hx ⊢
        split at hx
        · split at hx
          · split at hx
            · rename_i E m cs hE hv
              rw [sview_mono hp hv]
              simp only [*]
            · cases hx
          · cases hx
        · cases hx
      · cases hx
    · cases hx
  · cases hx

theorem aEff_al {o : Oper} {ρ : Operand → AVal} {v : AVal} {h' : List AObj} (ha : alOp c o.op = true) (hn : appNew c o ρ = true) (hx : aEff P o ρ h = some (v, h')) : ∃ y, h' = h ++ y := by
  obtain ⟨dst, op, type, pos, after, guard⟩ := o
  cases op <;> simp only [aEff] at hx <;> try (first | (cases hx; done) | (simp [alOp] at ha; done))
  case alloc e =>
    split at hx
    · split at hx
      · simp only [Option.some.injEq, Prod.mk.injEq] at hx; exact ⟨_, hx.2.symm⟩
      · cases hx
    · cases hx
  case box e y =>
    split at hx
    · split at hx
      · simp only [Option.some.injEq, Prod.mk.injEq] at hx; exact ⟨_, hx.2.symm⟩
      · cases hx
    · cases hx
  case makeSlice t l c =>
    unfold aMake at hx
    split at hx
    · split at hx
      · split at hx
        · split at hx
          · split at hx
            · simp only [Option.some.injEq, Prod.mk.injEq] at hx; exact ⟨_, hx.2.symm⟩
            · cases hx
          · cases hx
        · cases hx
      · cases hx
    · cases hx
  case call c' =>
    obtain ⟨callee, args, argTypes⟩ := c'
    cases callee with
    | value f => simp at hx
    | invoke r m => simp at hx
    | builtin b =>
      cases b <;> first | (simp at hx; done) | (simp [alOp] at ha; done) | skip
      simp only at hx
      split at hx
      · rename_i s x t t' hl ht
        split at hx
        · have h0 : args[0]?.map ρ = some s := by
            have := congrArg (fun l => l[0]?) hl
            simpa using this
          cases ha0 : args[0]? with
          | none => rw [ha0] at h0; cases h0
          | some x0 =>
            rw [ha0] at h0
            simp only [alOp, ha0] at ha
            simp only [appNew, ha0, ha, Bool.not_true, Bool.false_or] at hn
            simp only [Option.map_some, Option.some.injEq] at h0
            rw [h0] at hn
            unfold aAppend at hx
            split at hx
            · split at hx
              · split at hx
                · split at hx
                  · split at hx
                    · split at hx
                      · simp only [Option.some.injEq, Prod.mk.injEq] at hx; exact ⟨_, hx.2.symm⟩
                      · split at hx
                        · simp only [Option.some.injEq, Prod.mk.injEq] at hx; exact ⟨_, hx.2.symm⟩
                        · cases hx
                    · simp [isNew] at hn
                    · split at hx
                      · simp only [Option.some.injEq, Prod.mk.injEq] at hx; exact ⟨[], by simp [hx.2]⟩
                      · split at hx
                        · simp only [Option.some.injEq, Prod.mk.injEq] at hx; exact ⟨_, hx.2.symm⟩
                        · cases hx
                    · simp [isNew] at hn
                    · cases hx
                  · cases hx
                · cases hx
              · cases hx
            · cases hx
        · cases hx
      · cases hx

theorem aPure_eff {o : Oper} {ρ : Operand → AVal} {v : AVal} (he : effOp c o.op = true) : aPure P o ρ h ≠ some v := by
  obtain ⟨dst, op, type, pos, after, guard⟩ := o
  intro hx
  cases op <;> simp only [aPure] at hx <;> try (first | (cases hx; done) | (simp [effOp] at he; done))
  case call c =>
    obtain ⟨callee, args, argTypes⟩ := c
    cases callee with
    | value f => simp at hx
    | invoke r m => simp at hx
    | builtin b => cases b <;> first | (simp at hx; done) | (simp [effOp] at he; done)

/-- A store that changes nothing, at a heap that has grown. -/
theorem aEff_same (hp : Pre h h2) {o : Oper} {ρ : Operand → AVal} {v : AVal} (hz : zOp c o.op = true) (hx : aEff P o ρ h = some (v, h)) : aEff P o ρ h2 = some (v, h2) := by
  obtain ⟨dst, op, type, pos, after, guard⟩ := o
  cases op <;> first | (simp [zOp] at hz; done) | skip
  case store t p x =>
    simp only [aEff] at hx ⊢
    obtain ⟨h0, hx0, hx1⟩ := Option.map_eq_some_iff.1 hx
    simp only [Prod.mk.injEq] at hx1
    obtain ⟨rfl, rfl⟩ := hx1
    suffices hs : aStore P t h2 (ρ p) (ρ x) = some h2 by rw [hs]; rfl
    unfold aStore at hx0 ⊢
    split at hx0
    · rename_i T id off ext vs e1 e2 e3
      split at hx0
      · rename_i o ho
        split at hx0
        · rename_i hc
          simp only [hp id o ho]
          rw [if_pos hc]
          simp only [Option.some.injEq] at hx0 ⊢
          have hid := (List.getElem?_eq_some_iff.1 ho).1
          have hob : (⟨o.ty, o.es, splice o.cells off vs⟩ : AObj) = o := by
            have h4 : (h0.set id ⟨o.ty, o.es, splice o.cells off vs⟩)[id]? = h0[id]? := by rw [hx0]
            rw [List.getElem?_set_self hid, ho] at h4
            exact Option.some.inj h4
          rw [hob]
          have := hp id o ho
          obtain ⟨hid2, h5⟩ := List.getElem?_eq_some_iff.1 this
          rw [← h5]
          exact List.set_getElem_self hid2
        · cases hx0
      · cases hx0
    · cases hx0

theorem OpR.idle {o : Oper} {ρ : Operand → AVal} {v : AVal} {h' : List AObj} (hR : OpR P c o ρ h v h') (he : effOp c o.op = false) : h' = h := by
  cases hR with
  | pure => rfl
  | same => rfl
  | eff _ hx _ hz _ hnz => exact (aEff_idle (c := c) (Pre.refl h) he hz hnz hx).1
  | frz => rfl
  | call => rfl
  | callTo _ fo args ty hop hc => simp only [hop, effOp] at he; rw [hc] at he; cases he

theorem OpR.al {o : Oper} {ρ : Operand → AVal} {v : AVal} {h' : List AObj} (hR : OpR P c o ρ h v h') (ha : alOp c o.op = true) : ∃ y, h' = h ++ y := by
  cases hR with
  | pure => exact ⟨[], by simp⟩
  | same => exact ⟨[], by simp⟩
  | eff _ hx hn _ _ _ => exact aEff_al ha hn hx
  | frz => exact ⟨[], by simp⟩
  | call => exact ⟨[], by simp⟩
  | callTo _ fo args ty hop hc => simp [hop, alOp] at ha

/-- An operation that leaves the heap, at a heap that has grown since. -/
theorem opR_wp_pre (hr : HR W0 ok0 A β h2 w) (hp : Pre h h2) {o : Oper} {a : Act} {ρ : Operand → AVal} (hρ : ∀ x, VR W0 ok0 β h2 w (ρ x) (a.eval x)) (ho : opOk N o = true) {v : AVal} {h' : List AObj} (hR : OpR P c o ρ h v h') (he : effOp c o.op = false)
    {next : Act → World → Prop} {Q : Exit → Act → World → Prop} (hn : ∀ u β' w', Step W0 ok0 A β h2 w β' h2 w' → VR W0 ok0 β' h2 w' v u → next (a.put o.dst u) w') : o.wp P a w next Q := by
  cases hR with
  | pure hx hl => exact opR_wp (c := c) hr hρ ho (.pure _ (aPure_mono hp hx) hl) hn
  | same hx hz => exact opR_wp (c := c) hr hρ ho (.same _ (aEff_same hp hz hx) hz) hn
  | eff _ hx hnn hz hs hnz => exact opR_wp (c := c) hr hρ ho (.eff _ _ (aEff_idle (c := c) hp he hz hnz hx).2 hnn hz hs hnz) hn
  | frz hx hz => exact opR_wp (c := c) hr hρ ho (.frz _ (aFrzO_mono hp hx) hz) hn
  | call fo args ty hop hc =>
    have har : AR W0 ok0 β h2 w (args.toList.map ρ) (args.map a.eval) := ⟨by simp, fun j hj => by
      have hj' : j < args.size := by simpa using hj
      simpa [hj'] using hρ args[j]⟩
    obtain ⟨f, vs, h1, h2⟩ := callOk_rel hr hp hc (hρ fo) har
    unfold Oper.wp
    have hrun : (execOp a.eval o).run P w = .ok (.enter f vs) w := by
      simp only [execOp, hop, resolve]
      exact h1 w
    rw [hrun, Oper.upon_enter]
    refine h2.mono fun e w' he => ?_
    obtain ⟨u, rfl, hst, hv⟩ := he
    exact hn u β w' hst hv
  | callTo _ fo args ty hop hc => simp only [hop, effOp] at he; rw [hc] at he; cases he

/-- An operation that does not look at the heap. -/
theorem OpR.anywhere {o : Oper} {ρ : Operand → AVal} {v : AVal} {h' : List AObj} (hR : OpR P c o ρ h v h') (hn : nOp o.op = true) : OpR P c o ρ h2 v h2 := by
  obtain ⟨dst, op, type, pos, after, guard⟩ := o
  cases hR with
  | pure hx hl =>
    refine .pure _ ?_ hl
    cases op <;> simp only [aPure] at hx ⊢ <;> first | exact hx | (simp [nOp] at hn; done) | skip
    case call c =>
      obtain ⟨callee, args, argTypes⟩ := c
      cases callee with
      | value f => exact hx
      | invoke r m => exact hx
      | builtin b => cases b <;> first | exact hx | (simp [nOp] at hn; done)
  | frz hx hz =>
    cases op <;> first | (simp [frzOp] at hz; done) | (simp [nOp] at hn; done) | skip
    case call c' =>
      obtain ⟨callee, args, argTypes⟩ := c'
      cases callee with
      | value f => simp [frzOp] at hz
      | invoke r m => simp [frzOp] at hz
      | builtin b => cases b <;> first | (simp [nOp] at hn; done) | (simp [frzOp] at hz; done)
  | same hx hz => cases op <;> first | (simp [zOp] at hz; done) | (simp [nOp] at hn; done)
  | eff _ hx hnn hz hss hnz =>
    refine .eff _ _ ?_ hnn hz hss hnz
    cases op <;> simp only [aEff] at hx ⊢ <;> first | (cases hx; done) | (simp [nOp] at hn; done) | skip
    case build t parts =>
      obtain ⟨x0, hx0, hx1⟩ := Option.map_eq_some_iff.1 hx
      simp only [Prod.mk.injEq] at hx1
      obtain ⟨rfl, rfl⟩ := hx1
      rw [hx0]; rfl
    case buildSlice t len parts =>
      split at hx
      · split at hx
        · split at hx
          · split at hx
            · rename_i hl
              obtain ⟨cs, hcs, hx1⟩ := Option.map_eq_some_iff.1 hx
              simp only [Prod.mk.injEq] at hx1
              obtain ⟨rfl, rfl⟩ := hx1
              rw [if_pos hl, hcs]; rfl
            · cases hx
          · cases hx
        · cases hx
      · cases hx
    case call c =>
      obtain ⟨callee, args, argTypes⟩ := c
      cases callee with
      | value f => simp at hx
      | invoke r m => simp at hx
      | builtin b => cases b <;> first | (simp at hx; done) | (simp [nOp] at hn; done)
  | call fo args ty hop hc => simp only at hop; subst hop; simp [nOp] at hn
  | callTo _ fo args ty hop hc => simp only at hop; subst hop; simp [nOp] at hn

/-- Objects of the same lengths, and of the same cells where stores write none. -/
def SP (D : Nat → Bool) (h h2 : List AObj) : Prop := ∀ (i : Nat) (o : AObj), h[i]? = some o → ∃ o', h2[i]? = some o' ∧ o'.cells.length = o.cells.length ∧ (D i = false → o' = o)
theorem SP.refl (D : Nat → Bool) (h : List AObj) : SP D h h := fun _ o ho => ⟨o, ho, rfl, fun _ => rfl⟩
theorem SP.trans {D : Nat → Bool} {h h2 h3 : List AObj} (a : SP D h h2) (b : SP D h2 h3) : SP D h h3 := fun i o ho => by
  obtain ⟨o', h1, h4, h7⟩ := a i o ho
  obtain ⟨o'', h5, h6, h8⟩ := b i o' h1
  exact ⟨o'', h5, by omega, fun hd => (h8 hd).trans (h7 hd)⟩
theorem SP.of_pre {D : Nat → Bool} {h h2 : List AObj} (a : Pre h h2) : SP D h h2 := fun i o ho => ⟨o, a i o ho, rfl, fun _ => rfl⟩

theorem OpR.st {o : Oper} {ρ : Operand → AVal} {v : AVal} {h' : List AObj} (hR : OpR P c o ρ h v h') (hs : stOp o.op = true) : SP c.D h h' ∧ SP c.D h' h := by
  obtain ⟨dst, op, type, pos, after, guard⟩ := o
  cases op <;> first | (simp [stOp] at hs; done) | skip
  case store t p x =>
    cases hR with
    | pure hx _ => simp [aPure] at hx
    | frz hx hz => simp [frzOp] at hz
    | call fo args ty hop hc => cases hop
    | callTo _ fo args ty hop hc => cases hop
    | same hx hz => exact ⟨SP.refl _ _, SP.refl _ _⟩
    | eff _ hx _ _ hst _ =>
      simp only [stOk] at hst
      simp only [aEff] at hx
      obtain ⟨h0, hx0, hx1⟩ := Option.map_eq_some_iff.1 hx
      simp only [Prod.mk.injEq] at hx1
      obtain ⟨_, rfl⟩ := hx1
      unfold aStore at hx0
      split at hx0
      · rename_i id off ext vs _ hpid _
        rw [hpid] at hst
        simp only [okS] at hst
        split at hx0
        · rename_i o ho
          split at hx0
          · rename_i hc
            obtain ⟨c1, c2, c3, c4⟩ := hc
            cases hx0
            have hl := splice_length o.cells off vs (by omega)
            have hid := (List.getElem?_eq_some_iff.1 ho).1
            constructor
            · intro i oi hi
              by_cases hii : id = i
              · subst hii
                rw [ho] at hi; cases hi
                exact ⟨⟨o.ty, o.es, splice o.cells off vs⟩, by simp [hid], hl, fun hd => by rw [hst] at hd; cases hd⟩
              · exact ⟨oi, by rw [List.getElem?_set_ne hii]; exact hi, rfl, fun _ => rfl⟩
            · intro i oi hi
              by_cases hii : id = i
              · subst hii
                simp [hid] at hi; subst hi
                exact ⟨o, ho, hl.symm, fun hd => by rw [hst] at hd; cases hd⟩
              · rw [List.getElem?_set_ne hii] at hi
                exact ⟨oi, hi, rfl, fun _ => rfl⟩
          · cases hx0
        · cases hx0
      · cases hx0

theorem live_sp {D : Nat → Bool} (hp : SP D h h2) {id ext : Nat} (hs : (cellsAt h id ext).isSome = true) : (cellsAt h2 id ext).isSome = true := by
  obtain ⟨cs, hcs⟩ := Option.isSome_iff_exists.1 hs
  obtain ⟨o, ho, rfl, hl⟩ := cellsAt_some hcs
  obtain ⟨o', h1, h3, _⟩ := hp id o ho
  simp [cellsAt, h1, h3, hl]

theorem len_sp {D : Nat → Bool} (hp : SP D h h2) {x : AVal} {n : Nat} {cs : List AVal} (hv : sview h x = some (n, cs)) : ∃ cs', sview h2 x = some (n, cs') := by
  unfold sview at hv ⊢
  split at hv
  · cases hv; exact ⟨_, rfl⟩
  · cases hv; exact ⟨_, rfl⟩
  · cases hv; exact ⟨_, rfl⟩
  · cases hv; exact ⟨_, rfl⟩
  · rename_i id off n' ext
    obtain ⟨cs1, hc, he⟩ := Option.map_eq_some_iff.1 hv
    cases he
    have := live_sp hp (id := id) (ext := ext) (by rw [hc]; rfl)
    obtain ⟨cs2, h3⟩ := Option.isSome_iff_exists.1 this
    exact ⟨cs2.drop off, by simp [h3]⟩
  · cases hv

/-- An operation that looks at lengths alone, at a heap of the same lengths. -/
theorem OpR.sp {o : Oper} {ρ : Operand → AVal} {v : AVal} {h' : List AObj} (hR : OpR P c o ρ h v h') (hs : sOp c o.op = true) (hp : SP c.D h h2) : OpR P c o ρ h2 v h2 := by
  obtain ⟨dst, op, type, pos, after, guard⟩ := o
  cases hR with
  | frz hx hz =>
    cases op <;> first | (simp [sOp] at hs; done) | (simp [frzOp] at hz; done) | skip
    case call c' =>
      obtain ⟨callee, args, argTypes⟩ := c'
      cases callee with
      | value f => simp [sOp] at hs
      | invoke r m => simp [sOp] at hs
      | builtin b => cases b <;> first | (simp [sOp] at hs; done) | (simp [frzOp] at hz; done)
  | call fo args ty hop hc => simp only at hop; subst hop; simp [sOp] at hs
  | callTo _ fo args ty hop hc => simp only at hop; subst hop; simp [sOp] at hs
  | pure hx hl =>
    refine .pure _ ?_ hl
    cases op <;> first | (simp [sOp] at hs; done) | skip
    case load t a =>
      simp only [sOp] at hs
      simp only [ldOk, hs, Bool.not_true, Bool.false_or] at hl
      simp only [aPure] at hx ⊢
      have : pview h2 (ρ a) = pview h (ρ a) := by
        generalize ρ a = x at hl hx
        cases x <;> simp [okL] at hl <;> try rfl
        rename_i id off ext
        cases hv : pview h (.ptr id off ext) with
        | none => rw [hv] at hx; simp at hx
        | some cs =>
          obtain ⟨cs', hc, rfl⟩ := Option.map_eq_some_iff.1 hv
          obtain ⟨o, ho, rfl, hle⟩ := cellsAt_some hc
          obtain ⟨o', h1, h3, h4⟩ := hp id o ho
          have := h4 hl
          subst this
          simp [pview, cellsAt, h1, hle]
      rw [this]; exact hx
    case nilCheck y =>
      simp only [aPure] at hx ⊢
      split at hx
      · exact hx
      · split at hx
        · rename_i hl; rw [if_pos (live_sp hp hl)]; exact hx
        · cases hx
      · exact hx
      · cases hx
    case fieldAddr s y f =>
      simp only [aPure] at hx ⊢
      unfold aField at hx ⊢
      split at hx
      · split at hx
        · split at hx
          · split at hx
            · cases hx
            · rename_i hsz
              rw [if_neg hsz]
              split at hx
              · exact hx
              · split at hx
                · rename_i hl; rw [if_pos (live_sp hp hl)]; exact hx
                · cases hx
              · cases hx
          · cases hx
        · cases hx
      · cases hx
    case indexAddr t y i =>
      simp only [aPure] at hx ⊢
      unfold aIdx at hx ⊢
      split at hx
      · split at hx
        · split at hx
          · split at hx
            · exact hx
            · exact hx
            · split at hx
              · rename_i hl; rw [if_pos ⟨hl.1, hl.2.1, live_sp hp hl.2.2⟩]; exact hx
              · cases hx
            · cases hx
          · cases hx
        · cases hx
      · cases hx
    case slice t x lo hi mx => simp [aPure] at hx
    case call c' =>
      obtain ⟨callee, args, argTypes⟩ := c'
      cases callee with
      | value f => simp [sOp] at hs
      | invoke r m => simp [sOp] at hs
      | builtin b =>
        cases b <;> first | (simp [sOp] at hs; done) | skip
        simp only [aPure] at hx ⊢
        split at hx
        · split at hx
          · rename_i n cs t hv ht
            obtain ⟨cs', hv'⟩ := len_sp hp hv
            rw [hv', ht]; exact hx
          · cases hx
        all_goals first | (rename_i h1; cases h1; done) | exact hx | (rename_i h1 _; cases h1; done)
  | same hx hz => cases op <;> first | (simp [zOp] at hz; done) | (simp [sOp] at hs; done)
  | eff _ hx hnn hz hss hnz =>
    refine .eff _ _ ?_ hnn hz hss hnz
    cases op <;> first | (simp [sOp] at hs; done) | skip
    case load => simp [aEff] at hx
    case nilCheck => simp [aEff] at hx
    case fieldAddr => simp [aEff] at hx
    case indexAddr => simp [aEff] at hx
    case slice t y lo hi mx =>
      simp only [aEff] at hx ⊢
      obtain ⟨x0, hx0, hx1⟩ := Option.map_eq_some_iff.1 hx
      simp only [Prod.mk.injEq] at hx1
      obtain ⟨rfl, _⟩ := hx1
      have : aSlice P t h2 (ρ y) (lo.map ρ) (hi.map ρ) (mx.map ρ) = some x0 := by
        unfold aSlice at hx0 ⊢
        split at hx0
        · split at hx0
          · split at hx0
            · rename_i E n cs hE hv
              obtain ⟨cs', hv'⟩ := len_sp hp hv
              rw [hv']
              simp only [*]
            · cases hx0
          · cases hx0
        · cases hx0
      rw [this]; rfl
    case call c' =>
      obtain ⟨callee, args, argTypes⟩ := c'
      cases callee with
      | value f => simp [sOp] at hs
      | invoke r m => simp [sOp] at hs
      | builtin b => cases b <;> first | (simp [sOp] at hs; done) | (simp [aEff] at hx; done)

theorem eff_not_s {op : Op} (he : effOp c op = true) : sOp c op = false := by
  cases op <;> first | rfl | (simp [effOp] at he; done) | skip
  case call c' =>
    obtain ⟨callee, args, argTypes⟩ := c'
    cases callee with
    | value f => rfl
    | invoke r m => rfl
    | builtin b => cases b <;> first | rfl | (simp [effOp] at he; done)

theorem nOp_idle {op : Op} (hn : nOp op = true) : effOp c op = false := by
  cases op <;> first | rfl | (simp [nOp] at hn; done) | skip
  case call c =>
    obtain ⟨callee, args, argTypes⟩ := c
    cases callee with
    | value f => simp [nOp] at hn
    | invoke r m => rfl
    | builtin b => cases b <;> first | rfl | (simp [nOp] at hn; done)

end
end Go.AW

/- A region that draws its order. -/
namespace Go.AW
open Go Go.RowKit

theorem orB_bit {B : Array Nat} {i : Nat} : ∀ (l : List Edge) (s0 : Nat), (l.foldl (fun s e => if Region.binds .any e then s ||| (2 ^ e.on ||| B.getD e.on 0) else s) s0).testBit i = true → s0.testBit i = true ∨ ∃ e ∈ l, Region.binds .any e = true ∧ (e.on = i ∨ (B.getD e.on 0).testBit i = true) := by
  intro l
  induction l with
  | nil => intro s0 h; exact .inl h
  | cons e l ih =>
    intro s0 h
    simp only [List.foldl_cons] at h
    rcases ih _ h with h1 | ⟨e', he', h2⟩
    · split at h1
      · rename_i hb
        simp only [Nat.testBit_or, Bool.or_eq_true, Nat.testBit_two_pow, decide_eq_true_eq] at h1
        rcases h1 with h1 | h1 | h1
        · exact .inl h1
        · exact .inr ⟨e, by simp, hb, .inl h1⟩
        · exact .inr ⟨e, by simp, hb, .inr h1⟩
      · exact .inl h1
    · exact .inr ⟨e', by simp [he'], h2⟩

theorem orB_mem {B : Array Nat} {e : Edge} (hb : Region.binds .any e = true) : ∀ (l : List Edge) (s0 : Nat), (e ∈ l → (l.foldl (fun s e => if Region.binds .any e then s ||| (2 ^ e.on ||| B.getD e.on 0) else s) s0).testBit e.on = true) ∧
    ∀ i, s0.testBit i = true → (l.foldl (fun s e => if Region.binds .any e then s ||| (2 ^ e.on ||| B.getD e.on 0) else s) s0).testBit i = true := by
  intro l
  induction l with
  | nil => intro s0; exact ⟨fun h => by simp at h, fun i h => h⟩
  | cons e' l ih =>
    intro s0
    simp only [List.foldl_cons]
    constructor
    · intro hm
      rcases List.mem_cons.1 hm with rfl | hm
      · refine (ih _).2 _ ?_
        rw [if_pos hb]
        simp [Nat.testBit_or]
      · exact (ih _).1 hm
    · intro i h
      refine (ih _).2 _ ?_
      split
      · simp [Nat.testBit_or, h]
      · exact h

/-- The operand's value, out of the slots' values. -/
def evF (f : Nat → AVal) : Operand → AVal
  | .tmp t => f t
  | .const v => ofConst v
  | .global g => .val (.pointer (some ⟨g, 0, none⟩))
  | .func f => .func (.func f) [] []

theorem ev_evF (env : List (Nat × AVal)) : ev env = evF (look env) := by
  funext x; cases x <;> rfl

def dstOf (ops : Array Oper) (i : Nat) : Option Nat := (ops[i]?).bind (·.dst)

/-- The slots when the operations of L below n have been run. -/
def envF (ops : Array Oper) (val : Nat → AVal) (e0 : Nat → AVal) (L : Nat → Bool) : Nat → (Nat → AVal)
  | 0 => e0
  | i + 1 => fun t => if L i = true ∧ dstOf ops i = some t then val i else envF ops val e0 L i t

/-- What the run in the order of the text says of operation i. -/
def OpAt (P : Program) (c : EffF) (ops : Array Oper) (val : Nat → AVal) (hp : Nat → List AObj) (env : Nat → AVal) (i : Nat) (o : Oper) : Prop :=
  (OpR P c o (evF env) (hp i) (val i) (hp (i + 1)) ∧ (o.guard = none ∨ ∃ j want t, o.guard = some (j, want) ∧ dstOf ops j = some t ∧ env t = .val (.bool want))) ∨
  (val i = .val undef ∧ hp (i + 1) = hp i ∧ ∃ j want t, o.guard = some (j, want) ∧ dstOf ops j = some t ∧ ((∃ b, env t = .val (.bool b) ∧ b ≠ want) ∨ ∃ us, env t = .val (.tuple us)))

section
variable {P : Program} {W0 : World} {ok0 A : Nat → Prop} {N : Nat}

/-- The run in the order of the text, laid out. -/
theorem awpList_run [c : EffF] {ops : Array Oper} {Qs : ASt → Prop} : ∀ (l : List Oper) (k : Nat) (s : ASt) (val0 : Nat → AVal) (hp0 : Nat → List AObj) (e0 : Nat → AVal), (∀ j, l[j]? = ops[k + j]?) → awpList P ops.toList Qs l s →
    hp0 k = s.heap → (∀ t, look s.env t = envF ops val0 e0 (fun _ => true) k t) →
    (∀ i o, i < k → ops[i]? = some o → OpAt P c ops val0 hp0 (envF ops val0 e0 (fun _ => true) i) i o) →
    ∃ val hp, hp 0 = (if k = 0 then s.heap else hp0 0) ∧ (∀ i o, i < k + l.length → ops[i]? = some o → OpAt P c ops val hp (envF ops val e0 (fun _ => true) i) i o) ∧
      ∃ s', Qs s' ∧ s'.heap = hp (k + l.length) ∧ ∀ t, look s'.env t = envF ops val e0 (fun _ => true) (k + l.length) t := by
  intro l
  induction l with
  | nil =>
    intro k s val0 hp0 e0 _ h hh henv hat
    refine ⟨val0, hp0, ?_, by simpa using hat, s, h, by simpa using hh.symm, by simpa using henv⟩
    split
    · rename_i hk; subst hk; exact hh
    · rfl
  | cons o rest ih =>
    intro k s val0 hp0 e0 hl h hh henv hat
    have ho : ops[k]? = some o := by have := hl 0; simpa using this.symm
    have hl' : ∀ j, rest[j]? = ops[k + 1 + j]? := fun j => by have := hl (j + 1); simpa [Nat.add_assoc, Nat.add_comm 1 j] using this
    -- one step
    have step : ∀ v h', awpList P ops.toList Qs rest ⟨putA o.dst v s.env, h'⟩ → (∀ val hp, val k = v → hp k = s.heap → hp (k + 1) = h' → (∀ t, envF ops val e0 (fun _ => true) k t = look s.env t) → OpAt P c ops val hp (envF ops val e0 (fun _ => true) k) k o) →
        ∃ val hp, hp 0 = (if k = 0 then s.heap else hp0 0) ∧ (∀ i o, i < k + (rest.length + 1) → ops[i]? = some o → OpAt P c ops val hp (envF ops val e0 (fun _ => true) i) i o) ∧
      ∃ s', Qs s' ∧ s'.heap = hp (k + (rest.length + 1)) ∧ ∀ t, look s'.env t = envF ops val e0 (fun _ => true) (k + (rest.length + 1)) t := by
      intro v h' hrest hop
      let val1 : Nat → AVal := fun i => if i = k then v else val0 i
      let hp1 : Nat → List AObj := fun i => if i = k + 1 then h' else hp0 i
      have hsame : ∀ i, i ≤ k → envF ops val1 e0 (fun _ => true) i = envF ops val0 e0 (fun _ => true) i := by
        intro i
        induction i with
        | zero => intro _; rfl
        | succ i ihi =>
          intro hi
          funext t
          simp only [envF]
          rw [ihi (by omega)]
          have : val1 i = val0 i := by simp only [val1]; rw [if_neg (by omega)]
          rw [this]
      have hv1 : val1 k = v := by simp [val1]
      have hp1k : hp1 k = s.heap := by simp only [hp1]; rw [if_neg (by omega)]; exact hh
      have hp1k1 : hp1 (k + 1) = h' := by simp [hp1]
      obtain ⟨val, hp, g1, g2, g3⟩ := ih (k + 1) ⟨putA o.dst v s.env, h'⟩ val1 hp1 e0 hl' hrest hp1k1 (fun t => by
          simp only [look_putA, envF, dstOf, ho, Option.bind_some, true_and, hv1]
          split
          · rfl
          · rw [hsame k (Nat.le_refl _), henv])
        (fun i oi hi hoi => by
          rcases Nat.lt_or_ge i k with hik | hik
          · have := hat i oi hik hoi
            rw [hsame i (by omega)]
            have e1 : val1 i = val0 i := by simp only [val1]; rw [if_neg (by omega)]
            have e2 : hp1 i = hp0 i := by simp only [hp1]; rw [if_neg (by omega)]
            have e3 : hp1 (i + 1) = hp0 (i + 1) := by simp only [hp1]; rw [if_neg (by omega)]
            simpa only [OpAt, e1, e2, e3] using this
          · have : i = k := by omega
            subst this
            rw [ho] at hoi; cases hoi
            exact hop val1 hp1 hv1 hp1k hp1k1 (fun t => by rw [hsame _ (Nat.le_refl _), henv]))
      refine ⟨val, hp, ?_, ?_, ?_⟩
      · rw [g1, if_neg (by omega)]
        split
        · rename_i hk; subst hk; exact hp1k
        · rename_i hk; simp only [hp1]; rw [if_neg (by omega)]
      · have : k + 1 + rest.length = k + (rest.length + 1) := by omega
        rwa [this] at g2
      · have : k + 1 + rest.length = k + (rest.length + 1) := by omega
        rwa [this] at g3
    have runs : (o.guard = none ∨ ∃ j want t, o.guard = some (j, want) ∧ dstOf ops j = some t ∧ look s.env t = .val (.bool want)) → opK P o (ev s.env) s.heap (fun v h' => awpList P ops.toList Qs rest ⟨putA o.dst v s.env, h'⟩) → (∃ val hp, hp 0 = (if k = 0 then s.heap else hp0 0) ∧ (∀ i o, i < k + (rest.length + 1) → ops[i]? = some o → OpAt P c ops val hp (envF ops val e0 (fun _ => true) i) i o) ∧
      ∃ s', Qs s' ∧ s'.heap = hp (k + (rest.length + 1)) ∧ ∀ t, look s'.env t = envF ops val e0 (fun _ => true) (k + (rest.length + 1)) t) := fun hg hk => by
      obtain ⟨v, h', hR, hK⟩ := opK_R hk
      refine step v h' hK fun val hp e1 e2 e3 e4 => .inl ⟨?_, ?_⟩
      · rw [e1, e2, e3, funext e4, ← ev_evF]; exact hR
      · rcases hg with hg | ⟨j, want, t, a1, a2, a3⟩
        · exact .inl hg
        · exact .inr ⟨j, want, t, a1, a2, by rw [e4]; exact a3⟩
    simp only [List.length_cons]
    simp only [awpList] at h
    split at h
    · rename_i hg; exact runs (.inl hg) h
    · rename_i j want hg
      split at h
      · rename_i t ht
        have ht' : dstOf ops j = some t := by simpa [dstOf] using ht
        split at h
        · rename_i b hb
          by_cases hbw : b = want
          · exact runs (.inr ⟨j, want, t, hg, ht', by rw [hb, hbw]⟩) (h.1 hbw)
          · exact step _ _ (h.2 hbw) fun val hp e1 e2 e3 e4 => .inr ⟨e1, by rw [e2, e3], j, want, t, hg, ht', .inl ⟨b, by rw [e4]; exact hb, hbw⟩⟩
        · rename_i us hb
          exact step _ _ h fun val hp e1 e2 e3 e4 => .inr ⟨e1, by rw [e2, e3], j, want, t, hg, ht', .inr ⟨us, by rw [e4]; exact hb⟩⟩
        · exact h.elim
      · exact h.elim

end
end Go.AW

/- A region that draws its order does, in every order, what the abstract machine says in the text's. -/
namespace Go.AW
open Go Go.RowKit

section
variable {P : Program} {cf : EffF} {B : Bs} {W0 : World} {ok0 A : Nat → Prop} {N : Nat}

theorem map_ev {ρ ρ' : Operand → AVal} {l : List Operand} (h : ∀ x ∈ l, ρ x = ρ' x) : l.map ρ = l.map ρ' := List.map_congr_left h

theorem aPure_congr {o : Oper} {ρ ρ' : Operand → AVal} {h : List AObj} (hρ : ∀ x ∈ o.op.operands, ρ x = ρ' x) : aPure P o ρ h = aPure P o ρ' h := by
  obtain ⟨dst, op, type, pos, after, guard⟩ := o
  cases op <;> simp only [Op.operands] at hρ <;> simp only [aPure]
  case makeFunc fn first captured =>
    rw [map_ev (ρ := ρ) (ρ' := ρ') (l := first.toList) (fun x hx => hρ x (by simp at hx; simp [hx])), map_ev (ρ := ρ) (ρ' := ρ') (l := captured.toList) (fun x hx => hρ x (by simp at hx; simp [hx]))]
  case call c =>
    obtain ⟨callee, args, argTypes⟩ := c
    cases callee with
    | value f => rfl
    | invoke r m => rfl
    | builtin b =>
      have : args.toList.map ρ = args.toList.map ρ' := map_ev fun x hx => hρ x (by simp at hx; simp [Call.operands, hx])
      simp only [this]
  all_goals first | rfl | (simp_all; done)

theorem aEff_congr {o : Oper} {ρ ρ' : Operand → AVal} {h : List AObj} (hρ : ∀ x ∈ o.op.operands, ρ x = ρ' x) : aEff P o ρ h = aEff P o ρ' h := by
  obtain ⟨dst, op, type, pos, after, guard⟩ := o
  have pairs : ∀ ps : Array (Nat × Operand), (∀ x ∈ (ps.toList.map (·.2)), ρ x = ρ' x) → (ps.toList.map fun (i, x) => (i, ρ x)) = (ps.toList.map fun (i, x) => (i, ρ' x)) := fun ps hp =>
    List.map_congr_left fun p hm => by
      obtain ⟨i, x⟩ := p
      simp only [hp x (List.mem_map.2 ⟨(i, x), hm, rfl⟩)]
  cases op <;> simp only [Op.operands] at hρ <;> simp only [aEff]
  case build t ps => rw [pairs ps fun x hx => hρ x (by simpa using hx)]
  case buildSlice t n ps =>
    have hall : (ps.toList.all fun p => (ρ p.2).one) = (ps.toList.all fun p => (ρ' p.2).one) := by
      rw [Bool.eq_iff_iff, List.all_eq_true, List.all_eq_true]
      have : ∀ p ∈ ps.toList, ρ p.2 = ρ' p.2 := fun p hp => hρ p.2 (by simp at hp ⊢; exact ⟨p.1, hp⟩)
      exact ⟨fun h p hp => by rw [← this p hp]; exact h p hp, fun h p hp => by rw [this p hp]; exact h p hp⟩
    rw [pairs ps fun x hx => hρ x (by simpa using hx), hall]
  case slice t x lo hi mx => cases lo <;> cases hi <;> cases mx <;> simp_all
  case call c =>
    obtain ⟨callee, args, argTypes⟩ := c
    cases callee with
    | value f => rfl
    | invoke r m => rfl
    | builtin b =>
      have : args.toList.map ρ = args.toList.map ρ' := map_ev fun x hx => hρ x (by simp at hx; simp [Call.operands, hx])
      cases b <;> first | rfl | simp only [this]
  all_goals first | rfl | (simp_all; done)

theorem appNew_congr {o : Oper} {ρ ρ' : Operand → AVal} (hρ : ∀ x ∈ o.op.operands, ρ x = ρ' x) : appNew cf o ρ = appNew cf o ρ' := by
  unfold appNew
  split
  · rename_i args ty ho
    rw [ho] at hρ
    simp only [Op.operands, Call.operands] at hρ
    split
    · rename_i x hx
      have hm : x ∈ args := by
        obtain ⟨h1, h2⟩ := Array.getElem?_eq_some_iff.1 hx
        rw [← h2]; exact Array.getElem_mem h1
      rw [hρ x (by simp [hm])]
    · rfl
  · rfl

theorem aFrzO_congr {o : Oper} {ρ ρ' : Operand → AVal} {h : List AObj} (hρ : ∀ x ∈ o.op.operands, ρ x = ρ' x) : aFrzO P o ρ h = aFrzO P o ρ' h := by
  unfold aFrzO
  split
  · rename_i e y ho
    rw [ho] at hρ
    rw [hρ y (by simp [Op.operands])]
  · rename_i args ty ho
    rw [ho] at hρ
    simp only [Op.operands, Call.operands] at hρ
    have : args.toList.map ρ = args.toList.map ρ' := map_ev fun x hx => hρ x (by simp at hx; simp [hx])
    rw [this]
  · rfl

theorem ldOk_congr {o : Oper} {ρ ρ' : Operand → AVal} (hρ : ∀ x ∈ o.op.operands, ρ x = ρ' x) : ldOk cf o ρ = ldOk cf o ρ' := by
  unfold ldOk
  split
  · rename_i t a ho
    rw [ho] at hρ
    rw [hρ a (by simp [Op.operands])]
  · rfl
theorem stOk_congr {o : Oper} {ρ ρ' : Operand → AVal} (hρ : ∀ x ∈ o.op.operands, ρ x = ρ' x) : stOk cf o ρ = stOk cf o ρ' := by
  unfold stOk
  split
  · rename_i t a v ho
    rw [ho] at hρ
    rw [hρ a (by simp [Op.operands])]
  · rfl

theorem OpR.congr {o : Oper} {ρ ρ' : Operand → AVal} {h h' : List AObj} {v : AVal} (hρ : ∀ x ∈ o.op.operands, ρ x = ρ' x) (hR : OpR P cf o ρ h v h') : OpR P cf o ρ' h v h' := by
  cases hR with
  | pure hx hl => exact .pure _ (by rw [← aPure_congr hρ]; exact hx) (by rw [← ldOk_congr hρ]; exact hl)
  | same hx hz => exact .same _ (by rw [← aEff_congr hρ]; exact hx) hz
  | eff _ hx hn hz hs hnz => exact .eff _ _ (by rw [← aEff_congr hρ]; exact hx) (by rw [← appNew_congr hρ]; exact hn) hz (by rw [← stOk_congr hρ]; exact hs) hnz
  | frz hx hz => exact .frz _ (by rw [← aFrzO_congr hρ]; exact hx) hz
  | call fo args ty ho hc =>
    refine .call _ fo args ty ho ?_
    rw [ho] at hρ
    simp only [Op.operands, Call.operands] at hρ
    rw [← hρ fo (by simp), ← map_ev (ρ := ρ) (l := args.toList) (fun x hx => hρ x (by simp at hx; simp [hx]))]
    exact hc
  | callTo _ fo args ty ho he hc =>
    refine .callTo _ _ fo args ty ho he ?_
    rw [ho] at hρ
    simp only [Op.operands, Call.operands] at hρ
    rw [← hρ fo (by simp), ← map_ev (ρ := ρ) (l := args.toList) (fun x hx => hρ x (by simp at hx; simp [hx]))]
    exact hc

theorem envF_upto {ops : Array Oper} {val : Nat → AVal} {e0 : Nat → AVal} {L : Nat → Bool} {t i : Nat} (h : ∀ j, j < i → dstOf ops j = some t → L j = true) : ∀ n, n ≤ i → envF ops val e0 L n t = envF ops val e0 (fun _ => true) n t := by
  intro n
  induction n with
  | zero => intro _; rfl
  | succ n ih =>
    intro hn
    simp only [envF, true_and]
    by_cases hd : dstOf ops n = some t
    · rw [if_pos ⟨h n (by omega) hd, hd⟩, if_pos hd]
    · rw [if_neg (fun hc => hd hc.2), if_neg hd]; exact ih (by omega)

theorem envF_beyond {ops : Array Oper} {val : Nat → AVal} {e0 : Nat → AVal} {L : Nat → Bool} {t i : Nat} : ∀ n, (∀ j, i ≤ j → j < i + n → dstOf ops j = some t → L j = false) → envF ops val e0 L (i + n) t = envF ops val e0 L i t := by
  intro n
  induction n with
  | zero => intro _; rfl
  | succ n ih =>
    intro h
    show envF ops val e0 L (i + n + 1) t = _
    simp only [envF]
    rw [if_neg, ih (fun j h1 h2 => h j h1 (by omega))]
    rintro ⟨h1, h2⟩
    rw [h (i + n) (by omega) (by omega) h2] at h1
    cases h1

theorem envF_other {ops : Array Oper} {val : Nat → AVal} {e0 : Nat → AVal} {L L' : Nat → Bool} {t i : Nat} (hd : dstOf ops i ≠ some t) (hL : ∀ j, j ≠ i → L' j = L j) : ∀ n, envF ops val e0 L' n t = envF ops val e0 L n t := by
  intro n
  induction n with
  | zero => rfl
  | succ n ih =>
    simp only [envF]
    rw [ih]
    by_cases hn : n = i
    · subst hn
      rw [if_neg (fun hc => hd hc.2), if_neg (fun hc => hd hc.2)]
    · rw [hL n hn]

theorem drawOk_at {ops : Array Oper} (hB : drawOk cf ops = true) {j : Nat} {y : Oper} (hj : ops[j]? = some y) :
    (∀ e ∈ y.after, Region.binds .any e = true → e.on < j) ∧ (Region.before ops).getD j 0 = orB (Region.before ops) y.after.toList ∧
    (∀ i x, i < j → ops[i]? = some x → confl ops x y = true ∨ (effConfl cf x y = true ∧ alPair cf ops i j x y = false) → ((Region.before ops).getD j 0).testBit i = true) := by
  have hlt : j < ops.size := (Array.getElem?_eq_some_iff.1 hj).1
  simp only [drawOk] at hB
  have h1 := List.all_eq_true.1 hB j (by simpa using hlt)
  simp only [hj, Bool.and_eq_true] at h1
  obtain ⟨h1, _⟩ := h1
  simp only [drawAt, Bool.and_eq_true, beq_iff_eq] at h1
  obtain ⟨⟨h2, h3⟩, h4⟩ := h1
  refine ⟨fun e he hb => ?_, h3, fun i x hi hx hc => ?_⟩
  · have := List.all_eq_true.1 h2 e (by simpa using he)
    simpa [hb] using this
  · have := List.all_eq_true.1 h4 i (by simpa using hi)
    simp only [hx, Bool.or_eq_true, Bool.not_eq_true'] at this
    rcases this with h5 | h5
    · rcases hc with hc | hc <;> simp [hc] at h5
    · exact h5

theorem isAl_op {o : Oper} (ha : isAl o = true) : ∃ e, o.op = .alloc e ∧ o.guard = none := by
  unfold isAl at ha
  split at ha
  · rename_i e he; exact ⟨e, he, by simpa using ha⟩
  · cases ha
theorem isAl_eff {o : Oper} (ha : isAl o = true) : effOp cf o.op = true := by
  obtain ⟨e, he, _⟩ := isAl_op ha; rw [he]; rfl
theorem isAl_alOp {o : Oper} (ha : isAl o = true) : alOp cf o.op = true := by
  obtain ⟨e, he, _⟩ := isAl_op ha; rw [he]; rfl
theorem isAl_not_n {o : Oper} (ha : isAl o = true) : nOp o.op = false := by
  obtain ⟨e, he, _⟩ := isAl_op ha; rw [he]; rfl
theorem isAl_not_st {o : Oper} (ha : isAl o = true) : stOp o.op = false := by
  obtain ⟨e, he, _⟩ := isAl_op ha; rw [he]; rfl
theorem alPair_l {ops : Array Oper} {i j : Nat} {x y : Oper} (h : isAl x = false) : alPair cf ops i j x y = false := by simp [alPair, h]
theorem alPair_r {ops : Array Oper} {i j : Nat} {x y : Oper} (h : isAl y = false) : alPair cf ops i j x y = false := by simp [alPair, h]
theorem alPair_m {ops : Array Oper} {i j k : Nat} {x y z : Oper} (h1 : i < k) (h2 : k < j) (hz : ops[k]? = some z) (he : effOp cf z.op = true) (ha : isAl z = false) : alPair cf ops i j x y = false := by
  unfold alPair
  rw [Bool.and_eq_false_iff]
  right
  rw [List.all_eq_false]
  exact ⟨k, by simpa using h2, by simp [hz, he, ha]; omega⟩

/-- Holes behind the objects. -/
theorem step_holes {β : Nat → Nat × Nat} {h : List AObj} {w : World} (hr : HR W0 ok0 A β h w) (hs : List AObj) (hh : ∀ o ∈ hs, o.es = 0) : Step W0 ok0 A β h w β (h ++ hs) w := by
  have hget : ∀ (i : Nat) (o : AObj), (h ++ hs)[i]? = some o → o.es ≠ 0 → h[i]? = some o := by
    intro i o hi hes
    rcases Nat.lt_or_ge i h.length with hl | hl
    · rwa [List.getElem?_append_left hl] at hi
    · rw [List.getElem?_append_right hl] at hi
      exact absurd (hh _ (List.mem_of_getElem? hi)) hes
  have hlens : lens (h ++ hs) = lens h := by
    funext i
    unfold lens
    rcases Nat.lt_or_ge i h.length with hl | hl
    · rw [List.getElem?_append_left hl]
    · rw [List.getElem?_append_right hl, List.getElem?_eq_none hl]
      cases hx : hs[i - h.length]? with
      | none => rfl
      | some o => simp [hh _ (List.mem_of_getElem? hx)]
  have hlive : ∀ i, live (h ++ hs) i → live h i := fun i ⟨o, h1, h2⟩ => ⟨o, hget i o h1 h2, h2⟩
  have hok : ∀ b, okIn W0 ok0 w β h b → okIn W0 ok0 w β (h ++ hs) b := fun b hb => ⟨hb.1, fun i hi => hb.2.1 _ (hlive i hi), hb.2.2⟩
  have hm : ∀ x v, VR W0 ok0 β h w x v → VR W0 ok0 β (h ++ hs) w x v := fun x v hx => VRel.mono hok (fun _ _ h => h) (fun _ _ => rfl) (fun id l hl => ⟨l, by rw [hlens]; exact hl, Nat.le_refl _, fun _ => rfl⟩) hx
  refine ⟨⟨fun i o ho hes => ?_, fun i j hi hj => hr.inj i j (hlive i hi) (hlive j hj), fun i hi => hr.own i (hlive i hi), hr.os, hr.tape, hr.output, hr.wsize, hr.block⟩, hm, by simp⟩
  obtain ⟨cur, c1, c2, c3, c4, c5, c6⟩ := hr.heap i o (hget i o ho hes) hes
  exact ⟨cur, c1, c2, c3, c4, c5, fun j hj => hm _ _ (c6 j hj)⟩

theorem al_R {o : Oper} {e : TypeId} (he : o.op = .alloc e) {ρ : Operand → AVal} {h h' : List AObj} {v : AVal} (hR : OpR P cf o ρ h v h') : aEff P o ρ h = some (v, h') := by
  obtain ⟨dst, op, type, pos, after, guard⟩ := o
  simp only at he
  subst he
  cases hR with
  | pure hx _ => simp [aPure] at hx
  | frz hx hz => simp [aFrzO] at hx
  | call fo args ty hop hc => simp at hop
  | callTo _ fo args ty hop _ hc => simp at hop
  | same hx hz => simp [zOp] at hz
  | eff _ hx _ _ _ _ => exact hx

/-- A variable is made, in a hole. -/
theorem al_at {o : Oper} (ha : isAl o = true) {ops : Array Oper} {val : Nat → AVal} {hp : Nat → List AObj} {env : Nat → AVal} {i : Nat} (hat : OpAt P cf ops val hp env i o) :
    ∃ ob : AObj, ob.es ≠ 0 ∧ hp (i + 1) = hp i ++ [ob] ∧ ∀ (β : Nat → Nat × Nat) (H : List AObj) (w : World) (o0 : AObj) (a : Act) (next : Act → World → Prop) (Q : Exit → Act → World → Prop), HR W0 ok0 A β H w → H[(hp i).length]? = some o0 → o0.es = 0 →
      (∀ u β' w', Step W0 ok0 A β H w β' (H.set (hp i).length ob) w' → VR W0 ok0 β' (H.set (hp i).length ob) w' (val i) u → next (a.put o.dst u) w') → o.wp P a w next Q := by
  obtain ⟨e, he, hg⟩ := isAl_op ha
  rcases hat with ⟨hR, _⟩ | ⟨_, _, j, want, t, hg', _⟩
  · have hx := al_R he hR
    obtain ⟨dst, op, type, pos, after, guard⟩ := o
    simp only at he hg
    subst he; subst hg
    simp only [aEff] at hx
    split at hx
    · rename_i T ht
      split at hx
      · rename_i hl
        simp only [Option.some.injEq, Prod.mk.injEq] at hx
        obtain ⟨hx1, hx2⟩ := hx
        refine ⟨⟨e, T.size, T.zero.map ofCell⟩, hl.2, hx2.symm, fun β H w o0 a next Q hr ho h0 hn => ?_⟩
        obtain ⟨z, hz1, hz2, hz3⟩ := zero_AR (P := P) (W0 := W0) (ok0 := ok0) (β := β) (h := H) (w := w) ht
        have hst := step_fill (w' := w.alloc (.cells z.cells e)) hr (hp i).length o0 ⟨e, T.size, T.zero.map ofCell⟩ ho h0 hl.2 z.cells 1 rfl rfl rfl rfl (by rw [hz3.1]; simp [hl]) (by simp [maxLen]) (by rw [hz3.1]; exact Nat.le_refl _) hz3.2
        unfold Oper.wp
        have hrun : (execOp a.eval ⟨dst, .alloc e, type, pos, after, none⟩).run P w = .ok (.value (.pointer (some ⟨w.heap.size, 0, none⟩))) (w.alloc (.cells z.cells e)) := by simp [execOp, Instr.alloc, hz1, newVar, newRow]
        rw [hrun]
        refine hn _ _ _ hst ?_
        rw [← hx1]
        have hlt : (hp i).length < H.length := (List.getElem?_eq_some_iff.1 ho).1
        exact .ptr _ _ _ T.zero.length _ (by simp [lens, hlt, hl.2]) (by omega) (fun _ => by simp)
      · cases hx
    · cases hx
  · rw [hg] at hg'; cases hg'

/-- The makers of variables among n operations from c on; their objects, or holes where they have not been run. -/
def alN (ops : Array Oper) (c n : Nat) : List Nat := (List.range' c n).filter fun j => match ops[j]? with | some o => isAl o | none => false
def obA (hp : Nat → List AObj) (j : Nat) : AObj := ((hp (j + 1))[(hp j).length]?).getD ⟨0, 0, []⟩
def pend (ops : Array Oper) (hp : Nat → List AObj) (L : Nat → Bool) (c n : Nat) : List AObj := (alN ops c n).map fun j => if L j = true then obA hp j else ⟨0, 0, []⟩

theorem pend_add (ops : Array Oper) (hp : Nat → List AObj) (L : Nat → Bool) (c n k : Nat) : pend ops hp L c (n + k) = pend ops hp L c n ++ pend ops hp L (c + n) k := by
  simp only [pend, alN, ← List.map_append, ← List.filter_append]
  rw [List.range'_append_1]
theorem pend_one (ops : Array Oper) (hp : Nat → List AObj) (L : Nat → Bool) (c : Nat) : pend ops hp L c 1 = if (match ops[c]? with | some o => isAl o | none => false) = true then [if L c = true then obA hp c else ⟨0, 0, []⟩] else [] := by
  have h : alN ops c 1 = if (match ops[c]? with | some o => isAl o | none => false) = true then [c] else [] := by simp only [alN, List.range'_one, List.filter_cons, List.filter_nil]
  unfold pend
  rw [h]
  by_cases hx : (match ops[c]? with | some o => isAl o | none => false) = true
  · rw [if_pos hx, if_pos hx]; rfl
  · rw [if_neg hx, if_neg hx]; rfl
theorem pend_congr (ops : Array Oper) (hp : Nat → List AObj) {L L' : Nat → Bool} (c n : Nat) (h : ∀ x o, c ≤ x → x < c + n → ops[x]? = some o → isAl o = true → L x = L' x) : pend ops hp L c n = pend ops hp L' c n := by
  apply List.map_congr_left
  intro j hj
  obtain ⟨h1, h2⟩ := List.mem_filter.1 hj
  obtain ⟨i, h3, h4⟩ := List.mem_range'.1 h1
  cases ho : ops[j]? with
  | none => simp [ho] at h2
  | some o => simp only [ho] at h2; rw [h j o (by omega) (by omega) ho h2]
theorem pend_length (ops : Array Oper) (hp : Nat → List AObj) (L : Nat → Bool) (c n : Nat) : (pend ops hp L c n).length = (alN ops c n).length := by simp [pend]
theorem pend_holes (ops : Array Oper) (hp : Nat → List AObj) {L : Nat → Bool} (c n : Nat) (h : ∀ x o, c ≤ x → x < c + n → ops[x]? = some o → isAl o = true → L x = false) : ∀ o ∈ pend ops hp L c n, o.es = 0 := by
  rw [pend_congr (L' := fun _ => false) ops hp c n h]
  intro o ho
  obtain ⟨j, _, rfl⟩ := List.mem_map.1 ho
  rfl
theorem pend_all {ops : Array Oper} {val : Nat → AVal} {hp : Nat → List AObj} {env : Nat → Nat → AVal} {m : Nat} (hat : ∀ i o, i < m → ops[i]? = some o → OpAt P cf ops val hp (env i) i o) (hm : m = ops.size) {L : Nat → Bool} :
    ∀ n c, c + n ≤ m → (∀ x o, c ≤ x → x < c + n → ops[x]? = some o → effOp cf o.op = true → isAl o = true ∧ L x = true) → hp (c + n) = hp c ++ pend ops hp L c n := by
  intro n
  induction n with
  | zero => intro c _ _; simp [pend, alN]
  | succ n ih =>
    intro c hc h
    have h0 := ih c (by omega) (fun x o h1 h2 h3 => h x o h1 (by omega) h3)
    obtain ⟨o, ho⟩ : ∃ o, ops[c + n]? = some o := ⟨ops[c + n]'(by omega), by simp⟩
    rw [pend_add, ← List.append_assoc, ← h0, pend_one, ho]
    simp only
    by_cases ha : isAl o = true
    · obtain ⟨ob, _, h1, _⟩ := al_at (W0 := default) (ok0 := fun _ => True) (A := fun _ => True) ha (hat (c + n) o (by omega) ho)
      have hL := (h (c + n) o (by omega) (by omega) ho (isAl_eff ha)).2
      rw [if_pos ha, if_pos hL]
      simp only [obA, h1, List.getElem?_concat_length, Option.getD_some]
      exact h1
    · rw [if_neg ha]
      have he : effOp cf o.op = false := by
        cases he : effOp cf o.op with
        | false => rfl
        | true => exact absurd (h (c + n) o (by omega) (by omega) ho he).1 ha
      have h1 : hp (c + n + 1) = hp (c + n) := by
        rcases hat (c + n) o (by omega) ho with ⟨hR, _⟩ | ⟨_, h2, _⟩
        · exact hR.idle he
        · exact h2
      rw [List.append_nil]; exact h1
/-- Where the group ends that begins at c. -/
theorem next_e (cf : EffF) (ops : Array Oper) : ∀ n c, c + n = ops.size → ∃ e, c ≤ e ∧ e ≤ ops.size ∧ (∀ x o, c ≤ x → x < e → ops[x]? = some o → effOp cf o.op = true → isAl o = true) ∧ (∀ o, ops[e]? = some o → effOp cf o.op = true ∧ isAl o = false) := by
  intro n
  induction n with
  | zero => intro c hc; exact ⟨c, Nat.le_refl _, by omega, fun x o h1 h2 => by omega, fun o ho => by have := (Array.getElem?_eq_some_iff.1 ho).1; omega⟩
  | succ n ih =>
    intro c hc
    obtain ⟨o, ho⟩ : ∃ o, ops[c]? = some o := ⟨ops[c]'(by omega), by simp⟩
    by_cases hx : effOp cf o.op = true ∧ isAl o = false
    · exact ⟨c, Nat.le_refl _, by omega, fun x o h1 h2 => by omega, fun o' ho' => by rw [ho] at ho'; cases ho'; exact hx⟩
    · obtain ⟨e, h1, h2, h3, h4⟩ := ih (c + 1) (by omega)
      refine ⟨e, by omega, h2, fun x o' g1 g2 g3 g4 => ?_, h4⟩
      by_cases hxc : x = c
      · subst hxc
        rw [ho] at g3; cases g3
        cases ha : isAl o with
        | true => rfl
        | false => exact absurd ⟨g4, ha⟩ hx
      · exact h3 x o' (by omega) g2 g3 g4

theorem heap_same {ops : Array Oper} {val : Nat → AVal} {hp : Nat → List AObj} {env : Nat → Nat → AVal} {m : Nat} (hat : ∀ i o, i < m → ops[i]? = some o → OpAt P cf ops val hp (env i) i o) (hm : m = ops.size) :
    ∀ n c, c + n ≤ m → (∀ x o, c ≤ x → x < c + n → ops[x]? = some o → effOp cf o.op = false) → hp (c + n) = hp c := by
  intro n
  induction n with
  | zero => intro c _ _; rfl
  | succ n ih =>
    intro c hc h
    obtain ⟨o, ho⟩ : ∃ o, ops[c + n]? = some o := ⟨ops[c + n]'(by omega), by simp⟩
    have h1 : hp (c + n + 1) = hp (c + n) := by
      rcases hat (c + n) o (by omega) ho with ⟨hR, _⟩ | ⟨_, h2, _⟩
      · exact hR.idle (h _ _ (by omega) (by omega) ho)
      · exact h2
    show hp (c + n + 1) = hp c
    rw [h1]; exact ih c (by omega) (fun x o h1 h2 h3 => h x o h1 (by omega) h3)

theorem heap_pre {ops : Array Oper} {val : Nat → AVal} {hp : Nat → List AObj} {env : Nat → Nat → AVal} {m : Nat} (hat : ∀ i o, i < m → ops[i]? = some o → OpAt P cf ops val hp (env i) i o) (hm : m = ops.size) :
    ∀ n c, c + n ≤ m → (∀ x o, c ≤ x → x < c + n → ops[x]? = some o → effOp cf o.op = true → alOp cf o.op = true) → Pre (hp c) (hp (c + n)) := by
  intro n
  induction n with
  | zero => intro c _ _; exact Pre.refl _
  | succ n ih =>
    intro c hc h
    obtain ⟨o, ho⟩ : ∃ o, ops[c + n]? = some o := ⟨ops[c + n]'(by omega), by simp⟩
    have h0 := ih c (by omega) (fun x o h1 h2 h3 => h x o h1 (by omega) h3)
    have h1 : Pre (hp (c + n)) (hp (c + n + 1)) := by
      rcases hat (c + n) o (by omega) ho with ⟨hR, _⟩ | ⟨_, h2, _⟩
      · by_cases he : effOp cf o.op = true
        · obtain ⟨y, hy⟩ := hR.al (h _ _ (by omega) (by omega) ho he)
          intro i ob hi
          rw [hy, List.getElem?_append_left (List.getElem?_eq_some_iff.1 hi).1]; exact hi
        · rw [hR.idle (by simpa using he)]; exact Pre.refl _
      · rw [h2]; exact Pre.refl _
    exact fun i ob hi => h1 i ob (h0 i ob hi)

theorem heap_sp {ops : Array Oper} {val : Nat → AVal} {hp : Nat → List AObj} {env : Nat → Nat → AVal} {m : Nat} (hat : ∀ i o, i < m → ops[i]? = some o → OpAt P cf ops val hp (env i) i o) (hm : m = ops.size) :
    ∀ n c, c + n ≤ m → (∀ x o, c ≤ x → x < c + n → ops[x]? = some o → effOp cf o.op = true → alOp cf o.op = true ∨ stOp o.op = true) → SP cf.D (hp c) (hp (c + n)) := by
  intro n
  induction n with
  | zero => intro c _ _; exact SP.refl _ _
  | succ n ih =>
    intro c hc h
    obtain ⟨o, ho⟩ : ∃ o, ops[c + n]? = some o := ⟨ops[c + n]'(by omega), by simp⟩
    refine (ih c (by omega) (fun x o h1 h2 h3 => h x o h1 (by omega) h3)).trans ?_
    rcases hat (c + n) o (by omega) ho with ⟨hR, _⟩ | ⟨_, h2, _⟩
    · by_cases he : effOp cf o.op = true
      · rcases h _ _ (by omega) (by omega) ho he with h3 | h3
        · obtain ⟨y, hy⟩ := hR.al h3
          refine SP.of_pre fun i ob hi => ?_
          rw [show c + (n + 1) = c + n + 1 from rfl, hy, List.getElem?_append_left (List.getElem?_eq_some_iff.1 hi).1]; exact hi
        · exact (hR.st h3).1
      · rw [show c + (n + 1) = c + n + 1 from rfl, hR.idle (by simpa using he)]; exact SP.refl _ _
    · rw [show c + (n + 1) = c + n + 1 from rfl, h2]; exact SP.refl _ _

theorem heap_sp' {ops : Array Oper} {val : Nat → AVal} {hp : Nat → List AObj} {env : Nat → Nat → AVal} {m : Nat} (hat : ∀ i o, i < m → ops[i]? = some o → OpAt P cf ops val hp (env i) i o) (hm : m = ops.size) :
    ∀ n c, c + n ≤ m → (∀ x o, c ≤ x → x < c + n → ops[x]? = some o → effOp cf o.op = true → stOp o.op = true) → SP cf.D (hp (c + n)) (hp c) := by
  intro n
  induction n with
  | zero => intro c _ _; exact SP.refl _ _
  | succ n ih =>
    intro c hc h
    obtain ⟨o, ho⟩ : ∃ o, ops[c + n]? = some o := ⟨ops[c + n]'(by omega), by simp⟩
    refine SP.trans ?_ (ih c (by omega) (fun x o h1 h2 h3 => h x o h1 (by omega) h3))
    rcases hat (c + n) o (by omega) ho with ⟨hR, _⟩ | ⟨_, h2, _⟩
    · by_cases he : effOp cf o.op = true
      · exact (hR.st (h _ _ (by omega) (by omega) ho he)).2
      · rw [show c + (n + 1) = c + n + 1 from rfl, hR.idle (by simpa using he)]; exact SP.refl _ _
    · rw [show c + (n + 1) = c + n + 1 from rfl, h2]; exact SP.refl _ _

/-- What holds when the operations of 'listed' have been run. -/
structure Inv (cf : EffF) (B : Bs) (W0 : World) (ok0 A : Nat → Prop) (N : Nat) (ops : Array Oper) (val : Nat → AVal) (hp : Nat → List AObj) (e0 : Nat → AVal) (listed : Array Bool) (a : Act) (w : World) : Prop where
  size : listed.size = ops.size
  closed : ∀ j, listed.getD j false = true → ∀ i, ((Region.before ops).getD j 0).testBit i = true → listed.getD i false = true
  rest : ∃ c e, c ≤ e ∧ e ≤ ops.size ∧ (∀ x o, c ≤ x → x < e → ops[x]? = some o → effOp cf o.op = true → isAl o = true) ∧ (∀ o, ops[e]? = some o → effOp cf o.op = true ∧ isAl o = false) ∧
    (∀ i o, i < c → ops[i]? = some o → effOp cf o.op = true → listed.getD i false = true) ∧ (∀ i o, e ≤ i → ops[i]? = some o → effOp cf o.op = true → listed.getD i false = false) ∧
    ∃ β, HR W0 ok0 A β (hp c ++ pend ops hp (fun j => listed.getD j false) c (e - c)) w ∧ (∀ t, VR W0 ok0 β (hp c ++ pend ops hp (fun j => listed.getD j false) c (e - c)) w (envF ops val e0 (fun i => listed.getD i false) ops.size t) (a.tmps.getD t undef)) ∧ a.tmps.size = N ∧ a.defers = [] ∧
      (∀ x v, VR W0 ok0 B.β B.h B.w x v → VR W0 ok0 β (hp c ++ pend ops hp (fun j => listed.getD j false) c (e - c)) w x v) ∧ B.h.length ≤ (hp c ++ pend ops hp (fun j => listed.getD j false) c (e - c)).length

theorem set_getD (l : Array Bool) (i j : Nat) (hi : i < l.size) : (l.setIfInBounds i true).getD j false = if j = i then true else l.getD j false := by
  simp only [Array.getD_eq_getD_getElem?]
  by_cases hj : j = i
  · subst hj; simp [hi]
  · rw [if_neg hj, Array.getElem?_setIfInBounds_ne (Ne.symm hj)]

theorem Inv.step {ops : Array Oper} {val : Nat → AVal} {hp : Nat → List AObj} {e0 : Nat → AVal} {listed : Array Bool} {a : Act} {w : World} (hB : drawOk cf ops = true) (hall : ops.toList.all (opOk N) = true)
    (hat : ∀ i o, i < ops.size → ops[i]? = some o → OpAt P cf ops val hp (envF ops val e0 (fun _ => true) i) i o) (hinv : Inv cf B W0 ok0 A N ops val hp e0 listed a w) {i : Nat} (hi : i ∈ Region.ready .any ops listed)
    {K : Act → World → Prop} {Q : Exit → Act → World → Prop} (hK : ∀ a w, Inv cf B W0 ok0 A N ops val hp e0 (listed.setIfInBounds i true) a w → K a w) : wpOp P ops Q i K a w := by
  obtain ⟨hun, o, ho, hafter⟩ := mem_ready.1 hi
  have hlt : i < ops.size := (Array.getElem?_eq_some_iff.1 ho).1
  have hlt' : i < listed.size := by rw [hinv.size]; exact hlt
  have hun' : listed.getD i false = false := by
    simp only [Array.getD_eq_getD_getElem?] at hun ⊢
    simpa [hlt'] using hun
  obtain ⟨hd1, hd2, hd3⟩ := drawOk_at hB ho
  obtain ⟨c, e, hce, hc1, hgr, hend, hc2, hc3, β, hr, henv, hs, hdf⟩ := hinv.rest
  generalize hH : hp c ++ pend ops hp (fun j => listed.getD j false) c (e - c) = H at *
  have hopok : opOk N o = true := by
    refine List.all_eq_true.1 hall o ?_
    rw [← Array.getElem?_toList] at ho
    exact List.mem_of_getElem? ho
  -- what the operation waits for is there
  have anc : ∀ j, ((Region.before ops).getD i 0).testBit j = true → listed.getD j false = true := by
    intro j hj
    rw [hd2] at hj
    rcases orB_bit _ _ hj with h0 | ⟨e, he, hb, h1⟩
    · simp at h0
    · have he' : listed.getD e.on false = true := hafter e (by simpa using he) hb
      rcases h1 with rfl | h1
      · exact he'
      · exact hinv.closed _ he' _ h1
  -- what comes behind it is not
  have later : ∀ j y, i < j → ops[j]? = some y → confl ops o y = true ∨ (effConfl cf o y = true ∧ alPair cf ops i j o y = false) → listed.getD j false = false := by
    intro j y hij hj hcf
    cases hl : listed.getD j false with
    | false => rfl
    | true =>
      have := hinv.closed j hl i ((drawOk_at hB hj).2.2 i o hij ho hcf)
      rw [hun'] at this; cases this
  have dst_at : ∀ {j t}, dstOf ops j = some t → ∃ y, ops[j]? = some y ∧ y.dst = some t := fun {j t} h => by
    simp only [dstOf] at h
    cases hj : ops[j]? with
    | none => simp [hj] at h
    | some y => rw [hj] at h; exact ⟨y, rfl, by simpa using h⟩
  have named : ∀ t, t ∈ o.looksAt ops → envF ops val e0 (fun i => listed.getD i false) ops.size t = envF ops val e0 (fun _ => true) i t := by
    intro t ht
    have h1 : ∀ j, j < i → dstOf ops j = some t → listed.getD j false = true := fun j hj hd => by
      obtain ⟨y, hy, hyd⟩ := dst_at hd
      exact anc j (hd3 j y hj hy (.inl (by simp [confl, hyd, ht])))
    have h2 : ∀ j, i ≤ j → j < i + (ops.size - i) → dstOf ops j = some t → listed.getD j false = false := fun j hj _ hd => by
      rcases Nat.lt_or_ge i j with hij | hij
      · obtain ⟨y, hy, hyd⟩ := dst_at hd
        exact later j y hij hy (.inl (by simp [confl, hyd, ht]))
      · have : j = i := by omega
        subst this; exact hun'
    have h3 := envF_beyond (val := val) (e0 := e0) (ops.size - i) h2
    rw [show i + (ops.size - i) = ops.size by omega] at h3
    rw [h3]
    exact envF_upto h1 i (Nat.le_refl _)
  have hρ : ∀ x ∈ o.op.operands, evF (envF ops val e0 (fun _ => true) i) x = evF (envF ops val e0 (fun i => listed.getD i false) ops.size) x := by
    intro x hx
    cases x with
    | tmp t =>
      simp only [evF]
      exact (named t (List.mem_append_left _ (List.mem_filterMap.2 ⟨.tmp t, by simpa using hx, rfl⟩))).symm
    | _ => rfl
  have hev : ∀ x, VR W0 ok0 β H w (evF (envF ops val e0 (fun i => listed.getD i false) ops.size) x) (a.eval x) := by
    intro x
    cases x with
    | tmp t => exact henv t
    | const v => exact ofConst_rel v
    | global g => exact .val _
    | func f => exact .func _ _ _ _ _ rfl rfl (fun j hj => by simp at hj) (fun j hj => by simp at hj)
  -- the state behind it
  have after : ∀ c' e' β' w' u, c' ≤ e' → e' ≤ ops.size → (∀ x o, c' ≤ x → x < e' → ops[x]? = some o → effOp cf o.op = true → isAl o = true) → (∀ o, ops[e']? = some o → effOp cf o.op = true ∧ isAl o = false) →
      (∀ j y, j < c' → ops[j]? = some y → effOp cf y.op = true → (listed.setIfInBounds i true).getD j false = true) →
      (∀ j y, e' ≤ j → ops[j]? = some y → effOp cf y.op = true → (listed.setIfInBounds i true).getD j false = false) →
      Step W0 ok0 A β H w β' (hp c' ++ pend ops hp (fun j => (listed.setIfInBounds i true).getD j false) c' (e' - c')) w' →
      VR W0 ok0 β' (hp c' ++ pend ops hp (fun j => (listed.setIfInBounds i true).getD j false) c' (e' - c')) w' (val i) u → Inv cf B W0 ok0 A N ops val hp e0 (listed.setIfInBounds i true) (a.put o.dst u) w' := by
    intro c' e' β' w' u q1 q2 q3 q4 g2 g3 hst hv
    refine ⟨by simp [hinv.size], ?_, c', e', q1, q2, q3, q4, g2, g3, β', hst.hr, fun t => ?_, by rw [put_size, hs], by rw [put_defers, hdf.1], fun x v hx => hst.vr _ _ (hdf.2.1 x v hx), Nat.le_trans hdf.2.2 hst.len⟩
    · intro j hj k hk
      rw [set_getD _ _ _ hlt'] at hj ⊢
      split
      · rfl
      · split at hj
        · rename_i hji; subst hji; exact anc k hk
        · exact hinv.closed j hj k hk
    · rw [put_getD _ _ _ _ (fun d hd => by rw [hs]; exact opOk_dst hopok d hd)]
      split
      · rename_i hd
        have hdi : dstOf ops i = some t := by simp [dstOf, ho, hd]
        have h2 : ∀ j, i + 1 ≤ j → j < i + 1 + (ops.size - (i + 1)) → dstOf ops j = some t → (listed.setIfInBounds i true).getD j false = false := fun j hj _ hd' => by
          rw [set_getD _ _ _ hlt', if_neg (by omega)]
          obtain ⟨y, hy, hyd⟩ := dst_at hd'
          exact later j y (by omega) hy (.inl (by simp [confl, hyd, hd]))
        have h3 := envF_beyond (val := val) (e0 := e0) (ops.size - (i + 1)) h2
        rw [show i + 1 + (ops.size - (i + 1)) = ops.size by omega] at h3
        rw [h3]
        simp only [envF]
        rw [if_pos ⟨by rw [set_getD _ _ _ hlt']; simp, hdi⟩]
        exact hv
      · rename_i hd
        have hdi : dstOf ops i ≠ some t := by simp only [dstOf, ho, Option.bind_some]; exact hd
        rw [envF_other hdi (L := fun i => listed.getD i false) (fun j hj => by rw [set_getD _ _ _ hlt', if_neg hj])]
        exact hst.vr _ _ (henv t)
  -- what changes the heap, and is no maker of a variable, is the next of its kind
  have effc : effOp cf o.op = true → isAl o = false → i = e ∧ hp i = H := by
    intro he ha
    have hne : nOp o.op = false := by
      cases hn : nOp o.op with
      | false => rfl
      | true => rw [nOp_idle hn] at he; cases he
    have hei : e ≤ i := by
      rcases Nat.lt_or_ge i e with h1 | h1
      · rcases Nat.lt_or_ge i c with h2 | h2
        · have := hc2 i o h2 ho he; rw [hun'] at this; cases this
        · have := hgr i o h2 h1 ho he; rw [ha] at this; cases this
      · exact h1
    have hie : i = e := by
      rcases Nat.lt_or_ge e i with h1 | h1
      · obtain ⟨y, hy⟩ : ∃ y, ops[e]? = some y := ⟨ops[e]'(by omega), by simp⟩
        obtain ⟨hey, hay⟩ := hend y hy
        have hL := hc3 e y (Nat.le_refl _) hy hey
        have := anc e (hd3 e y h1 hy (.inr ⟨by simp [effConfl, hey, hne, eff_not_s he], alPair_r ha⟩))
        rw [hL] at this; cases this
      · omega
    refine ⟨hie, ?_⟩
    subst hie
    have := pend_all (L := fun j => listed.getD j false) hat rfl (i - c) c (by omega) (fun x y h1 h2 hx hex => ⟨hgr x y h1 (by omega) hx hex, anc x (hd3 x y (by omega) hx (.inr ⟨by simp [effConfl, hex, hne, eff_not_s he], alPair_r ha⟩))⟩)
    rw [show c + (i - c) = i by omega] at this
    rw [this, hH]
  have set_other : ∀ c' n, (∀ x y, c' ≤ x → x < c' + n → ops[x]? = some y → isAl y = true → x ≠ i) → pend ops hp (fun j => (listed.setIfInBounds i true).getD j false) c' n = pend ops hp (fun j => listed.getD j false) c' n := by
    intro c' n hx
    refine pend_congr ops hp c' n fun x y h1 h2 h3 h4 => ?_
    rw [set_getD _ _ _ hlt', if_neg (hx x y h1 h2 h3 h4)]
  -- behind it, the next group
  have eff_done : effOp cf o.op = true → isAl o = false → ∀ β' w' u, Step W0 ok0 A β H w β' (hp (i + 1)) w' → VR W0 ok0 β' (hp (i + 1)) w' (val i) u → Inv cf B W0 ok0 A N ops val hp e0 (listed.setIfInBounds i true) (a.put o.dst u) w' := by
    intro he ha β' w' u hst hv
    obtain ⟨hie, _⟩ := effc he ha
    have hne : nOp o.op = false := by
      cases hn : nOp o.op with
      | false => rfl
      | true => rw [nOp_idle hn] at he; cases he
    obtain ⟨e', q1, q2, q3, q4⟩ := next_e cf ops (ops.size - (i + 1)) (i + 1) (by omega)
    have hun2 : ∀ j y, i + 1 ≤ j → ops[j]? = some y → effOp cf y.op = true → (listed.setIfInBounds i true).getD j false = false := fun j y hj hy hey => by
      rw [set_getD _ _ _ hlt', if_neg (by omega)]
      exact hc3 j y (by omega) hy hey
    have hsh := step_holes hst.hr (pend ops hp (fun j => (listed.setIfInBounds i true).getD j false) (i + 1) (e' - (i + 1))) (pend_holes ops hp _ _ fun x y h1 h2 h3 h4 => hun2 x y h1 h3 (isAl_eff h4))
    refine after (i + 1) e' β' w' u q1 q2 q3 q4 (fun j y hj hy hey => ?_) (fun j y hj hy hey => hun2 j y (by omega) hy hey) (hst.trans hsh) (hsh.vr _ _ hv)
    rw [set_getD _ _ _ hlt']
    split
    · rfl
    · rename_i hji
      exact anc j (hd3 j y (by omega) hy (.inr ⟨by simp [effConfl, hey, hne, eff_not_s he], alPair_r ha⟩))
  have idle_done : effOp cf o.op = false → ∀ β' w' u, Step W0 ok0 A β H w β' H w' → VR W0 ok0 β' H w' (val i) u → Inv cf B W0 ok0 A N ops val hp e0 (listed.setIfInBounds i true) (a.put o.dst u) w' := by
    intro he β' w' u hst hv
    have hp2 := set_other c (e - c) fun x y _ _ h3 h4 hxi => by
      subst hxi; rw [ho] at h3; cases h3; rw [isAl_eff h4] at he; cases he
    refine after c e β' w' u hce hc1 hgr hend (fun j y hj hy hey => ?_) (fun j y hj hy hey => ?_) (by rw [hp2, hH]; exact hst) (by rw [hp2, hH]; exact hv)
    · rw [set_getD _ _ _ hlt']
      split
      · rfl
      · exact hc2 j y hj hy hey
    · rw [set_getD _ _ _ hlt', if_neg]
      · exact hc3 j y hj hy hey
      · rintro rfl; rw [ho] at hy; cases hy; rw [he] at hey; cases hey
  have guard_named : ∀ j want t, o.guard = some (j, want) → dstOf ops j = some t → t ∈ o.looksAt ops := by
    intro j want t hg hd
    refine List.mem_append_right _ ?_
    rw [hg]
    simp only [dstOf] at hd
    simp [hd]
  unfold wpOp
  simp only [ho]
  rcases hat i o hlt ho with ⟨hR, hg⟩ | ⟨hv, hh, j, want, t, hg, hd, hb⟩
  · -- it is run
    have hw : Region.wanted o (yielded ops a.tmps) = true := by
      rcases hg with hg | ⟨j, want, t, hg, hd, hb⟩
      · simp [Region.wanted, hg]
      · have h1 := named t (guard_named j want t hg hd)
        rw [hb] at h1
        have h2 := henv t
        rw [h1] at h2
        have := yielded_bool (ops := ops.toList) (j := j) (by simpa [dstOf] using hd) h2
        simp only [Array.toArray_toList] at this
        simp [Region.wanted, hg, this]
    rw [if_pos hw]
    left
    have hR' := hR.congr hρ
    cases he : effOp cf o.op with
    | true =>
      by_cases ha : isAl o = true
      · have hne := isAl_not_n ha
        have hci : c ≤ i := by
          rcases Nat.lt_or_ge i c with h1 | h1
          · have := hc2 i o h1 ho he; rw [hun'] at this; cases this
          · exact h1
        have hie : i < e := by
          rcases Nat.lt_or_ge i e with h1 | h1
          · exact h1
          · exfalso
            obtain ⟨y, hy⟩ : ∃ y, ops[e]? = some y := ⟨ops[e]'(by omega), by simp⟩
            obtain ⟨hey, hay⟩ := hend y hy
            rcases Nat.lt_or_ge e i with h2 | h2
            · have hL := hc3 e y (Nat.le_refl _) hy hey
              have := anc e (hd3 e y h2 hy (.inr ⟨by simp [effConfl, hey, hne, eff_not_s he], alPair_l hay⟩))
              rw [hL] at this; cases this
            · have : i = e := by omega
              subst this
              rw [ho] at hy; cases hy; rw [ha] at hay; cases hay
        obtain ⟨ob, hob, hob2, hob3⟩ := al_at (W0 := W0) (ok0 := ok0) (A := A) ha (hat i o hlt ho)
        have hpi : hp i = hp c ++ pend ops hp (fun _ => true) c (i - c) := by
          have := pend_all (L := fun _ => true) hat rfl (i - c) c (by omega) (fun x y h1 h2 hx hex => ⟨hgr x y h1 (by omega) hx hex, rfl⟩)
          rwa [show c + (i - c) = i by omega] at this
        have hlen : (hp i).length = (hp c ++ pend ops hp (fun j => listed.getD j false) c (i - c)).length := by rw [hpi]; simp only [List.length_append, pend_length]
        have hsplit : ∀ L : Nat → Bool, pend ops hp L c (e - c) = pend ops hp L c (i - c) ++ ((if L i = true then obA hp i else ⟨0, 0, []⟩) :: pend ops hp L (i + 1) (e - (i + 1))) := by
          intro L
          have h1 := pend_add ops hp L c (i - c) (e - i)
          rw [show i - c + (e - i) = e - c by omega, show c + (i - c) = i by omega] at h1
          have h2 := pend_add ops hp L i 1 (e - (i + 1))
          rw [show 1 + (e - (i + 1)) = e - i by omega, pend_one, ho] at h2
          simp only [if_pos ha] at h2
          rw [h1, h2]; rfl
        have hobA : obA hp i = ob := by simp only [obA, hob2, List.getElem?_concat_length, Option.getD_some]
        have hH1 : H = (hp c ++ pend ops hp (fun j => listed.getD j false) c (i - c)) ++ (⟨0, 0, []⟩ :: pend ops hp (fun j => listed.getD j false) (i + 1) (e - (i + 1))) := by
          rw [← hH, hsplit]
          simp only [hun', Bool.false_eq_true, if_false, List.append_assoc]
        have hH2 : H.set (hp i).length ob = hp c ++ pend ops hp (fun j => (listed.setIfInBounds i true).getD j false) c (e - c) := by
          rw [hsplit, set_other c (i - c) (fun x y h1 h2 _ _ => by omega), set_other (i + 1) (e - (i + 1)) (fun x y h1 h2 _ _ => by omega), hH1, hlen, List.set_append_right _ _ (Nat.le_refl _), Nat.sub_self, List.set_cons_zero]
          simp only [set_getD _ _ _ hlt', if_true, hobA, List.append_assoc]
        have hget : H[(hp i).length]? = some ⟨0, 0, []⟩ := by
          rw [hH1, hlen, List.getElem?_append_right (Nat.le_refl _), Nat.sub_self]; rfl
        refine hob3 β H w _ a _ _ hr hget rfl fun u β' w' hst hvu => hK _ _ ?_
        rw [hH2] at hst hvu
        refine after c e β' w' u hce hc1 hgr hend (fun j y hj hy hey => ?_) (fun j y hj hy hey => ?_) hst hvu
        · rw [set_getD _ _ _ hlt', if_neg (by omega)]; exact hc2 j y hj hy hey
        · rw [set_getD _ _ _ hlt', if_neg (by omega)]; exact hc3 j y hj hy hey
      · have ha' : isAl o = false := by simpa using ha
        obtain ⟨hie, hhc⟩ := effc he ha'
        rw [hhc] at hR'
        exact opR_wp hr hev hopok hR' fun u β' w' hst hvu => hK _ _ (eff_done he ha' β' w' u hst hvu)
    | false =>
      have ha' : isAl o = false := by
        cases ha : isAl o with
        | false => rfl
        | true => rw [isAl_eff ha] at he; cases he
      cases hn : nOp o.op with
      | true => exact opR_wp hr hev hopok (hR'.anywhere hn) fun u β' w' hst hvu => hK _ _ (idle_done he β' w' u hst hvu)
      | false =>
        have hHc : Pre (hp c) H := fun k ob hk => by
          rw [← hH, List.getElem?_append_left (List.getElem?_eq_some_iff.1 hk).1]; exact hk
        -- up to k, all of the group has been run
        have upto : ∀ k, c ≤ k → k ≤ e → (∀ x y, c ≤ x → x < k → ops[x]? = some y → isAl y = true → listed.getD x false = true) → Pre (hp k) H := by
          intro k h1 h2 hx
          have h3 := pend_all (L := fun j => listed.getD j false) hat rfl (k - c) c (by omega) (fun x y h3 h4 h5 h6 => ⟨hgr x y h3 (by omega) h5 h6, hx x y h3 (by omega) h5 (hgr x y h3 (by omega) h5 h6)⟩)
          rw [show c + (k - c) = k by omega] at h3
          have h4 := pend_add ops hp (fun j => listed.getD j false) c (k - c) (e - k)
          rw [show k - c + (e - k) = e - c by omega] at h4
          intro j ob hj
          rw [← hH, h4, ← List.append_assoc, ← h3, List.getElem?_append_left (List.getElem?_eq_some_iff.1 hj).1]; exact hj
        have al_done : ∀ x y, c ≤ x → x < i → ops[x]? = some y → isAl y = true → listed.getD x false = true := fun x y h1 h2 h3 h4 =>
          anc x (hd3 x y h2 h3 (.inr ⟨by simp [effConfl, isAl_eff h4, hn, isAl_not_st h4], alPair_r ha'⟩))
        cases hso : sOp cf o.op with
        | true =>
          have hsp : SP cf.D (hp i) H := by
            rcases Nat.le_total c i with h1 | h1
            · rcases Nat.le_total i e with h2 | h2
              · exact SP.of_pre (upto i h1 h2 al_done)
              · have h3 := heap_sp' hat rfl (i - e) e (by omega) (fun x y h3 h4 hx hex => by
                  cases hst : stOp y.op with
                  | true => rfl
                  | false =>
                    have hL := hc3 x y h3 hx hex
                    have := anc x (hd3 x y (by omega) hx (.inr ⟨by simp [effConfl, hex, hn, hst], alPair_r ha'⟩))
                    rw [hL] at this; cases this)
                rw [show e + (i - e) = i by omega] at h3
                exact h3.trans (SP.of_pre (upto e hce (Nat.le_refl _) (fun x y g1 g2 g3 g4 => al_done x y g1 (by omega) g3 g4)))
            · have := heap_sp hat rfl (c - i) i (by omega) (fun x y h2 h3 hx hex => by
                cases hal : alOp cf y.op with
                | true => exact .inl rfl
                | false =>
                  cases hst : stOp y.op with
                  | true => exact .inr rfl
                  | false =>
                    have hxi : x ≠ i := by rintro rfl; rw [ho] at hx; cases hx; rw [he] at hex; cases hex
                    have hL := hc2 x y (by omega) hx hex
                    have := later x y (by omega) hx (.inr ⟨by simp [effConfl, he, hex, hn, hal, hst], alPair_l ha'⟩)
                    rw [hL] at this; cases this)
              rw [show i + (c - i) = c by omega] at this
              exact this.trans (SP.of_pre hHc)
          exact opR_wp hr hev hopok (hR'.sp hso hsp) fun u β' w' hst hvu => hK _ _ (idle_done he β' w' u hst hvu)
        | false =>
          have hpre : Pre (hp i) H := by
            rcases Nat.le_total c i with h1 | h1
            · refine upto i h1 ?_ al_done
              rcases Nat.lt_or_ge e i with h2 | h2
              · exfalso
                obtain ⟨y, hy⟩ : ∃ y, ops[e]? = some y := ⟨ops[e]'(by omega), by simp⟩
                obtain ⟨hey, hay⟩ := hend y hy
                have hL := hc3 e y (Nat.le_refl _) hy hey
                have := anc e (hd3 e y h2 hy (.inr ⟨by simp [effConfl, hey, hn, hso], alPair_r ha'⟩))
                rw [hL] at this; cases this
              · exact h2
            · have := heap_pre hat rfl (c - i) i (by omega) (fun x y h2 h3 hx hex => by
                cases hal : alOp cf y.op with
                | true => rfl
                | false =>
                  have hxi : x ≠ i := by rintro rfl; rw [ho] at hx; cases hx; rw [he] at hex; cases hex
                  have hL := hc2 x y (by omega) hx hex
                  have := later x y (by omega) hx (.inr ⟨by simp [effConfl, he, hex, hn, hal, hso], alPair_l ha'⟩)
                  rw [hL] at this; cases this)
              rw [show i + (c - i) = c by omega] at this
              exact fun k ob hk => hHc k ob (this k ob hk)
          exact opR_wp_pre hr hpre hev hopok hR' he fun u β' w' hst hvu => hK _ _ (idle_done he β' w' u hst hvu)
  · -- it is not wanted
    have h1 := named t (guard_named j want t hg hd)
    have h2 := henv t
    rw [h1] at h2
    have hw : Region.wanted o (yielded ops a.tmps) = false := by
      rcases hb with ⟨b, hb, hne⟩ | ⟨us, hb⟩
      · rw [hb] at h2
        have := yielded_bool (ops := ops.toList) (j := j) (by simpa [dstOf] using hd) h2
        simp only [Array.toArray_toList] at this
        simp [Region.wanted, hg, this, hne]
      · rw [hb] at h2
        have := yielded_tuple (ops := ops.toList) (j := j) (by simpa [dstOf] using hd) h2
        simp only [Array.toArray_toList] at this
        simp [Region.wanted, hg, this]
    rw [if_neg (by simp [hw])]
    have hvu : ∀ h', VR W0 ok0 β h' w (val i) undef := fun h' => by rw [hv]; exact .val _
    have ha' : isAl o = false := by
      cases ha : isAl o with
      | false => rfl
      | true => obtain ⟨_, _, hg'⟩ := isAl_op ha; rw [hg] at hg'; cases hg'
    cases he : effOp cf o.op with
    | true =>
      obtain ⟨hie, hhc⟩ := effc he ha'
      have hst : Step W0 ok0 A β H w β (hp (i + 1)) w := by rw [hh, hhc]; exact Step.refl hr
      exact hK _ _ (eff_done he ha' β w undef hst (hvu _))
    | false => exact hK _ _ (idle_done he β w undef (Step.refl hr) (hvu _))

theorem count_lt {p p' : Nat → Bool} {i : Nat} (hpp : ∀ x, p' x = true → p x = true) : ∀ (l : List Nat), i ∈ l → p i = true → p' i = false → l.countP p' < l.countP p := by
  have hle : ∀ l : List Nat, l.countP p' ≤ l.countP p := fun l => by
    induction l with
    | nil => simp
    | cons x l ih =>
      rw [List.countP_cons, List.countP_cons]
      cases h1 : p' x with
      | false => cases p x <;> simp <;> omega
      | true => rw [hpp x h1]; simp; exact ih
  intro l
  induction l with
  | nil => intro h; simp at h
  | cons x l ih =>
    intro hm h1 h2
    rw [List.countP_cons, List.countP_cons]
    rcases List.mem_cons.1 hm with rfl | hm
    · have := hle l
      rw [h1, h2]; simp; omega
    · have := ih hm h1 h2
      cases h3 : p' x with
      | false => cases p x <;> simp <;> omega
      | true => rw [hpp x h3]; simp; exact this

/-- In every order. -/
theorem draw_any {ops : Array Oper} {Qs : ASt → Prop} {Q : Exit → Act → World → Prop} {val : Nat → AVal} {hp : Nat → List AObj} {e0 : Nat → AVal} (hB : drawOk cf ops = true) (hall : ops.toList.all (opOk N) = true)
    (hat : ∀ i o, i < ops.size → ops[i]? = some o → OpAt P cf ops val hp (envF ops val e0 (fun _ => true) i) i o)
    (hQ : ∀ s a w, Qs s → FR W0 ok0 A N B s a w → Q .normal a w) (s' : ASt) (hs' : Qs s') (hh : s'.heap = hp ops.size) (he : ∀ t, look s'.env t = envF ops val e0 (fun _ => true) ops.size t) :
    ∀ (fuel : Nat) (listed : Array Bool) (a : Act) (w : World), (List.range ops.size).countP (fun i => !listed.getD i false) ≤ fuel → Inv cf B W0 ok0 A N ops val hp e0 listed a w → wpAny P .any ops Q fuel listed a w := by
  have fin : ∀ (listed : Array Bool) (a : Act) (w : World), Inv cf B W0 ok0 A N ops val hp e0 listed a w → (∀ i, i < ops.size → listed.getD i false = true) → Q .normal a w := by
    intro listed a w hinv hl
    obtain ⟨c, e, hce, hc1, hgr, hend, hc2, hc3, β, hr, henv, hs, hd⟩ := hinv.rest
    have hee : e = ops.size := by
      rcases Nat.lt_or_ge e ops.size with h1 | h1
      · obtain ⟨y, hy⟩ : ∃ y, ops[e]? = some y := ⟨ops[e]'(by omega), by simp⟩
        have h3 := hc3 e y (Nat.le_refl _) hy (hend y hy).1
        rw [hl e h1] at h3; cases h3
      · omega
    subst hee
    have hhc : hp ops.size = hp c ++ pend ops hp (fun j => listed.getD j false) c (ops.size - c) := by
      have := pend_all (L := fun j => listed.getD j false) hat rfl (ops.size - c) c (by omega) (fun x y h1 h2 hx hex => ⟨hgr x y h1 (by omega) hx hex, hl x (by omega)⟩)
      rwa [show c + (ops.size - c) = ops.size by omega] at this
    refine hQ s' a w hs' ⟨β, by rw [hh, hhc]; exact hr, fun t => ?_, hs, by rw [hh, hhc]; exact hd⟩
    rw [he, hh, hhc, ← envF_upto (L := fun i => listed.getD i false) (fun j hj _ => hl j hj) ops.size (Nat.le_refl _)]
    exact henv t
  have none_ready : ∀ (listed : Array Bool) (a : Act) (w : World), Inv cf B W0 ok0 A N ops val hp e0 listed a w → Region.ready .any ops listed = [] → ∀ i, i < ops.size → listed.getD i false = true := by
    intro listed a w hinv hr i
    induction i using Nat.strongRecOn with
    | _ i ih =>
      intro hi
      cases hl : listed.getD i false with
      | true => rfl
      | false =>
        exfalso
        have ho : ops[i]? = some ops[i] := by simp [hi]
        have : i ∈ Region.ready .any ops listed := by
          refine mem_ready.2 ⟨?_, ops[i], ho, fun e he hb => ?_⟩
          · have : i < listed.size := by rw [hinv.size]; exact hi
            simp only [Array.getD_eq_getD_getElem?] at hl ⊢
            simpa [this] using hl
          · have hlt := (drawOk_at hB ho).1 e he hb
            exact ih e.on hlt (by omega)
        rw [hr] at this; cases this
  intro fuel
  induction fuel with
  | zero =>
    intro listed a w hf hinv
    have hl : ∀ i, i < ops.size → listed.getD i false = true := by
      intro i hi
      cases hl : listed.getD i false with
      | true => rfl
      | false =>
        exfalso
        have : 0 < (List.range ops.size).countP (fun i => !listed.getD i false) := List.countP_pos_iff.2 ⟨i, by simpa using hi, by simp [hl]⟩
        omega
    refine ⟨?_, fin listed a w hinv hl⟩
    cases hr : Region.ready .any ops listed with
    | nil => rfl
    | cons x xs =>
      exfalso
      obtain ⟨h1, o, ho, _⟩ := mem_ready.1 (show x ∈ Region.ready .any ops listed by rw [hr]; simp)
      have hx : x < ops.size := (Array.getElem?_eq_some_iff.1 ho).1
      have h2 := hl x hx
      have : x < listed.size := by rw [hinv.size]; exact hx
      simp only [Array.getD_eq_getD_getElem?] at h1 h2
      simp [this] at h1 h2
      rw [h1] at h2; cases h2
  | succ fuel ih =>
    intro listed a w hf hinv
    refine ⟨fun hr => fin listed a w hinv (none_ready listed a w hinv hr), fun i hi => ?_⟩
    refine Inv.step hB hall hat hinv hi fun a' w' hinv' => ih _ a' w' ?_ hinv'
    obtain ⟨h1, o, ho, _⟩ := mem_ready.1 hi
    have hx : i < ops.size := (Array.getElem?_eq_some_iff.1 ho).1
    have hxl : i < listed.size := by rw [hinv.size]; exact hx
    have h1' : listed.getD i false = false := by
      simp only [Array.getD_eq_getD_getElem?] at h1 ⊢
      simpa [hxl] using h1
    have := count_lt (p := fun j => !listed.getD j false) (p' := fun j => !(listed.setIfInBounds i true).getD j false) (i := i) (fun x hx => by
      rw [set_getD _ _ _ hxl] at hx
      split at hx
      · cases hx
      · exact hx) (List.range ops.size) (by simpa using hx) (by simp only [h1']; rfl) (by rw [set_getD _ _ _ hxl]; simp)
    omega

theorem draw_sound (hm : P.follows .mixedOrders = true) {id : Nat} {ops : Array Oper} {Qs : ASt → Prop} {Q : Exit → Act → World → Prop} (hB : drawOk cf ops = true) (hall : ops.toList.all (opOk N) = true)
    (hQ : ∀ s a w, Qs s → FR W0 ok0 A N B s a w → Q .normal a w) {s : ASt} {a : Act} {w : World} (h : @awpList P cf ops.toList Qs ops.toList s) (hf : FR W0 ok0 A N B s a w) : (Code.region id ops true).wp P Q a w := by
  refine wp_region_any hm ?_
  obtain ⟨val, hp, g1, g2, s', g3, g4, g5⟩ := awpList_run (c := cf) (ops := ops) ops.toList 0 s (fun _ => .undef) (fun _ => s.heap) (look s.env) (fun j => by simp) h rfl (fun t => rfl) (fun i o hi => by omega)
  simp only [if_true, Array.length_toList, Nat.zero_add] at g1 g2 g4 g5
  obtain ⟨β, hr, henv, hs, hd⟩ := hf
  obtain ⟨e, q1, q2, q3, q4⟩ := next_e cf ops ops.size 0 (by omega)
  have hnl : ∀ i, (Array.replicate ops.size false).getD i false = false := fun i => by
    by_cases hi : i < ops.size <;> simp [hi]
  have hst1 := step_world hr ((Below.refl w.heap.size w).drew)
  have hst := hst1.trans (step_holes hst1.hr (pend ops hp (fun j => (Array.replicate ops.size false).getD j false) 0 (e - 0)) (pend_holes ops hp _ _ fun x y _ _ _ _ => hnl x))
  refine draw_any hB hall g2 hQ s' g3 g4 g5 ops.size _ a _ ?_ ?_
  · exact Nat.le_trans List.countP_le_length (by simp)
  · refine ⟨by simp, fun j hj => ?_, 0, e, q1, q2, q3, q4, fun i o hi => by omega, fun i o _ ho _ => hnl i, β, by rw [g1]; exact hst.hr, fun t => ?_, hs, hd.1, by rw [g1]; exact fun x v hx => hst.vr _ _ (hd.2.1 x v hx), by rw [g1]; exact Nat.le_trans hd.2.2 hst.len⟩
    · simp [Array.getElem?_replicate] at hj
      split at hj <;> simp at hj
    · have hno : ∀ n, envF ops val (look s.env) (fun i => (Array.replicate ops.size false).getD i false) n t = look s.env t := by
        intro n
        induction n with
        | zero => rfl
        | succ n ih =>
          simp only [envF]
          rw [if_neg, ih]
          rintro ⟨hc, _⟩
          simp [Array.getElem?_replicate] at hc
          split at hc <;> simp at hc
      rw [hno, g1]
      exact hst.vr _ _ (henv t)

end
end Go.AW

/- Code, and a function's contract. -/
namespace Go.AW
open Go Go.RowKit

def codeOk (N : Nat) (E : EffF) : Code → Bool
  | .region _ ops d => ops.toList.all (opOk N) && (!d || drawOk E ops)
  | .seq a b => codeOk N E a && codeOk N E b
  | .cond _ x y => codeOk N E x && codeOk N E y
  | .block _ c => codeOk N E c
  | .loop c => codeOk N E c
  | _ => true

section
variable {P : Program} {E : EffF} {hb : List AObj} {B : Bs} {W0 : World} {ok0 A : Nat → Prop} {N : Nat}

theorem awp_sound (hm : P.follows .mixedOrders = true) (hnb : B.h = hb ∧ HR W0 ok0 A B.β B.h B.w) : ∀ (c : Code) (Qa : Exit → ASt → Prop) (Q : Exit → Act → World → Prop) (s : ASt) (a : Act) (w : World), codeOk N E c = true → (∀ e s a w, Qa e s → FR W0 ok0 A N B s a w → Q e a w) →
    awp P E hb c Qa s → FR W0 ok0 A N B s a w → c.wp P Q a w := by
  intro c
  induction c with
  | skip => intro Qa Q s a w _ hq h hf; exact wp_skip (hq _ _ _ _ h hf)
  | region id ops d =>
    intro Qa Q s a w hok hq h hf
    simp only [codeOk, Bool.and_eq_true, Bool.or_eq_true, Bool.not_eq_true'] at hok
    obtain ⟨h1, h2⟩ := hok
    cases d with
    | true =>
      exact draw_sound hm (h2.resolve_left (by simp)) h1 (fun s a w => hq _ s a w) h hf
    | false =>
      have := @awpList_sound P B W0 ok0 A N (effIn E) _ _ Q (fun s a w => hq _ s a w) ops.toList s a w h1 h hf
      simp only [Array.toArray_toList] at this
      exact wp_region_list this
  | seq x y ihx ihy =>
    intro Qa Q s a w hok hq h hf
    simp only [codeOk, Bool.and_eq_true] at hok
    refine wp_seq (ihx _ _ s a w hok.1 (fun e s a w he hf => ?_) h hf)
    cases e with
    | normal => exact ihy _ _ s a w hok.2 hq he hf
    | _ => exact hq _ _ _ _ he hf
  | cond c x y ihx ihy =>
    intro Qa Q s a w hok hq h hf
    simp only [codeOk, Bool.and_eq_true] at hok
    simp only [awp] at h
    split at h
    · rename_i b hb
      obtain ⟨β, hr, henv, hs, hd⟩ := hf
      have hc := ev_rel henv c
      rw [hb] at hc
      have hcb : a.eval c = .bool b := by
        generalize a.eval c = u at hc
        cases hc; rfl
      refine wp_cond hcb ?_
      cases b with
      | true => exact ihx _ _ s a w hok.1 hq (h.1 rfl) ⟨β, hr, henv, hs, hd⟩
      | false => exact ihy _ _ s a w hok.2 hq (h.2 rfl) ⟨β, hr, henv, hs, hd⟩
    · exact h.elim
  | block id c ih =>
    intro Qa Q s a w hok hq h hf
    refine wp_block (ih _ _ s a w hok (fun e s a w he hf => ?_) h hf)
    cases e with
    | exit id' =>
      simp only [Exit.inBlock] at he ⊢
      split
      · rename_i hid; rw [if_pos hid] at he; exact hq _ _ _ _ he hf
      · rename_i hid; rw [if_neg hid] at he; exact hq _ _ _ _ he hf
    | _ => exact hq _ _ _ _ he hf
  | loop c ih =>
    intro Qa Q s a w hok hq h hf
    obtain ⟨I, n, ⟨s1, hw1, h0⟩, hr⟩ := h
    refine wp_loop_fuel (fun n a w => ∃ s, I n s ∧ FR W0 ok0 A N B s a w) (fun n a w ⟨s, hs, hf⟩ => ?_) (n := n) ⟨_, h0, hw1 _ _ _ _ _ _ _ hnb hf⟩
    refine ih _ _ s a w hok (fun e s a w he hf => ?_) (hr n s hs) hf
    cases e with
    | normal =>
      obtain ⟨m, s1, hlt, hw1, hm⟩ := he
      exact ⟨m, hlt, _, hm, hw1 _ _ _ _ _ _ _ hnb hf⟩
    | _ => exact hq _ _ _ _ he hf
  | exit id => intro Qa Q s a w _ hq h hf; exact wp_exit (hq _ _ _ _ h hf)
  | ret => intro Qa Q s a w _ hq h hf; exact wp_ret (hq _ _ _ _ h hf)
  | _ => intros; rename_i h _; exact h.elim

/-- The value of a result. -/
def resAt (P : Program) (s : ASt) : ResultVar → Option AVal
  | .tmp t => some (look s.env t)
  | .cell a t => match pview s.heap (look s.env a) with
    | some cs => aPart P t cs
    | none => none

def resVal (P : Program) (fn : Func) (s : ASt) : Option AVal :=
  match fn.results.toList.mapM (resAt P s) with
  | some [x] => some x
  | some l => some (.tuple l)
  | none => none

theorem resAt_rel {β : Nat → Nat × Nat} {s : ASt} {a : Act} {w : World} (hr : HR W0 ok0 A β s.heap w) (henv : ∀ t, VR W0 ok0 β s.heap w (look s.env t) (a.tmps.getD t undef)) {r : ResultVar} {x : AVal} (hx : resAt P s r = some x) :
    ∃ v, (match r with | .tmp t => pure (a.tmps.getD t undef) | .cell p t => do loadVar t (← asAddr (a.tmps.getD p undef)) : Sem Value).run P w = .ok v w ∧ VR W0 ok0 β s.heap w x v := by
  cases r with
  | tmp t => simp only [resAt, Option.some.injEq] at hx; subst hx; exact ⟨_, rfl, henv t⟩
  | cell p t =>
    simp only [resAt] at hx
    split at hx
    · rename_i cs hp
      obtain ⟨b, off, hv, hc⟩ := pview_rel hr (henv p) hp
      obtain ⟨v, h1, h2⟩ := loadVar_rel hx hc
      refine ⟨v, ?_, h2⟩
      simp [hv, asAddr, h1]
    · cases hx

theorem resVal_rel {β : Nat → Nat × Nat} {s : ASt} {a : Act} {w : World} (hr : HR W0 ok0 A β s.heap w) (henv : ∀ t, VR W0 ok0 β s.heap w (look s.env t) (a.tmps.getD t undef)) {fn : Func} {x : AVal} (hx : resVal P fn s = some x) :
    ∃ v, (results fn a.tmps).run P w = .ok v w ∧ VR W0 ok0 β s.heap w x v := by
  have key : ∀ (l : List ResultVar) (xs : List AVal), l.mapM (resAt P s) = some xs → ∃ vs : List Value, (l.mapM (fun r => match r with | .tmp t => pure (a.tmps.getD t undef) | .cell p t => do loadVar t (← asAddr (a.tmps.getD p undef)) : ResultVar → Sem Value)).run P w = .ok vs w ∧ vs.length = xs.length ∧ ∀ j (hj : j < xs.length), VR W0 ok0 β s.heap w xs[j] (vs.getD j undef) := by
    intro l
    induction l with
    | nil => intro xs h; simp at h; subst h; exact ⟨[], by simp, rfl, fun j hj => by simp at hj⟩
    | cons r l ih =>
      intro xs h
      simp only [List.mapM_cons, Option.bind_eq_bind, Option.pure_def] at h
      cases h1 : resAt P s r with
      | none => simp [h1] at h
      | some x =>
        cases h2 : l.mapM (resAt P s) with
        | none => simp [h1, h2] at h
        | some xs' =>
          simp [h1, h2] at h
          subst h
          obtain ⟨v, g1, g2⟩ := resAt_rel hr henv h1
          obtain ⟨vs, g3, g4, g5⟩ := ih xs' h2
          refine ⟨v :: vs, ?_, by simp [g4], fun j hj => ?_⟩
          · simp only [List.mapM_cons, Sem.run_bind, g1, Result.andThen_ok, g3, Sem.run_pure]
          · cases j with
            | zero => simpa using g2
            | succ j => simpa using g5 j (by simpa using hj)
  unfold resVal at hx
  cases hm : fn.results.toList.mapM (resAt P s) with
  | none => simp [hm] at hx
  | some xs =>
    obtain ⟨vs, g1, g2, g3⟩ := key _ _ hm
    have hrun : (results fn a.tmps).run P w = .ok (if h : vs.toArray.size = 1 then vs.toArray[0] else .tuple vs.toArray) w := by
      unfold results
      simp only [Sem.run_bind, Array.mapM_eq_mapM_toList, Sem.run_map]
      exact Eq.trans (congrArg (fun (r : Result (List Value)) => (r.andThen fun a w' => Result.ok a.toArray w').andThen fun a w' => Sem.run P (pure (if h : a.size = 1 then a[0] else Value.tuple a)) w') g1) rfl
    rw [hm] at hx
    rcases xs with _ | ⟨x0, _ | ⟨x1, xr⟩⟩
    · simp only [Option.some.injEq] at hx; subst hx
      obtain rfl : vs = [] := List.eq_nil_of_length_eq_zero (by simpa using g2)
      exact ⟨.tuple #[], by rw [hrun]; simp, .tuple _ _ rfl (fun j hj => by simp at hj)⟩
    · simp only [Option.some.injEq] at hx; subst hx
      obtain ⟨v0, rfl⟩ : ∃ v0, vs = [v0] := by
        rcases vs with _ | ⟨v0, _ | ⟨v1, vr⟩⟩
        · simp at g2
        · exact ⟨v0, rfl⟩
        · simp at g2
      refine ⟨v0, by rw [hrun]; simp, ?_⟩
      simpa using g3 0 (by simp)
    · simp only [Option.some.injEq] at hx; subst hx
      refine ⟨.tuple vs.toArray, by rw [hrun, dif_neg (by simp at g2 ⊢; omega)], .tuple _ _ (by simp at g2 ⊢; omega) (fun j hj => ?_)⟩
      have := g3 j hj
      have hj' : j < vs.length := by omega
      simpa [VR, hj'] using this

def args0 (args : List AVal) : List (Nat × AVal) := args.zipIdx.map fun (v, i) => (i, v)

theorem look_args : ∀ (args : List AVal) (k t : Nat), look ((args.zipIdx k).map fun (p : AVal × Nat) => (p.2, p.1)) t = if k ≤ t then (args[t - k]?).getD .undef else .undef := by
  intro args
  induction args with
  | nil => intro k t; simp [look]
  | cons x args ih =>
    intro k t
    simp only [List.zipIdx_cons, List.map_cons, look]
    by_cases hk : k = t
    · subst hk; simp
    · rw [if_neg hk, ih]
      by_cases h1 : k + 1 ≤ t
      · rw [if_pos h1, if_pos (by omega)]
        have : t - k = (t - (k + 1)) + 1 := by omega
        rw [this, List.getElem?_cons_succ]
      · rw [if_neg h1, if_neg (by omega)]

/-- A function's contract, from its body. -/
theorem Contract.intro {f : FuncId} {fn : Func} {c : Code} {args : List AVal} {res : AVal} (E : EffF) (n : Nat) (hm : P.follows .mixedOrders = true) (hf : P.funcs[f]? = some fn) (hname : (fn.name == "runtime.NumGoroutine") = false) (hb : fn.body = some c) (hok : codeOk fn.ntmps E c = true) (hargs : args.length ≤ fn.ntmps)
    (h : awp P E [] c (fun e s => match e with | .normal | .ret => (resVal P fn s).map (resOf s.heap n) = some res | _ => False) ⟨args0 args, []⟩) : Contract P f args res := by
  refine ⟨by simp [callable, hf, hname, hb], fun w ok vs hok0 hsz hrel => ?_⟩
  refine calls_of_wp hf hb ?_
  have hinit : FR w ok (fun _ => False) fn.ntmps ⟨fun _ => (0, 0), [], w⟩ ⟨args0 args, []⟩ { tmps := vs ++ Array.replicate (fn.ntmps - vs.size) undef, defers := [] } w := by
    refine ⟨fun _ => (0, 0), ⟨fun i o hi => by simp at hi, fun i j hi => by have := live_lt hi; simp at this, fun i hi => by have := live_lt hi; simp at this, rfl, rfl, rfl, Nat.le_refl _, fun _ _ _ => rfl⟩, fun t => ?_, by simp; omega, rfl, fun _ _ h => h, Nat.le_refl _⟩
    have : look (args0 args) t = (args[t]?).getD .undef := by
      have := look_args args 0 t
      simpa [args0] using this
    simp only [this]
    by_cases ht : t < args.length
    · have h1 := hrel t ht
      have e1 : (args[t]?).getD .undef = args[t] := by simp [ht]
      have e2 : (vs ++ Array.replicate (fn.ntmps - vs.size) undef).getD t undef = vs.getD t undef := by
        simp only [Array.getD_eq_getD_getElem?]
        rw [Array.getElem?_append_left (by omega)]
      rw [e1, e2]
      exact VRel.mono (fun b hb => ⟨hok0 b hb, fun i hi => by have := live_lt hi; simp at this, .inr hb⟩) (fun b _ hb => hb.elim) (fun b _ => rfl) (fun id l hl => by cases hl) h1
    · have e1 : (args[t]?).getD .undef = .undef := by simp [ht]
      rw [e1]; exact .undef _
  refine awp_sound (N := fn.ntmps) (B := ⟨fun _ => (0, 0), [], w⟩) (hb := []) hm ⟨rfl, ⟨fun i o hi => by simp at hi, fun i j hi => by have := live_lt hi; simp at this, fun i hi => by have := live_lt hi; simp at this, rfl, rfl, rfl, Nat.le_refl _, fun _ _ _ => rfl⟩⟩ c _ _ _ _ _ hok (fun e s a w' he hfr => ?_) h hinit
  have fin : (resVal P fn s).map (resOf s.heap n) = some res → a.defers = [] ∧ ∃ v, (results fn a.tmps).run P w' = .ok v w' ∧ ∃ v', Ending.returned v = .returned v' ∧ VRel (fun b => ok b ∨ (w.heap.size ≤ b ∧ b < w'.heap.size)) (fun b => w.heap.size ≤ b) w' (fun _ => (0, 0)) (fun _ => none) res v' ∧ Below w.heap.size w w' := by
    intro hres
    obtain ⟨x, hx1, hx2⟩ := Option.map_eq_some_iff.1 hres
    obtain ⟨β, hr, henv, hs, hd⟩ := hfr
    obtain ⟨v, h1, h2⟩ := resVal_rel hr henv hx1
    refine ⟨hd.1, v, h1, v, rfl, ?_, ⟨hr.os, hr.tape, hr.output, hr.wsize, fun k hk => hr.block k hk id⟩⟩
    rw [← hx2]
    exact resOf_rel hr n x v h2
  cases e with
  | normal => exact fin he
  | ret => exact fin he
  | _ => exact he.elim

/-- What a function does in a frame that has this heap, from its body. -/
theorem SpecTo.intro {f : FuncId} {fn : Func} {c : Code} {args : List AVal} {h : List AObj} {res : AVal} {h' : List AObj} (E : EffF) (hm : P.follows .mixedOrders = true) (hf : P.funcs[f]? = some fn) (hname : (fn.name == "runtime.NumGoroutine") = false) (hb : fn.body = some c) (hok : codeOk fn.ntmps E c = true) (hargs : args.length ≤ fn.ntmps)
    (hw : awp P E h c (fun e s => match e with | .normal | .ret => ∃ x, resVal P fn s = some x ∧ Wk h ⟨[(0, x)], s.heap⟩ ⟨[(0, res)], h'⟩ | _ => False) ⟨args0 args, h⟩) : SpecTo P f args h res h' := by
  refine ⟨by simp [callable, hf, hname, hb], fun W0 ok0 A β w vs hr har => ?_⟩
  refine calls_of_wp hf hb ?_
  have hsz := har.1
  have hinit : FR W0 ok0 A fn.ntmps ⟨β, h, w⟩ ⟨args0 args, h⟩ { tmps := vs ++ Array.replicate (fn.ntmps - vs.size) undef, defers := [] } w := by
    refine ⟨β, hr, fun t => ?_, by simp; omega, rfl, fun _ _ h => h, Nat.le_refl _⟩
    have : look (args0 args) t = (args[t]?).getD .undef := by
      have := look_args args 0 t
      simpa [args0] using this
    simp only [this]
    by_cases ht : t < args.length
    · have h1 := har.2 t ht
      have e1 : (args[t]?).getD .undef = args[t] := by simp [ht]
      have e2 : (vs ++ Array.replicate (fn.ntmps - vs.size) undef).getD t undef = vs.getD t undef := by
        simp only [Array.getD_eq_getD_getElem?]
        rw [Array.getElem?_append_left (by omega)]
      rw [e1, e2]; exact h1
    · have e1 : (args[t]?).getD .undef = .undef := by simp [ht]
      rw [e1]; exact .undef _
  refine awp_sound (N := fn.ntmps) (B := ⟨β, h, w⟩) (hb := h) hm ⟨rfl, hr⟩ c _ _ _ _ _ hok (fun e s a w' he hfr => ?_) hw hinit
  have fin : (∃ x, resVal P fn s = some x ∧ Wk h ⟨[(0, x)], s.heap⟩ ⟨[(0, res)], h'⟩) → a.defers = [] ∧ ∃ v, (results fn a.tmps).run P w' = .ok v w' ∧ ∃ v' β', Ending.returned v = .returned v' ∧ Step W0 ok0 A β h w β' h' w' ∧ VR W0 ok0 β' h' w' res v' := by
    rintro ⟨x, hx1, hx2⟩
    obtain ⟨β1, hr1, henv, hs, hd⟩ := hfr
    obtain ⟨v, h1, h2⟩ := resVal_rel hr1 henv hx1
    have hfr' : FR W0 ok0 A 1 ⟨β, h, w⟩ ⟨[(0, x)], s.heap⟩ { tmps := #[v], defers := [] } w' := by
      refine ⟨β1, hr1, fun t => ?_, rfl, rfl, hd.2.1, hd.2.2⟩
      cases t with
      | zero => simpa [look] using h2
      | succ t => simp [look]; exact .undef _
    obtain ⟨β2, hr2, henv2, _, _, hbase, hlen⟩ := hx2 _ _ _ _ _ _ _ ⟨rfl, hr⟩ hfr'
    have hv := henv2 0
    simp [look] at hv
    exact ⟨hd.1, v, h1, v, β2, rfl, ⟨hr2, hbase, hlen⟩, hv⟩
  cases e with
  | normal => exact fin he
  | ret => exact fin he
  | _ => exact he.elim

/-- What a function does in a frame of its own, as a contract. -/
theorem Contract.ofSpec {f : FuncId} {args : List AVal} {res : AVal} {h' : List AObj} (n : Nat) (hs : SpecTo P f args [] res h') : Contract P f args (resOf h' n res) := by
  refine ⟨hs.1, fun w ok vs hok0 hsz hrel => ?_⟩
  have hr : HR w ok (fun _ => False) (fun _ => (0, 0)) [] w := ⟨fun i o hi => by simp at hi, fun i j hi => by have := live_lt hi; simp at this, fun i hi => by have := live_lt hi; simp at this, rfl, rfl, rfl, Nat.le_refl _, fun _ _ _ => rfl⟩
  refine (hs.2 w ok (fun _ => False) (fun _ => (0, 0)) w vs hr ⟨hsz, fun j hj => ?_⟩).mono ?_
  · exact VRel.mono (fun b hb => ⟨hok0 b hb, fun i hi => by have := live_lt hi; simp at this, .inr hb⟩) (fun b _ hb => hb.elim) (fun b _ => rfl) (fun id l hl => by cases hl) (hrel j hj)
  · rintro e w' ⟨v, β', rfl, hst, hv⟩
    exact ⟨v, rfl, resOf_rel hst.hr n res v hv, ⟨hst.hr.os, hst.hr.tape, hst.hr.output, hst.hr.wsize, fun k hk => hst.hr.block k hk id⟩⟩

end
end Go.AW

/- Rules to reckon with. -/
namespace Go.AW
open Go

/-- An int. -/
abbrev I (n : Int) : AVal := .val (.int .i64 n)
abbrev B (b : Bool) : AVal := .val (.bool b)
def ints (l : List Int) : List AVal := l.map I
def bools (l : List Bool) : List AVal := l.map B

/-- What comes behind: kept where the reckoning does not look. -/
class KB (α : Type) where
  run : α → Prop
class PQ where
  p : Prop
  q : Prop
class LB where
  c : Code
  Q : Exit → ASt → Prop

/-- Go on with a value; what comes behind is not looked at ahead of it. -/
def bindK {α : Type} (x : Option α) [k : KB α] : Prop := match x with | some v => k.run v | none => False
theorem bindK_some {α : Type} (v : α) (K : α → Prop) : @bindK α (some v) ⟨K⟩ = K v := _root_.id rfl
def condK (x : AVal) [k : PQ] : Prop := match x with | .val (.bool b) => (b = true → k.p) ∧ (b = false → k.q) | _ => False
theorem condK_bool (b : Bool) (p q : Prop) : @condK (.val (.bool b)) ⟨p, q⟩ = ((b = true → p) ∧ (b = false → q)) := _root_.id rfl
def guardK (x : AVal) (want : Bool) [k : PQ] : Prop := match x with | .val (.bool b) => (b = want → k.p) ∧ (b ≠ want → k.q) | .val (.tuple _) => k.q | _ => False
theorem guardK_bool (b want : Bool) (p q : Prop) : @guardK (.val (.bool b)) want ⟨p, q⟩ = ((b = want → p) ∧ (b ≠ want → q)) := _root_.id rfl
theorem guardK_undef (want : Bool) (p q : Prop) : @guardK (.val undef) want ⟨p, q⟩ = q := _root_.id rfl
/-- May this call change the heap? -/
class EffB where
  b : Bool
class KB2 where
  run : AVal → List AObj → Prop
/-- A call. -/
def callK (P : Program) (f : AVal) (args : List AVal) (h : List AObj) [fl : EffB] [k : KB2] : Prop := (∃ v, CallOk P f args h v ∧ k.run v h) ∨ (fl.b = true ∧ ∃ v h', CallTo P f args h v h' ∧ k.run v h')
/-- A loop. -/
def loopK (P : Program) (E : EffF) (hb : List AObj) (s : ASt) [k : LB] : Prop := awp P E hb (.loop k.c) k.Q s
theorem condK_t (p q : Prop) : @condK (.val (.bool true)) ⟨p, q⟩ = p := by simp [condK]
theorem condK_f (p q : Prop) : @condK (.val (.bool false)) ⟨p, q⟩ = q := by simp [condK]
theorem guardK_tt (p q : Prop) : @guardK (.val (.bool true)) true ⟨p, q⟩ = p := by simp [guardK]
theorem guardK_tf (p q : Prop) : @guardK (.val (.bool true)) false ⟨p, q⟩ = q := by simp [guardK]
theorem guardK_ft (p q : Prop) : @guardK (.val (.bool false)) true ⟨p, q⟩ = q := by simp [guardK]
theorem guardK_ff (p q : Prop) : @guardK (.val (.bool false)) false ⟨p, q⟩ = p := by simp [guardK]
theorem beq_t {a b : Int} (h : a = b) : (a == b) = true := by simp [h]
theorem beq_f {a b : Int} (h : a ≠ b) : (a == b) = false := by simp [h]
theorem bne_t {a b : Int} (h : a ≠ b) : (a != b) = true := by simp [h]
theorem bne_f {a b : Int} (h : a = b) : (a != b) = false := by simp [h]

section
variable {P : Program} {E : EffF} {hb : List AObj} {fb fn ff fl fz : Operand → Bool} {fD : Nat → Bool} {b : Bool} {Q : Exit → ASt → Prop} {s : ASt}

theorem awp_skip : awp P E hb .skip Q s = Q .normal s := _root_.id rfl
theorem awp_region_n (id : Nat) (ops : Array Oper) : awp P E hb (.region id ops false) Q s = @awpList P ⟨fun _ => true, fun _ => false, E.f, fun _ => false, fun _ => true, fun _ => false⟩ ops.toList (Q .normal) ops.toList s := _root_.id rfl
theorem awp_region_d (id : Nat) (ops : Array Oper) : awp P E hb (.region id ops true) Q s = @awpList P ⟨E.b, E.n, E.f, E.l, E.D, E.z⟩ ops.toList (Q .normal) ops.toList s := _root_.id rfl
theorem awp_seq (a b : Code) : awp P E hb (.seq a b) Q s = awp P E hb a (fun e s' => match e with | .normal => awp P E hb b Q s' | e => Q e s') s := _root_.id rfl
theorem awp_cond (c : Operand) (x y : Code) : awp P E hb (.cond c x y) Q s = @condK (ev s.env c) ⟨awp P E hb x Q s, awp P E hb y Q s⟩ := _root_.id rfl
theorem awp_block (id : Nat) (c : Code) : awp P E hb (.block id c) Q s = awp P E hb c (fun e s' => match e with | .exit id' => if id' = id then Q .normal s' else Q (.exit id') s' | e => Q e s') s := _root_.id rfl
theorem awp_exit (id : Nat) : awp P E hb (.exit id) Q s = Q (.exit id) s := _root_.id rfl
theorem awp_ret : awp P E hb .ret Q s = Q .ret s := _root_.id rfl

variable {ops : List Oper} {Qs : ASt → Prop} {rest : List Oper} {dst : Option Tmp} {op : Op} {ty : TypeId} {pos : String} {after : Array Edge} {g0 : Option (Nat × Bool)}
theorem awpList_nil : @awpList P ⟨fb, fn, ff, fl, fD, fz⟩ ops Qs [] s = Qs s := _root_.id rfl
theorem awpList_plain {env : List (Nat × AVal)} {h : List AObj} {d : Nat} : @awpList P ⟨fb, fn, ff, fl, fD, fz⟩ ops Qs (⟨some d, op, ty, pos, after, none⟩ :: rest) ⟨env, h⟩ = @opK P ⟨fb, fn, ff, fl, fD, fz⟩ ⟨some d, op, ty, pos, after, none⟩ (ev env) h (fun v h' => @awpList P ⟨fb, fn, ff, fl, fD, fz⟩ ops Qs rest ⟨(d, v) :: env, h'⟩) := _root_.id rfl
theorem awpList_none {env : List (Nat × AVal)} {h : List AObj} : @awpList P ⟨fb, fn, ff, fl, fD, fz⟩ ops Qs (⟨none, op, ty, pos, after, none⟩ :: rest) ⟨env, h⟩ = @opK P ⟨fb, fn, ff, fl, fD, fz⟩ ⟨none, op, ty, pos, after, none⟩ (ev env) h (fun _ h' => @awpList P ⟨fb, fn, ff, fl, fD, fz⟩ ops Qs rest ⟨env, h'⟩) := _root_.id rfl
/-- The slot that an operation of the list writes. -/
def dstAt : List Oper → Nat → Option Nat
  | [], _ => none
  | o :: _, 0 => o.dst
  | _ :: r, j + 1 => dstAt r j
theorem dstAt_eq : ∀ (l : List Oper) (j : Nat), (l[j]?).bind (·.dst) = dstAt l j
  | [], _ => _root_.id rfl
  | _ :: _, 0 => _root_.id rfl
  | _ :: r, j + 1 => by simpa [dstAt] using dstAt_eq r j
theorem dstAt_zero {r : List Oper} : dstAt (⟨dst, op, ty, pos, after, g0⟩ :: r) 0 = dst := _root_.id rfl
theorem dstAt_succ {o : Oper} {r : List Oper} (j : Nat) : dstAt (o :: r) (j + 1) = dstAt r j := _root_.id rfl

theorem awpList_guard {env : List (Nat × AVal)} {h : List AObj} {j d : Nat} {want : Bool} : @awpList P ⟨fb, fn, ff, fl, fD, fz⟩ ops Qs (⟨some d, op, ty, pos, after, some (j, want)⟩ :: rest) ⟨env, h⟩ =
    @bindK _ (dstAt ops j) ⟨fun t => @guardK (look env t) want ⟨@opK P ⟨fb, fn, ff, fl, fD, fz⟩ ⟨some d, op, ty, pos, after, some (j, want)⟩ (ev env) h (fun v h' => @awpList P ⟨fb, fn, ff, fl, fD, fz⟩ ops Qs rest ⟨(d, v) :: env, h'⟩), @awpList P ⟨fb, fn, ff, fl, fD, fz⟩ ops Qs rest ⟨(d, .val undef) :: env, h⟩⟩⟩ := by
  simp only [awpList, dstAt_eq, putA]
  cases dstAt ops j <;> rfl
theorem awpList_guardN {env : List (Nat × AVal)} {h : List AObj} {j : Nat} {want : Bool} : @awpList P ⟨fb, fn, ff, fl, fD, fz⟩ ops Qs (⟨none, op, ty, pos, after, some (j, want)⟩ :: rest) ⟨env, h⟩ =
    @bindK _ (dstAt ops j) ⟨fun t => @guardK (look env t) want ⟨@opK P ⟨fb, fn, ff, fl, fD, fz⟩ ⟨none, op, ty, pos, after, some (j, want)⟩ (ev env) h (fun _ h' => @awpList P ⟨fb, fn, ff, fl, fD, fz⟩ ops Qs rest ⟨env, h'⟩), @awpList P ⟨fb, fn, ff, fl, fD, fz⟩ ops Qs rest ⟨env, h⟩⟩⟩ := by
  simp only [awpList, dstAt_eq, putA]
  cases dstAt ops j <;> rfl

variable {ρ : Operand → AVal} {h : List AObj} {K : AVal → List AObj → Prop} {g : Option (Nat × Bool)}
/-- It is no call of a function. -/
def noCall : Op → Bool
  | .call { callee := .value _, .. } => false
  | _ => true

theorem zOp_of {c : EffF} {op : Op} (h : isEff op = false) : zOp c op = false := by cases op <;> first | rfl | (simp [isEff] at h; done)

theorem opK_pure {o : Oper} (h1 : noCall o.op = true) (h2 : isEff o.op = false) (h4 : frzOp ⟨fb, fn, ff, fl, fD, fz⟩ o.op = false) (h5 : ldOk ⟨fb, fn, ff, fl, fD, fz⟩ o ρ = true) : @opK P ⟨fb, fn, ff, fl, fD, fz⟩ o ρ h K = @bindK _ (aPure P o ρ h) ⟨fun v => K v h⟩ := by
  unfold opK
  split
  · rename_i ho; rw [ho] at h1; cases h1
  · rw [if_neg (by simp [zOp_of h2]), if_neg (by simp [h4]), if_neg (by simp [h2]), if_pos h5]
    cases aPure P o ρ h <;> rfl

theorem opK_eff {o : Oper} (h1 : noCall o.op = true) (h2 : isEff o.op = true) (h3 : appNew ⟨fb, fn, ff, fl, fD, fz⟩ o ρ = true) (h4 : frzOp ⟨fb, fn, ff, fl, fD, fz⟩ o.op = false) (h5 : stOk ⟨fb, fn, ff, fl, fD, fz⟩ o ρ = true) (h6 : zOp ⟨fb, fn, ff, fl, fD, fz⟩ o.op = false) : @opK P ⟨fb, fn, ff, fl, fD, fz⟩ o ρ h K = @bindK _ (aEff P o ρ h) ⟨fun r => K r.1 r.2⟩ := by
  unfold opK
  split
  · rename_i ho; rw [ho] at h1; cases h1
  · rw [if_neg (by simp [h6]), if_neg (by simp [h4]), if_pos h2, if_pos ⟨h3, h5⟩]
    cases aEff P o ρ h <;> rfl

theorem opK_move (x : Operand) : @opK P ⟨fb, fn, ff, fl, fD, fz⟩ ⟨dst, .move x, ty, pos, after, g⟩ ρ h K = @bindK _ (some (ρ x)) ⟨fun v => K v h⟩ := _root_.id rfl
theorem opK_assign (x : Operand) : @opK P ⟨fb, fn, ff, fl, fD, fz⟩ ⟨dst, .assign x, ty, pos, after, g⟩ ρ h K = @bindK _ (some (ρ x)) ⟨fun v => K v h⟩ := _root_.id rfl
theorem opK_pick (c a b : Operand) : @opK P ⟨fb, fn, ff, fl, fD, fz⟩ ⟨dst, .pick c a b, ty, pos, after, g⟩ ρ h K = @bindK _ ((match ρ c with | .val (.bool t) => some (if t then ρ a else ρ b) | _ => none : Option AVal)) ⟨fun v => K v h⟩ := opK_pure rfl rfl rfl rfl
theorem opK_binOp (op : BinOp) (t u : TypeId) (x y : Operand) : @opK P ⟨fb, fn, ff, fl, fD, fz⟩ ⟨dst, .binOp op t x y u, ty, pos, after, g⟩ ρ h K = @bindK _ (aBin P t op (ρ x) (ρ y)) ⟨fun v => K v h⟩ := opK_pure rfl rfl rfl rfl
theorem opK_unOp (op : UnOp) (t : TypeId) (x : Operand) : @opK P ⟨fb, fn, ff, fl, fD, fz⟩ ⟨dst, .unOp op t x, ty, pos, after, g⟩ ρ h K = @bindK _ ((match op, ρ x with | .not, .val (.bool b) => some (.val (.bool (!b))) | .neg, .val (.int k n) => some (.val (.int k (k.wrap (0 - n)))) | _, _ => none : Option AVal)) ⟨fun v => K v h⟩ := opK_pure rfl rfl rfl rfl
theorem opK_convert (s d : TypeId) (x : Operand) : @opK P ⟨fb, fn, ff, fl, fD, fz⟩ ⟨dst, .convert s d x, ty, pos, after, g⟩ ρ h K = @bindK _ (match tyI P s, tyI P d, ρ x with
    | some _, some D, .val (.int _ n) => match D.kind with
      | some k => some (.val (.int k (k.wrap n)))
      | none => none
    | _, _, _ => none : Option AVal) ⟨fun v => K v h⟩ := opK_pure rfl rfl rfl rfl
/-- What a load gives that is said to be from no object of D. -/
def ldF (b : Bool) (D : Nat → Bool) (x : AVal) (r : Option AVal) : Option AVal := if b = true then (if okL D x = true then r else none) else r
theorem ldF_false (D : Nat → Bool) (x : AVal) (r : Option AVal) : ldF false D x r = r := _root_.id rfl
theorem ldF_spot (b : Bool) (D : Nat → Bool) (p : Bool) (cs : List AVal) (r : Option AVal) : ldF b D (.spot p cs) r = r := by cases b <;> rfl
theorem ldF_ptr (D : Nat → Bool) (id off ext : Nat) (r : Option AVal) : ldF true D (.ptr id off ext) r = if D id = true then none else r := by
  by_cases h : D id = true <;> simp [ldF, okL, h]
theorem effS_l (l : List Nat) (t : Bool) (ns fs ls : List Nat) (D : Nat → Bool) (zs : List Nat) (k : Nat) : (effS l t ns fs ls D zs).l (.tmp k) = ls.contains k := _root_.id rfl
theorem effS_z (l : List Nat) (t : Bool) (ns fs ls : List Nat) (D : Nat → Bool) (zs : List Nat) (k : Nat) : (effS l t ns fs ls D zs).z (.tmp k) = zs.contains k := _root_.id rfl
theorem effS_zc (l : List Nat) (t : Bool) (ns fs ls : List Nat) (D : Nat → Bool) (zs : List Nat) (c : Value) : (effS l t ns fs ls D zs).z (.const c) = false := _root_.id rfl
theorem effS_zf (l : List Nat) (t : Bool) (ns fs ls : List Nat) (D : Nat → Bool) (zs : List Nat) (c : FuncId) : (effS l t ns fs ls D zs).z (.func c) = false := _root_.id rfl
theorem effS_D (l : List Nat) (t : Bool) (ns fs ls : List Nat) (D : Nat → Bool) (zs : List Nat) : (effS l t ns fs ls D zs).D = D := _root_.id rfl
theorem opK_load (t : TypeId) (a : Operand) : @opK P ⟨fb, fn, ff, fl, fD, fz⟩ ⟨dst, .load t a, ty, pos, after, g⟩ ρ h K = @bindK _ (ldF (fl a) fD (ρ a) (match pview h (ρ a) with | some cs => aPart P t cs | none => none)) ⟨fun v => K v h⟩ := by
  have h1 : ldOk ⟨fb, fn, ff, fl, fD, fz⟩ ⟨dst, .load t a, ty, pos, after, g⟩ ρ = (!fl a || okL fD (ρ a)) := rfl
  unfold opK
  simp only [isEff, frzOp, zOp, Bool.false_eq_true, if_false, h1, aPure, ldF]
  cases fl a <;> cases okL fD (ρ a) <;> simp [bindK]
  all_goals cases pview h (ρ a) <;> simp
  all_goals cases aPart P t _ <;> rfl
theorem opK_indexAddr (t : TypeId) (x i : Operand) : @opK P ⟨fb, fn, ff, fl, fD, fz⟩ ⟨dst, .indexAddr t x i, ty, pos, after, g⟩ ρ h K = @bindK _ (aIdx P t h (ρ x) (ρ i)) ⟨fun v => K v h⟩ := opK_pure rfl rfl rfl rfl
theorem opK_extract (t : Operand) (i : Nat) : @opK P ⟨fb, fn, ff, fl, fD, fz⟩ ⟨dst, .extract t i, ty, pos, after, g⟩ ρ h K = @bindK _ ((match ρ t with | .tuple vs => vs[i]? | _ => none : Option AVal)) ⟨fun v => K v h⟩ := opK_pure rfl rfl rfl rfl
theorem opK_len (x : Operand) (ts : Array TypeId) : @opK P ⟨fb, fn, ff, fl, fD, fz⟩ ⟨dst, .call ⟨.builtin .len, #[x], ts⟩, ty, pos, after, g⟩ ρ h K = @bindK _ (match sview h (ρ x), ts[0]? with
      | some (n, _), some t => match tyI P t with
        | some T => if T.elem.isSome then some (.val (.int .i64 n)) else none
        | none => none
      | _, _ => none : Option AVal) ⟨fun v => K v h⟩ := opK_pure rfl rfl rfl rfl
theorem opK_not (t : TypeId) (x : Operand) : @opK P ⟨fb, fn, ff, fl, fD, fz⟩ ⟨dst, .unOp .not t x, ty, pos, after, g⟩ ρ h K = @bindK _ (match ρ x with | .val (.bool b) => some (.val (.bool (!b))) | _ => none : Option AVal) ⟨fun v => K v h⟩ := by
  rw [opK_unOp]; cases ρ x <;> try rfl
  case val v => cases v <;> rfl
theorem opK_min (x y : Operand) (ts : Array TypeId) : @opK P ⟨fb, fn, ff, fl, fD, fz⟩ ⟨dst, .call ⟨.builtin .min, #[x, y], ts⟩, ty, pos, after, g⟩ ρ h K = @bindK _ (aMinMax false [ρ x, ρ y]) ⟨fun v => K v h⟩ := opK_pure rfl rfl rfl rfl
theorem opK_max (x y : Operand) (ts : Array TypeId) : @opK P ⟨fb, fn, ff, fl, fD, fz⟩ ⟨dst, .call ⟨.builtin .max, #[x, y], ts⟩, ty, pos, after, g⟩ ρ h K = @bindK _ (aMinMax true [ρ x, ρ y]) ⟨fun v => K v h⟩ := opK_pure rfl rfl rfl rfl
/-- What an append gives that is said to make an object. -/
def apN (b : Bool) (v : AVal) (r : Option (AVal × List AObj)) : Option (AVal × List AObj) := if b = true then (if isNew v = true then r else none) else r
theorem apN_false (v : AVal) (r : Option (AVal × List AObj)) : apN false v r = r := _root_.id rfl
theorem apN_cap0 (b c : Bool) (r : Option (AVal × List AObj)) : apN b (.cap0 c) r = r := by cases b <;> rfl
theorem apN_lit (b : Bool) (n : Nat) (cs : List AVal) (r : Option (AVal × List AObj)) : apN b (.lit n cs) r = r := by cases b <;> rfl
theorem effS_n (l : List Nat) (t : Bool) (ns fs ls : List Nat) (D : Nat → Bool) (zs : List Nat) (k : Nat) : (effS l t ns fs ls D zs).n (.tmp k) = ns.contains k := _root_.id rfl
theorem effS_f (l : List Nat) (t : Bool) (ns fs ls : List Nat) (D : Nat → Bool) (zs : List Nat) (k : Nat) : (effS l t ns fs ls D zs).f (.tmp k) = fs.contains k := _root_.id rfl
def apF (b : Bool) (P : Program) (t : TypeId) (h : List AObj) (s x : AVal) (r : Option (AVal × List AObj)) : Option (AVal × List AObj) := if b = true then (aFrz P t h s x).map fun v => (v, h) else r
theorem apF_false (t : TypeId) (s x : AVal) (r : Option (AVal × List AObj)) : apF false P t h s x r = r := _root_.id rfl
theorem apF_true (t : TypeId) (s x : AVal) (r : Option (AVal × List AObj)) : apF true P t h s x r = (aFrz P t h s x).map fun v => (v, h) := _root_.id rfl
theorem opK_append (x y : Operand) (t : TypeId) : @opK P ⟨fb, fn, ff, fl, fD, fz⟩ ⟨dst, .call ⟨.builtin .append, #[x, y], #[t, t]⟩, ty, pos, after, g⟩ ρ h K = @bindK _ (apF (ff x) P t h (ρ x) (ρ y) (apN (fn x) (ρ x) (aAppend P t h (ρ x) (ρ y)))) ⟨fun r => K r.1 r.2⟩ := by
  have h1 : aEff P ⟨dst, .call ⟨.builtin .append, #[x, y], #[t, t]⟩, ty, pos, after, g⟩ ρ h = aAppend P t h (ρ x) (ρ y) := by simp [aEff]
  have h2 : appNew ⟨fb, fn, ff, fl, fD, fz⟩ ⟨dst, .call ⟨.builtin .append, #[x, y], #[t, t]⟩, ty, pos, after, g⟩ ρ = (!fn x || isNew (ρ x)) := by simp [appNew]
  have h3 : aFrzO P ⟨dst, .call ⟨.builtin .append, #[x, y], #[t, t]⟩, ty, pos, after, g⟩ ρ h = aFrz P t h (ρ x) (ρ y) := by simp [aFrzO]
  have h4 : frzOp ⟨fb, fn, ff, fl, fD, fz⟩ (.call ⟨.builtin .append, #[x, y], #[t, t]⟩) = ff x := by simp [frzOp]
  unfold opK
  simp only [isEff, zOp, Bool.false_eq_true, if_false, if_true, h1, h2, h3, h4, apN, apF]
  cases ff x
  · cases fn x <;> cases isNew (ρ x) <;> simp [bindK]
    all_goals cases aAppend P t h (ρ x) (ρ y) <;> rfl
  · simp [bindK]
    cases aFrz P t h (ρ x) (ρ y) <;> rfl
theorem opK_buildSlice (t : TypeId) (n : Nat) (ps : Array (Nat × Operand)) : @opK P ⟨fb, fn, ff, fl, fD, fz⟩ ⟨dst, .buildSlice t n ps, ty, pos, after, g⟩ ρ h K = @bindK _ (aEff P ⟨dst, .buildSlice t n ps, ty, pos, after, g⟩ ρ h) ⟨fun r => K r.1 r.2⟩ := opK_eff rfl rfl rfl rfl rfl rfl
theorem opK_makeSlice (t : TypeId) (l c : Operand) : @opK P ⟨fb, fn, ff, fl, fD, fz⟩ ⟨dst, .makeSlice t l c, ty, pos, after, g⟩ ρ h K = @bindK _ (aMake P t h (ρ l) (ρ c)) ⟨fun r => K r.1 r.2⟩ := opK_eff rfl rfl rfl rfl rfl rfl
/-- What a store gives that may write objects of D. -/
def stF (D : Nat → Bool) (x : AVal) (r : Option (List AObj)) : Option (List AObj) := if okS D x = true then r else none
theorem stF_ptr (D : Nat → Bool) (id off ext : Nat) (r : Option (List AObj)) : stF D (.ptr id off ext) r = if D id = true then r else none := _root_.id rfl
def stZ (b : Bool) (D : Nat → Bool) (x : AVal) (r : Option (List AObj)) : Option (List AObj) := if b = true then r else stF D x r
theorem stZ_false (D : Nat → Bool) (x : AVal) (r : Option (List AObj)) : stZ false D x r = stF D x r := _root_.id rfl
theorem stZ_true (D : Nat → Bool) (x : AVal) (r : Option (List AObj)) : stZ true D x r = r := _root_.id rfl
open Classical in
/-- The heap is as it was, if the store is said to change nothing. -/
noncomputable def zB (b : Bool) (h' h : List AObj) : Option Unit := if b = true → h' = h then some () else none
theorem zB_false (h' h : List AObj) : zB false h' h = some () := by simp [zB]
theorem zB_true (h : List AObj) : zB true h h = some () := by simp [zB]
theorem opK_store (t : TypeId) (p v : Operand) : @opK P ⟨fb, fn, ff, fl, fD, fz⟩ ⟨dst, .store t p v, ty, pos, after, g⟩ ρ h K = @bindK _ (stZ (fz v) fD (ρ p) (aStore P t h (ρ p) (ρ v))) ⟨fun h' => @bindK _ (zB (fz v) h' h) ⟨fun _ => K .undef h'⟩⟩ := by
  have h1 : stOk ⟨fb, fn, ff, fl, fD, fz⟩ ⟨dst, .store t p v, ty, pos, after, g⟩ ρ = okS fD (ρ p) := rfl
  have h2 : zOp ⟨fb, fn, ff, fl, fD, fz⟩ (.store t p v) = fz v := rfl
  unfold opK
  simp only [h2, isEff, frzOp, appNew, h1, aEff, stF, stZ]
  cases fz v
  · cases okS fD (ρ p) <;> simp [bindK]
    cases aStore P t h (ρ p) (ρ v) with
    | none => rfl
    | some h' => simp [zB_false]
  · cases hs : aStore P t h (ρ p) (ρ v) with
    | none => simp [bindK]
    | some h' =>
      simp [bindK]
      constructor
      · rintro ⟨x, ⟨h3, h4⟩, hk⟩
        subst h3; subst h4
        simpa [zB_true] using hk
      · intro hk
        by_cases he : h' = h
        · subst he
          exact ⟨.undef, ⟨rfl, rfl⟩, by simpa [zB_true] using hk⟩
        · simp [zB, he] at hk
theorem opK_slice (t : TypeId) (x : Operand) (lo hi mx : Option Operand) : @opK P ⟨fb, fn, ff, fl, fD, fz⟩ ⟨dst, .slice t x lo hi mx, ty, pos, after, g⟩ ρ h K = @bindK _ (aSlice P t h (ρ x) (lo.map ρ) (hi.map ρ) (mx.map ρ)) ⟨fun v => K v h⟩ := by
  rw [opK_eff rfl rfl rfl rfl rfl rfl]
  simp only [aEff]
  cases aSlice P t h (ρ x) (lo.map ρ) (hi.map ρ) (mx.map ρ) <;> rfl

theorem awp_loopK (c : Code) : awp P E hb (.loop c) Q s = @loopK P E hb s ⟨c, Q⟩ := _root_.id rfl

theorem opK_callK (f : Operand) (args : Array Operand) (ts : Array TypeId) : @opK P ⟨fb, fn, ff, fl, fD, fz⟩ ⟨dst, .call ⟨.value f, args, ts⟩, ty, pos, after, g⟩ ρ h K = @callK P (ρ f) (args.toList.map ρ) h ⟨fb f⟩ ⟨K⟩ := _root_.id rfl

/-- A call of a function by its contract. -/
theorem callK_F {f : FuncId} {avs args' : List AVal} {res : AVal} {K : AVal → List AObj → Prop} (n : Nat) (hc : Contract P f args' res) (he : avs.map (argOf h n) = args') (hfr : allFresh n res = true ∨ avs.all (noRef n) = true) (hK : K res h) :
    @callK P (.func (.func f) [] []) avs h ⟨b⟩ ⟨K⟩ := .inl ⟨res, ⟨f, [], [], n, _root_.id rfl, by simpa [he] using hc, by simpa using hfr⟩, hK⟩

/-- A call of a function value by the function's contract. -/
theorem callK_V {f : FuncId} {fs cs avs args' : List AVal} {res : AVal} {K : AVal → List AObj → Prop} (n : Nat) (hc : Contract P f args' res) (he : (fs ++ avs ++ cs).map (argOf h n) = args') (hfr : allFresh n res = true ∨ (fs ++ avs ++ cs).all (noRef n) = true) (hK : K res h) :
    @callK P (.func (.func f) fs cs) avs h ⟨b⟩ ⟨K⟩ := .inl ⟨res, ⟨f, fs, cs, n, _root_.id rfl, by rw [he]; exact hc, hfr⟩, hK⟩

/-- A call that may change the heap. -/
theorem callK_T {f : FuncId} {avs : List AVal} {res : AVal} {h' : List AObj} {K : AVal → List AObj → Prop} (hfb : b = true) (hc : SpecTo P f avs h res h') (hK : K res h') :
    @callK P (.func (.func f) [] []) avs h ⟨b⟩ ⟨K⟩ := .inr ⟨hfb, res, h', ⟨f, [], [], _root_.id rfl, by simpa using hc⟩, hK⟩
theorem callK_TV {f : FuncId} {fs cs avs : List AVal} {res : AVal} {h' : List AObj} {K : AVal → List AObj → Prop} (hfb : b = true) (hc : SpecTo P f (fs ++ avs ++ cs) h res h') (hK : K res h') :
    @callK P (.func (.func f) fs cs) avs h ⟨b⟩ ⟨K⟩ := .inr ⟨hfb, res, h', ⟨f, fs, cs, _root_.id rfl, hc⟩, hK⟩

/-- A loop, by what its states are, with a condition on them. -/
theorem loopK_I {c : Code} {σ : Type} (ks : List Nat) (J : σ → Prop) (F : σ → ASt) (μ : σ → Nat) (x : σ) (hJ : J x) (h0 : s.keep ks = F x)
    (round : ∀ x, J x → awp P E hb c (fun e s' => match e with | .normal => ∃ y, J y ∧ s'.keep ks = F y ∧ μ y < μ x | e => Q e s') (F x)) : @loopK P E hb s ⟨c, Q⟩ :=
  awp_loopW J F μ x hJ (h0 ▸ Wk.keep hb s ks) fun x hx => awp_mono _ _ _ _ (fun e s' he => by
    cases e with
    | normal => obtain ⟨y, h1, h2, h3⟩ := he; exact ⟨y, h1, h2 ▸ Wk.keep hb s' ks, h3⟩
    | _ => exact he) (round x hx)

/-- The same; the state ahead of the loop may be weakened. -/
theorem loopK_W {c : Code} {σ : Type} (ks : List Nat) (J : σ → Prop) (F : σ → ASt) (μ : σ → Nat) (x : σ) (hJ : J x) (h0 : Wk hb (s.keep ks) (F x))
    (round : ∀ x, J x → awp P E hb c (fun e s' => match e with | .normal => ∃ y, J y ∧ s'.keep ks = F y ∧ μ y < μ x | e => Q e s') (F x)) : @loopK P E hb s ⟨c, Q⟩ :=
  awp_loopW J F μ x hJ ((Wk.keep hb s ks).trans h0) fun x hx => awp_mono _ _ _ _ (fun e s' he => by
    cases e with
    | normal => obtain ⟨y, h1, h2, h3⟩ := he; exact ⟨y, h1, h2 ▸ Wk.keep hb s' ks, h3⟩
    | _ => exact he) (round x hx)

/-- The same; every state ahead of a round may be weakened. -/
theorem loopK_WW {c : Code} {σ : Type} (ks : List Nat) (J : σ → Prop) (F : σ → ASt) (μ : σ → Nat) (x : σ) (hJ : J x) (h0 : Wk hb (s.keep ks) (F x))
    (round : ∀ x, J x → awp P E hb c (fun e s' => match e with | .normal => ∃ y, J y ∧ Wk hb (s'.keep ks) (F y) ∧ μ y < μ x | e => Q e s') (F x)) : @loopK P E hb s ⟨c, Q⟩ :=
  awp_loopW J F μ x hJ ((Wk.keep hb s ks).trans h0) fun x hx => awp_mono _ _ _ _ (fun e s' he => by
    cases e with
    | normal => obtain ⟨y, h1, h2, h3⟩ := he; exact ⟨y, h1, (Wk.keep hb s' ks).trans h2, h3⟩
    | _ => exact he) (round x hx)

/-- A loop that is left in its first round. -/
theorem loopK_now {c : Code} (h : awp P E hb c (fun e s' => match e with | .normal => False | e => Q e s') s) : @loopK P E hb s ⟨c, Q⟩ :=
  awp_loopW (fun _ : Unit => True) (fun _ => s) (fun _ => 0) () trivial (Wk.refl hb s) fun _ _ => awp_mono _ _ _ _ (fun e s' he => by
    cases e with
    | normal => exact he.elim
    | _ => exact he) h

theorem ev_tmp (env : List (Nat × AVal)) (t : Nat) : ev env (.tmp t) = look env t := _root_.id rfl
theorem ev_const (env : List (Nat × AVal)) (v : Value) : ev env (.const v) = ofConst v := _root_.id rfl
theorem ev_func (env : List (Nat × AVal)) (f : FuncId) : ev env (.func f) = .func (.func f) [] [] := _root_.id rfl
theorem ofConst_int (k : IntKind) (n : Int) : ofConst (.int k n) = .val (.int k n) := _root_.id rfl
theorem ofConst_bool (b : Bool) : ofConst (.bool b) = .val (.bool b) := _root_.id rfl
theorem ofConst_nil : ofConst (.slice none 0 0) = .cap0 true := _root_.id rfl
theorem look_cons (k t : Nat) (v : AVal) (r : List (Nat × AVal)) : look ((k, v) :: r) t = if k = t then v else look r t := _root_.id rfl
theorem putA_some (d : Nat) (v : AVal) (env : List (Nat × AVal)) : putA (some d) v env = (d, v) :: env := _root_.id rfl
theorem putA_none (v : AVal) (env : List (Nat × AVal)) : putA none v env = env := _root_.id rfl
theorem keep_def (ks : List Nat) (env : List (Nat × AVal)) (h : List AObj) : ASt.keep ks ⟨env, h⟩ = ⟨keepEnv ks env, h⟩ := _root_.id rfl
theorem keepEnv_nil (env : List (Nat × AVal)) : keepEnv [] env = [] := _root_.id rfl
theorem keepEnv_cons (k : Nat) (ks : List Nat) (env : List (Nat × AVal)) : keepEnv (k :: ks) env = (k, look env k) :: keepEnv ks env := _root_.id rfl

theorem aBin_int (t : TypeId) (op : BinOp) (k : IntKind) (a b : Int) : aBin P t op (.val (.int k a)) (.val (.int k b)) = aInt op k a b := by simp [aBin]
theorem aInt_add (k : IntKind) (a b : Int) : aInt .add k a b = some (.val (.int k (k.wrap (a + b)))) := _root_.id rfl
theorem aInt_sub (k : IntKind) (a b : Int) : aInt .sub k a b = some (.val (.int k (k.wrap (a - b)))) := _root_.id rfl
theorem aInt_mul (k : IntKind) (a b : Int) : aInt .mul k a b = some (.val (.int k (k.wrap (a * b)))) := _root_.id rfl
theorem aInt_quo (k : IntKind) (a b : Int) (hb : b ≠ 0) : aInt .quo k a b = some (.val (.int k (k.wrap (a.tdiv b)))) := by simp [aInt, hb]
theorem aInt_rem (k : IntKind) (a b : Int) (hb : b ≠ 0) : aInt .rem k a b = some (.val (.int k (a.tmod b))) := by simp [aInt, hb]
theorem aInt_eql (k : IntKind) (a b : Int) : aInt .eql k a b = some (.val (.bool (a == b))) := _root_.id rfl
theorem aInt_neq (k : IntKind) (a b : Int) : aInt .neq k a b = some (.val (.bool (a != b))) := _root_.id rfl
theorem aInt_lss (k : IntKind) (a b : Int) : aInt .lss k a b = some (.val (.bool (decide (a < b)))) := _root_.id rfl
theorem aInt_leq (k : IntKind) (a b : Int) : aInt .leq k a b = some (.val (.bool (decide (a ≤ b)))) := _root_.id rfl
theorem aInt_gtr (k : IntKind) (a b : Int) : aInt .gtr k a b = some (.val (.bool (decide (b < a)))) := _root_.id rfl
theorem aInt_geq (k : IntKind) (a b : Int) : aInt .geq k a b = some (.val (.bool (decide (b ≤ a)))) := _root_.id rfl

theorem wrap_id {n : Int} (h1 : -9223372036854775808 ≤ n) (h2 : n ≤ 9223372036854775807) : IntKind.i64.wrap n = n := by
  rw [IntKind.wrap_i64]; omega

theorem bools_length (l : List Bool) : (bools l).length = l.length := by simp [bools]
theorem bools_append (l m : List Bool) : bools l ++ bools m = bools (l ++ m) := by simp [bools]
theorem bools_one (l : List Bool) : (bools l).all AVal.one = true := by simp [bools, AVal.one, Value.oneCell']
theorem bools_drop (l : List Bool) (n : Nat) : (bools l).drop n = bools (l.drop n) := by simp [bools]
theorem bools_take (l : List Bool) (n : Nat) : (bools l).take n = bools (l.take n) := by simp [bools]
theorem bools_get (l : List Bool) (n : Nat) : (bools l)[n]? = (l[n]?).map B := by simp [bools]
theorem bools_arg (l : List Bool) (h : List AObj) (n : Nat) : (bools l).map (argOf h (n + 1)) = bools l := by simp [bools, argOf, Function.comp_def]
theorem bools_res (l : List Bool) (h : List AObj) (n : Nat) : (bools l).map (resOf h (n + 1)) = bools l := by simp [bools, resOf, Function.comp_def]
theorem bools_fresh (l : List Bool) (n : Nat) : (bools l).all (allFresh (n + 1)) = true := by simp [bools, allFresh]
theorem bools_noRef (l : List Bool) (n : Nat) : (bools l).all (noRef (n + 1)) = true := by simp [bools, noRef]
theorem ints_length (l : List Int) : (ints l).length = l.length := by simp [ints]
theorem ints_append (l m : List Int) : ints l ++ ints m = ints (l ++ m) := by simp [ints]
theorem ints_one (l : List Int) : (ints l).all AVal.one = true := by simp [ints, AVal.one, Value.oneCell']
theorem ints_drop (l : List Int) (n : Nat) : (ints l).drop n = ints (l.drop n) := by simp [ints]
theorem ints_take (l : List Int) (n : Nat) : (ints l).take n = ints (l.take n) := by simp [ints]
theorem ints_get (l : List Int) (n : Nat) : (ints l)[n]? = (l[n]?).map I := by simp [ints]
theorem ints_arg (l : List Int) (h : List AObj) (n : Nat) : (ints l).map (argOf h (n + 1)) = ints l := by simp [ints, argOf, Function.comp_def]
theorem ints_res (l : List Int) (h : List AObj) (n : Nat) : (ints l).map (resOf h (n + 1)) = ints l := by simp [ints, resOf, Function.comp_def]
theorem ints_fresh (l : List Int) (n : Nat) : (ints l).all (allFresh (n + 1)) = true := by simp [ints, allFresh]
theorem ints_noRef (l : List Int) (n : Nat) : (ints l).all (noRef (n + 1)) = true := by simp [ints, noRef]

/-- A slice that grows out of nil: object k, or nil as yet. -/
def gv (k : Nat) (xs : List AVal) : AVal := match xs with | [] => .cap0 true | _ :: _ => .ref k 0 xs.length xs.length
def gh (h : List AObj) (e : TypeId) (xs : List AVal) : List AObj := match xs with | [] => h | _ :: _ => h ++ [⟨e, 1, xs⟩]

theorem append_gv {t e : TypeId} {T E : TyI} (h : List AObj) (xs ys : List AVal) {y : AVal} {m : Nat} (ht : tyI P t = some T) (hT : T.elem = some e) (hE : tyI P e = some E) (hsz : E.size = 1) (hz : E.zero.length = 1)
    (hv : ∀ h', sview h' y = some (m, ys)) (hm : ys.length = m) (hone : ys.all AVal.one = true) (h0 : m ≠ 0) (hb : (xs.length + m) * E.bytes ≤ 140737488355328) (hb2 : xs.length + m ≤ 140737488355328) :
    aAppend P t (gh h e xs) (gv h.length xs) y = some (gv h.length (xs ++ ys), gh h e (xs ++ ys)) := by
  subst hm
  have hys : ys ≠ [] := by rintro rfl; simp at h0
  cases xs with
  | nil =>
    obtain ⟨y0, yr, rfl⟩ := List.exists_cons_of_ne_nil hys
    simp only [List.length_nil, Nat.zero_add] at hb hb2
    simp only [aAppend, ht, hT, hE, gh, gv, hv, hsz, hz, List.nil_append, Nat.mul_one]
    simp only [List.take_length]
    rw [if_pos (by simpa using hone), if_neg h0, if_pos ⟨hb, hb2⟩]
  | cons x xr =>
    simp only [aAppend, ht, hT, hE, gh, gv, hv, hsz, hz, Nat.mul_one, List.cons_append]
    simp only [List.take_length]
    rw [if_pos (by simpa using hone)]
    have hlast : (h ++ [(⟨e, 1, x :: xr⟩ : AObj)])[h.length]? = some ⟨e, 1, x :: xr⟩ := by simp
    rw [hlast]
    simp only []
    rw [if_pos (by simp; exact ⟨by simpa using hb, by simpa using hb2⟩)]
    simp; omega

end
end Go.AW

/- Weakenings: holes, garbage. -/
namespace Go.AW
open Go Go.RowKit

/-- Objects have other numbers; what leads to none is not known any more. -/
def ren (f : Nat → Option Nat) : Nat → AVal → AVal
  | 0, _ => .undef
  | _ + 1, .undef => .undef
  | _ + 1, .val v => .val v
  | _ + 1, .cap0 b => .cap0 b
  | _ + 1, .res k => match f k with
    | some k' => .res k'
    | none => .cap0 true
  | n + 1, .lit k cs => .lit k (cs.map (ren f n))
  | n + 1, .list p b k cs => .list p b k (cs.map (ren f n))
  | n + 1, .spot p cs => .spot p (cs.map (ren f n))
  | n + 1, .agg cs => .agg (cs.map (ren f n))
  | n + 1, .tuple cs => .tuple (cs.map (ren f n))
  | n + 1, .func fn fs cs => .func fn (fs.map (ren f n)) (cs.map (ren f n))
  | _ + 1, .ref id off k ext => match f id with
    | some id' => .ref id' off k ext
    | none => .undef
  | _ + 1, .ptr id off ext => match f id with
    | some id' => .ptr id' off ext
    | none => .undef

section
variable {ok fr ok' : Nat → Prop} {w : World} {β β' : Nat → Nat × Nat} {len len' : Nat → Option Nat} {f : Nat → Option Nat}

theorem ren_rel (hf : ∀ id l id', len id = some l → f id = some id' → len' id' = some l ∧ β' id' = β id) (hok : ∀ b, ok b → ok' b) : ∀ (n : Nat) (x : AVal) (v : Value), VRel ok fr w β len x v → VRel ok' fr w β' len' (ren f n x) v := by
  intro n
  induction n with
  | zero => intro x v _; exact .undef _
  | succ n ih =>
    intro x v hx
    cases hx with
    | undef v => exact .undef _
    | val v => exact .val _
    | cap0 b a ha hs => exact .cap0 _ _ ha hs
    | res k =>
      simp only [ren]
      split
      · exact .res _
      · exact .cap0 true none rfl (fun _ h => by cases h)
    | nil p => exact .nil p
    | lit b off k cs cv hok1 hp hc hr' =>
      refine .lit b off k _ cv (fun hne => hok _ (hok1 (by rintro rfl; exact hne rfl))) (fun hne => hp (by rintro rfl; exact hne rfl)) (fun j hj => hc j (by simpa using hj)) (fun j hj => ?_)
      simp only [List.getElem_map]; exact ih _ _ (hr' j (by simpa using hj))
    | list p b off k cap cs cv hok1 hp hn1 hc hr' =>
      refine .list p b off k cap _ cv (fun hne => hok _ (hok1 (by rintro rfl; exact hne rfl))) (fun hp1 hne => hp hp1 (by rintro rfl; exact hne rfl)) hn1 (fun j hj => hc j (by simpa using hj)) (fun j hj => ?_)
      simp only [List.getElem_map]; exact ih _ _ (hr' j (by simpa using hj))
    | spot p b off cs cv hok1 hp hc hr' =>
      refine .spot p b off _ cv (fun hne => hok _ (hok1 (by rintro rfl; exact hne rfl))) (fun hp1 hne => hp hp1 (by rintro rfl; exact hne rfl)) (fun j hj => hc j (by simpa using hj)) (fun j hj => ?_)
      simp only [List.getElem_map]; exact ih _ _ (hr' j (by simpa using hj))
    | agg cs vs hs hr' =>
      refine .agg _ _ (by simpa using hs) (fun j hj => ?_)
      simp only [List.getElem_map]; exact ih _ _ (hr' j (by simpa using hj))
    | tuple cs vs hs hr' =>
      refine .tuple _ _ (by simpa using hs) (fun j hj => ?_)
      simp only [List.getElem_map]; exact ih _ _ (hr' j (by simpa using hj))
    | func fn fs cs fv cv hfs hcs hf1 hc =>
      refine .func _ _ _ _ _ (by simpa using hfs) (by simpa using hcs) (fun j hj => ?_) (fun j hj => ?_)
      · simp only [List.getElem_map]; exact ih _ _ (hf1 j (by simpa using hj))
      · simp only [List.getElem_map]; exact ih _ _ (hc j (by simpa using hj))
    | ref id off k ext l cap a hl he hn1 ha live =>
      simp only [ren]
      split
      · rename_i id' hid
        obtain ⟨h1, h2⟩ := hf id l id' hl hid
        exact .ref _ _ _ _ l _ _ h1 he hn1 ha (by rw [h2]; exact live)
      · exact .undef _
    | ptr id off ext l a hl he live =>
      simp only [ren]
      split
      · rename_i id' hid
        obtain ⟨h1, h2⟩ := hf id l id' hl hid
        exact .ptr _ _ _ l _ h1 he (by rw [h2]; exact live)
      · exact .undef _

/-- What leads to elder objects alone stands as it stood. -/
theorem low_rel {ok0 fr0 : Nat → Prop} {w0 : World} {β0 : Nat → Nat × Nat} {len0 : Nat → Option Nat} (hf : ∀ id l0 l, len0 id = some l0 → len id = some l → len' id = some l ∧ β' id = β id) (hok : ∀ b, ok b → ok' b) {x : AVal} {v : Value} (hx : VRel ok fr w β len x v) :
    ∀ v0, VRel ok0 fr0 w0 β0 len0 x v0 → VRel ok' fr w β' len' x v := by
  induction hx with
  | undef v => intro _ _; exact .undef _
  | val v => intro _ _; exact .val _
  | cap0 b a ha hs => intro _ _; exact .cap0 _ _ ha hs
  | res k => intro _ _; exact .res k
  | nil p => intro _ _; exact .nil p
  | lit b off k cs cv hok1 hp hc hr' ih =>
    intro v0 h0
    cases h0 with
    | lit _ _ _ _ cv0 _ _ _ h0' => exact .lit b off k _ cv (fun hne => hok _ (hok1 hne)) hp hc (fun j hj => ih j hj _ (h0' j hj))
  | list p b off k cap cs cv hok1 hp hn1 hc hr' ih =>
    intro v0 h0
    cases h0 with
    | list _ _ _ _ _ _ cv0 _ _ _ _ h0' => exact .list p b off k cap _ cv (fun hne => hok _ (hok1 hne)) hp hn1 hc (fun j hj => ih j hj _ (h0' j hj))
  | spot p b off cs cv hok1 hp hc hr' ih =>
    intro v0 h0
    cases h0 with
    | spot _ _ _ _ cv0 _ _ _ h0' => exact .spot p b off _ cv (fun hne => hok _ (hok1 hne)) hp hc (fun j hj => ih j hj _ (h0' j hj))
  | agg cs vs hs hr' ih =>
    intro v0 h0
    cases h0 with
    | agg _ _ _ h0' => exact .agg _ _ hs (fun j hj => ih j hj _ (h0' j hj))
  | tuple cs vs hs hr' ih =>
    intro v0 h0
    cases h0 with
    | tuple _ _ _ h0' => exact .tuple _ _ hs (fun j hj => ih j hj _ (h0' j hj))
  | func fn fs cs fv cv hfs hcs hf1 hc ih1 ih2 =>
    intro v0 h0
    cases h0 with
    | func _ _ _ _ _ _ _ h01 h02 => exact .func _ _ _ _ _ hfs hcs (fun j hj => ih1 j hj _ (h01 j hj)) (fun j hj => ih2 j hj _ (h02 j hj))
  | ref id off k ext l cap a hl he hn1 ha live =>
    intro v0 h0
    cases h0 with
    | ref _ _ _ _ l0 _ _ hl0 _ _ _ _ =>
      obtain ⟨h1, h2⟩ := hf id l0 l hl0 hl
      exact .ref _ _ _ _ l _ _ h1 he hn1 ha (by rw [h2]; exact live)
  | ptr id off ext l a hl he live =>
    intro v0 h0
    cases h0 with
    | ptr _ _ _ l0 _ hl0 _ _ =>
      obtain ⟨h1, h2⟩ := hf id l0 l hl0 hl
      exact .ptr _ _ _ l _ h1 he (by rw [h2]; exact live)
end

/-- The first m objects keep their numbers; of those behind them the ones of ks are kept, in this order. -/
def keepF (m : Nat) (ks : List Nat) (id : Nat) : Option Nat := if id < m then some id else (ks.idxOf? (id - m)).map (m + ·)

def renO (f : Nat → Option Nat) (n : Nat) (o : AObj) : AObj := ⟨o.ty, o.es, o.cells.map (ren f n)⟩

theorem keepF_some {m : Nat} {ks : List Nat} {id id' : Nat} (h : keepF m ks id = some id') : (id < m ∧ id' = id) ∨ (m ≤ id ∧ ∃ k, ks[k]? = some (id - m) ∧ id' = m + k) := by
  unfold keepF at h
  split at h
  · rename_i hlt; cases h; exact .inl ⟨hlt, rfl⟩
  · rename_i hge
    obtain ⟨k, hk, rfl⟩ := Option.map_eq_some_iff.1 h
    refine .inr ⟨by omega, k, ?_, rfl⟩
    rw [List.idxOf?, List.findIdx?_eq_some_iff_getElem] at hk
    obtain ⟨h1, h2, _⟩ := hk
    simp only [beq_iff_eq] at h2
    rw [List.getElem?_eq_getElem h1, h2]

theorem look_ren (f : Nat → Option Nat) (n t : Nat) : ∀ env : List (Nat × AVal), look (env.map fun p => (p.1, ren f n p.2)) t = .undef ∨ look (env.map fun p => (p.1, ren f n p.2)) t = ren f n (look env t)
  | [] => .inl rfl
  | p :: r => by
    simp only [List.map_cons, look]
    split
    · exact .inr rfl
    · exact look_ren f n t r

/-- Garbage is dropped, and objects behind those of the frame's beginning get other numbers. -/
theorem Wk.drop {hb h1 gs : List AObj} {env : List (Nat × AVal)} (n : Nat) (ks : List Nat) (hl : h1.length = hb.length) (hnd : ks.Nodup) (hks : ∀ k ∈ ks, k < gs.length)
    (hsame : ∀ (i : Nat) (o : AObj), h1[i]? = some o → hb[i]? = some o ∨ ∀ x ∈ o.cells, ren (keepF hb.length ks) n x = x) :
    Wk hb ⟨env, h1 ++ gs⟩ ⟨env.map fun p => (p.1, ren (keepF hb.length ks) n p.2), h1 ++ ks.map fun k => renO (keepF hb.length ks) n (gs.getD k ⟨0, 0, []⟩)⟩ := by
  intro W0 ok0 A N B a w hB hfr
  obtain ⟨rfl, hb0⟩ := hB
  obtain ⟨β, hr, henv, hs, hd, hbase, hlen⟩ := hfr
  simp only at hr henv hbase
  let f := keepF B.h.length ks
  let js : Nat → Nat := fun i => if i < B.h.length then i else B.h.length + ks.getD (i - B.h.length) 0
  let h' := h1 ++ ks.map fun k => renO f n (gs.getD k ⟨0, 0, []⟩)
  let β' := fun i => β (js i)
  have hjs : ∀ i, i < B.h.length → js i = i := fun i hi => if_pos hi
  have hjs2 : ∀ k, js (B.h.length + k) = B.h.length + ks.getD k 0 := fun k => by
    simp only [js]; rw [if_neg (by omega)]; congr 2; omega
  -- an object of the new heap
  have hobj : ∀ i o, h'[i]? = some o → ∃ o0, (h1 ++ gs)[js i]? = some o0 ∧ o.ty = o0.ty ∧ o.es = o0.es ∧ ((i < B.h.length ∧ o = o0) ∨ o.cells = o0.cells.map (ren f n)) := by
    intro i o hi
    rcases Nat.lt_or_ge i B.h.length with h2 | h2
    · refine ⟨o, ?_, rfl, rfl, .inl ⟨h2, rfl⟩⟩
      rw [hjs i h2, List.getElem?_append_left (by omega)]
      rw [List.getElem?_append_left (by omega)] at hi
      exact hi
    · rw [List.getElem?_append_right (by omega), hl] at hi
      rw [List.getElem?_map, Option.map_eq_some_iff] at hi
      obtain ⟨k, hk, rfl⟩ := hi
      have hlt := hks k (List.mem_of_getElem? hk)
      have hki : js i = B.h.length + k := by
        have := hjs2 (i - B.h.length)
        rw [show B.h.length + (i - B.h.length) = i by omega] at this
        rw [this, List.getD_eq_getElem?_getD, hk]; rfl
      refine ⟨gs[k], ?_, ?_, ?_, .inr ?_⟩
      · rw [hki, List.getElem?_append_right (by omega), hl]; simp [hlt]
      all_goals simp [renO, hlt]
  have hinj : ∀ i j, i < h'.length → j < h'.length → js i = js j → i = j := by
    intro i j hi hj he
    have hi' : i < B.h.length + ks.length := by simp only [h', List.length_append, List.length_map, hl] at hi; exact hi
    have hj' : j < B.h.length + ks.length := by simp only [h', List.length_append, List.length_map, hl] at hj; exact hj
    rcases Nat.lt_or_ge i B.h.length with h2 | h2 <;> rcases Nat.lt_or_ge j B.h.length with h3 | h3
    · rw [hjs i h2, hjs j h3] at he; exact he
    · rw [hjs i h2] at he
      have := hjs2 (j - B.h.length)
      rw [show B.h.length + (j - B.h.length) = j by omega] at this
      omega
    · rw [hjs j h3] at he
      have := hjs2 (i - B.h.length)
      rw [show B.h.length + (i - B.h.length) = i by omega] at this
      omega
    · have e1 := hjs2 (i - B.h.length)
      have e2 := hjs2 (j - B.h.length)
      rw [show B.h.length + (i - B.h.length) = i by omega] at e1
      rw [show B.h.length + (j - B.h.length) = j by omega] at e2
      rw [e1, e2] at he
      have he2 : ks.getD (i - B.h.length) 0 = ks.getD (j - B.h.length) 0 := by omega
      simp only [List.getD_eq_getElem?_getD, List.getElem?_eq_getElem (show i - B.h.length < ks.length by omega), List.getElem?_eq_getElem (show j - B.h.length < ks.length by omega), Option.getD_some] at he2
      have hpw := List.pairwise_iff_getElem.1 hnd
      rcases Nat.lt_trichotomy i j with h4 | h4 | h4
      · exact absurd he2 (hpw _ _ (by omega) (by omega) (by omega))
      · exact h4
      · exact absurd he2.symm (hpw _ _ (by omega) (by omega) (by omega))
  have hlive : ∀ i, live h' i → live (h1 ++ gs) (js i) := by
    rintro i ⟨o, ho, hes⟩
    obtain ⟨o0, h2, _, h3, _⟩ := hobj i o ho
    exact ⟨o0, h2, by rw [← h3]; exact hes⟩
  have hok : ∀ b, okIn W0 ok0 w β (h1 ++ gs) b → okIn W0 ok0 w β' h' b := fun b hb => ⟨hb.1, fun i hi => hb.2.1 _ (hlive i hi), hb.2.2⟩
  have hren : ∀ id l id', lens (h1 ++ gs) id = some l → f id = some id' → lens h' id' = some l ∧ β' id' = β id := by
    intro id l id' hid hf
    obtain ⟨o0, ho0, hes, rfl⟩ := lens_live hid
    rcases keepF_some hf with ⟨h2, rfl⟩ | ⟨h2, k, hk, rfl⟩
    · rw [List.getElem?_append_left (by omega)] at ho0
      exact ⟨lens_some (by simp only [h']; rw [List.getElem?_append_left (by omega)]; exact ho0) hes, by simp only [β', hjs id' h2]⟩
    · have hlt := hks _ (List.mem_of_getElem? hk)
      rw [List.getElem?_append_right (by omega), hl] at ho0
      refine ⟨?_, ?_⟩
      · have : h'[B.h.length + k]? = some (renO f n o0) := by
          simp only [h']
          rw [List.getElem?_append_right (by omega), hl, List.getElem?_map]
          simp [hk, ho0, List.getD_eq_getElem?_getD]
        have := lens_some this (by simpa [renO] using hes)
        simpa [renO] using this
      · simp only [β', hjs2, List.getD_eq_getElem?_getD, hk, Option.getD_some]
        congr 1; omega
  have hlow : ∀ x v, VR W0 ok0 B.β B.h B.w x v → VR W0 ok0 β (h1 ++ gs) w x v → VR W0 ok0 β' h' w x v := by
    intro x v h2 h3
    refine low_rel (len' := lens h') (β' := β') (fun id l0 l h4 h5 => ?_) hok h3 v h2
    obtain ⟨o, ho, _, _⟩ := lens_live h4
    have hlt := (List.getElem?_eq_some_iff.1 ho).1
    exact hren id l id h5 (if_pos hlt)
  have hVR : ∀ x v, VR W0 ok0 β (h1 ++ gs) w x v → VR W0 ok0 β' h' w (ren f n x) v := fun x v hx => ren_rel hren hok n x v hx
  refine ⟨β', ⟨?_, ?_, ?_, hr.os, hr.tape, hr.output, hr.wsize, hr.block⟩, fun t => ?_, hs, hd, fun x v hx => hlow x v hx (hbase x v hx), ?_⟩
  · intro i o ho hes
    obtain ⟨o0, h2, h3, h4, h5⟩ := hobj i o ho
    obtain ⟨cur, c1, c2, c3, c4, c5, c6⟩ := hr.heap (js i) o0 h2 (by rw [← h4]; exact hes)
    have hcl : o.cells.length = o0.cells.length := by
      rcases h5 with ⟨_, rfl⟩ | h5
      · rfl
      · rw [h5]; simp
    refine ⟨cur, by rw [h3]; exact c1, by rw [h4]; exact c2, c3, by omega, by rw [hcl]; exact c5, fun j hj => ?_⟩
    have h6 := c6 j (by omega)
    rw [hcl]
    rcases h5 with ⟨hlt, rfl⟩ | h5
    · rw [hjs i hlt] at h2
      have h7 : h1[i]? = some o := by rw [List.getElem?_append_left (by omega)] at h2; exact h2
      rcases hsame i o h7 with h8 | h8
      · obtain ⟨cur0, d1, d2, d3, d4, d5, d6⟩ := hb0.heap i o h8 hes
        exact low_rel (len' := lens h') (β' := β') (fun id l0 l h4 h5 => by
          obtain ⟨o, ho, _, _⟩ := lens_live h4
          have hlt := (List.getElem?_eq_some_iff.1 ho).1
          exact hren id l id h5 (if_pos hlt)) hok h6 _ (d6 j hj)
      · have := hVR _ _ h6
        rw [h8 _ (List.getElem_mem hj)] at this
        exact this
    · have := hVR _ _ h6
      have e : o.cells[j] = ren f n (o0.cells[j]'(by omega)) := by simp only [h5]; simp
      rw [e]; exact this
  · intro i j hi hj he
    exact hinj i j (live_lt hi) (live_lt hj) (hr.inj _ _ (hlive i hi) (hlive j hj) he)
  · intro i hi
    exact hr.own _ (hlive i hi)
  · have := look_ren f n t env
    rcases this with h2 | h2
    · show VR _ _ _ _ _ (look (env.map fun p => (p.1, ren f n p.2)) t) _
      rw [h2]; exact .undef _
    · show VR _ _ _ _ _ (look (env.map fun p => (p.1, ren f n p.2)) t) _
      rw [h2]; exact hVR _ _ (henv t)
  · simp only [List.length_append, hl]; omega

theorem keepF_at (m : Nat) (ks : List Nat) (k : Nat) : keepF m ks (m + k) = (ks.idxOf? k).map (m + ·) := by
  unfold keepF; rw [if_neg (by omega), Nat.add_sub_cancel_left]
theorem keepF_at0 (m : Nat) (ks : List Nat) : keepF m ks m = (ks.idxOf? 0).map (m + ·) := keepF_at m ks 0
theorem keepF_lo {m id : Nat} (ks : List Nat) (h : id < m) : keepF m ks id = some id := if_pos h

theorem same_refl {f : Nat → Option Nat} {n : Nat} {h : List AObj} : ∀ (i : Nat) (o' : AObj), h[i]? = some o' → h[i]? = some o' ∨ ∀ x ∈ o'.cells, ren f n x = x := fun _ _ h => .inl h
theorem same_set {f : Nat → Option Nat} {n k : Nat} {h h2 : List AObj} {o : AObj} (hh : ∀ (i : Nat) (o' : AObj), h2[i]? = some o' → h[i]? = some o' ∨ ∀ x ∈ o'.cells, ren f n x = x) (ho : ∀ x ∈ o.cells, ren f n x = x) : ∀ (i : Nat) (o' : AObj), (h2.set k o)[i]? = some o' → h[i]? = some o' ∨ ∀ x ∈ o'.cells, ren f n x = x := by
  intro i o' hi
  rw [List.getElem?_set] at hi
  split at hi
  · split at hi
    · cases hi; exact .inr ho
    · cases hi
  · exact hh i o' hi

/-- A value that says less. -/
inductive WV : AVal → AVal → Prop
  | refl (x : AVal) : WV x x
  | nil (k : Nat) : WV (.cap0 true) (.res k)
  | undef (x : AVal) : WV x .undef
  | agg (cs ds : List AVal) (hl : cs.length = ds.length) (h : ∀ j (h1 : j < cs.length) (h2 : j < ds.length), WV cs[j] ds[j]) : WV (.agg cs) (.agg ds)

theorem WV.rel {ok fr : Nat → Prop} {w : World} {β : Nat → Nat × Nat} {len : Nat → Option Nat} {x y : AVal} (h : WV x y) : ∀ v, VRel ok fr w β len x v → VRel ok fr w β len y v := by
  induction h with
  | refl x => intro v h; exact h
  | nil k =>
    intro v h
    cases h with
    | cap0 b a ha hs =>
      cases a with
      | none => exact .res k
      | some a => simp at ha
  | undef x => intro v _; exact .undef v
  | agg cs ds hl h ih =>
    intro v hv
    cases hv with
    | agg _ vs hs hr => exact .agg _ _ (by omega) (fun j hj => ih j (by omega) hj _ (hr j (by omega)))

/-- Cells that say less. -/
def WL (cs ds : List AVal) : Prop := cs.length = ds.length ∧ ∀ j (h1 : j < cs.length) (h2 : j < ds.length), WV cs[j] ds[j]
theorem WL.refl (cs : List AVal) : WL cs cs := ⟨rfl, fun _ _ _ => .refl _⟩
theorem WL.nil : WL [] [] := WL.refl []
theorem WL.cons {x y : AVal} {cs ds : List AVal} (h : WV x y) (hl : WL cs ds) : WL (x :: cs) (y :: ds) := by
  refine ⟨by simp [hl.1], fun j h1 h2 => ?_⟩
  cases j with
  | zero => exact h
  | succ j => exact hl.2 j (by simpa using h1) (by simpa using h2)

/-- Objects whose cells say less. -/
inductive WO : List AObj → List AObj → Prop
  | nil (hs : List AObj) (h : ∀ o ∈ hs, o.es = 0) : WO [] hs
  | cons (ty es : Nat) (cs ds : List AVal) (h : WL cs ds) {r r' : List AObj} (hr : WO r r') : WO (⟨ty, es, cs⟩ :: r) (⟨ty, es, ds⟩ :: r')

theorem WO.refl : ∀ h : List AObj, WO h h
  | [] => .nil [] (fun o h => by simp at h)
  | ⟨ty, es, cs⟩ :: r => .cons ty es cs cs (WL.refl cs) (WO.refl r)

theorem WO.app (h0 : List AObj) {r r' : List AObj} (h : WO r r') : WO (h0 ++ r) (h0 ++ r') := by
  induction h0 with
  | nil => exact h
  | cons o h0 ih => obtain ⟨ty, es, cs⟩ := o; exact .cons ty es cs cs (WL.refl cs) ih

theorem WO.at {h h' : List AObj} (hw : WO h h') : h.length ≤ h'.length ∧ ∀ i o', h'[i]? = some o' → (h.length ≤ i ∧ o'.es = 0) ∨ ∃ o, h[i]? = some o ∧ o.ty = o'.ty ∧ o.es = o'.es ∧ WL o.cells o'.cells := by
  induction hw with
  | nil hs h => exact ⟨by simp, fun i o' ho => .inl ⟨by simp, h _ (List.mem_of_getElem? ho)⟩⟩
  | cons ty es cs ds h hr ih =>
    refine ⟨by simp only [List.length_cons]; omega, fun i o' ho => ?_⟩
    cases i with
    | zero =>
      simp only [List.getElem?_cons_zero, Option.some.injEq] at ho
      subst ho
      exact .inr ⟨⟨ty, es, cs⟩, rfl, rfl, rfl, h⟩
    | succ i =>
      simp only [List.getElem?_cons_succ] at ho
      rcases ih.2 i o' ho with ⟨h1, h2⟩ | h1
      · exact .inl ⟨by simp only [List.length_cons]; omega, h2⟩
      · exact .inr (by simpa using h1)

theorem WO.lens {h h' : List AObj} (hw : WO h h') (id : Nat) : Go.AW.lens h' id = Go.AW.lens h id := by
  obtain ⟨hl, hat⟩ := hw.at
  unfold Go.AW.lens
  cases ho : h'[id]? with
  | none =>
    have : h'.length ≤ id := by simpa using ho
    rw [List.getElem?_eq_none (show h.length ≤ id by omega)]
  | some o' =>
    rcases hat id o' ho with ⟨h1, h2⟩ | ⟨o, h1, h2, h3, h4⟩
    · rw [List.getElem?_eq_none h1]; simp [h2]
    · rw [h1]; simp only [Option.bind_some, h3, h4.1]

/-- A state that says less. -/
theorem Wk.weak {hb h h' : List AObj} {env env' : List (Nat × AVal)} (he : ∀ t, WV (look env t) (look env' t)) (hw : WO h h') : Wk hb ⟨env, h⟩ ⟨env', h'⟩ := by
  intro W0 ok0 A N B a w _ hfr
  obtain ⟨β, hr, henv, hs, hd, hbase, hlen⟩ := hfr
  obtain ⟨hl, hat⟩ := hw.at
  have hlens : lens h' = lens h := funext fun id => hw.lens id
  have hlive : ∀ i, live h' i → live h i := by
    rintro i ⟨o', ho', hes⟩
    rcases hat i o' ho' with ⟨_, h2⟩ | ⟨o, h1, h2, h3, h4⟩
    · exact absurd h2 hes
    · exact ⟨o, h1, by rw [h3]; exact hes⟩
  have hok : ∀ b, okIn W0 ok0 w β h b → okIn W0 ok0 w β h' b := fun b hb => ⟨hb.1, fun i hi => hb.2.1 _ (hlive i hi), hb.2.2⟩
  have hm : ∀ x v, VR W0 ok0 β h w x v → VR W0 ok0 β h' w x v := fun x v hx => VRel.mono hok (fun _ _ h => h) (fun _ _ => rfl) (fun id l hl => ⟨l, by rw [hlens]; exact hl, Nat.le_refl _, fun _ => rfl⟩) hx
  refine ⟨β, ⟨?_, fun i j hi hj => hr.inj i j (hlive i hi) (hlive j hj), fun i hi => hr.own i (hlive i hi), hr.os, hr.tape, hr.output, hr.wsize, hr.block⟩, fun t => (he t).rel _ (hm _ _ (henv t)), hs, hd, fun x v hx => hm _ _ (hbase x v hx), by simp only; simp only at hlen; omega⟩
  intro i o' ho' hes
  rcases hat i o' ho' with ⟨_, h2⟩ | ⟨o, h1, h2, h3, h4⟩
  · exact absurd h2 hes
  · obtain ⟨cur, c1, c2, c3, c4, c5, c6⟩ := hr.heap i o h1 (by rw [h3]; exact hes)
    have hcl := h4.1
    refine ⟨cur, by rw [← h2]; exact c1, by rw [← h3]; exact c2, c3, by omega, by rw [← hcl]; exact c5, fun j hj => ?_⟩
    rw [← hcl]
    exact (h4.2 j (by omega) hj).rel _ (hm _ _ (c6 j (by omega)))

/-- Slots that say less. -/
theorem WE.nil : ∀ t, WV (look [] t) (look [] t) := fun _ => .refl _
theorem WE.cons {x y : AVal} {r r' : List (Nat × AVal)} (k : Nat) (h : WV x y) (hr : ∀ t, WV (look r t) (look r' t)) : ∀ t, WV (look ((k, x) :: r) t) (look ((k, y) :: r') t) := by
  intro t
  simp only [look]
  split
  · exact h
  · exact hr t

end Go.AW

/- Rules to reckon with, second part. -/
set_option linter.unusedSimpArgs false
namespace Go.AW
open Go

/-- 't' is the type of slices of 'e', whose values take one cell and 'by' bytes. -/
class SlT (P : Program) (t : TypeId) (e : outParam TypeId) (nb : outParam Nat) (z : outParam Value) : Prop where
  ht : ∃ T, tyI P t = some T ∧ T.elem = some e
  he : ∃ E, tyI P e = some E ∧ E.size = 1 ∧ E.agg = false ∧ E.bytes = nb ∧ E.zero = [z]

theorem SlT.of {P : Program} {t e : TypeId} {nb : Nat} {z : Value} (h1 : (tyI P t).map (·.elem) = some (some e)) (h2 : (tyI P e).map (fun E => (E.size, E.agg, E.bytes, E.zero)) = some (1, false, nb, [z])) : SlT P t e nb z := by
  constructor
  · obtain ⟨T, hT, he⟩ := Option.map_eq_some_iff.1 h1; exact ⟨T, hT, he⟩
  · obtain ⟨E, hE, he⟩ := Option.map_eq_some_iff.1 h2
    simp only [Prod.mk.injEq] at he
    exact ⟨E, hE, he.1, he.2.1, he.2.2.1, he.2.2.2⟩

section
variable {P : Program} {fb fn ff fl fz : Operand → Bool} {fD : Nat → Bool} {t e : TypeId} {nb : Nat} {z : Value} {h : List AObj}

theorem idx_list [S : SlT P t e nb z] (p b : Bool) (m : Nat) (cs : List AVal) (k : IntKind) (n : Int) : aIdx P t h (.list p b m cs) (.val (.int k n)) = if 0 ≤ n ∧ n < m then some (.spot p (cs.drop n.toNat)) else none := by
  obtain ⟨⟨T, hT, hTe⟩, E, hE, h1, h2, h3, h4⟩ := S
  simp [aIdx, hT, hTe, hE, h1]

theorem idx_lit [S : SlT P t e nb z] (m : Nat) (cs : List AVal) (k : IntKind) (n : Int) : aIdx P t h (.lit m cs) (.val (.int k n)) = if 0 ≤ n ∧ n < m then some (.spot true (cs.drop n.toNat)) else none := by
  obtain ⟨⟨T, hT, hTe⟩, E, hE, h1, h2, h3, h4⟩ := S
  simp [aIdx, hT, hTe, hE, h1]

theorem idx_ref [S : SlT P t e nb z] (id off m ext : Nat) (k : IntKind) (n : Int) : aIdx P t h (.ref id off m ext) (.val (.int k n)) = if 0 ≤ n ∧ n < m ∧ (cellsAt h id ext).isSome then some (.ptr id (off + n.toNat) ext) else none := by
  obtain ⟨⟨T, hT, hTe⟩, E, hE, h1, h2, h3, h4⟩ := S
  simp [aIdx, hT, hTe, hE, h1]

theorem idx_list_ok [S : SlT P t e nb z] {p b : Bool} {m : Nat} {cs : List AVal} {k : IntKind} {n : Int} (h0 : 0 ≤ n) (h1 : n < m) : aIdx P t h (.list p b m cs) (.val (.int k n)) = some (.spot p (cs.drop n.toNat)) := by
  rw [idx_list (S := S), if_pos ⟨h0, h1⟩]

theorem idx_lit_ok [S : SlT P t e nb z] {m : Nat} {cs : List AVal} {k : IntKind} {n : Int} (h0 : 0 ≤ n) (h1 : n < m) : aIdx P t h (.lit m cs) (.val (.int k n)) = some (.spot true (cs.drop n.toNat)) := by
  rw [idx_lit (S := S), if_pos ⟨h0, h1⟩]

theorem idx_own_ok [S : SlT P t e nb z] {id off m ext : Nat} {k : IntKind} {n : Int} (h0 : 0 ≤ n) (h1 : n < m) {cs : List AVal} (h2 : cellsAt h id ext = some cs) : aIdx P t h (.ref id off m ext) (.val (.int k n)) = some (.ptr id (off + n.toNat) ext) := by
  rw [idx_ref (S := S), if_pos ⟨h0, h1, by rw [h2]; rfl⟩]

theorem pview_spot (p : Bool) (cs : List AVal) : pview h (.spot p cs) = some cs := _root_.id rfl

theorem part_one [S : SlT P t e nb z] (cs : List AVal) : aPart P e cs = cs[0]? := by
  obtain ⟨⟨T, hT, hTe⟩, E, hE, h1, h2, h3, h4⟩ := S
  simp [aPart, hE, h2]

theorem part_ints_ok [S : SlT P t e nb z] {l : List Int} {k : Nat} (hk : k < l.length) : aPart P e ((ints l).drop k) = some (I (l.getD k 0)) := by
  rw [part_one (S := S), List.getElem?_drop, Nat.add_zero, ints_get]
  simp [hk]

theorem part_ints_zero [S : SlT P t e nb z] {l : List Int} (hk : 0 < l.length) : aPart P e (ints l) = some (I (l.getD 0 0)) := part_ints_ok (S := S) hk
theorem part_bools_ok [S : SlT P t e nb z] {l : List Bool} {k : Nat} (hk : k < l.length) : aPart P e ((bools l).drop k) = some (B (l.getD k false)) := by
  rw [part_one (S := S), List.getElem?_drop, Nat.add_zero]
  simp [bools, hk]

theorem part_bools_zero [S : SlT P t e nb z] {l : List Bool} (hk : 0 < l.length) : aPart P e (bools l) = some (B (l.getD 0 false)) := part_bools_ok (S := S) hk

theorem sview_list (p b : Bool) (n : Nat) (cs : List AVal) : sview h (.list p b n cs) = some (n, cs) := _root_.id rfl
theorem sview_lit (n : Nat) (cs : List AVal) : sview h (.lit n cs) = some (n, cs) := _root_.id rfl
theorem sview_cap0 (b : Bool) : sview h (.cap0 b) = some (0, []) := _root_.id rfl

theorem len_elem [S : SlT P t e nb z] : ∃ T, tyI P t = some T ∧ T.elem.isSome = true := by
  obtain ⟨⟨T, hT, hTe⟩, _⟩ := S
  exact ⟨T, hT, by simp [hTe]⟩

variable {dst : Option Tmp} {ty : TypeId} {pos : String} {after : Array Edge} {g : Option (Nat × Bool)} {ρ : Operand → AVal} {K : AVal → List AObj → Prop}

theorem opK_len1 [S : SlT P t e nb z] (x : Operand) : @opK P ⟨fb, fn, ff, fl, fD, fz⟩ ⟨dst, .call ⟨.builtin .len, #[x], #[t]⟩, ty, pos, after, g⟩ ρ h K = @bindK _ (sview h (ρ x)) ⟨fun r => K (.val (.int .i64 r.1)) h⟩ := by
  obtain ⟨T, hT, hs⟩ := len_elem (S := S)
  rw [opK_len]
  cases sview h (ρ x) with
  | none => rfl
  | some r => simp [hT, hs, bindK]

theorem one_parts {x : AVal} (h : x.one = true) : x.parts = some [x] := by
  cases x <;> first | rfl | (simp [AVal.one] at h; done) | skip
  case val v => cases v <;> first | rfl | (simp [AVal.one, Value.oneCell'] at h; done)

theorem fill_one : ∀ (xs : List AVal) (k : Nat) (cells : List AVal), (∀ x ∈ xs, x.one = true) → k + xs.length ≤ cells.length →
    aFill (fun i => some (i * 1, 1)) cells ((xs.zipIdx k).map fun (x, i) => (i, x)) = some (cells.take k ++ xs ++ cells.drop (k + xs.length)) := by
  intro xs
  induction xs with
  | nil => intro k cells _ _; simp [aFill]
  | cons x xs ih =>
    intro k cells h1 hl
    simp only [List.length_cons] at hl
    simp only [List.zipIdx_cons, List.map_cons, aFill, one_parts (h1 x (by simp)), Nat.mul_one, List.length_singleton]
    rw [if_pos (by simp; omega)]
    have := ih (k + 1) (splice cells k [x]) (fun y hy => h1 y (by simp [hy])) (by simp [splice]; omega)
    simp only [Nat.mul_one] at this
    rw [this]
    simp only [splice, List.length_cons]
    congr 1
    have e1 : (cells.set k x).take (k + 1) = cells.take k ++ [x] := by
      rw [List.take_add_one, List.take_set_of_le (Nat.le_refl _)]
      have : k < cells.length := by omega
      simp [this]
    have e2 : (cells.set k x).drop (k + 1 + xs.length) = cells.drop (k + (xs.length + 1)) := by
      rw [List.drop_set_of_lt (by omega)]; congr 1; omega
    rw [e1, e2]; simp

/-- All of them may stand in cells. -/
def allOne (l : List AVal) : Option (List AVal) := if l.all AVal.one then some l else none
theorem allOne_nil : allOne [] = some [] := _root_.id rfl
theorem allOne_cons {x : AVal} (hx : x.one = true) (l : List AVal) : allOne (x :: l) = (allOne l).map (x :: ·) := by
  simp only [allOne, List.all_cons, hx, Bool.true_and]
  cases l.all AVal.one <;> simp
theorem allOne_int (k : IntKind) (n : Int) (l : List AVal) : allOne (.val (.int k n) :: l) = (allOne l).map (.val (.int k n) :: ·) := allOne_cons rfl l
theorem allOne_bool (b : Bool) (l : List AVal) : allOne (.val (.bool b) :: l) = (allOne l).map (.val (.bool b) :: ·) := allOne_cons rfl l

theorem allOne_list (p b : Bool) (n : Nat) (cs l : List AVal) : allOne (.list p b n cs :: l) = (allOne l).map (.list p b n cs :: ·) := allOne_cons rfl l
/-- A literal of all its elements, in order. -/
theorem opK_lit [S : SlT P t e nb z] (n : Nat) (ps : Array (Nat × Operand)) (hn : n ≤ 16777216) (hps : ps.toList.map (·.1) = List.range n) (h0 : n ≠ 0) :
    @opK P ⟨fb, fn, ff, fl, fD, fz⟩ ⟨dst, .buildSlice t n ps, ty, pos, after, g⟩ ρ h K = @bindK _ (allOne (ps.toList.map fun p => ρ p.2)) ⟨fun l => K (.lit n l) h⟩ := by
  obtain ⟨⟨T, hT, hTe⟩, E, hE, g1, g2, g3, g4⟩ := S
  have hlen : ps.toList.length = n := by have := congrArg List.length hps; simpa using this
  have hsz : ps.size = n := by simpa using hlen
  rw [opK_buildSlice]
  simp only [aEff, hT, hTe, hE]
  have hall : (ps.toList.all fun p => (ρ p.2).one) = (ps.toList.map fun p => ρ p.2).all AVal.one := by rw [List.all_map]; rfl
  rw [hall]
  cases h1 : (ps.toList.map fun p => ρ p.2).all AVal.one with
  | false =>
    have h2 : allOne (ps.toList.map fun p => ρ p.2) = none := by simp only [allOne, h1]; rfl
    rw [h2, if_neg]
    · rfl
    · rintro ⟨_, _, _, h3⟩
      exact absurd (h3 g1) (by simp)
  | true =>
    have h2 : allOne (ps.toList.map fun p => ρ p.2) = some (ps.toList.map fun p => ρ p.2) := by simp only [allOne, h1, if_true]
    have hz : (ps.toList.map fun (i, x) => (i, ρ x)) = ((ps.toList.map fun p => ρ p.2).zipIdx 0).map fun (x, i) => (i, x) := by
      apply List.ext_getElem
      · simp
      · intro i h2 h3
        have hi : i < ps.toList.length := by simpa using h2
        have := congrArg (fun l => l[i]?) hps
        simp only [List.getElem?_map, List.getElem?_range (show i < n by omega), List.getElem?_eq_getElem hi, Option.map_some, Option.some.injEq] at this
        simp at this ⊢
        exact this
    have hf := fill_one (ps.toList.map fun p => ρ p.2) 0 (zeros E.zero (n * 1)) (List.all_eq_true.1 h1) (by simp [zeros]; omega)
    have hf' : aFill (fun i => some (i * E.size, E.size)) (zeros E.zero (n * E.size)) (ps.toList.map fun (i, x) => (i, ρ x)) = some (ps.toList.map fun p => ρ p.2) := by
      rw [g1, hz, hf]
      have : (zeros E.zero (n * 1)).drop (0 + (ps.toList.map fun p => ρ p.2).length) = [] := by
        apply List.drop_eq_nil_of_le; simp [zeros]; omega
      rw [this]; simp
    rw [if_pos ⟨by rw [g1]; omega, by rw [g4]; simp, by omega, fun _ => rfl⟩, hf', h2]
    simp [bindK, h0]

theorem opK_lit1 [S : SlT P t e nb z] (x0 : Operand) : @opK P ⟨fb, fn, ff, fl, fD, fz⟩ ⟨dst, .buildSlice t 1 #[(0, x0)], ty, pos, after, g⟩ ρ h K = @bindK _ (allOne [ρ x0]) ⟨fun l => K (.lit 1 l) h⟩ :=
  opK_lit (S := S) 1 #[(0, x0)] (by decide) rfl (by decide)
theorem opK_lit2 [S : SlT P t e nb z] (x0 x1 : Operand) : @opK P ⟨fb, fn, ff, fl, fD, fz⟩ ⟨dst, .buildSlice t 2 #[(0, x0), (1, x1)], ty, pos, after, g⟩ ρ h K = @bindK _ (allOne [ρ x0, ρ x1]) ⟨fun l => K (.lit 2 l) h⟩ :=
  opK_lit (S := S) 2 #[(0, x0), (1, x1)] (by decide) rfl (by decide)
theorem opK_lit3 [S : SlT P t e nb z] (x0 x1 x2 : Operand) : @opK P ⟨fb, fn, ff, fl, fD, fz⟩ ⟨dst, .buildSlice t 3 #[(0, x0), (1, x1), (2, x2)], ty, pos, after, g⟩ ρ h K = @bindK _ (allOne [ρ x0, ρ x1, ρ x2]) ⟨fun l => K (.lit 3 l) h⟩ :=
  opK_lit (S := S) 3 #[(0, x0), (1, x1), (2, x2)] (by decide) rfl (by decide)
theorem opK_lit4 [S : SlT P t e nb z] (x0 x1 x2 x3 : Operand) : @opK P ⟨fb, fn, ff, fl, fD, fz⟩ ⟨dst, .buildSlice t 4 #[(0, x0), (1, x1), (2, x2), (3, x3)], ty, pos, after, g⟩ ρ h K = @bindK _ (allOne [ρ x0, ρ x1, ρ x2, ρ x3]) ⟨fun l => K (.lit 4 l) h⟩ :=
  opK_lit (S := S) 4 #[(0, x0), (1, x1), (2, x2), (3, x3)] (by decide) rfl (by decide)
theorem opK_lit5 [S : SlT P t e nb z] (x0 x1 x2 x3 x4 : Operand) : @opK P ⟨fb, fn, ff, fl, fD, fz⟩ ⟨dst, .buildSlice t 5 #[(0, x0), (1, x1), (2, x2), (3, x3), (4, x4)], ty, pos, after, g⟩ ρ h K = @bindK _ (allOne [ρ x0, ρ x1, ρ x2, ρ x3, ρ x4]) ⟨fun l => K (.lit 5 l) h⟩ :=
  opK_lit (S := S) 5 #[(0, x0), (1, x1), (2, x2), (3, x3), (4, x4)] (by decide) rfl (by decide)
theorem opK_lit6 [S : SlT P t e nb z] (x0 x1 x2 x3 x4 x5 : Operand) : @opK P ⟨fb, fn, ff, fl, fD, fz⟩ ⟨dst, .buildSlice t 6 #[(0, x0), (1, x1), (2, x2), (3, x3), (4, x4), (5, x5)], ty, pos, after, g⟩ ρ h K = @bindK _ (allOne [ρ x0, ρ x1, ρ x2, ρ x3, ρ x4, ρ x5]) ⟨fun l => K (.lit 6 l) h⟩ :=
  opK_lit (S := S) 6 #[(0, x0), (1, x1), (2, x2), (3, x3), (4, x4), (5, x5)] (by decide) rfl (by decide)
theorem opK_lit7 [S : SlT P t e nb z] (x0 x1 x2 x3 x4 x5 x6 : Operand) : @opK P ⟨fb, fn, ff, fl, fD, fz⟩ ⟨dst, .buildSlice t 7 #[(0, x0), (1, x1), (2, x2), (3, x3), (4, x4), (5, x5), (6, x6)], ty, pos, after, g⟩ ρ h K = @bindK _ (allOne [ρ x0, ρ x1, ρ x2, ρ x3, ρ x4, ρ x5, ρ x6]) ⟨fun l => K (.lit 7 l) h⟩ :=
  opK_lit (S := S) 7 #[(0, x0), (1, x1), (2, x2), (3, x3), (4, x4), (5, x5), (6, x6)] (by decide) rfl (by decide)
theorem opK_lit8 [S : SlT P t e nb z] (x0 x1 x2 x3 x4 x5 x6 x7 : Operand) : @opK P ⟨fb, fn, ff, fl, fD, fz⟩ ⟨dst, .buildSlice t 8 #[(0, x0), (1, x1), (2, x2), (3, x3), (4, x4), (5, x5), (6, x6), (7, x7)], ty, pos, after, g⟩ ρ h K = @bindK _ (allOne [ρ x0, ρ x1, ρ x2, ρ x3, ρ x4, ρ x5, ρ x6, ρ x7]) ⟨fun l => K (.lit 8 l) h⟩ :=
  opK_lit (S := S) 8 #[(0, x0), (1, x1), (2, x2), (3, x3), (4, x4), (5, x5), (6, x6), (7, x7)] (by decide) rfl (by decide)

theorem opK_lit0 [S : SlT P t e nb z] : @opK P ⟨fb, fn, ff, fl, fD, fz⟩ ⟨dst, .buildSlice t 0 #[], ty, pos, after, g⟩ ρ h K = K (.cap0 false) h := by
  obtain ⟨⟨T, hT, hTe⟩, E, hE, g1, g2, g3, g4⟩ := S
  rw [opK_buildSlice]
  simp [aEff, hT, hTe, hE, g1, g4, aFill, bindK]


/-! ### the heap, read -/

def cA (o : Option AObj) (ext : Nat) : Option (List AVal) := match o with
  | some o => if o.cells.length = ext then some o.cells else none
  | none => none
theorem cellsAt_eq (id ext : Nat) : cellsAt h id ext = cA h[id]? ext := _root_.id rfl
theorem cA_ints {ty es ext : Nat} {l : List Int} (hl : l.length = ext) : cA (some ⟨ty, es, ints l⟩) ext = some (ints l) := by simp [cA, ints_length, hl]
theorem cA_bools {ty es ext : Nat} {l : List Bool} (hl : l.length = ext) : cA (some ⟨ty, es, bools l⟩) ext = some (bools l) := by simp [cA, bools_length, hl]
theorem cA_1 {ty es : Nat} (a : AVal) : cA (some ⟨ty, es, [a]⟩) 1 = some [a] := _root_.id rfl
theorem cA_2 {ty es : Nat} (a b : AVal) : cA (some ⟨ty, es, [a, b]⟩) 2 = some [a, b] := _root_.id rfl
theorem cA_3 {ty es : Nat} (a b c : AVal) : cA (some ⟨ty, es, [a, b, c]⟩) 3 = some [a, b, c] := _root_.id rfl
theorem cA_4 {ty es : Nat} (a b c d : AVal) : cA (some ⟨ty, es, [a, b, c, d]⟩) 4 = some [a, b, c, d] := _root_.id rfl
theorem cA_5 {ty es : Nat} (a b c d f : AVal) : cA (some ⟨ty, es, [a, b, c, d, f]⟩) 5 = some [a, b, c, d, f] := _root_.id rfl
theorem cA_6 {ty es : Nat} (a b c d f g : AVal) : cA (some ⟨ty, es, [a, b, c, d, f, g]⟩) 6 = some [a, b, c, d, f, g] := _root_.id rfl
theorem cA_7 {ty es : Nat} (a b c d f g i : AVal) : cA (some ⟨ty, es, [a, b, c, d, f, g, i]⟩) 7 = some [a, b, c, d, f, g, i] := _root_.id rfl
theorem hAt_app (k : Nat) (r : List AObj) : (h ++ r)[h.length + k]? = r[k]? := by rw [List.getElem?_append_right (by omega)]; congr 1; omega
theorem hAt_app0 (r : List AObj) : (h ++ r)[h.length]? = r[0]? := hAt_app 0 r
theorem hAt_low {k : Nat} (r : List AObj) (hk : k < h.length) : (h ++ r)[k]? = h[k]? := List.getElem?_append_left hk
theorem hSet_app (k : Nat) (o : AObj) (r : List AObj) : (h ++ r).set (h.length + k) o = h ++ r.set k o := by rw [List.set_append_right _ _ (by omega)]; congr 2; omega
theorem hSet_app0 (o : AObj) (r : List AObj) : (h ++ r).set h.length o = h ++ r.set 0 o := hSet_app 0 o r
theorem hSet_low {k : Nat} (o : AObj) (r : List AObj) (hk : k < h.length) : (h ++ r).set k o = h.set k o ++ r := List.set_append_left _ _ hk

theorem sview_ref (id off n ext : Nat) : sview h (.ref id off n ext) = (cA h[id]? ext).map fun cs => (n, cs.drop off) := _root_.id rfl
theorem pview_ptr (id off ext : Nat) : pview h (.ptr id off ext) = (cA h[id]? ext).map (·.drop off) := _root_.id rfl
theorem sview_res (k : Nat) : sview h (.res k) = some (0, []) := _root_.id rfl

/-! ### structs -/

def fOff (P : Program) (s f : Nat) : Option Nat := match tyI P s with
  | some T => match T.fields[f]? with
    | some (off, ft) => match tyI P ft with
      | some F => if F.size = 0 then none else some off
      | none => none
    | none => none
  | none => none
def fX (o : Option Nat) (h : List AObj) (x : AVal) : Option AVal := match o with
  | some off => match x with
    | .spot p cs => some (.spot p (cs.drop off))
    | .ptr id o ext => if (cellsAt h id ext).isSome then some (.ptr id (o + off) ext) else none
    | _ => none
  | none => none
theorem aField_eq (s f : Nat) (x : AVal) : aField P s x f h = fX (fOff P s f) h x := by
  unfold aField fX fOff
  cases tyI P s with
  | none => rfl
  | some T =>
    simp only
    cases T.fields[f]? with
    | none => rfl
    | some p =>
      simp only
      cases tyI P p.2 with
      | none => rfl
      | some F => simp only; split <;> rfl
theorem fX_spot (off : Nat) (p : Bool) (cs : List AVal) : fX (some off) h (.spot p cs) = some (.spot p (cs.drop off)) := _root_.id rfl
theorem fX_ptr (off id o ext : Nat) : fX (some off) h (.ptr id o ext) = (cA h[id]? ext).map fun _ => .ptr id (o + off) ext := by
  simp only [fX, cellsAt_eq]; cases cA h[id]? ext <;> rfl

/-- Whether a type's values are aggregates, and how many cells they take. -/
def agT (P : Program) (t : Nat) : Option (Bool × Nat) := (tyI P t).map fun T => (T.agg, T.size)
def pX (o : Option (Bool × Nat)) (cs : List AVal) : Option AVal := match o with
  | some (g, n) => if g then (if n ≤ cs.length then some (.agg (cs.take n)) else none) else cs[0]?
  | none => none
theorem aPart_eq (t : Nat) (cs : List AVal) : aPart P t cs = pX (agT P t) cs := by
  unfold aPart pX agT
  cases tyI P t <;> rfl
theorem pX_one (n : Nat) (cs : List AVal) : pX (some (false, n)) cs = cs[0]? := _root_.id rfl
theorem pX_agg (n : Nat) (cs : List AVal) : pX (some (true, n)) cs = if n ≤ cs.length then some (.agg (cs.take n)) else none := _root_.id rfl
theorem get_ints {l : List Int} {k : Nat} (hk : k < l.length) : ((ints l).drop k)[0]? = some (I (l.getD k 0)) := by
  rw [List.getElem?_drop, Nat.add_zero, ints_get]; simp [hk]
theorem get_ints0 {l : List Int} (hk : 0 < l.length) : (ints l)[0]? = some (I (l.getD 0 0)) := get_ints hk
theorem get_bools {l : List Bool} {k : Nat} (hk : k < l.length) : ((bools l).drop k)[0]? = some (B (l.getD k false)) := by
  rw [List.getElem?_drop, Nat.add_zero, bools_get]; simp [hk]
theorem get_bools0 {l : List Bool} (hk : 0 < l.length) : (bools l)[0]? = some (B (l.getD 0 false)) := get_bools hk

def sX (o : Option (Bool × Nat)) (h : List AObj) (id off ext : Nat) (ob : Option AObj) (ps : Option (List AVal)) : Option (List AObj) := match o, ps with
  | some (_, n), some vs => match ob with
    | some o => if o.ty ≠ FZ ∧ o.cells.length = ext ∧ vs.length = n ∧ off + vs.length ≤ ext ∧ vs.all AVal.one = true then some (h.set id ⟨o.ty, o.es, splice o.cells off vs⟩) else none
    | none => none
  | _, _ => none
theorem aStore_eq (t id off ext : Nat) (v : AVal) : aStore P t h (.ptr id off ext) v = sX (agT P t) h id off ext h[id]? v.parts := by
  unfold aStore sX agT
  cases tyI P t with
  | none => rfl
  | some T =>
    cases v.parts with
    | none => rfl
    | some vs =>
      simp only [Option.map_some]
      cases h[id]? <;> rfl
theorem sX_mk {g : Bool} {n id off ext ty es : Nat} {cs vs : List AVal} (hty : ty ≠ 1000003) : sX (some (g, n)) h id off ext (some ⟨ty, es, cs⟩) (some vs) = if cs.length = ext ∧ vs.length = n ∧ off + vs.length ≤ ext ∧ vs.all AVal.one = true then some (h.set id ⟨ty, es, splice cs off vs⟩) else none := by simp [sX, hty]
theorem sX_cons {g : Bool} {n id off ext ty es : Nat} {a : AVal} {r vs : List AVal} (hty : ty ≠ 1000003) : sX (some (g, n)) h id off ext (some ⟨ty, es, a :: r⟩) (some vs) = if (a :: r).length = ext ∧ vs.length = n ∧ off + vs.length ≤ ext ∧ vs.all AVal.one = true then some (h.set id ⟨ty, es, splice (a :: r) off vs⟩) else none := sX_mk hty
theorem ints_set (l : List Int) (k : Nat) (x : Int) : (ints l).set k (I x) = ints (l.set k x) := by simp [ints, List.map_set]
theorem bools_set (l : List Bool) (k : Nat) (x : Bool) : (bools l).set k (B x) = bools (l.set k x) := by simp [bools, List.map_set]
theorem sX_int {g : Bool} {id k ext ty es : Nat} {l : List Int} {x : Int} (hty : ty ≠ 1000003) (hl : l.length = ext) (hk : k < ext) : sX (some (g, 1)) h id k ext (some ⟨ty, es, ints l⟩) (some [.val (.int .i64 x)]) = some (h.set id ⟨ty, es, ints (l.set k x)⟩) := by
  rw [sX_mk hty, if_pos ⟨by rw [ints_length]; exact hl, by simp, by simp; omega, by simp [AVal.one, Value.oneCell']⟩]
  simp only [splice]; rw [← ints_set]
theorem sX_bool {g : Bool} {id k ext ty es : Nat} {l : List Bool} {x : Bool} (hty : ty ≠ 1000003) (hl : l.length = ext) (hk : k < ext) : sX (some (g, 1)) h id k ext (some ⟨ty, es, bools l⟩) (some [.val (.bool x)]) = some (h.set id ⟨ty, es, bools (l.set k x)⟩) := by
  rw [sX_mk hty, if_pos ⟨by rw [bools_length]; exact hl, by simp, by simp; omega, by simp [AVal.one, Value.oneCell']⟩]
  simp only [splice]; rw [← bools_set]
theorem splice_1 (cs : List AVal) (off : Nat) (v : AVal) : splice cs off [v] = cs.set off v := _root_.id rfl
theorem splice_2 (cs : List AVal) (off : Nat) (a b : AVal) (r : List AVal) : splice cs off (a :: b :: r) = cs.take off ++ (a :: b :: r) ++ cs.drop (off + (r.length + 2)) := _root_.id rfl

theorem parts_int (k : IntKind) (n : Int) : AVal.parts (.val (.int k n)) = some [.val (.int k n)] := _root_.id rfl
theorem parts_bool (b : Bool) : AVal.parts (.val (.bool b)) = some [.val (.bool b)] := _root_.id rfl
theorem parts_str (s : ByteArray) : AVal.parts (.val (.string s)) = some [.val (.string s)] := _root_.id rfl
theorem parts_agg (cs : List AVal) : AVal.parts (.agg cs) = some cs := _root_.id rfl
theorem parts_list (p b : Bool) (n : Nat) (cs : List AVal) : AVal.parts (.list p b n cs) = some [.list p b n cs] := _root_.id rfl
theorem parts_ref (id off n ext : Nat) : AVal.parts (.ref id off n ext) = some [.ref id off n ext] := _root_.id rfl
theorem parts_ptr (id off ext : Nat) : AVal.parts (.ptr id off ext) = some [.ptr id off ext] := _root_.id rfl
theorem parts_cap0 (b : Bool) : AVal.parts (.cap0 b) = some [.cap0 b] := _root_.id rfl
theorem parts_res (k : Nat) : AVal.parts (.res k) = some [.res k] := _root_.id rfl
theorem parts_lit (n : Nat) (cs : List AVal) : AVal.parts (.lit n cs) = some [.lit n cs] := _root_.id rfl
theorem parts_spot (p : Bool) (cs : List AVal) : AVal.parts (.spot p cs) = some [.spot p cs] := _root_.id rfl
theorem parts_func (fn : Fn) (fs cs : List AVal) : AVal.parts (.func fn fs cs) = some [.func fn fs cs] := _root_.id rfl
theorem one_int (k : IntKind) (n : Int) : AVal.one (.val (.int k n)) = true := _root_.id rfl
theorem one_bool (b : Bool) : AVal.one (.val (.bool b)) = true := _root_.id rfl
theorem one_str (s : ByteArray) : AVal.one (.val (.string s)) = true := _root_.id rfl
theorem one_list (p b : Bool) (n : Nat) (cs : List AVal) : AVal.one (.list p b n cs) = true := _root_.id rfl
theorem one_ref (id off n ext : Nat) : AVal.one (.ref id off n ext) = true := _root_.id rfl
theorem one_ptr (id off ext : Nat) : AVal.one (.ptr id off ext) = true := _root_.id rfl
theorem one_cap0 (b : Bool) : AVal.one (.cap0 b) = true := _root_.id rfl
theorem one_res (k : Nat) : AVal.one (.res k) = true := _root_.id rfl
theorem one_lit (n : Nat) (cs : List AVal) : AVal.one (.lit n cs) = true := _root_.id rfl
theorem one_spot (p : Bool) (cs : List AVal) : AVal.one (.spot p cs) = true := _root_.id rfl
theorem one_func (fn : Fn) (fs cs : List AVal) : AVal.one (.func fn fs cs) = true := _root_.id rfl

/-- The places of a struct's fields, and its zero cells. -/
def flT (P : Program) (t : Nat) : Option (List (Nat × Nat) × List AVal) := match tyI P t with
  | some T => match T.arr with
    | some (n, e) => (sizeAt P e).map fun s => ((List.range n).map fun i => (i * s, s), T.zero.map ofCell)
    | none => if T.fields = [] ∨ T.fields.all (fun f => (sizeAt P f.2).isSome) = false then none else some (T.fields.map (fun f => (f.1, (sizeAt P f.2).getD 0)), T.zero.map ofCell)
  | none => none
def bX (o : Option (List (Nat × Nat) × List AVal)) (parts : List (Nat × AVal)) : Option AVal := match o with
  | some (fl, z) => (aFill (fun i => fl[i]?) z parts).map .agg
  | none => none
theorem aFill_congr {p q : Nat → Option (Nat × Nat)} (h : ∀ i, p i = q i) : aFill p = aFill q := by rw [funext h]
theorem aBuild_eq (t : Nat) (parts : List (Nat × AVal)) : aBuild P t parts = bX (flT P t) parts := by
  unfold aBuild bX flT
  cases tyI P t with
  | none => rfl
  | some T =>
    cases harr : T.arr with
    | some ne =>
      obtain ⟨n, e⟩ := ne
      cases hs : sizeAt P e with
      | none => simp only [harr, hs]; rfl
      | some s =>
        simp only [harr, hs, Option.map_some]
        congr 1
        refine congrFun (congrFun (aFill_congr fun i => ?_) _) _
        rw [List.getElem?_map]
        by_cases hi : i < n
        · rw [if_pos hi, List.getElem?_range hi]; rfl
        · rw [if_neg hi, List.getElem?_eq_none (by simpa using hi)]; rfl
    | none =>
      simp only [harr]
      by_cases hc : T.fields = [] ∨ (T.fields.all fun f => (sizeAt P f.2).isSome) = false
      · rw [if_pos hc, if_pos hc]
      · rw [if_neg hc, if_neg hc]
        simp only [not_or, Bool.not_eq_false, List.all_eq_true] at hc
        simp only
        congr 1
        refine congrFun (congrFun (aFill_congr fun i => ?_) _) _
        rw [List.getElem?_map]
        cases hf : T.fields[i]? with
        | none => rfl
        | some f =>
          have := hc.2 f (List.mem_of_getElem? hf)
          obtain ⟨s, hs⟩ := Option.isSome_iff_exists.1 this
          simp [hs]
/-- The places of a literal's elements of more than one cell, and its zero cells. -/
def litT (P : Program) (t n : Nat) : Option (List (Nat × Nat) × List AVal) := match tyI P t with
  | some T => match T.elem with
    | some e => match tyI P e with
      | some E => if n * E.size ≤ 16777216 ∧ 0 < E.zero.length ∧ 1 < E.size ∧ n ≠ 0 then some ((List.range n).map fun i => (i * E.size, E.size), zeros E.zero (n * E.size)) else none
      | none => none
    | none => none
  | none => none
class LitT (P : Program) (t n : Nat) (fl : outParam (List (Nat × Nat))) (z : outParam (List AVal)) : Prop where
  h : litT P t n = some (fl, z)
theorem aFill_lt {n s : Nat} (hs : 0 < s) : ∀ (parts : List (Nat × AVal)) (cells : List AVal), cells.length = n * s → aFill (fun i => some (i * s, s)) cells parts = aFill (fun i => ((List.range n).map fun i => (i * s, s))[i]?) cells parts
  | [], _, _ => rfl
  | (i, v) :: rest, cells, hl => by
    simp only [aFill]
    cases hp : v.parts with
    | none => cases ((List.range n).map fun i => (i * s, s))[i]? <;> rfl
    | some vs =>
      by_cases hi : i < n
      · rw [List.getElem?_map, List.getElem?_range hi]
        simp only [Option.map_some]
        split
        · rename_i hc
          exact aFill_lt hs rest _ (by rw [splice_length _ _ _ hc.2]; exact hl)
        · rfl
      · rw [List.getElem?_eq_none (by simpa using hi)]
        simp only
        rw [if_neg]
        rintro ⟨h1, h2⟩
        rw [hl, h1] at h2
        have : n * s ≤ i * s := Nat.mul_le_mul_right _ (by omega)
        omega
theorem zeros_len (z : List Value) (n : Nat) : (zeros z n).length = n := by simp [zeros]
/-- A literal of elements of more than one cell. -/
theorem opK_litM {n : Nat} {fls : List (Nat × Nat)} {zc : List AVal} [L : LitT P t n fls zc] (ps : Array (Nat × Operand)) :
    @opK P ⟨fb, fn, ff, fl, fD, fz⟩ ⟨dst, .buildSlice t n ps, ty, pos, after, g⟩ ρ h K = @bindK _ (aFill (fun i => fls[i]?) zc (ps.toList.map fun p => (p.1, ρ p.2))) ⟨fun l => K (.lit n l) h⟩ := by
  obtain ⟨hl⟩ := L
  unfold litT at hl
  rw [opK_buildSlice]
  split at hl
  · rename_i T hT
    split at hl
    · rename_i e hTe
      split at hl
      · rename_i E hE
        split at hl
        · rename_i hc
          simp only [Option.some.injEq, Prod.mk.injEq] at hl
          obtain ⟨rfl, rfl⟩ := hl
          simp only [aEff, hT, hTe, hE]
          rw [if_pos ⟨hc.1, hc.2.1, by omega, by omega⟩, aFill_lt (n := n) (by omega) _ _ (zeros_len _ _)]
          simp only [if_neg hc.2.2.2]
          cases aFill (fun i => ((List.range n).map fun i => (i * E.size, E.size))[i]?) (zeros E.zero (n * E.size)) (ps.toList.map fun p => (p.1, ρ p.2)) <;> rfl
        · cases hl
      · cases hl
    · cases hl
  · cases hl

/-- Slices of elements of more than one cell. -/
class SlM (P : Program) (t : Nat) (s : outParam Nat) : Prop where
  h : ((tyI P t).bind fun T => T.elem).bind (fun e => (tyI P e).map fun E => E.size) = some s
theorem SlM.ex {n : Nat} [S : SlM P t n] : ∃ T e E, tyI P t = some T ∧ T.elem = some e ∧ tyI P e = some E ∧ E.size = n := by
  obtain ⟨hs⟩ := S
  cases hT : tyI P t with
  | none => simp [hT] at hs
  | some T =>
    cases he : T.elem with
    | none => simp [hT, he] at hs
    | some e =>
      cases hE : tyI P e with
      | none => simp [hT, he, hE] at hs
      | some E => simp [hT, he, hE] at hs; exact ⟨T, e, E, rfl, he, hE, hs⟩
theorem idxM_list {s : Nat} [S : SlM P t s] {p b : Bool} {m : Nat} {cs : List AVal} {k : IntKind} {n : Int} (h0 : 0 ≤ n) (h1 : n < m) : aIdx P t h (.list p b m cs) (.val (.int k n)) = some (.spot p (cs.drop (n.toNat * s))) := by
  obtain ⟨T, e, E, hT, he, hE, hs⟩ := S.ex
  simp only [aIdx, hT, he, hE]
  rw [if_pos ⟨h0, h1⟩, hs]
theorem idxM_lit {s : Nat} [S : SlM P t s] {m : Nat} {cs : List AVal} {k : IntKind} {n : Int} (h0 : 0 ≤ n) (h1 : n < m) : aIdx P t h (.lit m cs) (.val (.int k n)) = some (.spot true (cs.drop (n.toNat * s))) := by
  obtain ⟨T, e, E, hT, he, hE, hs⟩ := S.ex
  simp only [aIdx, hT, he, hE]
  rw [if_pos ⟨h0, h1⟩, hs]
theorem lenM {s : Nat} [S : SlM P t s] (x : Operand) : @opK P ⟨fb, fn, ff, fl, fD, fz⟩ ⟨dst, .call ⟨.builtin .len, #[x], #[t]⟩, ty, pos, after, g⟩ ρ h K = @bindK _ (sview h (ρ x)) ⟨fun r => K (.val (.int .i64 r.1)) h⟩ := by
  obtain ⟨T, e, E, hT, he, hE, hs⟩ := S.ex
  rw [opK_len]
  cases sview h (ρ x) with
  | none => rfl
  | some r => simp [hT, he, bindK]

/-- Rows of numbers compared. -/
class NumT (P : Program) (t : Nat) (n : outParam Nat) : Prop where
  h : numCells P t = some n
theorem eqlAgg {n : Nat} [S : NumT P t n] (xs ys : List AVal) : aBin P t .eql (.agg xs) (.agg ys) = if n = xs.length then (eqInts xs ys).map (fun e => .val (.bool e)) else none := by
  obtain ⟨hs⟩ := S
  simp only [aBin, hs, Option.some.injEq]
  split
  · cases eqInts xs ys <;> rfl
  · rfl
theorem neqAgg {n : Nat} [S : NumT P t n] (xs ys : List AVal) : aBin P t .neq (.agg xs) (.agg ys) = if n = xs.length then (eqInts xs ys).map (fun e => .val (.bool (!e))) else none := by
  obtain ⟨hs⟩ := S
  simp only [aBin, hs, Option.some.injEq]
  split
  · cases eqInts xs ys <;> rfl
  · rfl
theorem eqInts_nil : eqInts [] [] = some true := _root_.id rfl
theorem eqInts_cons (k : IntKind) (a b : Int) (r r' : List AVal) : eqInts (.val (.int k a) :: r) (.val (.int k b) :: r') = (eqInts r r').map fun e => (a == b) && e := by simp [eqInts]

theorem bX_mk (fl : List (Nat × Nat)) (z : List AVal) (parts : List (Nat × AVal)) : bX (some (fl, z)) parts = (aFill (fun i => fl[i]?) z parts).map .agg := _root_.id rfl
def fiX (p : Option (Nat × Nat)) (vs : Option (List AVal)) (fl : List (Nat × Nat)) (cells : List AVal) (rest : List (Nat × AVal)) : Option (List AVal) := match p, vs with
  | some (off, size), some vs => if vs.length = size ∧ off + vs.length ≤ cells.length then aFill (fun i => fl[i]?) (splice cells off vs) rest else none
  | _, _ => none
theorem aFill_nil (fl : List (Nat × Nat)) (cells : List AVal) : aFill (fun i => fl[i]?) cells [] = some cells := _root_.id rfl
theorem aFill_cons (fl : List (Nat × Nat)) (cells : List AVal) (i : Nat) (v : AVal) (rest : List (Nat × AVal)) : aFill (fun i => fl[i]?) cells ((i, v) :: rest) = fiX fl[i]? v.parts fl cells rest := by
  simp only [aFill, fiX]; rfl
theorem fiX_mk (off size : Nat) (vs : List AVal) (fl : List (Nat × Nat)) (cells : List AVal) (rest : List (Nat × AVal)) : fiX (some (off, size)) (some vs) fl cells rest = if vs.length = size ∧ off + vs.length ≤ cells.length then aFill (fun i => fl[i]?) (splice cells off vs) rest else none := _root_.id rfl

/-- A type's zero cells. -/
def zT (P : Program) (t : Nat) : Option (List AVal × Nat) := match tyI P t with
  | some T => if T.zero.length = T.size ∧ T.size ≠ 0 then some (T.zero.map ofCell, T.size) else none
  | none => none
def alX (o : Option (List AVal × Nat)) (t : Nat) (h : List AObj) : Option (AVal × List AObj) := match o with
  | some (z, n) => some (.ptr h.length 0 n, h ++ [⟨t, n, z⟩])
  | none => none
theorem alX_mk (z : List AVal) (n t : Nat) : alX (some (z, n)) t h = some (.ptr h.length 0 n, h ++ [⟨t, n, z⟩]) := _root_.id rfl
def boX (o : Option (Bool × Nat)) (ps : Option (List AVal)) (t : Nat) (h : List AObj) : Option (AVal × List AObj) := match o, ps with
  | some (_, n), some vs => if vs.length = n ∧ n ≠ 0 then some (.ptr h.length 0 n, h ++ [⟨t, n, vs⟩]) else none
  | _, _ => none
theorem boX_mk (g : Bool) (n t : Nat) (vs : List AVal) : boX (some (g, n)) (some vs) t h = if vs.length = n ∧ n ≠ 0 then some (.ptr h.length 0 n, h ++ [⟨t, n, vs⟩]) else none := _root_.id rfl

theorem opK_alloc (t : TypeId) : @opK P ⟨fb, fn, ff, fl, fD, fz⟩ ⟨dst, .alloc t, ty, pos, after, g⟩ ρ h K = @bindK _ (alX (zT P t) t h) ⟨fun r => K r.1 r.2⟩ := by
  rw [opK_eff rfl rfl rfl rfl rfl rfl]
  congr 1
  simp only [aEff, zT]
  cases tyI P t with
  | none => rfl
  | some T => simp only; split <;> rfl
/-- A variable that nothing writes any more. -/
def boF (b : Bool) (o : Option (Bool × Nat)) (ps : Option (List AVal)) (t : Nat) (h : List AObj) : Option (AVal × List AObj) := match b with
  | false => boX o ps t h
  | true => match o, ps with
    | some (_, n), some vs => if vs.length = n ∧ n ≠ 0 then some (.spot true vs, h) else none
    | _, _ => none
theorem boF_false (o : Option (Bool × Nat)) (ps : Option (List AVal)) (t : Nat) (h : List AObj) : boF false o ps t h = boX o ps t h := _root_.id rfl
theorem boF_mk (g : Bool) (n t : Nat) (vs : List AVal) (h : List AObj) : boF true (some (g, n)) (some vs) t h = if vs.length = n ∧ n ≠ 0 then some (.spot true vs, h) else none := _root_.id rfl
theorem opK_box (t : TypeId) (x : Operand) : @opK P ⟨fb, fn, ff, fl, fD, fz⟩ ⟨dst, .box t x, ty, pos, after, g⟩ ρ h K = @bindK _ (boF (ff x) (agT P t) (ρ x).parts t h) ⟨fun r => K r.1 r.2⟩ := by
  have h4 : frzOp ⟨fb, fn, ff, fl, fD, fz⟩ (.box t x) = ff x := rfl
  cases hf : ff x with
  | false =>
    rw [opK_eff rfl rfl rfl (h4.trans hf) rfl rfl]
    congr 1
    simp only [aEff, agT, boF]
    cases tyI P t with
    | none => rfl
    | some T => cases (ρ x).parts with
      | none => rfl
      | some vs => simp only [Option.map_some, boX]
  | true =>
    unfold opK
    simp only [zOp, Bool.false_eq_true, if_false, h4, hf, if_true, aFrzO, boF, agT]
    cases tyI P t with
    | none => simp [bindK]
    | some T => cases (ρ x).parts with
      | none => simp [bindK]
      | some vs =>
        simp only [Option.map_some]
        by_cases hc : vs.length = T.size ∧ T.size ≠ 0
        · rw [if_pos hc, if_pos hc]; simp [bindK]
        · rw [if_neg hc, if_neg hc]; simp [bindK]
theorem opK_build (t : TypeId) (ps : Array (Nat × Operand)) : @opK P ⟨fb, fn, ff, fl, fD, fz⟩ ⟨dst, .build t ps, ty, pos, after, g⟩ ρ h K = @bindK _ (bX (flT P t) (ps.toList.map fun p => (p.1, ρ p.2))) ⟨fun v => K v h⟩ := by
  rw [opK_eff rfl rfl rfl rfl rfl rfl]
  simp only [aEff, ← aBuild_eq]
  show @bindK _ ((aBuild P t (ps.toList.map fun p => (p.1, ρ p.2))).map fun x => (x, h)) ⟨fun r => K r.1 r.2⟩ = _
  cases aBuild P t (ps.toList.map fun p => (p.1, ρ p.2)) <;> rfl
theorem opK_fieldAddr (s : TypeId) (x : Operand) (f : Nat) : @opK P ⟨fb, fn, ff, fl, fD, fz⟩ ⟨dst, .fieldAddr s x f, ty, pos, after, g⟩ ρ h K = @bindK _ (fX (fOff P s f) h (ρ x)) ⟨fun v => K v h⟩ := by
  rw [opK_pure rfl rfl rfl rfl, ← aField_eq]; rfl
/-- The place of a struct's field, and its type. -/
def fOT (P : Program) (s f : Nat) : Option (Nat × Nat) := match tyI P s with
  | some T => T.fields[f]?
  | none => none
def faX (P : Program) (o : Option (Nat × Nat)) (x : AVal) : Option AVal := match o, x with
  | some (off, ft), .agg cs => pX (agT P ft) (cs.drop off)
  | _, _ => none
theorem opK_field (s : TypeId) (x : Operand) (f : Nat) : @opK P ⟨fb, fn, ff, fl, fD, fz⟩ ⟨dst, .field s x f, ty, pos, after, g⟩ ρ h K = @bindK _ (faX P (fOT P s f) (ρ x)) ⟨fun v => K v h⟩ := by
  rw [opK_pure rfl rfl rfl rfl]
  congr 1
  simp only [aPure, fOT, faX]
  cases tyI P s with
  | none => rfl
  | some T =>
    cases hf : T.fields[f]? with
    | none => cases ρ x <;> simp [hf]
    | some p => cases ρ x <;> simp [hf, aPart_eq]
theorem faX_mk (off ft : Nat) (cs : List AVal) : faX P (some (off, ft)) (.agg cs) = pX (agT P ft) (cs.drop off) := _root_.id rfl
theorem opK_makeFunc (fu : Fn) (a c : Array Operand) : @opK P ⟨fb, fn, ff, fl, fD, fz⟩ ⟨dst, .makeFunc fu a c, ty, pos, after, g⟩ ρ h K = @bindK _ (some (.func fu (a.toList.map ρ) (c.toList.map ρ))) ⟨fun v => K v h⟩ := _root_.id rfl
def ncX (h : List AObj) (x : AVal) : Option AVal := match x with
  | .spot p cs => some (.spot p cs)
  | .ptr id off ext => if (cellsAt h id ext).isSome then some (.ptr id off ext) else none
  | .func (.func f) a b => some (.func (.func f) a b)
  | _ => none
theorem opK_nilCheck (x : Operand) : @opK P ⟨fb, fn, ff, fl, fD, fz⟩ ⟨dst, .nilCheck x, ty, pos, after, g⟩ ρ h K = @bindK _ (ncX h (ρ x)) ⟨fun v => K v h⟩ := opK_pure rfl rfl rfl rfl
theorem ncX_spot (p : Bool) (cs : List AVal) : ncX h (.spot p cs) = some (.spot p cs) := _root_.id rfl
theorem ncX_func (f : FuncId) (a b : List AVal) : ncX h (.func (.func f) a b) = some (.func (.func f) a b) := _root_.id rfl
theorem ncX_ptr (id off ext : Nat) : ncX h (.ptr id off ext) = (cA h[id]? ext).map fun _ => .ptr id off ext := by
  simp only [ncX, cellsAt_eq]; cases cA h[id]? ext <;> rfl

/-- The type of bools. -/
def isB (P : Program) (t : Nat) : Bool := match tyI P t with
  | some T => T.isBool
  | none => false
class BoT (P : Program) (t : Nat) : Prop where
  is : isB P t = true
theorem aBin_beq {t : Nat} [S : BoT P t] (a b : Bool) : aBin P t .eql (.val (.bool a)) (.val (.bool b)) = some (.val (.bool (a == b))) := by
  have ht := S.is
  unfold isB at ht
  simp only [aBin]
  split at ht
  · rename_i T hT; simp [hT, ht]
  · cases ht
theorem aBin_bne {t : Nat} [S : BoT P t] (a b : Bool) : aBin P t .neq (.val (.bool a)) (.val (.bool b)) = some (.val (.bool (!(a == b)))) := by
  have ht := S.is
  unfold isB at ht
  simp only [aBin]
  split at ht
  · rename_i T hT; simp [hT, ht]
  · cases ht

/-! ### slices that grow -/

/-- A slice that grows out of an empty one: object k, or nothing as yet. -/
def gw (b : Bool) (k : Nat) (xs : List AVal) : AVal := match xs with
  | [] => if b then .res k else .cap0 false
  | _ :: _ => .ref k 0 xs.length xs.length
/-- Its object. -/
def go (e : TypeId) (xs : List AVal) : AObj := match xs with
  | [] => ⟨0, 0, []⟩
  | _ :: _ => ⟨e, 1, xs⟩

theorem parts_gw (b : Bool) (k : Nat) (xs : List AVal) : AVal.parts (gw b k xs) = some [gw b k xs] := by cases xs <;> cases b <;> rfl
theorem one_gw (b : Bool) (k : Nat) (xs : List AVal) : AVal.one (gw b k xs) = true := by cases xs <;> cases b <;> rfl
theorem nilB_gw (b : Bool) (k : Nat) (xs : List AVal) : nilB (gw b k xs) = some (b && xs.isEmpty) := by cases xs <;> cases b <;> rfl
theorem go_cells (e : TypeId) (xs : List AVal) : (go e xs).cells = xs := by cases xs <;> rfl

def gS (o : Option AObj) (xs : List AVal) : Option (Nat × List AVal) := match xs with
  | [] => some (0, [])
  | _ :: _ => (cA o xs.length).map fun cs => (xs.length, cs)
theorem sview_gw (b : Bool) (k : Nat) (xs : List AVal) : sview h (gw b k xs) = gS h[k]? xs := by
  cases xs <;> cases b <;> first | rfl | (simp [gw, gS, sview_ref])
theorem gS_go (e : TypeId) (xs : List AVal) : gS (some (go e xs)) xs = some (xs.length, xs) := by
  cases xs <;> simp [gS, go, cA]
theorem cA_go {e : TypeId} {xs : List AVal} {n : Nat} (hn : xs.length = n) : cA (some (go e xs)) n = some xs := by
  simp [cA, go_cells, hn]
theorem idx_gw [S : SlT P t e nb z] {b : Bool} {j : Nat} {xs : List AVal} {k : IntKind} {n : Int} (h0 : 0 ≤ n) (h1 : n < xs.length) : aIdx P t h (gw b j xs) (.val (.int k n)) = (cA h[j]? xs.length).map fun _ => .ptr j n.toNat xs.length := by
  cases xs with
  | nil => simp at h1; omega
  | cons x xr =>
    simp only [gw]
    rw [idx_ref (S := S)]
    simp only [cellsAt_eq]
    cases hc : cA h[j]? (x :: xr).length with
    | none => simp
    | some cs => rw [if_pos ⟨h0, h1, rfl⟩]; simp
theorem idx_own [S : SlT P t e nb z] {id off m ext : Nat} {k : IntKind} {n : Int} (h0 : 0 ≤ n) (h1 : n < m) : aIdx P t h (.ref id off m ext) (.val (.int k n)) = (cA h[id]? ext).map fun _ => .ptr id (off + n.toNat) ext := by
  rw [idx_ref (S := S)]
  simp only [cellsAt_eq]
  cases hc : cA h[id]? ext with
  | none => simp
  | some cs => simp [h0, h1]

theorem append_gw [S : SlT P t e nb z] {b : Bool} {k m : Nat} {xs ys : List AVal} {y : AVal} (ho : h[k]? = some (go e xs)) (hv : sview h y = some (m, ys)) (hm : m = ys.length) (c5 : ys.all AVal.one = true) (c6 : (xs.length + m) * nb ≤ 140737488355328) (c7 : xs.length + m ≤ 140737488355328) (hbt : b = true ∨ xs ≠ []) :
    aAppend P t h (gw b k xs) y = some (gw b k (xs ++ ys), h.set k (go e (xs ++ ys))) := by
  obtain ⟨⟨T, hT, hTe⟩, E, hE, g1, g2, g3, g4⟩ := S
  subst hm
  have hz : E.zero.length = E.size := by rw [g4, g1]; rfl
  have ht : ys.take ys.length = ys := List.take_of_length_le (Nat.le_refl _)
  have hk : k < h.length := (List.getElem?_eq_some_iff.1 ho).1
  simp only [aAppend, hT, hTe, hE, hv, g1, Nat.mul_one, ht]
  rw [if_pos ⟨trivial, c5, by omega, by rw [hz, g1]⟩]
  cases xs with
  | nil =>
    obtain rfl : b = true := hbt.resolve_right (fun h => h rfl)
    simp only [gw, if_true, List.nil_append]
    cases ys with
    | nil =>
      simp only [List.length_nil, if_true, gw, go]
      congr 2
      have := (List.getElem?_eq_some_iff.1 ho).2
      simp only [go] at this
      rw [← this]; simp
    | cons y0 yr =>
      rw [if_neg (by simp)]
      simp only [ho]
      rw [if_pos ⟨rfl, by rw [g3]; simpa using c6, by simpa using c7⟩]
      rfl
  | cons x xr =>
    simp only [gw, ho, List.cons_append, go]
    rw [if_pos ⟨trivial, by simp, trivial, trivial, by rw [g3]; exact c6, c7⟩]
    have e1 : (x :: (xr ++ ys)).length = (x :: xr).length + ys.length := by simp; omega
    simp only [e1, List.cons_append, g1, Nat.mul_one]

/-- One int more, a list more: of a slice that grows out of nil. -/
theorem append_int [S : SlT P t e 8 z] {k : Nat} {l : List Int} {x : Int} (ho : h[k]? = some (go e (ints l))) (hl : l.length ≤ 1000000000) :
    aAppend P t h (gw true k (ints l)) (.lit 1 [.val (.int .i64 x)]) = some (gw true k (ints (l ++ [x])), h.set k (go e (ints (l ++ [x])))) := by
  rw [append_gw (S := S) ho (sview_lit _ _) (by simp) (by simp [AVal.one, Value.oneCell']) (by rw [ints_length]; omega) (by rw [ints_length]; omega) (.inl rfl), ← ints_append]; rfl
/-- One int more, a list more: of a slice of its own object, which may be empty. -/
theorem append_refI [S : SlT P t e 8 z] {id n : Nat} {l : List Int} {x : Int} (ho : h[id]? = some ⟨e, 1, ints l⟩) (hn : l.length = n) (hl : n ≤ 1000000000) :
    aAppend P t h (.ref id 0 n n) (.lit 1 [.val (.int .i64 x)]) = some (.ref id 0 (n + 1) (n + 1), h.set id ⟨e, 1, ints (l ++ [x])⟩) := by
  obtain ⟨⟨T, hT, hTe⟩, E, hE, g1, g2, g3, g4⟩ := S
  have hz : E.zero.length = 1 := by rw [g4]; rfl
  have hli : (ints l).length = n := by rw [ints_length, hn]
  simp only [aAppend, hT, hTe, hE, sview_lit, g1, Nat.mul_one, ho]
  rw [if_pos ⟨rfl, rfl, by omega, hz⟩, if_pos ⟨hli, trivial, trivial, trivial, by rw [g3]; omega, by omega⟩]
  simp [ints]
def apRI (h : List AObj) (id n e : Nat) (x : Int) : Option AObj → Option (AVal × List AObj)
  | some o => if o.cells.length = n ∧ o.ty = e ∧ o.es = 1 then some (.ref id 0 (n + 1) (n + 1), h.set id ⟨e, 1, o.cells ++ [.val (.int .i64 x)]⟩) else none
  | none => none
theorem append_ref1 [S : SlT P t e 8 z] {id n : Nat} {x : Int} (hl : n ≤ 1000000000) : aAppend P t h (.ref id 0 n n) (.lit 1 [.val (.int .i64 x)]) = apRI h id n e x h[id]? := by
  obtain ⟨⟨T, hT, hTe⟩, E, hE, g1, g2, g3, g4⟩ := S
  have hz : E.zero.length = 1 := by rw [g4]; rfl
  simp only [aAppend, hT, hTe, hE, sview_lit, g1, Nat.mul_one]
  rw [if_pos ⟨rfl, rfl, by omega, hz⟩]
  cases ho : h[id]? with
  | none => rfl
  | some o =>
    simp only [apRI]
    by_cases hc : o.cells.length = n ∧ o.ty = e ∧ o.es = 1
    · rw [if_pos hc, if_pos ⟨hc.1, trivial, hc.2.1, hc.2.2, by rw [g3]; omega, by omega⟩, hc.2.1, hc.2.2]; rfl
    · rw [if_neg hc, if_neg]
      rintro ⟨c1, _, c2, c3, _⟩
      exact hc ⟨c1, c2, c3⟩
theorem apRI_ints {id n e : Nat} {x : Int} {l : List Int} (hn : l.length = n) : apRI h id n e x (some ⟨e, 1, ints l⟩) = some (.ref id 0 (n + 1) (n + 1), h.set id ⟨e, 1, ints (l ++ [x])⟩) := by
  simp only [apRI]
  rw [if_pos (by simp [ints, hn])]
  simp [ints]
def apRX (h : List AObj) (id n e : Nat) (x : AVal) : Option AObj → Option (AVal × List AObj)
  | some o => if o.cells.length = n ∧ o.ty = e ∧ o.es = 1 then some (.ref id 0 (n + 1) (n + 1), h.set id ⟨e, 1, o.cells ++ [x]⟩) else none
  | none => none
theorem append_refX [S : SlT P t e nb z] {id n : Nat} {x : AVal} (hnb : nb ≤ 24) (hx : x.one = true) (hl : n ≤ 1000000000) : aAppend P t h (.ref id 0 n n) (.lit 1 [x]) = apRX h id n e x h[id]? := by
  obtain ⟨⟨T, hT, hTe⟩, E, hE, g1, g2, g3, g4⟩ := S
  have hz : E.zero.length = 1 := by rw [g4]; rfl
  have hb : (n + 1) * E.bytes ≤ 140737488355328 := by
    have : (n + 1) * E.bytes ≤ 1000000001 * 24 := Nat.mul_le_mul (by omega) (by omega)
    omega
  simp only [aAppend, hT, hTe, hE, sview_lit, g1, Nat.mul_one]
  rw [if_pos ⟨rfl, by simp [hx], by omega, hz⟩]
  cases ho : h[id]? with
  | none => rfl
  | some o =>
    simp only [apRX]
    by_cases hc : o.cells.length = n ∧ o.ty = e ∧ o.es = 1
    · rw [if_pos hc, if_pos ⟨hc.1, trivial, hc.2.1, hc.2.2, hb, by omega⟩, hc.2.1, hc.2.2]; rfl
    · rw [if_neg hc, if_neg]
      rintro ⟨c1, _, c2, c3, _⟩
      exact hc ⟨c1, c2, c3⟩
theorem append_refB [S : SlT P t e 1 z] {id n : Nat} {x : Bool} (hl : n ≤ 1000000000) : aAppend P t h (.ref id 0 n n) (.lit 1 [.val (.bool x)]) = apRX h id n e (.val (.bool x)) h[id]? := append_refX (S := S) (by omega) rfl hl
theorem apRX_bools {id n e : Nat} {x : Bool} {l : List Bool} (hn : l.length = n) : apRX h id n e (.val (.bool x)) (some ⟨e, 1, bools l⟩) = some (.ref id 0 (n + 1) (n + 1), h.set id ⟨e, 1, bools (l ++ [x])⟩) := by
  simp only [apRX]
  rw [if_pos (by simp [bools, hn])]
  simp [bools]
theorem append_bool [S : SlT P t e 1 z] {k : Nat} {l : List Bool} {x : Bool} (ho : h[k]? = some (go e (bools l))) (hl : l.length ≤ 1000000000) :
    aAppend P t h (gw true k (bools l)) (.lit 1 [.val (.bool x)]) = some (gw true k (bools (l ++ [x])), h.set k (go e (bools (l ++ [x])))) := by
  rw [append_gw (S := S) ho (sview_lit _ _) (by simp) (by simp [AVal.one, Value.oneCell']) (by rw [bools_length]; omega) (by rw [bools_length]; omega) (.inl rfl), ← bools_append]; rfl
theorem append_one [S : SlT P t e nb z] {k : Nat} {xs : List AVal} {x : AVal} (ho : h[k]? = some (go e xs)) (hx : x.one = true) (hl : xs.length ≤ 1000000000) (hnb : nb ≤ 24) :
    aAppend P t h (gw true k xs) (.lit 1 [x]) = some (gw true k (xs ++ [x]), h.set k (go e (xs ++ [x]))) := by
  have : (xs.length + 1) * nb ≤ 1000000001 * 24 := Nat.mul_le_mul (by omega) hnb
  rw [append_gw (S := S) ho (sview_lit _ _) (by simp) (by simp [hx]) (by omega) (by omega) (.inl rfl)]
theorem append_list [S : SlT P t e 24 z] {k : Nat} {xs : List AVal} {p b : Bool} {n : Nat} {cs : List AVal} (ho : h[k]? = some (go e xs)) (hl : xs.length ≤ 1000000000) :
    aAppend P t h (gw true k xs) (.lit 1 [.list p b n cs]) = some (gw true k (xs ++ [.list p b n cs]), h.set k (go e (xs ++ [.list p b n cs]))) := append_one (S := S) ho rfl hl (by omega)
/-- A copy, or a first piece. -/
theorem append_cw [S : SlT P t e nb z] {b : Bool} {y : AVal} {m : Nat} {ys : List AVal} (hv : sview h y = some (m, ys)) (hm : m = ys.length) (hone : ys.all AVal.one = true) (hb : m * nb ≤ 140737488355328) (hb2 : m ≤ 140737488355328) :
    aAppend P t h (.cap0 b) y = some (gw b h.length ys, h ++ [go e ys]) := by
  obtain ⟨⟨T, hT, hTe⟩, E, hE, g1, g2, g3, g4⟩ := S
  subst hm
  have ht : ys.take ys.length = ys := List.take_of_length_le (Nat.le_refl _)
  simp only [aAppend, hT, hTe, hE, hv, g1, Nat.mul_one, ht]
  rw [if_pos ⟨trivial, hone, by omega, by rw [g4]; rfl⟩]
  cases ys with
  | nil => cases b <;> rfl
  | cons x xr =>
    rw [if_neg (by simp), if_pos ⟨by rw [g3]; exact hb, hb2⟩]
    simp [gw, go]
theorem copy_ints [S : SlT P t e 8 z] {b p q : Bool} {n : Nat} {l : List Int} (hn : n = l.length) (hl : l.length ≤ 1000000000000) : aAppend P t h (.cap0 b) (.list p q n (ints l)) = some (gw b h.length (ints l), h ++ [go e (ints l)]) :=
  append_cw (S := S) (sview_list _ _ _ _) (by rw [ints_length]; exact hn) (ints_one l) (by omega) (by omega)
theorem copy_bools [S : SlT P t e 1 z] {b p q : Bool} {n : Nat} {l : List Bool} (hn : n = l.length) (hl : l.length ≤ 1000000000000) : aAppend P t h (.cap0 b) (.list p q n (bools l)) = some (gw b h.length (bools l), h ++ [go e (bools l)]) :=
  append_cw (S := S) (sview_list _ _ _ _) (by rw [bools_length]; exact hn) (bools_one l) (by omega) (by omega)

/-- A copy that nothing writes any more. -/
theorem frz_cw [S : SlT P t e nb z] {b : Bool} {y : AVal} {m : Nat} {ys : List AVal} (hv : sview h y = some (m, ys)) (hm : m = ys.length) (hone : ys.all AVal.one = true) (hb : m * nb ≤ 140737488355328) (hb2 : m ≤ 140737488355328) :
    aFrz P t h (.cap0 b) y = some (.list true (b && ys.isEmpty) m ys) := by
  obtain ⟨⟨T, hT, hTe⟩, E, hE, g1, g2, g3, g4⟩ := S
  subst hm
  have ht : ys.take ys.length = ys := List.take_of_length_le (Nat.le_refl _)
  simp only [aFrz, hT, hTe, hE, hv, g1, Nat.mul_one, ht]
  rw [if_pos ⟨trivial, hone, by omega, by rw [g4]; rfl⟩]
  cases ys with
  | nil => cases b <;> rfl
  | cons x xr =>
    rw [if_neg (by simp), if_pos ⟨by rw [g3]; exact hb, hb2⟩]
    simp
theorem frz_ints [S : SlT P t e 8 z] {p q : Bool} {n : Nat} {l : List Int} (hn : n = l.length) (hl : l.length ≤ 1000000000000) : aFrz P t h (.cap0 false) (.list p q n (ints l)) = some (.list true false n (ints l)) :=
  frz_cw (S := S) (sview_list _ _ _ _) (by rw [ints_length]; exact hn) (ints_one l) (by omega) (by omega)
theorem frz_bools [S : SlT P t e 1 z] {p q : Bool} {n : Nat} {l : List Bool} (hn : n = l.length) (hl : l.length ≤ 1000000000000) : aFrz P t h (.cap0 false) (.list p q n (bools l)) = some (.list true false n (bools l)) :=
  frz_cw (S := S) (sview_list _ _ _ _) (by rw [bools_length]; exact hn) (bools_one l) (by omega) (by omega)

theorem make_one [S : SlT P t e nb z] {k k' : IntKind} {a b : Int} (h0 : 0 ≤ a) (h1 : a ≤ b) (h2 : b ≤ 1000000000000) (hnb : nb ≤ 24) :
    aMake P t h (.val (.int k a)) (.val (.int k' b)) = some (.ref h.length 0 a.toNat a.toNat, h ++ [⟨e, 1, List.replicate a.toNat (ofCell z)⟩]) := by
  obtain ⟨⟨T, hT, hTe⟩, E, hE, g1, g2, g3, g4⟩ := S
  simp only [aMake, hT, hTe, hE, g4]
  have : (nb : Int) * b ≤ 24 * 1000000000000 := Int.mul_le_mul (by omega) h2 (by omega) (by omega)
  rw [if_pos ⟨g1, h0, h1, by rw [g3]; omega, by omega⟩]
theorem make_int [S : SlT P t e 8 (.int .i64 0)] {k k' : IntKind} {a b : Int} (h0 : 0 ≤ a) (h1 : a ≤ b) (h2 : b ≤ 1000000000000) :
    aMake P t h (.val (.int k a)) (.val (.int k' b)) = some (.ref h.length 0 a.toNat a.toNat, h ++ [⟨e, 1, ints (List.replicate a.toNat 0)⟩]) := by
  rw [make_one (S := S) h0 h1 h2 (by omega)]; simp [ints, ofCell]
theorem make_bool [S : SlT P t e 1 (.bool false)] {k k' : IntKind} {a b : Int} (h0 : 0 ≤ a) (h1 : a ≤ b) (h2 : b ≤ 1000000000000) :
    aMake P t h (.val (.int k a)) (.val (.int k' b)) = some (.ref h.length 0 a.toNat a.toNat, h ++ [⟨e, 1, bools (List.replicate a.toNat false)⟩]) := by
  rw [make_one (S := S) h0 h1 h2 (by omega)]; simp [bools, ofCell]

/-! ### handed over, handed back -/

def aX (h : List AObj) (n off k ext : Nat) (o : Option AObj) : AVal := match o with
  | some o => if o.cells.length = ext then .list false false k (((o.cells.drop off).take (k * o.es)).map (argOf h n)) else .undef
  | none => .undef
theorem argOf_ref (n id off k ext : Nat) : argOf h (n + 1) (.ref id off k ext) = aX h n off k ext h[id]? := by
  simp only [argOf, aX]; cases h[id]? <;> rfl
def rX (h : List AObj) (n off k ext : Nat) (o : Option AObj) : AVal := match o with
  | some o => if o.cells.length = ext then .list true false k (((o.cells.drop off).take (k * o.es)).map (resOf h n)) else .undef
  | none => .undef
theorem resOf_ref (n id off k ext : Nat) : resOf h (n + 1) (.ref id off k ext) = rX h n off k ext h[id]? := by
  simp only [resOf, rX]; cases h[id]? <;> rfl
theorem aX_ints {n k ext ty : Nat} {l : List Int} (hk : k = l.length) (he : ext = l.length) : aX h (n + 1) 0 k ext (some ⟨ty, 1, ints l⟩) = .list false false l.length (ints l) := by
  subst hk; subst he
  simp [aX, ints_length, ints_arg, List.take_of_length_le]
theorem rX_ints {n k ext ty : Nat} {l : List Int} (hk : k = l.length) (he : ext = l.length) : rX h (n + 1) 0 k ext (some ⟨ty, 1, ints l⟩) = .list true false l.length (ints l) := by
  subst hk; subst he
  simp [rX, ints_length, ints_res, List.take_of_length_le]
theorem aX_bools {n k ext ty : Nat} {l : List Bool} (hk : k = l.length) (he : ext = l.length) : aX h (n + 1) 0 k ext (some ⟨ty, 1, bools l⟩) = .list false false l.length (bools l) := by
  subst hk; subst he
  simp [aX, bools_length, bools_arg, List.take_of_length_le]
theorem rX_bools {n k ext ty : Nat} {l : List Bool} (hk : k = l.length) (he : ext = l.length) : rX h (n + 1) 0 k ext (some ⟨ty, 1, bools l⟩) = .list true false l.length (bools l) := by
  subst hk; subst he
  simp [rX, bools_length, bools_res, List.take_of_length_le]
def gaA (h : List AObj) (n : Nat) (b : Bool) (xs : List AVal) (o : Option AObj) : AVal := match xs with
  | [] => .list false b 0 []
  | _ :: _ => aX h n 0 xs.length xs.length o
theorem argOf_gw (n k : Nat) (b : Bool) (xs : List AVal) : argOf h (n + 1) (gw b k xs) = gaA h n b xs h[k]? := by
  cases xs <;> cases b <;> first | rfl | (simp only [gw, argOf_ref, gaA])
theorem gaA_go (n : Nat) (b : Bool) (e : TypeId) (xs : List AVal) : gaA h n b xs (some (go e xs)) = .list false (b && xs.isEmpty) xs.length (xs.map (argOf h n)) := by
  cases xs <;> simp [gaA, go, aX]
def gaR (h : List AObj) (n : Nat) (b : Bool) (xs : List AVal) (o : Option AObj) : AVal := match xs with
  | [] => .list true b 0 []
  | _ :: _ => rX h n 0 xs.length xs.length o
theorem resOf_gw (n k : Nat) (b : Bool) (xs : List AVal) : resOf h (n + 1) (gw b k xs) = gaR h n b xs h[k]? := by
  cases xs <;> cases b <;> first | rfl | (simp only [gw, resOf_ref, gaR])
theorem gaR_go (n : Nat) (b : Bool) (e : TypeId) (xs : List AVal) : gaR h n b xs (some (go e xs)) = .list true (b && xs.isEmpty) xs.length (xs.map (resOf h n)) := by
  cases xs <;> simp [gaR, go, rX]
def apX (h : List AObj) (n off ext : Nat) (o : Option AObj) : AVal := match o with
  | some o => if o.cells.length = ext then .spot false ((o.cells.drop off).map (argOf h n)) else .undef
  | none => .undef
theorem argOf_ptr (n id off ext : Nat) : argOf h (n + 1) (.ptr id off ext) = apX h n off ext h[id]? := by
  simp only [argOf, apX]; cases h[id]? <;> rfl
theorem apX_mk (n off ext ty es : Nat) (cs : List AVal) : apX h n off ext (some ⟨ty, es, cs⟩) = if cs.length = ext then .spot false ((cs.drop off).map (argOf h n)) else .undef := _root_.id rfl
theorem argOf_int (n : Nat) (k : IntKind) (x : Int) : argOf h (n + 1) (.val (.int k x)) = .val (.int k x) := _root_.id rfl
theorem argOf_val (n : Nat) (x : Value) : argOf h (n + 1) (.val x) = .val x := _root_.id rfl
theorem argOf_cap0 (n : Nat) (b : Bool) : argOf h (n + 1) (.cap0 b) = .list false b 0 [] := _root_.id rfl
theorem argOf_res (n k : Nat) : argOf h (n + 1) (.res k) = .list false true 0 [] := _root_.id rfl
theorem argOf_lit (n k : Nat) (cs : List AVal) : argOf h (n + 1) (.lit k cs) = .list false false k (cs.map (argOf h n)) := _root_.id rfl
theorem argOf_list (n : Nat) (p b : Bool) (k : Nat) (cs : List AVal) : argOf h (n + 1) (.list p b k cs) = .list false b k (cs.map (argOf h n)) := _root_.id rfl
theorem argOf_spot (n : Nat) (p : Bool) (cs : List AVal) : argOf h (n + 1) (.spot p cs) = .spot false (cs.map (argOf h n)) := _root_.id rfl
theorem argOf_agg (n : Nat) (cs : List AVal) : argOf h (n + 1) (.agg cs) = .agg (cs.map (argOf h n)) := _root_.id rfl
theorem argOf_func (n : Nat) (fn : Fn) (fs cs : List AVal) : argOf h (n + 1) (.func fn fs cs) = .func fn (fs.map (argOf h n)) (cs.map (argOf h n)) := _root_.id rfl
theorem resOf_val (n : Nat) (x : Value) : resOf h (n + 1) (.val x) = .val x := _root_.id rfl
theorem resOf_cap0 (n : Nat) (b : Bool) : resOf h (n + 1) (.cap0 b) = .list true b 0 [] := _root_.id rfl
theorem resOf_res (n k : Nat) : resOf h (n + 1) (.res k) = .list true true 0 [] := _root_.id rfl
theorem resOf_lit (n k : Nat) (cs : List AVal) : resOf h (n + 1) (.lit k cs) = .list true false k (cs.map (resOf h n)) := _root_.id rfl
theorem resOf_list (n : Nat) (p b : Bool) (k : Nat) (cs : List AVal) : resOf h (n + 1) (.list p b k cs) = .list p b k (cs.map (resOf h n)) := _root_.id rfl
theorem resOf_agg (n : Nat) (cs : List AVal) : resOf h (n + 1) (.agg cs) = .agg (cs.map (resOf h n)) := _root_.id rfl
theorem resOf_tuple (n : Nat) (cs : List AVal) : resOf h (n + 1) (.tuple cs) = .tuple (cs.map (resOf h n)) := _root_.id rfl
theorem resOf_func (n : Nat) (fn : Fn) (fs cs : List AVal) : resOf h (n + 1) (.func fn fs cs) = .func fn (fs.map (resOf h n)) (cs.map (resOf h n)) := _root_.id rfl

/-! ### results -/
def rvX (l : List (Option AVal)) : Option AVal := match l with
  | [some x] => some x
  | [some x, some y] => some (.tuple [x, y])
  | [some x, some y, some u] => some (.tuple [x, y, u])
  | [some x, some y, some u, some v] => some (.tuple [x, y, u, v])
  | [some x, some y, some u, some v, some q] => some (.tuple [x, y, u, v, q])
  | [] => some (.tuple [])
  | _ => none
theorem rvX_0 : rvX [] = some (.tuple []) := _root_.id rfl
theorem rvX_1 (x : AVal) : rvX [some x] = some x := _root_.id rfl
theorem rvX_2 (x y : AVal) : rvX [some x, some y] = some (.tuple [x, y]) := _root_.id rfl
theorem rvX_3 (x y u : AVal) : rvX [some x, some y, some u] = some (.tuple [x, y, u]) := _root_.id rfl
theorem rvX_4 (x y u v : AVal) : rvX [some x, some y, some u, some v] = some (.tuple [x, y, u, v]) := _root_.id rfl
theorem rvX_5 (x y u v q : AVal) : rvX [some x, some y, some u, some v, some q] = some (.tuple [x, y, u, v, q]) := _root_.id rfl
def raX (P : Program) (s : ASt) : ResultVar → Option AVal
  | .tmp t => some (look s.env t)
  | .cell a t => (pview s.heap (look s.env a)).bind fun cs => pX (agT P t) cs
theorem raX_eq (s : ASt) (r : ResultVar) : resAt P s r = raX P s r := by
  cases r with
  | tmp t => rfl
  | cell a t =>
    simp only [resAt, raX]
    cases pview s.heap (look s.env a) with
    | none => rfl
    | some cs => simp only [aPart_eq, Option.bind_some]
theorem raX_tmp (s : ASt) (t : Nat) : raX P s (.tmp t) = some (look s.env t) := _root_.id rfl
theorem raX_cell (s : ASt) (a t : Nat) : raX P s (.cell a t) = (pview s.heap (look s.env a)).bind fun cs => pX (agT P t) cs := _root_.id rfl
theorem resVal_0 {fn : Func} {s : ASt} (hf : fn.results = #[]) : resVal P fn s = rvX [] := by simp [resVal, hf, rvX]
theorem resVal_1 {fn : Func} {s : ASt} {a : ResultVar} (hf : fn.results = #[a]) : resVal P fn s = rvX [raX P s a] := by
  simp only [resVal, hf, List.mapM_cons, List.mapM_nil, raX_eq]
  cases raX P s a <;> rfl
theorem resVal_2 {fn : Func} {s : ASt} {a b : ResultVar} (hf : fn.results = #[a, b]) : resVal P fn s = rvX [raX P s a, raX P s b] := by
  simp only [resVal, hf, List.mapM_cons, List.mapM_nil, raX_eq]
  cases raX P s a <;> cases raX P s b <;> rfl
theorem resVal_3 {fn : Func} {s : ASt} {a b c : ResultVar} (hf : fn.results = #[a, b, c]) : resVal P fn s = rvX [raX P s a, raX P s b, raX P s c] := by
  simp only [resVal, hf, List.mapM_cons, List.mapM_nil, raX_eq]
  cases raX P s a <;> cases raX P s b <;> cases raX P s c <;> rfl
theorem resVal_4 {fn : Func} {s : ASt} {a b c d : ResultVar} (hf : fn.results = #[a, b, c, d]) : resVal P fn s = rvX [raX P s a, raX P s b, raX P s c, raX P s d] := by
  simp only [resVal, hf, List.mapM_cons, List.mapM_nil, raX_eq]
  cases raX P s a <;> cases raX P s b <;> cases raX P s c <;> cases raX P s d <;> rfl
theorem resVal_5 {fn : Func} {s : ASt} {a b c d f : ResultVar} (hf : fn.results = #[a, b, c, d, f]) : resVal P fn s = rvX [raX P s a, raX P s b, raX P s c, raX P s d, raX P s f] := by
  simp only [resVal, hf, List.mapM_cons, List.mapM_nil, raX_eq]
  cases raX P s a <;> cases raX P s b <;> cases raX P s c <;> cases raX P s d <;> cases raX P s f <;> rfl

theorem args0_0 : args0 [] = [] := _root_.id rfl
theorem args0_1 (a : AVal) : args0 [a] = [(0, a)] := _root_.id rfl
theorem args0_2 (a b : AVal) : args0 [a, b] = [(0, a), (1, b)] := _root_.id rfl
theorem args0_3 (a b c : AVal) : args0 [a, b, c] = [(0, a), (1, b), (2, c)] := _root_.id rfl
theorem args0_4 (a b c d : AVal) : args0 [a, b, c, d] = [(0, a), (1, b), (2, c), (3, d)] := _root_.id rfl
theorem args0_5 (a b c d f : AVal) : args0 [a, b, c, d, f] = [(0, a), (1, b), (2, c), (3, d), (4, f)] := _root_.id rfl
theorem args0_6 (a b c d f g : AVal) : args0 [a, b, c, d, f, g] = [(0, a), (1, b), (2, c), (3, d), (4, f), (5, g)] := _root_.id rfl

theorem eql_nil [S : SlT P t e nb z] (x : AVal) : aBin P t .eql x (.cap0 true) = (nilB x).map B := by
  obtain ⟨⟨T, hT, hTe⟩, _⟩ := S
  cases x <;> simp [aBin, hT, hTe, nilB]
theorem neq_nil [S : SlT P t e nb z] (x : AVal) : aBin P t .neq x (.cap0 true) = (nilB x).map fun b => B (!b) := by
  obtain ⟨⟨T, hT, hTe⟩, _⟩ := S
  cases x <;> simp [aBin, hT, hTe, nilB]
theorem nilB_list (p b : Bool) (n : Nat) (cs : List AVal) : nilB (.list p b n cs) = some b := _root_.id rfl
theorem nilB_cap0 (b : Bool) : nilB (.cap0 b) = some b := _root_.id rfl
theorem nilB_res (k : Nat) : nilB (.res k) = some true := _root_.id rfl
theorem nilB_ref (id off n ext : Nat) : nilB (.ref id off n ext) = some false := _root_.id rfl
theorem nilB_lit (n : Nat) (cs : List AVal) : nilB (.lit n cs) = some false := _root_.id rfl

theorem slice_hi [S : SlT P t e nb z] {p b : Bool} {l : List Int} {n : Nat} {k : IntKind} {c : Int} (hn : n = l.length) (h0 : 0 ≤ c) (h1 : c ≤ n) :
    aSlice P t h (.list p b n (ints l)) none (some (.val (.int k c))) none = some (.list p b (l.take c.toNat).length (ints (l.take c.toNat))) := by
  obtain ⟨⟨T, hT, hTe⟩, E, hE, g1, g2, g3, g4⟩ := S
  subst hn
  simp only [aSlice, hT, hTe, hE, sview_list, optInt]
  rw [if_pos ⟨by omega, h0, h1, by omega⟩]
  simp [g1, ints, List.map_take]
  omega
theorem slice_lo [S : SlT P t e nb z] {p b : Bool} {l : List Int} {n : Nat} {k : IntKind} {c : Int} (hn : n = l.length) (h0 : 0 ≤ c) (h1 : c ≤ n) :
    aSlice P t h (.list p b n (ints l)) (some (.val (.int k c))) none none = some (.list p b (l.drop c.toNat).length (ints (l.drop c.toNat))) := by
  obtain ⟨⟨T, hT, hTe⟩, E, hE, g1, g2, g3, g4⟩ := S
  subst hn
  simp only [aSlice, hT, hTe, hE, sview_list, optInt]
  rw [if_pos ⟨h0, h1, by omega, by omega⟩]
  have : ((l.length : Int) - c).toNat = (l.drop c.toNat).length := by simp; omega
  rw [this, g1]
  simp [ints, List.map_drop]
  rw [List.take_of_length_le (by simp)]

theorem slice_lh [S : SlT P t e nb z] {p b : Bool} {n : Nat} {cs : List AVal} {k k' : IntKind} {lo hi : Int} (h0 : 0 ≤ lo) (h1 : lo ≤ hi) (h2 : hi ≤ n) :
    aSlice P t h (.list p b n cs) (some (.val (.int k lo))) (some (.val (.int k' hi))) none = some (.list p b (hi - lo).toNat ((cs.drop lo.toNat).take (hi - lo).toNat)) := by
  obtain ⟨⟨T, hT, hTe⟩, E, hE, g1, g2, g3, g4⟩ := S
  simp [aSlice, hT, hTe, hE, sview, optInt, g1, h0, h1, h2]
theorem sl_ref_lo [S : SlT P t e nb z] {id off n ext : Nat} {k : IntKind} {c : Int} (h0 : 0 ≤ c) (h1 : c < n) :
    aSlice P t h (.ref id off n ext) (some (.val (.int k c))) none none = (cA h[id]? ext).map fun _ => .ref id (off + c.toNat) (n - c.toNat) ext := by
  obtain ⟨⟨T, hT, hTe⟩, E, hE, g1, g2, g3, g4⟩ := S
  simp only [aSlice, hT, hTe, hE, sview, optInt, g1, cellsAt_eq]
  cases hc : cA h[id]? ext with
  | none => simp
  | some cs =>
    simp only [Option.map_some, Nat.mul_one]
    rw [if_pos ⟨h0, by omega, Int.le_refl _, by rw [g1]; decide⟩, if_neg (by omega)]
    rw [show ((n : Int) - c).toNat = n - c.toNat by omega, g1, Nat.mul_one]
theorem sl_ref_hi [S : SlT P t e nb z] {id off n ext : Nat} {k : IntKind} {c : Int} (h0 : 0 < c) (h1 : c ≤ n) :
    aSlice P t h (.ref id off n ext) none (some (.val (.int k c))) none = (cA h[id]? ext).map fun _ => .ref id off c.toNat ext := by
  obtain ⟨⟨T, hT, hTe⟩, E, hE, g1, g2, g3, g4⟩ := S
  simp only [aSlice, hT, hTe, hE, sview, optInt, g1, cellsAt_eq]
  cases hc : cA h[id]? ext with
  | none => simp
  | some cs =>
    simp only [Option.map_some, Nat.mul_one]
    rw [if_pos ⟨Int.le_refl _, by omega, h1, by rw [g1]; decide⟩, if_neg (by omega)]
    simp

theorem splice_eq (cells : List AVal) (off : Nat) (vs : List AVal) (hl : off + vs.length ≤ cells.length) : splice cells off vs = cells.take off ++ vs ++ cells.drop (off + vs.length) := by
  unfold splice
  split
  · rename_i v
    simp only [List.length_singleton] at hl ⊢
    rw [List.set_eq_take_append_cons_drop, if_pos (by omega)]
    simp
  · rfl
/-- Some of a row, overwritten. -/
def over (l : List Int) (off : Nat) (v : List Int) : List Int := l.take off ++ v ++ l.drop (off + v.length)
theorem over_len (l : List Int) (off : Nat) (v : List Int) (hl : off + v.length ≤ l.length) : (over l off v).length = l.length := by simp [over]; omega
theorem copy_ints_at [S : SlT P t e nb z] {id off n ext m : Nat} {x : AVal} {ty es : Nat} {l l' : List Int} (ho : h[id]? = some ⟨ty, es, ints l'⟩) (hty : ty ≠ 1000003) (hl : l'.length = ext) (hx : sview h x = some (m, ints l)) (hm : m ≤ l.length) (h0 : Nat.min m n ≠ 0) (hfit : off + Nat.min m n ≤ ext) :
    aCopy P t h (.ref id off n ext) x = some (.val (.int .i64 (Nat.min m n)), h.set id ⟨ty, es, ints (over l' off (l.take (Nat.min m n)))⟩) := by
  obtain ⟨⟨T, hT, hTe⟩, E, hE, g1, g2, g3, g4⟩ := S
  have hk : Nat.min m n ≤ l.length := Nat.le_trans (Nat.min_le_left _ _) hm
  have hd : sview h (.ref id off n ext) = some (n, (ints l').drop off) := by
    simp [sview, cellsAt, ho, ints_length, hl]
  have e1 : ((ints l).take (Nat.min m n)).length = Nat.min m n := by rw [List.length_take, ints_length]; omega
  have e2 : ((ints l).take (Nat.min m n)).all AVal.one = true := by rw [ints_take]; exact ints_one _
  simp only [aCopy, hT, hTe, hE, hd, hx, g1, Nat.mul_one, ho]
  rw [if_neg h0, if_pos ⟨hty, by rw [ints_length]; exact hl, e1, hfit, e2⟩]
  rw [splice_eq _ _ _ (by rw [e1, ints_length, hl]; exact hfit), e1]
  congr 4
  simp only [over, ← ints_append, ints_take, ints_drop, List.length_take, Nat.min_eq_left hk]
theorem min_int (k : IntKind) (a b : Int) : aMinMax false [.val (.int k a), .val (.int k b)] = some (.val (.int k (min a b))) := by
  simp only [aMinMax]; rw [Int.min_def]; simp; omega
theorem max_int (k : IntKind) (a b : Int) : aMinMax true [.val (.int k a), .val (.int k b)] = some (.val (.int k (max a b))) := by
  simp only [aMinMax]; rw [Int.max_def]; simp; omega
theorem rem_int (k : IntKind) {a b : Int} (h0 : 0 ≤ a) (h1 : 0 < b) : aInt .rem k a b = some (.val (.int k ((a.toNat % b.toNat : Nat) : Int))) := by
  rw [aInt_rem k a b (by omega), Int.tmod_eq_emod_of_nonneg h0]
  congr 3
  rw [Int.natCast_emod, Int.toNat_of_nonneg h0, Int.toNat_of_nonneg (by omega)]

theorem quo_int {a b : Int} (h0 : 0 ≤ a) (h1 : 0 < b) (h2 : a ≤ 9223372036854775807) : aInt .quo .i64 a b = some (.val (.int .i64 ((a.toNat / b.toNat : Nat) : Int))) := by
  have e : a.tdiv b = ((a.toNat / b.toNat : Nat) : Int) := by
    rw [Int.natCast_ediv, Int.toNat_of_nonneg h0, Int.toNat_of_nonneg (by omega), Int.tdiv_eq_ediv_of_nonneg h0]
  have hle : a.toNat / b.toNat ≤ a.toNat := Nat.div_le_self _ _
  simp only [aInt]
  rw [if_neg (by omega), e]
  generalize a.toNat / b.toNat = q at *
  rw [wrap_id (by omega) (by omega)]

theorem ren_bools {f : Nat → Option Nat} {n : Nat} (l : List Bool) : ∀ x ∈ bools l, ren f (n + 1) x = x := by
  intro x hx; obtain ⟨b, _, rfl⟩ := List.mem_map.1 hx; rfl
theorem ren_ints {f : Nat → Option Nat} {n : Nat} (l : List Int) : ∀ x ∈ ints l, ren f (n + 1) x = x := by
  intro x hx; obtain ⟨b, _, rfl⟩ := List.mem_map.1 hx; rfl
theorem map_ren_bools {f : Nat → Option Nat} {n : Nat} (l : List Bool) : (bools l).map (ren f (n + 1)) = bools l := by simp [bools, ren]
theorem map_ren_ints {f : Nat → Option Nat} {n : Nat} (l : List Int) : (ints l).map (ren f (n + 1)) = ints l := by simp [ints, ren]
theorem ren_val {f : Nat → Option Nat} {n : Nat} (v : Value) : ren f (n + 1) (.val v) = .val v := _root_.id rfl
theorem ren_agg {f : Nat → Option Nat} {n : Nat} (cs : List AVal) : ren f (n + 1) (.agg cs) = .agg (cs.map (ren f n)) := _root_.id rfl
theorem ren_tuple {f : Nat → Option Nat} {n : Nat} (cs : List AVal) : ren f (n + 1) (.tuple cs) = .tuple (cs.map (ren f n)) := _root_.id rfl
theorem ren_list {f : Nat → Option Nat} {n : Nat} (p b : Bool) (k : Nat) (cs : List AVal) : ren f (n + 1) (.list p b k cs) = .list p b k (cs.map (ren f n)) := _root_.id rfl
theorem ren_cap0 {f : Nat → Option Nat} {n : Nat} (b : Bool) : ren f (n + 1) (.cap0 b) = .cap0 b := _root_.id rfl
def rnX (x : Option Nat) (off k ext : Nat) : AVal := match x with | some id => .ref id off k ext | none => .undef
theorem ren_ref {f : Nat → Option Nat} {n : Nat} (id off k ext : Nat) : ren f (n + 1) (.ref id off k ext) = rnX (f id) off k ext := by simp only [ren, rnX] <;> cases f id <;> rfl
theorem rnX_some (id off k ext : Nat) : rnX (some id) off k ext = .ref id off k ext := _root_.id rfl
def rgX (x : Option Nat) (b : Bool) (xs : List AVal) : AVal := match x with | some id => gw b id xs | none => match xs with | [] => .cap0 b | _ :: _ => .undef
theorem ren_gw {f : Nat → Option Nat} {n k : Nat} {b : Bool} (xs : List AVal) : ren f (n + 1) (gw b k xs) = rgX (f k) b xs := by
  cases xs with
  | nil =>
    cases b with
    | true =>
      show ren f (n + 1) (.res k) = _
      simp only [ren, rgX, gw] <;> cases f k <;> rfl
    | false =>
      show ren f (n + 1) (.cap0 false) = _
      simp only [ren, rgX, gw] <;> cases f k <;> rfl
  | cons x xr =>
    simp only [gw, ren, rgX] <;> cases f k <;> rfl
theorem rgX_some (id : Nat) (b : Bool) (xs : List AVal) : rgX (some id) b xs = gw b id xs := _root_.id rfl
theorem ren_spot {f : Nat → Option Nat} {n : Nat} (p : Bool) (cs : List AVal) : ren f (n + 1) (.spot p cs) = .spot p (cs.map (ren f n)) := _root_.id rfl
theorem ren_func {f : Nat → Option Nat} {n : Nat} (fn : Fn) (fs cs : List AVal) : ren f (n + 1) (.func fn fs cs) = .func fn (fs.map (ren f n)) (cs.map (ren f n)) := _root_.id rfl
def rpX (x : Option Nat) (off ext : Nat) : AVal := match x with | some id => .ptr id off ext | none => .undef
theorem ren_ptr {f : Nat → Option Nat} {n : Nat} (id off ext : Nat) : ren f (n + 1) (.ptr id off ext) = rpX (f id) off ext := by simp only [ren, rpX] <;> cases f id <;> rfl
theorem rpX_some (id off ext : Nat) : rpX (some id) off ext = .ptr id off ext := _root_.id rfl
theorem renO_mk {f : Nat → Option Nat} {n ty es : Nat} {cs : List AVal} : renO f n ⟨ty, es, cs⟩ = ⟨ty, es, cs.map (ren f n)⟩ := _root_.id rfl
theorem renO_go {f : Nat → Option Nat} {n e : Nat} {xs : List AVal} : renO f n (go e xs) = go e (xs.map (ren f n)) := by cases xs <;> rfl

theorem gw_pos {b : Bool} {k : Nat} {xs : List AVal} (hx : 0 < xs.length) : gw b k xs = .ref k 0 xs.length xs.length := by
  cases xs with
  | nil => simp at hx
  | cons x xr => rfl
theorem go_pos {e : TypeId} {xs : List AVal} (hx : 0 < xs.length) : go e xs = ⟨e, 1, xs⟩ := by
  cases xs with
  | nil => simp at hx
  | cons x xr => rfl

/-! ### undecided tests -/
theorem condK_by {p a b : Prop} [Decidable p] (h1 : p → a) (h2 : ¬ p → b) : @condK (.val (.bool (decide p))) ⟨a, b⟩ := by
  by_cases h : p <;> simp [condK, h, h1, h2]
theorem condK_eq {x y : Int} {a b : Prop} (h1 : x = y → a) (h2 : x ≠ y → b) : @condK (.val (.bool (x == y))) ⟨a, b⟩ := by
  by_cases h : x = y <;> simp [condK, h] <;> first | exact h1 h | exact h2 h
theorem condK_ne {x y : Int} {a b : Prop} (h1 : x ≠ y → a) (h2 : x = y → b) : @condK (.val (.bool (x != y))) ⟨a, b⟩ := by
  by_cases h : x = y <;> simp [condK, h] <;> first | exact h1 h | exact h2 h
theorem condK_b {x : Bool} {a b : Prop} (h1 : x = true → a) (h2 : x = false → b) : @condK (.val (.bool x)) ⟨a, b⟩ := ⟨h1, h2⟩
theorem guardK_t {p a b : Prop} [Decidable p] (h1 : p → a) (h2 : ¬ p → b) : @guardK (.val (.bool (decide p))) true ⟨a, b⟩ := by
  by_cases h : p <;> simp [guardK, h, h1, h2]
theorem guardK_f {p a b : Prop} [Decidable p] (h1 : ¬ p → a) (h2 : p → b) : @guardK (.val (.bool (decide p))) false ⟨a, b⟩ := by
  by_cases h : p <;> simp [guardK, h, h1, h2]
theorem guardK_eqt {x y : Int} {a b : Prop} (h1 : x = y → a) (h2 : x ≠ y → b) : @guardK (.val (.bool (x == y))) true ⟨a, b⟩ := by
  by_cases h : x = y <;> simp [guardK, h] <;> first | exact h1 h | exact h2 h
theorem guardK_eqf {x y : Int} {a b : Prop} (h1 : x ≠ y → a) (h2 : x = y → b) : @guardK (.val (.bool (x == y))) false ⟨a, b⟩ := by
  by_cases h : x = y <;> simp [guardK, h] <;> first | exact h1 h | exact h2 h
theorem guardK_net {x y : Int} {a b : Prop} (h1 : x ≠ y → a) (h2 : x = y → b) : @guardK (.val (.bool (x != y))) true ⟨a, b⟩ := by
  by_cases h : x = y <;> simp [guardK, h] <;> first | exact h1 h | exact h2 h
theorem guardK_nef {x y : Int} {a b : Prop} (h1 : x = y → a) (h2 : x ≠ y → b) : @guardK (.val (.bool (x != y))) false ⟨a, b⟩ := by
  by_cases h : x = y <;> simp [guardK, h] <;> first | exact h1 h | exact h2 h
theorem okT {p : Prop} [Decidable p] (h : p) : some (B true) = some (B (decide p)) := by simp [h]
theorem okF {p : Prop} [Decidable p] (h : ¬ p) : some (B false) = some (B (decide p)) := by simp [h]
theorem okD {p q : Prop} [Decidable p] [Decidable q] (h : p ↔ q) : some (B (decide p)) = some (B (decide q)) := by simp [h]

end
/-! ### bundles -/
theorem RP : type_of% @awp_skip ∧ type_of% @awp_region_n ∧ type_of% @awp_region_d ∧ type_of% @awp_seq ∧ type_of% @awp_loopK ∧ type_of% @opK_callK ∧ type_of% @awp_cond ∧ type_of% @awp_block ∧ type_of% @awp_exit ∧ type_of% @awp_ret ∧ type_of% @awpList_nil ∧ type_of% @awpList_plain ∧ type_of% @awpList_none ∧ type_of% @awpList_guard ∧ type_of% @awpList_guardN ∧ type_of% @dstAt_zero ∧ type_of% @dstAt_succ ∧ type_of% @opK_move ∧ type_of% @opK_assign ∧ type_of% @opK_binOp ∧ type_of% @opK_pick ∧ type_of% @opK_not ∧ type_of% @opK_convert ∧ type_of% @opK_load ∧ type_of% @opK_indexAddr ∧ type_of% @opK_extract ∧ type_of% @opK_min ∧ type_of% @opK_max ∧ type_of% @opK_append ∧ type_of% @opK_makeSlice ∧ type_of% @opK_store ∧ type_of% @opK_slice ∧ type_of% @opK_alloc ∧ type_of% @opK_box ∧ type_of% @opK_build ∧ type_of% @opK_fieldAddr ∧ type_of% @opK_field ∧ type_of% @opK_makeFunc ∧ type_of% @opK_nilCheck ∧ type_of% @ev_tmp ∧ type_of% @ev_const ∧ type_of% @ev_func ∧ type_of% @look_cons ∧ type_of% @keep_def ∧ type_of% @keepEnv_cons ∧ type_of% @keepEnv_nil ∧ type_of% @opK_len1 ∧ type_of% @opK_lit0 ∧ type_of% @opK_lit1 ∧ type_of% @opK_lit2 ∧ type_of% @opK_lit3 ∧ type_of% @opK_lit4 ∧ type_of% @opK_lit5 ∧ type_of% @opK_lit6 ∧ type_of% @opK_lit7 ∧ type_of% @opK_litM ∧ type_of% @lenM :=
  ⟨@awp_skip, @awp_region_n, @awp_region_d, @awp_seq, @awp_loopK, @opK_callK, @awp_cond, @awp_block, @awp_exit, @awp_ret, @awpList_nil, @awpList_plain, @awpList_none, @awpList_guard, @awpList_guardN, @dstAt_zero, @dstAt_succ, @opK_move, @opK_assign, @opK_binOp, @opK_pick, @opK_not, @opK_convert, @opK_load, @opK_indexAddr, @opK_extract, @opK_min, @opK_max, @opK_append, @opK_makeSlice, @opK_store, @opK_slice, @opK_alloc, @opK_box, @opK_build, @opK_fieldAddr, @opK_field, @opK_makeFunc, @opK_nilCheck, @ev_tmp, @ev_const, @ev_func, @look_cons, @keep_def, @keepEnv_cons, @keepEnv_nil, @opK_len1, @opK_lit0, @opK_lit1, @opK_lit2, @opK_lit3, @opK_lit4, @opK_lit5, @opK_lit6, @opK_lit7, @opK_litM, @lenM⟩
theorem RG : type_of% @bindK_some ∧ type_of% @condK_t ∧ type_of% @condK_f ∧ type_of% @guardK_tt ∧ type_of% @guardK_tf ∧ type_of% @guardK_ft ∧ type_of% @guardK_ff ∧ type_of% @guardK_undef ∧ type_of% @beq_t ∧ type_of% @beq_f ∧ type_of% @bne_t ∧ type_of% @bne_f ∧ type_of% @allOne_nil ∧ type_of% @allOne_int ∧ type_of% @allOne_bool ∧ type_of% @allOne_list ∧ type_of% @ofConst_int ∧ type_of% @ofConst_bool ∧ type_of% @ofConst_nil ∧ type_of% @aBin_int ∧ type_of% @aInt_lss ∧ type_of% @aInt_leq ∧ type_of% @aInt_gtr ∧ type_of% @aInt_geq ∧ type_of% @aInt_eql ∧ type_of% @aInt_neq ∧ type_of% @aInt_add ∧ type_of% @aInt_mul ∧ type_of% @aInt_sub ∧ type_of% @min_int ∧ type_of% @max_int ∧ type_of% @rem_int ∧ type_of% @ldF_false ∧ type_of% @ldF_spot ∧ type_of% @ldF_ptr ∧ type_of% @stF_ptr ∧ type_of% @effS_l ∧ type_of% @effS_D ∧ type_of% @apF_false ∧ type_of% @apF_true ∧ type_of% @effS_f ∧ type_of% @apN_false ∧ type_of% @apN_cap0 ∧ type_of% @apN_lit ∧ type_of% @effS_n ∧ type_of% @cellsAt_eq ∧ type_of% @cA_ints ∧ type_of% @cA_bools ∧ type_of% @cA_1 ∧ type_of% @cA_2 ∧ type_of% @cA_3 ∧ type_of% @cA_4 ∧ type_of% @cA_5 ∧ type_of% @cA_6 ∧ type_of% @cA_7 ∧ type_of% @hAt_app ∧ type_of% @hAt_app0 ∧ type_of% @hSet_app ∧ type_of% @hSet_app0 ∧ type_of% @sview_list ∧ type_of% @sview_lit ∧ type_of% @sview_cap0 ∧ type_of% @sview_ref ∧ type_of% @sview_res ∧ type_of% @sview_gw ∧ type_of% @gS_go ∧ type_of% @cA_go ∧ type_of% @pview_ptr ∧ type_of% @pview_spot ∧ type_of% @fX_spot ∧ type_of% @fX_ptr ∧ type_of% @aPart_eq ∧ type_of% @pX_one ∧ type_of% @pX_agg ∧ type_of% @get_ints ∧ type_of% @get_ints0 ∧ type_of% @get_bools ∧ type_of% @get_bools0 ∧ type_of% @aStore_eq ∧ type_of% @sX_int ∧ type_of% @sX_bool ∧ type_of% @sX_cons ∧ type_of% @splice_1 ∧ type_of% @splice_2 ∧ type_of% @parts_int ∧ type_of% @parts_bool ∧ type_of% @parts_str ∧ type_of% @parts_agg ∧ type_of% @parts_list ∧ type_of% @parts_ref ∧ type_of% @parts_ptr ∧ type_of% @parts_cap0 ∧ type_of% @parts_res ∧ type_of% @parts_lit ∧ type_of% @parts_spot ∧ type_of% @parts_func ∧ type_of% @parts_gw ∧ type_of% @one_int ∧ type_of% @one_bool ∧ type_of% @one_str ∧ type_of% @one_list ∧ type_of% @one_ref ∧ type_of% @one_ptr ∧ type_of% @one_cap0 ∧ type_of% @one_res ∧ type_of% @one_lit ∧ type_of% @one_spot ∧ type_of% @one_func ∧ type_of% @one_gw ∧ type_of% @bX_mk ∧ type_of% @aFill_nil ∧ type_of% @aFill_cons ∧ type_of% @fiX_mk ∧ type_of% @alX_mk ∧ type_of% @boX_mk ∧ type_of% @boF_false ∧ type_of% @boF_mk ∧ type_of% @faX_mk ∧ type_of% @ncX_spot ∧ type_of% @ncX_func ∧ type_of% @ncX_ptr ∧ type_of% @nilB_list ∧ type_of% @nilB_cap0 ∧ type_of% @nilB_res ∧ type_of% @nilB_ref ∧ type_of% @nilB_lit ∧ type_of% @nilB_gw ∧ type_of% @bools_length ∧ type_of% @ints_length ∧ type_of% @wrap_id ∧ type_of% @idx_list_ok ∧ type_of% @idx_lit_ok ∧ type_of% @idx_own ∧ type_of% @idx_gw ∧ type_of% @eql_nil ∧ type_of% @neq_nil ∧ type_of% @slice_hi ∧ type_of% @slice_lo ∧ type_of% @aBin_beq ∧ type_of% @aBin_bne ∧ type_of% @idxM_list ∧ type_of% @idxM_lit ∧ type_of% @eqlAgg ∧ type_of% @neqAgg ∧ type_of% @eqInts_nil ∧ type_of% @eqInts_cons ∧ type_of% @effS_z ∧ type_of% @effS_zc ∧ type_of% @effS_zf ∧ type_of% @stZ_false ∧ type_of% @stZ_true ∧ type_of% @zB_false ∧ type_of% @zB_true :=
  ⟨@bindK_some, @condK_t, @condK_f, @guardK_tt, @guardK_tf, @guardK_ft, @guardK_ff, @guardK_undef, @beq_t, @beq_f, @bne_t, @bne_f, @allOne_nil, @allOne_int, @allOne_bool, @allOne_list, @ofConst_int, @ofConst_bool, @ofConst_nil, @aBin_int, @aInt_lss, @aInt_leq, @aInt_gtr, @aInt_geq, @aInt_eql, @aInt_neq, @aInt_add, @aInt_mul, @aInt_sub, @min_int, @max_int, @rem_int, @ldF_false, @ldF_spot, @ldF_ptr, @stF_ptr, @effS_l, @effS_D, @apF_false, @apF_true, @effS_f, @apN_false, @apN_cap0, @apN_lit, @effS_n, @cellsAt_eq, @cA_ints, @cA_bools, @cA_1, @cA_2, @cA_3, @cA_4, @cA_5, @cA_6, @cA_7, @hAt_app, @hAt_app0, @hSet_app, @hSet_app0, @sview_list, @sview_lit, @sview_cap0, @sview_ref, @sview_res, @sview_gw, @gS_go, @cA_go, @pview_ptr, @pview_spot, @fX_spot, @fX_ptr, @aPart_eq, @pX_one, @pX_agg, @get_ints, @get_ints0, @get_bools, @get_bools0, @aStore_eq, @sX_int, @sX_bool, @sX_cons, @splice_1, @splice_2, @parts_int, @parts_bool, @parts_str, @parts_agg, @parts_list, @parts_ref, @parts_ptr, @parts_cap0, @parts_res, @parts_lit, @parts_spot, @parts_func, @parts_gw, @one_int, @one_bool, @one_str, @one_list, @one_ref, @one_ptr, @one_cap0, @one_res, @one_lit, @one_spot, @one_func, @one_gw, @bX_mk, @aFill_nil, @aFill_cons, @fiX_mk, @alX_mk, @boX_mk, @boF_false, @boF_mk, @faX_mk, @ncX_spot, @ncX_func, @ncX_ptr, @nilB_list, @nilB_cap0, @nilB_res, @nilB_ref, @nilB_lit, @nilB_gw, @bools_length, @ints_length, @wrap_id, @idx_list_ok, @idx_lit_ok, @idx_own, @idx_gw, @eql_nil, @neq_nil, @slice_hi, @slice_lo, @aBin_beq, @aBin_bne, @idxM_list, @idxM_lit, @eqlAgg, @neqAgg, @eqInts_nil, @eqInts_cons, @effS_z, @effS_zc, @effS_zf, @stZ_false, @stZ_true, @zB_false, @zB_true⟩
theorem RA : type_of% @argOf_gw ∧ type_of% @gaA_go ∧ type_of% @argOf_ref ∧ type_of% @aX_ints ∧ type_of% @aX_bools ∧ type_of% @argOf_ptr ∧ type_of% @apX_mk ∧ type_of% @argOf_int ∧ type_of% @argOf_val ∧ type_of% @argOf_cap0 ∧ type_of% @argOf_res ∧ type_of% @argOf_lit ∧ type_of% @argOf_list ∧ type_of% @argOf_spot ∧ type_of% @argOf_agg ∧ type_of% @argOf_func ∧ type_of% @ints_arg ∧ type_of% @bools_arg :=
  ⟨@argOf_gw, @gaA_go, @argOf_ref, @aX_ints, @aX_bools, @argOf_ptr, @apX_mk, @argOf_int, @argOf_val, @argOf_cap0, @argOf_res, @argOf_lit, @argOf_list, @argOf_spot, @argOf_agg, @argOf_func, @ints_arg, @bools_arg⟩
theorem RS : type_of% @raX_tmp ∧ type_of% @raX_cell ∧ type_of% @rvX_0 ∧ type_of% @rvX_1 ∧ type_of% @rvX_2 ∧ type_of% @rvX_3 ∧ type_of% @rvX_4 ∧ type_of% @rvX_5 ∧ type_of% @resOf_gw ∧ type_of% @gaR_go ∧ type_of% @resOf_ref ∧ type_of% @rX_ints ∧ type_of% @rX_bools ∧ type_of% @resOf_val ∧ type_of% @resOf_cap0 ∧ type_of% @resOf_res ∧ type_of% @resOf_lit ∧ type_of% @resOf_list ∧ type_of% @resOf_agg ∧ type_of% @resOf_tuple ∧ type_of% @resOf_func ∧ type_of% @ints_res ∧ type_of% @bools_res :=
  ⟨@raX_tmp, @raX_cell, @rvX_0, @rvX_1, @rvX_2, @rvX_3, @rvX_4, @rvX_5, @resOf_gw, @gaR_go, @resOf_ref, @rX_ints, @rX_bools, @resOf_val, @resOf_cap0, @resOf_res, @resOf_lit, @resOf_list, @resOf_agg, @resOf_tuple, @resOf_func, @ints_res, @bools_res⟩
theorem RK : type_of% @ren_val ∧ type_of% @ren_agg ∧ type_of% @ren_tuple ∧ type_of% @ren_list ∧ type_of% @ren_cap0 ∧ type_of% @ren_ref ∧ type_of% @rnX_some ∧ type_of% @ren_gw ∧ type_of% @rgX_some ∧ type_of% @renO_mk ∧ type_of% @renO_go ∧ type_of% @map_ren_bools ∧ type_of% @map_ren_ints ∧ type_of% @ren_spot ∧ type_of% @ren_func ∧ type_of% @ren_ptr ∧ type_of% @rpX_some ∧ type_of% @keepF_at ∧ type_of% @keepF_at0 ∧ type_of% @keepF_lo :=
  ⟨@ren_val, @ren_agg, @ren_tuple, @ren_list, @ren_cap0, @ren_ref, @rnX_some, @ren_gw, @rgX_some, @renO_mk, @renO_go, @map_ren_bools, @map_ren_ints, @ren_spot, @ren_func, @ren_ptr, @rpX_some, @keepF_at, @keepF_at0, @keepF_lo⟩

end Go.AW

/- From a law's contract to the statement's walk. -/
namespace Go.AW
open Go Go.RowKit

/-- What a law's contract says of a call with values that stand to its arguments. -/
theorem Contract.law {P : Program} {f : FuncId} {args : List AVal} (h : Contract P f args (B true)) (vs : Array Value) (w : World) (hs : vs.size = args.length)
    (hv : ∀ j (hj : j < args.length), VRel (fun b => b < w.heap.size) (fun _ => False) w (fun _ => (0, 0)) (fun _ => none) args[j] (vs.getD j undef)) :
    Calls P f vs w fun e w' => e = .returned (.bool true) ∧ Below w.heap.size w w' := by
  refine (h.2 w (fun b => b < w.heap.size) vs (fun _ h => h) hs hv).mono ?_
  rintro e w' ⟨v, rfl, hv, hb⟩
  cases hv
  exact ⟨rfl, hb⟩

/-- A slice of ints that comes in: its elements, and whether it may be nil. -/
def ArgI (w : World) (v : Value) (b : Bool) (l : List Int) : Prop :=
  (l = [] ∨ b = false) ∧ l.length ≤ 9223372036854775807 ∧ (∀ n ∈ l, -9223372036854775808 ≤ n ∧ n ≤ 9223372036854775807) ∧
  VRel (fun b => b < w.heap.size) (fun _ => False) w (fun _ => (0, 0)) (fun _ => none) (.list false b l.length (ints l)) v

theorem argI {P : Program} {w : World} {b0 len cap : Nat} {t e : TypeId} {a : Option Addr} {zs : List Int} (ht : P.underlying t = some (.slice e)) (hok : Value.okWide P w .any b0 t (.slice a len cap))
    (h : (a = none ∧ len = 0 ∧ cap = 0 ∧ zs = []) ∨ ∃ x, a = some x ∧ len ≤ cap ∧ cap ≤ maxLen ∧ zs.length = cap ∧ (∀ i, i < zs.length → w.cell? (x.add i) = some (.int .i64 (zs.getD i 0))) ∧ ∀ n ∈ zs, (Lit.int .i64 n).wf = true) :
    ∃ b l, ArgI w (.slice a len cap) b l := by
  rcases h with ⟨rfl, rfl, rfl, rfl⟩ | ⟨x, rfl, h1, h2, h3, h4, h5⟩
  · exact ⟨true, [], .inl rfl, by simp, by simp, .nil _⟩
  · have hs : x.spot = none := by
      simp only [Value.okWide, ht, Cell.okWide, Cell.ok] at hok
      exact hok.2.2.2.1
    obtain ⟨xb, xo, xs⟩ := x
    simp only at hs
    subst hs
    have hlen : (zs.take len).length = len := by rw [List.length_take]; omega
    have hcell : ∀ j, j < len → w.cell? ⟨xb, xo + j, none⟩ = some (.int .i64 (zs.getD j 0)) := fun j hj => by
      have := h4 j (by omega)
      unfold Addr.add at this
      split at this
      · rename_i h0; subst h0; exact this
      · exact this
    refine ⟨false, zs.take len, .inr rfl, by rw [hlen]; have : maxLen = 9223372036854775807 := rfl; omega, fun n hn => ?_, ?_⟩
    · have := h5 n (List.mem_of_mem_take hn)
      have e1 : IntKind.min .i64 = -9223372036854775808 := rfl
      have e2 : IntKind.max .i64 = 9223372036854775807 := rfl
      simp only [Lit.wf, e1, e2, Bool.and_eq_true, decide_eq_true_eq] at this
      exact this
    · rw [hlen]
      refine .list false xb xo len cap _ (fun j => .int .i64 (zs.getD j 0)) (fun hne => ?_) (fun h => by cases h) h1 (fun j hj => hcell j (by rw [ints_length, hlen] at hj; exact hj)) (fun j hj => ?_)
      · have hl0 : 0 < len := by
          rw [← hlen]
          cases hz : zs.take len with
          | nil => rw [hz] at hne; exact absurd rfl hne
          | cons => simp
        have := hcell 0 hl0
        unfold World.cell? at this
        split at this
        · rename_i heq
          exact (Array.getElem?_eq_some_iff.1 heq).1
        · cases this
      · rw [ints_length, hlen] at hj
        have : (ints (zs.take len))[j]'(by rw [ints_length, hlen]; exact hj) = I (zs.getD j 0) := by
          simp [ints, List.getD, List.getElem?_eq_getElem (show j < zs.length by omega)]
        rw [this]
        exact .val _

/-- A slice of bools that comes in. -/
def ArgB (w : World) (v : Value) (b : Bool) (l : List Bool) : Prop :=
  (l = [] ∨ b = false) ∧ l.length ≤ 9223372036854775807 ∧
  VRel (fun b => b < w.heap.size) (fun _ => False) w (fun _ => (0, 0)) (fun _ => none) (.list false b l.length (bools l)) v

theorem argB {P : Program} {w : World} {b0 len cap : Nat} {t e : TypeId} {a : Option Addr} {Z : Nat → Bool} (ht : P.underlying t = some (.slice e)) (hok : Cell.okWide P w .any b0 t (.slice a len cap))
    (h : (a = none ∧ len = 0 ∧ cap = 0) ∨ ∃ x, a = some x ∧ len ≤ cap ∧ cap ≤ maxLen ∧ ∀ i, i < cap → w.cell? (x.add i) = some (.bool (Z i))) :
    ∃ b l, ArgB w (.slice a len cap) b l := by
  rcases h with ⟨rfl, rfl, rfl⟩ | ⟨x, rfl, h1, h2, h3⟩
  · exact ⟨true, [], .inl rfl, by simp, .nil _⟩
  · have hs : x.spot = none := by
      simp only [Cell.okWide, ht, Cell.ok] at hok
      exact hok.2.2.2.1
    obtain ⟨xb, xo, xs⟩ := x
    simp only at hs
    subst hs
    have hcell : ∀ j, j < len → w.cell? ⟨xb, xo + j, none⟩ = some (.bool (Z j)) := fun j hj => by
      have := h3 j (by omega)
      unfold Addr.add at this
      split at this
      · rename_i h0; subst h0; exact this
      · exact this
    have hlen : ((List.range len).map Z).length = len := by simp
    refine ⟨false, (List.range len).map Z, .inr rfl, by rw [hlen]; have : maxLen = 9223372036854775807 := rfl; omega, ?_⟩
    rw [hlen]
    refine .list false xb xo len cap _ (fun j => .bool (Z j)) (fun hne => ?_) (fun h => by cases h) h1 (fun j hj => hcell j (by rw [bools_length, hlen] at hj; exact hj)) (fun j hj => ?_)
    · have hl0 : 0 < len := by
        rcases Nat.eq_zero_or_pos len with h0 | h0
        · subst h0; exact absurd rfl hne
        · exact h0
      have := hcell 0 hl0
      unfold World.cell? at this
      split at this
      · rename_i heq
        exact (Array.getElem?_eq_some_iff.1 heq).1
      · cases this
    · rw [bools_length, hlen] at hj
      have : (bools ((List.range len).map Z))[j]'(by rw [bools_length, hlen]; exact hj) = B (Z j) := by simp [bools]
      rw [this]
      exact .val _

theorem wf_bd {n : Int} (h : (Lit.int .i64 n).wf = true) : -9223372036854775808 ≤ n ∧ n ≤ 9223372036854775807 := by
  have e1 : IntKind.min .i64 = -9223372036854775808 := rfl
  have e2 : IntKind.max .i64 = 9223372036854775807 := rfl
  simp only [Lit.wf, e1, e2, Bool.and_eq_true, decide_eq_true_eq] at h
  exact h

section
variable {H : Type} {enc : TypeId × Value → H} {P : Program} {w : World} {base b0 : Nat} {held : Bool}

def isInt (P : Program) (t : TypeId) : Bool := match P.underlying t with | some (.int .i64) => true | _ => false
def isBoo (P : Program) (t : TypeId) : Bool := match P.underlying t with | some .bool => true | _ => false
def slIB (P : Program) (t : TypeId) : Bool := match P.underlying t with | some (.slice e) => isInt P e && P.cellsOf e == 1 | _ => false
def slBB (P : Program) (t : TypeId) : Bool := match P.underlying t with | some (.slice e) => isBoo P e && P.cellsOf e == 1 | _ => false
theorem isInt_some {t : TypeId} (h : isInt P t = true) : P.underlying t = some (.int .i64) := by
  unfold isInt at h; split at h
  · assumption
  · cases h
theorem isBoo_some {t : TypeId} (h : isBoo P t = true) : P.underlying t = some .bool := by
  unfold isBoo at h; split at h
  · assumption
  · cases h

def inI (n : Int) : Prop := -9223372036854775808 ≤ n ∧ n ≤ 9223372036854775807

theorem cell_int {t : TypeId} {c : Value} (ht : isInt P t = true) (hc : Cell.okWide P w .any b0 t c) : ∃ n, c = .int .i64 n ∧ inI n := by
  have hu := isInt_some ht
  unfold Cell.okWide at hc
  rw [hu] at hc
  simp only [Cell.ok, hu] at hc
  cases c <;> simp at hc
  case int k n =>
    obtain ⟨rfl, h1, h2⟩ := hc
    exact ⟨n, rfl, h1, h2⟩
theorem cell_bool {t : TypeId} {c : Value} (ht : isBoo P t = true) (hc : Cell.okWide P w .any b0 t c) : ∃ b, c = .bool b := by
  have hu := isBoo_some ht
  unfold Cell.okWide at hc
  rw [hu] at hc
  simp only [Cell.ok, hu] at hc
  cases c <;> simp at hc
  exact ⟨_, rfl⟩
theorem okV {t e : TypeId} {c : Value} (hu : P.underlying t = some (.slice e)) (hc : Cell.okWide P w .any b0 t c) : Value.okWide P w .any b0 t c := by
  unfold Value.okWide; rw [hu]; exact hc
theorem cell_slI {t : TypeId} {c : Value} {n : Nat} {y : DataW H × List MemPlace} (ht : slIB P t = true) (hc : Cell.okWide P w .any b0 t c) (hr : DataW.trod enc P w base (fun _ => true) held n t [c] = some y) : ∃ b l, ArgI w c b l := by
  unfold slIB at ht
  split at ht
  · rename_i e hu
    simp only [Bool.and_eq_true, beq_iff_eq] at ht
    rcases Go.ChangeShapes.open_ints hu (isInt_some ht.1) ht.2 hr with ⟨hcs, _⟩ | ⟨x, l, cp, zs, hcs, _, hl, hm, hz, _, hcell, hwz⟩
    · simp at hcs; subst hcs
      exact argI hu (okV hu hc) (zs := []) (.inl ⟨rfl, rfl, rfl, rfl⟩)
    · simp at hcs; subst hcs
      exact argI hu (okV hu hc) (zs := zs) (.inr ⟨_, rfl, hl, hm, by simpa using hz, hcell, hwz⟩)
  · cases ht
theorem cell_slB {t : TypeId} {c : Value} {n : Nat} {y : DataW H × List MemPlace} (ht : slBB P t = true) (hc : Cell.okWide P w .any b0 t c) (hr : DataW.trod enc P w base (fun _ => true) held n t [c] = some y) : ∃ b l, ArgB w c b l := by
  unfold slBB at ht
  split at ht
  · rename_i e hu
    simp only [Bool.and_eq_true, beq_iff_eq] at ht
    rcases Go.Deep.open_bools hu (isBoo_some ht.1) ht.2 hr with ⟨hcs, _⟩ | ⟨x, l, cp, Z, hcs, _, hl, hm, _, hcell⟩
    · simp at hcs; subst hcs
      exact argB (Z := fun _ => false) hu hc (.inl ⟨rfl, rfl, rfl⟩)
    · simp at hcs; subst hcs
      exact argB (Z := Z) hu hc (.inr ⟨_, rfl, hl, hm, hcell⟩)
  · cases ht

theorem slI_open {t : TypeId} {v : Value} {d : DataW H} {ps : List MemPlace} (ht : slIB P t = true) (hv : Value.okWide P w .any b0 t v) (hr : DataW.Trod enc P w base (fun _ => true) held t v d ps) : ∃ b l, ArgI w v b l := by
  have ht' := ht
  unfold slIB at ht'
  split at ht'
  · rename_i e hu
    have hc : Cell.okWide P w .any b0 t v := by unfold Value.okWide at hv; rw [hu] at hv; exact hv
    obtain ⟨fuel, hf⟩ := hr
    have hcs : v.cells.toList = [v] := by
      unfold Cell.okWide at hc
      rw [hu] at hc
      simp only [Cell.ok, hu] at hc
      cases v <;> simp at hc <;> rfl
    rw [hcs] at hf
    exact cell_slI ht hc hf
  · cases ht'
theorem slB_open {t : TypeId} {v : Value} {d : DataW H} {ps : List MemPlace} (ht : slBB P t = true) (hv : Value.okWide P w .any b0 t v) (hr : DataW.Trod enc P w base (fun _ => true) held t v d ps) : ∃ b l, ArgB w v b l := by
  have ht' := ht
  unfold slBB at ht'
  split at ht'
  · rename_i e hu
    have hc : Cell.okWide P w .any b0 t v := by unfold Value.okWide at hv; rw [hu] at hv; exact hv
    obtain ⟨fuel, hf⟩ := hr
    have hcs : v.cells.toList = [v] := by
      unfold Cell.okWide at hc
      rw [hu] at hc
      simp only [Cell.ok, hu] at hc
      cases v <;> simp at hc <;> rfl
    rw [hcs] at hf
    exact cell_slB ht hc hf
  · cases ht'

theorem st_open {t : TypeId} {fs : Array Field} {ts : List TypeId} {v : Value} (hu : P.underlying t = some (.struct fs)) (hct : P.cellTypes P.depth t = some ts) (hv : Value.okWide P w .any b0 t v) :
    ∃ cs, v = .agg cs ∧ cs.size = P.cellsOf t ∧ ∀ (i : Nat) (u : TypeId) (c : Value), ts[i]? = some u → cs[i]? = some c → Cell.okWide P w .any b0 u c := by
  unfold Value.okWide at hv
  rw [hu] at hv
  obtain ⟨cs, rfl, hs, ts', h1, _, h3⟩ := hv
  rw [hct] at h1; cases h1
  refine ⟨cs, rfl, hs, fun i u c hi hc => ?_⟩
  have hlt := (List.getElem?_eq_some_iff.1 hi).1
  obtain ⟨u', h4, h5⟩ := h3 i c hc
  rw [Nat.mod_eq_of_lt hlt, hi] at h4; cases h4
  exact h5

/-- A type of grids: two ints, a slice of bools. -/
def gridB (P : Program) (t : TypeId) : Bool := match P.underlying t with
  | some (.struct fs) => match fs.toList with
    | [f0, f1, f2] => isInt P f0.type && isInt P f1.type && slBB P f2.type && f2.offset == 2 && P.cellsOf f2.type == 1 && P.cellsOf t == 3 && decide (P.cellTypes P.depth t = some [f0.type, f1.type, f2.type])
    | _ => false
  | _ => false

/-- A grid that comes in. -/
def ArgG (w : World) (v : Value) (wd hg : Int) (b : Bool) (l : List Bool) : Prop :=
  inI wd ∧ inI hg ∧ l.length ≤ 9223372036854775807 ∧ VRel (fun b => b < w.heap.size) (fun _ => False) w (fun _ => (0, 0)) (fun _ => none) (.agg [I wd, I hg, .list false b l.length (bools l)]) v

theorem grid_read {t : TypeId} (ht : gridB P t = true) : ∃ f0 f1 f2, P.underlying t = some (.struct #[f0, f1, f2]) ∧ isInt P f0.type = true ∧ isInt P f1.type = true ∧ slBB P f2.type = true ∧ f2.offset = 2 ∧ P.cellsOf f2.type = 1 ∧ P.cellsOf t = 3 ∧ P.cellTypes P.depth t = some [f0.type, f1.type, f2.type] := by
  unfold gridB at ht
  split at ht
  · rename_i fs hu
    split at ht
    · rename_i f0 f1 f2 hl
      simp only [Bool.and_eq_true, beq_iff_eq, decide_eq_true_eq] at ht
      obtain ⟨⟨⟨⟨⟨⟨a1, a2⟩, a3⟩, a4⟩, a5⟩, a6⟩, a7⟩ := ht
      refine ⟨f0, f1, f2, ?_, a1, a2, a3, a4, a5, a6, a7⟩
      rw [hu]; congr 2
      rw [← Array.toArray_toList (xs := fs), hl]
    · cases ht
  · cases ht

theorem arr3 {cs : Array Value} (h : cs.size = 3) : ∃ a b c, cs = #[a, b, c] := by
  obtain ⟨l⟩ := cs
  match l, h with
  | [a, b, c], _ => exact ⟨a, b, c, rfl⟩
theorem arr7 {cs : Array Value} (h : cs.size = 7) : ∃ a b c d e f g, cs = #[a, b, c, d, e, f, g] := by
  obtain ⟨l⟩ := cs
  match l, h with
  | [a, b, c, d, e, f, g], _ => exact ⟨a, b, c, d, e, f, g, rfl⟩

theorem grid_open {t : TypeId} {v : Value} {d : DataW H} {ps : List MemPlace} (ht : gridB P t = true) (hv : Value.okWide P w .any b0 t v) (hr : DataW.Trod enc P w base (fun _ => true) held t v d ps) : ∃ wd hg b l, ArgG w v wd hg b l := by
  obtain ⟨f0, f1, f2, hu, a1, a2, a3, a4, a5, a6, a7⟩ := grid_read ht
  obtain ⟨cs, rfl, hs, hc⟩ := st_open hu a7 hv
  obtain ⟨c0, c1, c2, rfl⟩ := arr3 (hs.trans a6)
  obtain ⟨n0, rfl, i0⟩ := cell_int a1 (hc 0 _ _ rfl rfl)
  obtain ⟨n1, rfl, i1⟩ := cell_int a2 (hc 1 _ _ rfl rfl)
  obtain ⟨fuel, hf⟩ := hr
  obtain ⟨xs, n, _, _, _, _, hfl⟩ := DataW.trod_struct hu hf
  have h2 := hfl 2 f2 rfl
  simp only [Value.cells, a4, a5] at h2
  have hxs : ∃ y, xs[2]? = some y := by
    rename_i hlen
    exact ⟨xs[2]'(by rw [hlen]; simp), by simp⟩
  obtain ⟨y, hy⟩ := hxs
  rw [hy] at h2
  obtain ⟨b, l, hb, hl, hrel⟩ := cell_slB a3 (hc 2 _ _ rfl rfl) (by simpa using h2)
  refine ⟨n0, n1, b, l, i0, i1, hl, .agg _ _ rfl fun j hj => ?_⟩
  match j, hj with
  | 0, _ => exact .val _
  | 1, _ => exact .val _
  | 2, _ => exact hrel

/-- A type of drafts: two ints, two slices of ints, a grid. -/
def draftB (P : Program) (t : TypeId) : Bool := match P.underlying t with
  | some (.struct fs) => match fs.toList with
    | [f0, f1, f2, f3, f4] => isInt P f0.type && isInt P f1.type && slIB P f2.type && f2.offset == 2 && P.cellsOf f2.type == 1 && slIB P f3.type && f3.offset == 3 && P.cellsOf f3.type == 1 && gridB P f4.type && f4.offset == 4 && P.cellsOf t == 7 &&
      (match P.cellTypes P.depth f4.type with | some [g0, g1, g2] => decide (P.cellTypes P.depth t = some [f0.type, f1.type, f2.type, f3.type, g0, g1, g2]) | _ => false)
    | _ => false
  | _ => false

/-- A draft that comes in. -/
def ArgD (w : World) (v : Value) (s t : Int) (b1 : Bool) (th : List Int) (b2 : Bool) (td : List Int) (wd hg : Int) (b3 : Bool) (l : List Bool) : Prop :=
  inI s ∧ inI t ∧ inI wd ∧ inI hg ∧ (∀ n ∈ th, inI n) ∧ (∀ n ∈ td, inI n) ∧ th.length ≤ 9223372036854775807 ∧ td.length ≤ 9223372036854775807 ∧ l.length ≤ 9223372036854775807 ∧
  VRel (fun b => b < w.heap.size) (fun _ => False) w (fun _ => (0, 0)) (fun _ => none) (.agg [I s, I t, .list false b1 th.length (ints th), .list false b2 td.length (ints td), I wd, I hg, .list false b3 l.length (bools l)]) v

theorem draft_open {t : TypeId} {v : Value} {d : DataW H} {ps : List MemPlace} (ht : draftB P t = true) (hv : Value.okWide P w .any b0 t v) (hr : DataW.Trod enc P w base (fun _ => true) held t v d ps) : ∃ s t b1 th b2 td wd hg b3 l, ArgD w v s t b1 th b2 td wd hg b3 l := by
  unfold draftB at ht
  split at ht
  · rename_i fs hu
    split at ht
    · rename_i f0 f1 f2 f3 f4 hl
      simp only [Bool.and_eq_true, beq_iff_eq] at ht
      obtain ⟨⟨⟨⟨⟨⟨⟨⟨⟨⟨⟨a1, a2⟩, a3⟩, a4⟩, a5⟩, a6⟩, a7⟩, a8⟩, a9⟩, a10⟩, a11⟩, a12⟩ := ht
      split at a12
      · rename_i g0 g1 g2 hg
        simp only [decide_eq_true_eq] at a12
        obtain ⟨k0, k1, k2, hgu, b1, b2, b3, b4, b5, b6, b7⟩ := grid_read a9
        rw [hg] at b7
        simp only [Option.some.injEq, List.cons.injEq, and_true] at b7
        obtain ⟨rfl, rfl, rfl⟩ := b7
        have hfs : fs = #[f0, f1, f2, f3, f4] := by rw [← Array.toArray_toList (xs := fs), hl]
        subst hfs
        obtain ⟨cs, rfl, hs, hc⟩ := st_open hu a12 hv
        obtain ⟨c0, c1, c2, c3, c4, c5, c6, rfl⟩ := arr7 (hs.trans a11)
        obtain ⟨n0, rfl, i0⟩ := cell_int a1 (hc 0 _ _ rfl rfl)
        obtain ⟨n1, rfl, i1⟩ := cell_int a2 (hc 1 _ _ rfl rfl)
        obtain ⟨n4, rfl, i4⟩ := cell_int b1 (hc 4 _ _ rfl rfl)
        obtain ⟨n5, rfl, i5⟩ := cell_int b2 (hc 5 _ _ rfl rfl)
        obtain ⟨fuel, hf⟩ := hr
        obtain ⟨xs, n, _, _, _, hlen, hfl⟩ := DataW.trod_struct hu hf
        have get : ∀ k, k < 5 → ∃ y, xs[k]? = some y := fun k hk => ⟨xs[k]'(by rw [hlen]; exact hk), by simp⟩
        have h2 := hfl 2 f2 rfl
        have h3 := hfl 3 f3 rfl
        have h4 := hfl 4 f4 rfl
        simp only [Value.cells, a4, a5, a7, a8, a10, b6] at h2 h3 h4
        obtain ⟨y2, hy2⟩ := get 2 (by omega)
        obtain ⟨y3, hy3⟩ := get 3 (by omega)
        obtain ⟨y4, hy4⟩ := get 4 (by omega)
        rw [hy2] at h2
        rw [hy3] at h3
        rw [hy4] at h4
        obtain ⟨xs', n', _, _, _, hlen', hfl'⟩ := DataW.trod_struct hgu h4
        have h6 := hfl' 2 k2 rfl
        simp only [b4, b5] at h6
        have hy6 : xs'[2]? = some (xs'[2]'(by rw [hlen']; simp)) := by simp
        rw [hy6] at h6
        obtain ⟨p2, l2, _, q2, r2, hrel2⟩ := cell_slI a3 (hc 2 _ _ rfl rfl) (by simpa using h2)
        obtain ⟨p3, l3, _, q3, r3, hrel3⟩ := cell_slI a6 (hc 3 _ _ rfl rfl) (by simpa using h3)
        obtain ⟨p6, l6, _, q6, hrel6⟩ := cell_slB b3 (hc 6 _ _ rfl rfl) (by simpa using h6)
        refine ⟨n0, n1, p2, l2, p3, l3, n4, n5, p6, l6, i0, i1, i4, i5, r2, r3, q2, q3, q6, .agg _ _ rfl fun j hj => ?_⟩
        match j, hj with
        | 0, _ => exact .val _
        | 1, _ => exact .val _
        | 2, _ => exact hrel2
        | 3, _ => exact hrel3
        | 4, _ => exact .val _
        | 5, _ => exact .val _
        | 6, _ => exact hrel6
      · cases a12
    · cases ht
  · cases ht
end

end Go.AW
